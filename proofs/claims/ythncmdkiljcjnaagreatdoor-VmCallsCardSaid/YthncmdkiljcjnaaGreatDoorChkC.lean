import Derived.Test.YthncmdkiljcjnaaGreatDoorAmF
import Derived.Test.YthncmdkiljcjnaaGreatDoorCodeT
import Derived.Test.YthncmdkiljcjnaaGreatDoorProg
import Derived.KernelRfl
set_option linter.all false
set_option maxRecDepth 100000
namespace Go.Am
open Go
theorem ok5 : chkFn Go.Proofs.Tryz.prog (chkD Go.Proofs.Tryz.prog) 5 fn5 = true := by kernel_rfl
theorem ok9 : chkFn Go.Proofs.Tryz.prog (chkD Go.Proofs.Tryz.prog) 9 fn9 = true := by kernel_rfl
theorem ok13 : chkFn Go.Proofs.Tryz.prog (chkD Go.Proofs.Tryz.prog) 13 fn13 = true := by kernel_rfl
theorem ok17 : chkFn Go.Proofs.Tryz.prog (chkD Go.Proofs.Tryz.prog) 17 fn17 = true := by kernel_rfl
theorem ok21 : chkFn Go.Proofs.Tryz.prog (chkD Go.Proofs.Tryz.prog) 21 fn21 = true := by kernel_rfl
theorem ok25 : chkFn Go.Proofs.Tryz.prog (chkD Go.Proofs.Tryz.prog) 25 fn25 = true := by kernel_rfl
theorem ok29 : chkFn Go.Proofs.Tryz.prog (chkD Go.Proofs.Tryz.prog) 29 fn29 = true := by kernel_rfl
theorem ok34 : chkFn Go.Proofs.Tryz.prog (chkD Go.Proofs.Tryz.prog) 34 fn34 = true := by kernel_rfl
theorem ok38 : chkFn Go.Proofs.Tryz.prog (chkD Go.Proofs.Tryz.prog) 38 fn38 = true := by kernel_rfl
theorem ok42 : chkFn Go.Proofs.Tryz.prog (chkD Go.Proofs.Tryz.prog) 42 fn42 = true := by kernel_rfl
theorem ok46 : chkFn Go.Proofs.Tryz.prog (chkD Go.Proofs.Tryz.prog) 46 fn46 = true := by kernel_rfl
theorem ok50 : chkFn Go.Proofs.Tryz.prog (chkD Go.Proofs.Tryz.prog) 50 fn50 = true := by kernel_rfl
theorem ok54 : chkFn Go.Proofs.Tryz.prog (chkD Go.Proofs.Tryz.prog) 54 fn54 = true := by kernel_rfl
theorem ok58 : chkFn Go.Proofs.Tryz.prog (chkD Go.Proofs.Tryz.prog) 58 fn58 = true := by kernel_rfl
theorem ok62 : chkFn Go.Proofs.Tryz.prog (chkD Go.Proofs.Tryz.prog) 62 fn62 = true := by kernel_rfl
theorem ok66 : chkFn Go.Proofs.Tryz.prog (chkD Go.Proofs.Tryz.prog) 66 fn66 = true := by kernel_rfl
theorem ok70 : chkFn Go.Proofs.Tryz.prog (chkD Go.Proofs.Tryz.prog) 70 fn70 = true := by kernel_rfl
theorem ok74 : chkFn Go.Proofs.Tryz.prog (chkD Go.Proofs.Tryz.prog) 74 fn74 = true := by kernel_rfl
theorem ok78 : chkFn Go.Proofs.Tryz.prog (chkD Go.Proofs.Tryz.prog) 78 fn78 = true := by kernel_rfl
theorem ok82 : chkFn Go.Proofs.Tryz.prog (chkD Go.Proofs.Tryz.prog) 82 fn82 = true := by kernel_rfl
theorem ok87 : chkFn Go.Proofs.Tryz.prog (chkD Go.Proofs.Tryz.prog) 87 fn87 = true := by kernel_rfl
theorem ok91 : chkFn Go.Proofs.Tryz.prog (chkD Go.Proofs.Tryz.prog) 91 fn91 = true := by kernel_rfl
theorem ok95 : chkFn Go.Proofs.Tryz.prog (chkD Go.Proofs.Tryz.prog) 95 fn95 = true := by kernel_rfl
theorem ok99 : chkFn Go.Proofs.Tryz.prog (chkD Go.Proofs.Tryz.prog) 99 fn99 = true := by kernel_rfl
theorem ok103 : chkFn Go.Proofs.Tryz.prog (chkD Go.Proofs.Tryz.prog) 103 fn103 = true := by kernel_rfl
theorem ok107 : chkFn Go.Proofs.Tryz.prog (chkD Go.Proofs.Tryz.prog) 107 fn107 = true := by kernel_rfl
theorem ok111 : chkFn Go.Proofs.Tryz.prog (chkD Go.Proofs.Tryz.prog) 111 fn111 = true := by kernel_rfl
theorem ok115 : chkFn Go.Proofs.Tryz.prog (chkD Go.Proofs.Tryz.prog) 115 fn115 = true := by kernel_rfl
theorem ok120 : chkFn Go.Proofs.Tryz.prog (chkD Go.Proofs.Tryz.prog) 120 fn120 = true := by kernel_rfl
theorem ok127 : chkFn Go.Proofs.Tryz.prog (chkD Go.Proofs.Tryz.prog) 127 fn127 = true := by kernel_rfl
theorem ok131 : chkFn Go.Proofs.Tryz.prog (chkD Go.Proofs.Tryz.prog) 131 fn131 = true := by kernel_rfl
theorem ok135 : chkFn Go.Proofs.Tryz.prog (chkD Go.Proofs.Tryz.prog) 135 fn135 = true := by kernel_rfl
theorem ok139 : chkFn Go.Proofs.Tryz.prog (chkD Go.Proofs.Tryz.prog) 139 fn139 = true := by kernel_rfl
theorem ok143 : chkFn Go.Proofs.Tryz.prog (chkD Go.Proofs.Tryz.prog) 143 fn143 = true := by kernel_rfl
theorem ok147 : chkFn Go.Proofs.Tryz.prog (chkD Go.Proofs.Tryz.prog) 147 fn147 = true := by kernel_rfl
theorem ok151 : chkFn Go.Proofs.Tryz.prog (chkD Go.Proofs.Tryz.prog) 151 fn151 = true := by kernel_rfl
theorem ok155 : chkFn Go.Proofs.Tryz.prog (chkD Go.Proofs.Tryz.prog) 155 fn155 = true := by kernel_rfl
theorem ok160 : chkFn Go.Proofs.Tryz.prog (chkD Go.Proofs.Tryz.prog) 160 fn160 = true := by kernel_rfl
theorem ok164 : chkFn Go.Proofs.Tryz.prog (chkD Go.Proofs.Tryz.prog) 164 fn164 = true := by kernel_rfl
theorem ok168 : chkFn Go.Proofs.Tryz.prog (chkD Go.Proofs.Tryz.prog) 168 fn168 = true := by kernel_rfl
theorem ok172 : chkFn Go.Proofs.Tryz.prog (chkD Go.Proofs.Tryz.prog) 172 fn172 = true := by kernel_rfl
theorem ok176 : chkFn Go.Proofs.Tryz.prog (chkD Go.Proofs.Tryz.prog) 176 fn176 = true := by kernel_rfl
theorem ok180 : chkFn Go.Proofs.Tryz.prog (chkD Go.Proofs.Tryz.prog) 180 fn180 = true := by kernel_rfl
theorem ok184 : chkFn Go.Proofs.Tryz.prog (chkD Go.Proofs.Tryz.prog) 184 fn184 = true := by kernel_rfl
theorem ok188 : chkFn Go.Proofs.Tryz.prog (chkD Go.Proofs.Tryz.prog) 188 fn188 = true := by kernel_rfl
theorem ok192 : chkFn Go.Proofs.Tryz.prog (chkD Go.Proofs.Tryz.prog) 192 fn192 = true := by kernel_rfl
theorem ok196 : chkFn Go.Proofs.Tryz.prog (chkD Go.Proofs.Tryz.prog) 196 fn196 = true := by kernel_rfl
theorem ok200 : chkFn Go.Proofs.Tryz.prog (chkD Go.Proofs.Tryz.prog) 200 fn200 = true := by kernel_rfl
theorem ok204 : chkFn Go.Proofs.Tryz.prog (chkD Go.Proofs.Tryz.prog) 204 fn204 = true := by kernel_rfl
theorem ok208 : chkFn Go.Proofs.Tryz.prog (chkD Go.Proofs.Tryz.prog) 208 fn208 = true := by kernel_rfl
theorem ok212 : chkFn Go.Proofs.Tryz.prog (chkD Go.Proofs.Tryz.prog) 212 fn212 = true := by kernel_rfl
theorem ok216 : chkFn Go.Proofs.Tryz.prog (chkD Go.Proofs.Tryz.prog) 216 fn216 = true := by kernel_rfl
theorem ok220 : chkFn Go.Proofs.Tryz.prog (chkD Go.Proofs.Tryz.prog) 220 fn220 = true := by kernel_rfl
theorem ok224 : chkFn Go.Proofs.Tryz.prog (chkD Go.Proofs.Tryz.prog) 224 fn224 = true := by kernel_rfl
theorem ok228 : chkFn Go.Proofs.Tryz.prog (chkD Go.Proofs.Tryz.prog) 228 fn228 = true := by kernel_rfl
theorem ok232 : chkFn Go.Proofs.Tryz.prog (chkD Go.Proofs.Tryz.prog) 232 fn232 = true := by kernel_rfl
theorem ok236 : chkFn Go.Proofs.Tryz.prog (chkD Go.Proofs.Tryz.prog) 236 fn236 = true := by kernel_rfl
theorem ok240 : chkFn Go.Proofs.Tryz.prog (chkD Go.Proofs.Tryz.prog) 240 fn240 = true := by kernel_rfl
theorem ok244 : chkFn Go.Proofs.Tryz.prog (chkD Go.Proofs.Tryz.prog) 244 fn244 = true := by kernel_rfl
theorem ok248 : chkFn Go.Proofs.Tryz.prog (chkD Go.Proofs.Tryz.prog) 248 fn248 = true := by kernel_rfl
theorem ok252 : chkFn Go.Proofs.Tryz.prog (chkD Go.Proofs.Tryz.prog) 252 fn252 = true := by kernel_rfl
theorem ok256 : chkFn Go.Proofs.Tryz.prog (chkD Go.Proofs.Tryz.prog) 256 fn256 = true := by kernel_rfl
theorem ok264 : chkFn Go.Proofs.Tryz.prog (chkD Go.Proofs.Tryz.prog) 264 fn264 = true := by kernel_rfl
theorem ok268 : chkFn Go.Proofs.Tryz.prog (chkD Go.Proofs.Tryz.prog) 268 fn268 = true := by kernel_rfl
theorem ok272 : chkFn Go.Proofs.Tryz.prog (chkD Go.Proofs.Tryz.prog) 272 fn272 = true := by kernel_rfl
theorem ok276 : chkFn Go.Proofs.Tryz.prog (chkD Go.Proofs.Tryz.prog) 276 fn276 = true := by kernel_rfl
theorem ok280 : chkFn Go.Proofs.Tryz.prog (chkD Go.Proofs.Tryz.prog) 280 fn280 = true := by kernel_rfl
theorem ok284 : chkFn Go.Proofs.Tryz.prog (chkD Go.Proofs.Tryz.prog) 284 fn284 = true := by kernel_rfl
theorem ok293 : chkFn Go.Proofs.Tryz.prog (chkD Go.Proofs.Tryz.prog) 293 fn293 = true := by kernel_rfl
theorem ok297 : chkFn Go.Proofs.Tryz.prog (chkD Go.Proofs.Tryz.prog) 297 fn297 = true := by kernel_rfl
theorem ok301 : chkFn Go.Proofs.Tryz.prog (chkD Go.Proofs.Tryz.prog) 301 fn301 = true := by kernel_rfl
theorem ok310 : chkFn Go.Proofs.Tryz.prog (chkD Go.Proofs.Tryz.prog) 310 fn310 = true := by kernel_rfl
end Go.Am
