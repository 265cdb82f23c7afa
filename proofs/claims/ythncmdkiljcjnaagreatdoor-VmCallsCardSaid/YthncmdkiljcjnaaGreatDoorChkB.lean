import Derived.Test.YthncmdkiljcjnaaGreatDoorAmF
import Derived.Test.YthncmdkiljcjnaaGreatDoorCodeT
import Derived.Test.YthncmdkiljcjnaaGreatDoorProg
import Derived.KernelRfl
set_option linter.all false
set_option maxRecDepth 100000
namespace Go.Am
open Go
theorem ok4 : chkFn Go.Proofs.Tryz.prog (chkD Go.Proofs.Tryz.prog) 4 fn4 = true := by kernel_rfl
theorem ok8 : chkFn Go.Proofs.Tryz.prog (chkD Go.Proofs.Tryz.prog) 8 fn8 = true := by kernel_rfl
theorem ok12 : chkFn Go.Proofs.Tryz.prog (chkD Go.Proofs.Tryz.prog) 12 fn12 = true := by kernel_rfl
theorem ok16 : chkFn Go.Proofs.Tryz.prog (chkD Go.Proofs.Tryz.prog) 16 fn16 = true := by kernel_rfl
theorem ok20 : chkFn Go.Proofs.Tryz.prog (chkD Go.Proofs.Tryz.prog) 20 fn20 = true := by kernel_rfl
theorem ok24 : chkFn Go.Proofs.Tryz.prog (chkD Go.Proofs.Tryz.prog) 24 fn24 = true := by kernel_rfl
theorem ok28 : chkFn Go.Proofs.Tryz.prog (chkD Go.Proofs.Tryz.prog) 28 fn28 = true := by kernel_rfl
theorem ok33 : chkFn Go.Proofs.Tryz.prog (chkD Go.Proofs.Tryz.prog) 33 fn33 = true := by kernel_rfl
theorem ok37 : chkFn Go.Proofs.Tryz.prog (chkD Go.Proofs.Tryz.prog) 37 fn37 = true := by kernel_rfl
theorem ok41 : chkFn Go.Proofs.Tryz.prog (chkD Go.Proofs.Tryz.prog) 41 fn41 = true := by kernel_rfl
theorem ok45 : chkFn Go.Proofs.Tryz.prog (chkD Go.Proofs.Tryz.prog) 45 fn45 = true := by kernel_rfl
theorem ok49 : chkFn Go.Proofs.Tryz.prog (chkD Go.Proofs.Tryz.prog) 49 fn49 = true := by kernel_rfl
theorem ok53 : chkFn Go.Proofs.Tryz.prog (chkD Go.Proofs.Tryz.prog) 53 fn53 = true := by kernel_rfl
theorem ok57 : chkFn Go.Proofs.Tryz.prog (chkD Go.Proofs.Tryz.prog) 57 fn57 = true := by kernel_rfl
theorem ok61 : chkFn Go.Proofs.Tryz.prog (chkD Go.Proofs.Tryz.prog) 61 fn61 = true := by kernel_rfl
theorem ok65 : chkFn Go.Proofs.Tryz.prog (chkD Go.Proofs.Tryz.prog) 65 fn65 = true := by kernel_rfl
theorem ok69 : chkFn Go.Proofs.Tryz.prog (chkD Go.Proofs.Tryz.prog) 69 fn69 = true := by kernel_rfl
theorem ok73 : chkFn Go.Proofs.Tryz.prog (chkD Go.Proofs.Tryz.prog) 73 fn73 = true := by kernel_rfl
theorem ok77 : chkFn Go.Proofs.Tryz.prog (chkD Go.Proofs.Tryz.prog) 77 fn77 = true := by kernel_rfl
theorem ok81 : chkFn Go.Proofs.Tryz.prog (chkD Go.Proofs.Tryz.prog) 81 fn81 = true := by kernel_rfl
theorem ok86 : chkFn Go.Proofs.Tryz.prog (chkD Go.Proofs.Tryz.prog) 86 fn86 = true := by kernel_rfl
theorem ok90 : chkFn Go.Proofs.Tryz.prog (chkD Go.Proofs.Tryz.prog) 90 fn90 = true := by kernel_rfl
theorem ok94 : chkFn Go.Proofs.Tryz.prog (chkD Go.Proofs.Tryz.prog) 94 fn94 = true := by kernel_rfl
theorem ok98 : chkFn Go.Proofs.Tryz.prog (chkD Go.Proofs.Tryz.prog) 98 fn98 = true := by kernel_rfl
theorem ok102 : chkFn Go.Proofs.Tryz.prog (chkD Go.Proofs.Tryz.prog) 102 fn102 = true := by kernel_rfl
theorem ok106 : chkFn Go.Proofs.Tryz.prog (chkD Go.Proofs.Tryz.prog) 106 fn106 = true := by kernel_rfl
theorem ok110 : chkFn Go.Proofs.Tryz.prog (chkD Go.Proofs.Tryz.prog) 110 fn110 = true := by kernel_rfl
theorem ok114 : chkFn Go.Proofs.Tryz.prog (chkD Go.Proofs.Tryz.prog) 114 fn114 = true := by kernel_rfl
theorem ok118 : chkFn Go.Proofs.Tryz.prog (chkD Go.Proofs.Tryz.prog) 118 fn118 = true := by kernel_rfl
theorem ok126 : chkFn Go.Proofs.Tryz.prog (chkD Go.Proofs.Tryz.prog) 126 fn126 = true := by kernel_rfl
theorem ok130 : chkFn Go.Proofs.Tryz.prog (chkD Go.Proofs.Tryz.prog) 130 fn130 = true := by kernel_rfl
theorem ok134 : chkFn Go.Proofs.Tryz.prog (chkD Go.Proofs.Tryz.prog) 134 fn134 = true := by kernel_rfl
theorem ok138 : chkFn Go.Proofs.Tryz.prog (chkD Go.Proofs.Tryz.prog) 138 fn138 = true := by kernel_rfl
theorem ok142 : chkFn Go.Proofs.Tryz.prog (chkD Go.Proofs.Tryz.prog) 142 fn142 = true := by kernel_rfl
theorem ok146 : chkFn Go.Proofs.Tryz.prog (chkD Go.Proofs.Tryz.prog) 146 fn146 = true := by kernel_rfl
theorem ok150 : chkFn Go.Proofs.Tryz.prog (chkD Go.Proofs.Tryz.prog) 150 fn150 = true := by kernel_rfl
theorem ok154 : chkFn Go.Proofs.Tryz.prog (chkD Go.Proofs.Tryz.prog) 154 fn154 = true := by kernel_rfl
theorem ok159 : chkFn Go.Proofs.Tryz.prog (chkD Go.Proofs.Tryz.prog) 159 fn159 = true := by kernel_rfl
theorem ok163 : chkFn Go.Proofs.Tryz.prog (chkD Go.Proofs.Tryz.prog) 163 fn163 = true := by kernel_rfl
theorem ok167 : chkFn Go.Proofs.Tryz.prog (chkD Go.Proofs.Tryz.prog) 167 fn167 = true := by kernel_rfl
theorem ok171 : chkFn Go.Proofs.Tryz.prog (chkD Go.Proofs.Tryz.prog) 171 fn171 = true := by kernel_rfl
theorem ok175 : chkFn Go.Proofs.Tryz.prog (chkD Go.Proofs.Tryz.prog) 175 fn175 = true := by kernel_rfl
theorem ok179 : chkFn Go.Proofs.Tryz.prog (chkD Go.Proofs.Tryz.prog) 179 fn179 = true := by kernel_rfl
theorem ok183 : chkFn Go.Proofs.Tryz.prog (chkD Go.Proofs.Tryz.prog) 183 fn183 = true := by kernel_rfl
theorem ok187 : chkFn Go.Proofs.Tryz.prog (chkD Go.Proofs.Tryz.prog) 187 fn187 = true := by kernel_rfl
theorem ok191 : chkFn Go.Proofs.Tryz.prog (chkD Go.Proofs.Tryz.prog) 191 fn191 = true := by kernel_rfl
theorem ok195 : chkFn Go.Proofs.Tryz.prog (chkD Go.Proofs.Tryz.prog) 195 fn195 = true := by kernel_rfl
theorem ok199 : chkFn Go.Proofs.Tryz.prog (chkD Go.Proofs.Tryz.prog) 199 fn199 = true := by kernel_rfl
theorem ok203 : chkFn Go.Proofs.Tryz.prog (chkD Go.Proofs.Tryz.prog) 203 fn203 = true := by kernel_rfl
theorem ok207 : chkFn Go.Proofs.Tryz.prog (chkD Go.Proofs.Tryz.prog) 207 fn207 = true := by kernel_rfl
theorem ok211 : chkFn Go.Proofs.Tryz.prog (chkD Go.Proofs.Tryz.prog) 211 fn211 = true := by kernel_rfl
theorem ok215 : chkFn Go.Proofs.Tryz.prog (chkD Go.Proofs.Tryz.prog) 215 fn215 = true := by kernel_rfl
theorem ok219 : chkFn Go.Proofs.Tryz.prog (chkD Go.Proofs.Tryz.prog) 219 fn219 = true := by kernel_rfl
theorem ok223 : chkFn Go.Proofs.Tryz.prog (chkD Go.Proofs.Tryz.prog) 223 fn223 = true := by kernel_rfl
theorem ok227 : chkFn Go.Proofs.Tryz.prog (chkD Go.Proofs.Tryz.prog) 227 fn227 = true := by kernel_rfl
theorem ok231 : chkFn Go.Proofs.Tryz.prog (chkD Go.Proofs.Tryz.prog) 231 fn231 = true := by kernel_rfl
theorem ok235 : chkFn Go.Proofs.Tryz.prog (chkD Go.Proofs.Tryz.prog) 235 fn235 = true := by kernel_rfl
theorem ok239 : chkFn Go.Proofs.Tryz.prog (chkD Go.Proofs.Tryz.prog) 239 fn239 = true := by kernel_rfl
theorem ok243 : chkFn Go.Proofs.Tryz.prog (chkD Go.Proofs.Tryz.prog) 243 fn243 = true := by kernel_rfl
theorem ok247 : chkFn Go.Proofs.Tryz.prog (chkD Go.Proofs.Tryz.prog) 247 fn247 = true := by kernel_rfl
theorem ok251 : chkFn Go.Proofs.Tryz.prog (chkD Go.Proofs.Tryz.prog) 251 fn251 = true := by kernel_rfl
theorem ok255 : chkFn Go.Proofs.Tryz.prog (chkD Go.Proofs.Tryz.prog) 255 fn255 = true := by kernel_rfl
theorem ok263 : chkFn Go.Proofs.Tryz.prog (chkD Go.Proofs.Tryz.prog) 263 fn263 = true := by kernel_rfl
theorem ok267 : chkFn Go.Proofs.Tryz.prog (chkD Go.Proofs.Tryz.prog) 267 fn267 = true := by kernel_rfl
theorem ok271 : chkFn Go.Proofs.Tryz.prog (chkD Go.Proofs.Tryz.prog) 271 fn271 = true := by kernel_rfl
theorem ok275 : chkFn Go.Proofs.Tryz.prog (chkD Go.Proofs.Tryz.prog) 275 fn275 = true := by kernel_rfl
theorem ok279 : chkFn Go.Proofs.Tryz.prog (chkD Go.Proofs.Tryz.prog) 279 fn279 = true := by kernel_rfl
theorem ok283 : chkFn Go.Proofs.Tryz.prog (chkD Go.Proofs.Tryz.prog) 283 fn283 = true := by kernel_rfl
theorem ok292 : chkFn Go.Proofs.Tryz.prog (chkD Go.Proofs.Tryz.prog) 292 fn292 = true := by kernel_rfl
theorem ok296 : chkFn Go.Proofs.Tryz.prog (chkD Go.Proofs.Tryz.prog) 296 fn296 = true := by kernel_rfl
theorem ok300 : chkFn Go.Proofs.Tryz.prog (chkD Go.Proofs.Tryz.prog) 300 fn300 = true := by kernel_rfl
theorem ok304 : chkFn Go.Proofs.Tryz.prog (chkD Go.Proofs.Tryz.prog) 304 fn304 = true := by kernel_rfl
end Go.Am
