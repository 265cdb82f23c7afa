import Derived.Test.YthncmdkiljcjnaaGreatDoorAmF
import Derived.Test.YthncmdkiljcjnaaGreatDoorCodeT
import Derived.Test.YthncmdkiljcjnaaGreatDoorProg
import Derived.KernelRfl
set_option linter.all false
set_option maxRecDepth 100000
namespace Go.Am
open Go
theorem ok6 : chkFn Go.Proofs.Tryz.prog (chkD Go.Proofs.Tryz.prog) 6 fn6 = true := by kernel_rfl
theorem ok10 : chkFn Go.Proofs.Tryz.prog (chkD Go.Proofs.Tryz.prog) 10 fn10 = true := by kernel_rfl
theorem ok14 : chkFn Go.Proofs.Tryz.prog (chkD Go.Proofs.Tryz.prog) 14 fn14 = true := by kernel_rfl
theorem ok18 : chkFn Go.Proofs.Tryz.prog (chkD Go.Proofs.Tryz.prog) 18 fn18 = true := by kernel_rfl
theorem ok22 : chkFn Go.Proofs.Tryz.prog (chkD Go.Proofs.Tryz.prog) 22 fn22 = true := by kernel_rfl
theorem ok26 : chkFn Go.Proofs.Tryz.prog (chkD Go.Proofs.Tryz.prog) 26 fn26 = true := by kernel_rfl
theorem ok30 : chkFn Go.Proofs.Tryz.prog (chkD Go.Proofs.Tryz.prog) 30 fn30 = true := by kernel_rfl
theorem ok35 : chkFn Go.Proofs.Tryz.prog (chkD Go.Proofs.Tryz.prog) 35 fn35 = true := by kernel_rfl
theorem ok39 : chkFn Go.Proofs.Tryz.prog (chkD Go.Proofs.Tryz.prog) 39 fn39 = true := by kernel_rfl
theorem ok43 : chkFn Go.Proofs.Tryz.prog (chkD Go.Proofs.Tryz.prog) 43 fn43 = true := by kernel_rfl
theorem ok47 : chkFn Go.Proofs.Tryz.prog (chkD Go.Proofs.Tryz.prog) 47 fn47 = true := by kernel_rfl
theorem ok51 : chkFn Go.Proofs.Tryz.prog (chkD Go.Proofs.Tryz.prog) 51 fn51 = true := by kernel_rfl
theorem ok55 : chkFn Go.Proofs.Tryz.prog (chkD Go.Proofs.Tryz.prog) 55 fn55 = true := by kernel_rfl
theorem ok59 : chkFn Go.Proofs.Tryz.prog (chkD Go.Proofs.Tryz.prog) 59 fn59 = true := by kernel_rfl
theorem ok63 : chkFn Go.Proofs.Tryz.prog (chkD Go.Proofs.Tryz.prog) 63 fn63 = true := by kernel_rfl
theorem ok67 : chkFn Go.Proofs.Tryz.prog (chkD Go.Proofs.Tryz.prog) 67 fn67 = true := by kernel_rfl
theorem ok71 : chkFn Go.Proofs.Tryz.prog (chkD Go.Proofs.Tryz.prog) 71 fn71 = true := by kernel_rfl
theorem ok75 : chkFn Go.Proofs.Tryz.prog (chkD Go.Proofs.Tryz.prog) 75 fn75 = true := by kernel_rfl
theorem ok79 : chkFn Go.Proofs.Tryz.prog (chkD Go.Proofs.Tryz.prog) 79 fn79 = true := by kernel_rfl
theorem ok83 : chkFn Go.Proofs.Tryz.prog (chkD Go.Proofs.Tryz.prog) 83 fn83 = true := by kernel_rfl
theorem ok88 : chkFn Go.Proofs.Tryz.prog (chkD Go.Proofs.Tryz.prog) 88 fn88 = true := by kernel_rfl
theorem ok92 : chkFn Go.Proofs.Tryz.prog (chkD Go.Proofs.Tryz.prog) 92 fn92 = true := by kernel_rfl
theorem ok96 : chkFn Go.Proofs.Tryz.prog (chkD Go.Proofs.Tryz.prog) 96 fn96 = true := by kernel_rfl
theorem ok100 : chkFn Go.Proofs.Tryz.prog (chkD Go.Proofs.Tryz.prog) 100 fn100 = true := by kernel_rfl
theorem ok104 : chkFn Go.Proofs.Tryz.prog (chkD Go.Proofs.Tryz.prog) 104 fn104 = true := by kernel_rfl
theorem ok108 : chkFn Go.Proofs.Tryz.prog (chkD Go.Proofs.Tryz.prog) 108 fn108 = true := by kernel_rfl
theorem ok112 : chkFn Go.Proofs.Tryz.prog (chkD Go.Proofs.Tryz.prog) 112 fn112 = true := by kernel_rfl
theorem ok116 : chkFn Go.Proofs.Tryz.prog (chkD Go.Proofs.Tryz.prog) 116 fn116 = true := by kernel_rfl
theorem ok124 : chkFn Go.Proofs.Tryz.prog (chkD Go.Proofs.Tryz.prog) 124 fn124 = true := by kernel_rfl
theorem ok128 : chkFn Go.Proofs.Tryz.prog (chkD Go.Proofs.Tryz.prog) 128 fn128 = true := by kernel_rfl
theorem ok132 : chkFn Go.Proofs.Tryz.prog (chkD Go.Proofs.Tryz.prog) 132 fn132 = true := by kernel_rfl
theorem ok136 : chkFn Go.Proofs.Tryz.prog (chkD Go.Proofs.Tryz.prog) 136 fn136 = true := by kernel_rfl
theorem ok140 : chkFn Go.Proofs.Tryz.prog (chkD Go.Proofs.Tryz.prog) 140 fn140 = true := by kernel_rfl
theorem ok144 : chkFn Go.Proofs.Tryz.prog (chkD Go.Proofs.Tryz.prog) 144 fn144 = true := by kernel_rfl
theorem ok148 : chkFn Go.Proofs.Tryz.prog (chkD Go.Proofs.Tryz.prog) 148 fn148 = true := by kernel_rfl
theorem ok152 : chkFn Go.Proofs.Tryz.prog (chkD Go.Proofs.Tryz.prog) 152 fn152 = true := by kernel_rfl
theorem ok157 : chkFn Go.Proofs.Tryz.prog (chkD Go.Proofs.Tryz.prog) 157 fn157 = true := by kernel_rfl
theorem ok161 : chkFn Go.Proofs.Tryz.prog (chkD Go.Proofs.Tryz.prog) 161 fn161 = true := by kernel_rfl
theorem ok165 : chkFn Go.Proofs.Tryz.prog (chkD Go.Proofs.Tryz.prog) 165 fn165 = true := by kernel_rfl
theorem ok169 : chkFn Go.Proofs.Tryz.prog (chkD Go.Proofs.Tryz.prog) 169 fn169 = true := by kernel_rfl
theorem ok173 : chkFn Go.Proofs.Tryz.prog (chkD Go.Proofs.Tryz.prog) 173 fn173 = true := by kernel_rfl
theorem ok177 : chkFn Go.Proofs.Tryz.prog (chkD Go.Proofs.Tryz.prog) 177 fn177 = true := by kernel_rfl
theorem ok181 : chkFn Go.Proofs.Tryz.prog (chkD Go.Proofs.Tryz.prog) 181 fn181 = true := by kernel_rfl
theorem ok185 : chkFn Go.Proofs.Tryz.prog (chkD Go.Proofs.Tryz.prog) 185 fn185 = true := by kernel_rfl
theorem ok189 : chkFn Go.Proofs.Tryz.prog (chkD Go.Proofs.Tryz.prog) 189 fn189 = true := by kernel_rfl
theorem ok193 : chkFn Go.Proofs.Tryz.prog (chkD Go.Proofs.Tryz.prog) 193 fn193 = true := by kernel_rfl
theorem ok197 : chkFn Go.Proofs.Tryz.prog (chkD Go.Proofs.Tryz.prog) 197 fn197 = true := by kernel_rfl
theorem ok201 : chkFn Go.Proofs.Tryz.prog (chkD Go.Proofs.Tryz.prog) 201 fn201 = true := by kernel_rfl
theorem ok205 : chkFn Go.Proofs.Tryz.prog (chkD Go.Proofs.Tryz.prog) 205 fn205 = true := by kernel_rfl
theorem ok209 : chkFn Go.Proofs.Tryz.prog (chkD Go.Proofs.Tryz.prog) 209 fn209 = true := by kernel_rfl
theorem ok213 : chkFn Go.Proofs.Tryz.prog (chkD Go.Proofs.Tryz.prog) 213 fn213 = true := by kernel_rfl
theorem ok217 : chkFn Go.Proofs.Tryz.prog (chkD Go.Proofs.Tryz.prog) 217 fn217 = true := by kernel_rfl
theorem ok221 : chkFn Go.Proofs.Tryz.prog (chkD Go.Proofs.Tryz.prog) 221 fn221 = true := by kernel_rfl
theorem ok225 : chkFn Go.Proofs.Tryz.prog (chkD Go.Proofs.Tryz.prog) 225 fn225 = true := by kernel_rfl
theorem ok229 : chkFn Go.Proofs.Tryz.prog (chkD Go.Proofs.Tryz.prog) 229 fn229 = true := by kernel_rfl
theorem ok233 : chkFn Go.Proofs.Tryz.prog (chkD Go.Proofs.Tryz.prog) 233 fn233 = true := by kernel_rfl
theorem ok237 : chkFn Go.Proofs.Tryz.prog (chkD Go.Proofs.Tryz.prog) 237 fn237 = true := by kernel_rfl
theorem ok241 : chkFn Go.Proofs.Tryz.prog (chkD Go.Proofs.Tryz.prog) 241 fn241 = true := by kernel_rfl
theorem ok245 : chkFn Go.Proofs.Tryz.prog (chkD Go.Proofs.Tryz.prog) 245 fn245 = true := by kernel_rfl
theorem ok249 : chkFn Go.Proofs.Tryz.prog (chkD Go.Proofs.Tryz.prog) 249 fn249 = true := by kernel_rfl
theorem ok253 : chkFn Go.Proofs.Tryz.prog (chkD Go.Proofs.Tryz.prog) 253 fn253 = true := by kernel_rfl
theorem ok257 : chkFn Go.Proofs.Tryz.prog (chkD Go.Proofs.Tryz.prog) 257 fn257 = true := by kernel_rfl
theorem ok265 : chkFn Go.Proofs.Tryz.prog (chkD Go.Proofs.Tryz.prog) 265 fn265 = true := by kernel_rfl
theorem ok269 : chkFn Go.Proofs.Tryz.prog (chkD Go.Proofs.Tryz.prog) 269 fn269 = true := by kernel_rfl
theorem ok273 : chkFn Go.Proofs.Tryz.prog (chkD Go.Proofs.Tryz.prog) 273 fn273 = true := by kernel_rfl
theorem ok277 : chkFn Go.Proofs.Tryz.prog (chkD Go.Proofs.Tryz.prog) 277 fn277 = true := by kernel_rfl
theorem ok281 : chkFn Go.Proofs.Tryz.prog (chkD Go.Proofs.Tryz.prog) 281 fn281 = true := by kernel_rfl
theorem ok290 : chkFn Go.Proofs.Tryz.prog (chkD Go.Proofs.Tryz.prog) 290 fn290 = true := by kernel_rfl
theorem ok294 : chkFn Go.Proofs.Tryz.prog (chkD Go.Proofs.Tryz.prog) 294 fn294 = true := by kernel_rfl
theorem ok298 : chkFn Go.Proofs.Tryz.prog (chkD Go.Proofs.Tryz.prog) 298 fn298 = true := by kernel_rfl
theorem ok302 : chkFn Go.Proofs.Tryz.prog (chkD Go.Proofs.Tryz.prog) 302 fn302 = true := by kernel_rfl
theorem ok311 : chkFn Go.Proofs.Tryz.prog (chkD Go.Proofs.Tryz.prog) 311 fn311 = true := by kernel_rfl
end Go.Am
