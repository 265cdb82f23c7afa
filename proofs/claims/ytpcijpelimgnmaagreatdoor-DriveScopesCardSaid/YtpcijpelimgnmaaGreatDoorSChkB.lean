import Derived.Test.YtpcijpelimgnmaaGreatDoorAmF
import Derived.Test.YtpcijpelimgnmaaGreatDoorSCodeB
import Derived.Test.YtpcijpelimgnmaaGreatDoorProg
import Derived.KernelRfl
import Derived.Test.YtpcijpelimgnmaaGreatDoorSChkA
set_option linter.all false
set_option maxRecDepth 100000
namespace Go.Am
open Go
theorem ok9 : chkFn Go.Proofs.Tryz.prog (chkD Go.Proofs.Tryz.prog) 9 fn9 = true := by kernel_rfl
theorem ok13 : chkFn Go.Proofs.Tryz.prog (chkD Go.Proofs.Tryz.prog) 13 fn13 = true := by kernel_rfl
theorem ok17 : chkFn Go.Proofs.Tryz.prog (chkD Go.Proofs.Tryz.prog) 17 fn17 = true := by kernel_rfl
theorem ok22 : chkFn Go.Proofs.Tryz.prog (chkD Go.Proofs.Tryz.prog) 22 fn22 = true := by kernel_rfl
theorem ok27 : chkFn Go.Proofs.Tryz.prog (chkD Go.Proofs.Tryz.prog) 27 fn27 = true := by kernel_rfl
theorem ok37 : chkFn Go.Proofs.Tryz.prog (chkD Go.Proofs.Tryz.prog) 37 fn37 = true := by kernel_rfl
theorem ok41 : chkFn Go.Proofs.Tryz.prog (chkD Go.Proofs.Tryz.prog) 41 fn41 = true := by kernel_rfl
theorem ok47 : chkFn Go.Proofs.Tryz.prog (chkD Go.Proofs.Tryz.prog) 47 fn47 = true := by kernel_rfl
theorem ok51 : chkFn Go.Proofs.Tryz.prog (chkD Go.Proofs.Tryz.prog) 51 fn51 = true := by kernel_rfl
theorem ok66 : chkFn Go.Proofs.Tryz.prog (chkD Go.Proofs.Tryz.prog) 66 fn66 = true := by kernel_rfl
theorem ok71 : chkFn Go.Proofs.Tryz.prog (chkD Go.Proofs.Tryz.prog) 71 fn71 = true := by kernel_rfl
theorem ok80 : chkFn Go.Proofs.Tryz.prog (chkD Go.Proofs.Tryz.prog) 80 fn80 = true := by kernel_rfl
theorem ok86 : chkFn Go.Proofs.Tryz.prog (chkD Go.Proofs.Tryz.prog) 86 fn86 = true := by kernel_rfl
theorem ok90 : chkFn Go.Proofs.Tryz.prog (chkD Go.Proofs.Tryz.prog) 90 fn90 = true := by kernel_rfl
theorem ok99 : chkFn Go.Proofs.Tryz.prog (chkD Go.Proofs.Tryz.prog) 99 fn99 = true := by kernel_rfl
theorem ok112 : chkFn Go.Proofs.Tryz.prog (chkD Go.Proofs.Tryz.prog) 112 fn112 = true := by kernel_rfl
theorem ok117 : chkFn Go.Proofs.Tryz.prog (chkD Go.Proofs.Tryz.prog) 117 fn117 = true := by kernel_rfl
theorem ok132 : chkFn Go.Proofs.Tryz.prog (chkD Go.Proofs.Tryz.prog) 132 fn132 = true := by kernel_rfl
theorem ok138 : chkFn Go.Proofs.Tryz.prog (chkD Go.Proofs.Tryz.prog) 138 fn138 = true := by kernel_rfl
theorem ok148 : chkFn Go.Proofs.Tryz.prog (chkD Go.Proofs.Tryz.prog) 148 fn148 = true := by kernel_rfl
theorem ok155 : chkFn Go.Proofs.Tryz.prog (chkD Go.Proofs.Tryz.prog) 155 fn155 = true := by kernel_rfl
theorem ok161 : chkFn Go.Proofs.Tryz.prog (chkD Go.Proofs.Tryz.prog) 161 fn161 = true := by kernel_rfl
theorem ok182 : chkFn Go.Proofs.Tryz.prog (chkD Go.Proofs.Tryz.prog) 182 fn182 = true := by kernel_rfl
theorem ok208 : chkFn Go.Proofs.Tryz.prog (chkD Go.Proofs.Tryz.prog) 208 fn208 = true := by kernel_rfl
theorem ok217 : chkFn Go.Proofs.Tryz.prog (chkD Go.Proofs.Tryz.prog) 217 fn217 = true := by kernel_rfl
theorem ok223 : chkFn Go.Proofs.Tryz.prog (chkD Go.Proofs.Tryz.prog) 223 fn223 = true := by kernel_rfl
theorem ok239 : chkFn Go.Proofs.Tryz.prog (chkD Go.Proofs.Tryz.prog) 239 fn239 = true := by kernel_rfl
theorem ok244 : chkFn Go.Proofs.Tryz.prog (chkD Go.Proofs.Tryz.prog) 244 fn244 = true := by kernel_rfl
theorem ok258 : chkFn Go.Proofs.Tryz.prog (chkD Go.Proofs.Tryz.prog) 258 fn258 = true := by kernel_rfl
theorem ok287 : chkFn Go.Proofs.Tryz.prog (chkD Go.Proofs.Tryz.prog) 287 fn287 = true := by kernel_rfl
theorem ok297 : chkFn Go.Proofs.Tryz.prog (chkD Go.Proofs.Tryz.prog) 297 fn297 = true := by kernel_rfl
end Go.Am
set_option maxRecDepth 100000
namespace Go.Am
open Go
theorem ok10 : chkFn Go.Proofs.Tryz.prog (chkD Go.Proofs.Tryz.prog) 10 fn10 = true := by kernel_rfl
theorem ok14 : chkFn Go.Proofs.Tryz.prog (chkD Go.Proofs.Tryz.prog) 14 fn14 = true := by kernel_rfl
theorem ok18 : chkFn Go.Proofs.Tryz.prog (chkD Go.Proofs.Tryz.prog) 18 fn18 = true := by kernel_rfl
theorem ok23 : chkFn Go.Proofs.Tryz.prog (chkD Go.Proofs.Tryz.prog) 23 fn23 = true := by kernel_rfl
theorem ok28 : chkFn Go.Proofs.Tryz.prog (chkD Go.Proofs.Tryz.prog) 28 fn28 = true := by kernel_rfl
theorem ok38 : chkFn Go.Proofs.Tryz.prog (chkD Go.Proofs.Tryz.prog) 38 fn38 = true := by kernel_rfl
theorem ok42 : chkFn Go.Proofs.Tryz.prog (chkD Go.Proofs.Tryz.prog) 42 fn42 = true := by kernel_rfl
theorem ok48 : chkFn Go.Proofs.Tryz.prog (chkD Go.Proofs.Tryz.prog) 48 fn48 = true := by kernel_rfl
theorem ok57 : chkFn Go.Proofs.Tryz.prog (chkD Go.Proofs.Tryz.prog) 57 fn57 = true := by kernel_rfl
theorem ok67 : chkFn Go.Proofs.Tryz.prog (chkD Go.Proofs.Tryz.prog) 67 fn67 = true := by kernel_rfl
theorem ok72 : chkFn Go.Proofs.Tryz.prog (chkD Go.Proofs.Tryz.prog) 72 fn72 = true := by kernel_rfl
theorem ok81 : chkFn Go.Proofs.Tryz.prog (chkD Go.Proofs.Tryz.prog) 81 fn81 = true := by kernel_rfl
theorem ok87 : chkFn Go.Proofs.Tryz.prog (chkD Go.Proofs.Tryz.prog) 87 fn87 = true := by kernel_rfl
theorem ok91 : chkFn Go.Proofs.Tryz.prog (chkD Go.Proofs.Tryz.prog) 91 fn91 = true := by kernel_rfl
theorem ok109 : chkFn Go.Proofs.Tryz.prog (chkD Go.Proofs.Tryz.prog) 109 fn109 = true := by kernel_rfl
theorem ok114 : chkFn Go.Proofs.Tryz.prog (chkD Go.Proofs.Tryz.prog) 114 fn114 = true := by kernel_rfl
theorem ok129 : chkFn Go.Proofs.Tryz.prog (chkD Go.Proofs.Tryz.prog) 129 fn129 = true := by kernel_rfl
theorem ok133 : chkFn Go.Proofs.Tryz.prog (chkD Go.Proofs.Tryz.prog) 133 fn133 = true := by kernel_rfl
theorem ok140 : chkFn Go.Proofs.Tryz.prog (chkD Go.Proofs.Tryz.prog) 140 fn140 = true := by kernel_rfl
theorem ok152 : chkFn Go.Proofs.Tryz.prog (chkD Go.Proofs.Tryz.prog) 152 fn152 = true := by kernel_rfl
theorem ok158 : chkFn Go.Proofs.Tryz.prog (chkD Go.Proofs.Tryz.prog) 158 fn158 = true := by kernel_rfl
theorem ok162 : chkFn Go.Proofs.Tryz.prog (chkD Go.Proofs.Tryz.prog) 162 fn162 = true := by kernel_rfl
theorem ok184 : chkFn Go.Proofs.Tryz.prog (chkD Go.Proofs.Tryz.prog) 184 fn184 = true := by kernel_rfl
theorem ok213 : chkFn Go.Proofs.Tryz.prog (chkD Go.Proofs.Tryz.prog) 213 fn213 = true := by kernel_rfl
theorem ok219 : chkFn Go.Proofs.Tryz.prog (chkD Go.Proofs.Tryz.prog) 219 fn219 = true := by kernel_rfl
theorem ok225 : chkFn Go.Proofs.Tryz.prog (chkD Go.Proofs.Tryz.prog) 225 fn225 = true := by kernel_rfl
theorem ok240 : chkFn Go.Proofs.Tryz.prog (chkD Go.Proofs.Tryz.prog) 240 fn240 = true := by kernel_rfl
theorem ok245 : chkFn Go.Proofs.Tryz.prog (chkD Go.Proofs.Tryz.prog) 245 fn245 = true := by kernel_rfl
theorem ok266 : chkFn Go.Proofs.Tryz.prog (chkD Go.Proofs.Tryz.prog) 266 fn266 = true := by kernel_rfl
theorem ok292 : chkFn Go.Proofs.Tryz.prog (chkD Go.Proofs.Tryz.prog) 292 fn292 = true := by kernel_rfl
theorem ok300 : chkFn Go.Proofs.Tryz.prog (chkD Go.Proofs.Tryz.prog) 300 fn300 = true := by kernel_rfl
end Go.Am
set_option maxRecDepth 100000
namespace Go.Am
open Go
theorem fnTr_ok : TrAll (fun f af => af.body = .bad ∨ chkFn Go.Proofs.Tryz.prog (chkD Go.Proofs.Tryz.prog) f af = true) 0 1 fnTr :=
  ⟨(.inl rfl),⟨(.inl rfl),⟨(.inl rfl),⟨(.inr ok7),⟨(.inr ok15),⟨(.inl rfl),trivial,⟨(.inl rfl),⟨(.inr ok159),⟨(.inr ok287),trivial,trivial⟩,trivial⟩,⟨(.inr ok223),trivial,trivial⟩⟩⟩,⟨(.inr ok47),⟨(.inr ok79),trivial,trivial⟩,⟨(.inr ok111),trivial,⟨(.inr ok239),trivial,trivial⟩⟩⟩⟩,⟨(.inr ok23),⟨(.inr ok39),⟨(.inr ok71),trivial,trivial⟩,⟨(.inl rfl),⟨(.inl rfl),⟨(.inr ok295),trivial,trivial⟩,trivial⟩,trivial⟩⟩,⟨(.inl rfl),⟨(.inr ok87),trivial,trivial⟩,⟨(.inl rfl),trivial,⟨(.inr ok247),trivial,trivial⟩⟩⟩⟩⟩,⟨(.inr ok11),⟨(.inr ok19),⟨(.inr ok35),⟨(.inr ok67),⟨(.inr ok131),trivial,trivial⟩,trivial⟩,⟨(.inr ok99),⟨(.inr ok163),trivial,trivial⟩,trivial⟩⟩,⟨(.inr ok51),⟨(.inl rfl),⟨(.inr ok147),trivial,trivial⟩,trivial⟩,⟨(.inr ok115),trivial,⟨(.inr ok243),trivial,trivial⟩⟩⟩⟩,⟨(.inr ok27),trivial,⟨(.inl rfl),⟨(.inr ok91),⟨(.inr ok155),⟨(.inr ok283),trivial,trivial⟩,trivial⟩,⟨(.inr ok219),trivial,trivial⟩⟩,trivial⟩⟩⟩⟩,⟨(.inl rfl),⟨(.inr ok9),⟨(.inr ok17),⟨(.inr ok33),⟨(.inr ok65),⟨(.inr ok129),trivial,trivial⟩,trivial⟩,⟨(.inl rfl),⟨(.inr ok161),trivial,trivial⟩,⟨(.inr ok225),trivial,trivial⟩⟩⟩,⟨(.inr ok49),⟨(.inr ok81),trivial,trivial⟩,⟨(.inl rfl),trivial,⟨(.inr ok241),trivial,trivial⟩⟩⟩⟩,⟨(.inl rfl),⟨(.inr ok41),⟨(.inl rfl),⟨(.inr ok137),trivial,trivial⟩,trivial⟩,⟨(.inl rfl),⟨(.inl rfl),⟨(.inr ok297),trivial,trivial⟩,trivial⟩,trivial⟩⟩,⟨(.inr ok57),⟨(.inr ok89),⟨(.inr ok153),trivial,trivial⟩,⟨(.inr ok217),trivial,trivial⟩⟩,⟨(.inl rfl),⟨(.inr ok185),⟨(.inr ok313),trivial,trivial⟩,trivial⟩,trivial⟩⟩⟩⟩,⟨(.inr ok13),⟨(.inr ok21),⟨(.inr ok37),⟨(.inl rfl),⟨(.inr ok133),trivial,trivial⟩,trivial⟩,⟨(.inl rfl),⟨(.inr ok165),trivial,trivial⟩,trivial⟩⟩,⟨(.inl rfl),⟨(.inr ok85),trivial,⟨(.inr ok213),trivial,trivial⟩⟩,⟨(.inr ok117),trivial,⟨(.inr ok245),trivial,trivial⟩⟩⟩⟩,⟨(.inl rfl),⟨(.inr ok45),trivial,⟨(.inr ok109),trivial,trivial⟩⟩,⟨(.inl rfl),⟨(.inr ok93),trivial,⟨(.inr ok221),trivial,trivial⟩⟩,trivial⟩⟩⟩⟩⟩,⟨(.inl rfl),⟨(.inr ok4),⟨(.inl rfl),⟨(.inr ok16),⟨(.inl rfl),⟨(.inr ok64),trivial,trivial⟩,⟨(.inl rfl),⟨(.inr ok160),trivial,trivial⟩,trivial⟩⟩,⟨(.inr ok48),⟨(.inr ok80),trivial,⟨(.inr ok208),trivial,trivial⟩⟩,⟨(.inr ok112),trivial,⟨(.inr ok240),trivial,trivial⟩⟩⟩⟩,⟨(.inr ok24),⟨(.inr ok40),⟨(.inr ok72),⟨(.inr ok136),trivial,trivial⟩,trivial⟩,trivial⟩,⟨(.inl rfl),⟨(.inr ok88),⟨(.inr ok152),trivial,trivial⟩,⟨(.inr ok216),trivial,trivial⟩⟩,⟨(.inl rfl),⟨(.inr ok184),trivial,trivial⟩,trivial⟩⟩⟩⟩,⟨(.inr ok12),⟨(.inl rfl),⟨(.inl rfl),⟨(.inr ok68),⟨(.inr ok132),trivial,trivial⟩,trivial⟩,⟨(.inl rfl),⟨(.inl rfl),⟨(.inr ok292),trivial,trivial⟩,trivial⟩,⟨(.inr ok228),trivial,trivial⟩⟩⟩,⟨(.inl rfl),⟨(.inr ok84),⟨(.inr ok148),trivial,trivial⟩,trivial⟩,⟨(.inr ok116),trivial,⟨(.inr ok244),trivial,trivial⟩⟩⟩⟩,⟨(.inr ok28),⟨(.inl rfl),⟨(.inl rfl),⟨(.inr ok140),⟨(.inr ok268),trivial,trivial⟩,trivial⟩,trivial⟩,⟨(.inl rfl),⟨(.inl rfl),⟨(.inr ok300),trivial,trivial⟩,trivial⟩,trivial⟩⟩,⟨(.inl rfl),⟨(.inr ok92),trivial,⟨(.inr ok220),trivial,trivial⟩⟩,trivial⟩⟩⟩⟩,⟨(.inl rfl),⟨(.inr ok10),⟨(.inr ok18),⟨(.inl rfl),⟨(.inr ok66),⟨(.inr ok130),⟨(.inr ok258),trivial,trivial⟩,trivial⟩,trivial⟩,⟨(.inl rfl),⟨(.inr ok162),trivial,trivial⟩,⟨(.inr ok226),trivial,trivial⟩⟩⟩,⟨(.inr ok50),⟨(.inl rfl),⟨(.inr ok146),trivial,trivial⟩,trivial⟩,⟨(.inr ok114),trivial,trivial⟩⟩⟩,⟨(.inr ok26),⟨(.inr ok42),⟨(.inl rfl),⟨(.inr ok138),⟨(.inr ok266),trivial,trivial⟩,trivial⟩,trivial⟩,trivial⟩,⟨(.inl rfl),⟨(.inr ok90),⟨(.inr ok154),trivial,trivial⟩,trivial⟩,trivial⟩⟩⟩,⟨(.inr ok14),⟨(.inr ok22),⟨(.inr ok38),⟨(.inr ok70),trivial,trivial⟩,⟨(.inl rfl),⟨(.inl rfl),⟨(.inr ok294),trivial,trivial⟩,trivial⟩,trivial⟩⟩,⟨(.inl rfl),⟨(.inr ok86),trivial,⟨(.inr ok214),trivial,trivial⟩⟩,⟨(.inl rfl),⟨(.inr ok182),trivial,trivial⟩,⟨(.inr ok246),trivial,trivial⟩⟩⟩⟩,⟨(.inl rfl),⟨(.inr ok46),⟨(.inr ok78),trivial,⟨(.inr ok206),⟨(.inr ok334),trivial,trivial⟩,trivial⟩⟩,⟨(.inr ok110),trivial,trivial⟩⟩,⟨(.inl rfl),⟨(.inl rfl),⟨(.inr ok158),trivial,trivial⟩,trivial⟩,trivial⟩⟩⟩⟩⟩⟩
theorem fns_ok (E : Env) (h : E.fns = Tr.get fnNo fnTr) : FnsOk Go.Proofs.Tryz.prog E (chkD Go.Proofs.Tryz.prog) := fnsOk_of_tr h rfl fnTr_ok
end Go.Am
