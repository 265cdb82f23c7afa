import Derived.Test.YtpcijpelimgnmaaGreatDoorAmF
import Derived.Test.YtpcijpelimgnmaaGreatDoorCCodeB
import Derived.Test.YtpcijpelimgnmaaGreatDoorProg
import Derived.KernelRfl
import Derived.Test.YtpcijpelimgnmaaGreatDoorCChkA
set_option linter.all false
set_option maxRecDepth 100000
namespace Go.Am
open Go
theorem ok7 : chkFn Go.Proofs.Tryz.prog (chkD Go.Proofs.Tryz.prog) 7 fn7 = true := by kernel_rfl
theorem ok12 : chkFn Go.Proofs.Tryz.prog (chkD Go.Proofs.Tryz.prog) 12 fn12 = true := by kernel_rfl
theorem ok17 : chkFn Go.Proofs.Tryz.prog (chkD Go.Proofs.Tryz.prog) 17 fn17 = true := by kernel_rfl
theorem ok22 : chkFn Go.Proofs.Tryz.prog (chkD Go.Proofs.Tryz.prog) 22 fn22 = true := by kernel_rfl
theorem ok27 : chkFn Go.Proofs.Tryz.prog (chkD Go.Proofs.Tryz.prog) 27 fn27 = true := by kernel_rfl
theorem ok37 : chkFn Go.Proofs.Tryz.prog (chkD Go.Proofs.Tryz.prog) 37 fn37 = true := by kernel_rfl
theorem ok42 : chkFn Go.Proofs.Tryz.prog (chkD Go.Proofs.Tryz.prog) 42 fn42 = true := by kernel_rfl
theorem ok48 : chkFn Go.Proofs.Tryz.prog (chkD Go.Proofs.Tryz.prog) 48 fn48 = true := by kernel_rfl
theorem ok52 : chkFn Go.Proofs.Tryz.prog (chkD Go.Proofs.Tryz.prog) 52 fn52 = true := by kernel_rfl
theorem ok66 : chkFn Go.Proofs.Tryz.prog (chkD Go.Proofs.Tryz.prog) 66 fn66 = true := by kernel_rfl
theorem ok71 : chkFn Go.Proofs.Tryz.prog (chkD Go.Proofs.Tryz.prog) 71 fn71 = true := by kernel_rfl
theorem ok80 : chkFn Go.Proofs.Tryz.prog (chkD Go.Proofs.Tryz.prog) 80 fn80 = true := by kernel_rfl
theorem ok86 : chkFn Go.Proofs.Tryz.prog (chkD Go.Proofs.Tryz.prog) 86 fn86 = true := by kernel_rfl
theorem ok90 : chkFn Go.Proofs.Tryz.prog (chkD Go.Proofs.Tryz.prog) 90 fn90 = true := by kernel_rfl
theorem ok94 : chkFn Go.Proofs.Tryz.prog (chkD Go.Proofs.Tryz.prog) 94 fn94 = true := by kernel_rfl
theorem ok98 : chkFn Go.Proofs.Tryz.prog (chkD Go.Proofs.Tryz.prog) 98 fn98 = true := by kernel_rfl
theorem ok111 : chkFn Go.Proofs.Tryz.prog (chkD Go.Proofs.Tryz.prog) 111 fn111 = true := by kernel_rfl
theorem ok116 : chkFn Go.Proofs.Tryz.prog (chkD Go.Proofs.Tryz.prog) 116 fn116 = true := by kernel_rfl
theorem ok131 : chkFn Go.Proofs.Tryz.prog (chkD Go.Proofs.Tryz.prog) 131 fn131 = true := by kernel_rfl
theorem ok137 : chkFn Go.Proofs.Tryz.prog (chkD Go.Proofs.Tryz.prog) 137 fn137 = true := by kernel_rfl
theorem ok147 : chkFn Go.Proofs.Tryz.prog (chkD Go.Proofs.Tryz.prog) 147 fn147 = true := by kernel_rfl
theorem ok154 : chkFn Go.Proofs.Tryz.prog (chkD Go.Proofs.Tryz.prog) 154 fn154 = true := by kernel_rfl
theorem ok163 : chkFn Go.Proofs.Tryz.prog (chkD Go.Proofs.Tryz.prog) 163 fn163 = true := by kernel_rfl
theorem ok184 : chkFn Go.Proofs.Tryz.prog (chkD Go.Proofs.Tryz.prog) 184 fn184 = true := by kernel_rfl
theorem ok213 : chkFn Go.Proofs.Tryz.prog (chkD Go.Proofs.Tryz.prog) 213 fn213 = true := by kernel_rfl
theorem ok219 : chkFn Go.Proofs.Tryz.prog (chkD Go.Proofs.Tryz.prog) 219 fn219 = true := by kernel_rfl
theorem ok225 : chkFn Go.Proofs.Tryz.prog (chkD Go.Proofs.Tryz.prog) 225 fn225 = true := by kernel_rfl
theorem ok240 : chkFn Go.Proofs.Tryz.prog (chkD Go.Proofs.Tryz.prog) 240 fn240 = true := by kernel_rfl
theorem ok246 : chkFn Go.Proofs.Tryz.prog (chkD Go.Proofs.Tryz.prog) 246 fn246 = true := by kernel_rfl
theorem ok268 : chkFn Go.Proofs.Tryz.prog (chkD Go.Proofs.Tryz.prog) 268 fn268 = true := by kernel_rfl
theorem ok294 : chkFn Go.Proofs.Tryz.prog (chkD Go.Proofs.Tryz.prog) 294 fn294 = true := by kernel_rfl
theorem ok313 : chkFn Go.Proofs.Tryz.prog (chkD Go.Proofs.Tryz.prog) 313 fn313 = true := by kernel_rfl
end Go.Am
set_option maxRecDepth 100000
namespace Go.Am
open Go
theorem ok8 : chkFn Go.Proofs.Tryz.prog (chkD Go.Proofs.Tryz.prog) 8 fn8 = true := by kernel_rfl
theorem ok13 : chkFn Go.Proofs.Tryz.prog (chkD Go.Proofs.Tryz.prog) 13 fn13 = true := by kernel_rfl
theorem ok18 : chkFn Go.Proofs.Tryz.prog (chkD Go.Proofs.Tryz.prog) 18 fn18 = true := by kernel_rfl
theorem ok23 : chkFn Go.Proofs.Tryz.prog (chkD Go.Proofs.Tryz.prog) 23 fn23 = true := by kernel_rfl
theorem ok28 : chkFn Go.Proofs.Tryz.prog (chkD Go.Proofs.Tryz.prog) 28 fn28 = true := by kernel_rfl
theorem ok39 : chkFn Go.Proofs.Tryz.prog (chkD Go.Proofs.Tryz.prog) 39 fn39 = true := by kernel_rfl
theorem ok45 : chkFn Go.Proofs.Tryz.prog (chkD Go.Proofs.Tryz.prog) 45 fn45 = true := by kernel_rfl
theorem ok49 : chkFn Go.Proofs.Tryz.prog (chkD Go.Proofs.Tryz.prog) 49 fn49 = true := by kernel_rfl
theorem ok53 : chkFn Go.Proofs.Tryz.prog (chkD Go.Proofs.Tryz.prog) 53 fn53 = true := by kernel_rfl
theorem ok67 : chkFn Go.Proofs.Tryz.prog (chkD Go.Proofs.Tryz.prog) 67 fn67 = true := by kernel_rfl
theorem ok72 : chkFn Go.Proofs.Tryz.prog (chkD Go.Proofs.Tryz.prog) 72 fn72 = true := by kernel_rfl
theorem ok81 : chkFn Go.Proofs.Tryz.prog (chkD Go.Proofs.Tryz.prog) 81 fn81 = true := by kernel_rfl
theorem ok87 : chkFn Go.Proofs.Tryz.prog (chkD Go.Proofs.Tryz.prog) 87 fn87 = true := by kernel_rfl
theorem ok91 : chkFn Go.Proofs.Tryz.prog (chkD Go.Proofs.Tryz.prog) 91 fn91 = true := by kernel_rfl
theorem ok95 : chkFn Go.Proofs.Tryz.prog (chkD Go.Proofs.Tryz.prog) 95 fn95 = true := by kernel_rfl
theorem ok99 : chkFn Go.Proofs.Tryz.prog (chkD Go.Proofs.Tryz.prog) 99 fn99 = true := by kernel_rfl
theorem ok112 : chkFn Go.Proofs.Tryz.prog (chkD Go.Proofs.Tryz.prog) 112 fn112 = true := by kernel_rfl
theorem ok117 : chkFn Go.Proofs.Tryz.prog (chkD Go.Proofs.Tryz.prog) 117 fn117 = true := by kernel_rfl
theorem ok132 : chkFn Go.Proofs.Tryz.prog (chkD Go.Proofs.Tryz.prog) 132 fn132 = true := by kernel_rfl
theorem ok138 : chkFn Go.Proofs.Tryz.prog (chkD Go.Proofs.Tryz.prog) 138 fn138 = true := by kernel_rfl
theorem ok148 : chkFn Go.Proofs.Tryz.prog (chkD Go.Proofs.Tryz.prog) 148 fn148 = true := by kernel_rfl
theorem ok155 : chkFn Go.Proofs.Tryz.prog (chkD Go.Proofs.Tryz.prog) 155 fn155 = true := by kernel_rfl
theorem ok164 : chkFn Go.Proofs.Tryz.prog (chkD Go.Proofs.Tryz.prog) 164 fn164 = true := by kernel_rfl
theorem ok185 : chkFn Go.Proofs.Tryz.prog (chkD Go.Proofs.Tryz.prog) 185 fn185 = true := by kernel_rfl
theorem ok214 : chkFn Go.Proofs.Tryz.prog (chkD Go.Proofs.Tryz.prog) 214 fn214 = true := by kernel_rfl
theorem ok220 : chkFn Go.Proofs.Tryz.prog (chkD Go.Proofs.Tryz.prog) 220 fn220 = true := by kernel_rfl
theorem ok226 : chkFn Go.Proofs.Tryz.prog (chkD Go.Proofs.Tryz.prog) 226 fn226 = true := by kernel_rfl
theorem ok243 : chkFn Go.Proofs.Tryz.prog (chkD Go.Proofs.Tryz.prog) 243 fn243 = true := by kernel_rfl
theorem ok247 : chkFn Go.Proofs.Tryz.prog (chkD Go.Proofs.Tryz.prog) 247 fn247 = true := by kernel_rfl
theorem ok283 : chkFn Go.Proofs.Tryz.prog (chkD Go.Proofs.Tryz.prog) 283 fn283 = true := by kernel_rfl
theorem ok295 : chkFn Go.Proofs.Tryz.prog (chkD Go.Proofs.Tryz.prog) 295 fn295 = true := by kernel_rfl
theorem ok334 : chkFn Go.Proofs.Tryz.prog (chkD Go.Proofs.Tryz.prog) 334 fn334 = true := by kernel_rfl
end Go.Am
set_option maxRecDepth 100000
namespace Go.Am
open Go
theorem fnTr_ok : TrAll (fun f af => af.body = .bad ∨ chkFn Go.Proofs.Tryz.prog (chkD Go.Proofs.Tryz.prog) f af = true) 0 1 fnTr :=
  ⟨(.inl rfl),⟨(.inl rfl),⟨(.inr ok3),⟨(.inr ok7),⟨(.inl rfl),⟨(.inl rfl),trivial,⟨(.inr ok95),⟨(.inr ok159),⟨(.inr ok287),trivial,trivial⟩,trivial⟩,⟨(.inr ok223),trivial,trivial⟩⟩⟩,⟨(.inr ok47),⟨(.inr ok79),trivial,trivial⟩,⟨(.inr ok111),trivial,⟨(.inr ok239),trivial,trivial⟩⟩⟩⟩,⟨(.inr ok23),⟨(.inr ok39),⟨(.inr ok71),trivial,trivial⟩,⟨(.inl rfl),⟨(.inl rfl),⟨(.inr ok295),trivial,trivial⟩,trivial⟩,trivial⟩⟩,⟨(.inl rfl),⟨(.inr ok87),trivial,trivial⟩,⟨(.inl rfl),trivial,⟨(.inr ok247),trivial,trivial⟩⟩⟩⟩⟩,⟨(.inr ok11),⟨(.inr ok19),⟨(.inr ok35),⟨(.inr ok67),⟨(.inr ok131),trivial,trivial⟩,trivial⟩,⟨(.inr ok99),⟨(.inr ok163),trivial,trivial⟩,trivial⟩⟩,⟨(.inr ok51),⟨(.inl rfl),⟨(.inr ok147),trivial,trivial⟩,trivial⟩,⟨(.inr ok115),trivial,⟨(.inr ok243),trivial,trivial⟩⟩⟩⟩,⟨(.inr ok27),trivial,⟨(.inl rfl),⟨(.inr ok91),⟨(.inr ok155),⟨(.inr ok283),trivial,trivial⟩,trivial⟩,⟨(.inr ok219),trivial,trivial⟩⟩,trivial⟩⟩⟩⟩,⟨(.inl rfl),⟨(.inr ok9),⟨(.inr ok17),⟨(.inr ok33),⟨(.inl rfl),⟨(.inr ok129),trivial,trivial⟩,trivial⟩,⟨(.inr ok97),trivial,⟨(.inr ok225),trivial,trivial⟩⟩⟩,⟨(.inr ok49),⟨(.inr ok81),trivial,trivial⟩,trivial⟩⟩,⟨(.inl rfl),⟨(.inr ok41),⟨(.inl rfl),⟨(.inr ok137),trivial,trivial⟩,trivial⟩,⟨(.inl rfl),⟨(.inl rfl),⟨(.inr ok297),trivial,trivial⟩,trivial⟩,trivial⟩⟩,⟨(.inr ok57),⟨(.inr ok89),⟨(.inr ok153),trivial,trivial⟩,⟨(.inr ok217),trivial,trivial⟩⟩,⟨(.inl rfl),⟨(.inr ok185),⟨(.inr ok313),trivial,trivial⟩,trivial⟩,trivial⟩⟩⟩⟩,⟨(.inr ok13),⟨(.inr ok21),⟨(.inr ok37),⟨(.inl rfl),⟨(.inr ok133),trivial,trivial⟩,trivial⟩,⟨(.inl rfl),⟨(.inr ok165),trivial,trivial⟩,trivial⟩⟩,⟨(.inr ok53),⟨(.inr ok85),trivial,⟨(.inr ok213),trivial,trivial⟩⟩,⟨(.inr ok117),trivial,⟨(.inr ok245),trivial,trivial⟩⟩⟩⟩,⟨(.inl rfl),⟨(.inr ok45),trivial,⟨(.inr ok109),trivial,trivial⟩⟩,⟨(.inl rfl),⟨(.inr ok93),trivial,⟨(.inr ok221),trivial,trivial⟩⟩,trivial⟩⟩⟩⟩⟩,⟨(.inl rfl),⟨(.inl rfl),⟨(.inr ok8),⟨(.inr ok16),⟨(.inl rfl),⟨(.inr ok64),trivial,trivial⟩,⟨(.inr ok96),trivial,trivial⟩⟩,⟨(.inr ok48),⟨(.inr ok80),trivial,⟨(.inr ok208),trivial,trivial⟩⟩,⟨(.inr ok112),trivial,⟨(.inr ok240),trivial,trivial⟩⟩⟩⟩,⟨(.inr ok24),⟨(.inr ok40),⟨(.inr ok72),⟨(.inr ok136),trivial,trivial⟩,trivial⟩,trivial⟩,⟨(.inl rfl),⟨(.inr ok88),⟨(.inr ok152),trivial,trivial⟩,⟨(.inr ok216),trivial,trivial⟩⟩,⟨(.inl rfl),⟨(.inr ok184),trivial,trivial⟩,trivial⟩⟩⟩⟩,⟨(.inr ok12),⟨(.inl rfl),⟨(.inl rfl),⟨(.inr ok68),⟨(.inr ok132),trivial,trivial⟩,trivial⟩,⟨(.inl rfl),⟨(.inr ok164),⟨(.inr ok292),trivial,trivial⟩,trivial⟩,⟨(.inr ok228),trivial,trivial⟩⟩⟩,⟨(.inr ok52),⟨(.inr ok84),⟨(.inr ok148),trivial,trivial⟩,trivial⟩,⟨(.inr ok116),trivial,⟨(.inr ok244),trivial,trivial⟩⟩⟩⟩,⟨(.inr ok28),⟨(.inl rfl),⟨(.inl rfl),⟨(.inr ok140),⟨(.inr ok268),trivial,trivial⟩,trivial⟩,trivial⟩,⟨(.inl rfl),⟨(.inl rfl),⟨(.inr ok300),trivial,trivial⟩,trivial⟩,trivial⟩⟩,⟨(.inl rfl),⟨(.inr ok92),trivial,⟨(.inr ok220),trivial,trivial⟩⟩,trivial⟩⟩⟩⟩,⟨(.inr ok6),⟨(.inl rfl),⟨(.inr ok18),⟨(.inl rfl),⟨(.inr ok66),⟨(.inr ok130),⟨(.inr ok258),trivial,trivial⟩,trivial⟩,trivial⟩,⟨(.inr ok98),trivial,⟨(.inr ok226),trivial,trivial⟩⟩⟩,⟨(.inr ok50),⟨(.inl rfl),⟨(.inr ok146),trivial,trivial⟩,trivial⟩,⟨(.inr ok114),trivial,trivial⟩⟩⟩,⟨(.inr ok26),⟨(.inr ok42),⟨(.inl rfl),⟨(.inr ok138),⟨(.inr ok266),trivial,trivial⟩,trivial⟩,trivial⟩,trivial⟩,⟨(.inl rfl),⟨(.inr ok90),⟨(.inr ok154),trivial,trivial⟩,trivial⟩,trivial⟩⟩⟩,⟨(.inr ok14),⟨(.inr ok22),⟨(.inl rfl),⟨(.inr ok70),trivial,trivial⟩,⟨(.inl rfl),⟨(.inl rfl),⟨(.inr ok294),trivial,trivial⟩,trivial⟩,trivial⟩⟩,⟨(.inl rfl),⟨(.inr ok86),trivial,⟨(.inr ok214),trivial,trivial⟩⟩,⟨(.inl rfl),⟨(.inr ok182),trivial,trivial⟩,⟨(.inr ok246),trivial,trivial⟩⟩⟩⟩,⟨(.inl rfl),⟨(.inr ok46),⟨(.inr ok78),trivial,⟨(.inr ok206),⟨(.inr ok334),trivial,trivial⟩,trivial⟩⟩,⟨(.inr ok110),trivial,trivial⟩⟩,⟨(.inl rfl),⟨(.inr ok94),⟨(.inr ok158),trivial,trivial⟩,trivial⟩,trivial⟩⟩⟩⟩⟩⟩
theorem fns_ok (E : Env) (h : E.fns = Tr.get fnNo fnTr) : FnsOk Go.Proofs.Tryz.prog E (chkD Go.Proofs.Tryz.prog) := fnsOk_of_tr h rfl fnTr_ok
end Go.Am
