import Derived.Test.YtnacifjcjnhgpaaGreatDoorAmF
import Derived.Test.YtnacifjcjnhgpaaGreatDoorFCodeB
import Derived.Test.YtnacifjcjnhgpaaGreatDoorProg
import Derived.KernelRfl
import Derived.Test.YtnacifjcjnhgpaaGreatDoorFChkA
set_option linter.all false
set_option maxRecDepth 100000
namespace Go.Am
open Go
theorem ok9 : chkFn Go.Proofs.Tryz.prog (chkD Go.Proofs.Tryz.prog) 9 fn9 = true := by kernel_rfl
theorem ok16 : chkFn Go.Proofs.Tryz.prog (chkD Go.Proofs.Tryz.prog) 16 fn16 = true := by kernel_rfl
theorem ok21 : chkFn Go.Proofs.Tryz.prog (chkD Go.Proofs.Tryz.prog) 21 fn21 = true := by kernel_rfl
theorem ok28 : chkFn Go.Proofs.Tryz.prog (chkD Go.Proofs.Tryz.prog) 28 fn28 = true := by kernel_rfl
theorem ok34 : chkFn Go.Proofs.Tryz.prog (chkD Go.Proofs.Tryz.prog) 34 fn34 = true := by kernel_rfl
theorem ok38 : chkFn Go.Proofs.Tryz.prog (chkD Go.Proofs.Tryz.prog) 38 fn38 = true := by kernel_rfl
theorem ok47 : chkFn Go.Proofs.Tryz.prog (chkD Go.Proofs.Tryz.prog) 47 fn47 = true := by kernel_rfl
theorem ok52 : chkFn Go.Proofs.Tryz.prog (chkD Go.Proofs.Tryz.prog) 52 fn52 = true := by kernel_rfl
theorem ok56 : chkFn Go.Proofs.Tryz.prog (chkD Go.Proofs.Tryz.prog) 56 fn56 = true := by kernel_rfl
theorem ok65 : chkFn Go.Proofs.Tryz.prog (chkD Go.Proofs.Tryz.prog) 65 fn65 = true := by kernel_rfl
theorem ok71 : chkFn Go.Proofs.Tryz.prog (chkD Go.Proofs.Tryz.prog) 71 fn71 = true := by kernel_rfl
theorem ok75 : chkFn Go.Proofs.Tryz.prog (chkD Go.Proofs.Tryz.prog) 75 fn75 = true := by kernel_rfl
theorem ok84 : chkFn Go.Proofs.Tryz.prog (chkD Go.Proofs.Tryz.prog) 84 fn84 = true := by kernel_rfl
theorem ok93 : chkFn Go.Proofs.Tryz.prog (chkD Go.Proofs.Tryz.prog) 93 fn93 = true := by kernel_rfl
theorem ok98 : chkFn Go.Proofs.Tryz.prog (chkD Go.Proofs.Tryz.prog) 98 fn98 = true := by kernel_rfl
theorem ok110 : chkFn Go.Proofs.Tryz.prog (chkD Go.Proofs.Tryz.prog) 110 fn110 = true := by kernel_rfl
theorem ok116 : chkFn Go.Proofs.Tryz.prog (chkD Go.Proofs.Tryz.prog) 116 fn116 = true := by kernel_rfl
theorem ok124 : chkFn Go.Proofs.Tryz.prog (chkD Go.Proofs.Tryz.prog) 124 fn124 = true := by kernel_rfl
theorem ok130 : chkFn Go.Proofs.Tryz.prog (chkD Go.Proofs.Tryz.prog) 130 fn130 = true := by kernel_rfl
theorem ok134 : chkFn Go.Proofs.Tryz.prog (chkD Go.Proofs.Tryz.prog) 134 fn134 = true := by kernel_rfl
theorem ok142 : chkFn Go.Proofs.Tryz.prog (chkD Go.Proofs.Tryz.prog) 142 fn142 = true := by kernel_rfl
theorem ok159 : chkFn Go.Proofs.Tryz.prog (chkD Go.Proofs.Tryz.prog) 159 fn159 = true := by kernel_rfl
theorem ok163 : chkFn Go.Proofs.Tryz.prog (chkD Go.Proofs.Tryz.prog) 163 fn163 = true := by kernel_rfl
theorem ok178 : chkFn Go.Proofs.Tryz.prog (chkD Go.Proofs.Tryz.prog) 178 fn178 = true := by kernel_rfl
theorem ok189 : chkFn Go.Proofs.Tryz.prog (chkD Go.Proofs.Tryz.prog) 189 fn189 = true := by kernel_rfl
theorem ok193 : chkFn Go.Proofs.Tryz.prog (chkD Go.Proofs.Tryz.prog) 193 fn193 = true := by kernel_rfl
theorem ok199 : chkFn Go.Proofs.Tryz.prog (chkD Go.Proofs.Tryz.prog) 199 fn199 = true := by kernel_rfl
theorem ok203 : chkFn Go.Proofs.Tryz.prog (chkD Go.Proofs.Tryz.prog) 203 fn203 = true := by kernel_rfl
theorem ok213 : chkFn Go.Proofs.Tryz.prog (chkD Go.Proofs.Tryz.prog) 213 fn213 = true := by kernel_rfl
theorem ok219 : chkFn Go.Proofs.Tryz.prog (chkD Go.Proofs.Tryz.prog) 219 fn219 = true := by kernel_rfl
theorem ok228 : chkFn Go.Proofs.Tryz.prog (chkD Go.Proofs.Tryz.prog) 228 fn228 = true := by kernel_rfl
theorem ok253 : chkFn Go.Proofs.Tryz.prog (chkD Go.Proofs.Tryz.prog) 253 fn253 = true := by kernel_rfl
theorem ok268 : chkFn Go.Proofs.Tryz.prog (chkD Go.Proofs.Tryz.prog) 268 fn268 = true := by kernel_rfl
theorem ok274 : chkFn Go.Proofs.Tryz.prog (chkD Go.Proofs.Tryz.prog) 274 fn274 = true := by kernel_rfl
theorem ok278 : chkFn Go.Proofs.Tryz.prog (chkD Go.Proofs.Tryz.prog) 278 fn278 = true := by kernel_rfl
theorem ok292 : chkFn Go.Proofs.Tryz.prog (chkD Go.Proofs.Tryz.prog) 292 fn292 = true := by kernel_rfl
theorem ok314 : chkFn Go.Proofs.Tryz.prog (chkD Go.Proofs.Tryz.prog) 314 fn314 = true := by kernel_rfl
end Go.Am
set_option maxRecDepth 100000
namespace Go.Am
open Go
theorem ok12 : chkFn Go.Proofs.Tryz.prog (chkD Go.Proofs.Tryz.prog) 12 fn12 = true := by kernel_rfl
theorem ok18 : chkFn Go.Proofs.Tryz.prog (chkD Go.Proofs.Tryz.prog) 18 fn18 = true := by kernel_rfl
theorem ok22 : chkFn Go.Proofs.Tryz.prog (chkD Go.Proofs.Tryz.prog) 22 fn22 = true := by kernel_rfl
theorem ok29 : chkFn Go.Proofs.Tryz.prog (chkD Go.Proofs.Tryz.prog) 29 fn29 = true := by kernel_rfl
theorem ok35 : chkFn Go.Proofs.Tryz.prog (chkD Go.Proofs.Tryz.prog) 35 fn35 = true := by kernel_rfl
theorem ok39 : chkFn Go.Proofs.Tryz.prog (chkD Go.Proofs.Tryz.prog) 39 fn39 = true := by kernel_rfl
theorem ok49 : chkFn Go.Proofs.Tryz.prog (chkD Go.Proofs.Tryz.prog) 49 fn49 = true := by kernel_rfl
theorem ok53 : chkFn Go.Proofs.Tryz.prog (chkD Go.Proofs.Tryz.prog) 53 fn53 = true := by kernel_rfl
theorem ok59 : chkFn Go.Proofs.Tryz.prog (chkD Go.Proofs.Tryz.prog) 59 fn59 = true := by kernel_rfl
theorem ok66 : chkFn Go.Proofs.Tryz.prog (chkD Go.Proofs.Tryz.prog) 66 fn66 = true := by kernel_rfl
theorem ok72 : chkFn Go.Proofs.Tryz.prog (chkD Go.Proofs.Tryz.prog) 72 fn72 = true := by kernel_rfl
theorem ok76 : chkFn Go.Proofs.Tryz.prog (chkD Go.Proofs.Tryz.prog) 76 fn76 = true := by kernel_rfl
theorem ok90 : chkFn Go.Proofs.Tryz.prog (chkD Go.Proofs.Tryz.prog) 90 fn90 = true := by kernel_rfl
theorem ok94 : chkFn Go.Proofs.Tryz.prog (chkD Go.Proofs.Tryz.prog) 94 fn94 = true := by kernel_rfl
theorem ok104 : chkFn Go.Proofs.Tryz.prog (chkD Go.Proofs.Tryz.prog) 104 fn104 = true := by kernel_rfl
theorem ok113 : chkFn Go.Proofs.Tryz.prog (chkD Go.Proofs.Tryz.prog) 113 fn113 = true := by kernel_rfl
theorem ok117 : chkFn Go.Proofs.Tryz.prog (chkD Go.Proofs.Tryz.prog) 117 fn117 = true := by kernel_rfl
theorem ok125 : chkFn Go.Proofs.Tryz.prog (chkD Go.Proofs.Tryz.prog) 125 fn125 = true := by kernel_rfl
theorem ok131 : chkFn Go.Proofs.Tryz.prog (chkD Go.Proofs.Tryz.prog) 131 fn131 = true := by kernel_rfl
theorem ok135 : chkFn Go.Proofs.Tryz.prog (chkD Go.Proofs.Tryz.prog) 135 fn135 = true := by kernel_rfl
theorem ok156 : chkFn Go.Proofs.Tryz.prog (chkD Go.Proofs.Tryz.prog) 156 fn156 = true := by kernel_rfl
theorem ok160 : chkFn Go.Proofs.Tryz.prog (chkD Go.Proofs.Tryz.prog) 160 fn160 = true := by kernel_rfl
theorem ok164 : chkFn Go.Proofs.Tryz.prog (chkD Go.Proofs.Tryz.prog) 164 fn164 = true := by kernel_rfl
theorem ok181 : chkFn Go.Proofs.Tryz.prog (chkD Go.Proofs.Tryz.prog) 181 fn181 = true := by kernel_rfl
theorem ok190 : chkFn Go.Proofs.Tryz.prog (chkD Go.Proofs.Tryz.prog) 190 fn190 = true := by kernel_rfl
theorem ok194 : chkFn Go.Proofs.Tryz.prog (chkD Go.Proofs.Tryz.prog) 194 fn194 = true := by kernel_rfl
theorem ok200 : chkFn Go.Proofs.Tryz.prog (chkD Go.Proofs.Tryz.prog) 200 fn200 = true := by kernel_rfl
theorem ok204 : chkFn Go.Proofs.Tryz.prog (chkD Go.Proofs.Tryz.prog) 204 fn204 = true := by kernel_rfl
theorem ok216 : chkFn Go.Proofs.Tryz.prog (chkD Go.Proofs.Tryz.prog) 216 fn216 = true := by kernel_rfl
theorem ok220 : chkFn Go.Proofs.Tryz.prog (chkD Go.Proofs.Tryz.prog) 220 fn220 = true := by kernel_rfl
theorem ok229 : chkFn Go.Proofs.Tryz.prog (chkD Go.Proofs.Tryz.prog) 229 fn229 = true := by kernel_rfl
theorem ok260 : chkFn Go.Proofs.Tryz.prog (chkD Go.Proofs.Tryz.prog) 260 fn260 = true := by kernel_rfl
theorem ok269 : chkFn Go.Proofs.Tryz.prog (chkD Go.Proofs.Tryz.prog) 269 fn269 = true := by kernel_rfl
theorem ok275 : chkFn Go.Proofs.Tryz.prog (chkD Go.Proofs.Tryz.prog) 275 fn275 = true := by kernel_rfl
theorem ok279 : chkFn Go.Proofs.Tryz.prog (chkD Go.Proofs.Tryz.prog) 279 fn279 = true := by kernel_rfl
theorem ok294 : chkFn Go.Proofs.Tryz.prog (chkD Go.Proofs.Tryz.prog) 294 fn294 = true := by kernel_rfl
theorem ok330 : chkFn Go.Proofs.Tryz.prog (chkD Go.Proofs.Tryz.prog) 330 fn330 = true := by kernel_rfl
end Go.Am
set_option maxRecDepth 100000
namespace Go.Am
open Go
theorem fnTr_ok : TrAll (fun f af => af.body = .bad ∨ chkFn Go.Proofs.Tryz.prog (chkD Go.Proofs.Tryz.prog) f af = true) 0 1 fnTr :=
  ⟨(.inl rfl),⟨(.inl rfl),⟨(.inr ok3),⟨(.inl rfl),⟨(.inr ok15),⟨(.inl rfl),⟨(.inl rfl),⟨(.inr ok127),trivial,trivial⟩,⟨(.inr ok191),trivial,trivial⟩⟩,⟨(.inl rfl),⟨(.inr ok159),trivial,trivial⟩,trivial⟩⟩,⟨(.inr ok47),⟨(.inl rfl),⟨(.inl rfl),⟨(.inr ok271),trivial,trivial⟩,trivial⟩,trivial⟩,trivial⟩⟩,⟨(.inl rfl),⟨(.inr ok39),⟨(.inr ok71),⟨(.inr ok135),trivial,trivial⟩,⟨(.inr ok199),trivial,trivial⟩⟩,trivial⟩,⟨(.inr ok55),⟨(.inl rfl),⟨(.inl rfl),⟨(.inr ok279),trivial,trivial⟩,trivial⟩,trivial⟩,trivial⟩⟩⟩,⟨(.inl rfl),⟨(.inr ok19),⟨(.inr ok35),⟨(.inl rfl),⟨(.inr ok131),trivial,trivial⟩,trivial⟩,⟨(.inl rfl),⟨(.inr ok163),trivial,trivial⟩,⟨(.inr ok227),trivial,trivial⟩⟩⟩,⟨(.inr ok51),⟨(.inl rfl),⟨(.inl rfl),⟨(.inr ok275),trivial,trivial⟩,trivial⟩,trivial⟩,⟨(.inr ok115),trivial,trivial⟩⟩⟩,⟨(.inl rfl),⟨(.inl rfl),⟨(.inr ok75),trivial,⟨(.inr ok203),trivial,trivial⟩⟩,trivial⟩,⟨(.inr ok59),⟨(.inr ok91),trivial,⟨(.inr ok219),trivial,trivial⟩⟩,⟨(.inr ok123),⟨(.inr ok187),trivial,trivial⟩,trivial⟩⟩⟩⟩⟩,⟨(.inl rfl),⟨(.inr ok9),⟨(.inl rfl),⟨(.inr ok33),⟨(.inr ok65),⟨(.inr ok129),trivial,trivial⟩,⟨(.inr ok193),trivial,trivial⟩⟩,⟨(.inr ok97),⟨(.inr ok161),trivial,trivial⟩,trivial⟩⟩,⟨(.inr ok49),trivial,⟨(.inr ok113),⟨(.inr ok177),trivial,trivial⟩,trivial⟩⟩⟩,⟨(.inr ok25),⟨(.inl rfl),⟨(.inr ok73),trivial,⟨(.inr ok201),trivial,trivial⟩⟩,⟨(.inr ok105),trivial,trivial⟩⟩,⟨(.inl rfl),⟨(.inl rfl),trivial,⟨(.inr ok217),trivial,trivial⟩⟩,⟨(.inr ok121),trivial,trivial⟩⟩⟩⟩,⟨(.inl rfl),⟨(.inr ok21),⟨(.inr ok37),⟨(.inr ok69),⟨(.inr ok133),trivial,trivial⟩,trivial⟩,⟨(.inl rfl),trivial,⟨(.inr ok229),trivial,trivial⟩⟩⟩,⟨(.inr ok53),⟨(.inl rfl),⟨(.inl rfl),⟨(.inr ok277),trivial,trivial⟩,trivial⟩,⟨(.inr ok213),⟨(.inr ok341),trivial,trivial⟩,trivial⟩⟩,⟨(.inr ok117),⟨(.inr ok181),trivial,trivial⟩,trivial⟩⟩⟩,⟨(.inr ok29),⟨(.inl rfl),⟨(.inr ok77),⟨(.inl rfl),⟨(.inr ok269),trivial,trivial⟩,trivial⟩,trivial⟩,⟨(.inr ok109),trivial,trivial⟩⟩,⟨(.inl rfl),⟨(.inr ok93),⟨(.inr ok157),⟨(.inr ok285),trivial,trivial⟩,trivial⟩,trivial⟩,⟨(.inr ok125),⟨(.inr ok189),trivial,trivial⟩,⟨(.inr ok253),trivial,trivial⟩⟩⟩⟩⟩⟩⟩,⟨(.inl rfl),⟨(.inl rfl),⟨(.inr ok8),⟨(.inr ok16),⟨(.inl rfl),⟨(.inr ok64),trivial,⟨(.inr ok192),trivial,trivial⟩⟩,⟨(.inr ok96),⟨(.inr ok160),trivial,trivial⟩,trivial⟩⟩,⟨(.inl rfl),⟨(.inl rfl),⟨(.inl rfl),⟨(.inr ok272),trivial,trivial⟩,trivial⟩,trivial⟩,⟨(.inl rfl),⟨(.inr ok176),trivial,trivial⟩,trivial⟩⟩⟩,⟨(.inr ok24),⟨(.inr ok40),⟨(.inr ok72),⟨(.inr ok136),⟨(.inr ok264),trivial,trivial⟩,trivial⟩,⟨(.inr ok200),trivial,trivial⟩⟩,⟨(.inr ok104),trivial,trivial⟩⟩,⟨(.inr ok56),⟨(.inl rfl),trivial,⟨(.inr ok216),trivial,trivial⟩⟩,trivial⟩⟩⟩,⟨(.inr ok12),⟨(.inr ok20),⟨(.inr ok36),⟨(.inl rfl),⟨(.inr ok132),⟨(.inr ok260),trivial,trivial⟩,trivial⟩,⟨(.inr ok196),trivial,trivial⟩⟩,⟨(.inl rfl),⟨(.inr ok164),⟨(.inr ok292),trivial,trivial⟩,trivial⟩,⟨(.inr ok228),trivial,trivial⟩⟩⟩,⟨(.inr ok52),⟨(.inr ok84),⟨(.inl rfl),⟨(.inr ok276),trivial,trivial⟩,trivial⟩,⟨(.inr ok212),trivial,trivial⟩⟩,⟨(.inr ok116),trivial,trivial⟩⟩⟩,⟨(.inr ok28),⟨(.inl rfl),⟨(.inr ok76),⟨(.inr ok140),⟨(.inr ok268),trivial,trivial⟩,trivial⟩,⟨(.inr ok204),trivial,trivial⟩⟩,⟨(.inl rfl),⟨(.inl rfl),⟨(.inr ok300),trivial,trivial⟩,trivial⟩,trivial⟩⟩,⟨(.inr ok60),⟨(.inr ok92),⟨(.inr ok156),⟨(.inr ok284),trivial,trivial⟩,trivial⟩,⟨(.inr ok220),trivial,trivial⟩⟩,⟨(.inr ok124),trivial,⟨(.inr ok252),trivial,trivial⟩⟩⟩⟩⟩⟩,⟨(.inl rfl),⟨(.inl rfl),⟨(.inr ok18),⟨(.inr ok34),⟨(.inr ok66),⟨(.inr ok130),trivial,trivial⟩,⟨(.inr ok194),trivial,trivial⟩⟩,⟨(.inr ok98),⟨(.inr ok162),trivial,trivial⟩,⟨(.inr ok226),trivial,trivial⟩⟩⟩,⟨(.inr ok50),⟨(.inl rfl),⟨(.inl rfl),⟨(.inr ok274),trivial,trivial⟩,trivial⟩,trivial⟩,⟨(.inr ok114),⟨(.inr ok178),trivial,trivial⟩,trivial⟩⟩⟩,⟨(.inl rfl),⟨(.inl rfl),⟨(.inr ok74),⟨(.inl rfl),⟨(.inr ok266),trivial,trivial⟩,trivial⟩,⟨(.inr ok202),⟨(.inr ok330),trivial,trivial⟩,trivial⟩⟩,⟨(.inl rfl),trivial,⟨(.inl rfl),⟨(.inr ok362),trivial,trivial⟩,trivial⟩⟩⟩,⟨(.inl rfl),⟨(.inr ok90),trivial,⟨(.inr ok218),trivial,trivial⟩⟩,⟨(.inl rfl),⟨(.inr ok186),⟨(.inr ok314),trivial,trivial⟩,trivial⟩,⟨(.inr ok250),trivial,trivial⟩⟩⟩⟩⟩,⟨(.inr ok14),⟨(.inr ok22),⟨(.inr ok38),⟨(.inr ok70),⟨(.inr ok134),trivial,trivial⟩,⟨(.inr ok198),trivial,trivial⟩⟩,⟨(.inl rfl),⟨(.inl rfl),⟨(.inr ok294),trivial,trivial⟩,trivial⟩,trivial⟩⟩,⟨(.inr ok54),⟨(.inl rfl),⟨(.inl rfl),⟨(.inr ok278),trivial,trivial⟩,trivial⟩,trivial⟩,trivial⟩⟩,⟨(.inr ok30),⟨(.inr ok46),⟨(.inr ok78),⟨(.inr ok142),trivial,trivial⟩,⟨(.inr ok206),trivial,trivial⟩⟩,⟨(.inr ok110),⟨(.inl rfl),⟨(.inr ok302),trivial,trivial⟩,trivial⟩,trivial⟩⟩,⟨(.inl rfl),⟨(.inr ok94),⟨(.inr ok158),trivial,trivial⟩,trivial⟩,⟨(.inl rfl),⟨(.inr ok190),trivial,trivial⟩,trivial⟩⟩⟩⟩⟩⟩⟩
theorem fns_ok (E : Env) (h : E.fns = Tr.get fnNo fnTr) : FnsOk Go.Proofs.Tryz.prog E (chkD Go.Proofs.Tryz.prog) := fnsOk_of_tr h rfl fnTr_ok
end Go.Am
