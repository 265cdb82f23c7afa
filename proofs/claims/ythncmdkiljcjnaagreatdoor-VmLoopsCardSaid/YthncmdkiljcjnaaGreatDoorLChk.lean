import Derived.Test.YthncmdkiljcjnaaGreatDoorAmF
import Derived.Test.YthncmdkiljcjnaaGreatDoorLCode
import Derived.Test.YthncmdkiljcjnaaGreatDoorProg
import Derived.KernelRfl
set_option linter.all false
set_option maxRecDepth 100000
namespace Go.Am
open Go
theorem ok5 : chkFn Go.Proofs.Tryz.prog (chkD Go.Proofs.Tryz.prog) 5 fn5 = true := by kernel_rfl
theorem ok9 : chkFn Go.Proofs.Tryz.prog (chkD Go.Proofs.Tryz.prog) 9 fn9 = true := by kernel_rfl
theorem ok13 : chkFn Go.Proofs.Tryz.prog (chkD Go.Proofs.Tryz.prog) 13 fn13 = true := by kernel_rfl
theorem ok21 : chkFn Go.Proofs.Tryz.prog (chkD Go.Proofs.Tryz.prog) 21 fn21 = true := by kernel_rfl
theorem ok27 : chkFn Go.Proofs.Tryz.prog (chkD Go.Proofs.Tryz.prog) 27 fn27 = true := by kernel_rfl
theorem ok35 : chkFn Go.Proofs.Tryz.prog (chkD Go.Proofs.Tryz.prog) 35 fn35 = true := by kernel_rfl
theorem ok39 : chkFn Go.Proofs.Tryz.prog (chkD Go.Proofs.Tryz.prog) 39 fn39 = true := by kernel_rfl
theorem ok54 : chkFn Go.Proofs.Tryz.prog (chkD Go.Proofs.Tryz.prog) 54 fn54 = true := by kernel_rfl
theorem ok58 : chkFn Go.Proofs.Tryz.prog (chkD Go.Proofs.Tryz.prog) 58 fn58 = true := by kernel_rfl
theorem ok63 : chkFn Go.Proofs.Tryz.prog (chkD Go.Proofs.Tryz.prog) 63 fn63 = true := by kernel_rfl
theorem ok78 : chkFn Go.Proofs.Tryz.prog (chkD Go.Proofs.Tryz.prog) 78 fn78 = true := by kernel_rfl
theorem ok89 : chkFn Go.Proofs.Tryz.prog (chkD Go.Proofs.Tryz.prog) 89 fn89 = true := by kernel_rfl
theorem ok112 : chkFn Go.Proofs.Tryz.prog (chkD Go.Proofs.Tryz.prog) 112 fn112 = true := by kernel_rfl
theorem ok124 : chkFn Go.Proofs.Tryz.prog (chkD Go.Proofs.Tryz.prog) 124 fn124 = true := by kernel_rfl
theorem ok128 : chkFn Go.Proofs.Tryz.prog (chkD Go.Proofs.Tryz.prog) 128 fn128 = true := by kernel_rfl
theorem ok140 : chkFn Go.Proofs.Tryz.prog (chkD Go.Proofs.Tryz.prog) 140 fn140 = true := by kernel_rfl
theorem ok159 : chkFn Go.Proofs.Tryz.prog (chkD Go.Proofs.Tryz.prog) 159 fn159 = true := by kernel_rfl
theorem ok163 : chkFn Go.Proofs.Tryz.prog (chkD Go.Proofs.Tryz.prog) 163 fn163 = true := by kernel_rfl
theorem ok176 : chkFn Go.Proofs.Tryz.prog (chkD Go.Proofs.Tryz.prog) 176 fn176 = true := by kernel_rfl
theorem ok190 : chkFn Go.Proofs.Tryz.prog (chkD Go.Proofs.Tryz.prog) 190 fn190 = true := by kernel_rfl
theorem ok212 : chkFn Go.Proofs.Tryz.prog (chkD Go.Proofs.Tryz.prog) 212 fn212 = true := by kernel_rfl
theorem ok224 : chkFn Go.Proofs.Tryz.prog (chkD Go.Proofs.Tryz.prog) 224 fn224 = true := by kernel_rfl
end Go.Am
set_option maxRecDepth 100000
namespace Go.Am
open Go
theorem ok6 : chkFn Go.Proofs.Tryz.prog (chkD Go.Proofs.Tryz.prog) 6 fn6 = true := by kernel_rfl
theorem ok10 : chkFn Go.Proofs.Tryz.prog (chkD Go.Proofs.Tryz.prog) 10 fn10 = true := by kernel_rfl
theorem ok14 : chkFn Go.Proofs.Tryz.prog (chkD Go.Proofs.Tryz.prog) 14 fn14 = true := by kernel_rfl
theorem ok22 : chkFn Go.Proofs.Tryz.prog (chkD Go.Proofs.Tryz.prog) 22 fn22 = true := by kernel_rfl
theorem ok28 : chkFn Go.Proofs.Tryz.prog (chkD Go.Proofs.Tryz.prog) 28 fn28 = true := by kernel_rfl
theorem ok36 : chkFn Go.Proofs.Tryz.prog (chkD Go.Proofs.Tryz.prog) 36 fn36 = true := by kernel_rfl
theorem ok40 : chkFn Go.Proofs.Tryz.prog (chkD Go.Proofs.Tryz.prog) 40 fn40 = true := by kernel_rfl
theorem ok55 : chkFn Go.Proofs.Tryz.prog (chkD Go.Proofs.Tryz.prog) 55 fn55 = true := by kernel_rfl
theorem ok60 : chkFn Go.Proofs.Tryz.prog (chkD Go.Proofs.Tryz.prog) 60 fn60 = true := by kernel_rfl
theorem ok65 : chkFn Go.Proofs.Tryz.prog (chkD Go.Proofs.Tryz.prog) 65 fn65 = true := by kernel_rfl
theorem ok86 : chkFn Go.Proofs.Tryz.prog (chkD Go.Proofs.Tryz.prog) 86 fn86 = true := by kernel_rfl
theorem ok90 : chkFn Go.Proofs.Tryz.prog (chkD Go.Proofs.Tryz.prog) 90 fn90 = true := by kernel_rfl
theorem ok114 : chkFn Go.Proofs.Tryz.prog (chkD Go.Proofs.Tryz.prog) 114 fn114 = true := by kernel_rfl
theorem ok125 : chkFn Go.Proofs.Tryz.prog (chkD Go.Proofs.Tryz.prog) 125 fn125 = true := by kernel_rfl
theorem ok129 : chkFn Go.Proofs.Tryz.prog (chkD Go.Proofs.Tryz.prog) 129 fn129 = true := by kernel_rfl
theorem ok148 : chkFn Go.Proofs.Tryz.prog (chkD Go.Proofs.Tryz.prog) 148 fn148 = true := by kernel_rfl
theorem ok160 : chkFn Go.Proofs.Tryz.prog (chkD Go.Proofs.Tryz.prog) 160 fn160 = true := by kernel_rfl
theorem ok164 : chkFn Go.Proofs.Tryz.prog (chkD Go.Proofs.Tryz.prog) 164 fn164 = true := by kernel_rfl
theorem ok177 : chkFn Go.Proofs.Tryz.prog (chkD Go.Proofs.Tryz.prog) 177 fn177 = true := by kernel_rfl
theorem ok191 : chkFn Go.Proofs.Tryz.prog (chkD Go.Proofs.Tryz.prog) 191 fn191 = true := by kernel_rfl
theorem ok213 : chkFn Go.Proofs.Tryz.prog (chkD Go.Proofs.Tryz.prog) 213 fn213 = true := by kernel_rfl
theorem ok242 : chkFn Go.Proofs.Tryz.prog (chkD Go.Proofs.Tryz.prog) 242 fn242 = true := by kernel_rfl
end Go.Am
set_option maxRecDepth 100000
namespace Go.Am
open Go
theorem ok7 : chkFn Go.Proofs.Tryz.prog (chkD Go.Proofs.Tryz.prog) 7 fn7 = true := by kernel_rfl
theorem ok11 : chkFn Go.Proofs.Tryz.prog (chkD Go.Proofs.Tryz.prog) 11 fn11 = true := by kernel_rfl
theorem ok15 : chkFn Go.Proofs.Tryz.prog (chkD Go.Proofs.Tryz.prog) 15 fn15 = true := by kernel_rfl
theorem ok23 : chkFn Go.Proofs.Tryz.prog (chkD Go.Proofs.Tryz.prog) 23 fn23 = true := by kernel_rfl
theorem ok29 : chkFn Go.Proofs.Tryz.prog (chkD Go.Proofs.Tryz.prog) 29 fn29 = true := by kernel_rfl
theorem ok37 : chkFn Go.Proofs.Tryz.prog (chkD Go.Proofs.Tryz.prog) 37 fn37 = true := by kernel_rfl
theorem ok41 : chkFn Go.Proofs.Tryz.prog (chkD Go.Proofs.Tryz.prog) 41 fn41 = true := by kernel_rfl
theorem ok56 : chkFn Go.Proofs.Tryz.prog (chkD Go.Proofs.Tryz.prog) 56 fn56 = true := by kernel_rfl
theorem ok61 : chkFn Go.Proofs.Tryz.prog (chkD Go.Proofs.Tryz.prog) 61 fn61 = true := by kernel_rfl
theorem ok76 : chkFn Go.Proofs.Tryz.prog (chkD Go.Proofs.Tryz.prog) 76 fn76 = true := by kernel_rfl
theorem ok87 : chkFn Go.Proofs.Tryz.prog (chkD Go.Proofs.Tryz.prog) 87 fn87 = true := by kernel_rfl
theorem ok93 : chkFn Go.Proofs.Tryz.prog (chkD Go.Proofs.Tryz.prog) 93 fn93 = true := by kernel_rfl
theorem ok115 : chkFn Go.Proofs.Tryz.prog (chkD Go.Proofs.Tryz.prog) 115 fn115 = true := by kernel_rfl
theorem ok126 : chkFn Go.Proofs.Tryz.prog (chkD Go.Proofs.Tryz.prog) 126 fn126 = true := by kernel_rfl
theorem ok137 : chkFn Go.Proofs.Tryz.prog (chkD Go.Proofs.Tryz.prog) 137 fn137 = true := by kernel_rfl
theorem ok153 : chkFn Go.Proofs.Tryz.prog (chkD Go.Proofs.Tryz.prog) 153 fn153 = true := by kernel_rfl
theorem ok161 : chkFn Go.Proofs.Tryz.prog (chkD Go.Proofs.Tryz.prog) 161 fn161 = true := by kernel_rfl
theorem ok168 : chkFn Go.Proofs.Tryz.prog (chkD Go.Proofs.Tryz.prog) 168 fn168 = true := by kernel_rfl
theorem ok179 : chkFn Go.Proofs.Tryz.prog (chkD Go.Proofs.Tryz.prog) 179 fn179 = true := by kernel_rfl
theorem ok194 : chkFn Go.Proofs.Tryz.prog (chkD Go.Proofs.Tryz.prog) 194 fn194 = true := by kernel_rfl
theorem ok219 : chkFn Go.Proofs.Tryz.prog (chkD Go.Proofs.Tryz.prog) 219 fn219 = true := by kernel_rfl
end Go.Am
set_option maxRecDepth 100000
namespace Go.Am
open Go
theorem ok8 : chkFn Go.Proofs.Tryz.prog (chkD Go.Proofs.Tryz.prog) 8 fn8 = true := by kernel_rfl
theorem ok12 : chkFn Go.Proofs.Tryz.prog (chkD Go.Proofs.Tryz.prog) 12 fn12 = true := by kernel_rfl
theorem ok16 : chkFn Go.Proofs.Tryz.prog (chkD Go.Proofs.Tryz.prog) 16 fn16 = true := by kernel_rfl
theorem ok26 : chkFn Go.Proofs.Tryz.prog (chkD Go.Proofs.Tryz.prog) 26 fn26 = true := by kernel_rfl
theorem ok30 : chkFn Go.Proofs.Tryz.prog (chkD Go.Proofs.Tryz.prog) 30 fn30 = true := by kernel_rfl
theorem ok38 : chkFn Go.Proofs.Tryz.prog (chkD Go.Proofs.Tryz.prog) 38 fn38 = true := by kernel_rfl
theorem ok47 : chkFn Go.Proofs.Tryz.prog (chkD Go.Proofs.Tryz.prog) 47 fn47 = true := by kernel_rfl
theorem ok57 : chkFn Go.Proofs.Tryz.prog (chkD Go.Proofs.Tryz.prog) 57 fn57 = true := by kernel_rfl
theorem ok62 : chkFn Go.Proofs.Tryz.prog (chkD Go.Proofs.Tryz.prog) 62 fn62 = true := by kernel_rfl
theorem ok77 : chkFn Go.Proofs.Tryz.prog (chkD Go.Proofs.Tryz.prog) 77 fn77 = true := by kernel_rfl
theorem ok88 : chkFn Go.Proofs.Tryz.prog (chkD Go.Proofs.Tryz.prog) 88 fn88 = true := by kernel_rfl
theorem ok98 : chkFn Go.Proofs.Tryz.prog (chkD Go.Proofs.Tryz.prog) 98 fn98 = true := by kernel_rfl
theorem ok116 : chkFn Go.Proofs.Tryz.prog (chkD Go.Proofs.Tryz.prog) 116 fn116 = true := by kernel_rfl
theorem ok127 : chkFn Go.Proofs.Tryz.prog (chkD Go.Proofs.Tryz.prog) 127 fn127 = true := by kernel_rfl
theorem ok138 : chkFn Go.Proofs.Tryz.prog (chkD Go.Proofs.Tryz.prog) 138 fn138 = true := by kernel_rfl
theorem ok154 : chkFn Go.Proofs.Tryz.prog (chkD Go.Proofs.Tryz.prog) 154 fn154 = true := by kernel_rfl
theorem ok162 : chkFn Go.Proofs.Tryz.prog (chkD Go.Proofs.Tryz.prog) 162 fn162 = true := by kernel_rfl
theorem ok170 : chkFn Go.Proofs.Tryz.prog (chkD Go.Proofs.Tryz.prog) 170 fn170 = true := by kernel_rfl
theorem ok185 : chkFn Go.Proofs.Tryz.prog (chkD Go.Proofs.Tryz.prog) 185 fn185 = true := by kernel_rfl
theorem ok197 : chkFn Go.Proofs.Tryz.prog (chkD Go.Proofs.Tryz.prog) 197 fn197 = true := by kernel_rfl
theorem ok220 : chkFn Go.Proofs.Tryz.prog (chkD Go.Proofs.Tryz.prog) 220 fn220 = true := by kernel_rfl
end Go.Am
set_option maxRecDepth 100000
namespace Go.Am
open Go
theorem fnTr_ok : TrAll (fun f af => af.body = .bad ∨ chkFn Go.Proofs.Tryz.prog (chkD Go.Proofs.Tryz.prog) f af = true) 0 1 fnTr :=
  ⟨(.inl rfl),⟨(.inl rfl),⟨(.inl rfl),⟨(.inr ok7),⟨(.inr ok15),⟨(.inl rfl),⟨(.inr ok63),⟨(.inr ok127),trivial,trivial⟩,⟨(.inr ok191),trivial,trivial⟩⟩,⟨(.inl rfl),⟨(.inr ok159),trivial,trivial⟩,trivial⟩⟩,⟨(.inr ok47),trivial,trivial⟩⟩,⟨(.inr ok23),⟨(.inr ok39),trivial,trivial⟩,⟨(.inr ok55),⟨(.inr ok87),trivial,trivial⟩,trivial⟩⟩⟩,⟨(.inr ok11),⟨(.inl rfl),⟨(.inr ok35),trivial,⟨(.inl rfl),⟨(.inr ok163),trivial,trivial⟩,trivial⟩⟩,⟨(.inl rfl),trivial,⟨(.inr ok115),⟨(.inr ok179),trivial,trivial⟩,trivial⟩⟩⟩,⟨(.inr ok27),trivial,⟨(.inl rfl),⟨(.inl rfl),trivial,⟨(.inr ok219),trivial,trivial⟩⟩,trivial⟩⟩⟩⟩,⟨(.inr ok5),⟨(.inr ok9),⟨(.inl rfl),⟨(.inl rfl),⟨(.inr ok65),⟨(.inr ok129),trivial,trivial⟩,trivial⟩,⟨(.inl rfl),⟨(.inr ok161),trivial,trivial⟩,trivial⟩⟩,⟨(.inl rfl),trivial,⟨(.inl rfl),⟨(.inr ok177),trivial,trivial⟩,trivial⟩⟩⟩,⟨(.inl rfl),⟨(.inr ok41),⟨(.inl rfl),⟨(.inr ok137),trivial,trivial⟩,trivial⟩,trivial⟩,⟨(.inr ok57),⟨(.inr ok89),⟨(.inr ok153),trivial,trivial⟩,trivial⟩,⟨(.inl rfl),⟨(.inr ok185),trivial,trivial⟩,trivial⟩⟩⟩⟩,⟨(.inr ok13),⟨(.inr ok21),⟨(.inr ok37),⟨(.inl rfl),trivial,⟨(.inr ok197),trivial,trivial⟩⟩,trivial⟩,⟨(.inl rfl),⟨(.inl rfl),trivial,⟨(.inr ok213),trivial,trivial⟩⟩,trivial⟩⟩,⟨(.inr ok29),⟨(.inl rfl),⟨(.inr ok77),trivial,trivial⟩,trivial⟩,⟨(.inr ok61),⟨(.inr ok93),trivial,trivial⟩,⟨(.inr ok125),trivial,trivial⟩⟩⟩⟩⟩⟩,⟨(.inl rfl),⟨(.inl rfl),⟨(.inr ok8),⟨(.inr ok16),⟨(.inl rfl),⟨(.inl rfl),⟨(.inr ok128),trivial,trivial⟩,trivial⟩,⟨(.inl rfl),⟨(.inr ok160),trivial,trivial⟩,⟨(.inr ok224),trivial,trivial⟩⟩⟩,⟨(.inl rfl),trivial,⟨(.inr ok112),⟨(.inr ok176),trivial,trivial⟩,trivial⟩⟩⟩,⟨(.inl rfl),⟨(.inr ok40),trivial,⟨(.inl rfl),⟨(.inr ok168),trivial,trivial⟩,trivial⟩⟩,⟨(.inr ok56),⟨(.inr ok88),trivial,trivial⟩,trivial⟩⟩⟩,⟨(.inr ok12),⟨(.inl rfl),⟨(.inr ok36),trivial,⟨(.inl rfl),⟨(.inr ok164),trivial,trivial⟩,trivial⟩⟩,⟨(.inl rfl),⟨(.inl rfl),⟨(.inr ok148),trivial,trivial⟩,⟨(.inr ok212),trivial,trivial⟩⟩,⟨(.inr ok116),trivial,trivial⟩⟩⟩,⟨(.inr ok28),⟨(.inl rfl),⟨(.inr ok76),⟨(.inr ok140),trivial,trivial⟩,trivial⟩,trivial⟩,⟨(.inr ok60),⟨(.inl rfl),trivial,⟨(.inr ok220),trivial,trivial⟩⟩,⟨(.inr ok124),trivial,trivial⟩⟩⟩⟩⟩,⟨(.inr ok6),⟨(.inr ok10),⟨(.inl rfl),⟨(.inl rfl),⟨(.inl rfl),trivial,⟨(.inr ok194),trivial,trivial⟩⟩,⟨(.inr ok98),⟨(.inr ok162),trivial,trivial⟩,trivial⟩⟩,⟨(.inl rfl),trivial,⟨(.inr ok114),trivial,⟨(.inr ok242),trivial,trivial⟩⟩⟩⟩,⟨(.inr ok26),⟨(.inl rfl),⟨(.inl rfl),⟨(.inr ok138),trivial,trivial⟩,trivial⟩,⟨(.inl rfl),⟨(.inr ok170),trivial,trivial⟩,trivial⟩⟩,⟨(.inr ok58),⟨(.inr ok90),⟨(.inr ok154),trivial,trivial⟩,trivial⟩,trivial⟩⟩⟩,⟨(.inr ok14),⟨(.inr ok22),⟨(.inr ok38),trivial,trivial⟩,⟨(.inr ok54),⟨(.inr ok86),trivial,trivial⟩,trivial⟩⟩,⟨(.inr ok30),⟨(.inl rfl),⟨(.inr ok78),trivial,trivial⟩,trivial⟩,⟨(.inr ok62),trivial,⟨(.inr ok126),⟨(.inr ok190),trivial,trivial⟩,trivial⟩⟩⟩⟩⟩⟩⟩
theorem fns_ok (E : Env) (h : E.fns = Tr.get fnNo fnTr) : FnsOk Go.Proofs.Tryz.prog E (chkD Go.Proofs.Tryz.prog) := fnsOk_of_tr h rfl fnTr_ok
end Go.Am
