import Derived.Shelf.Strings.Builder1
import Derived.Shelf.Strings.OnBuilder
import Derived.Shelf.Strings.Search1
import Derived.Shelf.Strings.Search2
import Derived.Shelf.Strings.Count
import Derived.Shelf.Small.Strs
import Derived.Shelf.Small.Bits
import Derived.Shelf.SlSortCmp.WholeK
import Derived.Test.YtnacifjcjnhgpaaGreatDoorProg
import Derived.Test.YtnacifjcjnhgpaaGreatDoorAmG
import Derived.WalkKit
import Derived.WalkSpells
import Derived.Tactics
import Derived.Tactics2
import Derived.StillTactics
import Derived.Laws.AppendOwn
import Derived.Laws.Build
import Derived.Laws.Entries
import Derived.Laws.Append
import Derived.Laws.World
import Derived.Laws.Sem
import Derived.Laws.Slices
import Derived.Laws.Alloc2
import Derived.Laws.NewBlocks
import Derived.Laws.Cells
import Derived.Laws.OwnMore
import Derived.LoopTactic
import Derived.LoopN
import Derived.Laws.Externs
import Derived.LaidEql
import Derived.Stop.Asserts
import Derived.RowKitTokens
set_option linter.all false
namespace Go.Proofs
open Go.Shelf
def Tryz.lays169_ren : Go.Shelf.Ren := ⟨fun | 169 => 48 | n => n, fun | 70 => 123 | 9 => 9 | 0 => 0 | 72 => 126 | 37 => 124 | 127 => 183 | 3 => 3 | 5 => 5 | n => n, fun | n => n⟩
theorem Tryz.lays169 : Go.Proofs.Lays.n169 Tryz.prog Tryz.lays169_ren := {
  mixed := by kernel_rfl
  f169 := Tryz.func48.trans (congrArg some (by kernel_rfl))
  t0 := Tryz.underlying0
  a0 := Tryz.isAgg0
  z0 := Tryz.sizeOf0
  v0 := Tryz.zeroValue0
  t3 := Tryz.underlying3
  a3 := Tryz.isAgg3
  z3 := Tryz.sizeOf3
  v3 := Tryz.zeroValue3
  t9 := Tryz.underlying9
  a9 := Tryz.isAgg9
  z9 := Tryz.sizeOf9
  v9 := Tryz.zeroValue9
  t37 := Tryz.underlying124
  a37 := Tryz.isAgg124
  z37 := Tryz.sizeOf124
  v37 := Tryz.zeroValue124
  t70 := Tryz.underlying123
  a70 := Tryz.isAgg123
  z70 := Tryz.sizeOf123
  v70 := Tryz.zeroValue123
  t72 := Tryz.underlying126
  a72 := Tryz.isAgg126
  z72 := Tryz.sizeOf126
  v72 := Tryz.zeroValue126
  t127 := Tryz.underlying183
  a127 := Tryz.isAgg183
  z127 := Tryz.sizeOf183
  v127 := Tryz.zeroValue183 }
theorem Tryz.Builder_Extra_169 : Builder.Extra Tryz.prog Tryz.lays169_ren := {
  sizeBuilder := by kernel_rfl
  liesBuilder := by kernel_rfl
  t5 := Tryz.underlying5
  a5 := Tryz.isAgg5
  z5 := Tryz.sizeOf5
  v5 := Tryz.zeroValue5
  infoByte := by kernel_rfl
  cellsByte := by kernel_rfl
  sizeByte := by kernel_rfl
  neB5 := by decide }
def Tryz.lays156_ren : Go.Shelf.Ren := ⟨fun | 156 => 61 | 165 => 106 | 166 => 49 | 169 => 48 | 240 => 89 | 241 => 182 | 276 => 155 | 277 => 259 | n => n, fun | 31 => 30 | 9 => 9 | 3 => 3 | 4 => 4 | 0 => 0 | 20 => 20 | 72 => 126 | 76 => 131 | 70 => 123 | 37 => 124 | 75 => 130 | 127 => 183 | 164 => 247 | 5 => 5 | 80 => 128 | n => n, fun | n => n⟩
theorem Tryz.lays156 : Go.Proofs.Lays.n156 Tryz.prog Tryz.lays156_ren := {
  mixed := by kernel_rfl
  f156 := Tryz.func61.trans (congrArg some (by kernel_rfl))
  f165 := Tryz.func106.trans (congrArg some (by kernel_rfl))
  f166 := Tryz.func49.trans (congrArg some (by kernel_rfl))
  f169 := Tryz.func48.trans (congrArg some (by kernel_rfl))
  f240 := Tryz.func89.trans (congrArg some (by kernel_rfl))
  f241 := Tryz.func182.trans (congrArg some (by kernel_rfl))
  f276 := Tryz.func155.trans (congrArg some (by kernel_rfl))
  f277 := Tryz.func259.trans (congrArg some (by kernel_rfl))
  t0 := Tryz.underlying0
  a0 := Tryz.isAgg0
  z0 := Tryz.sizeOf0
  v0 := Tryz.zeroValue0
  t3 := Tryz.underlying3
  a3 := Tryz.isAgg3
  z3 := Tryz.sizeOf3
  v3 := Tryz.zeroValue3
  t4 := Tryz.underlying4
  a4 := Tryz.isAgg4
  z4 := Tryz.sizeOf4
  v4 := Tryz.zeroValue4
  t9 := Tryz.underlying9
  a9 := Tryz.isAgg9
  z9 := Tryz.sizeOf9
  v9 := Tryz.zeroValue9
  t20 := Tryz.underlying20
  a20 := Tryz.isAgg20
  z20 := Tryz.sizeOf20
  v20 := Tryz.zeroValue20
  t31 := Tryz.underlying30
  a31 := Tryz.isAgg30
  z31 := Tryz.sizeOf30
  v31 := Tryz.zeroValue30
  t37 := Tryz.underlying124
  a37 := Tryz.isAgg124
  z37 := Tryz.sizeOf124
  v37 := Tryz.zeroValue124
  t70 := Tryz.underlying123
  a70 := Tryz.isAgg123
  z70 := Tryz.sizeOf123
  v70 := Tryz.zeroValue123
  t72 := Tryz.underlying126
  a72 := Tryz.isAgg126
  z72 := Tryz.sizeOf126
  v72 := Tryz.zeroValue126
  t75 := Tryz.underlying130
  a75 := Tryz.isAgg130
  z75 := Tryz.sizeOf130
  v75 := Tryz.zeroValue130
  t76 := Tryz.underlying131
  a76 := Tryz.isAgg131
  z76 := Tryz.sizeOf131
  v76 := Tryz.zeroValue131
  t127 := Tryz.underlying183
  a127 := Tryz.isAgg183
  z127 := Tryz.sizeOf183
  v127 := Tryz.zeroValue183
  t164 := Tryz.underlying247
  a164 := Tryz.isAgg247
  z164 := Tryz.sizeOf247
  v164 := Tryz.zeroValue247 }
theorem Tryz.Builder_Extra_156 : Builder.Extra Tryz.prog Tryz.lays156_ren := {
  sizeBuilder := by kernel_rfl
  liesBuilder := by kernel_rfl
  t5 := Tryz.underlying5
  a5 := Tryz.isAgg5
  z5 := Tryz.sizeOf5
  v5 := Tryz.zeroValue5
  infoByte := by kernel_rfl
  cellsByte := by kernel_rfl
  sizeByte := by kernel_rfl
  neB5 := by decide }
open Go.RowKit in
theorem Tryz.strings_Join_none (a : Option Addr) (c : Nat) (sep : ByteArray) (w : World) :
    Calls Tryz.prog 61 #[.slice a 0 c, .string sep] w fun e w' => e = .returned (.string ⟨#[]⟩) ∧ w' = w := Any.strings_Join_none Tryz.lays156 Tryz.Builder_Extra_156 a c sep w
open Go.RowKit in
theorem Tryz.strings_Join (bk o c : Nat) (xs : List ByteArray) (sep : ByteArray) (w : World) (hcells : ∀ (j : Nat) x, xs[j]? = some x → w.cell? ⟨bk, o + j, none⟩ = some (.string x)) (hbk : bk < w.heap.size) (hN : xs.length ≤ 140737488355328) (hcap : xs.length ≤ c) (hlen : (Lib.join (xs.map (·.data.toList)) sep.data.toList).length ≤ 140737488355328) :
    Calls Tryz.prog 61 #[.slice (some ⟨bk, o, none⟩) xs.length c, .string sep] w fun e w' => e = .returned (.string ⟨(Lib.join (xs.map (·.data.toList)) sep.data.toList).toArray⟩) ∧ Below w.heap.size w w' := Any.strings_Join Tryz.lays156 Tryz.Builder_Extra_156 bk o c xs sep w hcells hbk hN hcap hlen
def Tryz.lays125_ren : Go.Shelf.Ren := ⟨fun | 125 => 86 | 128 => 151 | 129 => 152 | n => n, fun | 46 => 182 | 3 => 3 | 51 => 244 | 53 => 246 | 4 => 4 | 5 => 5 | 9 => 9 | n => n, fun | n => n⟩
theorem Tryz.lays125 : Go.Proofs.Lays.n125 Tryz.prog Tryz.lays125_ren := {
  mixed := by kernel_rfl
  f125 := Tryz.func86.trans (congrArg some (by kernel_rfl))
  f128 := Tryz.func151.trans (congrArg some (by kernel_rfl))
  f129 := Tryz.func152.trans (congrArg some (by kernel_rfl))
  t3 := Tryz.underlying3
  a3 := Tryz.isAgg3
  z3 := Tryz.sizeOf3
  v3 := Tryz.zeroValue3
  t4 := Tryz.underlying4
  a4 := Tryz.isAgg4
  z4 := Tryz.sizeOf4
  v4 := Tryz.zeroValue4
  t5 := Tryz.underlying5
  a5 := Tryz.isAgg5
  z5 := Tryz.sizeOf5
  v5 := Tryz.zeroValue5
  t9 := Tryz.underlying9
  a9 := Tryz.isAgg9
  z9 := Tryz.sizeOf9
  v9 := Tryz.zeroValue9
  t46 := Tryz.underlying182
  a46 := Tryz.isAgg182
  z46 := Tryz.sizeOf182
  v46 := Tryz.zeroValue182
  t51 := Tryz.underlying244
  a51 := Tryz.isAgg244
  z51 := Tryz.sizeOf244
  v51 := Tryz.zeroValue244
  t53 := Tryz.underlying246
  a53 := Tryz.isAgg246
  z53 := Tryz.sizeOf246
  v53 := Tryz.zeroValue246 }
def Tryz.lays106_ren : Go.Shelf.Ren := ⟨fun | 106 => 45 | 213 => 87 | 265 => 153 | n => n, fun | 9 => 9 | 3 => 3 | n => n, fun | n => n⟩
theorem Tryz.lays106 : Go.Proofs.Lays.n106 Tryz.prog Tryz.lays106_ren := {
  mixed := by kernel_rfl
  f106 := Tryz.func45.trans (congrArg some (by kernel_rfl))
  f213 := Tryz.func87.trans (congrArg some (by kernel_rfl))
  f265 := Tryz.func153.trans (congrArg some (by kernel_rfl))
  t3 := Tryz.underlying3
  a3 := Tryz.isAgg3
  z3 := Tryz.sizeOf3
  v3 := Tryz.zeroValue3
  t9 := Tryz.underlying9
  a9 := Tryz.isAgg9
  z9 := Tryz.sizeOf9
  v9 := Tryz.zeroValue9 }
open Go.RowKit in
theorem Tryz.strings_Compare (a b : ByteArray) (w : World) :
    Calls Tryz.prog 45 #[.string a, .string b] w fun e w' => e = .returned (.int .i64 (Lib.compareBytes a.data.toList b.data.toList)) ∧ w' = w := Any.strings_Compare Tryz.lays106 a b w
def Tryz.lays217_ren : Go.Shelf.Ren := ⟨fun | 217 => 88 | 266 => 154 | n => n, fun | 9 => 9 | 5 => 5 | 3 => 3 | n => n, fun | n => n⟩
theorem Tryz.lays217 : Go.Proofs.Lays.n217 Tryz.prog Tryz.lays217_ren := {
  mixed := by kernel_rfl
  f217 := Tryz.func88.trans (congrArg some (by kernel_rfl))
  f266 := Tryz.func154.trans (congrArg some (by kernel_rfl))
  t3 := Tryz.underlying3
  a3 := Tryz.isAgg3
  z3 := Tryz.sizeOf3
  v3 := Tryz.zeroValue3
  t5 := Tryz.underlying5
  a5 := Tryz.isAgg5
  z5 := Tryz.sizeOf5
  v5 := Tryz.zeroValue5
  t9 := Tryz.underlying9
  a9 := Tryz.isAgg9
  z9 := Tryz.sizeOf9
  v9 := Tryz.zeroValue9 }
open Go.RowKit Go.Lib in
theorem Tryz.stringslite_IndexByte (s : ByteArray) (c : Int) (w : World) :
    Calls Tryz.prog 88 #[.string s, .int .u8 c] w fun e w' => e = .returned (.int .i64 (Lib.indexByte s.data.toList c.toNat.toUInt8)) ∧ w' = w := Any.stringslite_IndexByte Tryz.lays217 s c w
def Tryz.lays219_ren : Go.Shelf.Ren := ⟨fun | 219 => 258 | 217 => 88 | 225 => 310 | 224 => 311 | 267 => 312 | 266 => 154 | 314 => 350 | n => n, fun | 9 => 9 | 3 => 3 | 4 => 4 | 5 => 5 | 46 => 182 | 146 => 395 | 51 => 244 | n => n, fun | 1 => 0 | n => n⟩
theorem Tryz.lays219 : Go.Proofs.Lays.n219 Tryz.prog Tryz.lays219_ren := {
  mixed := by kernel_rfl
  f217 := Tryz.func88.trans (congrArg some (by kernel_rfl))
  f219 := Tryz.func258.trans (congrArg some (by kernel_rfl))
  f224 := Tryz.func311.trans (congrArg some (by kernel_rfl))
  f225 := Tryz.func310.trans (congrArg some (by kernel_rfl))
  f266 := Tryz.func154.trans (congrArg some (by kernel_rfl))
  f267 := Tryz.func312.trans (congrArg some (by kernel_rfl))
  f314 := Tryz.func350.trans (congrArg some (by kernel_rfl))
  t3 := Tryz.underlying3
  a3 := Tryz.isAgg3
  z3 := Tryz.sizeOf3
  v3 := Tryz.zeroValue3
  t4 := Tryz.underlying4
  a4 := Tryz.isAgg4
  z4 := Tryz.sizeOf4
  v4 := Tryz.zeroValue4
  t5 := Tryz.underlying5
  a5 := Tryz.isAgg5
  z5 := Tryz.sizeOf5
  v5 := Tryz.zeroValue5
  t9 := Tryz.underlying9
  a9 := Tryz.isAgg9
  z9 := Tryz.sizeOf9
  v9 := Tryz.zeroValue9
  t46 := Tryz.underlying182
  a46 := Tryz.isAgg182
  z46 := Tryz.sizeOf182
  v46 := Tryz.zeroValue182
  t51 := Tryz.underlying244
  a51 := Tryz.isAgg244
  z51 := Tryz.sizeOf244
  v51 := Tryz.zeroValue244
  t146 := Tryz.underlying395
  a146 := Tryz.isAgg395
  z146 := Tryz.sizeOf395
  v146 := Tryz.zeroValue395
  g1 := by kernel_rfl }
open Go.RowKit Go.Lib in
theorem Tryz.stringslite_Index_one (s : ByteArray) (c : UInt8) (w : World) :
    Calls Tryz.prog 258 #[.string s, .string ⟨#[c]⟩] w fun e w' => e = .returned (.int .i64 (Lib.indexByte s.data.toList c)) ∧ w' = w := Any.stringslite_Index_one Tryz.lays219 s c w
def Tryz.lays138_ren : Go.Shelf.Ren := ⟨fun | 138 => 180 | 195 => 255 | 218 => 257 | 143 => 181 | 219 => 258 | 217 => 88 | 225 => 310 | 224 => 311 | 267 => 312 | 266 => 154 | 314 => 350 | n => n, fun | 9 => 9 | 3 => 3 | 4 => 4 | 5 => 5 | 0 => 0 | 46 => 182 | 146 => 395 | 51 => 244 | n => n, fun | 1 => 0 | n => n⟩
theorem Tryz.lays138 : Go.Proofs.Lays.n138 Tryz.prog Tryz.lays138_ren := {
  mixed := by kernel_rfl
  f138 := Tryz.func180.trans (congrArg some (by kernel_rfl))
  f143 := Tryz.func181.trans (congrArg some (by kernel_rfl))
  f195 := Tryz.func255.trans (congrArg some (by kernel_rfl))
  f217 := Tryz.func88.trans (congrArg some (by kernel_rfl))
  f218 := Tryz.func257.trans (congrArg some (by kernel_rfl))
  f219 := Tryz.func258.trans (congrArg some (by kernel_rfl))
  f224 := Tryz.func311.trans (congrArg some (by kernel_rfl))
  f225 := Tryz.func310.trans (congrArg some (by kernel_rfl))
  f266 := Tryz.func154.trans (congrArg some (by kernel_rfl))
  f267 := Tryz.func312.trans (congrArg some (by kernel_rfl))
  f314 := Tryz.func350.trans (congrArg some (by kernel_rfl))
  t0 := Tryz.underlying0
  a0 := Tryz.isAgg0
  z0 := Tryz.sizeOf0
  v0 := Tryz.zeroValue0
  t3 := Tryz.underlying3
  a3 := Tryz.isAgg3
  z3 := Tryz.sizeOf3
  v3 := Tryz.zeroValue3
  t4 := Tryz.underlying4
  a4 := Tryz.isAgg4
  z4 := Tryz.sizeOf4
  v4 := Tryz.zeroValue4
  t5 := Tryz.underlying5
  a5 := Tryz.isAgg5
  z5 := Tryz.sizeOf5
  v5 := Tryz.zeroValue5
  t9 := Tryz.underlying9
  a9 := Tryz.isAgg9
  z9 := Tryz.sizeOf9
  v9 := Tryz.zeroValue9
  t46 := Tryz.underlying182
  a46 := Tryz.isAgg182
  z46 := Tryz.sizeOf182
  v46 := Tryz.zeroValue182
  t51 := Tryz.underlying244
  a51 := Tryz.isAgg244
  z51 := Tryz.sizeOf244
  v51 := Tryz.zeroValue244
  t146 := Tryz.underlying395
  a146 := Tryz.isAgg395
  z146 := Tryz.sizeOf395
  v146 := Tryz.zeroValue395
  g1 := by kernel_rfl }
open Go.RowKit Go.Lib in
theorem Tryz.strings_Count_one (s : ByteArray) (c : UInt8) (w : World) :
    Calls Tryz.prog 180 #[.string s, .string ⟨#[c]⟩] w fun e w' => e = .returned (.int .i64 (Lib.countByte s.data.toList c)) ∧ w' = w := Any.strings_Count_one Tryz.lays138 s c w
def Tryz.sortV_ren : Go.Shelf.Ren := ⟨fun | 6 => 43 | 15 => 86 | 14 => 85 | 28 => 151 | 29 => 152 | 20 => 143 | 21 => 144 | 22 => 145 | 23 => 146 | 24 => 147 | 25 => 148 | 26 => 149 | 27 => 150 | 46 => 221 | 47 => 222 | 48 => 223 | 49 => 224 | 50 => 225 | 57 => 283 | n => n, fun | 22 => 27 | 24 => 54 | 25 => 121 | 3 => 3 | 39 => 182 | 0 => 0 | 53 => 244 | 55 => 246 | 4 => 4 | 46 => 238 | 45 => 237 | 50 => 197 | 5 => 5 | 9 => 9 | 66 => 307 | 70 => 311 | 76 => 345 | 77 => 273 | n => n, fun | n => n⟩
theorem Tryz.sortV : Go.Proofs.SlLaysF0.n6 Tryz.prog Tryz.sortV_ren := {
  mixed := by kernel_rfl
  f6 := ⟨Tryz.f43.name, by decide, Tryz.func43.trans (congrArg some (by kernel_rfl))⟩
  f14 := ⟨Tryz.f85.name, by decide, Tryz.func85.trans (congrArg some (by kernel_rfl))⟩
  f15 := Tryz.func86.trans (congrArg some (by kernel_rfl))
  f20 := ⟨Tryz.f143.name, by decide, Tryz.func143.trans (congrArg some (by kernel_rfl))⟩
  f21 := ⟨Tryz.f144.name, by decide, Tryz.func144.trans (congrArg some (by kernel_rfl))⟩
  f22 := ⟨Tryz.f145.name, by decide, Tryz.func145.trans (congrArg some (by kernel_rfl))⟩
  f23 := ⟨Tryz.f146.name, by decide, Tryz.func146.trans (congrArg some (by kernel_rfl))⟩
  f24 := ⟨Tryz.f147.name, by decide, Tryz.func147.trans (congrArg some (by kernel_rfl))⟩
  f25 := ⟨Tryz.f148.name, by decide, Tryz.func148.trans (congrArg some (by kernel_rfl))⟩
  f26 := ⟨Tryz.f149.name, by decide, Tryz.func149.trans (congrArg some (by kernel_rfl))⟩
  f27 := ⟨Tryz.f150.name, by decide, Tryz.func150.trans (congrArg some (by kernel_rfl))⟩
  f28 := Tryz.func151.trans (congrArg some (by kernel_rfl))
  f29 := Tryz.func152.trans (congrArg some (by kernel_rfl))
  f46 := ⟨Tryz.f221.name, by decide, Tryz.func221.trans (congrArg some (by kernel_rfl))⟩
  f47 := Tryz.func222.trans (congrArg some (by kernel_rfl))
  f48 := Tryz.func223.trans (congrArg some (by kernel_rfl))
  f49 := ⟨Tryz.f224.name, by decide, Tryz.func224.trans (congrArg some (by kernel_rfl))⟩
  f50 := ⟨Tryz.f225.name, by decide, Tryz.func225.trans (congrArg some (by kernel_rfl))⟩
  f57 := ⟨Tryz.f283.name, by decide, Tryz.func283.trans (congrArg some (by kernel_rfl))⟩
  t0 := Tryz.underlying0
  a0 := Tryz.isAgg0
  z0 := Tryz.sizeOf0
  v0 := Tryz.zeroValue0
  t3 := Tryz.underlying3
  a3 := Tryz.isAgg3
  z3 := Tryz.sizeOf3
  v3 := Tryz.zeroValue3
  t4 := Tryz.underlying4
  a4 := Tryz.isAgg4
  z4 := Tryz.sizeOf4
  v4 := Tryz.zeroValue4
  t5 := Tryz.underlying5
  a5 := Tryz.isAgg5
  z5 := Tryz.sizeOf5
  v5 := Tryz.zeroValue5
  t9 := Tryz.underlying9
  a9 := Tryz.isAgg9
  z9 := Tryz.sizeOf9
  v9 := Tryz.zeroValue9
  t22 := Tryz.underlying27
  a22 := Tryz.isAgg27
  z22 := Tryz.sizeOf27
  v22 := Tryz.zeroValue27
  t25 := Tryz.underlying121
  a25 := Tryz.isAgg121
  z25 := Tryz.sizeOf121
  v25 := Tryz.zeroValue121
  t39 := Tryz.underlying182
  a39 := Tryz.isAgg182
  z39 := Tryz.sizeOf182
  v39 := Tryz.zeroValue182
  t45 := Tryz.underlying237
  a45 := Tryz.isAgg237
  z45 := Tryz.sizeOf237
  v45 := Tryz.zeroValue237
  t46 := Tryz.underlying238
  a46 := Tryz.isAgg238
  z46 := Tryz.sizeOf238
  v46 := Tryz.zeroValue238
  t50 := Tryz.underlying197
  a50 := Tryz.isAgg197
  z50 := Tryz.sizeOf197
  v50 := Tryz.zeroValue197
  t53 := Tryz.underlying244
  a53 := Tryz.isAgg244
  z53 := Tryz.sizeOf244
  v53 := Tryz.zeroValue244
  t55 := Tryz.underlying246
  a55 := Tryz.isAgg246
  z55 := Tryz.sizeOf246
  v55 := Tryz.zeroValue246
  t66 := Tryz.underlying307
  a66 := Tryz.isAgg307
  z66 := Tryz.sizeOf307
  v66 := Tryz.zeroValue307
  t70 := Tryz.underlying311
  a70 := Tryz.isAgg311
  z70 := Tryz.sizeOf311
  v70 := Tryz.zeroValue311
  t76 := Tryz.underlying345
  a76 := Tryz.isAgg345
  z76 := Tryz.sizeOf345
  v76 := Tryz.zeroValue345
  t77 := Tryz.underlying273
  a77 := Tryz.isAgg273
  z77 := Tryz.sizeOf273
  v77 := Tryz.zeroValue273 }
end Go.Proofs
namespace Go.Am
open Go Go.Proofs Go.RowKit Go.Sort

theorem cell_four_new (w : World) (a b c d : Value) (t : TypeId) : ∀ j u, [a, b, c, d][j]? = some u → (w.alloc (.cells #[a, b, c, d] t)).cell? ((⟨w.heap.size, 0, none⟩ : Addr).add j) = some u := by
  intro j u hj
  match j, hj with
  | 0, hj => simp at hj; subst hj; simp [Addr.add]
  | 1, hj => simp at hj; subst hj; simp [Addr.add]
  | 2, hj => simp at hj; subst hj; simp [Addr.add]
  | 3, hj => simp at hj; subst hj; simp [Addr.add]
  | j + 4, hj => simp at hj
theorem info54 : (Tryz.prog.info? 54).map (fun i => (i.zero, i.size, i.bytes)) = some (some (.agg #[.string ⟨#[]⟩, .string ⟨#[]⟩, .int .i64 0, .int .i64 0]), 4, 48) := by kernel_rfl
theorem ownsRow_of {w w' : World} {base : Nat} {e : TypeId} {size : Nat} {v : Value} {n : Nat} {xs : List Value} (h : w.ownsRow base e size v n xs) (hk : ∀ g, base ≤ g → w'.heap[g]? = w.heap[g]?) : w'.ownsRow base e size v n xs := by
  refine ⟨h.1, h.2.imp id ?_⟩
  rintro ⟨g, cap, cur, h1, h2, h3, h4⟩
  exact ⟨g, cap, cur, h1, h2, (hk g h2).trans h3, h4⟩
theorem filter_push (es : List MapEntry) (seen : Array Nat) (e : MapEntry) (he : e ∈ es) (hs : seen.contains e.born = false) (hn : (es.map (·.born)).Nodup) :
    (es.filter fun x => (seen.push e.born).contains x.born).Perm ((es.filter fun x => seen.contains x.born) ++ [e]) := by
  induction es with
  | nil => cases he
  | cons x es ih =>
    have hn' := List.nodup_cons.1 hn
    simp only [List.filter_cons, contains_push]
    rcases List.mem_cons.1 he with rfl | he'
    · have h1 : (e.born == e.born) = true := by simp
      simp only [hs, h1, Bool.or_true, if_true, Bool.false_eq_true, if_false]
      have h2 : (es.filter fun x => seen.contains x.born || x.born == e.born) = es.filter fun x => seen.contains x.born := by
        apply List.filter_congr
        intro y hy
        have : (y.born == e.born) = false := by
          cases hc : y.born == e.born with
          | false => rfl
          | true => exact absurd (List.mem_map.2 ⟨y, hy, beq_iff_eq.1 hc⟩) hn'.1
        rw [this, Bool.or_false]
      rw [h2]
      exact (List.perm_append_comm (l₁ := [e])).symm.symm
    · have h1 : (x.born == e.born) = false := by
        cases hc : x.born == e.born with
        | false => rfl
        | true => exact absurd (List.mem_map.2 ⟨e, he', (beq_iff_eq.1 hc).symm⟩) hn'.1
      have ih := ih he' hn'.2
      simp only [contains_push] at ih
      simp only [h1, Bool.or_false]
      cases seen.contains x.born with
      | true => simpa using ih
      | false => simpa using ih

/-- what a sort of variables does -/
def SortC (P : Program) (sf cl : FuncId) : Prop := ∀ (g cap : Nat) (d : List V4) (W : World), HoldsK encV 4 W g 0 d.toArray → g < W.heap.size → d.length ≤ 100000 →
  Calls P sf #[.slice (some ⟨g, 0, none⟩) d.length cap, .func (.func cl) #[] #[]] W fun e w' => e = .returned (.tuple #[]) ∧
    ∃ d' n os, PermIn 0 d.length d.toArray d' ∧ SortedIn (ltOf cfV) 0 d.length d' ∧ w' = sortWorldK encV 4 W g 0 n d' os
def SortN (P : Program) (sf cl : FuncId) : Prop := ∀ (W : World), Calls P sf #[.slice none 0 0, .func (.func cl) #[] #[]] W fun e w' => e = .returned (.tuple #[]) ∧ Below W.heap.size W w'
def AllPost (ty : TypeId) (w : World) (l : List V4) (e : Ending) (w' : World) : Prop :=
  Below w.heap.size w w' ∧ ((l = [] ∧ e = .returned (.slice none 0 0)) ∨ ∃ g cap cur, ∃ d : List V4, d ≠ [] ∧ d.Perm l ∧ d.Pairwise (fun x y => ltOf cfV y x = false) ∧ e = .returned (.slice (some ⟨g, 0, none⟩) d.length cap) ∧
    w.heap.size ≤ g ∧ w'.heap[g]? = some (.cells cur ty (0, 0)) ∧ d.length ≤ cap ∧ cur.size = cap * 4 ∧ ∀ i (hi : i < d.length) k, k < 4 → cur[i * 4 + k]? = (encV d[i])[k]?)

theorem fm_get : ∀ (c : List V4) (i k : Nat) (hi : i < c.length), k < 4 → (c.flatMap encV)[i * 4 + k]? = (encV c[i])[k]?
  | [], i, k, hi, _ => absurd hi (by simp)
  | x :: c, 0, k, hi, hk => by
    rw [List.flatMap_cons, List.getElem?_append_left (by simp [encV]; omega)]
    simp
  | x :: c, i + 1, k, hi, hk => by
    have hi' : i < c.length := by simpa using hi
    have := fm_get c i k hi' hk
    rw [List.flatMap_cons, List.getElem?_append_right (by simp [encV]; omega)]
    have e : (i + 1) * 4 + k - (encV x).length = i * 4 + k := by simp [encV]; omega
    rw [e, this]; rfl

theorem holds_own {w : World} {g cap : Nat} {cur : Array Value} {ty : TypeId} {c : List V4} (hg : w.heap[g]? = some (.cells cur ty (0, 0))) (hc : c.length ≤ cap) (hs : cur.size = cap * 4) (ht : cur.toList.take (c.length * 4) = c.flatMap encV) :
    HoldsK encV 4 w g 0 c.toArray := by
  intro j hj
  rw [size_flatK] at hj
  have hj' : j < c.length * 4 := by simpa using hj
  have hi : j / 4 < c.length := by omega
  have h1 : (c.flatMap encV)[j]? = (encV c[j / 4])[j % 4]? := by
    have := fm_get c (j / 4) (j % 4) hi (Nat.mod_lt _ (by decide))
    rwa [show j / 4 * 4 + j % 4 = j by omega] at this
  rw [← ht, List.getElem?_take, if_pos hj', Array.getElem?_toList] at h1
  have hlen : (encV c[j / 4]).length = 4 := rfl
  have hk4 : j % 4 < (encV c[j / 4]).length := by rw [hlen]; exact Nat.mod_lt _ (by decide)
  refine ⟨?_, by simp [World.frozen?, hg]⟩
  rw [get_flatK _ _ _ _ hj, Nat.zero_add]
  simp only [World.cell?, hg]
  have e1 : (c.toArray)[j / 4]! = c[j / 4] := by simp [hi]
  rw [e1, getElem!_pos (encV c[j / 4]) (j % 4) hk4]
  show cur[j]? = some _
  rw [h1, List.getElem?_eq_getElem hk4]
  rfl

theorem sorted_post {w : World} {g cap : Nat} {cur : Array Value} {ty : TypeId} {n : Nat} {d : Array V4} {os : Array Obj} (hg : w.heap[g]? = some (.cells cur ty (0, 0))) (hs : cur.size = cap * 4) (hd : d.size ≤ cap) :
    ∃ cur', (sortWorldK encV 4 w g 0 n d os).heap[g]? = some (.cells cur' ty (0, 0)) ∧ cur'.size = cap * 4 ∧ ∀ i (hi : i < d.size) k, k < 4 → cur'[i * 4 + k]? = (encV d[i])[k]? := by
  have hlt : g < w.heap.size := (Array.getElem?_eq_some_iff.1 hg).1
  refine ⟨putCells id 0 (flatK encV 4 d) cur, ?_, by simp [putCells, hs], fun i hi k hk => ?_⟩
  · unfold sortWorldK Go.Sort.grow
    have : g < (putRowK encV 4 (Sort.ahead w n) g 0 d).heap.size := by unfold putRowK; rw [Go.Sort.size_putRow]; exact hlt
    simp only [Array.getElem?_append, this, if_true]
    unfold putRowK putRow mapBlock
    simp only [Array.getElem?_modify, if_true]
    have : (Sort.ahead w n).heap[g]? = some (.cells cur ty (0, 0)) := hg
    rw [this]
    rfl
  · have hlt2 : i * 4 + k < d.size * 4 := by omega
    have hc : i * 4 + k < cur.size := by omega
    simp only [putCells, Array.getElem?_mapIdx, Array.getElem?_eq_getElem hc, Option.map_some, size_flatK]
    rw [if_pos ⟨Nat.zero_le _, by omega⟩]
    have e := get_flatK encV 4 d (i * 4 + k) hlt2
    have e1 : (i * 4 + k) / 4 = i := by omega
    have e2 : (i * 4 + k) % 4 = k := by omega
    rw [e1, e2] at e
    have e3 : d[i]! = d[i] := by simp [hi]
    rw [Nat.sub_zero, e, e3]
    have hk4 : k < (encV d[i]).length := hk
    rw [getElem!_pos (encV d[i]) k hk4, List.getElem?_eq_getElem hk4]
    rfl

theorem below_sort {w : World} {B g n : Nat} {d : Array V4} {os : Array Obj} (hB : B ≤ g) (hs : B ≤ w.heap.size) : Below B w (sortWorldK encV 4 w g 0 n d os) := by
  refine ⟨rfl, rfl, rfl, ?_, fun j hj => ?_⟩
  · unfold sortWorldK
    rw [Go.Sort.size_grow]
    unfold putRowK
    rw [Go.Sort.size_putRow]
    exact Nat.le_add_right _ _
  · unfold sortWorldK Go.Sort.grow
    have : j < (putRowK encV 4 (Sort.ahead w n) g 0 d).heap.size := by unfold putRowK; rw [Go.Sort.size_putRow]; show j < w.heap.size; omega
    simp only [Array.getElem?_append, this, if_true]
    unfold putRowK putRow mapBlock
    simp only [Array.getElem?_modify]
    rw [if_neg (by omega)]
    rfl
theorem sorted_list {lt : V4 → V4 → Bool} {d : Array V4} (h : SortedIn lt 0 d.size d) : d.toList.Pairwise (fun x y => lt y x = false) := by
  rw [List.pairwise_iff_getElem]
  intro i j hi hj hij
  have := h i j (Nat.zero_le _) hij (by simpa using hj)
  simpa [getElem!_pos, show i < d.size by simpa using hi, show j < d.size by simpa using hj] using this
theorem perm_list {d d' : Array V4} (h : PermIn 0 d.size d d') : d'.size = d.size ∧ d'.toList.Perm d.toList := by
  obtain ⟨h1, _, h3⟩ := h
  refine ⟨h1, ?_⟩
  have e1 : d'.extract 0 d.size = d' := by rw [← h1]; simp
  have e2 : d.extract 0 d.size = d := by simp
  rwa [e1, e2] at h3

set_option maxRecDepth 1000000 in
set_option maxHeartbeats 4000000 in
theorem all_walk (b o bm : Nat) (es : Array MapEntry) (clock : Nat) (dec : MapEntry → V4) (w : World)
    (hcell : w.cell? ⟨b, o, none⟩ = some (.map (some bm))) (hb : w.heap[bm]? = some (.map es clock)) (hst : (∀ x ∈ es.toList, x.born < clock) ∧ (es.toList.map (·.born)).Nodup) (hdec : ∀ e ∈ es.toList, e.val = .agg (encV (dec e)).toArray) (hes : es.size ≤ 100000)
    (hsort : SortC Tryz.prog 43 44) (hnil : SortN Tryz.prog 43 44) :
    Calls Tryz.prog 23 #[.pointer (some ⟨b, o, none⟩)] w (AllPost 54 w (es.toList.map dec)) := by
  obtain ⟨i0, hi, hz0, hz1, hz2⟩ := info_parts info54
  have hrg := run_range_map (P := Tryz.prog) w 111 9 54 bm es clock Tryz.underlying111 hb
  have hbl : bm < w.heap.size := (Array.getElem?_eq_some_iff.1 hb).1
  go_enter Tryz.func23, Tryz.ntmps23
  go_wp2
  go_loopw [3] (fun v wr => ∃ (seen : Array Nat) (c : List V4), wr.heap[w.heap.size]? = some (.mapIter (some bm) clock seen clock) ∧ wr.heap[bm]? = some (.map es clock) ∧
      wr.ownsRow (w.heap.size + 1) 54 4 v c.length (c.flatMap encV) ∧ c.Perm ((es.toList.filter fun e => seen.contains e.born).map dec) ∧ Below w.heap.size w wr ∧ (c = [] → v = .slice none 0 0))
    (fun _ wr => (leftOf es (wr.iterSeen w.heap.size)).size)
  case atStart =>
    refine ⟨#[], [], heap_alloc_new _ _, ?_, ?_, ?_, ?_⟩
    · exact (by simp only [World.alloc, Array.getElem?_push]; rw [if_neg (by omega)] : (w.alloc _).heap[bm]? = w.heap[bm]?).trans hb
    · exact ⟨rfl, .inl ⟨rfl, rfl⟩⟩
    · simp
    · exact ⟨(Below.refl _ _).alloc (Nat.le_refl _) _, fun _ => rfl⟩
  case round =>
    obtain ⟨seen, c, hr, hbw, hown, hperm, hbel, hcn⟩ := hrel
    have hseen : wr.iterSeen w.heap.size = seen := by unfold World.iterSeen; rw [hr]
    have law := run_next_at (P := Tryz.prog) wr 0 w.heap.size bm clock clock seen es clock hr hbw hst.1 (Nat.le_refl _)
    rcases law with ⟨h0, hrun⟩ | ⟨e, he, k, hrun⟩
    · have hnx : ∀ ty, (Instr.next (.pointer (some ⟨w.heap.size, 0, none⟩)) false ty).run Tryz.prog wr = _ := fun _ => hrun
      have hfull : c.Perm (es.toList.map dec) := by
        rwa [List.filter_eq_self.2 (fun x hx => all_seen es seen h0 x hx)] at hperm
      clear hb hcell hst hdec hr hbw hrg hrun hperm
      rcases hown.2 with ⟨rfl, hc0⟩ | ⟨g, cap, cur, rfl, hbase, hg, h1, h2, h3, h4⟩
      · have hc0' : c = [] := List.eq_nil_of_length_eq_zero hc0
        subst hc0'
        clear hown hcn
        go_wp2_with (go_at_call 43; refine (hnil _).mono ?_; rintro e w' ⟨rfl, hbw'⟩)
        go_ret
        exact ⟨hbel.trans (hbw'.mono hbel.size), .inl ⟨(List.nil_perm.1 hfull), rfl⟩⟩
      · have hcne : c ≠ [] := fun hh => by have := hcn hh; cases this
        have hgl : g < wr.heap.size := (Array.getElem?_eq_some_iff.1 hg).1
        have hcl : c.length ≤ 100000 := by rw [hfull.length_eq, List.length_map]; simpa using hes
        have hs := hsort g cap c wr (holds_own hg h1 h3 h4) hgl hcl
        clear hown hcn
        go_wp2_with (go_at_call 43; refine hs.mono ?_; rintro e w' ⟨rfl, d', n, os, hp, hso, rfl⟩)
        go_ret
        obtain ⟨p1, p2⟩ := perm_list (d := c.toArray) (d' := d') (by rw [List.size_toArray]; exact hp)
        have hds : d'.size = c.length := by simpa using p1
        obtain ⟨cur', q1, q2, q3⟩ := sorted_post (n := n) (d := d') (os := os) hg h3 (by omega)
        refine ⟨hbel.trans ?_, .inr ⟨g, cap, cur', d'.toList, fun hh => hcne (by have := congrArg List.length hh; simp [hds] at this; exact this), p2.trans hfull, sorted_list (by rw [hds]; exact hso), by simp [hds], by omega, q1, by simpa [hds] using h1, q2, fun i hi k hk => ?_⟩⟩
        · exact below_sort (by omega) hbel.size
        · have := q3 i (by simpa using hi) k hk
          simpa using this
    · have hem := (mem_left he).1
      have hval := hdec e hem
      obtain ⟨xn, xv, xf, xo, hx⟩ : ∃ a b c d, dec e = (a, b, c, d) := ⟨_, _, _, _, rfl⟩
      have hval : e.val = .agg #[.string xn, .string xv, .int .i64 xf, .int .i64 xo] := by rw [hval, hx]; rfl
      rw [hval] at hrun
      have hnx : ∀ ty, (Instr.next (.pointer (some ⟨w.heap.size, 0, none⟩)) false ty).run Tryz.prog wr = _ := fun _ => hrun
      obtain ⟨W1, hW1⟩ : ∃ W1, W1 = (wr.drewN k).putObj w.heap.size (.mapIter (some bm) clock (seen.push e.born) clock) := ⟨_, rfl⟩
      rw [← hW1] at hnx
      have hr1 : W1.heap[w.heap.size]? = some (.mapIter (some bm) clock (seen.push e.born) clock) := by
        rw [hW1]; exact World.putObj_heap_same (Array.getElem?_eq_some_iff.1 hr).1
      have hot : ∀ j, j ≠ w.heap.size → W1.heap[j]? = wr.heap[j]? := fun j hj => by
        rw [hW1]; exact World.putObj_heap_other hj
      have hb1 : W1.heap[bm]? = some (.map es clock) := (hot bm (by omega)).trans hbw
      have hen := run_entry_at (P := Tryz.prog) W1 w.heap.size bm clock clock seen es e hr1 hb1 hem hst.2
      rw [hval] at hen
      have hown1 : W1.ownsRow (w.heap.size + 1) 54 4 u3 c.length (c.flatMap encV) := by
        refine ⟨hown.1, hown.2.imp id ?_⟩
        rintro ⟨g, cap, cur, h1, h2, h3, h4⟩
        exact ⟨g, cap, cur, h1, h2, (hot g (by omega)).trans h3, h4⟩
      have hbw1 : Below w.heap.size w W1 := hbel.trans (by
        rw [hW1]
        exact ⟨rfl, rfl, rfl, by simp [World.putObj], fun j hj => World.putObj_heap_other (by omega)⟩)
      have hclen : c.length ≤ es.size := by
        rw [hperm.length_eq, List.length_map]
        exact Nat.le_trans (List.length_filter_le _ _) (by simp)
      have hBlt : w.heap.size < W1.heap.size := (Array.getElem?_eq_some_iff.1 hr1).1
      clear hb hcell hr hbw hrg hrun hW1 hown hbel hcn
      have hc4 : ∀ j u, [Value.string xn, .string xv, .int .i64 xf, .int .i64 xo][j]? = some u → ((W1.alloc (.cells #[.string xn, .string xv, .int .i64 xf, .int .i64 xo] 54)).alloc (.cells #[.string xn, .string xv, .int .i64 xf, .int .i64 xo] 54)).cell? ((⟨W1.heap.size + 1, 0, none⟩ : Addr).add j) = some u := by
        have := cell_four_new (W1.alloc (.cells #[.string xn, .string xv, .int .i64 xf, .int .i64 xo] 54)) (.string xn) (.string xv) (.int .i64 xf) (.int .i64 xo) 54
        rwa [World.size_alloc] at this
      go_wp2_with (first
        | (at_builtin; go_loud (refine wpList_append_own _ rfl _ _ 27 rfl (w.heap.size + 1) 54 i0 (.agg #[.string ⟨#[]⟩, .string ⟨#[]⟩, .int .i64 0, .int .i64 0]) 4 48 Tryz.underlying27 hi hz0 hz1 hz2 rfl (by decide) _ _ _ rfl ((hown1.alloc _).alloc _) ⟨W1.heap.size + 1, 0, none⟩ 1 1 [.string xn, .string xv, .int .i64 xf, .int .i64 xo] rfl rfl hc4 (fun x hx => by simp at hx; rcases hx with rfl | rfl | rfl | rfl <;> rfl) (by unfold maxLen; omega) (by omega) (by simp; omega) ?_); intro v' w3 hown' hgrow3 hnil3))
      have hown2 := (hown1.alloc (.cells #[.string xn, .string xv, .int .i64 xf, .int .i64 xo] 54)).alloc (.cells #[.string xn, .string xv, .int .i64 xf, .int .i64 xo] 54)
      have hall : ∀ j, j < W1.heap.size → j ≤ w.heap.size → w3.heap[j]? = W1.heap[j]? := fun j hj hj2 => by
        rw [hgrow3.block j (by simp; omega) (fun h => by have := (hown2.lt _ h.symm).1; omega), Below.heap_alloc _ _ _ (by simp; omega), Below.heap_alloc _ _ _ hj]
      have hbw3 : Below w.heap.size w w3 := Below.grown ((hbw1.alloc (by omega) _).alloc (by simp; omega) _) hgrow3 (by simp; omega) (fun j hj => by have := (hown2.lt _ hj).1; omega)
      have hr3 : w3.heap[w.heap.size]? = some (.mapIter (some bm) clock (seen.push e.born) clock) := (hall _ hBlt (Nat.le_refl _)).trans hr1
      have hseen3 : w3.iterSeen w.heap.size = seen.push e.born := by unfold World.iterSeen; rw [hr3]
      refine ⟨⟨seen.push e.born, c ++ [(xn, xv, xf, xo)], hr3, (hall bm (by omega) (by omega)).trans hb1, ?_, ?_, hbw3, fun hh => absurd hh (by simp)⟩, ?_⟩
      · rw [List.length_append, List.flatMap_append]; exact hown'
      · refine (hperm.append_right _).trans ?_
        have := (filter_push es.toList seen e hem (mem_left he).2 hst.2).map dec
        rw [List.map_append] at this
        rw [show [(xn, xv, xf, xo)] = List.map dec [e] by simp [hx]]
        exact this.symm
      · rw [hseen, hseen3]; exact left_shrinks es seen e he
end Go.Am
namespace Go.Am
open Go Go.Proofs Go.RowKit
set_option maxHeartbeats 1000000 in
set_option maxRecDepth 100000 in
theorem copy_used : CopyU Tryz.prog 89 := by
  intro b w h0
  obtain ⟨j, hj, _⟩ := Option.map_eq_some_iff.1 (show (Tryz.prog.info? 126).map (·.size) = some 2 by kernel_rfl)
  go_enter Tryz.func89, Tryz.ntmps89
  go_wp2
  rw [Lib.run_neq_ptr_same w _ Tryz.underlying123 hj]
  go_wp2
  go_end0
  exact ⟨rfl, rfl⟩
set_option maxHeartbeats 1000000 in
set_option maxRecDepth 100000 in
theorem copy_fresh : CopyF Tryz.prog 89 [(126, 2)] := by
  intro b w T n hm hn h0 hsh hfz
  simp only [List.mem_singleton, Prod.mk.injEq] at hm
  obtain ⟨rfl, rfl⟩ := hm
  have hl : liesAt Tryz.prog Tryz.prog.depth 126 (2 / Tryz.prog.cellsOf 126) 0 126 1 = true := by kernel_rfl
  obtain ⟨j, hj, hjs⟩ := Option.map_eq_some_iff.1 (show (Tryz.prog.info? 126).map (·.size) = some 2 by kernel_rfl)
  go_enter Tryz.func89, Tryz.ntmps89
  go_wp2
  rw [Lib.run_to_unsafe w ⟨b, 0, none⟩ Tryz.underlying123 Tryz.underlying247 hj (by rw [hjs]; decide) hsh hn]
  simp only [Result.andThen]
  rw [Oper.upon_value]
  go_wp2
  rw [run_callFunc_extern Tryz.func155 (by kernel_rfl) (by kernel_rfl) (by kernel_rfl) (e := Extern.AbiNoEscape.same) (by kernel_rfl)]
  rw [Lib.run_noEscape]
  simp only [Result.andThen]
  rw [Oper.upon_value]
  go_wp2
  rw [Lib.run_from_unsafe w ⟨b, 0, none⟩ Tryz.underlying247 Tryz.underlying123 hj hsh hl]
  simp only [Result.andThen]
  rw [Oper.upon_value]
  go_wp2
  go_end0
  exact ⟨rfl, rfl⟩
end Go.Am
namespace Go.Proofs
open Go.RowKit Go.Extern.Stop Go.Stop Go.Extern
set_option maxRecDepth 100000

theorem told_as_nil (t : Value) (w : World) :
    Calls Tryz.prog 365 #[.nilIface, t] w fun e w' => e = .returned (.bool false) ∧ w' = w := by
  go_enter Tryz.func365, Tryz.ntmps365
  go_wp2
  go_ret
  exact ⟨rfl, rfl⟩

theorem Tos.valueOfP (t : Addr) (w : World) : (ReflectliteValue.unpack (.iface 416 (.pointer (some t)))).run Tryz.prog w
    = .ok (.agg #[.pointer (some ⟨9, 416, none⟩), .pointer (some ⟨w.heap.size, 0, none⟩), .int .u64 150]) (w.alloc (.cells #[.pointer (some t)] 416)) := by kernel_rfl
theorem Tos.typeP (t : Addr) (w : World) : (ReflectliteValue.methodAny (ReflectliteValue.valueError "reflectlite.Value.Type" 0) (fun t _ _ _ => ReflectliteType.toType t) #[.agg #[.pointer (some ⟨9, 416, none⟩), .pointer (some t), .int .u64 150]]).run Tryz.prog w
    = .ok (.iface 445 (.agg #[.pointer (some ⟨9, 416, none⟩)])) w := by kernel_rfl
theorem Tos.methodKind (h : Value) (w : World) : (Go.method 603 445 (.agg #[h]) "Kind").run Tryz.prog w = .ok (434, h) w := by kernel_rfl
theorem Tos.kindP (w : World) : ((ReflectliteType.abiMethod fun t => (fun a : Nat => Value.int IntKind.u8 (a : Int)) <$> Rtype.kind t) #[.pointer (some ⟨9, 416, none⟩)]).run Tryz.prog w = .ok (.int .u8 22) w := by kernel_rfl
theorem Tos.kindW (w : World) : ((ReflectliteType.abiMethod fun t => (fun a : Nat => Value.int IntKind.u8 (a : Int)) <$> Rtype.kind t) #[.pointer (some ⟨9, 378, none⟩)]).run Tryz.prog w = .ok (.int .u8 25) w := by kernel_rfl

theorem Tos.rlm (z : Sem Value) (f : TypeId → Addr → Nat → Nat → Sem Value) (v : Value) :
    ReflectliteValue.method z f #[v] = (do match ← ReflectliteValue.parts v with | none => z | some (t, a, fl) => f t a fl (fl % 32)) := rfl
theorem Tos.partsP (a : Addr) (w : World) : (ReflectliteValue.parts (.agg #[.pointer (some ⟨9, 416, none⟩), .pointer (some a), .int .u64 150])).run Tryz.prog w = .ok (some (416, a, 150)) w := by kernel_rfl
theorem Tos.isNilP (a p : Addr) (W : World) (ha : W.cell? a = some (.pointer (some p))) :
    (ReflectliteValue.method (ReflectliteValue.valueError "reflectlite.Value.IsNil" 0) ReflectliteValue.isNil #[.agg #[.pointer (some ⟨9, 416, none⟩), .pointer (some a), .int .u64 150]]).run Tryz.prog W = .ok (.bool false) W := by
  rw [Tos.rlm]
  simp only [Sem.run_bind, Tos.partsP, Result.andThen]
  simp [ReflectliteValue.isNil, loadVar, isAgg, underlying, Tryz.underlying416, ha, Result.andThen]

theorem Tos.methodElem (h : Value) (w : World) : (Go.method 603 445 (.agg #[h]) "Elem").run Tryz.prog w = .ok (448, .agg #[h]) w := by kernel_rfl
theorem Tos.methodImplements (h : Value) (w : World) : (Go.method 603 445 (.agg #[h]) "Implements").run Tryz.prog w = .ok (449, .agg #[h]) w := by kernel_rfl
theorem Tos.methodAssignableTo (h : Value) (w : World) : (Go.method 603 445 (.agg #[h]) "AssignableTo").run Tryz.prog w = .ok (446, .agg #[h]) w := by kernel_rfl
theorem Tos.elemP (w : World) : (ReflectliteType.method ReflectliteType.elem #[.agg #[.pointer (some ⟨9, 416, none⟩)]]).run Tryz.prog w = .ok (.iface 445 (.agg #[.pointer (some ⟨9, 378, none⟩)])) w := by kernel_rfl
theorem Tos.implementsW (w : World) : (ReflectliteType.relation "Implements" ReflectliteType.implements_ #[.agg #[.pointer (some ⟨9, 378, none⟩)], .iface 445 (.agg #[.pointer (some ⟨9, 130, none⟩)])]).run Tryz.prog w = .ok (.bool true) w := by kernel_rfl
theorem Tos.typeOfW (v : Value) (w : World) : (ReflectliteType.typeOf #[.iface 378 v]).run Tryz.prog w = .ok (.iface 445 (.agg #[.pointer (some ⟨9, 378, none⟩)])) w := by kernel_rfl
theorem Tos.assignableW (w : World) : (ReflectliteType.relation "AssignableTo" ReflectliteType.assignableTo #[.agg #[.pointer (some ⟨9, 378, none⟩)], .iface 445 (.agg #[.pointer (some ⟨9, 378, none⟩)])]).run Tryz.prog w = .ok (.bool true) w := by kernel_rfl
theorem Tos.valueOfW (n : Int) (w : World) : (ReflectliteValue.unpack (.iface 378 (.agg #[.int .i64 n]))).run Tryz.prog w
    = .ok (.agg #[.pointer (some ⟨9, 378, none⟩), .pointer (some ⟨w.heap.size, 0, none⟩), .int .u64 153]) (w.alloc (.cells #[.int .i64 n] 378)) := by kernel_rfl
theorem Tos.elemOfP (w : World) : (Rtype.elem? 416).run Tryz.prog w = .ok (some 378) w := by kernel_rfl
theorem Tos.mkW (p : Addr) (w : World) : (ReflectliteValue.mk 378 p ReflectliteValue.flagAddr).run Tryz.prog w = .ok (.agg #[.pointer (some ⟨9, 378, none⟩), .pointer (some p), .int .u64 409]) w := by kernel_rfl
theorem Tos.elemVP (a p : Addr) (W : World) (ha : W.cell? a = some (.pointer (some p))) :
    (ReflectliteValue.method (ReflectliteValue.valueError "reflectlite.Value.Elem" 0) ReflectliteValue.elem #[.agg #[.pointer (some ⟨9, 416, none⟩), .pointer (some a), .int .u64 150]]).run Tryz.prog W
      = .ok (.agg #[.pointer (some ⟨9, 378, none⟩), .pointer (some p), .int .u64 409]) W := by
  rw [Tos.rlm]
  simp only [Sem.run_bind, Tos.partsP, Result.andThen]
  simp [ReflectliteValue.elem, loadVar, isAgg, underlying, Tryz.underlying416, ha, Result.andThen, Tos.elemOfP, Tos.mkW]
theorem Tos.rls (v x : Value) : ReflectliteValue.set #[v, x] = (do
    let (some (dst, a, fl), some (src, b, _)) := (← ReflectliteValue.parts v, ← ReflectliteValue.parts x)
      | unsupported (.noEntry "extern/(internal/reflectlite.Value).Set.zeroValue")
    if fl / ReflectliteValue.flagAddr % 2 == 0 then unsupported (.noEntry "extern/(internal/reflectlite.Value).Set.unaddressable")
    let val ← loadVar src b
    if ← Rtype.directlyAssignable dst src then storeVar dst a val
    else if ← Rtype.implements dst src then
      if (← Rtype.kind src) == 20 then
        match val with
        | .nilIface => unsupported (.noEntry "extern/reflectlite: a nil value of one interface type handed on as a value of another")
        | _ => storeVar dst a val
      else storeVar dst a (.iface src val)
    else panicString ("reflectlite.Set: value of type " ++ (← Rtype.spelt src) ++ " is not assignable to type " ++ (← Rtype.spelt dst))
    pure (.tuple #[])) := rfl
theorem Tos.partsWa (a : Addr) (w : World) : (ReflectliteValue.parts (.agg #[.pointer (some ⟨9, 378, none⟩), .pointer (some a), .int .u64 409])).run Tryz.prog w = .ok (some (378, a, 409)) w := by kernel_rfl
theorem Tos.partsW (a : Addr) (w : World) : (ReflectliteValue.parts (.agg #[.pointer (some ⟨9, 378, none⟩), .pointer (some a), .int .u64 153])).run Tryz.prog w = .ok (some (378, a, 153)) w := by kernel_rfl
theorem Tos.directW (w : World) : (Rtype.directlyAssignable 378 378).run Tryz.prog w = .ok true w := by kernel_rfl
theorem Tos.sizeW (w : World) : (sizeOf 378).run Tryz.prog w = .ok 1 w := by kernel_rfl
theorem Tos.aggW (w : World) : (isAgg 378).run Tryz.prog w = .ok true w := by kernel_rfl
theorem Tos.loadW (b : Addr) (n : Int) (W : World) (hb : W.cell? b = some (.int .i64 n)) : (loadVar 378 b).run Tryz.prog W = .ok (.agg #[.int .i64 n]) W := by
  unfold loadVar
  simp only [Sem.run_bind, Tos.aggW, Result.andThen]
  simp [Result.andThen, loadCells, loadCellsFrom, hb, Addr.add]
theorem Tos.setW (ta b : Addr) (n : Int) (old : Value) (W : World) (hb : W.cell? b = some (.int .i64 n)) (ht : W.cell? ta = some old) (hf : W.frozen? ta = false) :
    (ReflectliteValue.set #[.agg #[.pointer (some ⟨9, 378, none⟩), .pointer (some ta), .int .u64 409], .agg #[.pointer (some ⟨9, 378, none⟩), .pointer (some b), .int .u64 153]]).run Tryz.prog W
      = .ok (.tuple #[]) (W.setCell ta (.int .i64 n)) := by
  rw [Tos.rls]
  simp only [Sem.run_bind, Tos.partsWa, Tos.partsW, Result.andThen]
  simp [ReflectliteValue.flagAddr, Tos.loadW b n W hb, Result.andThen, Tos.directW, storeVar, Value.cells, storeCells, Addr.add]
  rw [run_store Tryz.prog W ta _ _ (by rfl)]
  simp [ht, hf]

set_option maxHeartbeats 4000000 in
theorem told_as_hit (n : Int) (t : Addr) (old : Value) (w : World) (hg : w.cell? ⟨4, 0, none⟩ = some (.iface 445 (.agg #[.pointer (some ⟨9, 130, none⟩)]))) (ht0 : w.cell? t = some old) (hf0 : w.frozen? t = false) :
    Calls Tryz.prog 365 #[.iface 378 (.agg #[.int .i64 n]), .iface 416 (.pointer (some t))] w fun ev w' => ev = .returned (.bool true) ∧ w' = ((((w.alloc (.cells #[.pointer (some t)] 416)).alloc (.cells #[.pointer (some ⟨9, 416, none⟩), .pointer (some ⟨w.heap.size, 0, none⟩), .int .u64 150] 427)).alloc (.cells #[.pointer (some ⟨9, 416, none⟩), .pointer (some ⟨w.heap.size, 0, none⟩), .int .u64 150] 427)).alloc (.cells #[.int .i64 n] 378)).setCell t (.int .i64 n) := by
  have h6 := @run_callFunc_extern Tryz.prog 389 _ (fun args => ReflectliteValue.unpack (args.getD 0 (.tuple #[]))) Tryz.func389 (by kernel_rfl) (by kernel_rfl) (by kernel_rfl) (by kernel_rfl)
  have h7 := @run_callFunc_extern Tryz.prog 390 _ (ReflectliteValue.methodAny (ReflectliteValue.valueError "reflectlite.Value.Type" 0) (fun t _ _ _ => ReflectliteType.toType t)) Tryz.func390 (by kernel_rfl) (by kernel_rfl) (by kernel_rfl) (by kernel_rfl)
  have h8 := @run_callFunc_extern Tryz.prog 391 _ (ReflectliteValue.method (ReflectliteValue.valueError "reflectlite.Value.IsNil" 0) ReflectliteValue.isNil) Tryz.func391 (by kernel_rfl) (by kernel_rfl) (by kernel_rfl) (by kernel_rfl)
  have h27 := @run_callFunc_extern Tryz.prog 434 _ (ReflectliteType.abiMethod fun t => do pure (.int .u8 (← Rtype.kind t))) Tryz.func434 (by kernel_rfl) (by kernel_rfl) (by kernel_rfl) (by kernel_rfl)
  have h37 := @run_callFunc_extern Tryz.prog 448 _ (ReflectliteType.method ReflectliteType.elem) Tryz.func448 (by kernel_rfl) (by kernel_rfl) (by kernel_rfl) (by kernel_rfl)
  have h38 := @run_callFunc_extern Tryz.prog 449 _ (ReflectliteType.relation "Implements" ReflectliteType.implements_) Tryz.func449 (by kernel_rfl) (by kernel_rfl) (by kernel_rfl) (by kernel_rfl)
  have h10 := @run_callFunc_extern Tryz.prog 402 _ ReflectliteType.typeOf Tryz.func402 (by kernel_rfl) (by kernel_rfl) (by kernel_rfl) (by kernel_rfl)
  have h35 := @run_callFunc_extern Tryz.prog 446 _ (ReflectliteType.relation "AssignableTo" ReflectliteType.assignableTo) Tryz.func446 (by kernel_rfl) (by kernel_rfl) (by kernel_rfl) (by kernel_rfl)
  have h11 := @run_callFunc_extern Tryz.prog 403 _ (ReflectliteValue.method (ReflectliteValue.valueError "reflectlite.Value.Elem" 0) ReflectliteValue.elem) Tryz.func403 (by kernel_rfl) (by kernel_rfl) (by kernel_rfl) (by kernel_rfl)
  have h12 := @run_callFunc_extern Tryz.prog 404 _ ReflectliteValue.set Tryz.func404 (by kernel_rfl) (by kernel_rfl) (by kernel_rfl) (by kernel_rfl)
  have tO := Tos.typeOfW
  have mA := Tos.methodAssignableTo
  have a25 := Tos.assignableW
  have v25 := Tos.valueOfW
  have f6 := Tos.valueOfP
  have f7 := Tos.typeP
  have mK := Tos.methodKind
  have mE := Tos.methodElem
  have mI := Tos.methodImplements
  have k27 := Tos.kindP
  have k25 := Tos.kindW
  have e27 := Tos.elemP
  have i25 := Tos.implementsW
  have n8 := Tos.isNilP ⟨w.heap.size, 0, none⟩ t ((w.alloc (.cells #[.pointer (some t)] 416)).alloc (.cells #[.pointer (some ⟨9, 416, none⟩), .pointer (some ⟨w.heap.size, 0, none⟩), .int .u64 150] 427)) (by simp)
  have hlt : 4 < w.heap.size := by
    rcases Nat.lt_or_ge 4 w.heap.size with h | h
    · exact h
    · simp [World.cell?, Array.getElem?_eq_none h] at hg
  have hg2 : ((w.alloc (.cells #[.pointer (some t)] 416)).alloc (.cells #[.pointer (some ⟨9, 416, none⟩), .pointer (some ⟨w.heap.size, 0, none⟩), .int .u64 150] 427)).cell? ⟨4, 0, none⟩ = some (.iface 445 (.agg #[.pointer (some ⟨9, 130, none⟩)])) := by
    rw [World.cell?_alloc_lt _ _ ⟨4, 0, none⟩ (by simp; omega), World.cell?_alloc_lt _ _ ⟨4, 0, none⟩ hlt]; exact hg
  have htl : t.block < w.heap.size := by
    rcases Nat.lt_or_ge t.block w.heap.size with h | h
    · exact h
    · simp [World.cell?, Array.getElem?_eq_none h] at ht0
  have el := Tos.elemVP ⟨w.heap.size, 0, none⟩ t (((w.alloc (.cells #[.pointer (some t)] 416)).alloc (.cells #[.pointer (some ⟨9, 416, none⟩), .pointer (some ⟨w.heap.size, 0, none⟩), .int .u64 150] 427)).alloc (.cells #[.pointer (some ⟨9, 416, none⟩), .pointer (some ⟨w.heap.size, 0, none⟩), .int .u64 150] 427)) (by rw [World.cell?_alloc_lt _ _ ⟨w.heap.size, 0, none⟩ (by simp; omega)]; simp)
  have st := Tos.setW t ⟨w.heap.size + 1 + 1 + 1, 0, none⟩ n old ((((w.alloc (.cells #[.pointer (some t)] 416)).alloc (.cells #[.pointer (some ⟨9, 416, none⟩), .pointer (some ⟨w.heap.size, 0, none⟩), .int .u64 150] 427)).alloc (.cells #[.pointer (some ⟨9, 416, none⟩), .pointer (some ⟨w.heap.size, 0, none⟩), .int .u64 150] 427)).alloc (.cells #[.int .i64 n] 378))
    (by rw [World.cell?_alloc_at _ _ _ _ (by simp)]; rfl)
    (by rw [World.cell?_alloc_lt _ _ t (by simp; omega), World.cell?_alloc_lt _ _ t (by simp; omega), World.cell?_alloc_lt _ _ t (by simp; omega), World.cell?_alloc_lt _ _ t htl]; exact ht0)
    (by rw [World.frozen?_alloc_old _ _ t (by simp; omega), World.frozen?_alloc_old _ _ t (by simp; omega), World.frozen?_alloc_old _ _ t (by simp; omega), World.frozen?_alloc_old _ _ t (Nat.ne_of_lt htl)]; exact hf0)
  go_enter Tryz.func365, Tryz.ntmps365
  go_wp2
  refine wp_loop_rounds 1 ?_
  rw [rounds_succ]
  go_wp2
  go_ret
  exact ⟨rfl, rfl⟩

theorem told_nil (w : World) : Calls Tryz.prog 343 #[.nilIface] w fun ev w' => ev = .returned (.int .i64 0) ∧ Below w.heap.size w w' := by
  go_enter Tryz.func343, Tryz.ntmps343
  go_wp2_with (go_at_call 365; refine (told_as_nil _ _).mono ?_; rintro e w' ⟨rfl, rfl⟩)
  go_ret
  exact ⟨rfl, (Below.refl _ _).alloc (Nat.le_refl _) _⟩
theorem told_hit (n : Int) (w : World) (hg : w.cell? ⟨4, 0, none⟩ = some (.iface 445 (.agg #[.pointer (some ⟨9, 130, none⟩)]))) :
    Calls Tryz.prog 343 #[.iface 378 (.agg #[.int .i64 n])] w fun ev w' => ev = .returned (.int .i64 n) ∧ Below w.heap.size w w' := by
  have hlt : 4 < w.heap.size := by
    rcases Nat.lt_or_ge 4 w.heap.size with h | h
    · exact h
    · simp [World.cell?, Array.getElem?_eq_none h] at hg
  go_enter Tryz.func343, Tryz.ntmps343
  have hh := told_as_hit n ⟨w.heap.size, 0, none⟩ (.int .i64 0) (w.alloc (.cells #[.int .i64 0] 378)) (by rw [World.cell?_alloc_lt _ _ ⟨4, 0, none⟩ hlt]; exact hg) (by simp) (by simp)
  go_wp2_with (go_at_call 365; refine hh.mono ?_; rintro e w' ⟨rfl, rfl⟩)
  go_ret
  exact ⟨rfl, (((((Below.refl w.heap.size w).alloc (Nat.le_refl _) _).alloc (by simp; try omega) _).alloc (by simp; try omega) _).alloc (by simp; try omega) _).alloc (by simp; try omega) _⟩
end Go.Proofs
