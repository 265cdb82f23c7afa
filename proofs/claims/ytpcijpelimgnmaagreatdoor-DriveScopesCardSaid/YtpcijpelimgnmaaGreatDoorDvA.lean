import Derived.Shelf.Strings.Builder1
import Derived.Shelf.Strings.OnBuilder
import Derived.Shelf.Strings.Search1
import Derived.Shelf.Small.Strs
import Derived.Shelf.Small.Bits
import Derived.Shelf.SlSortCmp.WholeK
import Derived.Test.YtpcijpelimgnmaaGreatDoorProg
import Derived.Test.YtpcijpelimgnmaaGreatDoorAmG
import Derived.WalkKit
import Derived.WalkSpells
import Derived.Tactics
import Derived.Tactics2
import Derived.StillTactics
import Derived.Laws.AppendOwn
import Derived.Laws.Build
import Derived.Laws.Entries
import Derived.Laws.Append
import Derived.Laws.World
import Derived.Laws.Sem
import Derived.Laws.Slices
import Derived.Laws.Alloc2
import Derived.Laws.NewBlocks
import Derived.Laws.Cells
import Derived.Laws.OwnMore
import Derived.LoopTactic
import Derived.LoopN
import Derived.Laws.Externs
set_option linter.all false
namespace Go.Proofs
open Go.Shelf
def Tryz.lays169_ren : Go.Shelf.Ren := ⟨fun | 169 => 34 | n => n, fun | 70 => 95 | 9 => 9 | 0 => 0 | 72 => 98 | 37 => 96 | 127 => 160 | 3 => 3 | 5 => 5 | n => n, fun | n => n⟩
theorem Tryz.lays169 : Go.Proofs.Lays.n169 Tryz.prog Tryz.lays169_ren := {
  mixed := by kernel_rfl
  f169 := Tryz.func34.trans (congrArg some (by kernel_rfl))
  t0 := Tryz.underlying0
  a0 := Tryz.isAgg0
  z0 := Tryz.sizeOf0
  v0 := Tryz.zeroValue0
  t3 := Tryz.underlying3
  a3 := Tryz.isAgg3
  z3 := Tryz.sizeOf3
  v3 := Tryz.zeroValue3
  t9 := Tryz.underlying9
  a9 := Tryz.isAgg9
  z9 := Tryz.sizeOf9
  v9 := Tryz.zeroValue9
  t37 := Tryz.underlying96
  a37 := Tryz.isAgg96
  z37 := Tryz.sizeOf96
  v37 := Tryz.zeroValue96
  t70 := Tryz.underlying95
  a70 := Tryz.isAgg95
  z70 := Tryz.sizeOf95
  v70 := Tryz.zeroValue95
  t72 := Tryz.underlying98
  a72 := Tryz.isAgg98
  z72 := Tryz.sizeOf98
  v72 := Tryz.zeroValue98
  t127 := Tryz.underlying160
  a127 := Tryz.isAgg160
  z127 := Tryz.sizeOf160
  v127 := Tryz.zeroValue160 }
theorem Tryz.Builder_Extra_169 : Builder.Extra Tryz.prog Tryz.lays169_ren := {
  sizeBuilder := by kernel_rfl
  liesBuilder := by kernel_rfl
  t5 := Tryz.underlying5
  a5 := Tryz.isAgg5
  z5 := Tryz.sizeOf5
  v5 := Tryz.zeroValue5
  infoByte := by kernel_rfl
  cellsByte := by kernel_rfl
  sizeByte := by kernel_rfl
  neB5 := by decide }
def Tryz.lays156_ren : Go.Shelf.Ren := ⟨fun | 156 => 59 | 165 => 104 | 166 => 35 | 169 => 34 | 240 => 63 | 241 => 180 | 276 => 108 | 277 => 257 | n => n, fun | 31 => 27 | 9 => 9 | 3 => 3 | 4 => 4 | 0 => 0 | 20 => 20 | 72 => 98 | 76 => 103 | 70 => 95 | 37 => 96 | 75 => 102 | 127 => 160 | 164 => 206 | 5 => 5 | 80 => 100 | n => n, fun | n => n⟩
theorem Tryz.lays156 : Go.Proofs.Lays.n156 Tryz.prog Tryz.lays156_ren := {
  mixed := by kernel_rfl
  f156 := Tryz.func59.trans (congrArg some (by kernel_rfl))
  f165 := Tryz.func104.trans (congrArg some (by kernel_rfl))
  f166 := Tryz.func35.trans (congrArg some (by kernel_rfl))
  f169 := Tryz.func34.trans (congrArg some (by kernel_rfl))
  f240 := Tryz.func63.trans (congrArg some (by kernel_rfl))
  f241 := Tryz.func180.trans (congrArg some (by kernel_rfl))
  f276 := Tryz.func108.trans (congrArg some (by kernel_rfl))
  f277 := Tryz.func257.trans (congrArg some (by kernel_rfl))
  t0 := Tryz.underlying0
  a0 := Tryz.isAgg0
  z0 := Tryz.sizeOf0
  v0 := Tryz.zeroValue0
  t3 := Tryz.underlying3
  a3 := Tryz.isAgg3
  z3 := Tryz.sizeOf3
  v3 := Tryz.zeroValue3
  t4 := Tryz.underlying4
  a4 := Tryz.isAgg4
  z4 := Tryz.sizeOf4
  v4 := Tryz.zeroValue4
  t9 := Tryz.underlying9
  a9 := Tryz.isAgg9
  z9 := Tryz.sizeOf9
  v9 := Tryz.zeroValue9
  t20 := Tryz.underlying20
  a20 := Tryz.isAgg20
  z20 := Tryz.sizeOf20
  v20 := Tryz.zeroValue20
  t31 := Tryz.underlying27
  a31 := Tryz.isAgg27
  z31 := Tryz.sizeOf27
  v31 := Tryz.zeroValue27
  t37 := Tryz.underlying96
  a37 := Tryz.isAgg96
  z37 := Tryz.sizeOf96
  v37 := Tryz.zeroValue96
  t70 := Tryz.underlying95
  a70 := Tryz.isAgg95
  z70 := Tryz.sizeOf95
  v70 := Tryz.zeroValue95
  t72 := Tryz.underlying98
  a72 := Tryz.isAgg98
  z72 := Tryz.sizeOf98
  v72 := Tryz.zeroValue98
  t75 := Tryz.underlying102
  a75 := Tryz.isAgg102
  z75 := Tryz.sizeOf102
  v75 := Tryz.zeroValue102
  t76 := Tryz.underlying103
  a76 := Tryz.isAgg103
  z76 := Tryz.sizeOf103
  v76 := Tryz.zeroValue103
  t127 := Tryz.underlying160
  a127 := Tryz.isAgg160
  z127 := Tryz.sizeOf160
  v127 := Tryz.zeroValue160
  t164 := Tryz.underlying206
  a164 := Tryz.isAgg206
  z164 := Tryz.sizeOf206
  v164 := Tryz.zeroValue206 }
theorem Tryz.Builder_Extra_156 : Builder.Extra Tryz.prog Tryz.lays156_ren := {
  sizeBuilder := by kernel_rfl
  liesBuilder := by kernel_rfl
  t5 := Tryz.underlying5
  a5 := Tryz.isAgg5
  z5 := Tryz.sizeOf5
  v5 := Tryz.zeroValue5
  infoByte := by kernel_rfl
  cellsByte := by kernel_rfl
  sizeByte := by kernel_rfl
  neB5 := by decide }
open Go.RowKit in
theorem Tryz.strings_Join_none (a : Option Addr) (c : Nat) (sep : ByteArray) (w : World) :
    Calls Tryz.prog 59 #[.slice a 0 c, .string sep] w fun e w' => e = .returned (.string ⟨#[]⟩) ∧ w' = w := Any.strings_Join_none Tryz.lays156 Tryz.Builder_Extra_156 a c sep w
open Go.RowKit in
theorem Tryz.strings_Join (bk o c : Nat) (xs : List ByteArray) (sep : ByteArray) (w : World) (hcells : ∀ (j : Nat) x, xs[j]? = some x → w.cell? ⟨bk, o + j, none⟩ = some (.string x)) (hbk : bk < w.heap.size) (hN : xs.length ≤ 140737488355328) (hcap : xs.length ≤ c) (hlen : (Lib.join (xs.map (·.data.toList)) sep.data.toList).length ≤ 140737488355328) :
    Calls Tryz.prog 59 #[.slice (some ⟨bk, o, none⟩) xs.length c, .string sep] w fun e w' => e = .returned (.string ⟨(Lib.join (xs.map (·.data.toList)) sep.data.toList).toArray⟩) ∧ Below w.heap.size w w' := Any.strings_Join Tryz.lays156 Tryz.Builder_Extra_156 bk o c xs sep w hcells hbk hN hcap hlen
def Tryz.lays125_ren : Go.Shelf.Ren := ⟨fun | 125 => 101 | 128 => 174 | 129 => 175 | n => n, fun | 46 => 202 | 3 => 3 | 51 => 272 | 53 => 274 | 4 => 4 | 5 => 5 | 9 => 9 | n => n, fun | n => n⟩
theorem Tryz.lays125 : Go.Proofs.Lays.n125 Tryz.prog Tryz.lays125_ren := {
  mixed := by kernel_rfl
  f125 := Tryz.func101.trans (congrArg some (by kernel_rfl))
  f128 := Tryz.func174.trans (congrArg some (by kernel_rfl))
  f129 := Tryz.func175.trans (congrArg some (by kernel_rfl))
  t3 := Tryz.underlying3
  a3 := Tryz.isAgg3
  z3 := Tryz.sizeOf3
  v3 := Tryz.zeroValue3
  t4 := Tryz.underlying4
  a4 := Tryz.isAgg4
  z4 := Tryz.sizeOf4
  v4 := Tryz.zeroValue4
  t5 := Tryz.underlying5
  a5 := Tryz.isAgg5
  z5 := Tryz.sizeOf5
  v5 := Tryz.zeroValue5
  t9 := Tryz.underlying9
  a9 := Tryz.isAgg9
  z9 := Tryz.sizeOf9
  v9 := Tryz.zeroValue9
  t46 := Tryz.underlying202
  a46 := Tryz.isAgg202
  z46 := Tryz.sizeOf202
  v46 := Tryz.zeroValue202
  t51 := Tryz.underlying272
  a51 := Tryz.isAgg272
  z51 := Tryz.sizeOf272
  v51 := Tryz.zeroValue272
  t53 := Tryz.underlying274
  a53 := Tryz.isAgg274
  z53 := Tryz.sizeOf274
  v53 := Tryz.zeroValue274 }
def Tryz.lays106_ren : Go.Shelf.Ren := ⟨fun | 106 => 56 | 213 => 102 | 265 => 176 | n => n, fun | 9 => 9 | 3 => 3 | n => n, fun | n => n⟩
theorem Tryz.lays106 : Go.Proofs.Lays.n106 Tryz.prog Tryz.lays106_ren := {
  mixed := by kernel_rfl
  f106 := Tryz.func56.trans (congrArg some (by kernel_rfl))
  f213 := Tryz.func102.trans (congrArg some (by kernel_rfl))
  f265 := Tryz.func176.trans (congrArg some (by kernel_rfl))
  t3 := Tryz.underlying3
  a3 := Tryz.isAgg3
  z3 := Tryz.sizeOf3
  v3 := Tryz.zeroValue3
  t9 := Tryz.underlying9
  a9 := Tryz.isAgg9
  z9 := Tryz.sizeOf9
  v9 := Tryz.zeroValue9 }
open Go.RowKit in
theorem Tryz.strings_Compare (a b : ByteArray) (w : World) :
    Calls Tryz.prog 56 #[.string a, .string b] w fun e w' => e = .returned (.int .i64 (Lib.compareBytes a.data.toList b.data.toList)) ∧ w' = w := Any.strings_Compare Tryz.lays106 a b w
def Tryz.lays217_ren : Go.Shelf.Ren := ⟨fun | 217 => 62 | 266 => 107 | n => n, fun | 9 => 9 | 5 => 5 | 3 => 3 | n => n, fun | n => n⟩
theorem Tryz.lays217 : Go.Proofs.Lays.n217 Tryz.prog Tryz.lays217_ren := {
  mixed := by kernel_rfl
  f217 := Tryz.func62.trans (congrArg some (by kernel_rfl))
  f266 := Tryz.func107.trans (congrArg some (by kernel_rfl))
  t3 := Tryz.underlying3
  a3 := Tryz.isAgg3
  z3 := Tryz.sizeOf3
  v3 := Tryz.zeroValue3
  t5 := Tryz.underlying5
  a5 := Tryz.isAgg5
  z5 := Tryz.sizeOf5
  v5 := Tryz.zeroValue5
  t9 := Tryz.underlying9
  a9 := Tryz.isAgg9
  z9 := Tryz.sizeOf9
  v9 := Tryz.zeroValue9 }
open Go.RowKit Go.Lib in
theorem Tryz.stringslite_IndexByte (s : ByteArray) (c : Int) (w : World) :
    Calls Tryz.prog 62 #[.string s, .int .u8 c] w fun e w' => e = .returned (.int .i64 (Lib.indexByte s.data.toList c.toNat.toUInt8)) ∧ w' = w := Any.stringslite_IndexByte Tryz.lays217 s c w
def Tryz.sortV_ren : Go.Shelf.Ren := ⟨fun | 6 => 54 | 15 => 101 | 14 => 100 | 28 => 174 | 29 => 175 | 20 => 166 | 21 => 167 | 22 => 168 | 23 => 169 | 24 => 170 | 25 => 171 | 26 => 172 | 27 => 173 | 46 => 248 | 47 => 249 | 48 => 250 | 49 => 251 | 50 => 252 | 57 => 306 | n => n, fun | 22 => 24 | 24 => 54 | 25 => 145 | 3 => 3 | 39 => 202 | 0 => 0 | 53 => 272 | 55 => 274 | 4 => 4 | 46 => 266 | 45 => 265 | 50 => 174 | 5 => 5 | 9 => 9 | 66 => 319 | 70 => 323 | 76 => 354 | 77 => 232 | n => n, fun | n => n⟩
theorem Tryz.sortV : Go.Proofs.SlLaysF0.n6 Tryz.prog Tryz.sortV_ren := {
  mixed := by kernel_rfl
  f6 := ⟨Tryz.f54.name, by decide, Tryz.func54.trans (congrArg some (by kernel_rfl))⟩
  f14 := ⟨Tryz.f100.name, by decide, Tryz.func100.trans (congrArg some (by kernel_rfl))⟩
  f15 := Tryz.func101.trans (congrArg some (by kernel_rfl))
  f20 := ⟨Tryz.f166.name, by decide, Tryz.func166.trans (congrArg some (by kernel_rfl))⟩
  f21 := ⟨Tryz.f167.name, by decide, Tryz.func167.trans (congrArg some (by kernel_rfl))⟩
  f22 := ⟨Tryz.f168.name, by decide, Tryz.func168.trans (congrArg some (by kernel_rfl))⟩
  f23 := ⟨Tryz.f169.name, by decide, Tryz.func169.trans (congrArg some (by kernel_rfl))⟩
  f24 := ⟨Tryz.f170.name, by decide, Tryz.func170.trans (congrArg some (by kernel_rfl))⟩
  f25 := ⟨Tryz.f171.name, by decide, Tryz.func171.trans (congrArg some (by kernel_rfl))⟩
  f26 := ⟨Tryz.f172.name, by decide, Tryz.func172.trans (congrArg some (by kernel_rfl))⟩
  f27 := ⟨Tryz.f173.name, by decide, Tryz.func173.trans (congrArg some (by kernel_rfl))⟩
  f28 := Tryz.func174.trans (congrArg some (by kernel_rfl))
  f29 := Tryz.func175.trans (congrArg some (by kernel_rfl))
  f46 := ⟨Tryz.f248.name, by decide, Tryz.func248.trans (congrArg some (by kernel_rfl))⟩
  f47 := Tryz.func249.trans (congrArg some (by kernel_rfl))
  f48 := Tryz.func250.trans (congrArg some (by kernel_rfl))
  f49 := ⟨Tryz.f251.name, by decide, Tryz.func251.trans (congrArg some (by kernel_rfl))⟩
  f50 := ⟨Tryz.f252.name, by decide, Tryz.func252.trans (congrArg some (by kernel_rfl))⟩
  f57 := ⟨Tryz.f306.name, by decide, Tryz.func306.trans (congrArg some (by kernel_rfl))⟩
  t0 := Tryz.underlying0
  a0 := Tryz.isAgg0
  z0 := Tryz.sizeOf0
  v0 := Tryz.zeroValue0
  t3 := Tryz.underlying3
  a3 := Tryz.isAgg3
  z3 := Tryz.sizeOf3
  v3 := Tryz.zeroValue3
  t4 := Tryz.underlying4
  a4 := Tryz.isAgg4
  z4 := Tryz.sizeOf4
  v4 := Tryz.zeroValue4
  t5 := Tryz.underlying5
  a5 := Tryz.isAgg5
  z5 := Tryz.sizeOf5
  v5 := Tryz.zeroValue5
  t9 := Tryz.underlying9
  a9 := Tryz.isAgg9
  z9 := Tryz.sizeOf9
  v9 := Tryz.zeroValue9
  t22 := Tryz.underlying24
  a22 := Tryz.isAgg24
  z22 := Tryz.sizeOf24
  v22 := Tryz.zeroValue24
  t25 := Tryz.underlying145
  a25 := Tryz.isAgg145
  z25 := Tryz.sizeOf145
  v25 := Tryz.zeroValue145
  t39 := Tryz.underlying202
  a39 := Tryz.isAgg202
  z39 := Tryz.sizeOf202
  v39 := Tryz.zeroValue202
  t45 := Tryz.underlying265
  a45 := Tryz.isAgg265
  z45 := Tryz.sizeOf265
  v45 := Tryz.zeroValue265
  t46 := Tryz.underlying266
  a46 := Tryz.isAgg266
  z46 := Tryz.sizeOf266
  v46 := Tryz.zeroValue266
  t50 := Tryz.underlying174
  a50 := Tryz.isAgg174
  z50 := Tryz.sizeOf174
  v50 := Tryz.zeroValue174
  t53 := Tryz.underlying272
  a53 := Tryz.isAgg272
  z53 := Tryz.sizeOf272
  v53 := Tryz.zeroValue272
  t55 := Tryz.underlying274
  a55 := Tryz.isAgg274
  z55 := Tryz.sizeOf274
  v55 := Tryz.zeroValue274
  t66 := Tryz.underlying319
  a66 := Tryz.isAgg319
  z66 := Tryz.sizeOf319
  v66 := Tryz.zeroValue319
  t70 := Tryz.underlying323
  a70 := Tryz.isAgg323
  z70 := Tryz.sizeOf323
  v70 := Tryz.zeroValue323
  t76 := Tryz.underlying354
  a76 := Tryz.isAgg354
  z76 := Tryz.sizeOf354
  v76 := Tryz.zeroValue354
  t77 := Tryz.underlying232
  a77 := Tryz.isAgg232
  z77 := Tryz.sizeOf232
  v77 := Tryz.zeroValue232 }
end Go.Proofs
namespace Go.Am
open Go Go.Proofs Go.RowKit Go.Sort

theorem cell_four_new (w : World) (a b c d : Value) (t : TypeId) : ∀ j u, [a, b, c, d][j]? = some u → (w.alloc (.cells #[a, b, c, d] t)).cell? ((⟨w.heap.size, 0, none⟩ : Addr).add j) = some u := by
  intro j u hj
  match j, hj with
  | 0, hj => simp at hj; subst hj; simp [Addr.add]
  | 1, hj => simp at hj; subst hj; simp [Addr.add]
  | 2, hj => simp at hj; subst hj; simp [Addr.add]
  | 3, hj => simp at hj; subst hj; simp [Addr.add]
  | j + 4, hj => simp at hj
theorem info54 : (Tryz.prog.info? 54).map (fun i => (i.zero, i.size, i.bytes)) = some (some (.agg #[.string ⟨#[]⟩, .string ⟨#[]⟩, .int .i64 0, .int .i64 0]), 4, 48) := by kernel_rfl
theorem ownsRow_of {w w' : World} {base : Nat} {e : TypeId} {size : Nat} {v : Value} {n : Nat} {xs : List Value} (h : w.ownsRow base e size v n xs) (hk : ∀ g, base ≤ g → w'.heap[g]? = w.heap[g]?) : w'.ownsRow base e size v n xs := by
  refine ⟨h.1, h.2.imp id ?_⟩
  rintro ⟨g, cap, cur, h1, h2, h3, h4⟩
  exact ⟨g, cap, cur, h1, h2, (hk g h2).trans h3, h4⟩
theorem filter_push (es : List MapEntry) (seen : Array Nat) (e : MapEntry) (he : e ∈ es) (hs : seen.contains e.born = false) (hn : (es.map (·.born)).Nodup) :
    (es.filter fun x => (seen.push e.born).contains x.born).Perm ((es.filter fun x => seen.contains x.born) ++ [e]) := by
  induction es with
  | nil => cases he
  | cons x es ih =>
    have hn' := List.nodup_cons.1 hn
    simp only [List.filter_cons, contains_push]
    rcases List.mem_cons.1 he with rfl | he'
    · have h1 : (e.born == e.born) = true := by simp
      simp only [hs, h1, Bool.or_true, if_true, Bool.false_eq_true, if_false]
      have h2 : (es.filter fun x => seen.contains x.born || x.born == e.born) = es.filter fun x => seen.contains x.born := by
        apply List.filter_congr
        intro y hy
        have : (y.born == e.born) = false := by
          cases hc : y.born == e.born with
          | false => rfl
          | true => exact absurd (List.mem_map.2 ⟨y, hy, beq_iff_eq.1 hc⟩) hn'.1
        rw [this, Bool.or_false]
      rw [h2]
      exact (List.perm_append_comm (l₁ := [e])).symm.symm
    · have h1 : (x.born == e.born) = false := by
        cases hc : x.born == e.born with
        | false => rfl
        | true => exact absurd (List.mem_map.2 ⟨e, he', (beq_iff_eq.1 hc).symm⟩) hn'.1
      have ih := ih he' hn'.2
      simp only [contains_push] at ih
      simp only [h1, Bool.or_false]
      cases seen.contains x.born with
      | true => simpa using ih
      | false => simpa using ih

/-- what a sort of variables does -/
def SortC (P : Program) (sf cl : FuncId) : Prop := ∀ (g cap : Nat) (d : List V4) (W : World), HoldsK encV 4 W g 0 d.toArray → g < W.heap.size → d.length ≤ 100000 →
  Calls P sf #[.slice (some ⟨g, 0, none⟩) d.length cap, .func (.func cl) #[] #[]] W fun e w' => e = .returned (.tuple #[]) ∧
    ∃ d' n os, PermIn 0 d.length d.toArray d' ∧ SortedIn (ltOf cfV) 0 d.length d' ∧ w' = sortWorldK encV 4 W g 0 n d' os
def SortN (P : Program) (sf cl : FuncId) : Prop := ∀ (W : World), Calls P sf #[.slice none 0 0, .func (.func cl) #[] #[]] W fun e w' => e = .returned (.tuple #[]) ∧ Below W.heap.size W w'
def AllPost (ty : TypeId) (w : World) (l : List V4) (e : Ending) (w' : World) : Prop :=
  Below w.heap.size w w' ∧ ((l = [] ∧ e = .returned (.slice none 0 0)) ∨ ∃ g cap cur, ∃ d : List V4, d ≠ [] ∧ d.Perm l ∧ d.Pairwise (fun x y => ltOf cfV y x = false) ∧ e = .returned (.slice (some ⟨g, 0, none⟩) d.length cap) ∧
    w.heap.size ≤ g ∧ w'.heap[g]? = some (.cells cur ty (0, 0)) ∧ d.length ≤ cap ∧ cur.size = cap * 4 ∧ ∀ i (hi : i < d.length) k, k < 4 → cur[i * 4 + k]? = (encV d[i])[k]?)

theorem fm_get : ∀ (c : List V4) (i k : Nat) (hi : i < c.length), k < 4 → (c.flatMap encV)[i * 4 + k]? = (encV c[i])[k]?
  | [], i, k, hi, _ => absurd hi (by simp)
  | x :: c, 0, k, hi, hk => by
    rw [List.flatMap_cons, List.getElem?_append_left (by simp [encV]; omega)]
    simp
  | x :: c, i + 1, k, hi, hk => by
    have hi' : i < c.length := by simpa using hi
    have := fm_get c i k hi' hk
    rw [List.flatMap_cons, List.getElem?_append_right (by simp [encV]; omega)]
    have e : (i + 1) * 4 + k - (encV x).length = i * 4 + k := by simp [encV]; omega
    rw [e, this]; rfl

theorem holds_own {w : World} {g cap : Nat} {cur : Array Value} {ty : TypeId} {c : List V4} (hg : w.heap[g]? = some (.cells cur ty (0, 0))) (hc : c.length ≤ cap) (hs : cur.size = cap * 4) (ht : cur.toList.take (c.length * 4) = c.flatMap encV) :
    HoldsK encV 4 w g 0 c.toArray := by
  intro j hj
  rw [size_flatK] at hj
  have hj' : j < c.length * 4 := by simpa using hj
  have hi : j / 4 < c.length := by omega
  have h1 : (c.flatMap encV)[j]? = (encV c[j / 4])[j % 4]? := by
    have := fm_get c (j / 4) (j % 4) hi (Nat.mod_lt _ (by decide))
    rwa [show j / 4 * 4 + j % 4 = j by omega] at this
  rw [← ht, List.getElem?_take, if_pos hj', Array.getElem?_toList] at h1
  have hlen : (encV c[j / 4]).length = 4 := rfl
  have hk4 : j % 4 < (encV c[j / 4]).length := by rw [hlen]; exact Nat.mod_lt _ (by decide)
  refine ⟨?_, by simp [World.frozen?, hg]⟩
  rw [get_flatK _ _ _ _ hj, Nat.zero_add]
  simp only [World.cell?, hg]
  have e1 : (c.toArray)[j / 4]! = c[j / 4] := by simp [hi]
  rw [e1, getElem!_pos (encV c[j / 4]) (j % 4) hk4]
  show cur[j]? = some _
  rw [h1, List.getElem?_eq_getElem hk4]
  rfl

theorem sorted_post {w : World} {g cap : Nat} {cur : Array Value} {ty : TypeId} {n : Nat} {d : Array V4} {os : Array Obj} (hg : w.heap[g]? = some (.cells cur ty (0, 0))) (hs : cur.size = cap * 4) (hd : d.size ≤ cap) :
    ∃ cur', (sortWorldK encV 4 w g 0 n d os).heap[g]? = some (.cells cur' ty (0, 0)) ∧ cur'.size = cap * 4 ∧ ∀ i (hi : i < d.size) k, k < 4 → cur'[i * 4 + k]? = (encV d[i])[k]? := by
  have hlt : g < w.heap.size := (Array.getElem?_eq_some_iff.1 hg).1
  refine ⟨putCells id 0 (flatK encV 4 d) cur, ?_, by simp [putCells, hs], fun i hi k hk => ?_⟩
  · unfold sortWorldK Go.Sort.grow
    have : g < (putRowK encV 4 (Sort.ahead w n) g 0 d).heap.size := by unfold putRowK; rw [Go.Sort.size_putRow]; exact hlt
    simp only [Array.getElem?_append, this, if_true]
    unfold putRowK putRow mapBlock
    simp only [Array.getElem?_modify, if_true]
    have : (Sort.ahead w n).heap[g]? = some (.cells cur ty (0, 0)) := hg
    rw [this]
    rfl
  · have hlt2 : i * 4 + k < d.size * 4 := by omega
    have hc : i * 4 + k < cur.size := by omega
    simp only [putCells, Array.getElem?_mapIdx, Array.getElem?_eq_getElem hc, Option.map_some, size_flatK]
    rw [if_pos ⟨Nat.zero_le _, by omega⟩]
    have e := get_flatK encV 4 d (i * 4 + k) hlt2
    have e1 : (i * 4 + k) / 4 = i := by omega
    have e2 : (i * 4 + k) % 4 = k := by omega
    rw [e1, e2] at e
    have e3 : d[i]! = d[i] := by simp [hi]
    rw [Nat.sub_zero, e, e3]
    have hk4 : k < (encV d[i]).length := hk
    rw [getElem!_pos (encV d[i]) k hk4, List.getElem?_eq_getElem hk4]
    rfl

theorem below_sort {w : World} {B g n : Nat} {d : Array V4} {os : Array Obj} (hB : B ≤ g) (hs : B ≤ w.heap.size) : Below B w (sortWorldK encV 4 w g 0 n d os) := by
  refine ⟨rfl, rfl, rfl, ?_, fun j hj => ?_⟩
  · unfold sortWorldK
    rw [Go.Sort.size_grow]
    unfold putRowK
    rw [Go.Sort.size_putRow]
    exact Nat.le_add_right _ _
  · unfold sortWorldK Go.Sort.grow
    have : j < (putRowK encV 4 (Sort.ahead w n) g 0 d).heap.size := by unfold putRowK; rw [Go.Sort.size_putRow]; show j < w.heap.size; omega
    simp only [Array.getElem?_append, this, if_true]
    unfold putRowK putRow mapBlock
    simp only [Array.getElem?_modify]
    rw [if_neg (by omega)]
    rfl
theorem sorted_list {lt : V4 → V4 → Bool} {d : Array V4} (h : SortedIn lt 0 d.size d) : d.toList.Pairwise (fun x y => lt y x = false) := by
  rw [List.pairwise_iff_getElem]
  intro i j hi hj hij
  have := h i j (Nat.zero_le _) hij (by simpa using hj)
  simpa [getElem!_pos, show i < d.size by simpa using hi, show j < d.size by simpa using hj] using this
theorem perm_list {d d' : Array V4} (h : PermIn 0 d.size d d') : d'.size = d.size ∧ d'.toList.Perm d.toList := by
  obtain ⟨h1, _, h3⟩ := h
  refine ⟨h1, ?_⟩
  have e1 : d'.extract 0 d.size = d' := by rw [← h1]; simp
  have e2 : d.extract 0 d.size = d := by simp
  rwa [e1, e2] at h3

set_option maxRecDepth 1000000 in
set_option maxHeartbeats 4000000 in
theorem all_walk (b o bm : Nat) (es : Array MapEntry) (clock : Nat) (dec : MapEntry → V4) (w : World)
    (hcell : w.cell? ⟨b, o, none⟩ = some (.map (some bm))) (hb : w.heap[bm]? = some (.map es clock)) (hst : (∀ x ∈ es.toList, x.born < clock) ∧ (es.toList.map (·.born)).Nodup) (hdec : ∀ e ∈ es.toList, e.val = .agg (encV (dec e)).toArray) (hes : es.size ≤ 100000)
    (hsort : SortC Tryz.prog 54 55) (hnil : SortN Tryz.prog 54 55) :
    Calls Tryz.prog 25 #[.pointer (some ⟨b, o, none⟩)] w (AllPost 54 w (es.toList.map dec)) := by
  obtain ⟨i0, hi, hz0, hz1, hz2⟩ := info_parts info54
  have hrg := run_range_map (P := Tryz.prog) w 107 9 54 bm es clock Tryz.underlying107 hb
  have hbl : bm < w.heap.size := (Array.getElem?_eq_some_iff.1 hb).1
  go_enter Tryz.func25, Tryz.ntmps25
  go_wp2
  go_loopw [3] (fun v wr => ∃ (seen : Array Nat) (c : List V4), wr.heap[w.heap.size]? = some (.mapIter (some bm) clock seen clock) ∧ wr.heap[bm]? = some (.map es clock) ∧
      wr.ownsRow (w.heap.size + 1) 54 4 v c.length (c.flatMap encV) ∧ c.Perm ((es.toList.filter fun e => seen.contains e.born).map dec) ∧ Below w.heap.size w wr ∧ (c = [] → v = .slice none 0 0))
    (fun _ wr => (leftOf es (wr.iterSeen w.heap.size)).size)
  case atStart =>
    refine ⟨#[], [], heap_alloc_new _ _, ?_, ?_, ?_, ?_⟩
    · exact (by simp only [World.alloc, Array.getElem?_push]; rw [if_neg (by omega)] : (w.alloc _).heap[bm]? = w.heap[bm]?).trans hb
    · exact ⟨rfl, .inl ⟨rfl, rfl⟩⟩
    · simp
    · exact ⟨(Below.refl _ _).alloc (Nat.le_refl _) _, fun _ => rfl⟩
  case round =>
    obtain ⟨seen, c, hr, hbw, hown, hperm, hbel, hcn⟩ := hrel
    have hseen : wr.iterSeen w.heap.size = seen := by unfold World.iterSeen; rw [hr]
    have law := run_next_at (P := Tryz.prog) wr 0 w.heap.size bm clock clock seen es clock hr hbw hst.1 (Nat.le_refl _)
    rcases law with ⟨h0, hrun⟩ | ⟨e, he, k, hrun⟩
    · have hnx : ∀ ty, (Instr.next (.pointer (some ⟨w.heap.size, 0, none⟩)) false ty).run Tryz.prog wr = _ := fun _ => hrun
      have hfull : c.Perm (es.toList.map dec) := by
        rwa [List.filter_eq_self.2 (fun x hx => all_seen es seen h0 x hx)] at hperm
      clear hb hcell hst hdec hr hbw hrg hrun hperm
      rcases hown.2 with ⟨rfl, hc0⟩ | ⟨g, cap, cur, rfl, hbase, hg, h1, h2, h3, h4⟩
      · have hc0' : c = [] := List.eq_nil_of_length_eq_zero hc0
        subst hc0'
        clear hown hcn
        go_wp2_with (go_at_call 54; refine (hnil _).mono ?_; rintro e w' ⟨rfl, hbw'⟩)
        go_ret
        exact ⟨hbel.trans (hbw'.mono hbel.size), .inl ⟨(List.nil_perm.1 hfull), rfl⟩⟩
      · have hcne : c ≠ [] := fun hh => by have := hcn hh; cases this
        have hgl : g < wr.heap.size := (Array.getElem?_eq_some_iff.1 hg).1
        have hcl : c.length ≤ 100000 := by rw [hfull.length_eq, List.length_map]; simpa using hes
        have hs := hsort g cap c wr (holds_own hg h1 h3 h4) hgl hcl
        clear hown hcn
        go_wp2_with (go_at_call 54; refine hs.mono ?_; rintro e w' ⟨rfl, d', n, os, hp, hso, rfl⟩)
        go_ret
        obtain ⟨p1, p2⟩ := perm_list (d := c.toArray) (d' := d') (by rw [List.size_toArray]; exact hp)
        have hds : d'.size = c.length := by simpa using p1
        obtain ⟨cur', q1, q2, q3⟩ := sorted_post (n := n) (d := d') (os := os) hg h3 (by omega)
        refine ⟨hbel.trans ?_, .inr ⟨g, cap, cur', d'.toList, fun hh => hcne (by have := congrArg List.length hh; simp [hds] at this; exact this), p2.trans hfull, sorted_list (by rw [hds]; exact hso), by simp [hds], by omega, q1, by simpa [hds] using h1, q2, fun i hi k hk => ?_⟩⟩
        · exact below_sort (by omega) hbel.size
        · have := q3 i (by simpa using hi) k hk
          simpa using this
    · have hem := (mem_left he).1
      have hval := hdec e hem
      obtain ⟨xn, xv, xf, xo, hx⟩ : ∃ a b c d, dec e = (a, b, c, d) := ⟨_, _, _, _, rfl⟩
      have hval : e.val = .agg #[.string xn, .string xv, .int .i64 xf, .int .i64 xo] := by rw [hval, hx]; rfl
      rw [hval] at hrun
      have hnx : ∀ ty, (Instr.next (.pointer (some ⟨w.heap.size, 0, none⟩)) false ty).run Tryz.prog wr = _ := fun _ => hrun
      obtain ⟨W1, hW1⟩ : ∃ W1, W1 = (wr.drewN k).putObj w.heap.size (.mapIter (some bm) clock (seen.push e.born) clock) := ⟨_, rfl⟩
      rw [← hW1] at hnx
      have hr1 : W1.heap[w.heap.size]? = some (.mapIter (some bm) clock (seen.push e.born) clock) := by
        rw [hW1]; exact World.putObj_heap_same (Array.getElem?_eq_some_iff.1 hr).1
      have hot : ∀ j, j ≠ w.heap.size → W1.heap[j]? = wr.heap[j]? := fun j hj => by
        rw [hW1]; exact World.putObj_heap_other hj
      have hb1 : W1.heap[bm]? = some (.map es clock) := (hot bm (by omega)).trans hbw
      have hen := run_entry_at (P := Tryz.prog) W1 w.heap.size bm clock clock seen es e hr1 hb1 hem hst.2
      rw [hval] at hen
      have hown1 : W1.ownsRow (w.heap.size + 1) 54 4 u3 c.length (c.flatMap encV) := by
        refine ⟨hown.1, hown.2.imp id ?_⟩
        rintro ⟨g, cap, cur, h1, h2, h3, h4⟩
        exact ⟨g, cap, cur, h1, h2, (hot g (by omega)).trans h3, h4⟩
      have hbw1 : Below w.heap.size w W1 := hbel.trans (by
        rw [hW1]
        exact ⟨rfl, rfl, rfl, by simp [World.putObj], fun j hj => World.putObj_heap_other (by omega)⟩)
      have hclen : c.length ≤ es.size := by
        rw [hperm.length_eq, List.length_map]
        exact Nat.le_trans (List.length_filter_le _ _) (by simp)
      have hBlt : w.heap.size < W1.heap.size := (Array.getElem?_eq_some_iff.1 hr1).1
      clear hb hcell hr hbw hrg hrun hW1 hown hbel hcn
      have hc4 : ∀ j u, [Value.string xn, .string xv, .int .i64 xf, .int .i64 xo][j]? = some u → ((W1.alloc (.cells #[.string xn, .string xv, .int .i64 xf, .int .i64 xo] 54)).alloc (.cells #[.string xn, .string xv, .int .i64 xf, .int .i64 xo] 54)).cell? ((⟨W1.heap.size + 1, 0, none⟩ : Addr).add j) = some u := by
        have := cell_four_new (W1.alloc (.cells #[.string xn, .string xv, .int .i64 xf, .int .i64 xo] 54)) (.string xn) (.string xv) (.int .i64 xf) (.int .i64 xo) 54
        rwa [World.size_alloc] at this
      go_wp2_with (first
        | (at_builtin; go_loud (refine wpList_append_own _ rfl _ _ 24 rfl (w.heap.size + 1) 54 i0 (.agg #[.string ⟨#[]⟩, .string ⟨#[]⟩, .int .i64 0, .int .i64 0]) 4 48 Tryz.underlying24 hi hz0 hz1 hz2 rfl (by decide) _ _ _ rfl ((hown1.alloc _).alloc _) ⟨W1.heap.size + 1, 0, none⟩ 1 1 [.string xn, .string xv, .int .i64 xf, .int .i64 xo] rfl rfl hc4 (fun x hx => by simp at hx; rcases hx with rfl | rfl | rfl | rfl <;> rfl) (by unfold maxLen; omega) (by omega) (by simp; omega) ?_); intro v' w3 hown' hgrow3 hnil3))
      have hown2 := (hown1.alloc (.cells #[.string xn, .string xv, .int .i64 xf, .int .i64 xo] 54)).alloc (.cells #[.string xn, .string xv, .int .i64 xf, .int .i64 xo] 54)
      have hall : ∀ j, j < W1.heap.size → j ≤ w.heap.size → w3.heap[j]? = W1.heap[j]? := fun j hj hj2 => by
        rw [hgrow3.block j (by simp; omega) (fun h => by have := (hown2.lt _ h.symm).1; omega), Below.heap_alloc _ _ _ (by simp; omega), Below.heap_alloc _ _ _ hj]
      have hbw3 : Below w.heap.size w w3 := Below.grown ((hbw1.alloc (by omega) _).alloc (by simp; omega) _) hgrow3 (by simp; omega) (fun j hj => by have := (hown2.lt _ hj).1; omega)
      have hr3 : w3.heap[w.heap.size]? = some (.mapIter (some bm) clock (seen.push e.born) clock) := (hall _ hBlt (Nat.le_refl _)).trans hr1
      have hseen3 : w3.iterSeen w.heap.size = seen.push e.born := by unfold World.iterSeen; rw [hr3]
      refine ⟨⟨seen.push e.born, c ++ [(xn, xv, xf, xo)], hr3, (hall bm (by omega) (by omega)).trans hb1, ?_, ?_, hbw3, fun hh => absurd hh (by simp)⟩, ?_⟩
      · rw [List.length_append, List.flatMap_append]; exact hown'
      · refine (hperm.append_right _).trans ?_
        have := (filter_push es.toList seen e hem (mem_left he).2 hst.2).map dec
        rw [List.map_append] at this
        rw [show [(xn, xv, xf, xo)] = List.map dec [e] by simp [hx]]
        exact this.symm
      · rw [hseen, hseen3]; exact left_shrinks es seen e he
end Go.Am
namespace Go.Am
open Go Go.Proofs Go.RowKit
set_option maxHeartbeats 1000000 in
set_option maxRecDepth 100000 in
theorem copy_used : CopyU Tryz.prog 63 := by
  intro b w h0
  obtain ⟨j, hj, _⟩ := Option.map_eq_some_iff.1 (show (Tryz.prog.info? 98).map (·.size) = some 2 by kernel_rfl)
  go_enter Tryz.func63, Tryz.ntmps63
  go_wp2
  rw [Lib.run_neq_ptr_same w _ Tryz.underlying95 hj]
  go_wp2
  go_end0
  exact ⟨rfl, rfl⟩
set_option maxHeartbeats 1000000 in
set_option maxRecDepth 100000 in
theorem copy_fresh : CopyF Tryz.prog 63 [(98, 2)] := by
  intro b w T n hm hn h0 hsh hfz
  simp only [List.mem_singleton, Prod.mk.injEq] at hm
  obtain ⟨rfl, rfl⟩ := hm
  have hl : liesAt Tryz.prog Tryz.prog.depth 98 (2 / Tryz.prog.cellsOf 98) 0 98 1 = true := by kernel_rfl
  obtain ⟨j, hj, hjs⟩ := Option.map_eq_some_iff.1 (show (Tryz.prog.info? 98).map (·.size) = some 2 by kernel_rfl)
  go_enter Tryz.func63, Tryz.ntmps63
  go_wp2
  rw [Lib.run_to_unsafe w ⟨b, 0, none⟩ Tryz.underlying95 Tryz.underlying206 hj (by rw [hjs]; decide) hsh hn]
  simp only [Result.andThen]
  rw [Oper.upon_value]
  go_wp2
  rw [run_callFunc_extern Tryz.func108 (by kernel_rfl) (by kernel_rfl) (by kernel_rfl) (e := Extern.AbiNoEscape.same) (by kernel_rfl)]
  rw [Lib.run_noEscape]
  simp only [Result.andThen]
  rw [Oper.upon_value]
  go_wp2
  rw [Lib.run_from_unsafe w ⟨b, 0, none⟩ Tryz.underlying206 Tryz.underlying95 hj hsh hl]
  simp only [Result.andThen]
  rw [Oper.upon_value]
  go_wp2
  go_end0
  exact ⟨rfl, rfl⟩
end Go.Am
