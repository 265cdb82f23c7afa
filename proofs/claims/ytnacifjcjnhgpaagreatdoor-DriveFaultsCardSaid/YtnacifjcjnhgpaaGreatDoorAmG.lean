import Derived.Test.YtnacifjcjnhgpaaGreatDoorAmF
import Derived.Shelf.Strings.Builder1
import Derived.Laws.IdiomRangeMap
import Derived.Shelf.SlSortCmp.WholeK
import Derived.Lib.Bytealg
set_option linter.all false
namespace Go.Am
open Go Go.Proofs Go.Shelf Go.RowKit
variable {P : Program} {ρ : Ren}

set_option maxHeartbeats 1000000 in
set_option maxRecDepth 100000 in
/-- copyCheck at a fresh builder, that lies first in a variable of another type -/
theorem copyCheck_fresh (L : Lays.n240 P ρ) (X : Builder.X72 P ρ) (b : Nat) (w : World) {T n : Nat} (hn : 0 < n) (hl : liesAt P P.depth T (n / P.cellsOf T) 0 (ρ.t 72) 1 = true)
    (h0 : w.cell? ⟨b, 0, none⟩ = some (.pointer none)) (hsh : w.shape? b = some (T, n)) (hfz : w.frozen? ⟨b, 0, none⟩ = false) :
    Calls P (ρ.f 240) #[.pointer (some ⟨b, 0, none⟩)] w fun e w' => e = .returned (.tuple #[]) ∧ w' = w.setCell ⟨b, 0, none⟩ (.pointer (some ⟨b, 0, none⟩)) := by
  obtain ⟨j, hj, hjs⟩ := Option.map_eq_some_iff.1 X.sizeBuilder
  have mixed := L.mixed
  have t72 := L.t72; have a72 := L.a72; have z72 := L.z72; have v72 := L.v72; have u72 := run_underlying L.t72
  have t70 := L.t70; have a70 := L.a70; have z70 := L.z70; have v70 := L.v70; have u70 := run_underlying L.t70
  have t9 := L.t9; have a9 := L.a9; have z9 := L.z9; have v9 := L.v9; have u9 := run_underlying L.t9
  have t4 := L.t4; have a4 := L.a4; have z4 := L.z4; have v4 := L.v4; have u4 := run_underlying L.t4
  have t164 := L.t164; have a164 := L.a164; have z164 := L.z164; have v164 := L.v164; have u164 := run_underlying L.t164
  go_enter L.f240, Body.n240_ntmps ρ
  go_wp2
  rw [Lib.run_to_unsafe w ⟨b, 0, none⟩ L.t70 L.t164 hj (by rw [hjs]; decide) hsh hn]
  simp only [Result.andThen]
  rw [Oper.upon_value]
  go_wp2
  rw [run_callFunc_extern L.f276 (by kernel_rfl) (by kernel_rfl) (by kernel_rfl) (e := Extern.AbiNoEscape.same) (by kernel_rfl)]
  rw [Lib.run_noEscape]
  simp only [Result.andThen]
  rw [Oper.upon_value]
  go_wp2
  rw [Lib.run_from_unsafe w ⟨b, 0, none⟩ L.t164 L.t70 hj hsh hl]
  simp only [Result.andThen]
  rw [Oper.upon_value]
  go_wp2
  go_end0
  exact ⟨rfl, rfl⟩

set_option maxHeartbeats 1000000 in
set_option maxRecDepth 100000 in
theorem bString (L : Lays.n169 P ρ) (X : Builder.Extra P ρ) (b g cells cap : Nat) (l : List UInt8) (w : World) (h0 : l ≠ []) (hc : l.length ≤ cap) (hcc : l.length ≤ cells) (h63 : l.length ≤ 9223372036854775807)
    (h1 : w.cell? ⟨b, 1, none⟩ = some (.slice (some ⟨g, 0, none⟩) l.length cap)) (hsh : w.shape? g = some ((ρ.t 5), cells))
    (hcell : ∀ j x, l[j]? = some x → w.cell? ((⟨g, 0, none⟩ : Addr).add j) = some (.int .u8 x.toNat)) :
    Calls P (ρ.f 169) #[.pointer (some ⟨b, 0, none⟩)] w fun e w' => e = .returned (.string ⟨l.toArray⟩) ∧ w' = w.drew.freeze ⟨g, 0, none⟩ l.length := by
  have hl0 : l.length ≠ 0 := by simpa using h0
  have c1 : w.drew.cell? ⟨b, 1, none⟩ = some (.slice (some ⟨g, 0, none⟩) l.length cap) := h1
  have hSD : (Builtin.unsafeSliceData_ #[(ρ.t 37)] (ρ.t 127) #[.slice (some ⟨g, 0, none⟩) l.length cap]).run P w.drew = .ok (.pointer (some ⟨g, 0, none⟩)) w.drew :=
    Lib.run_unsafeSliceData_row _ _ _ _ _ _ (by omega)
  have hUS : (Builtin.unsafeString_ #[(ρ.t 127), (ρ.t 3)] (ρ.t 9) #[.pointer (some ⟨g, 0, none⟩), .int .i64 l.length]).run P w.drew = .ok (.string ⟨l.toArray⟩) (w.drew.freeze ⟨g, 0, none⟩ l.length) :=
    Lib.run_unsafeString_row w.drew (ρ.t 127) (ρ.t 3) (ρ.t 9) (ρ.t 5) L.t127 X.cellsByte g cells hsh l h0 hcc h63 hcell
  have mixed := L.mixed
  have t72 := L.t72; have a72 := L.a72; have z72 := L.z72; have v72 := L.v72; have u72 := run_underlying L.t72
  have t70 := L.t70; have a70 := L.a70; have z70 := L.z70; have v70 := L.v70; have u70 := run_underlying L.t70
  have t37 := L.t37; have a37 := L.a37; have z37 := L.z37; have v37 := L.v37; have u37 := run_underlying L.t37
  have t127 := L.t127; have a127 := L.a127; have z127 := L.z127; have v127 := L.v127; have u127 := run_underlying L.t127
  have t3 := L.t3; have a3 := L.a3; have z3 := L.z3; have v3 := L.v3; have u3 := run_underlying L.t3
  have t9 := L.t9; have a9 := L.a9; have z9 := L.z9; have v9 := L.v9; have u9 := run_underlying L.t9
  have t5 := X.t5; have a5 := X.a5; have z5 := X.z5; have v5 := X.v5; have u5 := run_underlying X.t5
  go_enter L.f169, Body.n169_ntmps ρ
  go_wp2
  go_region_o
  all_goals (go_wp2; go_ret; exact ⟨rfl, rfl⟩)

set_option maxHeartbeats 2000000 in
set_option maxRecDepth 100000 in
theorem bString_nil (L : Lays.n169 P ρ) (X : Builder.Extra P ρ) (b : Nat) (w : World) (h1 : w.cell? ⟨b, 1, none⟩ = some (.slice none 0 0)) :
    Calls P (ρ.f 169) #[.pointer (some ⟨b, 0, none⟩)] w fun e w' => e = .returned (.string ⟨#[]⟩) ∧ w' = w.drew := by
  have hUS := Any.unsafeString_none L X
  have c1 : w.drew.cell? ⟨b, 1, none⟩ = some (.slice none 0 0) := h1
  have hSD : (Builtin.unsafeSliceData_ #[(ρ.t 37)] (ρ.t 127) #[.slice none 0 0]).run P w.drew = .ok (.pointer none) w.drew :=
    Lib.run_unsafeSliceData_nil _ _ _ _ _
  have mixed := L.mixed
  have t72 := L.t72; have a72 := L.a72; have z72 := L.z72; have v72 := L.v72; have u72 := run_underlying L.t72
  have t70 := L.t70; have a70 := L.a70; have z70 := L.z70; have v70 := L.v70; have u70 := run_underlying L.t70
  have t37 := L.t37; have a37 := L.a37; have z37 := L.z37; have v37 := L.v37; have u37 := run_underlying L.t37
  have t127 := L.t127; have a127 := L.a127; have z127 := L.z127; have v127 := L.v127; have u127 := run_underlying L.t127
  have t3 := L.t3; have a3 := L.a3; have z3 := L.z3; have v3 := L.v3; have u3 := run_underlying L.t3
  have t9 := L.t9; have a9 := L.a9; have z9 := L.z9; have v9 := L.v9; have u9 := run_underlying L.t9
  have t5 := X.t5; have a5 := X.a5; have z5 := X.z5; have v5 := X.v5; have u5 := run_underlying X.t5
  go_enter L.f169, Body.n169_ntmps ρ
  go_wp2
  go_region_o
  all_goals (go_wp2; go_ret; exact ⟨rfl, rfl⟩)


/-- copyCheck; tys: types that begin with a builder, their sizes -/
noncomputable def tysHas (tys : List (Nat × Nat)) (t n : Nat) : Bool := List.rec false (fun p _ r => (Nat.beq p.1 t && Nat.beq p.2 n) || r) tys
noncomputable def gCopy (tys : List (Nat × Nat)) (args : List AV) (h : Heap) : Option (ARes × Heap) :=
  match args with
  | [.ptr id 0] => (match h.get id with
    | .cells (.one t) (.nilp :: r) => ogrd (tysHas tys t (Nat.add (llen r) 1)) (some (.ret (.tup []), h.set id (.cells (.one t) (.ptr id 0 :: r))))
    | .cells (.one t) (.ptr i 0 :: r) => ogrd (Nat.beq i id) (some (.ret (.tup []), h))
    | _ => none)
  | _ => none
/-- String -/
noncomputable def gBStr (t5 : Nat) (args : List AV) (h : Heap) : Option (ARes × Heap) :=
  match args with
  | [.ptr id 0] => (match h.get id with
    | .cells (.one _) (_ :: .nils :: _) => some (.ret (.str []), h)
    | .cells (.one _) (_ :: .os id' 0 len 1 _ :: _) => (match h.get id' with
      | .cells (.arr t) cs => ogrd (Nat.beq t t5) (ogrd (Nat.ble len (llen cs)) (ogrd (Nat.ble 1 len) (ogrd (Nat.ble len 1073741824) (obind (allcells (ltake cs len)) fun s => some (.ret (.str s), h.set id' .dead)))))
      | _ => none)
    | _ => none)
  | _ => none

theorem tysHas_mem {tys : List (Nat × Nat)} {t n : Nat} (h : tysHas tys t n = true) : (t, n) ∈ tys := by
  induction tys with
  | nil => cases (show false = true from h)
  | cons p tys ih =>
    have h : ((Nat.beq p.1 t && Nat.beq p.2 n) || tysHas tys t n) = true := h
    simp only [Bool.or_eq_true, Bool.and_eq_true] at h
    rcases h with ⟨h1, h2⟩ | h
    · have e1 := Nat.eq_of_beq_eq_true h1
      have e2 := Nat.eq_of_beq_eq_true h2
      obtain ⟨a, b⟩ := p
      simp only at e1 e2
      subst e1 e2
      exact List.mem_cons_self ..
    · exact List.mem_cons_of_mem _ (ih h)

theorem arr1 {α : Type} {vs : Array α} (h : vs.size = 1) (d : α) : vs = #[vs.getD 0 d] := by
  apply Array.ext
  · simp [h]
  · intro i h1 h2
    have : i = 0 := by omega
    subst this; simp [Array.getD, h]

theorem ent_of {f : FuncId} {fn : Func} {c : Code} (h1 : P.funcs[f]? = some fn) (h2 : fn.body = some c) (h3 : (fn.name == "runtime.NumGoroutine") = false) : Ent P f := ⟨fn, c, h1, h2, h3⟩

/-- one pointer is given -/
theorem one_ptr {φ : Phi} {S : Sea} {w : World} {id : Nat} {vs : Array Value} (hv : VRs φ S w [.ptr id 0] vs) : ∃ b base tot, φ id = some (b, base, tot) ∧ vs = #[.pointer (some ⟨b, base, none⟩)] := by
  obtain ⟨hn, hr⟩ := hv
  have h0 := hr 0 (by simp)
  simp only [List.getD_cons_zero] at h0
  obtain ⟨b, base, tot, hφ, he⟩ := h0.ptr_inv
  exact ⟨b, base, tot, hφ, by rw [arr1 hn undef, he]; rfl⟩

/-- what copyCheck does at a fresh builder, at one that was used -/
def CopyF (P : Program) (f : FuncId) (tys : List (Nat × Nat)) : Prop := ∀ (b : Nat) (w : World) (T n : Nat), (T, n) ∈ tys → 0 < n → w.cell? ⟨b, 0, none⟩ = some (.pointer none) → w.shape? b = some (T, n) → w.frozen? ⟨b, 0, none⟩ = false →
  Calls P f #[.pointer (some ⟨b, 0, none⟩)] w fun e w' => e = .returned (.tuple #[]) ∧ w' = w.setCell ⟨b, 0, none⟩ (.pointer (some ⟨b, 0, none⟩))
def CopyU (P : Program) (f : FuncId) : Prop := ∀ (b : Nat) (w : World), w.cell? ⟨b, 0, none⟩ = some (.pointer (some ⟨b, 0, none⟩)) → Calls P f #[.pointer (some ⟨b, 0, none⟩)] w fun e w' => e = .returned (.tuple #[]) ∧ w' = w
theorem copyF_of (L : Lays.n240 P ρ) (X : Builder.X72 P ρ) {tys : List (Nat × Nat)} (ht : ∀ p ∈ tys, liesAt P P.depth p.1 (p.2 / P.cellsOf p.1) 0 (ρ.t 72) 1 = true) : CopyF P (ρ.f 240) tys :=
  fun b w T n hm hn h0 hsh hfz => copyCheck_fresh L X b w hn (ht _ hm) h0 hsh hfz
theorem copyU_of (L : Lays.n240 P ρ) (X : Builder.X72 P ρ) : CopyU P (ρ.f 240) := fun b w h0 => Any.Builder_copyCheck_used L X b w h0

theorem gCopy_ok {f : FuncId} (hent : Ent P f) {tys : List (Nat × Nat)} (hF : CopyF P f tys) (hU : CopyU P f) :
    ∀ args h r h', gCopy tys args h = some (r, h') → CallOk P f args h r h' := by
  intro args h r h' he
  refine ⟨hent, fun φ S w vs hc hv => ?_⟩
  unfold gCopy at he
  split at he
  · rename_i id
    obtain ⟨b, base, tot, hφ, rfl⟩ := one_ptr hv
    split at he
    · rename_i t rest hid
      rw [ogrd_some] at he
      obtain ⟨hm, he⟩ := he
      cases he
      have hl := tysHas_mem hm
      have hlive : h.get id ≠ .dead := by rw [hid]; simp
      obtain ⟨b', base', tot', hφ', hnS, hor⟩ := hc.obj id hlive
      rw [hφ] at hφ'; cases hφ'
      rw [hid] at hor
      obtain ⟨c, e, fr, hb, ⟨rfl, rfl, hsz'⟩, hfr, hsz, hlen, hrel⟩ := hor
      have hpos : 0 < c.size := by rw [hsz']; simp
      have h0 := hrel 0 (by simp)
      simp only [List.getD_cons_zero, Nat.add_zero] at h0
      have hc0 : c.getD 0 undef = .pointer none := by generalize c.getD 0 undef = q at h0; cases h0; rfl
      have hc0' : c[0]? = some (.pointer none) := by rw [← hc0]; simp [Array.getD, hpos]
      have hfz : w.frozen? ⟨b, 0, none⟩ = false := by
        simp only [World.frozen?, hb]
        have := hfr 0 hpos
        cases hh : (decide (fr.1 ≤ 0) && decide (0 < fr.2)) with
        | false => rfl
        | true => simp only [Bool.and_eq_true, decide_eq_true_eq] at hh; exact absurd hh this
      have hn' : c.size = Nat.add (llen rest) 1 := by rw [hsz', llen_eq]; rfl
      refine (hF b w e c.size (by rw [hn']; exact hl) hpos (by simp [World.cell?, hb, hc0']) (by simp [World.shape?, hb]) hfz).mono fun e' w' ⟨h1, h2⟩ => ?_
      subst h2
      have hot : ∀ b', b' ≠ b → (w.setCell ⟨b, 0, none⟩ (.pointer (some ⟨b, 0, none⟩))).heap[b']? = w.heap[b']? := fun b' hb' => by
        simp only [World.setCell, Array.getElem?_modify]
        rw [if_neg (fun e => hb' e.symm)]
      have hat : (w.setCell ⟨b, 0, none⟩ (.pointer (some ⟨b, 0, none⟩))).heap[b]? = some (.cells (c.setIfInBounds 0 (.pointer (some ⟨b, 0, none⟩))) e fr) := by
        simp [World.setCell, Array.getElem?_modify, hb]
      have hsz2 : (w.setCell ⟨b, 0, none⟩ (.pointer (some ⟨b, 0, none⟩))).heap.size = w.heap.size := by simp [World.setCell]
      have hx := Ext.write hc hφ hlive hot hsz2 rfl rfl
      refine ⟨φ, S, hx, hc.write hφ hlive _ hot hsz2 ?_, .tuple #[], h1, .tup _ _ rfl (fun i hi => absurd hi (by simp))⟩
      refine ⟨_, e, fr, hat, ⟨rfl, rfl, by simpa using hsz'⟩, by simpa using hfr, by simpa using hsz, by simpa using hlen, fun i hi => ?_⟩
      rw [Nat.zero_add]
      cases i with
      | zero =>
        have : (c.setIfInBounds 0 (.pointer (some ⟨b, 0, none⟩))).getD 0 undef = .pointer (some ⟨b, 0, none⟩) := by simp [Array.getD, hpos]
        rw [this]
        exact .ptr id 0 b 0 tot hφ
      | succ i =>
        have e1 : (c.setIfInBounds 0 (.pointer (some ⟨b, 0, none⟩))).getD (i + 1) undef = c.getD (i + 1) undef := by
          simp only [Array.getD_eq_getD_getElem?, Array.getElem?_setIfInBounds]
          simp
        rw [e1]
        have := hrel (i + 1) (by simpa using hi)
        rw [Nat.zero_add] at this
        exact this.ext hx
    · rename_i t i rest hid
      rw [ogrd_some] at he
      obtain ⟨hm, he⟩ := he
      cases he
      have hm := Nat.eq_of_beq_eq_true hm
      subst hm
      have hlive : h.get i ≠ .dead := by rw [hid]; simp
      obtain ⟨b', base', tot', hφ', hnS, hor⟩ := hc.obj i hlive
      rw [hφ] at hφ'; cases hφ'
      rw [hid] at hor
      obtain ⟨c, e, fr, hb, ⟨rfl, rfl, hsz'⟩, hfr, hsz, hlen, hrel⟩ := hor
      have hpos : 0 < c.size := by rw [hsz']; simp
      have h0 := hrel 0 (by simp)
      simp only [List.getD_cons_zero, Nat.add_zero] at h0
      have hc0 : c.getD 0 undef = .pointer (some ⟨b, 0, none⟩) := by
        obtain ⟨b1, base1, tot1, hφ1, he1⟩ := h0.ptr_inv
        rw [hφ] at hφ1; cases hφ1
        exact he1
      have hc0' : c[0]? = some (.pointer (some ⟨b, 0, none⟩)) := by rw [← hc0]; simp [Array.getD, hpos]
      refine (hU b w (by simp [World.cell?, hb, hc0'])).mono fun e' w' ⟨h1, h2⟩ => ?_
      subst h2
      exact ⟨φ, S, Ext.refl _ _ _, hc, .tuple #[], h1, .tup _ _ rfl (fun i hi => absurd hi (by simp))⟩
    · cases he
  · cases he

theorem gBStr_ok (L : Lays.n169 P ρ) (X : Builder.Extra P ρ) (hent : Ent P (ρ.f 169)) {t5 : Nat} (h5 : t5 = ρ.t 5) :
    ∀ args h r h', gBStr t5 args h = some (r, h') → CallOk P (ρ.f 169) args h r h' := by
  intro args h r h' he
  refine ⟨hent, fun φ S w vs hc hv => ?_⟩
  unfold gBStr at he
  split at he
  · rename_i id
    obtain ⟨b, base, tot, hφ, rfl⟩ := one_ptr hv
    split at he
    · rename_i t x0 rest hid
      cases he
      have hlive : h.get id ≠ .dead := by rw [hid]; simp
      obtain ⟨b', base', tot', hφ', hnS, hor⟩ := hc.obj id hlive
      rw [hφ] at hφ'; cases hφ'
      rw [hid] at hor
      obtain ⟨c, e, fr, hb, ⟨rfl, rfl, hsz'⟩, hfr, hsz, hlen, hrel⟩ := hor
      have hpos : 1 < c.size := by rw [hsz']; simp
      have h0 := hrel 1 (by simp)
      simp only [List.getD_cons_succ, List.getD_cons_zero, Nat.zero_add] at h0
      have hc0 : c.getD 1 undef = .slice none 0 0 := by generalize c.getD 1 undef = q at h0; cases h0; rfl
      have hc0' : c[1]? = some (.slice none 0 0) := by rw [← hc0]; simp [Array.getD, hpos]
      refine (bString_nil L X b w (by simp [World.cell?, hb, hc0'])).mono fun e' w' ⟨h1, h2⟩ => ?_
      subst h2
      exact ⟨φ, S, Ext.same rfl rfl rfl, hc.same rfl, _, h1, .str _ _ rfl⟩
    · rename_i t x0 id' len ocap rest hid
      split at he
      · rename_i t' cs hid'
        simp only [ogrd_some, obind_some, Option.some.injEq, Prod.mk.injEq] at he
        obtain ⟨ht', hle, hl1, hlm, s, hs, rfl, rfl⟩ := he
        have ht' := Nat.eq_of_beq_eq_true ht'
        subst ht' h5
        have hle := Nat.le_of_ble_eq_true hle
        have hl1 : 1 ≤ len := Nat.le_of_ble_eq_true hl1
        have hlm : len ≤ 1073741824 := Nat.le_of_ble_eq_true hlm
        rw [llen_eq] at hle
        rw [ltake_eq] at hs
        have hlive : h.get id ≠ .dead := by rw [hid]; simp
        obtain ⟨b', base', tot', hφ', hnS, hor⟩ := hc.obj id hlive
        rw [hφ] at hφ'; cases hφ'
        rw [hid] at hor
        obtain ⟨c, e, fr, hb, ⟨rfl, rfl, hsz'⟩, hfr, hsz, hlen, hrel⟩ := hor
        have hpos : 1 < c.size := by rw [hsz']; simp
        have h0 := hrel 1 (by simp)
        simp only [List.getD_cons_succ, List.getD_cons_zero, Nat.zero_add] at h0
        obtain ⟨g, gbase, gtot, vcap, hc0, hφg, hcap, hlcap, htot⟩ := h0.os_inv
        have hc0' : c[1]? = some (.slice (some ⟨g, gbase + 0, none⟩) len vcap) := by rw [← hc0]; simp [Array.getD, hpos]
        have hlive' : h.get id' ≠ .dead := by rw [hid']; simp
        obtain ⟨g', gbase', gtot', hφg', hnS', hor'⟩ := hc.obj id' hlive'
        rw [hφg] at hφg'; cases hφg'
        rw [hid'] at hor'
        obtain ⟨C, E, Fr, hB, ⟨rfl, rfl⟩, hFr, hSz, hLen, hRel⟩ := hor'
        -- the bytes
        have hall := allcells_some hs
        have hslen : s.length = len := by
          have := congrArg List.length hall.1
          simp only [List.length_take, List.length_map] at this
          omega
        have hby : ∀ j, j < len → ∃ x : UInt8, C[j]? = some (.int .u8 x.toNat) ∧ s[j]? = some x.toNat := by
          intro j hj
          have hjs : j < s.length := by omega
          have h1 : (cs.take len).getD j .bot = .int .u8 (Int.ofNat s[j]) := by
            rw [hall.1]; simp [List.getD, hjs]
          have h2 := hall.2 s[j] (List.getElem_mem hjs)
          have hr := hRel j (by omega)
          rw [Nat.zero_add] at hr
          have e1 : (cs.take len).getD j .bot = cs.getD j .bot := by simp [List.getD, List.getElem?_take, hj]
          rw [e1] at h1
          rw [h1] at hr
          have hr := hr.int_inv
          have hjC : j < C.size := by omega
          have hn : (s[j]).toUInt8.toNat = s[j] := by simp; omega
          refine ⟨(s[j]).toUInt8, ?_, ?_⟩
          · have : C[j]? = some (C.getD j undef) := by simp [Array.getD, hjC]
            rw [this, hr, hn]; rfl
          · rw [hn]; simp [hjs]
        let l : List UInt8 := s.map Nat.toUInt8
        have hll : l.length = len := by simp [l, hslen]
        have hlj : ∀ (j : Nat) (x : UInt8), l[j]? = some x → w.cell? ((⟨g, 0, none⟩ : Addr).add j) = some (.int .u8 x.toNat) := by
          intro j x hx
          have hj : j < len := by
            have := (List.getElem?_eq_some_iff.1 hx).1
            omega
          obtain ⟨y, h1, h2⟩ := hby j hj
          simp only [l, List.getElem?_map, h2, Option.map_some, Option.some.injEq] at hx
          have : x = y := by rw [← hx]; apply UInt8.toNat_inj.1; simp
          subst this
          rw [addr_add, Nat.zero_add]
          simp [World.cell?, hB, h1]
        have hstr : (⟨l.toArray⟩ : ByteArray).data.toList.map UInt8.toNat = s := by
          apply List.ext_getElem?
          intro j
          by_cases hj : j < len
          · obtain ⟨y, h1, h2⟩ := hby j hj
            simp [l, h2]
          · have e1 : s[j]? = none := List.getElem?_eq_none (by omega)
            simp [l, e1]
        have hh : l ≠ [] := fun e => by rw [e] at hll; simp at hll; omega
        refine (bString L X b g C.size vcap l w hh (by omega) (by omega) (by omega) (by simp [World.cell?, hb, hc0', hll]) (by simp [World.shape?, hB]) hlj).mono fun e' w' ⟨h1, h2⟩ => ?_
        subst h2
        have hot : ∀ b', b' ≠ g → (w.drew.freeze ⟨g, 0, none⟩ l.length).heap[b']? = w.heap[b']? := fun b' hb' => by
          unfold World.freeze
          split
          · rfl
          · simp only [Array.getElem?_modify]
            rw [if_neg (fun e => hb' e.symm)]; rfl
        have hsz2 : (w.drew.freeze ⟨g, 0, none⟩ l.length).heap.size = w.heap.size := by
          unfold World.freeze
          split
          · rfl
          · simp
        have hos : (w.drew.freeze ⟨g, 0, none⟩ l.length).os = w.os ∧ (w.drew.freeze ⟨g, 0, none⟩ l.length).output = w.output := by
          unfold World.freeze
          split <;> exact ⟨rfl, rfl⟩
        exact ⟨φ, S, Ext.write hc hφg hlive' hot hsz2 hos.1 hos.2, hc.write hφg hlive' .dead hot hsz2 trivial, _, h1, .str _ _ hstr⟩
      · cases he
    · cases he
  · cases he
end Go.Am
namespace Go.Am
open Go
/- the variables of a map, by their names -/
noncomputable def vnm : AV → List Nat
  | .agg cs => (match cs with | .str s :: _ => s | _ => [])
  | _ => []
def okS : AV → Bool
  | .str _ => true
  | .strb .. => true
  | _ => false
def okI : AV → Bool
  | .int .i64 _ => true
  | .nb .. => true
  | _ => false
def okV : AV → Bool
  | .agg [.str _, v, f, o] => okS v && okI f && okI o
  | _ => false
noncomputable def insV (v : AV) (l : List AV) : List AV := List.rec [v] (fun u r ih => bif llt (vnm v) (vnm u) then v :: u :: r else u :: ih) l
noncomputable def sortV (l : List AV) : List AV := List.rec [] (fun v _ ih => insV v ih) l
noncomputable def flatV (l : List AV) : List AV := List.rec [] (fun v _ ih => (match v with | .agg cs => lapp cs ih | _ => ih)) l
noncomputable def memN (n : Nat) (l : List (AV × AV × Nat)) : Bool := List.rec false (fun e _ r => Nat.beq e.2.2 n || r) l
noncomputable def bornsB (clk : Nat) (l : List (AV × AV × Nat)) : Bool := List.rec true (fun e r ih => Nat.blt e.2.2 clk && !memN e.2.2 r && ih) l
noncomputable def memS (s : List Nat) (l : List (AV × AV × Nat)) : Bool := List.rec false (fun e _ r => leq (vnm e.2.1) s || r) l
noncomputable def namesB (l : List (AV × AV × Nat)) : Bool := List.rec true (fun e r ih => okV e.2.1 && !memS (vnm e.2.1) r && ih) l
noncomputable def valsM (l : List (AV × AV × Nat)) : List AV := List.rec [] (fun e _ r => e.2.1 :: r) l
noncomputable def gAll (ty : Nat) (args : List AV) (h : Heap) : Option (ARes × Heap) :=
  match args with
  | [.ptr id off] => obind (oCells (h.get id)) fun cs => obind (lget cs off) fun v => obind (asMp v) fun m => obind (oMp (h.get m)) fun p =>
      ogrd (Nat.ble (llen p.1) 100000) (ogrd (bornsB p.2 p.1) (ogrd (namesB p.1)
        (match p.1 with
          | [] => some (.ret .nils, h)
          | _ :: _ => some (.ret (.os h.next 0 (llen p.1) 4 none), h.new (.cells (.arr ty) (flatV (sortV (valsM p.1))))))))
  | _ => none


noncomputable def resK (m : Nat) (l : List (Nat × Nat)) : Option Nat := List.rec none (fun p _ ih => Bool.rec ih (some p.2) (Nat.beq p.1 m)) l
noncomputable def gPlace : List AV → Option ARes := fun l =>
  match l with
  | [.md l, .int .i64 (.ofNat m)] => obind (resK m l) fun k => ogrd (Nat.blt 0 m && Nat.blt m 4611686018427387904) (some (.ret (.int .i64 (.ofNat k))))
  | _ => none
noncomputable def isT (x : Option (ARes × Heap)) : Bool := match x with | some (.ret (.bool b), _) => b | _ => false
theorem isT_true {x : Option (ARes × Heap)} (h : isT x = true) : ∃ h', x = some (.ret (.bool true), h') := by
  unfold isT at h
  split at h
  · subst h; exact ⟨_, rfl⟩
  · cases h
theorem resK_mem {m k : Nat} {l : List (Nat × Nat)} (h : resK m l = some k) : (m, k) ∈ l := by
  induction l with
  | nil => cases h
  | cons p l ih =>
    have h : (Bool.rec (motive := fun _ => Option Nat) (resK m l) (some p.2) (Nat.beq p.1 m) : Option Nat) = some k := h
    cases hb : Nat.beq p.1 m with
    | false => rw [hb] at h; exact List.mem_cons_of_mem _ (ih h)
    | true =>
      rw [hb] at h
      have e1 := Nat.eq_of_beq_eq_true hb
      have e2 : p.2 = k := Option.some.inj h
      obtain ⟨a, b⟩ := p
      simp only at e1 e2
      subst e1 e2
      exact List.mem_cons_self ..
end Go.Am
namespace Go.Am
open Go
variable {P : Program}

/-- the iterator lies somewhere: the map as it was when the loop began -/
theorem run_next_at (w : World) (ty : TypeId) (r bm since c0 : Nat) (seen : Array Nat) (es : Array MapEntry) (clock : Nat) (hr : w.heap[r]? = some (.mapIter (some bm) since seen c0)) (hb : w.heap[bm]? = some (.map es clock))
    (hold : ∀ x ∈ es.toList, x.born < since) (hsc : since ≤ c0) :
    ((leftOf es seen).size = 0 ∧ (Instr.next (.pointer (some ⟨r, 0, none⟩)) false ty).run P w = .ok (.tuple #[.bool false]) w) ∨
    ∃ e ∈ (leftOf es seen).toList, ∃ k, (Instr.next (.pointer (some ⟨r, 0, none⟩)) false ty).run P w = .ok (.tuple #[.bool true, e.key, e.val]) ((w.drewN k).putObj r (.mapIter (some bm) since (seen.push e.born) clock)) := by
  simp only [Instr.next, getObj, Sem.run_bind, Sem.run, hr, hb, Result.andThen, next_test_false seen es since c0 hold hsc, Bool.false_eq_true, if_false]
  unfold leftOf
  have hmem : ∀ x ∈ (Array.filter (fun e => !seen.contains e.born) es).toList, x.born < since := fun x hx => hold x (by simp at hx ⊢; exact hx.1)
  generalize Array.filter (fun e => !seen.contains e.born) es = L at hmem ⊢
  have e1 : L.filter (fun x => decide (x.born < since)) = L := Array.filter_eq_self.2 (fun x hx => by simpa using hmem x (by simpa using hx))
  have e2 : L.filter (fun x => decide (x.born ≥ since)) = #[] := by
    rw [Array.filter_eq_empty_iff]
    intro x hx
    have := hmem x (by simpa using hx)
    simp
    omega
  simp only [e1, e2, Array.append_empty]
  by_cases h0 : L.size = 0
  · left
    have : L = #[] := Array.eq_empty_of_size_eq_zero h0
    subst this
    refine ⟨rfl, ?_⟩
    simp [choose, Sem.run, Question.forced]
  · right
    have hne : L.isEmpty = false := by simp [Array.isEmpty, h0]
    simp only [hne, Bool.false_eq_true, if_false, Array.empty_append, Array.size_map]
    have hch : ∃ (j k : Nat), j < L.size ∧ (choose (Question.mapNext L.size)).run P w = .ok j (w.drewN k) := by
      by_cases hf : L.size ≤ 1
      · exact ⟨0, 0, by omega, by simp [choose, Sem.run, Question.forced, hf, World.drewN]⟩
      · exact ⟨_, 1, Nat.mod_lt _ (by omega), by
          simp only [choose, Sem.run, Question.forced, decide_eq_true_eq, hf, if_false, Question.cut]
          rfl⟩
    obtain ⟨j, k, hj, hrun⟩ := hch
    refine ⟨L[j], by simp, k, ?_⟩
    have hset : ∀ (o' : Obj), (setObj r o').run P (w.drewN k) = .ok () ((w.drewN k).putObj r o') := fun o' => by
      simp only [setObj, Sem.run]
      have : (w.drewN k).heap[r]? = some (.mapIter (some bm) since seen c0) := hr
      rw [this]
      rfl
    simp only [hrun, Array.getElem?_map, Array.getElem?_eq_getElem hj, Option.map_some, Sem.run_bind, hset, Result.andThen]
    rfl

theorem run_entry_at (w : World) (r bm since clock : Nat) (seen : Array Nat) (es : Array MapEntry) (e : MapEntry) (hr : w.heap[r]? = some (.mapIter (some bm) since (seen.push e.born) clock)) (hb : w.heap[bm]? = some (.map es clock)) (he : e ∈ es.toList) (hn : (es.toList.map (·.born)).Nodup) :
    (Instr.entry (.pointer (some ⟨r, 0, none⟩))).run P w = .ok (.tuple #[e.key, e.val]) w := by
  have hf : es.find? (·.born == e.born) = some e := by rw [← Array.find?_toList]; exact find_born e es.toList hn he
  simp only [Instr.entry, getObj, Sem.run_bind, Sem.run, hr, hb, Result.andThen, Array.back?_push, bne_self_eq_false, Bool.false_eq_true, if_false, hf]
  rfl

end Go.Am
namespace Go.Am
open Go Go.Sort Go.Proofs

/- strings by bytes -/
theorem cmp_lt : ∀ (a b : List UInt8), decide (Lib.compareBytes a b < 0) = llt (a.map UInt8.toNat) (b.map UInt8.toNat) := by
  intro a
  induction a with
  | nil => intro b; cases b <;> rfl
  | cons x a ih =>
    intro b
    cases b with
    | nil => rfl
    | cons y b =>
      show _ = (Bool.rec (Bool.rec false (llt (a.map UInt8.toNat) (b.map UInt8.toNat)) (Nat.beq x.toNat y.toNat)) true (Nat.blt x.toNat y.toNat) : Bool)
      rw [← ih b]
      simp only [Lib.compareBytes]
      by_cases h : x < y
      · have e : Nat.blt x.toNat y.toNat = true := by rw [Nat.blt_eq]; exact UInt8.lt_iff_toNat_lt.1 h
        rw [e]; simp [h]
      · have e : Nat.blt x.toNat y.toNat = false := by
          cases hh : Nat.blt x.toNat y.toNat with
          | false => rfl
          | true => exact absurd (UInt8.lt_iff_toNat_lt.2 (by rwa [Nat.blt_eq] at hh)) h
        rw [e]
        by_cases h2 : y < x
        · have e2 : Nat.beq x.toNat y.toNat = false := by
            cases hh : Nat.beq x.toNat y.toNat with
            | false => rfl
            | true =>
              have := UInt8.toNat_inj.1 (Nat.eq_of_beq_eq_true hh)
              subst this
              exact absurd h2 h
          rw [e2]; simp [h, h2]
        · have h3 : x = y := by
            apply UInt8.toNat_inj.1
            have a1 : ¬ x.toNat < y.toNat := fun hh => h (UInt8.lt_iff_toNat_lt.2 hh)
            have a2 : ¬ y.toNat < x.toNat := fun hh => h2 (UInt8.lt_iff_toNat_lt.2 hh)
            omega
          subst h3
          have e2 : Nat.beq x.toNat x.toNat = true := Nat.beq_refl _
          rw [e2]; simp [h]

theorem llt_cons (x : Nat) (a : List Nat) (y : Nat) (b : List Nat) : llt (x :: a) (y :: b) = (decide (x < y) || (decide (x = y) && llt a b)) := by
  show (Bool.rec (Bool.rec false (llt a b) (Nat.beq x y)) true (Nat.blt x y) : Bool) = _
  have hb : Nat.beq x y = decide (x = y) := by rw [Bool.eq_iff_iff]; simp
  have hl : Nat.blt x y = decide (x < y) := by rw [Bool.eq_iff_iff, Nat.blt_eq]; simp
  rw [hb, hl]
  by_cases h : x < y <;> by_cases h2 : x = y <;> simp [h, h2]
theorem llt_irrefl : ∀ a : List Nat, llt a a = false := by
  intro a
  induction a with
  | nil => rfl
  | cons x a ih => rw [llt_cons, ih]; simp
theorem llt_trans : ∀ a b c : List Nat, llt a b = true → llt b c = true → llt a c = true := by
  intro a
  induction a with
  | nil => intro b c h1 h2; cases b with
    | nil => cases h1
    | cons y b => cases c with
      | nil => cases h2
      | cons z c => rfl
  | cons x a ih =>
    intro b c h1 h2
    cases b with
    | nil => cases h1
    | cons y b =>
      cases c with
      | nil => cases h2
      | cons z c =>
        rw [llt_cons] at *
        simp only [Bool.or_eq_true, Bool.and_eq_true, decide_eq_true_eq] at *
        rcases h1 with h1 | ⟨h1, h1'⟩ <;> rcases h2 with h2 | ⟨h2, h2'⟩
        · left; omega
        · left; omega
        · left; omega
        · right; exact ⟨by omega, ih _ _ h1' h2'⟩
theorem llt_total : ∀ a b : List Nat, llt a b = false → llt b a = false → a = b := by
  intro a
  induction a with
  | nil => intro b h1 h2; cases b with
    | nil => rfl
    | cons y b => cases h1
  | cons x a ih =>
    intro b h1 h2
    cases b with
    | nil => cases h2
    | cons y b =>
      rw [llt_cons] at *
      simp only [Bool.or_eq_false_iff, Bool.and_eq_false_iff, decide_eq_false_iff_not] at *
      have : x = y := by omega
      subst this
      rw [ih b (by rcases h1.2 with h | h; exact absurd rfl h; exact h) (by rcases h2.2 with h | h; exact absurd rfl h; exact h)]

/- a variable: name, value, two numbers -/
abbrev V4 := ByteArray × ByteArray × Int × Int
def encV (x : V4) : List Value := [.string x.1, .string x.2.1, .int .i64 x.2.2.1, .int .i64 x.2.2.2]
def nmV (x : V4) : List Nat := x.1.data.toList.map UInt8.toNat
def cfV (x y : V4) : Int := Lib.compareBytes x.1.data.toList y.1.data.toList
theorem ltV (x y : V4) : ltOf cfV x y = llt (nmV x) (nmV y) := cmp_lt _ _
theorem swoV : SWO (ltOf cfV) where
  irrefl x := by rw [ltV]; exact llt_irrefl _
  trans x y z h1 h2 := by rw [ltV] at *; exact llt_trans _ _ _ h1 h2
  ntrans x y z h1 h2 := by
    rw [ltV] at *
    cases h : llt (nmV x) (nmV z) with
    | false => rfl
    | true =>
      -- y against x and z
      cases h3 : llt (nmV z) (nmV y) with
      | true => rw [llt_trans _ _ _ h h3] at h1; cases h1
      | false =>
        have := llt_total _ _ h2 h3
        rw [this] at h1; rw [h] at h1; cases h1

/- insertion, by any order -/
section
variable {α : Type} (lt : α → α → Bool)
def insB (v : α) : List α → List α
  | [] => [v]
  | u :: r => if lt v u then v :: u :: r else u :: insB v r
def sortB (l : List α) : List α := l.foldr (insB lt) []
theorem insB_perm (v : α) : ∀ l, (insB lt v l).Perm (v :: l)
  | [] => List.Perm.refl _
  | u :: r => by
    unfold insB
    split
    · exact List.Perm.refl _
    · exact ((insB_perm v r).cons u).trans (List.Perm.swap v u r)
theorem sortB_perm : ∀ l, (sortB lt l).Perm l
  | [] => List.Perm.refl _
  | v :: l => (insB_perm lt v (sortB lt l)).trans ((sortB_perm l).cons v)
theorem insB_sorted (hO : SWO lt) (v : α) : ∀ l, l.Pairwise (fun x y => lt y x = false) → (insB lt v l).Pairwise (fun x y => lt y x = false)
  | [], _ => by simp [insB]
  | u :: r, h => by
    unfold insB
    rw [List.pairwise_cons] at h
    split
    · rename_i hv
      rw [List.pairwise_cons, List.pairwise_cons]
      refine ⟨fun y hy => ?_, h⟩
      have hvu : lt u v = false := by
        cases hh : lt u v with
        | false => rfl
        | true => have := hO.trans _ _ _ hv hh; rw [hO.irrefl] at this; cases this
      rcases List.mem_cons.1 hy with rfl | hy
      · exact hvu
      · exact hO.ntrans _ _ _ (h.1 y hy) hvu
    · rename_i hv
      rw [List.pairwise_cons]
      refine ⟨fun y hy => ?_, insB_sorted hO v r h.2⟩
      rcases List.mem_cons.1 ((insB_perm lt v r).mem_iff.1 hy) with rfl | hy
      · simpa using hv
      · exact h.1 y hy
theorem sortB_sorted (hO : SWO lt) : ∀ l, (sortB lt l).Pairwise (fun x y => lt y x = false)
  | [] => List.Pairwise.nil
  | v :: l => insB_sorted lt hO v _ (sortB_sorted hO l)
/-- sorted lists of the same things, no two of which are alike: the same -/
theorem sorted_one (nm : α → List Nat) (hlt : ∀ x y, lt x y = llt (nm x) (nm y)) : ∀ (l m : List α), (l.map nm).Nodup → l.Perm m → l.Pairwise (fun x y => lt y x = false) → m.Pairwise (fun x y => lt y x = false) → l = m := by
  intro l
  induction l with
  | nil => intro m _ hp _ _; exact (List.nil_perm.1 hp).symm
  | cons x l ih =>
    intro m hn hp h1 h2
    cases m with
    | nil => exact absurd hp.length_eq (by simp)
    | cons y m =>
      have hxy : x = y := by
        by_cases e : x = y
        · exact e
        · have hx : x ∈ m := by
            rcases List.mem_cons.1 (hp.mem_iff.1 (List.mem_cons_self ..)) with h | h
            · exact absurd h e
            · exact h
          have hy : y ∈ l := by
            rcases List.mem_cons.1 (hp.symm.mem_iff.1 (List.mem_cons_self ..)) with h | h
            · exact absurd h.symm e
            · exact h
          have a := (List.pairwise_cons.1 h1).1 y hy
          have b := (List.pairwise_cons.1 h2).1 x hx
          rw [hlt] at a b
          have := llt_total _ _ b a
          have hn' := (List.nodup_cons.1 hn).1
          exact absurd (List.mem_map.2 ⟨y, hy, this.symm⟩) hn'
      subst hxy
      rw [ih m (List.nodup_cons.1 hn).2 (List.Perm.cons_inv hp) (List.pairwise_cons.1 h1).2 (List.pairwise_cons.1 h2).2]
end
end Go.Am
namespace Go.Am
open Go
/-- strings.Count of one byte, strings.Index of one byte, numfn.told -/
noncomputable def cntL (c : Nat) (l : List Nat) : Nat := List.rec 0 (fun b _ ih => Bool.rec ih (Nat.succ ih) (Nat.beq b c)) l
noncomputable def gCount (args : List AV) : Option ARes :=
  match args with
  | [.str s, .str [c]] => some (.ret (.int .i64 (.ofNat (cntL c s))))
  | _ => none
noncomputable def gIndex1 (args : List AV) : Option ARes :=
  match args with
  | [.str s, .str [c]] => some (.ret (idxF c s 0))
  | _ => none
noncomputable def gTold (t0 : Nat) (args : List AV) : Option ARes :=
  match args with
  | [.nili] => some (.ret (.int .i64 (.ofNat 0)))
  | [.iface t (.agg [.int .i64 n])] => ogrd (Nat.beq t t0) (some (.ret (.int .i64 n)))
  | _ => none
theorem cntL_eq (c : UInt8) : ∀ l : List UInt8, cntL c.toNat (l.map UInt8.toNat) = l.count c := by
  intro l
  induction l with
  | nil => rfl
  | cons b l ih =>
    show (Bool.rec (cntL c.toNat (l.map UInt8.toNat)) (Nat.succ (cntL c.toNat (l.map UInt8.toNat))) (Nat.beq b.toNat c.toNat) : Nat) = _
    rw [ih]
    by_cases e : b = c
    · subst e
      have h1 : Nat.beq b.toNat b.toNat = true := Nat.beq_refl _
      rw [h1]; simp
    · have h1 : Nat.beq b.toNat c.toNat = false := by
        cases h : Nat.beq b.toNat c.toNat with
        | false => rfl
        | true => exact absurd (UInt8.toNat_inj.1 (Nat.eq_of_beq_eq_true h)) e
      rw [h1]; simp [e]
end Go.Am
