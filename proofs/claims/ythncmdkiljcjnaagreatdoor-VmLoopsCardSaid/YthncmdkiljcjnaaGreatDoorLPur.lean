import Derived.Test.YthncmdkiljcjnaaGreatDoorRows
import Derived.WalkKit
import Derived.WalkSpells
import Derived.WalkLawsBesides
import Derived.Test.YthncmdkiljcjnaaGreatDoorAmF
import Derived.Test.YthncmdkiljcjnaaGreatDoorShelf
import Derived.Test.YthncmdkiljcjnaaGreatDoorLTab
set_option linter.all false
namespace Go.Proofs.YthncmdkiljcjnaaGreatDoor
open Go.RowKit
theorem tmod_range (a : Int) (m : Nat) (hm : 0 < m) : -(m : Int) < a.tmod m ∧ a.tmod m < m := by
  have h1 := Int.natAbs_tmod a m
  have h2 := Nat.mod_lt a.natAbs hm
  simp only [Int.natAbs_natCast] at h1
  omega
set_option maxHeartbeats 400000 in
theorem place_any (a : Int) (m : Nat) (hm : 0 < m) (hb : m < 4611686018427387904) (w : World) :
    Calls Tryz.prog 6 #[.int .i64 a, .int .i64 m] w fun e w' => e = .returned (.int .i64 (if a.tmod m < 0 then a.tmod m + m else a.tmod m)) ∧ w' = w := by
  have hm' : (m : Int) ≠ 0 := by omega
  have hr := tmod_range a m hm
  go_enter Tryz.func6, Tryz.ntmps6
  go_wp2
  · rename_i h
    go_ret
    exact ⟨rfl, rfl⟩
  · rename_i h
    go_ret
    exact ⟨rfl, rfl⟩
end Go.Proofs.YthncmdkiljcjnaaGreatDoor
namespace Go.Am
open Go Go.Proofs

theorem idxF_eq (c : UInt8) : ∀ (l : List UInt8) (i : Nat), idxF c.toNat (l.map UInt8.toNat) i = .int .i64 (if Lib.indexByte l c = -1 then -1 else Lib.indexByte l c + i) := by
  intro l
  induction l with
  | nil => intro i; rfl
  | cons b l ih =>
    intro i
    show (Bool.rec (idxF c.toNat (l.map UInt8.toNat) (Nat.add i 1)) (.int .i64 (.ofNat i)) (Nat.beq b.toNat c.toNat) : AV) = _
    have hge := Lib.indexByte_ge l c
    by_cases e : b = c
    · subst e
      have h1 : Nat.beq b.toNat b.toNat = true := Nat.beq_refl _
      rw [h1]
      have h2 : Lib.indexByte (b :: l) b = 0 := by simp [Lib.indexByte]
      rw [h2]
      simp
    · have h1 : Nat.beq b.toNat c.toNat = false := by
        cases h : Nat.beq b.toNat c.toNat with
        | false => rfl
        | true => exact absurd (UInt8.toNat_inj.1 (Nat.eq_of_beq_eq_true h)) e
      rw [h1]
      show idxF c.toNat (l.map UInt8.toNat) (Nat.add i 1) = _
      rw [ih]
      have h2 : Lib.indexByte (b :: l) c = if Lib.indexByte l c = -1 then -1 else Lib.indexByte l c + 1 := by simp [Lib.indexByte, e]
      rw [h2]
      by_cases h3 : Lib.indexByte l c = -1
      · simp [h3]
      · have h4 : ¬ (Lib.indexByte l c + 1 = -1) := by omega
        simp only [h3, h4, if_false]
        congr 1
        show Lib.indexByte l c + ((i + 1 : Nat) : Int) = _
        omega

theorem ent85 : Ent Tryz.prog 85 := ⟨Tryz.f85, _, Tryz.func85, rfl, by kernel_rfl⟩
theorem ent32 : Ent Tryz.prog 32 := ⟨Tryz.f32, _, Tryz.func32, rfl, by kernel_rfl⟩
theorem ent6 : Ent Tryz.prog 6 := ⟨Tryz.f6, _, Tryz.func6, rfl, by kernel_rfl⟩

theorem arr2 {α : Type} {vs : Array α} (h : vs.size = 2) (d : α) : vs = #[vs.getD 0 d, vs.getD 1 d] := by
  apply Array.ext
  · simp [h]
  · intro i h1 h2
    have : i = 0 ∨ i = 1 := by omega
    rcases this with rfl | rfl <;> simp [Array.getD, h]

theorem ret_same {S : Sea} {w : World} {r : AV} {cv : Value} {e : Ending} (hS : ∀ b, S b → b < w.heap.size) (he : e = .returned cv) (hv : VR Phi.no S w r cv) :
    ∃ S', Ext Phi.no S w Phi.no S' w ∧ (∀ b, S' b → b < w.heap.size) ∧ ResR Phi.no S' w (.ret r) e := ⟨S, Ext.refl _ _ _, hS, cv, he, hv⟩

theorem gIdx_ok : PurOk Tryz.prog 85 gIdx := by
  intro args r he
  refine ⟨ent85, fun S w vs hS hv => ?_⟩
  unfold gIdx at he
  split at he
  · rename_i s c
    rw [ogrd_some] at he
    obtain ⟨hc, he⟩ := he
    cases he
    obtain ⟨hn, hr⟩ := hv
    have h0 := hr 0 (by simp)
    have h1 := hr 1 (by simp)
    simp only [List.getD_cons_zero, List.getD_cons_succ] at h0 h1
    rw [arr2 hn undef]
    generalize vs.getD 0 undef = v0 at *
    generalize vs.getD 1 undef = v1 at *
    cases h0 with
    | str l bs hb =>
      cases h1 with
      | int k n =>
        refine (Tryz.stringslite_IndexByte bs (.ofNat c) w).mono fun e w' ⟨h1, h2⟩ => ?_
        subst h2
        refine ret_same hS h1 ?_
        have hc' : c < 256 := Nat.le_of_ble_eq_true hc
        have e1 : (Int.toNat (.ofNat c)).toUInt8.toNat = c := by simp; omega
        have e2 := idxF_eq (Int.toNat (.ofNat c)).toUInt8 bs.data.toList 0
        rw [e1, hb] at e2
        have hge := Lib.indexByte_ge bs.data.toList (Int.toNat (.ofNat c)).toUInt8
        rw [e2]
        have e3 : (if Lib.indexByte bs.data.toList (Int.toNat (.ofNat c)).toUInt8 = -1 then (-1 : Int) else Lib.indexByte bs.data.toList (Int.toNat (.ofNat c)).toUInt8 + ((0 : Nat) : Int)) = Lib.indexByte bs.data.toList (Int.toNat (.ofNat c)).toUInt8 := by split <;> omega
        rw [e3]
        exact .int _ _
  · cases he

theorem gPlace_ok : PurOk Tryz.prog 6 gPlace := by
  intro args r he
  refine ⟨ent6, fun S w vs hS hv => ?_⟩
  unfold gPlace at he
  split at he
  · rename_i a m
    rw [ogrd_some] at he
    obtain ⟨hm, he⟩ := he
    cases he
    obtain ⟨hn, hr⟩ := hv
    have h0 := hr 0 (by simp)
    have h1 := hr 1 (by simp)
    simp only [List.getD_cons_zero, List.getD_cons_succ] at h0 h1
    rw [arr2 hn undef]
    generalize vs.getD 0 undef = v0 at *
    generalize vs.getD 1 undef = v1 at *
    cases h0 with
    | int k n =>
      cases h1 with
      | int k' n' =>
        have hm' : m + 1 < 1000 := Nat.le_of_ble_eq_true hm
        refine (YthncmdkiljcjnaaGreatDoor.place_any a (m + 1) (by omega) (by omega) w).mono fun e w' ⟨h1, h2⟩ => ?_
        subst h2
        refine ret_same hS h1 ?_
        have : placeF a (.succ m) = (if a.tmod ((m + 1 : Nat) : Int) < 0 then a.tmod ((m + 1 : Nat) : Int) + ((m + 1 : Nat) : Int) else a.tmod ((m + 1 : Nat) : Int)) := by
          unfold placeF placeF.ltB
          by_cases h : a.tmod ((m + 1 : Nat) : Int) < 0
          · rw [if_pos h]
            have : decide (Int.tmod a (.ofNat (.succ m)) < 0) = true := decide_eq_true h
            rw [this]; rfl
          · rw [if_neg h]
            have : decide (Int.tmod a (.ofNat (.succ m)) < 0) = false := decide_eq_false h
            rw [this]; rfl
        rw [this]
        exact .int _ _
  · cases he

theorem placeF_lt (n : Int) (m : Nat) (hm : 0 < m) : ∃ k, k < m ∧ placeF n m = .ofNat k := by
  have hr := YthncmdkiljcjnaaGreatDoor.tmod_range n m hm
  have e : placeF n m = if n.tmod m < 0 then n.tmod m + m else n.tmod m := by
    unfold placeF placeF.ltB
    by_cases h : n.tmod m < 0
    · rw [if_pos h]
      have : decide (Int.tmod n (.ofNat m) < 0) = true := decide_eq_true h
      rw [this]; rfl
    · rw [if_neg h]
      have : decide (Int.tmod n (.ofNat m) < 0) = false := decide_eq_false h
      rw [this]; rfl
  rw [e]
  split
  · exact ⟨(n.tmod m + m).toNat, by omega, by show _ = ((n.tmod m + m).toNat : Int); omega⟩
  · exact ⟨(n.tmod m).toNat, by omega, by show _ = ((n.tmod m).toNat : Int); omega⟩

theorem joinF_eq (sep : List UInt8) : ∀ (l : List AV) (xs : List (List UInt8)), l = xs.map (fun x => .str (x.map UInt8.toNat)) → joinF (sep.map UInt8.toNat) l = some ((Lib.join xs sep).map UInt8.toNat) := by
  intro l
  induction l with
  | nil => intro xs h; cases xs with
    | nil => rfl
    | cons x xs => cases h
  | cons a l ih =>
    intro xs h
    cases xs with
    | nil => cases h
    | cons x xs =>
      simp only [List.map_cons, List.cons.injEq] at h
      obtain ⟨rfl, h⟩ := h
      cases l with
      | nil =>
        cases xs with
        | nil => rw [Lib.join_one]; rfl
        | cons y ys => cases h
      | cons b l =>
        cases xs with
        | nil => cases h
        | cons y ys =>
          have e := ih (y :: ys) h
          show (obind (joinF (sep.map UInt8.toNat) (b :: l)) fun t => some (lapp (x.map UInt8.toNat) (lapp (sep.map UInt8.toNat) t))) = _
          rw [e]
          show some _ = _
          rw [lapp_eq, lapp_eq, ← List.map_append, ← List.map_append]
          congr 2

theorem strs_of (cs : List AV) (t : List Nat) (sep : List Nat) (h : joinF sep cs = some t) : ∀ a ∈ cs, ∃ s, a = .str s := by
  induction cs generalizing t with
  | nil => intro a ha; cases ha
  | cons b l ih =>
    intro a ha
    have h : (obind (asStr b) fun s => List.rec (motive := fun _ => Option (List Nat)) (some s) (fun _ _ _ => obind (joinF sep l) fun t => some (lapp s (lapp sep t))) l) = some t := h
    rw [obind_some] at h
    obtain ⟨s, hs, h⟩ := h
    have hb : b = .str s := by cases b <;> first | (cases hs; rfl) | (cases hs; done)
    rcases List.mem_cons.1 ha with rfl | ha
    · exact ⟨s, hb⟩
    · cases l with
      | nil => cases ha
      | cons c l =>
        have h : (obind (joinF sep (c :: l)) fun t => some (lapp s (lapp sep t))) = some t := h
        rw [obind_some] at h
        obtain ⟨t', ht, _⟩ := h
        exact ih t' ht a ha

theorem gJoin_ok : PurOk Tryz.prog 32 gJoin := by
  intro args r he
  refine ⟨ent32, fun S w vs hS hv => ?_⟩
  unfold gJoin at he
  split at he
  · cases he
    obtain ⟨hn, hr⟩ := hv
    have h0 := hr 0 (by simp)
    have h1 := hr 1 (by simp)
    simp only [List.getD_cons_zero, List.getD_cons_succ] at h0 h1
    rw [arr2 hn undef]
    generalize vs.getD 0 undef = v0 at *
    generalize vs.getD 1 undef = v1 at *
    cases h0 with
    | nils => cases h1 with
      | str l bs hb =>
        refine (Tryz.strings_Join_none none 0 bs w).mono fun e w' ⟨h1, h2⟩ => ?_
        subst h2
        exact ret_same hS h1 (.str _ _ rfl)
  · cases he
    obtain ⟨hn, hr⟩ := hv
    have h0 := hr 0 (by simp)
    have h1 := hr 1 (by simp)
    simp only [List.getD_cons_zero, List.getD_cons_succ] at h0 h1
    rw [arr2 hn undef]
    generalize vs.getD 0 undef = v0 at *
    generalize vs.getD 1 undef = v1 at *
    cases h0 with
    | es f p cap hf => cases h1 with
      | str l bs hb =>
        refine (Tryz.strings_Join_none (some p) cap bs w).mono fun e w' ⟨h1, h2⟩ => ?_
        subst h2
        exact ret_same hS h1 (.str _ _ rfl)
  · rename_i full len cs sep
    simp only [ogrd_some, obind_some, Option.some.injEq] at he
    obtain ⟨hlen, hl6, s, hs, hs6, rfl⟩ := he
    obtain ⟨hn, hr⟩ := hv
    have h0 := hr 0 (by simp)
    have h1 := hr 1 (by simp)
    simp only [List.getD_cons_zero, List.getD_cons_succ] at h0 h1
    rw [arr2 hn undef]
    generalize vs.getD 0 undef = v0 at *
    generalize vs.getD 1 undef = v1 at *
    obtain ⟨b, o, cap, cvs, rfl, hSb, hfl, hle, hcl, hrr⟩ := h0.ps_inv
    cases h1 with
    | str l bs hb =>
      have hlen := Nat.le_of_ble_eq_true hlen
      rw [llen_eq] at hlen
      have hl6 : len < 1000000 := Nat.le_of_ble_eq_true hl6
      have hs6 : llen s < 1000000 := Nat.le_of_ble_eq_true hs6
      rw [llen_eq] at hs6
      rw [ltake_eq] at hs
      have hall := strs_of _ _ _ hs
      -- the strings
      have hx : ∀ i, i < len → ∃ x : ByteArray, cvs i = .string x ∧ cs.getD i .bot = .str (x.data.toList.map UInt8.toNat) := by
        intro i hi
        have hi' : i < cs.length := by omega
        have h3 := hrr i hi'
        have hm : cs.getD i .bot ∈ cs.take len := by
          rw [List.mem_iff_getElem]
          exact ⟨i, by simp; omega, by simp [List.getD, hi']⟩
        obtain ⟨s', hs'⟩ := hall _ hm
        rw [hs'] at h3 ⊢
        generalize hcv : cvs i = cv at h3
        cases h3 with
        | str l x hx => exact ⟨x, rfl, by rw [hx]⟩
      let xs : List ByteArray := (List.range len).map fun i => if h : i < len then (hx i h).choose else ⟨#[]⟩
      have hxl : xs.length = len := by simp [xs]
      have hxi : ∀ i (hi : i < len), xs[i]? = some (hx i hi).choose := by
        intro i hi
        simp [xs, hi]
      have hcs : cs.take len = (xs.map (·.data.toList)).map (fun x => AV.str (x.map UInt8.toNat)) := by
        apply List.ext_getElem?
        intro i
        by_cases hi : i < len
        · rw [List.getElem?_take]
          simp only [hi, if_true, List.getElem?_map, hxi i hi, Option.map_some]
          rw [← (hx i hi).choose_spec.2]
          simp [List.getD, show i < cs.length by omega]
        · have e1 : (cs.take len)[i]? = none := by simp; omega
          have e2 : xs[i]? = none := by simp [hxl]; omega
          rw [e1]; simp [e2]
      have hj := joinF_eq bs.data.toList (cs.take len) (xs.map (·.data.toList)) hcs
      rw [hb, hs] at hj
      have hj := Option.some.inj hj
      have hjl : (Lib.join (xs.map (·.data.toList)) bs.data.toList).length = s.length := by rw [hj]; simp
      have hcall := Tryz.strings_Join b o cap xs bs w (fun j x hjx => by
        have hjl : j < len := by
          have := (List.getElem?_eq_some_iff.1 hjx).1
          omega
        rw [hxi j hjl] at hjx
        cases hjx
        exact (hcl j (by omega)).trans (congrArg some (hx j hjl).choose_spec.1)) (hS b hSb) (by omega) (by omega) (by omega)
      rw [hxl] at hcall
      refine hcall.mono fun e w' ⟨h1, h2⟩ => ?_
      have hx' : Ext Phi.no S w Phi.no S w' := ⟨fun _ _ h => h, fun _ h => h, fun b hb => h2.block b (hS b hb), fun b hb _ => h2.block b hb, h2.size, fun b hb => .inl hb, fun id x h => absurd h (by intro h; cases h), h2.os, h2.output⟩
      refine ⟨S, hx', fun b hb => Nat.lt_of_lt_of_le (hS b hb) h2.size, _, h1, ?_⟩
      exact .str _ _ (by rw [hj])
  · cases he
end Go.Am
