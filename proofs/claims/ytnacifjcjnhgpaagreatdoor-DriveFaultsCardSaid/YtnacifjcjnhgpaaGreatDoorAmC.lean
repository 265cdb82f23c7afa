import Derived.Test.YtnacifjcjnhgpaaGreatDoorAmB
import GoSem.Core.Utf8
import Derived.Laws.MakeOwn
set_option linter.all false
namespace Go.Am
open Go

section
variable {P : Program} {φ : Phi} {S : Sea} {w : World} {F : Fr} {a : Act} {h h' : Heap} {v : AV} {o : Oper}

theorem op_slc {sz : Nat} {x : Opd} {lo hi mx : Option Opd} {t e : TypeId} {y : Operand} {l' h'' m' : Option Operand} (ho : o.op = .slice t y l' h'' m') (ht : sliceE P t = some e) (hsz : szOk P e sz = true) (hmh : m'.isSome = true → h''.isSome = true)
    (hx : chkOpd x y = true) (hlo : chkO lo l' = true) (hhi : chkO hi h'' = true) (hmx : chkO mx m' = true)
    (he : aop (.slc sz x lo hi mx) F h = some (v, h')) (hc : Cpl φ S h w) (hf : FRel φ S w F a.tmps) : OpOk P a o w (Good h φ S w v h') := by
  simp only [aop, obind_some, Option.some.injEq, Prod.mk.injEq] at he
  obtain ⟨v', hv', rfl, rfl⟩ := he
  have hv := chkOpd_sound hx hf
  generalize x.ev F = xv at *
  have hlo' : ∀ {l : Nat}, bnd F 0 lo = some l → (l'.map a.eval = none ∧ l = 0) ∨ ∃ k, l'.map a.eval = some (.int k l) := fun hl => by
    rcases bnd_some hl hlo hf with ⟨rfl, _, rfl⟩ | ⟨y', k, rfl, _, e⟩
    · exact .inl ⟨rfl, rfl⟩
    · exact .inr ⟨k, by simp [e]⟩
  have hhi' : ∀ {d u : Nat}, bnd F d hi = some u → (h''.map a.eval = none ∧ u = d) ∨ ∃ k, h''.map a.eval = some (.int k u) := fun hl => by
    rcases bnd_some hl hhi hf with ⟨rfl, _, rfl⟩ | ⟨y', k, rfl, _, e⟩
    · exact .inl ⟨rfl, rfl⟩
    · exact .inr ⟨k, by simp [e]⟩
  have hmx' : ∀ {d m : Nat}, bnd F d mx = some m → (m'.map a.eval = none ∧ mx = none ∧ m = d) ∨ ((∃ k, m'.map a.eval = some (.int k m)) ∧ mx.isSome = true) := fun hl => by
    rcases bnd_some hl hmx hf with ⟨rfl, e, rfl⟩ | ⟨y', k, rfl, e1, e⟩
    · exact .inl ⟨rfl, e, rfl⟩
    · exact .inr ⟨⟨k, by simp [e]⟩, e1⟩
  have hmh' : (m'.map a.eval).isSome = true → (h''.map a.eval).isSome = true := by simpa using hmh
  have main : ∀ (p : Option Addr) (len cap l u m : Nat), a.eval y = .slice p len cap → (l'.map a.eval = none ∧ l = 0) ∨ (∃ k, l'.map a.eval = some (.int k l)) → (h''.map a.eval = none ∧ u = len) ∨ (∃ k, h''.map a.eval = some (.int k u)) →
      (m'.map a.eval = none ∧ m = cap) ∨ (∃ k, m'.map a.eval = some (.int k m)) → l ≤ u → u ≤ m → m ≤ cap →
      (execOp a.eval o).run P w = .ok (.value (.slice (if m = l then p else p.map (·.add (l * sz))) (u - l) (m - l))) w := by
    intro p len cap l u m hy h1 h2 h3 h4 h5 h6
    have hsb := sliceBounds_run (P := P) (w := w) (isSlice := true) h1 h2 h3 hmh' h4 h5 h6
    simp [execOp, ho, Instr.sliceAt, run_underlying (sliceE_u ht), Instr.slice, hy, hsb, szOk_run hsz]
  -- the third index, as the model has it
  have third : ∀ {d m : Nat} (cap : Nat), bnd F d mx = some m → m = d → d ≤ cap → ∃ mm, ((m'.map a.eval = none ∧ mm = cap) ∨ (∃ k, m'.map a.eval = some (.int k mm))) ∧ d ≤ mm ∧ mm ≤ cap ∧ (mx.isSome = true → mm = d) ∧ (mx.isSome = false → mm = cap) := by
    intro d m cap hm hd hle
    subst hd
    rcases hmx' hm with ⟨e1, e2, _⟩ | ⟨e1, e2⟩
    · exact ⟨cap, .inl ⟨e1, rfl⟩, hle, Nat.le_refl _, by simp [e2], fun _ => rfl⟩
    · exact ⟨m, .inr e1, Nat.le_refl _, hle, fun _ => rfl, by simp [e2]⟩
  unfold aslc at hv'
  split at hv'
  · simp only [obind_some, ogrd_some, Option.some.injEq] at hv'
    obtain ⟨l, hl, u, hu, m, hm, e1, e2, e3, rfl⟩ := hv'
    have e1 := Nat.eq_of_beq_eq_true e1
    have e2 := Nat.eq_of_beq_eq_true e2
    have e3 := Nat.eq_of_beq_eq_true e3
    subst e1; subst e2; subst e3
    generalize hy : a.eval y = cy at hv
    cases hv
    refine .pure ?_ hc .nils
    obtain ⟨mm, h3, h4, h5, _, _⟩ := third 0 hm rfl (Nat.le_refl _)
    obtain rfl : mm = 0 := by omega
    rw [main none 0 0 0 0 0 hy (hlo' hl) (hhi' hu) h3 (Nat.le_refl _) (Nat.le_refl _) (Nat.le_refl _)]
    rfl
  · rename_i full
    simp only [obind_some, ogrd_some, Option.some.injEq] at hv'
    obtain ⟨l, hl, u, hu, m, hm, e1, e2, e3, rfl⟩ := hv'
    have e1 := Nat.eq_of_beq_eq_true e1
    have e2 := Nat.eq_of_beq_eq_true e2
    have e3 := Nat.eq_of_beq_eq_true e3
    subst e1; subst e2; subst e3
    generalize hy : a.eval y = cy at hv
    cases hv with
    | es _ p cap hf =>
      obtain ⟨mm, h3, h4, h5, h6, h7⟩ := third cap hm rfl (Nat.zero_le _)
      have hrun := main (some p) 0 cap 0 0 mm hy (hlo' hl) (hhi' hu) h3 (Nat.le_refl _) h4 h5
      refine .pure hrun hc ?_
      have hp : p.add 0 = p := by cases p; rfl
      simp only [Nat.zero_mul, Nat.sub_zero, hp, Nat.add_zero, Option.map_some, ite_self]
      refine .es _ p mm fun hh => ?_
      cases hms : mx.isSome with
      | true => exact h6 hms
      | false => rw [hms] at hh; rw [h7 hms]; exact hf (by simpa using hh)
  · rename_i full len cs
    simp only [obind_some, ogrd_some, Option.some.injEq] at hv'
    obtain ⟨l, hl, u, hu, m, hm, e1, e2, e3, rfl⟩ := hv'
    have e1 := Nat.le_of_ble_eq_true e1
    have e2 := Nat.le_of_ble_eq_true e2
    have e3 := Nat.eq_of_beq_eq_true e3
    obtain ⟨b, p, cap, vs, hy, hS, hfl, hle, hcl, hr⟩ := hv.ps_inv
    obtain ⟨mm, h3, h4, h5, h6, h7⟩ := third cap hm e3 (by omega)
    have hrun := main _ len cap l u mm hy (hlo' hl) (hhi' hu) h3 e1 h4 h5
    have hfull : (mx.isSome || (full && Nat.beq u len)) = true → mm = u ∨ (mm = cap ∧ cap = len ∧ u = len) := by
      intro hh
      cases hms : mx.isSome with
      | true => exact .inl (h6 hms)
      | false =>
        rw [hms] at hh
        simp only [Bool.false_or, Bool.and_eq_true] at hh
        exact .inr ⟨h7 hms, hfl hh.1, Nat.eq_of_beq_eq_true hh.2⟩
    by_cases hl0 : l = 0
    · subst hl0
      refine .pure hrun hc ?_
      simp only [Nat.beq_refl, cond_true, Nat.zero_mul, Nat.sub_zero, addr_add, Nat.add_zero, Option.map_some, ite_self]
      exact .ps _ _ _ b p mm vs hS (fun hh => by rcases hfull hh with h | h <;> omega) h4 hcl hr
    · have hb0 : Nat.beq l 0 = false := by
        cases hh : Nat.beq l 0 with
        | false => rfl
        | true => exact absurd (Nat.eq_of_beq_eq_true hh) hl0
      by_cases hlu : l = u
      · subst hlu
        refine .pure hrun hc ?_
        simp only [hb0, cond_false, Nat.beq_refl, cond_true, Nat.sub_self]
        have hcap : mx.isSome = true → mm - l = 0 := fun hh => by have := h6 hh; omega
        split
        · exact .es _ _ _ hcap
        · exact .es _ _ _ hcap
      · have hbu : Nat.beq l u = false := by
          cases hh : Nat.beq l u with
          | false => rfl
          | true => exact absurd (Nat.eq_of_beq_eq_true hh) hlu
        have hml : ¬ mm = l := by omega
        refine .pure hrun hc ?_
        simp only [hb0, hbu, cond_false, hml, if_false, Option.map_some, addr_add, ldrop_eq]
        refine .ps _ _ _ b _ _ (fun i => vs (l * sz + i)) hS (fun hh => by show mm - l = u - l; rcases hfull hh with h | h <;> omega) (by show u - l ≤ mm - l; omega) (fun i hi => ?_) (fun i hi => ?_)
        · simp only [List.length_drop] at hi
          have := hcl (l * sz + i) (by have : Nat.mul l sz = l * sz := rfl; omega)
          rw [Nat.add_assoc]; exact this
        · simp only [List.length_drop] at hi
          have := hr (l * sz + i) (by have : Nat.mul l sz = l * sz := rfl; omega)
          simpa [List.getD] using this
  · rename_i id off len sz' ocap
    simp only [obind_some, ogrd_some, Option.some.injEq] at hv'
    obtain ⟨l, hl, u, hu, m, hm, e0, e1, e2, e3, rfl⟩ := hv'
    have e0 := Nat.eq_of_beq_eq_true e0
    have e1 := Nat.le_of_ble_eq_true e1
    have e2 := Nat.le_of_ble_eq_true e2
    have e3 := Nat.eq_of_beq_eq_true e3
    subst e0
    obtain ⟨b, base, tot, vcap, hy, hφ, hcap, hle, htot⟩ := hv.os_inv
    have huc : u ≤ vcap := by
      cases ocap with
      | none => simp at e2; omega
      | some c => have := hcap c rfl; simp at e2; omega
    obtain ⟨mm, h3, h4, h5, h6, h7⟩ := third vcap hm e3 huc
    have hrun := main _ len vcap l u mm hy (hlo' hl) (hhi' hu) h3 e1 h4 h5
    have hmul : l * sz + (mm - l) * sz = mm * sz := by
      rw [← Nat.add_mul]
      congr 1
      omega
    have hmm : mm * sz ≤ vcap * sz := Nat.mul_le_mul_right _ h5
    by_cases hl0 : l = 0
    · subst hl0
      refine .pure hrun hc ?_
      simp only [Nat.beq_refl, cond_true, Nat.zero_mul, Nat.sub_zero, addr_add, Nat.add_zero, Option.map_some, ite_self]
      refine .os _ _ _ _ _ b base tot mm hφ (fun c hh => ?_) h4 (by omega)
      cases hms : mx.isSome with
      | true => rw [hms] at hh; cases hh; exact h6 hms
      | false => rw [hms] at hh; rw [h7 hms]; exact hcap c hh
    · have hb0 : Nat.beq l 0 = false := by
        cases hh : Nat.beq l 0 with
        | false => rfl
        | true => exact absurd (Nat.eq_of_beq_eq_true hh) hl0
      by_cases hlu : l = u
      · subst hlu
        refine .pure hrun hc ?_
        simp only [hb0, cond_false, Nat.beq_refl, cond_true, Nat.sub_self]
        have hcap : mx.isSome = true → mm - l = 0 := fun hh => by have := h6 hh; omega
        split
        · exact .es _ _ _ hcap
        · exact .es _ _ _ hcap
      · have hbu : Nat.beq l u = false := by
          cases hh : Nat.beq l u with
          | false => rfl
          | true => exact absurd (Nat.eq_of_beq_eq_true hh) hlu
        have hml : ¬ mm = l := by omega
        refine .pure hrun hc ?_
        simp only [hb0, hbu, cond_false, hml, if_false, Option.map_some, addr_add]
        rw [Nat.add_assoc]
        refine .os _ (off + l * sz) _ _ _ b base tot (mm - l) hφ (fun c hh => ?_) (by show u - l ≤ mm - l; omega) (by omega)
        cases hms : mx.isSome with
        | true => rw [hms] at hh; cases hh; show mm - l = u - l; rw [h6 hms]
        | false =>
          rw [hms] at hh
          cases ocap with
          | none => cases hh
          | some c0 => cases hh; rw [h7 hms, hcap c0 rfl]; rfl
  · cases hv'

theorem op_sla {n sz : Nat} {x : Opd} {lo hi : Option Opd} {t : TypeId} {e : Nat × TypeId} {y : Operand} {l' h'' : Option Operand} (ho : o.op = .slice t y l' h'' none)
    (ht : arrE P t = some e ∨ ∃ pt, ptrE P t = some pt ∧ arrE P pt = some e) (hn : e.1 = n) (hsz : szOk P e.2 sz = true)
    (hx : chkOpd x y = true) (hlo : chkO lo l' = true) (hhi : chkO hi h'' = true)
    (he : aop (.sla n sz x lo hi) F h = some (v, h')) (hc : Cpl φ S h w) (hf : FRel φ S w F a.tmps) : OpOk P a o w (Still φ S w v h h') := by
  simp only [aop, obind_some, ogrd_some, Option.some.injEq, Prod.mk.injEq] at he
  obtain ⟨p, hp, cs, hcs, l, hl, u, hu, e1, e2, e4, rfl, rfl⟩ := he
  have e1 := Nat.le_of_ble_eq_true e1
  have e2 := Nat.le_of_ble_eq_true e2
  have e4 := Nat.le_of_ble_eq_true e4
  rw [llen_eq] at e4
  have hv := chkOpd_sound hx hf
  rw [asPtr_some hp] at hv
  obtain ⟨b, base, tot, hφ, hy⟩ := hv.ptr_inv
  have hob := oCells_some hcs
  obtain ⟨b', base', tot', hφ', hnS, hor⟩ := hc.obj p.1 (by rw [hob]; simp)
  rw [hφ] at hφ'; cases hφ'
  rw [hob] at hor
  obtain ⟨_, _, _, _, _, _, _, hlen, _⟩ := hor
  have hsb : (Instr.sliceBounds false n n (l'.map a.eval) (h''.map a.eval) none).run P w = .ok (l, u, n) w := by
    refine sliceBounds_run ?_ ?_ (.inl ⟨rfl, rfl⟩) (by simp) e1 e2 (Nat.le_refl _)
    · rcases bnd_some hl hlo hf with ⟨rfl, _, rfl⟩ | ⟨y', k, rfl, _, e⟩
      · exact .inl ⟨rfl, rfl⟩
      · exact .inr ⟨k, by simp [e]⟩
    · rcases bnd_some hu hhi hf with ⟨rfl, _, rfl⟩ | ⟨y', k, rfl, _, e⟩
      · exact .inl ⟨rfl, rfl⟩
      · exact .inr ⟨k, by simp [e]⟩
  subst hn
  have hrun : (execOp a.eval o).run P w = .ok (.value (.slice (some (if e.1 = l then ⟨b, base + p.2, none⟩ else (⟨b, base + p.2, none⟩ : Addr).add (l * sz))) (u - l) (e.1 - l))) w := by
    rcases ht with ht | ⟨pt, hpt, ht⟩
    · simp [execOp, ho, Instr.sliceAt, run_underlying (arrE_u ht), hy, Instr.sureAddr, hsb, szOk_run hsz]
    · simp [execOp, ho, Instr.sliceAt, run_underlying (arrE_u ht), run_underlying (ptrE_u hpt), Instr.slice, asAddr, hy, hsb, szOk_run hsz]
  refine .still hrun hc ?_
  have hmul : l * sz + (e.1 - l) * sz = e.1 * sz := by rw [← Nat.add_mul]; congr 1; omega
  by_cases hel : l = u
  · subst hel
    simp only [Nat.beq_refl, cond_true, Nat.sub_self]
    split
    · exact .es _ _ _ (by simp)
    · exact .es _ _ _ (by simp)
  · have hbu : Nat.beq l u = false := by
      cases hh : Nat.beq l u with
      | false => rfl
      | true => exact absurd (Nat.eq_of_beq_eq_true hh) hel
    have hne : ¬ e.1 = l := by omega
    simp only [hbu, cond_false, hne, if_false, addr_add]
    rw [Nat.add_assoc]
    have e4' : p.2 + e.1 * sz ≤ cs.length := e4
    exact .os _ (p.2 + l * sz) _ _ _ b base tot (e.1 - l) hφ (fun c hh => by cases hh; rfl) (by show u - l ≤ e.1 - l; omega) (by omega)

theorem bcells_eq (l : List Nat) : bcells l = l.map fun n => AV.int .u8 (Int.ofNat n) := by
  induction l with
  | nil => rfl
  | cons a l ih => exact congrArg (AV.int .u8 (Int.ofNat a) :: ·) ih

theorem op_s2b {x : Opd} {s d e : TypeId} {y : Operand} (ho : o.op = .convert s d y) (hs : isStrT P s = true) (hd : sliceE P d = some e) (he8 : isU8 P e = true) (hx : chkOpd x y = true)
    (he : aop (.s2b x) F h = some (v, h')) (hc : Cpl φ S h w) (hf : FRel φ S w F a.tmps) : OpOk P a o w (Good h φ S w v h') := by
  simp only [aop, obind_some, Option.some.injEq, Prod.mk.injEq] at he
  obtain ⟨l, hl, rfl, rfl⟩ := he
  have h1 := chkOpd_sound hx hf
  rw [asStr_some hl] at h1
  obtain ⟨t, ht, hb⟩ := h1.str_inv
  have hsz := bytes_length t l hb
  have hcap : t.size ≤ grownCap w t.size 0 e := by
    simp [grownCap, Question.cut]
  have hCs : (Lib.bytesCells w e t).size = grownCap w t.size 0 e := by
    simp [Lib.bytesCells]
    have : t.data.size = t.size := rfl
    omega
  have hheap : (Lib.bytesWorld w e t).heap = (w.alloc (.cells (Lib.bytesCells w e t) e ((Lib.bytesCells w e t).size, (Lib.bytesCells w e t).size + 1))).heap := by
    refine Array.ext_getElem? fun i => ?_
    rcases Nat.lt_trichotomy i w.heap.size with hi | rfl | hi
    · rw [Lib.bytesWorld_at_old w e t i hi, heap_push _ _ _ hi]
    · rw [Lib.bytesWorld_at_new, heap_push_new]
    · rw [Array.getElem?_eq_none (by rw [Lib.bytesWorld_size]; omega), Array.getElem?_eq_none (by rw [World.size_alloc]; omega)]
  refine OpOk.make' (cv := .slice (some ⟨w.heap.size, 0, none⟩) t.size (grownCap w t.size 0 e)) (tot := (Lib.bytesCells w e t).size) (w' := Lib.bytesWorld w e t) ?_ hheap rfl rfl hc ?_ ?_
  · have := Lib.run_convert_string_bytes (P := P) w s d e t (isStrT_u hs) (sliceE_u hd) (isU8_u he8)
    simp [execOp, ho, ht, this]
  · refine ⟨_, e, _, heap_push_new _ _, trivial, fun i hi hh => ?_, by simp, ?_, fun i hi => ?_⟩
    · have := hh.1; simp at this; omega
    · rw [bcells_eq, List.length_map, hCs]; omega
    · rw [bcells_eq, List.length_map] at hi
      rw [bcells_eq, Nat.zero_add]
      have hi' : i < t.size := by omega
      have hit : i < t.data.size := hi'
      subst hb
      simp only [List.length_map] at hi
      have e1 : ((t.data.toList.map UInt8.toNat).map fun n => AV.int .u8 (Int.ofNat n)).getD i .bot = .int .u8 (Int.ofNat (t.data[i]).toNat) := by
        simp [List.getD]
        rw [Array.getElem?_eq_getElem hit]
        rfl
      have e2 : (Lib.bytesCells w e t).getD i undef = .int .u8 ((t.data[i]).toNat : Int) := by
        have hlt : i < (Lib.bytesCells w e t).size := by omega
        simp only [Array.getD, hlt, dif_pos]
        simp [Lib.bytesCells, Array.getElem_append, hi']
      rw [e1, e2]
      exact .int _ _
  · intro φ' hφ
    rw [llen_eq, ← hsz]
    exact .os _ 0 _ _ _ _ 0 _ _ hφ (fun c hh => by cases hh) hcap (by omega)

theorem allcells_some : ∀ {cs : List AV} {l : List Nat}, allcells cs = some l → cs = (l.map fun n => AV.int .u8 (Int.ofNat n)) ∧ ∀ n ∈ l, n < 256 := by
  intro cs
  induction cs with
  | nil => intro l hl; cases hl; exact ⟨rfl, by simp⟩
  | cons c cs ih =>
    intro l hl
    have hl' : (obind (byteOf c) fun n => obind (allcells cs) fun r => some (n :: r)) = some l := hl
    rw [obind_some] at hl'
    obtain ⟨n, hn, hl'⟩ := hl'
    rw [obind_some] at hl'
    obtain ⟨r, hr, hl'⟩ := hl'
    cases hl'
    unfold byteOf at hn
    split at hn
    · obtain ⟨hlt, hn⟩ := bif_some hn
      cases hn
      obtain ⟨rfl, h2⟩ := ih hr
      exact ⟨rfl, fun n hn => by
        rcases List.mem_cons.1 hn with rfl | hn
        · simpa [Nat.blt_eq] using hlt
        · exact h2 n hn⟩
    · cases hn

theorem push_bytes : ∀ (m : List Nat) (s : ByteArray), (∀ n ∈ m, n < 256) → ((m.map fun (n : Nat) => (n : Int)).foldl (fun (r : ByteArray) n => r.push (UInt8.ofNat n.toNat)) s).data.toList.map UInt8.toNat = s.data.toList.map UInt8.toNat ++ m := by
  intro m
  induction m with
  | nil => intro s _; simp
  | cons n m ih =>
    intro s h
    simp only [List.map_cons, List.foldl_cons]
    rw [ih _ fun k hk => h k (List.mem_cons_of_mem _ hk)]
    have hn : n % 256 = n := Nat.mod_eq_of_lt (h n List.mem_cons_self)
    simp [ByteArray.push, hn]

theorem scells_some {sz n : Nat} {x : AV} {cs : List AV} {c : Value} (hsc : scells h sz x = some cs) (hsl : slen x = some n) (hc : Cpl φ S h w) (hv : VR φ S w x c) :
    ∃ p cap, c = .slice p n cap ∧ (∃ vs : Nat → Value, (cs.length ≤ n * sz) ∧ (cs ≠ [] → ∃ b o, p = some ⟨b, o, none⟩ ∧ ∀ i, i < cs.length → w.cell? ⟨b, o + i, none⟩ = some (vs i) ∧ VR φ S w (cs.getD i .bot) (vs i))) := by
  unfold scells at hsc
  split at hsc
  · cases hsc; cases hsl; cases hv; exact ⟨_, _, rfl, fun _ => undef, by simp, fun h => absurd rfl h⟩
  · cases hsc; cases hsl; cases hv; exact ⟨_, _, rfl, fun _ => undef, by simp, fun h => absurd rfl h⟩
  · rename_i full len cs0
    cases hsl
    obtain ⟨b, o, cap, vs, rfl, hS, _, _, hcl, hr⟩ := hv.ps_inv
    cases hsc
    rw [ltake_eq]
    refine ⟨_, _, rfl, vs, by simp [List.length_take]; exact Nat.min_le_left _ _, fun _ => ⟨b, o, rfl, fun i hi => ?_⟩⟩
    simp only [List.length_take] at hi
    have hi' : i < n * sz := by have : Nat.mul n sz = n * sz := rfl; omega
    refine ⟨hcl i (by omega), ?_⟩
    have e1 : (cs0.take (Nat.mul n sz)).getD i .bot = cs0.getD i .bot := by
      simp [List.getD, List.getElem?_take, hi']
    rw [e1]; exact (hr i (by omega)).up
  · rename_i id off len sz' ocap
    cases hsl
    obtain ⟨b, base, tot, vcap, rfl, hφ, _, hle, htot⟩ := hv.os_inv
    rw [ogrd_some, obind_some] at hsc
    obtain ⟨hse, cs0, hid, hsc⟩ := hsc
    have hid := oCells_some hid
    · cases hsc
      obtain ⟨b', base', tot', hφ', hnS, hor⟩ := hc.obj id (by rw [hid]; simp)
      rw [hφ] at hφ'; cases hφ'
      rw [hid] at hor
      obtain ⟨c, e, fr, hb, _, hfr, hsz, hlen, hrel⟩ := hor
      rw [ltake_eq, ldrop_eq]
      refine ⟨_, _, rfl, fun i => c.getD (base + (off + i)) undef, by simp [List.length_take]; exact Nat.min_le_left _ _, fun _ => ⟨b, base + off, rfl, fun i hi => ?_⟩⟩
      simp only [List.length_take, List.length_drop] at hi
      have hi' : i < n * sz := by have : Nat.mul n sz = n * sz := rfl; omega
      have hlt : base + (off + i) < c.size := by omega
      refine ⟨by simp [World.cell?, hb, Array.getD, hlt, Nat.add_assoc], ?_⟩
      have e1 : ((cs0.drop off).take (Nat.mul n sz)).getD i .bot = cs0.getD (off + i) .bot := by
        simp [List.getD, List.getElem?_take, hi']
      rw [e1]; exact hrel _ (by omega)
  · cases hsc

theorem scells_slen {sz : Nat} {x : AV} {cs : List AV} (hsc : scells h sz x = some cs) : ∃ n, slen x = some n := by
  unfold scells at hsc
  split at hsc <;> first | exact ⟨_, rfl⟩ | cases hsc

theorem op_b2s {x : Opd} {s d e : TypeId} {y : Operand} (ho : o.op = .convert s d y) (hs : sliceE P s = some e) (hd : isStrT P d = true) (he8 : isU8 P e = true) (hx : chkOpd x y = true)
    (he : aop (.b2s x) F h = some (v, h')) (hc : Cpl φ S h w) (hf : FRel φ S w F a.tmps) : OpOk P a o w (Still φ S w v h h') := by
  simp only [aop, obind_some, ogrd_some, Option.some.injEq, Prod.mk.injEq] at he
  obtain ⟨cs, hcs, n, hn, hlen, l, hl, rfl, rfl⟩ := he
  have hlen := Nat.eq_of_beq_eq_true hlen
  rw [llen_eq] at hlen
  obtain ⟨p, cap, hy, vs, hle, hcells⟩ := scells_some hcs hn hc (chkOpd_sound hx hf)
  obtain ⟨hcs', hlt⟩ := allcells_some hl
  have hexec : (execOp a.eval o).run P w = ((Conv.bytesToString (.slice p n cap)).run P w).andThen fun v w' => .ok (.value v) w' := by
    simp [execOp, ho, hy, run_convert_bytes_string w s d e p n cap (sliceE_u hs) (isU8_u he8) (isStrT_u hd)]
  have hpush := push_bytes l ByteArray.empty hlt
  have hl0 : l.length = n := by rw [← hlen, hcs']; simp
  cases hp : p with
  | none =>
    have hnil : cs = [] := by
      cases hcc : cs with
      | nil => rfl
      | cons c r => obtain ⟨b, o', e', _⟩ := hcells (by rw [hcc]; simp); rw [hp] at e'; cases e'
    have : l = [] := by
      have : l.length = 0 := by rw [hl0, ← hlen, hnil]; rfl
      exact List.eq_nil_of_length_eq_zero this
    subst this
    refine .still (cv := .string .empty) ?_ hc (.str _ _ rfl)
    rw [hexec, hp]; rfl
  | some ad =>
    have hld : (loadCells ad n).run P w = .ok ((l.map fun (n : Nat) => (n : Int)).map (Value.int .u8)).toArray w := by
      by_cases hnil : cs = []
      · have : l = [] := by
          have : l.length = 0 := by rw [hl0, ← hlen, hnil]; rfl
          exact List.eq_nil_of_length_eq_zero this
        subst this
        simp at hl0; subst hl0
        rfl
      · obtain ⟨b, o', e', hcl⟩ := hcells hnil
        rw [hp] at e'; cases e'
        have := loadCells_run (P := P) (w := w) (b := b) (o := o') (vs := vs) n 0 #[] (fun j hj => by
          have := (hcl j (by omega)).1
          simpa using this)
        unfold loadCells
        rw [this]
        congr 1
        simp only [Nat.zero_add, Array.empty_append]
        congr 1
        apply List.ext_getElem
        · simp; omega
        · intro i h1 h2
          simp at h1
          have hv := (hcl i (by omega)).2
          have e1 : cs.getD i .bot = .int .u8 (Int.ofNat (l[i]'(by omega))) := by
            have hil : i < l.length := by omega
            rw [hcs']; simp [List.getD, hil]
          rw [e1] at hv
          simp
          exact hv.int_inv
    refine .still (cv := .string ((l.map fun (n : Nat) => (n : Int)).foldl (fun (r : ByteArray) n => r.push (UInt8.ofNat n.toNat)) ByteArray.empty)) ?_ hc (.str _ _ (by rw [hpush]; rfl))
    rw [hexec, hp, run_bytesToString w ad n cap _ hld]
    rfl

theorem op_rng {x : Opd} {t : TypeId} {y : Operand} (ho : o.op = .range t y) (ht : isStrT P t = true) (hx : chkOpd x y = true)
    (he : aop (.rng x) F h = some (v, h')) (hc : Cpl φ S h w) (hf : FRel φ S w F a.tmps) : OpOk P a o w (Good h φ S w v h') := by
  simp only [aop, obind_some, Option.some.injEq, Prod.mk.injEq] at he
  obtain ⟨l, hl, rfl, rfl⟩ := he
  have h1 := chkOpd_sound hx hf
  rw [asStr_some hl] at h1
  obtain ⟨s, hs, hb⟩ := h1.str_inv
  refine .make (cv := .pointer (some ⟨w.heap.size, 0, none⟩)) (obj := .stringIter s 0) (tot := 0) ?_ hc ⟨rfl, s, heap_push_new _ _, hb⟩ (fun φ' hφ => .ptr _ 0 _ 0 _ hφ)
  simp [execOp, ho, Instr.range, run_underlying (isStrT_u ht), hs]

theorem op_nxt {x : Opd} {y : Operand} (ho : o.op = .next y true) (hx : chkOpd x y = true)
    (he : aop (.nxt x) F h = some (v, h')) (hc : Cpl φ S h w) (hf : FRel φ S w F a.tmps) : OpOk P a o w (Good h φ S w v h') := by
  simp only [aop, obind_some, ogrd_some] at he
  obtain ⟨p, hp, hz, he⟩ := he
  have hz := Nat.eq_of_beq_eq_true hz
  have hv := chkOpd_sound hx hf
  rw [asPtr_some hp] at hv
  obtain ⟨b, base, tot, hφ, hy⟩ := hv.ptr_inv
  unfold anext at he
  split at he
  · rename_i s pos hob
    obtain ⟨b', base', tot', hφ', hnS, hor⟩ := hc.obj p.1 (by rw [hob]; simp)
    rw [hφ] at hφ'; cases hφ'
    rw [hob] at hor
    obtain ⟨rfl, t, ht, hb⟩ := hor
    have hya : a.eval y = .pointer (some ⟨b, 0, none⟩) := by rw [hy, hz]
    have hsz := bytes_length t s hb
    rw [lget_eq] at he
    cases hg : s[pos]? with
    | none =>
      rw [hg] at he
      cases he
      have hge : ¬ pos < t.size := by
        intro hlt
        rw [hsz] at hlt
        rw [List.getElem?_eq_getElem hlt] at hg; cases hg
      refine .pure (cv := .tuple #[.bool false]) ?_ hc (.tup _ _ rfl (fun i hi => by
        have : i = 0 := by simp at hi; exact hi
        subst this
        exact .bool _))
      simp [execOp, ho, hya, Instr.next, getObj, Sem.run, ht, hge]
    | some c =>
      rw [hg] at he
      have he : ogrd (Nat.blt c 128) (some (AV.tup [.bool true, .int .i64 (.ofNat pos), .int .i32 (.ofNat c)], h.set p.1 (.sit s (Nat.add pos 1)))) = some (v, h') := he
      rw [ogrd_some] at he
      obtain ⟨hc128, he⟩ := he
      cases he
      have hlt : pos < t.size := by
        rw [hsz]
        rcases Nat.lt_or_ge pos s.length with h' | h'
        · exact h'
        · rw [List.getElem?_eq_none h'] at hg; cases hg
      have hltd : pos < t.data.size := hlt
      have hch : (t.data[pos]).toNat = c := by
        subst hb
        rw [List.getElem?_map] at hg
        obtain ⟨u, hu, rfl⟩ := Option.map_eq_some_iff.1 hg
        have : t.data[pos]? = some u := by simpa using hu
        rw [Array.getElem?_eq_getElem hltd] at this
        cases this; rfl
      have hdec : Utf8.decode t pos = (c, 1) := by
        have hget : (t.get! (pos + 0)).toNat = c := by
          show (t.data[pos]!).toNat = c
          rw [getElem!_pos t.data pos hltd]
          exact hch
        have hlt128 : c < 128 := by simpa [Nat.blt_eq] using hc128
        unfold Utf8.decode
        simp only [hget]
        simp [hlt128]
      let w' : World := { w with heap := w.heap.setIfInBounds b (.stringIter t (pos + 1)) }
      have hbl : b < w.heap.size := hc.phi _ _ _ _ hφ
      have hw1 : ∀ b', b' ≠ b → w'.heap[b']? = w.heap[b']? := fun b' hb' => by
        show (w.heap.setIfInBounds b _)[b']? = _
        rw [Array.getElem?_setIfInBounds]; simp [Ne.symm hb']
      have hw2 : w'.heap.size = w.heap.size := by show (w.heap.setIfInBounds b _).size = _; simp
      have hw3 : w'.heap[b]? = some (.stringIter t (pos + 1)) := by
        show (w.heap.setIfInBounds b _)[b]? = _
        rw [Array.getElem?_setIfInBounds]; simp [hbl]
      refine ⟨.tuple #[.bool true, goInt pos, .int .i32 c], w', .inl ?_, φ, Ext.write hc hφ (by rw [hob]; simp) hw1 hw2 rfl rfl,
        hc.write hφ (by rw [hob]; simp) _ hw1 hw2 ⟨rfl, t, hw3, hb⟩, .tup _ _ rfl (fun i hi => ?_), Exact.write hφ (by rw [hob]; simp) _ hw1⟩
      · simp [execOp, ho, hya, Instr.next, getObj, setObj, Sem.run, ht, hlt, hdec]
        rfl
      · match i, hi with
        | 0, _ => exact .bool _
        | 1, _ => exact .int _ _
        | 2, _ => exact .int _ _
  · cases he

theorem lrep_length (z : List AV) (n : Nat) : (lrep z n).length = n * z.length := by
  induction n with
  | zero => show ([] : List AV).length = _; simp
  | succ n ih =>
    show (lapp z (lrep z n)).length = _
    rw [lapp_eq, List.length_append, ih, Nat.succ_mul]; omega
theorem lrep_get (z : List AV) (n : Nat) : ∀ i, i < n * z.length → (lrep z n).getD i .bot = z.getD (i % z.length) .bot := by
  induction n with
  | zero => intro i hi; simp at hi
  | succ n ih =>
    intro i hi
    show (lapp z (lrep z n)).getD i .bot = _
    rw [lapp_eq]
    by_cases hlt : i < z.length
    · rw [Nat.mod_eq_of_lt hlt]
      simp [List.getD, List.getElem?_append_left hlt]
    · have hge : z.length ≤ i := by omega
      rw [Nat.succ_mul] at hi
      have := ih (i - z.length) (by omega)
      simp only [List.getD, List.getElem?_append_right hge] at this ⊢
      rw [this, ← Nat.mod_eq_sub_mod hge]

theorem rep_rel {z : List AV} {zs : Array Value} (hz : VRs φ S w z zs) (n : Nat) : VRs φ S w (lrep z n) ((Array.range (n * z.length)).map fun i => zs[i % zs.size]!) := by
  refine ⟨by simp [lrep_length], fun i hi => ?_⟩
  rw [lrep_length] at hi
  rw [lrep_get z n i hi]
  have hzl : 0 < z.length := by
    rcases Nat.eq_zero_or_pos z.length with h0 | h0
    · rw [h0] at hi; simp at hi
    · exact h0
  have hmod : i % z.length < z.length := Nat.mod_lt _ hzl
  have := hz.2 _ hmod
  have e : (((Array.range (n * z.length)).map fun i => zs[i % zs.size]!).getD i undef) = zs.getD (i % z.length) undef := by
    have hlt : i < ((Array.range (n * z.length)).map fun i => zs[i % zs.size]!).size := by simp; exact hi
    have h2 : i % z.length < zs.size := by rw [hz.1]; exact hmod
    simp only [Array.getD, hlt, h2, dif_pos]
    simp [hz.1]
    rw [getElem!_pos zs _ h2]
  rw [e]; exact this

theorem op_mks {z : List AV} {len cap : Opd} {t e : TypeId} {l' c' : Operand} {i : TypeInfo} {zv : Value} (ho : o.op = .makeSlice t l' c') (ht : sliceE P t = some e) (hi : P.info? e = some i) (hzv : i.zero = some zv) (hz : cellsB z zv.cells = true)
    (hsz : i.size = z.length) (hby : i.bytes ≤ 1048576) (hl : chkOpd len l' = true) (hcp : chkOpd cap c' = true)
    (he : aop (.mks z len cap) F h = some (v, h')) (hc : Cpl φ S h w) (hf : FRel φ S w F a.tmps) : OpOk P a o w (Good h φ S w v h') := by
  simp only [aop, obind_some, ogrd_some, Option.some.injEq, Prod.mk.injEq] at he
  obtain ⟨l, hll, c, hcc, e1, e2, rfl, rfl⟩ := he
  have e1 := Nat.le_of_ble_eq_true e1
  have e2 := Nat.le_of_ble_eq_true e2
  obtain ⟨k1, hk1⟩ := asNat_some hll
  obtain ⟨k2, hk2⟩ := asNat_some hcc
  have h1 := chkOpd_sound hl hf
  rw [hk1] at h1
  have h1 := h1.int_inv
  have h2 := chkOpd_sound hcp hf
  rw [hk2] at h2
  have h2 := h2.int_inv
  have hbig : (i.bytes : Int) * (c : Int) ≤ 281474976710656 := by
    have : i.bytes * c ≤ 1048576 * 1048576 := Nat.mul_le_mul hby e2
    have h3 : i.bytes * c ≤ 281474976710656 := Nat.le_trans this (by decide)
    have h4 : ((i.bytes * c : Nat) : Int) ≤ ((281474976710656 : Nat) : Int) := Int.ofNat_le.2 h3
    rwa [Int.natCast_mul] at h4
  have hrow := rep_rel (cellsB_sound (φ := φ) (S := S) (w := w) hz) c
  have hr := run_make (P := P) w t e i zv (sliceE_u ht) hi hzv k1 k2 l c (by omega) (by omega) hbig (by omega)
  simp only [Int.toNat_natCast] at hr
  refine .make (cv := .slice (some ⟨w.heap.size, 0, none⟩) l c) (obj := .cells ((Array.range (c * z.length)).map fun i => zv.cells[i % zv.cells.size]!) e) (tot := c * z.length) ?_ hc ?_ (fun φ' hφ => ?_)
  · rw [hsz] at hr
    simp only [execOp, ho, h1, h2, Sem.run_bind, hr, Result.andThen_ok, Sem.run_pure]
    rfl
  · have := ORel.row (e := e) hrow hc.sea
    simp only [Array.size_map, Array.size_range] at this
    exact this
  · rw [llen_eq]
    exact .os _ 0 _ _ _ _ 0 _ _ hφ (fun c' hh => by cases hh; rfl) e1 (by omega)

end
end Go.Am
namespace Go.Am
open Go

section
variable {P : Program} {φ : Phi} {S : Sea} {w : World} {F : Fr} {a : Act} {h h' : Heap} {v : AV} {o : Oper}

/-- cells are written one behind the other -/
theorem storeCells_run {b : Nat} : ∀ (vs : List Value) (i o : Nat) (w : World) (c : Array Value) (e : TypeId) (fr : Nat × Nat), w.heap[b]? = some (.cells c e fr) → NoFr c.size fr → o + i + vs.length ≤ c.size →
    (∀ v ∈ vs, v.oneCell' = true) → ∃ (w' : World) (c' : Array Value), (storeCells ⟨b, o, none⟩ vs i).run P w = .ok () w' ∧ w'.heap[b]? = some (.cells c' e fr) ∧ c'.size = c.size ∧
      (∀ j, c'[j]? = if o + i ≤ j ∧ j < o + i + vs.length then vs[j - (o + i)]? else c[j]?) ∧ (∀ b', b' ≠ b → w'.heap[b']? = w.heap[b']?) ∧ w'.heap.size = w.heap.size ∧ w'.os = w.os ∧ w'.output = w.output := by
  intro vs
  induction vs with
  | nil => intro i o w c e fr hb _ _ _; exact ⟨w, c, by simp [storeCells], hb, rfl, fun j => by simp; intro h1 h2; omega, fun _ _ => rfl, rfl, rfl, rfl⟩
  | cons v vs ih =>
    intro i o w c e fr hb hfr hle hone
    simp only [List.length_cons] at hle
    have hoff : o + i < c.size := by omega
    have hcell : w.cell? ⟨b, o + i, none⟩ = some (c[o + i]) := by simp [World.cell?, hb, hoff]
    have hfz : w.frozen? ⟨b, o + i, none⟩ = false := by
      simp only [World.frozen?, hb]
      have := hfr (o + i) hoff
      rw [Bool.eq_false_iff]
      intro hh
      simp only [Bool.and_eq_true, decide_eq_true_eq] at hh
      exact this hh
    have hst := run_store P w ⟨b, o + i, none⟩ v .plain (hone v List.mem_cons_self)
    rw [hcell] at hst
    simp only [hfz, Bool.false_eq_true, if_false] at hst
    have hb1 : (w.setCell ⟨b, o + i, none⟩ v).heap[b]? = some (.cells (c.setIfInBounds (o + i) v) e fr) := by
      simp [World.setCell, Array.getElem?_modify, hb]
    obtain ⟨w', c', h1, h2, h3, h4, h5, h6, h7, h8⟩ := ih (i + 1) o (w.setCell ⟨b, o + i, none⟩ v) (c.setIfInBounds (o + i) v) e fr hb1 (by simpa using hfr) (by simp; omega) (fun x hx => hone x (List.mem_cons_of_mem _ hx))
    refine ⟨w', c', ?_, h2, by simpa using h3, fun j => ?_, fun b' hb' => ?_, by simpa using h6, h7, h8⟩
    · simp only [storeCells, Sem.run_bind, addr_add, hst, Result.andThen_ok, h1]
    · rw [h4 j, List.length_cons]
      by_cases hj : j = o + i
      · subst hj
        have n1 : ¬ (o + (i + 1) ≤ o + i ∧ o + i < o + (i + 1) + vs.length) := by omega
        have n2 : o + i ≤ o + i ∧ o + i < o + i + (vs.length + 1) := by omega
        rw [if_neg n1, if_pos n2, Nat.sub_self]
        simp [hoff]
      · by_cases hin : o + (i + 1) ≤ j ∧ j < o + (i + 1) + vs.length
        · have n2 : o + i ≤ j ∧ j < o + i + (vs.length + 1) := by omega
          rw [if_pos hin, if_pos n2]
          have : j - (o + i) = (j - (o + (i + 1))) + 1 := by omega
          rw [this, List.getElem?_cons_succ]
        · have n2 : ¬ (o + i ≤ j ∧ j < o + i + (vs.length + 1)) := by omega
          rw [if_neg hin, if_neg n2, Array.getElem?_setIfInBounds]
          simp [Ne.symm hj]
    · rw [h5 b' hb']
      simp [World.setCell, Array.getElem?_modify, Ne.symm hb']

theorem getD_of {α : Type} (a : Array α) (i : Nat) (d : α) : a.getD i d = (a[i]?).getD d := by
  rw [Array.getD_eq_getD_getElem?]

/-- an object's cells, some of them put anew -/
theorem put_rel {cs cs' vs : List AV} {c c' : Array Value} {base off tot : Nat} {ws : Array Value} (hp : lput cs off vs = some cs') (hlen : cs.length ≤ tot) (hsz : c.size = base + tot)
    (hrel : ∀ i, i < cs.length → VR φ S w (cs.getD i .bot) (c.getD (base + i) undef)) (hv : VRs φ S w vs ws)
    (hc' : ∀ j, c'[j]? = if base + off ≤ j ∧ j < base + off + ws.size then ws[j - (base + off)]? else c[j]?) : ∀ i, i < cs'.length → VR φ S w (cs'.getD i .bot) (c'.getD (base + i) undef) := by
  obtain ⟨h1, h2, h3⟩ := lput_eq cs off vs cs' hp
  intro i hi
  rw [h2] at hi
  rw [getD_of, hc', List.getD, h3]
  by_cases hin : off ≤ i ∧ i < off + vs.length
  · have n : base + off ≤ base + i ∧ base + i < base + off + ws.size := by rw [hv.1]; omega
    rw [if_pos hin, if_pos n, show base + i - (base + off) = i - off by omega]
    have := hv.2 (i - off) (by omega)
    rw [getD_of] at this
    exact this
  · have n : ¬ (base + off ≤ base + i ∧ base + i < base + off + ws.size) := by rw [hv.1]; omega
    rw [if_neg hin, if_neg n]
    have := hrel i hi
    rw [getD_of] at this
    exact this

theorem VRs.one {l : List AV} {vs : Array Value} (h : VRs φ S w l vs) (hc : allB cellB l = true) : ∀ v ∈ vs.toList, v.oneCell' = true := by
  intro v hv
  obtain ⟨i, hi, rfl⟩ := List.mem_iff_getElem.1 hv
  simp at hi
  have hil : i < l.length := by rw [← h.1]; exact hi
  have := h.2 i hil
  have h1 := allB_true.1 hc (l.getD i .bot) (by simp [List.getD, hil])
  have := this.one_cell h1
  simpa [Array.getD, hi] using this

theorem op_st {n : Nat} {x y : Opd} {t : TypeId} {x' y' : Operand} (ho : o.op = .store t x' y') (hn : szOk P t n = true) (hx : chkOpd x x' = true) (hy : chkOpd y y' = true)
    (he : aop (.st n x y) F h = some (v, h')) (hc : Cpl φ S h w) (hf : FRel φ S w F a.tmps) : OpOk P a o w (Good h φ S w v h') := by
  simp only [aop, obind_some, ogrd_some, Option.some.injEq, Prod.mk.injEq, llen_eq] at he
  obtain ⟨p, hp, cs, hcs, vs, hvs, hlen, hone, cs', hcs', rfl, rfl⟩ := he
  have hlen := Nat.eq_of_beq_eq_true hlen
  have h1 := chkOpd_sound hx hf
  rw [asPtr_some hp] at h1
  obtain ⟨b, base, tot, hφ, hxa⟩ := h1.ptr_inv
  have h2 := (chkOpd_sound hy hf).cells_of hvs
  have hob := oCells_some hcs
  obtain ⟨b', base', tot', hφ', hnS, hor⟩ := hc.obj p.1 (by rw [hob]; simp)
  rw [hφ] at hφ'; cases hφ'
  rw [hob] at hor
  obtain ⟨c, e, fr, hb, hty, hfr, hsz, hle, hrel⟩ := hor
  obtain ⟨q1, q2, q3⟩ := lput_eq cs p.2 vs cs' hcs'
  have hfit : base + p.2 + 0 + (a.eval y').cells.toList.length ≤ c.size ∨ vs = [] := by
    rcases q1 with rfl | q1
    · exact .inr rfl
    · left; simp [h2.1]; omega
  have hcsize : (a.eval y').cells.size = n := by rw [h2.1, hlen]
  have hexec : ∀ w', (storeCells ⟨b, base + p.2, none⟩ (a.eval y').cells.toList 0).run P w = .ok () w' → (execOp a.eval o).run P w = .ok .skip w' := by
    intro w' hr
    have hr' : (storeCells ⟨b, base + p.2, none⟩ (a.eval y').cells.toList).run P w = .ok () w' := hr
    simp [execOp, ho, hxa, Instr.storeAt, Instr.sureAddr, storeVar, szOk_run hn, hcsize, hr']
  rcases hfit with hfit | rfl
  · obtain ⟨w', c', r1, r2, r3, r4, r5, r6, r7, r8⟩ := storeCells_run (P := P) (a.eval y').cells.toList 0 (base + p.2) w c e fr hb hfr hfit (h2.one hone)
    refine ⟨undef, w', .inr ⟨hexec w' r1, rfl⟩, φ, Ext.write hc hφ (by rw [hob]; simp) r5 r6 r7 r8, hc.write hφ (by rw [hob]; simp) _ r5 r6 ?_, .bot _, Exact.write hφ (by rw [hob]; simp) _ r5⟩
    have hk : ∀ b', S b' → w'.heap[b']? = w.heap[b']? := fun b' hb' => r5 b' fun e => hnS (e ▸ hb')
    refine ⟨c', e, fr, r2, by rw [r3, q2]; exact hty, by rw [r3]; exact hfr, by rw [r3]; exact hsz, by rw [q2]; exact hle, fun i hi => ?_⟩
    refine (put_rel hcs' hle hsz hrel h2 (fun j => ?_) i hi).mono (fun _ _ h => h) (fun _ h => h) hk
    rw [r4 j]
    simp
  · have hnil : (a.eval y').cells.toList = [] := by
      have := h2.1
      simp at this
      simp [this]
    refine ⟨undef, w, .inr ⟨hexec w (by rw [hnil]; simp [storeCells]), rfl⟩, φ, Ext.refl _ _ _, ?_, .bot _, Exact.refl _ _ _ _⟩
    refine hc.write hφ (by rw [hob]; simp) _ (fun _ _ => rfl) rfl ⟨c, e, fr, hb, by rw [q2]; exact hty, hfr, hsz, by rw [q2]; exact hle, fun i hi => ?_⟩
    have : cs' = cs := by
      apply List.ext_getElem?
      intro j
      rw [q3 j]
      simp
      intro h1 h2; omega
    rw [this] at hi ⊢
    exact hrel i hi

end
end Go.Am
namespace Go.Am
open Go

section
variable {P : Program} {φ : Phi} {S : Sea} {w : World} {F : Fr} {a : Act} {h h' : Heap} {v : AV} {o : Oper}

/-- parts of an aggregate: places, sizes -/
def chkParts (pl : Nat → Option (Nat × Nat)) (ps : List (Nat × Nat × Opd)) (qs : List (Nat × Operand)) : Bool :=
  match ps, qs with
  | [], [] => true
  | p :: ps, q :: qs => decide (pl q.1 = some (p.1, p.2.1)) && chkOpd p.2.2 q.2 && chkParts pl ps qs
  | _, _ => false

theorem fold_put (off : Nat) : ∀ (vs : List Value) (k : Nat) (c : Array Value), off + k + vs.length ≤ c.size →
    ((vs.zipIdx k).foldl (fun cs (x : Value × Nat) => cs.setIfInBounds (off + x.2) x.1) c).size = c.size ∧
    ∀ j, ((vs.zipIdx k).foldl (fun cs (x : Value × Nat) => cs.setIfInBounds (off + x.2) x.1) c)[j]? = if off + k ≤ j ∧ j < off + k + vs.length then vs[j - (off + k)]? else c[j]? := by
  intro vs
  induction vs with
  | nil => intro k c _; refine ⟨rfl, fun j => ?_⟩; simp; intro h1 h2; omega
  | cons v vs ih =>
    intro k c hle
    simp only [List.length_cons] at hle
    obtain ⟨h1, h2⟩ := ih (k + 1) (c.setIfInBounds (off + k) v) (by simp; omega)
    refine ⟨by simp only [List.zipIdx_cons, List.foldl_cons]; rw [h1]; simp, fun j => ?_⟩
    simp only [List.zipIdx_cons, List.foldl_cons]
    rw [h2 j, List.length_cons]
    by_cases hj : j = off + k
    · subst hj
      have n1 : ¬ (off + (k + 1) ≤ off + k ∧ off + k < off + (k + 1) + vs.length) := by omega
      have n2 : off + k ≤ off + k ∧ off + k < off + k + (vs.length + 1) := by omega
      rw [if_neg n1, if_pos n2, Nat.sub_self]
      have : off + k < c.size := by omega
      simp [this]
    · by_cases hin : off + (k + 1) ≤ j ∧ j < off + (k + 1) + vs.length
      · have n2 : off + k ≤ j ∧ j < off + k + (vs.length + 1) := by omega
        rw [if_pos hin, if_pos n2, show j - (off + k) = (j - (off + (k + 1))) + 1 by omega, List.getElem?_cons_succ]
      · have n2 : ¬ (off + k ≤ j ∧ j < off + k + (vs.length + 1)) := by omega
        rw [if_neg hin, if_neg n2, Array.getElem?_setIfInBounds]
        simp [Ne.symm hj]

theorem fill_rel (pl : Nat → Option (Nat × Nat)) (hf : FRel φ S w F a.tmps) : ∀ (ps : List (Nat × Nat × Opd)) (qs : List (Nat × Operand)) (z r : List AV) (zs : Array Value), chkParts pl ps qs = true → fills F z ps = some r → VRs φ S w z zs →
    ∃ rs, Instr.fill pl zs (qs.map fun q => (q.1, a.eval q.2)) = some rs ∧ VRs φ S w r rs := by
  intro ps
  induction ps with
  | nil =>
    intro qs z r zs hk hfl hz
    cases qs with
    | cons => simp [chkParts] at hk
    | nil => cases hfl; exact ⟨zs, rfl, hz⟩
  | cons p ps ih =>
    intro qs z r zs hk hfl hz
    cases qs with
    | nil => simp [chkParts] at hk
    | cons q qs =>
      simp only [chkParts, Bool.and_eq_true, decide_eq_true_eq] at hk
      obtain ⟨⟨hk1, hk2⟩, hk3⟩ := hk
      have hfl' : (obind (AV.cells? (Opd.ev F p.2.2)) fun cs => ogrd (Nat.beq (llen cs) p.2.1) (ogrd (Nat.ble (Nat.add p.1 p.2.1) (llen z)) (obind (lput z p.1 cs) fun z' => fills F z' ps))) = some r := hfl
      simp only [obind_some, ogrd_some, llen_eq] at hfl'
      obtain ⟨cs, hcs, hsz, hle, z', hz', hrest⟩ := hfl'
      have hsz := Nat.eq_of_beq_eq_true hsz
      have hle : p.1 + p.2.1 ≤ z.length := Nat.le_of_ble_eq_true hle
      have hv := (chkOpd_sound hk2 hf).cells_of hcs
      have hcz : (a.eval q.2).cells.size = p.2.1 := by rw [hv.1, hsz]
      obtain ⟨f1, f2⟩ := fold_put p.1 (a.eval q.2).cells.toList 0 zs (by simp; rw [hv.1, hz.1]; omega)
      obtain ⟨q1, q2, q3⟩ := lput_eq z p.1 cs z' hz'
      have hz'' : VRs φ S w z' (((a.eval q.2).cells.toList.zipIdx 0).foldl (fun cs (x : Value × Nat) => cs.setIfInBounds (p.1 + x.2) x.1) zs) := by
        refine ⟨by rw [f1, q2]; exact hz.1, fun i hi => ?_⟩
        have := put_rel (base := 0) (tot := z.length) (c := zs) hz' (Nat.le_refl _) (by rw [hz.1]; omega) (fun i hi => by rw [Nat.zero_add]; exact hz.2 i hi) hv (fun j => by rw [f2 j]; simp) i hi
        rw [Nat.zero_add] at this
        exact this
      obtain ⟨rs, hrs, hr⟩ := ih qs z' r _ hk3 hrest hz''
      refine ⟨rs, ?_, hr⟩
      simp only [List.map_cons, Instr.fill, hk1]
      have hcond : ¬ ((a.eval q.2).cells.size ≠ p.2.1 || p.1 + (a.eval q.2).cells.size > zs.size) = true := by
        simp [hcz, hz.1]; omega
      simp only [hcond]
      have hzi : (a.eval q.2).cells.zipIdx.foldl (fun cs x => cs.setIfInBounds (p.1 + x.2) x.1) zs = ((a.eval q.2).cells.toList.zipIdx 0).foldl (fun cs (x : Value × Nat) => cs.setIfInBounds (p.1 + x.2) x.1) zs := by
        rw [← Array.foldl_toList]; simp
      rw [← hzi] at hrs
      exact hrs

/-- the places of a struct's fields -/
def fieldPl (P : Program) (fs : Array Field) : Array (Nat × Nat) := fs.map fun f => (f.offset, P.cellsOf f.type)
def infosOk (P : Program) (fs : Array Field) : Bool := fs.all fun f => (P.info? f.type).isSome

theorem mapM_places (fs : List Field) (hi : ∀ f ∈ fs, (P.info? f.type).isSome = true) : (fs.mapM fun f => do pure (f.offset, ← sizeOf f.type) : Sem (List (Nat × Nat))).run P w = .ok (fs.map fun f => (f.offset, P.cellsOf f.type)) w := by
  induction fs with
  | nil => simp
  | cons f fs ih =>
    obtain ⟨i, hii⟩ := Option.isSome_iff_exists.1 (hi f List.mem_cons_self)
    have := ih fun g hg => hi g (List.mem_cons_of_mem _ hg)
    simp only [List.mapM_cons, Sem.run_bind, run_sizeOf w hii, Result.andThen_ok, Sem.run_pure, this, List.map_cons]

theorem op_bld_struct {z : List AV} {ps : List (Nat × Nat × Opd)} {t : TypeId} {qs : Array (Nat × Operand)} {fs : Array Field} (ho : o.op = .build t qs) (ht : structE P t = some fs) (hz : zeroOk P t z = true) (hin : infosOk P fs = true)
    (hp : chkParts (fun i => (fieldPl P fs)[i]?) ps qs.toList = true)
    (he : aop (.bld z ps) F h = some (v, h')) (hc : Cpl φ S h w) (hf : FRel φ S w F a.tmps) : OpOk P a o w (Good h φ S w v h') := by
  simp only [aop, obind_some, Option.some.injEq, Prod.mk.injEq] at he
  obtain ⟨r, hr, rfl, rfl⟩ := he
  obtain ⟨zv, hzr, hzv⟩ := zeroOk_run hz w
  obtain ⟨rs, hrs, hrel⟩ := fill_rel (a := a) _ hf ps qs.toList z r zv.cells hp hr (hzv φ S w)
  refine .pure (cv := .agg rs) ?_ hc (.agg _ _ hrel.1 hrel.2)
  have hm : (fs.mapM fun f => do pure (f.offset, ← sizeOf f.type) : Sem (Array (Nat × Nat))).run P w = .ok (fieldPl P fs) w := by
    have := mapM_places (P := P) (w := w) fs.toList (fun f hf => by
      simp only [infosOk, Array.all_eq_true_iff_forall_mem] at hin
      exact hin f (by simpa using hf))
    rw [Array.mapM_eq_mapM_toList]
    simp only [Sem.run_map, this, Result.andThen_ok, fieldPl]
    congr 1
    apply Array.ext'
    simp
  have hq : (qs.map fun (x : Nat × Operand) => (x.1, a.eval x.2)).toList = qs.toList.map fun q => (q.1, a.eval q.2) := by simp
  simp only [execOp, ho, Instr.build, Sem.run_bind, hzr, Result.andThen_ok, run_underlying (structE_u ht), hm, hq, hrs, Sem.run_pure]

theorem op_bld_array {z : List AV} {ps : List (Nat × Nat × Opd)} {t : TypeId} {qs : Array (Nat × Operand)} {e : Nat × TypeId} {sz : Nat} (ho : o.op = .build t qs) (ht : arrE P t = some e) (hz : zeroOk P t z = true) (hsz : szOk P e.2 sz = true)
    (hp : chkParts (fun i => some (i * sz, sz)) ps qs.toList = true)
    (he : aop (.bld z ps) F h = some (v, h')) (hc : Cpl φ S h w) (hf : FRel φ S w F a.tmps) : OpOk P a o w (Good h φ S w v h') := by
  simp only [aop, obind_some, Option.some.injEq, Prod.mk.injEq] at he
  obtain ⟨r, hr, rfl, rfl⟩ := he
  obtain ⟨zv, hzr, hzv⟩ := zeroOk_run hz w
  obtain ⟨rs, hrs, hrel⟩ := fill_rel (a := a) _ hf ps qs.toList z r zv.cells hp hr (hzv φ S w)
  refine .pure (cv := .agg rs) ?_ hc (.agg _ _ hrel.1 hrel.2)
  have hq : (qs.map fun (x : Nat × Operand) => (x.1, a.eval x.2)).toList = qs.toList.map fun q => (q.1, a.eval q.2) := by simp
  simp only [execOp, ho, Instr.build, Sem.run_bind, hzr, Result.andThen_ok, run_underlying (arrE_u ht), szOk_run hsz, hq, hrs, Sem.run_pure]

theorem op_bsl {z : List AV} {len sz : Nat} {ps : List (Nat × Nat × Opd)} {t e : TypeId} {qs : Array (Nat × Operand)} (ho : o.op = .buildSlice t len qs) (ht : sliceE P t = some e) (hz : zeroOk P e z = true) (hzl : z.length = sz) (hsz : szOk P e sz = true)
    (hsmall : len * sz ≤ 16777216) (hp : chkParts (fun i => some (i * sz, sz)) ps qs.toList = true)
    (he : aop (.bsl z len sz ps) F h = some (v, h')) (hc : Cpl φ S h w) (hf : FRel φ S w F a.tmps) : OpOk P a o w (Good h φ S w v h') := by
  simp only [aop, obind_some, Option.some.injEq, Prod.mk.injEq] at he
  obtain ⟨r, hr, rfl, rfl⟩ := he
  obtain ⟨zv, hzr, hzv⟩ := zeroOk_run hz w
  have hrow := rep_rel (hzv φ S w) len
  rw [hzl] at hrow
  obtain ⟨rs, hrs, hrel⟩ := fill_rel (a := a) _ hf ps qs.toList _ r _ hp hr hrow
  have hq : (qs.map fun (x : Nat × Operand) => (x.1, a.eval x.2)).toList = qs.toList.map fun q => (q.1, a.eval q.2) := by simp
  have hrl : rs.size = len * sz := by
    have h1 : ∀ (ps : List (Nat × Nat × Opd)) (z r : List AV), fills F z ps = some r → r.length = z.length := by
      intro ps
      induction ps with
      | nil => intro z r h; cases h; rfl
      | cons p ps ih =>
        intro z r h
        have h' : (obind (AV.cells? (Opd.ev F p.2.2)) fun cs => ogrd (Nat.beq (llen cs) p.2.1) (ogrd (Nat.ble (Nat.add p.1 p.2.1) (llen z)) (obind (lput z p.1 cs) fun z' => fills F z' ps))) = some r := h
        simp only [obind_some, ogrd_some] at h'
        obtain ⟨cs, _, _, _, z', hz', hrest⟩ := h'
        rw [ih _ _ hrest, (lput_eq _ _ _ _ hz').2.1]
    rw [hrel.1, h1 _ _ _ hr, lrep_length, hzl]
  refine .make (cv := .slice (some ⟨w.heap.size, 0, none⟩) len len) (obj := .cells rs e) (tot := rs.size) ?_ hc (ORel.row hrel hc.sea) (fun φ' hφ => ?_)
  · have hns : ¬ len * sz > 2 ^ 24 := by have : (2 : Nat) ^ 24 = 16777216 := rfl; omega
    by_cases h0 : len * sz = 0
    · have hr0 : ∀ f : Nat → Value, (Array.range 0).map f = #[] := fun f => by simp [Array.range_zero']
      rw [h0, hr0] at hrs
      simp only [execOp, ho, Instr.buildSlice, Sem.run_bind, run_underlying (sliceE_u ht), Result.andThen_ok, szOk_run hsz, Sem.run_pure, h0, hq]
      simp [hr0, hrs, newRow]
    · simp only [execOp, ho, Instr.buildSlice, Sem.run_bind, run_underlying (sliceE_u ht), Result.andThen_ok, szOk_run hsz, hns, if_false, Sem.run_pure, h0, hzr, hq, hrs, newRow, run_newObj]
      rfl
  · exact .os _ 0 _ _ _ _ 0 _ _ hφ (fun c' hh => by cases hh; rfl) (Nat.le_refl _) (by omega)

theorem kinds_str {kk : Nat} {t : TypeId} (hk : keyOk P kk t = true) (h0 : kk = 0) : P.underlying t = some .string := by
  unfold keyOk at hk
  split at hk
  · assumption
  · simp at hk; omega
  · simp at hk; omega
  · cases hk
theorem kinds_int {kk : Nat} {t : TypeId} (hk : keyOk P kk t = true) (h0 : kk = 1) : ∃ k, P.underlying t = some (.int k) := by
  unfold keyOk at hk
  split at hk
  · simp at hk; omega
  · exact ⟨_, ‹_›⟩
  · simp at hk; omega
  · cases hk
theorem kinds_bool {kk : Nat} {t : TypeId} (hk : keyOk P kk t = true) (h0 : kk = 2) : P.underlying t = some .bool := by
  unfold keyOk at hk
  split at hk
  · simp at hk; omega
  · simp at hk; omega
  · assumption
  · cases hk

theorem keq_now {kk : Nat} {t : TypeId} {d : TypeDesc} {x y : AV} {b : Bool} {cx cy : Value} (hk : keyOk P kk t = true) (hd : P.underlying t = some d) (he : keq kk x y = some b) (hx : VR φ S w x cx) (hy : VR φ S w y cy) :
    Instr.sameNow d cx cy = some b := by
  unfold keq at he
  split at he
  · obtain ⟨h0, he⟩ := bif_some he
    have h0 := Nat.eq_of_beq_eq_true h0
    rw [kinds_str hk h0] at hd
    cases hd
    cases he
    obtain ⟨s, rfl, hs⟩ := hx.str_inv
    obtain ⟨t', rfl, ht⟩ := hy.str_inv
    have : (s == t') = leq (s.data.toList.map UInt8.toNat) (t'.data.toList.map UInt8.toNat) := by
      rw [← bytes_eq, ByteArray.toList_eq, ByteArray.toList_eq]
      show (s.data == t'.data) = _
      rw [Bool.eq_iff_iff]
      simp only [beq_iff_eq]
      exact ⟨fun h => by rw [h], fun h => Array.ext' h⟩
    subst hs; subst ht
    simp only [Instr.sameNow, this]
  · obtain ⟨h0, he⟩ := bif_some he
    simp only [Bool.and_eq_true] at h0
    obtain ⟨k, hk'⟩ := kinds_int hk (Nat.eq_of_beq_eq_true h0.1)
    rw [hk'] at hd
    cases hd
    cases he
    rw [hx.int_inv, hy.int_inv, ikEq_eq h0.2]
    simp only [Instr.sameNow, if_true, ieqB_iff]
    congr 1
  · obtain ⟨h0, he⟩ := bif_some he
    have h0 := Nat.eq_of_beq_eq_true h0
    rw [kinds_bool hk h0] at hd
    cases hd
    cases he
    rw [hx.bool_inv, hy.bool_inv]
    simp only [Instr.sameNow, beqB_eq]
  · cases he

/-- entries stand for entries -/
def ERel (φ : Phi) (S : Sea) (w : World) (es : List (AV × AV × Nat)) (ces : List MapEntry) : Prop :=
  ces.length = es.length ∧ ∀ i, i < es.length → VR φ S w (es.getD i (.bot, .bot, 0)).1 (ces.getD i default).key ∧ VR φ S w (es.getD i (.bot, .bot, 0)).2.1 (ces.getD i default).val ∧
    (es.getD i (.bot, .bot, 0)).2.2 = (ces.getD i default).born

theorem ERel.tail {e : AV × AV × Nat} {es : List (AV × AV × Nat)} {c : MapEntry} {ces : List MapEntry} (hr : ERel φ S w (e :: es) (c :: ces)) : ERel φ S w es ces ∧ VR φ S w e.1 c.key ∧ VR φ S w e.2.1 c.val ∧ e.2.2 = c.born := by
  refine ⟨⟨by have := hr.1; simpa using this, fun i hi => ?_⟩, ?_⟩
  · have := hr.2 (i + 1) (by simp; omega)
    simpa using this
  · have := hr.2 0 (by simp)
    simpa using this
theorem ERel.cons {e : AV × AV × Nat} {es : List (AV × AV × Nat)} {c : MapEntry} {ces : List MapEntry} (hr : ERel φ S w es ces) (h1 : VR φ S w e.1 c.key) (h2 : VR φ S w e.2.1 c.val) (h3 : e.2.2 = c.born) : ERel φ S w (e :: es) (c :: ces) := by
  refine ⟨by simp [hr.1], fun i hi => ?_⟩
  cases i with
  | zero => exact ⟨by simpa using h1, by simpa using h2, by simpa using h3⟩
  | succ i =>
    have := hr.2 i (by simpa using hi)
    simpa using this

theorem mfind_now {kk : Nat} {t : TypeId} {d : TypeDesc} {k : AV} {ck : Value} (hk : keyOk P kk t = true) (hd : P.underlying t = some d) (hv : VR φ S w k ck) : ∀ (es : List (AV × AV × Nat)) (ces : List MapEntry) (r : Option AV) (i : Nat), mfind kk k es = some r → ERel φ S w es ces →
    (r = none ∧ Instr.findNow d ck ces i = some none) ∨ ∃ x j cv, r = some x ∧ Instr.findNow d ck ces i = some (some (i + j, cv)) ∧ VR φ S w x cv := by
  intro es
  induction es with
  | nil =>
    intro ces r i hr he
    have : ces = [] := List.eq_nil_of_length_eq_zero (by simpa using he.1)
    subst this
    cases hr
    exact .inl ⟨rfl, rfl⟩
  | cons e es ih =>
    intro ces r i hr he
    cases ces with
    | nil => have := he.1; simp at this
    | cons c ces =>
      obtain ⟨ht, h1, h2, h3⟩ := he.tail
      have hr' : (obind (keq kk k e.1) fun b => Bool.rec (mfind kk k es) (some (some e.2.1)) b) = some r := hr
      rw [obind_some] at hr'
      obtain ⟨b, hb, hr'⟩ := hr'
      have hnow := keq_now hk hd hb hv h1
      cases b with
      | true =>
        have : some (some e.2.1) = some r := hr'
        cases this
        exact .inr ⟨_, 0, c.val, rfl, by simp [Instr.findNow, hnow], h2⟩
      | false =>
        have hr'' : mfind kk k es = some r := hr'
        rcases ih ces r (i + 1) hr'' ht with ⟨e1, e2⟩ | ⟨x, j, cv, e1, e2, e3⟩
        · exact .inl ⟨e1, by simp only [Instr.findNow, hnow]; exact e2⟩
        · exact .inr ⟨x, j + 1, cv, e1, by simp only [Instr.findNow, hnow]; rw [e2]; congr 3; omega, e3⟩

theorem checkKey_run {kk : Nat} {t : TypeId} {b : Bool} {n : Nat} {x : Value} (hk : keyOk P kk t = true) : (Instr.checkKey b (n + 1) t x).run P w = .ok () w := by
  unfold keyOk at hk
  split at hk
  · rename_i hu; simp [Instr.checkKey, run_underlying hu]
  · rename_i hu; simp [Instr.checkKey, run_underlying hu]
  · rename_i hu; simp [Instr.checkKey, run_underlying hu]
  · cases hk

theorem op_lkp {kk : Nat} {z : AV} {ok : Bool} {x i : Opd} {t : TypeId} {e : TypeId × TypeId} {y j : Operand} (ho : o.op = .lookup t y j ok) (ht : mapE P t = some e) (hk : keyOk P kk e.1 = true) (hz : zeroVOk P e.2 z = true) (hx : chkOpd x y = true) (hi : chkOpd i j = true)
    (he : aop (.lkp kk z ok x i) F h = some (v, h')) (hc : Cpl φ S h w) (hf : FRel φ S w F a.tmps) : OpOk P a o w (Still φ S w v h h') := by
  simp only [aop, obind_some] at he
  obtain ⟨es, hes, r, hr, he⟩ := he
  have hv := chkOpd_sound hi hf
  obtain ⟨d, hd⟩ : ∃ d, P.underlying e.1 = some d := by
    unfold keyOk at hk; split at hk <;> first | exact ⟨_, ‹_›⟩ | cases hk
  obtain ⟨zv, hzr, hzv⟩ := zeroVOk_run hz w
  have two : ∀ (p : AV) (cp : Value) (b : Bool), VR φ S w p cp → VR φ S w (.tup [p, .bool b]) (.tuple #[cp, .bool b]) := fun p cp b hp => .tup _ _ rfl (fun i hi => by
    match i, hi with
    | 0, _ => exact hp
    | 1, _ => exact .bool b)
  have hck : ∀ b, (Instr.checkKey b 10000 e.1 (a.eval j)).run P w = .ok () w := fun b => checkKey_run (n := 9999) hk
  have hexec : ∀ r, (Instr.lookup t (a.eval y) (a.eval j) ok).run P w = .ok r w → (execOp a.eval o).run P w = .ok (.value r) w := by
    intro r hr
    simp only [execOp, ho, Sem.run_bind, hr, Result.andThen_ok, Sem.run_pure]
  obtain ⟨ces, hrun, hrel⟩ : ∃ ces : Array MapEntry, (∀ r, (((Instr.findKey e.1 (a.eval j) ces.toList) >>= fun x => (match x with
      | some (_, v) => do let x ← pure (v, true); pure (if ok = true then Value.tuple #[x.1, Value.bool x.2] else x.1)
      | none => do let y ← zeroValue e.2; let x ← pure (y, false); pure (if ok = true then Value.tuple #[x.1, Value.bool x.2] else x.1) : Sem Value)).run P w = .ok r w →
      (Instr.lookup t (a.eval y) (a.eval j) ok).run P w = .ok r w)) ∧ ERel φ S w es ces.toList := by
    rcases mapOf_some hes hc (chkOpd_sound hx hf) with ⟨hcv, rfl⟩ | ⟨r, ces, clk, hcv, hob, hsz, h1, h2, h3⟩
    · refine ⟨#[], fun r hr => ?_, by simp [ERel]⟩
      rw [← hr]
      simp [Instr.lookup, run_underlying (mapE_u ht), hcv, hck]
      rfl
    · refine ⟨ces, fun r hr => ?_, by simpa using hsz, fun i hi => ?_⟩
      · rw [← hr]
        simp [Instr.lookup, run_underlying (mapE_u ht), hcv, getObj, Sem.run, hob, hck]
        rfl
      · have e1 := h1 i hi
        have e2 := h2 i hi
        have e3 := h3 i hi
        rw [getD_of] at e1 e2 e3
        simp only [List.getD, Array.getElem?_toList] at e1 e2 e3 ⊢
        exact ⟨e1, e2, e3⟩
  have hfk : (Instr.findKey e.1 (a.eval j) ces.toList).run P w = ((match Instr.findNow d (a.eval j) ces.toList 0 with | some r => pure r | none => Instr.findAsking e.1 (a.eval j) ces.toList : Sem _)).run P w := by
    unfold Instr.findKey
    rw [Sem.run_bind, run_underlying hd]
    rfl
  rcases mfind_now hk hd hv es ces.toList r 0 hr hrel with ⟨rfl, hn⟩ | ⟨x', j', cv, rfl, hn, hxv⟩
  · rw [hn] at hfk
    cases he
    refine .still (cv := if ok then .tuple #[zv, .bool false] else zv) (hexec _ (hrun _ ?_)) hc (by cases ok; exact hzv _ _ _; exact two _ _ _ (hzv _ _ _))
    simp only [Sem.run_bind, hfk, Sem.run_pure, Result.andThen_ok, hzr]
  · rw [hn] at hfk
    cases he
    refine .still (cv := if ok then .tuple #[cv, .bool true] else cv) (hexec _ (hrun _ ?_)) hc (by cases ok; exact hxv; exact two _ _ _ hxv)
    simp only [Sem.run_bind, hfk, Sem.run_pure, Result.andThen_ok]

end
end Go.Am
namespace Go.Am
open Go

section
variable {P : Program} {φ : Phi} {S : Sea} {w : World} {F : Fr} {a : Act} {h h' : Heap} {v : AV} {o : Oper}

theorem sameBits_of_now {d : TypeDesc} {x y : Value} (h : Instr.sameNow d x y = some true) (n : Nat) : Instr.sameBits n y x = true := by
  unfold Instr.sameNow at h
  split at h
  · rename_i k a k' b
    split at h
    · rename_i hk
      have h : (a == b) = true := by simpa using h
      have : a = b := by simpa using h
      subst this; subst hk
      cases n <;> simp [Instr.sameBits]
    · cases h
  · rename_i a b
    have h : (a == b) = true := by simpa using h
    have h2 : (a.data == b.data) = true := h
    have : a.data = b.data := by simpa using h2
    have h3 : (b == a) = true := by show (b.data == a.data) = true; rw [this]; simp
    cases n <;> simpa [Instr.sameBits] using h3
  · rename_i a b
    have h : (a == b) = true := by simpa using h
    have : a = b := by simpa using h
    subst this
    cases n <;> simp [Instr.sameBits]
  · cases h

theorem mset_now {kk : Nat} {t : TypeId} {d : TypeDesc} {k x : AV} {ck cx : Value} {clk : Nat} (hk : keyOk P kk t = true) (hd : P.underlying t = some d) (hv : VR φ S w k ck) (hx : VR φ S w x cx) :
    ∀ (es : List (AV × AV × Nat)) (ces : List MapEntry) (r : List (AV × AV × Nat) × Nat) (i : Nat), mset kk k x clk es = some r → ERel φ S w es ces →
    (r.2 = clk + 1 ∧ Instr.findNow d ck ces i = some none ∧ ERel φ S w r.1 (ces ++ [{ key := ck, val := cx, born := clk }])) ∨
    (r.2 = clk ∧ ∃ j cv, Instr.findNow d ck ces i = some (some (i + j, cv)) ∧ (∃ e, ces[j]? = some e ∧ Instr.sameNow d ck e.key = some true) ∧ ERel φ S w r.1 (ces.modify j fun e => { e with key := ck, val := cx })) := by
  intro es
  induction es with
  | nil =>
    intro ces r i hr he
    have : ces = [] := List.eq_nil_of_length_eq_zero (by simpa using he.1)
    subst this
    have : some ([(k, x, clk)], clk + 1) = some r := hr
    cases this
    exact .inl ⟨rfl, rfl, he.cons hv hx rfl⟩
  | cons e es ih =>
    intro ces r i hr he
    cases ces with
    | nil => have := he.1; simp at this
    | cons c ces =>
      obtain ⟨ht, h1, h2, h3⟩ := he.tail
      have hr' : (obind (keq kk k e.1) fun b => Bool.rec (obind (mset kk k x clk es) fun p => some (e :: p.1, p.2)) (some ((k, x, e.2.2) :: es, clk)) b) = some r := hr
      rw [obind_some] at hr'
      obtain ⟨b, hb, hr'⟩ := hr'
      have hnow := keq_now hk hd hb hv h1
      cases b with
      | true =>
        have : some ((k, x, e.2.2) :: es, clk) = some r := hr'
        cases this
        exact .inr ⟨rfl, 0, c.val, by simp [Instr.findNow, hnow], ⟨c, rfl, hnow⟩, by simp only [List.modify_zero_cons]; exact ht.cons hv hx h3⟩
      | false =>
        have hr'' : (obind (mset kk k x clk es) fun p => some (e :: p.1, p.2)) = some r := hr'
        rw [obind_some] at hr''
        obtain ⟨p, hp, hr''⟩ := hr''
        cases hr''
        rcases ih ces p (i + 1) hp ht with ⟨e1, e2, e3⟩ | ⟨e1, j, cv, e2, ⟨e, e3, e3'⟩, e4⟩
        · exact .inl ⟨e1, by simp only [Instr.findNow, hnow]; exact e2, e3.cons h1 h2 h3⟩
        · refine .inr ⟨e1, j + 1, cv, by simp only [Instr.findNow, hnow]; rw [e2]; congr 3; omega, ⟨e, by simpa using e3, e3'⟩, ?_⟩
          simp only [List.modify_succ_cons]
          exact e4.cons h1 h2 h3

theorem mdel_now {kk : Nat} {t : TypeId} {d : TypeDesc} {k : AV} {ck : Value} (hk : keyOk P kk t = true) (hd : P.underlying t = some d) (hv : VR φ S w k ck) :
    ∀ (es : List (AV × AV × Nat)) (ces : List MapEntry) (r : List (AV × AV × Nat)) (i : Nat), mdel kk k es = some r → ERel φ S w es ces →
    (Instr.findNow d ck ces i = some none ∧ ERel φ S w r ces) ∨ (∃ j cv, Instr.findNow d ck ces i = some (some (i + j, cv)) ∧ ERel φ S w r (ces.eraseIdx j)) := by
  intro es
  induction es with
  | nil =>
    intro ces r i hr he
    have : ces = [] := List.eq_nil_of_length_eq_zero (by simpa using he.1)
    subst this
    cases hr
    exact .inl ⟨rfl, he⟩
  | cons e es ih =>
    intro ces r i hr he
    cases ces with
    | nil => have := he.1; simp at this
    | cons c ces =>
      obtain ⟨ht, h1, h2, h3⟩ := he.tail
      have hr' : (obind (keq kk k e.1) fun b => Bool.rec (obind (mdel kk k es) fun p => some (e :: p)) (some es) b) = some r := hr
      rw [obind_some] at hr'
      obtain ⟨b, hb, hr'⟩ := hr'
      have hnow := keq_now hk hd hb hv h1
      cases b with
      | true =>
        have : some es = some r := hr'
        cases this
        exact .inr ⟨0, c.val, by simp [Instr.findNow, hnow], by simpa using ht⟩
      | false =>
        have hr'' : (obind (mdel kk k es) fun p => some (e :: p)) = some r := hr'
        rw [obind_some] at hr''
        obtain ⟨p, hp, hr''⟩ := hr''
        cases hr''
        rcases ih ces p (i + 1) hp ht with ⟨e2, e3⟩ | ⟨j, cv, e2, e4⟩
        · exact .inl ⟨by simp only [Instr.findNow, hnow]; exact e2, e3.cons h1 h2 h3⟩
        · refine .inr ⟨j + 1, cv, by simp only [Instr.findNow, hnow]; rw [e2]; congr 3; omega, ?_⟩
          simp only [List.eraseIdx_cons_succ]
          exact e4.cons h1 h2 h3

theorem ERel.arr {es : List (AV × AV × Nat)} {ces : Array MapEntry} (hr : ERel φ S w es ces.toList) : ces.size = es.length ∧
    (∀ i, i < es.length → VR φ S w (es.getD i (.bot, .bot, 0)).1 (ces.getD i default).key) ∧ (∀ i, i < es.length → VR φ S w (es.getD i (.bot, .bot, 0)).2.1 (ces.getD i default).val) ∧
    (∀ i, i < es.length → (es.getD i (.bot, .bot, 0)).2.2 = (ces.getD i default).born) := by
  have e : ∀ i, ces.toList.getD i default = ces.getD i default := fun i => by rw [getD_of, List.getD, Array.getElem?_toList]
  refine ⟨by simpa using hr.1, fun i hi => ?_, fun i hi => ?_, fun i hi => ?_⟩
  · have := (hr.2 i hi).1; rwa [e] at this
  · have := (hr.2 i hi).2.1; rwa [e] at this
  · have := (hr.2 i hi).2.2; rwa [e] at this
theorem ERel.of_arr {es : List (AV × AV × Nat)} {ces : Array MapEntry} (h0 : ces.size = es.length)
    (h1 : ∀ i, i < es.length → VR φ S w (es.getD i (.bot, .bot, 0)).1 (ces.getD i default).key) (h2 : ∀ i, i < es.length → VR φ S w (es.getD i (.bot, .bot, 0)).2.1 (ces.getD i default).val)
    (h3 : ∀ i, i < es.length → (es.getD i (.bot, .bot, 0)).2.2 = (ces.getD i default).born) : ERel φ S w es ces.toList := by
  have e : ∀ i, ces.toList.getD i default = ces.getD i default := fun i => by rw [getD_of, List.getD, Array.getElem?_toList]
  exact ⟨by simpa using h0, fun i hi => by rw [e]; exact ⟨h1 i hi, h2 i hi, h3 i hi⟩⟩

theorem setObj_world {b : Nat} {ob : Obj} (hb : b < w.heap.size) : let w' : World := { w with heap := w.heap.setIfInBounds b ob };
    (∀ b', b' ≠ b → w'.heap[b']? = w.heap[b']?) ∧ w'.heap.size = w.heap.size ∧ w'.heap[b]? = some ob := by
  refine ⟨fun b' hb' => ?_, ?_, ?_⟩
  · show (w.heap.setIfInBounds b _)[b']? = _
    rw [Array.getElem?_setIfInBounds]; simp [Ne.symm hb']
  · show (w.heap.setIfInBounds b _).size = _
    simp
  · show (w.heap.setIfInBounds b _)[b]? = _
    rw [Array.getElem?_setIfInBounds]; simp [hb]

theorem op_mup {kk : Nat} {m k x : Opd} {t : TypeId} {e : TypeId × TypeId} {m' k' x' : Operand} (ho : o.op = .mapUpdate t m' k' x' ∨ o.op = .insert t m' k' x') (ht : mapE P t = some e) (hk : keyOk P kk e.1 = true) (hm : chkOpd m m' = true) (hkk : chkOpd k k' = true) (hx : chkOpd x x' = true)
    (he : aop (.mup kk m k x) F h = some (v, h')) (hc : Cpl φ S h w) (hf : FRel φ S w F a.tmps) : OpOk P a o w (Good h φ S w v h') := by
  simp only [aop, obind_some, Option.some.injEq, Prod.mk.injEq] at he
  obtain ⟨id, hid, p, hp, q, hq, rfl, rfl⟩ := he
  have hv := chkOpd_sound hkk hf
  have hxv := chkOpd_sound hx hf
  have hmv := chkOpd_sound hm hf
  rw [asMp_some hid] at hmv
  obtain ⟨b, tot, hφ, hma⟩ := hmv.mp_inv
  have hob := oMp_some hp
  obtain ⟨b', base', tot', hφ', hnS, hor⟩ := hc.obj id (by rw [hob]; simp)
  rw [hφ] at hφ'; cases hφ'
  rw [hob] at hor
  obtain ⟨_, ces, hb, g0, g1, g2, g3⟩ := hor
  have hrel := ERel.of_arr g0 g1 g2 g3
  obtain ⟨d, hd⟩ : ∃ d, P.underlying e.1 = some d := by
    unfold keyOk at hk; split at hk <;> first | exact ⟨_, ‹_›⟩ | cases hk
  have hck : ∀ b, (Instr.checkKey b 10000 e.1 (a.eval k')).run P w = .ok () w := fun b => checkKey_run (n := 9999) hk
  have hfk : (Instr.findKey e.1 (a.eval k') ces.toList).run P w = ((match Instr.findNow d (a.eval k') ces.toList 0 with | some r => pure r | none => Instr.findAsking e.1 (a.eval k') ces.toList : Sem _)).run P w := by
    unfold Instr.findKey
    rw [Sem.run_bind, run_underlying hd]
    rfl
  have hexec : ∀ w', (Instr.mapUpdate t (a.eval m') (a.eval k') (a.eval x')).run P w = .ok () w' → (execOp a.eval o).run P w = .ok .skip w' := by
    intro w' hr
    rcases ho with ho | ho <;> simp only [execOp, ho, Sem.run_bind, hr, Result.andThen_ok, Sem.run_pure]
  have hbl : b < w.heap.size := hc.phi _ _ _ _ hφ
  have fin : ∀ (ob : Array MapEntry) (clk : Nat), (Instr.mapUpdate t (a.eval m') (a.eval k') (a.eval x')).run P w = .ok () { w with heap := w.heap.setIfInBounds b (.map ob clk) } → ERel φ S w q.1 ob.toList → q.2 = clk →
      OpOk P a o w (Good h φ S w .bot (h.set id (.mp q.1 q.2))) := by
    intro ob clk hr hre hq2
    obtain ⟨w1, w2, w3⟩ := setObj_world (w := w) (ob := .map ob clk) hbl
    refine ⟨undef, _, .inr ⟨hexec _ hr, rfl⟩, φ, Ext.write hc hφ (by rw [hob]; simp) w1 w2 rfl rfl, hc.write hφ (by rw [hob]; simp) _ w1 w2 ⟨rfl, ob, by rw [hq2]; exact w3, ?_⟩, .bot _, Exact.write hφ (by rw [hob]; simp) _ w1⟩
    obtain ⟨a1, a2, a3, a4⟩ := hre.arr
    have hk2 : ∀ b', S b' → (({ w with heap := w.heap.setIfInBounds b (.map ob clk) } : World)).heap[b']? = w.heap[b']? := fun b' hb' => w1 b' fun e => hnS (e ▸ hb')
    exact ⟨a1, fun i hi => (a2 i hi).mono (fun _ _ h => h) (fun _ h => h) hk2, fun i hi => (a3 i hi).mono (fun _ _ h => h) (fun _ h => h) hk2, a4⟩
  rcases mset_now hk hd hv hxv p.1 ces.toList q 0 hq hrel with ⟨e1, e2, e3⟩ | ⟨e1, j, cv, e2, ⟨en, e3, e3'⟩, e4⟩
  · refine fin (ces.push { key := a.eval k', val := a.eval x', born := p.2 }) (p.2 + 1) ?_ (by simpa using e3) e1
    rw [e2] at hfk
    simp only [Instr.mapUpdate, Sem.run_bind, run_underlying (mapE_u ht), Result.andThen_ok, hma]
    simp [getObj, setObj, Sem.run, hb, hck, hfk]
  · refine fin (ces.modify j fun e => { e with key := a.eval k', val := a.eval x' }) p.2 ?_ (by simpa using e4) e1
    rw [e2] at hfk
    have hj : ces[j]? = some en := by simpa using e3
    have hsb := sameBits_of_now e3' 10000
    simp only [Instr.mapUpdate, Sem.run_bind, run_underlying (mapE_u ht), Result.andThen_ok, hma]
    simp [getObj, setObj, Sem.run, hb, hck, hfk, Instr.keyThatStays, hj, hsb]

theorem op_del {kk : Nat} {m k : Opd} {c : Call} {t : TypeId} {e : TypeId × TypeId} {m' k' : Operand} (ho : o.op = .call c) (hcl : c.callee = .builtin .delete) (ha0 : c.args[0]? = some m') (ha1 : c.args[1]? = some k') (hct : c.argTypes[0]? = some t) (ht : mapE P t = some e) (hk : keyOk P kk e.1 = true)
    (hm : chkOpd m m' = true) (hkk : chkOpd k k' = true)
    (he : aop (.del kk m k) F h = some (v, h')) (hc : Cpl φ S h w) (hf : FRel φ S w F a.tmps) : OpOk P a o w (Good h φ S w v h') := by
  simp only [aop, obind_some, Option.some.injEq, Prod.mk.injEq] at he
  obtain ⟨id, hid, p, hp, q, hq, rfl, rfl⟩ := he
  have hv := chkOpd_sound hkk hf
  have hmv := chkOpd_sound hm hf
  rw [asMp_some hid] at hmv
  obtain ⟨b, tot, hφ, hma⟩ := hmv.mp_inv
  have hob := oMp_some hp
  obtain ⟨b', base', tot', hφ', hnS, hor⟩ := hc.obj id (by rw [hob]; simp)
  rw [hφ] at hφ'; cases hφ'
  rw [hob] at hor
  obtain ⟨_, ces, hb, g0, g1, g2, g3⟩ := hor
  have hrel := ERel.of_arr g0 g1 g2 g3
  obtain ⟨d, hd⟩ : ∃ d, P.underlying e.1 = some d := by
    unfold keyOk at hk; split at hk <;> first | exact ⟨_, ‹_›⟩ | cases hk
  have hck : ∀ b, (Instr.checkKey b 10000 e.1 (a.eval k')).run P w = .ok () w := fun b => checkKey_run (n := 9999) hk
  have hfk : (Instr.findKey e.1 (a.eval k') ces.toList).run P w = ((match Instr.findNow d (a.eval k') ces.toList 0 with | some r => pure r | none => Instr.findAsking e.1 (a.eval k') ces.toList : Sem _)).run P w := by
    unfold Instr.findKey
    rw [Sem.run_bind, run_underlying hd]
    rfl
  have h0 : (c.args.map a.eval)[0]? = some (a.eval m') := by simp [ha0]
  have h1 : (c.args.map a.eval)[1]? = some (a.eval k') := by simp [ha1]
  have hbl : b < w.heap.size := hc.phi _ _ _ _ hφ
  have hexec : ∀ w', (Builtin.delete_ c.argTypes o.type (c.args.map a.eval)).run P w = .ok (.tuple #[]) w' → (execOp a.eval o).run P w = .ok (.value (.tuple #[])) w' := by
    intro w' hr
    simp only [execOp, ho, resolve, hcl, Sem.run_bind, Sem.run_pure, Result.andThen_ok, invoke, builtin, hr]
  have fin : ∀ (ob : Array MapEntry), (Builtin.delete_ c.argTypes o.type (c.args.map a.eval)).run P w = .ok (.tuple #[]) { w with heap := w.heap.setIfInBounds b (.map ob p.2) } → ERel φ S w q ob.toList →
      OpOk P a o w (Good h φ S w (.tup []) (h.set id (.mp q p.2))) := by
    intro ob hr hre
    obtain ⟨w1, w2, w3⟩ := setObj_world (w := w) (ob := .map ob p.2) hbl
    refine ⟨.tuple #[], _, .inl (hexec _ hr), φ, Ext.write hc hφ (by rw [hob]; simp) w1 w2 rfl rfl, hc.write hφ (by rw [hob]; simp) _ w1 w2 ⟨rfl, ob, w3, ?_⟩, .tup _ _ rfl (fun i hi => absurd hi (by simp)), Exact.write hφ (by rw [hob]; simp) _ w1⟩
    obtain ⟨a1, a2, a3, a4⟩ := hre.arr
    have hk2 : ∀ b', S b' → (({ w with heap := w.heap.setIfInBounds b (.map ob p.2) } : World)).heap[b']? = w.heap[b']? := fun b' hb' => w1 b' fun e => hnS (e ▸ hb')
    exact ⟨a1, fun i hi => (a2 i hi).mono (fun _ _ h => h) (fun _ h => h) hk2, fun i hi => (a3 i hi).mono (fun _ _ h => h) (fun _ h => h) hk2, a4⟩
  rcases mdel_now hk hd hv p.1 ces.toList q 0 hq hrel with ⟨e2, e3⟩ | ⟨j, cv, e2, e4⟩
  · refine fin ces ?_ e3
    rw [e2] at hfk
    simp only [Builtin.delete_, Sem.run_bind, hct, h0, h1, run_underlying (mapE_u ht), Result.andThen_ok, hma]
    simp [getObj, setObj, Sem.run, hb, hck, hfk]
  · refine fin (ces.eraseIdxIfInBounds j) ?_ (by simpa using e4)
    rw [e2] at hfk
    simp only [Builtin.delete_, Sem.run_bind, hct, h0, h1, run_underlying (mapE_u ht), Result.andThen_ok, hma]
    simp [getObj, setObj, Sem.run, hb, hck, hfk]

/-- what an append takes -/
theorem src_run {sz m : Nat} {y : AV} {ys : List AV} {cy : Value} (hs : srcOf h sz y = some (ys, m)) (hc : Cpl φ S h w) (hv : VR φ S w y cy) :
    (Builtin.lenOf cy).run P w = .ok m w ∧ ys.length = m * sz ∧ ∃ news : Array Value, VRs φ S w ys news ∧ ∀ w' : World, w'.heap = w.heap → (Builtin.firstCells sz m cy).run P w' = .ok news w' := by
  unfold srcOf at hs
  split at hs
  · rename_i s
    rw [ogrd_some] at hs
    obtain ⟨h1, hs⟩ := hs
    have h1 := Nat.eq_of_beq_eq_true h1
    cases hs
    obtain ⟨t, rfl, hb⟩ := hv.str_inv
    have hl := bytes_length t s hb
    subst h1
    refine ⟨by simp [Builtin.lenOf, llen_eq, hl], by rw [bcells_eq, llen_eq]; simp, t.data.map fun b => .int .u8 b.toNat, ?_, fun w' _ => ?_⟩
    · refine ⟨by rw [bcells_eq]; simp; exact hl, fun i hi => ?_⟩
      rw [bcells_eq] at hi ⊢
      simp at hi
      have hit : i < t.data.size := by show i < t.size; omega
      subst hb
      have e1 : ((t.data.toList.map UInt8.toNat).map fun n => AV.int .u8 (Int.ofNat n)).getD i .bot = .int .u8 (Int.ofNat (t.data[i]).toNat) := by
        simp [List.getD]
        rw [Array.getElem?_eq_getElem hit]
        rfl
      have e2 : (t.data.map fun b => Value.int .u8 (b.toNat : Int)).getD i undef = .int .u8 ((t.data[i]).toNat : Int) := by
        have hit' : i < t.size := hit
        simp [Array.getD, hit']
      rw [e1, e2]
      exact .int _ _
    · rw [llen_eq, ← hl]
      simp [Builtin.firstCells]
  · simp only [obind_some, ogrd_some, Option.some.injEq, Prod.mk.injEq, llen_eq] at hs
    obtain ⟨ys', h1, m', h2, h3, rfl, rfl⟩ := hs
    have h3 : ys'.length = m' * sz := Nat.eq_of_beq_eq_true h3
    obtain ⟨p, cap, rfl, vs, hle, hcells⟩ := scells_some h1 h2 hc hv
    refine ⟨by simp [Builtin.lenOf], h3, ((List.range (m' * sz)).map vs).toArray, ⟨by simp [h3], fun i hi => ?_⟩, fun w' hw' => ?_⟩
    · obtain ⟨b, o', _, hcl⟩ := hcells (by intro h0; rw [h0] at hi; simp at hi)
      have := (hcl i hi).2
      have e2 : (((List.range (m' * sz)).map vs).toArray).getD i undef = vs i := by
        have : i < m' * sz := by omega
        simp [Array.getD, this]
      rw [e2]; exact this
    · by_cases h0 : ys' = []
      · have hz : m' * sz = 0 := by rw [← h3, h0]; rfl
        rw [hz]
        cases p <;> simp [Builtin.firstCells, hz, loadCells, loadCellsFrom]
      · obtain ⟨b, o', rfl, hcl⟩ := hcells h0
        have := loadCells_run (P := P) (w := w') (b := b) (o := o') (vs := vs) (m' * sz) 0 #[] (fun j hj => by
          have := (hcl j (by omega)).1
          rw [Nat.zero_add]
          simpa [World.cell?, hw'] using this)
        simp only [Builtin.firstCells, loadCells]
        rw [this]
        simp

theorem zero_of {t : TypeId} {z : List AV} (h : zeroOk P t z = true) : ∃ i zv, P.info? t = some i ∧ i.zero = some zv := by
  unfold zeroOk at h
  split at h
  · rename_i i hi
    split at h
    · exact ⟨_, _, ‹_›, ‹_›⟩
    · cases h
  · cases h

/-- the second argument's type is no integer -/
def notInt (P : Program) (x : Option TypeId) : Bool := match x with | some x => (match P.underlying x with | some (.slice _) => true | some .string => true | _ => false) | none => false

/-- append, where there is no room -/
theorem grow_run {argTypes : Array TypeId} {ty t e : TypeId} {sz len cap m : Nat} {i : TypeInfo} {zv : Value} {p : Option Addr} {cy : Value} {olds news : Array Value}
    (ht0 : argTypes[0]? = some t) (ht : P.underlying t = some (.slice e)) (hi : P.info? e = some i) (hz : i.zero = some zv) (hsz : i.size = sz) (hby : i.bytes ≤ 131072)
    (hz1 : notInt P argTypes[1]? = true)
    (hlen : (Builtin.lenOf cy).run P w = .ok m w) (hneed : cap < len + m) (hbig : len + m ≤ 1073741824)
    (ho : ∀ w' : World, w'.heap = w.heap → (Builtin.firstCells sz len (.slice p len cap)).run P w' = .ok olds w') (hn : ∀ w' : World, w'.heap = w.heap → (Builtin.firstCells sz m cy).run P w' = .ok news w') :
    (Builtin.append_ argTypes ty #[.slice p len cap, cy]).run P w =
      .ok (.slice (some ⟨w.heap.size, 0, none⟩) (len + m) (grownCap w (len + m) cap e)) (w.drew.alloc (.cells (olds ++ news ++ Builtin.zeroCells zv.cells (grownCap w (len + m) cap e - (len + m))) e)) := by
  have h1 : ¬ (len + m ≤ cap) := by omega
  have h2 : ¬ (9223372036854775807 < ((len : Int) + (m : Int))) := by omega
  have h3 : ¬ (281474976710656 < Builtin.nextslicecap (len + m) cap * i.bytes) := by
    have := nextslicecap_le hneed
    have h4 : Builtin.nextslicecap (len + m) cap * i.bytes ≤ 2147483648 * 131072 := Nat.mul_le_mul (by omega) hby
    omega
  have ho' := ho w.drew rfl
  have hn' := hn w.drew rfl
  subst hsz
  unfold notInt at hz1
  split at hz1
  · rename_i u hu1
    split at hz1
    · rename_i hu
      simp [Builtin.append_, ht0, hu1, run_underlying ht, run_underlying hu, sizeOf, typeInfo, zeroValue, hi, hz, hlen, h1, h2, h3, Question.forced, ho', hn', newRow, grownCap]
    · rename_i hu
      simp [Builtin.append_, ht0, hu1, run_underlying ht, run_underlying hu, sizeOf, typeInfo, zeroValue, hi, hz, hlen, h1, h2, h3, Question.forced, ho', hn', newRow, grownCap]
    · cases hz1
  · cases hz1

/-- append, where there is room -/
theorem room_run {argTypes : Array TypeId} {ty t e : TypeId} {sz len cap m : Nat} {i : TypeInfo} {p : Option Addr} {cy : Value} {news : Array Value}
    (ht0 : argTypes[0]? = some t) (ht : P.underlying t = some (.slice e)) (hi : P.info? e = some i) (hsz : i.size = sz) (hz1 : notInt P argTypes[1]? = true)
    (hlen : (Builtin.lenOf cy).run P w = .ok m w) (hneed : len + m ≤ cap) (hn : (Builtin.firstCells sz m cy).run P w = .ok news w) :
    (Builtin.append_ argTypes ty #[.slice p len cap, cy]).run P w =
      match p with
      | none => .ok (.slice none (len + m) cap) w
      | some ad => ((storeCells (ad.add (len * sz)) news.toList).run P w).andThen fun _ w' => .ok (.slice (some ad) (len + m) cap) w' := by
  subst hsz
  unfold notInt at hz1
  split at hz1
  · rename_i u hu1
    split at hz1
    · rename_i hu
      cases p <;> simp [Builtin.append_, ht0, hu1, run_underlying ht, run_underlying hu, sizeOf, typeInfo, hi, hlen, hneed, hn]
    · rename_i hu
      cases p <;> simp [Builtin.append_, ht0, hu1, run_underlying ht, run_underlying hu, sizeOf, typeInfo, hi, hlen, hneed, hn]
    · cases hz1
  · cases hz1

end
end Go.Am
namespace Go.Am
open Go

section
variable {P : Program} {φ : Phi} {S : Sea} {w : World} {F : Fr} {a : Act} {h h' : Heap} {v : AV} {o : Oper}

theorem VRs.append {l m : List AV} {x y : Array Value} (h1 : VRs φ S w l x) (h2 : VRs φ S w m y) : VRs φ S w (l ++ m) (x ++ y) := by
  refine ⟨by simp [h1.1, h2.1], fun i hi => ?_⟩
  rw [getD_of, List.getD, Array.getElem?_append, List.getElem?_append, h1.1]
  by_cases hlt : i < l.length
  · rw [if_pos hlt, if_pos hlt]
    have := h1.2 i hlt
    rw [getD_of] at this
    exact this
  · rw [if_neg hlt, if_neg hlt]
    simp at hi
    have := h2.2 (i - l.length) (by omega)
    rw [getD_of] at this
    exact this

theorem zeroCells_size (z : Array Value) (n : Nat) : (Builtin.zeroCells z n).size = n * z.size := by simp [Builtin.zeroCells]

theorem grownCap_ge (w : World) (need old : Nat) (e : TypeId) : need ≤ grownCap w need old e := by
  unfold grownCap
  simp [Question.cut]

theorem growTy_in {te off : Nat} {ty : OT} {et : TypeId} {base n m n' m' : Nat} (h : tyOk ty et base n m) : tyOk (growTy te off ty) et (base + off) n' m' := by
  cases ty with
  | no => trivial
  | one t => trivial
  | arr t =>
    obtain ⟨rfl, rfl⟩ := h
    show tyOk (bif Nat.beq off 0 && Nat.beq et te then .arr te else .no) et (0 + off) n' m'
    cases hb : (Nat.beq off 0 && Nat.beq et te) with
    | false => trivial
    | true =>
      simp only [Bool.and_eq_true] at hb
      exact ⟨Nat.eq_of_beq_eq_true hb.2, by rw [Nat.eq_of_beq_eq_true hb.1]⟩
theorem growTy_new {te off : Nat} {ty : OT} (n m : Nat) : tyOk (growTy te off ty) te 0 n m := by
  cases ty with
  | no => trivial
  | one t => trivial
  | arr t =>
    show tyOk (bif Nat.beq off 0 && Nat.beq t te then .arr te else .no) te 0 n m
    cases Nat.beq off 0 && Nat.beq t te with
    | false => trivial
    | true => exact ⟨rfl, rfl⟩

/-- what grows lies in a new block -/
theorem OpOk.grow {ty : OT} {h0 : Heap} {oldl ys : List AV} {olds news : Array Value} {zv : Value} {e : TypeId} {len m sz cap : Nat} (hc : Cpl φ S h0 w)
    (hr : (execOp a.eval o).run P w = .ok (.value (.slice (some ⟨w.heap.size, 0, none⟩) (len + m) (grownCap w (len + m) cap e))) (w.drew.alloc (.cells (olds ++ news ++ Builtin.zeroCells zv.cells (grownCap w (len + m) cap e - (len + m))) e)))
    (h1 : VRs φ S w oldl olds) (h2 : VRs φ S w ys news) (hl1 : oldl.length = len * sz) (hl2 : ys.length = m * sz) (hz : zv.cells.size = sz) (hty : ∀ n m, tyOk ty e 0 n m) :
    OpOk P a o w (Good h0 φ S w (.os h0.next 0 (len + m) sz none) (h0.new (.cells ty (oldl ++ ys)))) := by
  have hge := grownCap_ge w (len + m) cap e
  have h12 := h1.append h2
  have hCs : (olds ++ news ++ Builtin.zeroCells zv.cells (grownCap w (len + m) cap e - (len + m))).size = grownCap w (len + m) cap e * sz := by
    rw [Array.size_append, Array.size_append, zeroCells_size, hz, h1.1, h2.1, hl1, hl2, ← Nat.add_mul, ← Nat.add_mul]
    congr 1; omega
  refine OpOk.make' (tot := (olds ++ news ++ Builtin.zeroCells zv.cells (grownCap w (len + m) cap e - (len + m))).size) (obj := .cells (olds ++ news ++ Builtin.zeroCells zv.cells (grownCap w (len + m) cap e - (len + m))) e) hr rfl rfl rfl hc ?_ ?_
  · refine ⟨_, e, (0, 0), heap_push_new _ _, hty _ _, fun i _ h => by simp at h, by simp, ?_, fun i hi => ?_⟩
    · rw [Array.size_append, h12.1]; omega
    · rw [Nat.zero_add, getD_of, Array.getElem?_append, if_pos (by rw [h12.1]; exact hi)]
      have := h12.2 i hi
      rw [getD_of] at this
      exact this.mono (fun _ _ h => h) (fun _ h => h) (fun b hb => heap_push _ _ _ (hc.sea b hb))
  · intro φ' hφ
    exact .os _ 0 _ _ _ _ 0 _ _ hφ (fun c hh => by cases hh) hge (by rw [hCs]; omega)

theorem firstCells_none (sz n cap : Nat) (w' : World) : (Builtin.firstCells sz n (.slice none n cap)).run P w' = .ok #[] w' := by simp [Builtin.firstCells]
theorem firstCells_zero (sz cap : Nat) (p : Option Addr) (w' : World) : (Builtin.firstCells sz 0 (.slice p 0 cap)).run P w' = .ok #[] w' := by
  cases p <;> simp [Builtin.firstCells, loadCells, loadCellsFrom]

theorem op_app {sz : Nat} {x y : Opd} {c : Call} {t e : TypeId} {x' y' : Operand} {i : TypeInfo} {zv : Value} (ho : o.op = .call c) (hcl : c.callee = .builtin .append) (hca : c.args = #[x', y']) (ht0 : c.argTypes[0]? = some t) (ht : sliceE P t = some e)
    (hi : P.info? e = some i) (hz : i.zero = some zv) (hsz : i.size = sz) (hzs : zv.cells.size = sz) (hby : i.bytes ≤ 131072) (hz1 : notInt P c.argTypes[1]? = true) (hx : chkOpd x x' = true) (hy : chkOpd y y' = true)
    (he : aop (.app e sz x y) F h = some (v, h')) (hc : Cpl φ S h w) (hf : FRel φ S w F a.tmps) : OpOk P a o w (Good h φ S w v h') := by
  simp only [aop, obind_some] at he
  obtain ⟨⟨ys, m⟩, hsrc, he⟩ := he
  simp only at he
  obtain ⟨hlen, hyl, news, hnr, hnews⟩ := src_run (P := P) hsrc hc (chkOpd_sound hy hf)
  have hv := chkOpd_sound hx hf
  have hexec : ∀ cv w', (Builtin.append_ c.argTypes o.type #[a.eval x', a.eval y']).run P w = .ok cv w' → (execOp a.eval o).run P w = .ok (.value cv) w' := by
    intro cv w' hr
    simp only [execOp, ho, resolve, hcl, Sem.run_bind, Sem.run_pure, Result.andThen_ok, invoke, builtin, hca]
    simp only [List.map_toArray, List.map_cons, List.map_nil, hr, Result.andThen_ok]
  have hsame : ∀ {len cap : Nat} {p : Option Addr}, a.eval x' = .slice p len cap → len ≤ cap → m = 0 → (execOp a.eval o).run P w = .ok (.value (a.eval x')) w := by
    intro len cap p hxa hle hm
    subst hm
    have hn0 : news.toList = [] := by
      have : news.size = 0 := by rw [hnr.1, hyl]; simp
      have h2 : news.toList.length = 0 := by simpa using this
      exact List.eq_nil_of_length_eq_zero h2
    have := room_run (P := P) (w := w) (ty := o.type) (p := p) (len := len) (cap := cap) ht0 (sliceE_u ht) hi hsz hz1 hlen (by omega) (hnews w rfl)
    refine hexec _ _ ?_
    rw [hxa, this]
    cases p with
    | none => rfl
    | some ad => rw [hn0]; rfl
  unfold aapp at he
  generalize x.ev F = xv at *
  split at he
  · obtain hxa : a.eval x' = .slice none 0 0 := by generalize a.eval x' = q at hv; cases hv; rfl
    by_cases hm : m = 0
    · have : Nat.beq m 0 = true := by rw [hm]; rfl
      rw [this] at he
      cases he
      exact .pure (hsame hxa (Nat.le_refl _) hm) hc hv
    · have : Nat.beq m 0 = false := by
        cases hh : Nat.beq m 0 with
        | false => rfl
        | true => exact absurd (Nat.eq_of_beq_eq_true hh) hm
      rw [this] at he
      simp only [cond_false, ogrd_some] at he
      obtain ⟨hb, he⟩ := he
      cases he
      have hb := Nat.le_of_ble_eq_true hb
      have hg := grow_run (P := P) (w := w) (ty := o.type) (p := none) (len := 0) (cap := 0) (olds := #[]) ht0 (sliceE_u ht) hi hz hsz hby hz1 hlen (by omega) (by omega) (fun w' _ => firstCells_none sz 0 0 w') hnews
      have := OpOk.grow (oldl := []) (ys := ys) hc (hexec _ _ (by rw [hxa]; exact hg)) ⟨rfl, fun i hi => absurd hi (by simp)⟩ hnr (by simp) hyl hzs (ty := .arr e) (fun _ _ => ⟨rfl, rfl⟩)
      simpa using this
  · rename_i full
    obtain ⟨p, cap, hxa, hful⟩ : ∃ p cap, a.eval x' = .slice (some p) 0 cap ∧ (full = true → cap = 0) := by
      generalize a.eval x' = q at hv; cases hv; exact ⟨_, _, rfl, ‹_›⟩
    by_cases hm : m = 0
    · have : Nat.beq m 0 = true := by rw [hm]; rfl
      rw [this] at he
      cases he
      exact .pure (hsame hxa (Nat.zero_le _) hm) hc hv
    · have : Nat.beq m 0 = false := by
        cases hh : Nat.beq m 0 with
        | false => rfl
        | true => exact absurd (Nat.eq_of_beq_eq_true hh) hm
      rw [this] at he
      simp only [cond_false, ogrd_some] at he
      obtain ⟨hfl, hb, he⟩ := he
      cases he
      have hb := Nat.le_of_ble_eq_true hb
      have hcap := hful hfl
      subst hcap
      have hg := grow_run (P := P) (w := w) (ty := o.type) (p := some p) (len := 0) (cap := 0) (olds := #[]) ht0 (sliceE_u ht) hi hz hsz hby hz1 hlen (by omega) (by omega) (fun w' _ => firstCells_zero sz 0 _ w') hnews
      have := OpOk.grow (oldl := []) (ys := ys) hc (hexec _ _ (by rw [hxa]; exact hg)) ⟨rfl, fun i hi => absurd hi (by simp)⟩ hnr (by simp) hyl hzs (ty := .arr e) (fun _ _ => ⟨rfl, rfl⟩)
      simpa using this
  · rename_i full len cs
    obtain ⟨b, q, cap, vs, hxa, hS, hful, hle, hcl, hrr⟩ := hv.ps_inv
    by_cases hm : m = 0
    · have : Nat.beq m 0 = true := by rw [hm]; rfl
      rw [this] at he
      cases he
      exact .pure (hsame hxa hle hm) hc hv
    · have : Nat.beq m 0 = false := by
        cases hh : Nat.beq m 0 with
        | false => rfl
        | true => exact absurd (Nat.eq_of_beq_eq_true hh) hm
      rw [this] at he
      simp only [cond_false, ogrd_some, llen_eq, ltake_eq, lapp_eq] at he
      obtain ⟨hfl, hb, hcs, he⟩ := he
      cases he
      have hb : len + m ≤ 1073741824 := Nat.le_of_ble_eq_true hb
      have hcs : len * sz ≤ cs.length := Nat.le_of_ble_eq_true hcs
      have hcap := hful hfl
      have hold : VRs φ S w (cs.take (len * sz)) ((List.range (len * sz)).map vs).toArray := by
        refine ⟨by simp; omega, fun i hi => ?_⟩
        simp at hi
        have := hrr i (by omega)
        have e1 : (cs.take (len * sz)).getD i .bot = cs.getD i .bot := by simp [List.getD, show i < len * sz by omega]
        have e2 : (((List.range (len * sz)).map vs).toArray).getD i undef = vs i := by simp [Array.getD, show i < len * sz by omega]
        rw [e1, e2]; exact this.up
      have hfc : ∀ w' : World, w'.heap = w.heap → (Builtin.firstCells sz len (.slice (some ⟨b, q, none⟩) len cap)).run P w' = .ok ((List.range (len * sz)).map vs).toArray w' := by
        intro w' hw'
        have := loadCells_run (P := P) (w := w') (b := b) (o := q) (vs := vs) (len * sz) 0 #[] (fun j hj => by
          have := hcl j (by omega)
          rw [Nat.zero_add]
          simpa [World.cell?, hw'] using this)
        simp only [Builtin.firstCells, loadCells]
        rw [this]
        simp
      have hg := grow_run (P := P) (w := w) (ty := o.type) ht0 (sliceE_u ht) hi hz hsz hby hz1 hlen (show cap < len + m by omega) hb hfc hnews
      have := OpOk.grow hc (hexec _ _ (by rw [hxa]; exact hg)) hold hnr (by simp; omega) hyl hzs (ty := .arr e) (fun _ _ => ⟨rfl, rfl⟩)
      exact this
  · rename_i id off len sz' ocap
    obtain ⟨b, base, tot, vcap, hxa, hφ, hcap, hle, htot⟩ := hv.os_inv
    by_cases hm : m = 0
    · have : Nat.beq m 0 = true := by rw [hm]; rfl
      rw [this] at he
      cases he
      exact .pure (hsame hxa hle hm) hc hv
    · have : Nat.beq m 0 = false := by
        cases hh : Nat.beq m 0 with
        | false => rfl
        | true => exact absurd (Nat.eq_of_beq_eq_true hh) hm
      rw [this] at he
      simp only [cond_false, ogrd_some, obind_some, llen_eq, ltake_eq, ldrop_eq, lapp_eq] at he
      obtain ⟨hse, hb, hone, cs, hcs, hcl, he⟩ := he
      have hse := Nat.eq_of_beq_eq_true hse
      have hb : len + m ≤ 1073741824 := Nat.le_of_ble_eq_true hb
      have hcl : off + len * sz ≤ cs.length := Nat.le_of_ble_eq_true hcl
      subst hse
      have hob := oCells_some hcs
      have hlive : h.get id ≠ .dead := by rw [hob]; simp
      obtain ⟨b', base', tot', hφ', hnS, hor⟩ := hc.obj id hlive
      rw [hφ] at hφ'; cases hφ'
      rw [hob] at hor
      obtain ⟨C, et, fr, hbk, htyo, hfr, hCs, hcle, hrel⟩ := hor
      have hmulc : len * sz ≤ vcap * sz := Nat.mul_le_mul_right _ hle
      have hold : VRs φ S w ((cs.drop off).take (len * sz)) ((List.range (len * sz)).map fun j => C.getD (base + (off + j)) undef).toArray := by
        refine ⟨by simp; omega, fun i hi => ?_⟩
        simp at hi
        have := hrel (off + i) (by omega)
        have e1 : ((cs.drop off).take (len * sz)).getD i .bot = cs.getD (off + i) .bot := by simp [List.getD, show i < len * sz by omega]
        have e2 : (((List.range (len * sz)).map fun j => C.getD (base + (off + j)) undef).toArray).getD i undef = C.getD (base + (off + i)) undef := by
          have hh : i < len * sz := by omega
          rw [getD_of]
          simp [hh]
        rw [e1, e2]; exact this
      -- in its place
      have inplace : ∀ oc : Option Nat, (∀ c, oc = some c → vcap = c) → len + m ≤ vcap → OpOk P a o w (Good h φ S w (.os h.next 0 (Nat.add len m) sz oc) ((h.set id .dead).new (.cells (growTy e off (oTy (h.get id))) ((cs.drop off).take (len * sz) ++ ys)))) := by
        intro oc hoc hroom
        have hmul : (len + m) * sz ≤ vcap * sz := Nat.mul_le_mul_right _ hroom
        rw [Nat.add_mul] at hmul
        obtain ⟨w', c', r1, r2, r3, r4, r5, r6, r7, r8⟩ := storeCells_run (P := P) news.toList 0 (base + off + len * sz) w C et fr hbk hfr (by simp; rw [hnr.1, hyl]; omega) (hnr.one hone)
        have hrun := room_run (P := P) (w := w) (ty := o.type) (p := some ⟨b, base + off, none⟩) (len := len) (cap := vcap) ht0 (sliceE_u ht) hi hsz hz1 hlen hroom (hnews w rfl)
        have r1' : (storeCells ⟨b, base + off + len * sz, none⟩ news.toList).run P w = .ok () w' := r1
        simp only [addr_add, r1', Result.andThen_ok] at hrun
        have hk : ∀ b', S b' → w'.heap[b']? = w.heap[b']? := fun b' hb' => r5 b' fun e => hnS (e ▸ hb')
        have hor' : ORel φ S w' (.cells (growTy e off (oTy (h.get id))) ((cs.drop off).take (len * sz) ++ ys)) b (base + off) (tot - off) := by
          refine ⟨c', et, fr, r2, growTy_in htyo, by rw [r3]; exact hfr, by rw [r3, hCs]; omega, by simp; omega, fun i hi => ?_⟩
          simp at hi
          rw [getD_of, r4]
          by_cases hlt : i < len * sz
          · have n1 : ¬ (base + off + len * sz + 0 ≤ base + off + i ∧ base + off + i < base + off + len * sz + 0 + news.toList.length) := by omega
            rw [if_neg n1]
            have := hrel (off + i) (by omega)
            rw [getD_of, ← Nat.add_assoc] at this
            have e1 : ((cs.drop off).take (len * sz) ++ ys).getD i .bot = cs.getD (off + i) .bot := by
              rw [List.getD, List.getElem?_append_left (by simp; omega)]
              simp [List.getD, hlt]
            rw [e1]
            exact this.mono (fun _ _ h => h) (fun _ h => h) hk
          · have n1 : base + off + len * sz + 0 ≤ base + off + i ∧ base + off + i < base + off + len * sz + 0 + news.toList.length := by
              simp only [Array.length_toList, hnr.1, hyl]; omega
            rw [if_pos n1]
            have hj : base + off + i - (base + off + len * sz + 0) = i - len * sz := by omega
            rw [hj]
            have := hnr.2 (i - len * sz) (by omega)
            rw [getD_of] at this
            have e1 : ((cs.drop off).take (len * sz) ++ ys).getD i .bot = ys.getD (i - len * sz) .bot := by
              rw [List.getD, List.getElem?_append_right (by simp; omega)]
              have : min (len * sz) (cs.length - off) = len * sz := by omega
              simp [List.getD, this]
            rw [e1, Array.getElem?_toList]
            exact this.mono (fun _ _ h => h) (fun _ h => h) hk
        obtain ⟨hx1, hx2⟩ := hc.again (base' := base + off) (tot' := tot - off) hφ hlive (.cells (growTy e off (oTy (h.get id))) ((cs.drop off).take (len * sz) ++ ys)) r5 r6 r7 r8 hor'
        refine ⟨_, w', .inl (hexec _ _ (by rw [hxa]; exact hrun)), _, hx1, hx2, ?_, Exact.again hφ hlive _ _ rfl r5⟩
        have := VR.os (φ := φ.add h.next (b, base + off, tot - off)) (S := S) (w := w') h.next 0 (len + m) sz oc b (base + off) (tot - off) vcap (Phi.add_same _ _ _) hoc hroom (by omega)
        exact this
      -- in a new block
      have fresh : vcap < len + m → OpOk P a o w (Good h φ S w (.os h.next 0 (Nat.add len m) sz none) ((h.set id .dead).new (.cells (growTy e off (oTy (h.get id))) ((cs.drop off).take (len * sz) ++ ys)))) := by
        intro hg0
        have hfc : ∀ w' : World, w'.heap = w.heap → (Builtin.firstCells sz len (.slice (some ⟨b, base + off, none⟩) len vcap)).run P w' = .ok ((List.range (len * sz)).map fun j => C.getD (base + (off + j)) undef).toArray w' := by
          intro w' hw'
          have := loadCells_run (P := P) (w := w') (b := b) (o := base + off) (vs := fun j => C.getD (base + (off + j)) undef) (len * sz) 0 #[] (fun j hj => by
            have hlt : base + (off + j) < C.size := by omega
            simp [World.cell?, hw', hbk, Array.getD, hlt, Nat.add_assoc])
          simp only [Builtin.firstCells, loadCells]
          rw [this]
          simp
        have hg := grow_run (P := P) (w := w) (ty := o.type) ht0 (sliceE_u ht) hi hz hsz hby hz1 hlen hg0 hb hfc hnews
        obtain ⟨cv, w', g1, φ', g2, g3, g4, g5⟩ := OpOk.grow (h0 := h.set id .dead) (hc.kill id) (hexec _ _ (by rw [hxa]; exact hg)) hold hnr (by simp; omega) hyl hzs (ty := growTy e off (oTy (h.get id))) (fun n m => growTy_new n m)
        exact ⟨cv, w', g1, φ', g2, g3, g4, g5.part rfl fun i hi => by
          rcases Heap.get_set h id .dead i with h1 | h1
          · by_cases he : i = id
            · simp only [he, if_true] at h1; exact absurd (he ▸ h1) hi
            · simp only [he, if_false] at h1; rw [← h1]; exact hi
          · exact absurd h1 hi⟩
      cases ocap with
      | none =>
        cases he
        by_cases hroom : len + m ≤ vcap
        · exact inplace none (fun c hh => by cases hh) hroom
        · exact fresh (by omega)
      | some cc =>
        have hvc := hcap cc rfl
        have he : (bif Nat.ble (Nat.add len m) cc then some (AV.os h.next 0 (Nat.add len m) sz (some cc), (h.set id .dead).new (.cells (growTy e off (oTy (h.get id))) ((cs.drop off).take (len * sz) ++ ys))) else some (.os h.next 0 (Nat.add len m) sz none, (h.set id .dead).new (.cells (growTy e off (oTy (h.get id))) ((cs.drop off).take (len * sz) ++ ys)))) = some (v, h') := he
        cases hbb : Nat.ble (Nat.add len m) cc with
        | true =>
          rw [hbb] at he
          cases he
          exact inplace (some cc) (fun c hh => by cases hh; exact hvc) (by have : len + m ≤ cc := Nat.le_of_ble_eq_true hbb; omega)
        | false =>
          rw [hbb] at he
          cases he
          refine fresh ?_
          rcases Nat.lt_or_ge vcap (len + m) with h1 | h1
          · exact h1
          · have : Nat.ble (Nat.add len m) cc = true := Nat.ble_eq_true_of_le (by show len + m ≤ cc; omega)
            rw [this] at hbb; cases hbb
  · cases he

theorem mn_fold (mx : Bool) : ∀ (l : List AV) (vs : List Value) (x r : AV) (cx : Value), l.length = vs.length → (∀ i, i < l.length → VR φ S w (l.getD i .bot) (vs.getD i undef)) → VR φ S w x cx →
    amxs mx l x = some r → ∃ cr, (vs.foldlM (if mx then Builtin.max2 else Builtin.min2) cx : Sem Value).run P w = .ok cr w ∧ VR φ S w r cr := by
  intro l
  induction l with
  | nil =>
    intro vs x r cx hl _ hx hr
    have : vs = [] := List.eq_nil_of_length_eq_zero (by simpa using hl.symm)
    subst this
    cases hr
    exact ⟨cx, rfl, hx⟩
  | cons y l ih =>
    intro vs x r cx hl hv hx hr
    cases vs with
    | nil => simp at hl
    | cons cy vs =>
      have hy := hv 0 (by simp)
      simp only [List.getD_cons_zero] at hy
      have hr' : (obind (amx2 mx x y) (amxs mx l)) = some r := hr
      rw [obind_some] at hr'
      obtain ⟨z, hz, hr'⟩ := hr'
      unfold amx2 at hz
      split at hz
      · rename_i k n k' n'
        rw [ogrd_some] at hz
        obtain ⟨hk, hz⟩ := hz
        have := ikEq_eq hk
        subst this
        cases hz
        have ex := hx.int_inv
        have ey := hy.int_inv
        subst ex; subst ey
        obtain ⟨cr, h1, h2⟩ := ih vs _ r _ (by simpa using hl) (fun i hi => by
          have := hv (i + 1) (by simp; omega)
          simpa using this) (.int k (bif mx then bif iltB n n' then n' else n else bif iltB n' n then n' else n)) hr'
        refine ⟨cr, ?_, h2⟩
        have hlt : ∀ p q : Int, iltB p q = decide (p < q) := fun p q => by
          rw [Bool.eq_iff_iff]; simp only [iltB, Bool.not_eq_true', decide_eq_true_eq, Bool.eq_false_iff, ne_eq, ileB_iff]; omega
        rw [List.foldlM_cons, Sem.run_bind]
        have hstep : ((if mx then Builtin.max2 else Builtin.min2) (.int k n) (.int k n') : Sem Value).run P w = .ok (.int k (bif mx then bif iltB n n' then n' else n else bif iltB n' n then n' else n)) w := by
          rw [hlt, hlt]
          cases mx
          · simp only [Bool.false_eq_true, if_false, Builtin.min2, cond_false, Sem.run_pure]
            by_cases hh : n' < n <;> simp [hh]
          · simp only [if_true, Builtin.max2, cond_true, Sem.run_pure]
            by_cases hh : n < n' <;> simp [hh]
        rw [hstep]
        exact h1
      · cases hz

theorem op_mnmx {mx : Bool} {l : List Opd} {c : Call} (ho : o.op = .call c) (hcl : c.callee = .builtin (if mx then .max else .min)) (hl : chkOpds l c.args = true)
    (he : aop (if mx then .mx l else .mn l) F h = some (v, h')) (hc : Cpl φ S h w) (hf : FRel φ S w F a.tmps) : OpOk P a o w (Good h φ S w v h') := by
  have hrel := chkOpds_sound hl hf
  have he' : (obind (amn mx (evs F l)) fun v => some (v, h)) = some (v, h') := by cases mx <;> exact he
  rw [obind_some] at he'
  obtain ⟨r, hr, he'⟩ := he'
  cases he'
  generalize evs F l = L at *
  cases L with
  | nil => cases hr
  | cons x L =>
    cases hA : (c.args.map a.eval).toList with
    | nil => have := hrel.1; rw [← Array.length_toList, hA] at this; simp at this
    | cons cx vs =>
      have hgd : ∀ i, (c.args.map a.eval).getD i undef = (cx :: vs).getD i undef := fun i => by rw [getD_of, List.getD, ← hA, Array.getElem?_toList]
      have h0 := hrel.2 0 (by simp)
      rw [hgd] at h0
      simp only [List.getD_cons_zero] at h0
      obtain ⟨cr, h1, h2⟩ := mn_fold (P := P) mx L vs x _ cx (by have := hrel.1; rw [← Array.length_toList, hA] at this; simpa using this.symm) (fun i hi => by
        have := hrel.2 (i + 1) (by simp; omega)
        rw [hgd] at this
        simpa using this) h0 hr
      refine .pure (cv := cr) ?_ hc h2
      cases mx
      · simp only [Bool.false_eq_true, if_false] at hcl h1
        simp only [execOp, ho, resolve, hcl, Sem.run_bind, Sem.run_pure, Result.andThen_ok, invoke, builtin, Builtin.min_, hA, h1]
      · simp only [if_true] at hcl h1
        simp only [execOp, ho, resolve, hcl, Sem.run_bind, Sem.run_pure, Result.andThen_ok, invoke, builtin, Builtin.max_, hA, h1]

end
end Go.Am
