import Derived.Test.YtnacifjcjnhgpaaGreatDoorDvA
import Derived.Test.YtnacifjcjnhgpaaGreatDoorAmG
import Derived.WalkKit
import Derived.WalkSpells
import Derived.WalkLawsBesides
set_option linter.all false
namespace Go.Am
open Go Go.Proofs Go.RowKit Go.Sort

inductive F2 {α β : Type} (R : α → β → Prop) : List α → List β → Prop
  | nil : F2 R [] []
  | cons {a b l m} (h : R a b) (t : F2 R l m) : F2 R (a :: l) (b :: m)
theorem F2.len {α β : Type} {R : α → β → Prop} {l : List α} {m : List β} (h : F2 R l m) : l.length = m.length := by
  induction h with
  | nil => rfl
  | cons _ _ ih => simp [ih]
theorem F2.imp {α β : Type} {R R' : α → β → Prop} (hi : ∀ a b, R a b → R' a b) {l : List α} {m : List β} (h : F2 R l m) : F2 R' l m := by
  induction h with
  | nil => exact .nil
  | cons h _ ih => exact .cons (hi _ _ h) ih

def RV (φ : Phi) (S : Sea) (w : World) (v : AV) (x : V4) : Prop := okV v = true ∧ VR φ S w v (.agg (encV x).toArray)

section
variable {φ : Phi} {S : Sea} {w : World}
theorem RV.name {v : AV} {x : V4} (h : RV φ S w v x) : vnm v = nmV x := by
  obtain ⟨h1, h2⟩ := h
  unfold okV at h1
  split at h1
  · rename_i s v f o
    obtain ⟨vs, e, hn, hr⟩ := h2.agg_inv
    cases e
    have h0 := hr 0 (by simp)
    obtain ⟨t, e, hb⟩ := (show VR φ S w (.str s) (.string x.1) from h0).str_inv
    cases e
    exact hb.symm
  · cases h1
theorem RV.ins {v : AV} {x : V4} (h : RV φ S w v x) : ∀ {l : List AV} {m : List V4}, F2 (RV φ S w) l m → F2 (RV φ S w) (insV v l) (insB (ltOf cfV) x m)
  | _, _, .nil => .cons h .nil
  | _, _, .cons (a := u) (b := y) (l := r) (m := q) hu t => by
    show F2 (RV φ S w) (bif llt (vnm v) (vnm u) then v :: u :: r else u :: insV v r) (if ltOf cfV x y then x :: y :: q else y :: insB (ltOf cfV) x q)
    rw [ltV, ← h.name, ← hu.name]
    cases llt (vnm v) (vnm u) with
    | true => exact .cons h (.cons hu t)
    | false => exact .cons hu (h.ins t)
theorem RV.sort : ∀ {l : List AV} {m : List V4}, F2 (RV φ S w) l m → F2 (RV φ S w) (sortV l) (sortB (ltOf cfV) m)
  | _, _, .nil => .nil
  | _, _, .cons h t => h.ins (RV.sort t)
theorem RV.mono {φ' : Phi} {S' : Sea} {w' : World} (hx : Ext φ S w φ' S' w') {v : AV} {x : V4} (h : RV φ S w v x) : RV φ' S' w' v x := ⟨h.1, h.2.ext hx⟩
/-- its cells -/
theorem flatV_get : ∀ {l : List AV} {m : List V4}, F2 (RV φ S w) l m → (flatV l).length = m.length * 4 ∧ ∀ i (hi : i < m.length) k (hk : k < 4), ∃ u, (encV m[i])[k]? = some u ∧ VR φ S w ((flatV l).getD (i * 4 + k) .bot) u
  | _, _, .nil => ⟨rfl, fun i hi => absurd hi (by simp)⟩
  | _, _, .cons (a := v) (b := x) (l := r) (m := q) h t => by
    obtain ⟨h1, h2⟩ := h
    unfold okV at h1
    split at h1
    · rename_i s v f o
      obtain ⟨vs, e, hn, hr⟩ := h2.agg_inv
      cases e
      obtain ⟨i1, i2⟩ := flatV_get t
      have e : flatV (.agg [.str s, v, f, o] :: r) = .str s :: v :: f :: o :: flatV r := rfl
      refine ⟨by rw [e]; simp [i1]; omega, fun i hi k hk => ?_⟩
      rw [e]
      cases i with
      | zero =>
        have := hr k hk
        match k, hk with
        | 0, _ => exact ⟨_, rfl, this⟩
        | 1, _ => exact ⟨_, rfl, this⟩
        | 2, _ => exact ⟨_, rfl, this⟩
        | 3, _ => exact ⟨_, rfl, this⟩
      | succ i =>
        obtain ⟨u, u1, u2⟩ := i2 i (by simpa using hi) k hk
        refine ⟨u, u1, ?_⟩
        have : (i + 1) * 4 + k = (i * 4 + k) + 1 + 1 + 1 + 1 := by omega
        rw [this]
        simpa using u2
    · cases h1
end

theorem memN_false {n : Nat} {l : List (AV × AV × Nat)} (h : memN n l = false) : ∀ e ∈ l, e.2.2 ≠ n := by
  induction l with
  | nil => simp
  | cons a l ih =>
    have h : (Nat.beq a.2.2 n || memN n l) = false := h
    simp only [Bool.or_eq_false_iff] at h
    intro e he
    rcases List.mem_cons.1 he with rfl | he
    · intro hh; rw [hh, Nat.beq_refl] at h; exact absurd h.1 (by decide)
    · exact ih h.2 e he
theorem bornsB_ok {clk : Nat} {l : List (AV × AV × Nat)} (h : bornsB clk l = true) : (∀ e ∈ l, e.2.2 < clk) ∧ (l.map (·.2.2)).Nodup := by
  induction l with
  | nil => exact ⟨by simp, List.nodup_nil⟩
  | cons a l ih =>
    have h : (Nat.blt a.2.2 clk && !memN a.2.2 l && bornsB clk l) = true := h
    simp only [Bool.and_eq_true, Bool.not_eq_true', Nat.blt_eq] at h
    obtain ⟨⟨h1, h2⟩, h3⟩ := h
    obtain ⟨i1, i2⟩ := ih h3
    refine ⟨fun e he => ?_, ?_⟩
    · rcases List.mem_cons.1 he with rfl | he
      · exact h1
      · exact i1 e he
    · rw [List.map_cons, List.nodup_cons]
      exact ⟨fun hm => by obtain ⟨e, he, hh⟩ := List.mem_map.1 hm; exact memN_false h2 e he hh, i2⟩
theorem memS_false {s : List Nat} {l : List (AV × AV × Nat)} (h : memS s l = false) : ∀ e ∈ l, vnm e.2.1 ≠ s := by
  induction l with
  | nil => simp
  | cons a l ih =>
    have h : (leq (vnm a.2.1) s || memS s l) = false := h
    simp only [Bool.or_eq_false_iff] at h
    intro e he
    rcases List.mem_cons.1 he with rfl | he
    · intro hh; rw [leq_eq] at h; simp [hh] at h
    · exact ih h.2 e he
theorem namesB_ok {l : List (AV × AV × Nat)} (h : namesB l = true) : (∀ e ∈ l, okV e.2.1 = true) ∧ (l.map (fun e => vnm e.2.1)).Nodup := by
  induction l with
  | nil => exact ⟨by simp, List.nodup_nil⟩
  | cons a l ih =>
    have h : (okV a.2.1 && !memS (vnm a.2.1) l && namesB l) = true := h
    simp only [Bool.and_eq_true, Bool.not_eq_true'] at h
    obtain ⟨⟨h1, h2⟩, h3⟩ := h
    obtain ⟨i1, i2⟩ := ih h3
    refine ⟨fun e he => ?_, ?_⟩
    · rcases List.mem_cons.1 he with rfl | he
      · exact h1
      · exact i1 e he
    · rw [List.map_cons, List.nodup_cons]
      exact ⟨fun hm => by obtain ⟨e, he, hh⟩ := List.mem_map.1 hm; exact memS_false h2 e he hh, i2⟩

def decV (e : MapEntry) : V4 :=
  match e.val with
  | .agg cs => (match cs.toList with | [.string a, .string b, .int _ f, .int _ o] => (a, b, f, o) | _ => (⟨#[]⟩, ⟨#[]⟩, 0, 0))
  | _ => (⟨#[]⟩, ⟨#[]⟩, 0, 0)

theorem decV_ok {φ : Phi} {S : Sea} {w : World} {v : AV} {e : MapEntry} (h1 : okV v = true) (h2 : VR φ S w v e.val) : e.val = .agg (encV (decV e)).toArray ∧ RV φ S w v (decV e) := by
  have key : e.val = .agg (encV (decV e)).toArray := by
    have h1' := h1
    unfold okV at h1'
    split at h1'
    · rename_i s a f o
      simp only [Bool.and_eq_true] at h1'
      obtain ⟨⟨ha, hf⟩, ho⟩ := h1'
      obtain ⟨vs, ev, hn, hr⟩ := h2.agg_inv
      have c0 := hr 0 (by simp)
      have c1 := hr 1 (by simp)
      have c2 := hr 2 (by simp)
      have c3 := hr 3 (by simp)
      simp only [List.getD_cons_zero, List.getD_cons_succ] at c0 c1 c2 c3
      obtain ⟨b0, e0, _⟩ := c0.str_inv
      obtain ⟨b1, e1⟩ : ∃ b1, vs.getD 1 undef = .string b1 := by
        generalize vs.getD 1 undef = q at c1
        unfold okS at ha
        split at ha
        · obtain ⟨b, e, _⟩ := c1.str_inv; exact ⟨b, e⟩
        · obtain ⟨b, e, _⟩ := c1.strb_inv; exact ⟨b, e⟩
        · cases ha
      have num : ∀ {y : AV} {q : Value}, okI y = true → VR φ S w y q → ∃ n, q = .int .i64 n := by
        intro y q hy hv
        unfold okI at hy
        split at hy
        · exact ⟨_, hv.int_inv⟩
        · exact ⟨_, hv.nb_inv.1⟩
        · cases hy
      obtain ⟨n2, e2⟩ := num hf c2
      obtain ⟨n3, e3⟩ := num ho c3
      have hn4 : vs.size = 4 := hn
      have hvs : vs = #[.string b0, .string b1, .int .i64 n2, .int .i64 n3] := by
        apply Array.ext
        · simpa using hn4
        · intro i i1 i2
          have : i = 0 ∨ i = 1 ∨ i = 2 ∨ i = 3 := by omega
          rcases this with rfl | rfl | rfl | rfl
          · simpa [Array.getD, hn4] using e0
          · simpa [Array.getD, hn4] using e1
          · simpa [Array.getD, hn4] using e2
          · simpa [Array.getD, hn4] using e3
      subst hvs
      have : decV e = (b0, b1, n2, n3) := by unfold decV; rw [ev]
      rw [this, ev]; rfl
    · cases h1'
  exact ⟨key, h1, by rw [← key]; exact h2⟩

/-- an object that a call has made is taken up -/
theorem Cpl.adopt {φ : Phi} {S : Sea} {h : Heap} {w w' : World} (hc : Cpl φ S h w') (hphi : ∀ id b x y, φ id = some (b, x, y) → b < w.heap.size) (hsea : ∀ b, S b → b < w.heap.size) {g tot : Nat} (hg : w.heap.size ≤ g) (hg' : g < w'.heap.size) (o : AObj)
    (ho : ORel φ S w' o g 0 tot) : Cpl (φ.add h.next (g, 0, tot)) S (h.new o) w' := by
  have hf : φ h.next = none := hc.fresh _ (Nat.le_refl _)
  have hxp : ∀ i x, φ i = some x → (φ.add h.next (g, 0, tot)) i = some x := fun i x hh => Phi.add_of hf hh
  have hlive : ∀ i, (h.new o).get i ≠ .dead → (i = h.next ∧ (h.new o).get i = o) ∨ (i ≠ h.next ∧ (h.new o).get i = h.get i) := by
    intro i hi
    rcases Heap.get_new h o i with hg | hg
    · by_cases he : i = h.next
      · exact .inl ⟨he, by rw [hg]; simp [he]⟩
      · exact .inr ⟨he, by rw [hg]; simp [he]⟩
    · exact absurd hg hi
  refine ⟨?_, ?_, hc.sea, hc.gl, ?_, ?_⟩
  · intro i hi
    rcases hlive i hi with ⟨rfl, e⟩ | ⟨hne, e⟩
    · refine ⟨_, _, _, Phi.add_same _ _ _, fun hS => absurd (hsea _ hS) (by omega), ?_⟩
      rw [e]; exact ho.mono hxp (fun _ h => h) (fun _ _ => rfl) rfl
    · rw [e] at hi ⊢
      obtain ⟨b, x, t, h1, h2, h3⟩ := hc.obj i hi
      exact ⟨b, x, t, hxp _ _ h1, h2, h3.mono hxp (fun _ h => h) (fun _ _ => rfl) rfl⟩
  · intro i j b x y x' y' hi hj h1 h2
    rcases hlive i hi with ⟨rfl, e⟩ | ⟨hne, e⟩ <;> rcases hlive j hj with ⟨rfl, e'⟩ | ⟨hne', e'⟩
    · rfl
    · rw [Phi.add_same] at h1; cases h1
      simp only [Phi.add, hne', if_false] at h2
      exact absurd (hphi _ _ _ _ h2) (by omega)
    · rw [Phi.add_same] at h2; cases h2
      simp only [Phi.add, hne, if_false] at h1
      exact absurd (hphi _ _ _ _ h1) (by omega)
    · simp only [Phi.add, hne, hne', if_false] at h1 h2
      exact hc.inj i j b x y x' y' (e ▸ hi) (e' ▸ hj) h1 h2
  · intro i b x y hi
    unfold Phi.add at hi
    split at hi
    · cases hi; exact hg'
    · exact hc.phi _ _ _ _ hi
  · intro i hi
    have hi' : h.next + 1 ≤ i := hi
    have : i ≠ h.next := by omega
    simp only [Phi.add, this, if_false]
    exact hc.fresh i (by omega)

/-- what lies below is as it was -/
theorem Ext.below {φ : Phi} {S : Sea} {h : Heap} {w w' : World} (hc : Cpl φ S h w) (hb : Below w.heap.size w w') : Ext φ S w φ S w' :=
  ⟨fun _ _ h => h, fun _ h => h, fun b hb' => hb.block b (hc.sea b hb'), fun b hb' _ => hb.block b hb', hb.size, fun _ h => .inl h, fun id x h => .inl ⟨id, x, h, rfl⟩, hb.os, hb.output⟩
end Go.Am
namespace Go.Am
open Go Go.Proofs Go.RowKit Go.Sort
section
variable {φ : Phi} {S : Sea} {w : World}
theorem f2_vals : ∀ (es : List (AV × AV × Nat)) (ces : List MapEntry), ces.length = es.length → (∀ i, i < es.length → VR φ S w (es.getD i (.bot, .bot, 0)).2.1 (ces.getD i default).val) → (∀ e ∈ es, okV e.2.1 = true) →
    F2 (RV φ S w) (valsM es) (ces.map decV)
  | [], [], _, _, _ => .nil
  | e :: es, c :: ces, hn, hv, hk => .cons (decV_ok (hk e (List.mem_cons_self ..)) (by have := hv 0 (by simp); simpa using this)).2
      (f2_vals es ces (by simpa using hn) (fun i hi => by have := hv (i + 1) (by simpa using hi); simpa using this) (fun x hx => hk x (List.mem_cons_of_mem _ hx)))
  | [], _ :: _, hn, _, _ => by simp at hn
  | _ :: _, [], hn, _, _ => by simp at hn
theorem f2_names {l : List AV} {m : List V4} (h : F2 (RV φ S w) l m) : l.map vnm = m.map nmV := by
  induction h with
  | nil => rfl
  | cons h _ ih => simp [h.name, ih]
theorem valsM_names (es : List (AV × AV × Nat)) : (valsM es).map vnm = es.map (fun e => vnm e.2.1) := by
  induction es with
  | nil => rfl
  | cons e es ih => show vnm e.2.1 :: (valsM es).map vnm = _; rw [ih]; rfl
theorem valsM_len (es : List (AV × AV × Nat)) : (valsM es).length = es.length := by
  induction es with
  | nil => rfl
  | cons e es ih => show (valsM es).length + 1 = _; rw [ih]; rfl
end

set_option maxHeartbeats 1000000 in
theorem gAll_ok' (hent : Ent Tryz.prog 23) (hsort : SortC Tryz.prog 43 44) (hnil : SortN Tryz.prog 43 44) : ∀ args h r h', gAll 54 args h = some (r, h') → CallOk Tryz.prog 23 args h r h' := by
  intro args h r h' he
  refine ⟨hent, fun φ S w vs hc hv => ?_⟩
  unfold gAll at he
  split at he
  · rename_i id off
    simp only [obind_some, ogrd_some] at he
    obtain ⟨cs, hcs, v, hv', m, hm, p, hp, hlen, hbo, hna, he⟩ := he
    have hlen := Nat.le_of_ble_eq_true hlen
    rw [llen_eq] at hlen
    rw [lget_eq] at hv'
    have hob := oCells_some hcs
    have hom := oMp_some hp
    obtain ⟨hn, hr⟩ := hv
    have h0 := hr 0 (by simp)
    simp only [List.getD_cons_zero] at h0
    obtain ⟨b, base, tot, hφ, hvp⟩ := h0.ptr_inv
    rw [arr1 hn undef, hvp]
    -- the cell
    obtain ⟨b', base', tot', hφ', hnS, hor⟩ := hc.obj id (by rw [hob]; simp)
    rw [hφ] at hφ'; cases hφ'
    rw [hob] at hor
    obtain ⟨c, e, fr, hb, _, hfr, hsz, hcl, hrel⟩ := hor
    have hoff : off < cs.length := by
      rcases Nat.lt_or_ge off cs.length with h' | h'
      · exact h'
      · rw [List.getElem?_eq_none h'] at hv'; cases hv'
    have h1 := hrel off hoff
    have e1 : cs.getD off .bot = v := by simp [List.getD, hv']
    rw [e1, asMp_some hm] at h1
    obtain ⟨bm, totm, hφm, hcm⟩ := h1.mp_inv
    have hcell : w.cell? ⟨b, base + off, none⟩ = some (.map (some bm)) := by
      have : base + off < c.size := by omega
      rw [← hcm]
      simp [World.cell?, hb, Array.getD, this]
    -- the map
    obtain ⟨b2, base2, tot2, hφ2, hnS2, hor2⟩ := hc.obj m (by rw [hom]; simp)
    rw [hφm] at hφ2; cases hφ2
    rw [hom] at hor2
    obtain ⟨_, ces, hbm, hcn, hk, hval, hborn⟩ := hor2
    obtain ⟨ok1, ok2⟩ := namesB_ok hna
    obtain ⟨bo1, bo2⟩ := bornsB_ok hbo
    have hcn' : ces.toList.length = p.1.length := by simpa using hcn
    have hgd : ∀ i, i < p.1.length → ces.getD i default = ces.toList.getD i default := fun i hi => by
      have : i < ces.size := by omega
      simp [Array.getD, this, List.getD]
    have hF := f2_vals (φ := φ) (S := S) (w := w) p.1 ces.toList hcn' (fun i hi => by rw [← hgd i hi]; exact hval i hi) ok1
    have hborns : ces.toList.map (·.born) = p.1.map (·.2.2) := by
      apply List.ext_getElem
      · simp [hcn']
      · intro i i1 i2
        have hi : i < p.1.length := by simpa using i2
        have := hborn i hi
        have hi2 : i < ces.size := by omega
        simp only [List.getElem_map]
        simpa [Array.getD, hi2, List.getD, hi] using this.symm
    have hst : (∀ x ∈ ces.toList, x.born < p.2) ∧ (ces.toList.map (·.born)).Nodup := by
      refine ⟨fun x hx => ?_, by rw [hborns]; exact bo2⟩
      have : x.born ∈ p.1.map (·.2.2) := by rw [← hborns]; exact List.mem_map.2 ⟨x, hx, rfl⟩
      obtain ⟨e, he, hh⟩ := List.mem_map.1 this
      rw [← hh]; exact bo1 e he
    have hdec : ∀ e ∈ ces.toList, e.val = .agg (encV (decV e)).toArray := fun e he => by
      obtain ⟨i, hi, rfl⟩ := List.mem_iff_getElem.1 he
      have hi' : i < p.1.length := by omega
      have hv1 := hval i hi'
      rw [hgd i hi'] at hv1
      have hi3 : i < ces.size := by omega
      have e2 : ces.toList.getD i default = ces.toList[i] := by simp [List.getD, hi3]
      rw [e2] at hv1
      exact (decV_ok (ok1 _ (by simp [List.getD, hi'])) hv1).1
    refine (all_walk b (base + off) bm ces p.2 decV w hcell hbm hst hdec (by omega) hsort hnil).mono fun e' w' ⟨hbel, hpost⟩ => ?_
    have hx := Ext.below hc hbel
    have hcq := hc.quiet hx hbel.block (fun b hb => Nat.lt_of_lt_of_le (hc.sea b hb) hbel.size) (fun b hb => .inl hb)
    have hll : (ces.toList.map decV).length = p.1.length := by simp [hcn']
    rcases hpost with ⟨hd, rfl⟩ | ⟨g, cap, cur, d, hdne, hperm, hsorted, rfl, hge, hg, hdc, hcs', hcells⟩
    · have : p.1 = [] := List.eq_nil_of_length_eq_zero (by rw [← hll, hd]; rfl)
      rw [this] at he
      cases he
      exact ⟨φ, S, hx, hcq, _, rfl, .nils⟩
    · split at he
      · rename_i hnil'
        have : d.length = 0 := by rw [hperm.length_eq, hll, hnil']; rfl
        exact absurd (List.eq_nil_of_length_eq_zero this) hdne
      · rename_i e0 er hne
        cases he
        -- the sorted list is the sorted list
        have hds : d = sortB (ltOf cfV) (ces.toList.map decV) := by
          refine sorted_one _ nmV ltV _ _ ?_ (hperm.trans (sortB_perm _ _).symm) hsorted (sortB_sorted _ swoV _)
          have : (d.map nmV).Perm ((ces.toList.map decV).map nmV) := hperm.map _
          refine this.nodup_iff.2 ?_
          rw [← f2_names hF, valsM_names]; exact ok2
        have hS := RV.sort hF
        rw [← hds] at hS
        have hdl : d.length = p.1.length := hperm.length_eq.trans hll
        have hgl : g < w'.heap.size := (Array.getElem?_eq_some_iff.1 hg).1
        obtain ⟨fl1, fl2⟩ := flatV_get hS
        have hor3 : ORel φ S w' (.cells (.arr 54) (flatV (sortV (valsM p.1)))) g 0 (cap * 4) := by
          refine ⟨cur, 54, (0, 0), hg, ⟨rfl, rfl⟩, fun i _ hh => by simp at hh, by omega, by rw [fl1]; omega, fun i hi => ?_⟩
          rw [fl1] at hi
          have hi1 : i / 4 < d.length := by omega
          obtain ⟨u, u1, u2⟩ := fl2 (i / 4) hi1 (i % 4) (Nat.mod_lt _ (by decide))
          have hcu := hcells (i / 4) hi1 (i % 4) (Nat.mod_lt _ (by decide))
          have e3 : i / 4 * 4 + i % 4 = i := by omega
          rw [e3] at u2 hcu
          rw [Nat.zero_add]
          have : cur.getD i undef = u := by
            rw [u1] at hcu
            obtain ⟨q1, q2⟩ := Array.getElem?_eq_some_iff.1 hcu
            simp [Array.getD, q1, q2]
          rw [this]
          exact u2.ext hx
        have hf : φ h.next = none := hc.fresh _ (Nat.le_refl _)
        have hx2 : Ext φ S w (φ.add h.next (g, 0, cap * 4)) S w' :=
          ⟨fun i x hh => Phi.add_of hf hh, fun _ hh => hh, hx.keep, hx.foot, hx.size, fun _ hh => .inl hh, fun i x hi => by
            rcases Phi.add_inv hi with hh | ⟨_, rfl⟩
            · exact .inl ⟨i, x, hh, rfl⟩
            · exact .inr hge, hx.os, hx.out⟩
        refine ⟨_, S, hx2, Cpl.adopt hcq hc.phi hc.sea hge hgl _ hor3, _, rfl, ?_⟩
        rw [llen_eq, ← hdl]
        exact .os _ 0 _ 4 _ g 0 (cap * 4) cap (Phi.add_same _ _ _) (fun c hh => by cases hh) hdc (by omega)
  · cases he
end Go.Am
namespace Go.Am
open Go Go.Proofs Go.RowKit Go.Sort Go.Lib Go.Shelf
set_option maxHeartbeats 1000000 in
theorem closure44 (x y : V4) (W : World) : Calls Tryz.prog 44 (#[.agg (encV x).toArray, .agg (encV y).toArray] ++ #[]) W fun e w' => e = .returned (.int .i64 (cfV x y)) ∧ ∃ q os', w' = grow (W.drewN q) os' := by
  obtain ⟨xn, xv, xf, xo⟩ := x
  obtain ⟨yn, yv, yf, yo⟩ := y
  show Calls Tryz.prog 44 #[.agg #[.string xn, .string xv, .int .i64 xf, .int .i64 xo], .agg #[.string yn, .string yv, .int .i64 yf, .int .i64 yo]] W _
  have hcon := fun W' => Tryz.strings_Compare xn yn W'
  show Calls Tryz.prog 44 _ W fun e w' => e = .returned (.int .i64 (Lib.compareBytes xn.data.toList yn.data.toList)) ∧ _
  generalize Lib.compareBytes xn.data.toList yn.data.toList = r at hcon ⊢
  go_enter Tryz.func44, Tryz.ntmps44
  go_wp2_with (go_at_call 45; refine (hcon _).mono ?_; rintro e w' ⟨rfl, rfl⟩)
  go_ret
  exact ⟨rfl, 0, _, by rw [alloc_eq_grow, alloc_eq_grow, grow_grow]; rfl⟩

theorem sortC : SortC Tryz.prog 43 44 := by
  intro g cap d W hH hg hd
  have eg : ∀ args w, (callFunc 44 args).run Tryz.prog w = .ok (.enter 44 args) w := enters_of Tryz.func44 (by kernel_rfl) rfl
  have hcon := AnyQ.slices_SortFunc Tryz.sortV 4 Tryz.isAgg54 Tryz.sizeOf54 encV (fun _ => rfl) (fun x v hv => by simp [encV] at hv; rcases hv with rfl | rfl | rfl | rfl <;> rfl) cfV swoV 44 #[] g 0 cap d.toArray W eg
    (fun m os dk hdk x y => closure44 x y _) hH hg (by simp; omega)
  have e : d.toArray.size = d.length := List.size_toArray
  rw [e] at hcon
  exact hcon
end Go.Am
namespace Go.Am
open Go Go.Proofs Go.RowKit
set_option maxHeartbeats 1000000 in
set_option maxRecDepth 100000 in
theorem ins_nil (W : World) : Calls Tryz.prog 143 #[.slice none 0 0, .int .i64 0, .int .i64 0, .func (.func 44) #[] #[]] W fun e w' => e = .returned (.tuple #[]) ∧ w' = W := by
  go_enter Tryz.func143, Tryz.ntmps143
  go_wp2
  refine wp_loop_rounds 1 ?_
  rw [rounds_succ]
  go_wp2
  go_end0
  exact ⟨rfl, rfl⟩
set_option maxHeartbeats 1000000 in
set_option maxRecDepth 100000 in
theorem pdq_nil (W : World) (l : Int) : Calls Tryz.prog 85 #[.slice none 0 0, .int .i64 0, .int .i64 0, .int .i64 l, .func (.func 44) #[] #[]] W fun e w' => e = .returned (.tuple #[]) ∧ w' = W := by
  go_enter Tryz.func85, Tryz.ntmps85
  go_wp2
  refine wp_loop_rounds 1 ?_
  rw [rounds_succ]
  go_wp2_with (go_at_call 143; refine (ins_nil _).mono ?_; rintro e w' ⟨rfl, rfl⟩)
  (try simp only [Exit.inBlock, Exit.then]); refine bodyPost_ret (results_none rfl _ _ _) rfl ?_
  exact ⟨rfl, rfl⟩
set_option maxHeartbeats 1000000 in
set_option maxRecDepth 100000 in
theorem sortN : SortN Tryz.prog 43 44 := by
  intro W
  have hb := Any.bits_Len Tryz.lays125 0 W (by omega) (by omega)
  change Calls Tryz.prog 86 _ _ _ at hb
  go_enter Tryz.func43, Tryz.ntmps43
  go_wp2_with (first | (go_at_call 86; refine hb.mono ?_; rintro e w' ⟨rfl, rfl⟩) | (go_at_call 85; refine (pdq_nil _ _).mono ?_; rintro e w' ⟨rfl, rfl⟩))
  go_end0
  exact ⟨rfl, Below.refl _ _⟩
end Go.Am
namespace Go.Am
open Go Go.Proofs Go.RowKit

theorem idxF_eq (c : UInt8) : ∀ (l : List UInt8) (i : Nat), idxF c.toNat (l.map UInt8.toNat) i = .int .i64 (if Lib.indexByte l c = -1 then -1 else Lib.indexByte l c + i) := by
  intro l
  induction l with
  | nil => intro i; rfl
  | cons b l ih =>
    intro i
    show (Bool.rec (idxF c.toNat (l.map UInt8.toNat) (Nat.add i 1)) (.int .i64 (.ofNat i)) (Nat.beq b.toNat c.toNat) : AV) = _
    have hge := Lib.indexByte_ge l c
    by_cases e : b = c
    · subst e
      have h1 : Nat.beq b.toNat b.toNat = true := Nat.beq_refl _
      rw [h1]
      have h2 : Lib.indexByte (b :: l) b = 0 := by simp [Lib.indexByte]
      rw [h2]
      simp
    · have h1 : Nat.beq b.toNat c.toNat = false := by
        cases h : Nat.beq b.toNat c.toNat with
        | false => rfl
        | true => exact absurd (UInt8.toNat_inj.1 (Nat.eq_of_beq_eq_true h)) e
      rw [h1]
      show idxF c.toNat (l.map UInt8.toNat) (Nat.add i 1) = _
      rw [ih]
      have h2 : Lib.indexByte (b :: l) c = if Lib.indexByte l c = -1 then -1 else Lib.indexByte l c + 1 := by simp [Lib.indexByte, e]
      rw [h2]
      by_cases h3 : Lib.indexByte l c = -1
      · simp [h3]
      · have h4 : ¬ (Lib.indexByte l c + 1 = -1) := by omega
        simp only [h3, h4, if_false]
        congr 1
        show Lib.indexByte l c + ((i + 1 : Nat) : Int) = _
        omega

theorem entIX : Ent Tryz.prog 88 := ⟨Tryz.f88, _, Tryz.func88, rfl, by kernel_rfl⟩
theorem entJN : Ent Tryz.prog 61 := ⟨Tryz.f61, _, Tryz.func61, rfl, by kernel_rfl⟩
theorem entPL : Ent Tryz.prog 7 := ⟨Tryz.f7, _, Tryz.func7, rfl, by kernel_rfl⟩

theorem arr2 {α : Type} {vs : Array α} (h : vs.size = 2) (d : α) : vs = #[vs.getD 0 d, vs.getD 1 d] := by
  apply Array.ext
  · simp [h]
  · intro i h1 h2
    have : i = 0 ∨ i = 1 := by omega
    rcases this with rfl | rfl <;> simp [Array.getD, h]

theorem ret_same {S : Sea} {w : World} {r : AV} {cv : Value} {e : Ending} (hS : ∀ b, S b → b < w.heap.size) (he : e = .returned cv) (hv : VR Phi.no S w r cv) :
    ∃ S', Ext Phi.no S w Phi.no S' w ∧ (∀ b, S' b → b < w.heap.size) ∧ ResR Phi.no S' w (.ret r) e := ⟨S, Ext.refl _ _ _, hS, cv, he, hv⟩

theorem gIdx_ok : PurOk Tryz.prog 88 gIdx := by
  intro args r he
  refine ⟨entIX, fun S w vs hS hG hv => ?_⟩
  unfold gIdx at he
  split at he
  · rename_i s c
    rw [ogrd_some] at he
    obtain ⟨hc, he⟩ := he
    cases he
    obtain ⟨hn, hr⟩ := hv
    have h0 := hr 0 (by simp)
    have h1 := hr 1 (by simp)
    simp only [List.getD_cons_zero, List.getD_cons_succ] at h0 h1
    rw [arr2 hn undef]
    generalize vs.getD 0 undef = v0 at *
    generalize vs.getD 1 undef = v1 at *
    cases h0 with
    | str l bs hb =>
      cases h1 with
      | int k n =>
        refine (Tryz.stringslite_IndexByte bs (.ofNat c) w).mono fun e w' ⟨h1, h2⟩ => ?_
        subst h2
        refine ret_same hS h1 ?_
        have hc' : c < 256 := Nat.le_of_ble_eq_true hc
        have e1 : (Int.toNat (.ofNat c)).toUInt8.toNat = c := by simp; omega
        have e2 := idxF_eq (Int.toNat (.ofNat c)).toUInt8 bs.data.toList 0
        rw [e1, hb] at e2
        have hge := Lib.indexByte_ge bs.data.toList (Int.toNat (.ofNat c)).toUInt8
        rw [e2]
        have e3 : (if Lib.indexByte bs.data.toList (Int.toNat (.ofNat c)).toUInt8 = -1 then (-1 : Int) else Lib.indexByte bs.data.toList (Int.toNat (.ofNat c)).toUInt8 + ((0 : Nat) : Int)) = Lib.indexByte bs.data.toList (Int.toNat (.ofNat c)).toUInt8 := by split <;> omega
        rw [e3]
        exact .int _ _
  · cases he

theorem tmod_range (a : Int) (m : Nat) (hm : 0 < m) : -(m : Int) < a.tmod m ∧ a.tmod m < m := by
  have h1 := Int.natAbs_tmod a m
  have h2 := Nat.mod_lt a.natAbs hm
  simp only [Int.natAbs_natCast] at h1
  omega
set_option maxHeartbeats 400000 in
theorem place_any (a : Int) (m : Nat) (hm : 0 < m) (hb : m < 4611686018427387904) (w : World) :
    Calls Tryz.prog 7 #[.int .i64 a, .int .i64 m] w fun e w' => e = .returned (.int .i64 (if a.tmod m < 0 then a.tmod m + m else a.tmod m)) ∧ w' = w := by
  have hm' : (m : Int) ≠ 0 := by omega
  have hr := tmod_range a m hm
  go_enter Tryz.func7, Tryz.ntmps7
  go_wp2
  · rename_i h
    go_ret
    exact ⟨rfl, rfl⟩
  · rename_i h
    go_ret
    exact ⟨rfl, rfl⟩
theorem placeF_eq (a : Int) (m : Nat) : placeF a m = (if a.tmod (m : Int) < 0 then a.tmod (m : Int) + (m : Int) else a.tmod (m : Int)) := by
  unfold placeF placeF.ltB
  by_cases h : a.tmod (m : Int) < 0
  · rw [if_pos h]
    have : decide (Int.tmod a (.ofNat m) < 0) = true := decide_eq_true h
    rw [this]; rfl
  · rw [if_neg h]
    have : decide (Int.tmod a (.ofNat m) < 0) = false := decide_eq_false h
    rw [this]; rfl
theorem gPlace_ok : PurOk Tryz.prog 7 gPlace := by
  intro args r he
  refine ⟨entPL, fun S w vs hS hG hv => ?_⟩
  unfold gPlace at he
  split at he
  · rename_i l m
    rw [obind_some] at he
    obtain ⟨k, hk, he⟩ := he
    rw [ogrd_some] at he
    obtain ⟨hm, he⟩ := he
    cases he
    simp only [Bool.and_eq_true, Nat.blt_eq] at hm
    obtain ⟨hn, hr⟩ := hv
    have h0 := hr 0 (by simp)
    have h1 := hr 1 (by simp)
    simp only [List.getD_cons_zero, List.getD_cons_succ] at h0 h1
    rw [arr2 hn undef]
    generalize vs.getD 0 undef = v0 at *
    generalize vs.getD 1 undef = v1 at *
    cases h0 with
    | md l n hl =>
      cases h1 with
      | int k' n' =>
        refine (place_any n m hm.1 hm.2 w).mono fun e w' ⟨h1, h2⟩ => ?_
        subst h2
        refine ret_same hS h1 ?_
        have := hl _ (resK_mem hk)
        rw [placeF_eq] at this
        simp only at this
        rw [this]
        exact .int _ _
  · cases he

theorem placeF_lt (n : Int) (m : Nat) (hm : 0 < m) : ∃ k, k < m ∧ placeF n m = .ofNat k := by
  have hr := tmod_range n m hm
  rw [placeF_eq]
  split
  · exact ⟨(n.tmod m + m).toNat, by omega, by show _ = ((n.tmod m + m).toNat : Int); omega⟩
  · exact ⟨(n.tmod m).toNat, by omega, by show _ = ((n.tmod m).toNat : Int); omega⟩
theorem md_one {a : Int} {m k : Nat} (h : placeF a m = .ofNat k) : ∀ p ∈ [(m, k)], placeF a p.1 = .ofNat p.2 := fun p hp => by
  rw [List.mem_singleton] at hp; subst hp; exact h
theorem md_args {P : Program} {f : FuncId} {a b : Int} {l1 l2 : List (Nat × Nat)} {r : ARes} {h' : Heap} (hc : CallOk P f [.md l1, .md l2] Heap.empty r h') (h1 : ∀ p ∈ l1, placeF a p.1 = .ofNat p.2) (h2 : ∀ p ∈ l2, placeF b p.1 = .ofNat p.2) :
    CallOk P f [.int .i64 a, .int .i64 b] Heap.empty r h' :=
  ⟨hc.1, fun φ S w vs hC hv => hc.2 φ S w vs hC ⟨hv.1, fun i hi => by
    match i, hi with
    | 0, _ => have := hv.2 0 (by simp); simp only [List.getD_cons_zero] at this ⊢; rw [this.int_inv]; exact .md _ _ h1
    | 1, _ => have := hv.2 1 (by simp); simp only [List.getD_cons_succ, List.getD_cons_zero] at this ⊢; rw [this.int_inv]; exact .md _ _ h2⟩⟩
theorem md_arg {P : Program} {f : FuncId} {a : Int} {b : Bool} {l1 : List (Nat × Nat)} {r : ARes} {h' : Heap} (hc : CallOk P f [.md l1, .bool b] Heap.empty r h') (h1 : ∀ p ∈ l1, placeF a p.1 = .ofNat p.2) :
    CallOk P f [.int .i64 a, .bool b] Heap.empty r h' :=
  ⟨hc.1, fun φ S w vs hC hv => hc.2 φ S w vs hC ⟨hv.1, fun i hi => by
    match i, hi with
    | 0, _ => have := hv.2 0 (by simp); simp only [List.getD_cons_zero] at this ⊢; rw [this.int_inv]; exact .md _ _ h1
    | 1, _ => exact hv.2 1 (by simp)⟩⟩

theorem joinF_eq (sep : List UInt8) : ∀ (l : List AV) (xs : List (List UInt8)), l = xs.map (fun x => .str (x.map UInt8.toNat)) → joinF (sep.map UInt8.toNat) l = some ((Lib.join xs sep).map UInt8.toNat) := by
  intro l
  induction l with
  | nil => intro xs h; cases xs with
    | nil => rfl
    | cons x xs => cases h
  | cons a l ih =>
    intro xs h
    cases xs with
    | nil => cases h
    | cons x xs =>
      simp only [List.map_cons, List.cons.injEq] at h
      obtain ⟨rfl, h⟩ := h
      cases l with
      | nil =>
        cases xs with
        | nil => rw [Lib.join_one]; rfl
        | cons y ys => cases h
      | cons b l =>
        cases xs with
        | nil => cases h
        | cons y ys =>
          have e := ih (y :: ys) h
          show (obind (joinF (sep.map UInt8.toNat) (b :: l)) fun t => some (lapp (x.map UInt8.toNat) (lapp (sep.map UInt8.toNat) t))) = _
          rw [e]
          show some _ = _
          rw [lapp_eq, lapp_eq, ← List.map_append, ← List.map_append]
          congr 2

theorem strs_of (cs : List AV) (t : List Nat) (sep : List Nat) (h : joinF sep cs = some t) : ∀ a ∈ cs, ∃ s, a = .str s := by
  induction cs generalizing t with
  | nil => intro a ha; cases ha
  | cons b l ih =>
    intro a ha
    have h : (obind (asStr b) fun s => List.rec (motive := fun _ => Option (List Nat)) (some s) (fun _ _ _ => obind (joinF sep l) fun t => some (lapp s (lapp sep t))) l) = some t := h
    rw [obind_some] at h
    obtain ⟨s, hs, h⟩ := h
    have hb : b = .str s := by cases b <;> first | (cases hs; rfl) | (cases hs; done)
    rcases List.mem_cons.1 ha with rfl | ha
    · exact ⟨s, hb⟩
    · cases l with
      | nil => cases ha
      | cons c l =>
        have h : (obind (joinF sep (c :: l)) fun t => some (lapp s (lapp sep t))) = some t := h
        rw [obind_some] at h
        obtain ⟨t', ht, _⟩ := h
        exact ih t' ht a ha

theorem gJoin_ok : PurOk Tryz.prog 61 gJoin := by
  intro args r he
  refine ⟨entJN, fun S w vs hS hG hv => ?_⟩
  unfold gJoin at he
  split at he
  · cases he
    obtain ⟨hn, hr⟩ := hv
    have h0 := hr 0 (by simp)
    have h1 := hr 1 (by simp)
    simp only [List.getD_cons_zero, List.getD_cons_succ] at h0 h1
    rw [arr2 hn undef]
    generalize vs.getD 0 undef = v0 at *
    generalize vs.getD 1 undef = v1 at *
    cases h0 with
    | nils => cases h1 with
      | str l bs hb =>
        refine (Tryz.strings_Join_none none 0 bs w).mono fun e w' ⟨h1, h2⟩ => ?_
        subst h2
        exact ret_same hS h1 (.str _ _ rfl)
  · cases he
    obtain ⟨hn, hr⟩ := hv
    have h0 := hr 0 (by simp)
    have h1 := hr 1 (by simp)
    simp only [List.getD_cons_zero, List.getD_cons_succ] at h0 h1
    rw [arr2 hn undef]
    generalize vs.getD 0 undef = v0 at *
    generalize vs.getD 1 undef = v1 at *
    cases h0 with
    | es f p cap hf => cases h1 with
      | str l bs hb =>
        refine (Tryz.strings_Join_none (some p) cap bs w).mono fun e w' ⟨h1, h2⟩ => ?_
        subst h2
        exact ret_same hS h1 (.str _ _ rfl)
  · rename_i full len cs sep
    simp only [ogrd_some, obind_some, Option.some.injEq] at he
    obtain ⟨hlen, hl6, s, hs, hs6, rfl⟩ := he
    obtain ⟨hn, hr⟩ := hv
    have h0 := hr 0 (by simp)
    have h1 := hr 1 (by simp)
    simp only [List.getD_cons_zero, List.getD_cons_succ] at h0 h1
    rw [arr2 hn undef]
    generalize vs.getD 0 undef = v0 at *
    generalize vs.getD 1 undef = v1 at *
    obtain ⟨b, o, cap, cvs, rfl, hSb, hfl, hle, hcl, hrr⟩ := h0.ps_inv
    cases h1 with
    | str l bs hb =>
      have hlen := Nat.le_of_ble_eq_true hlen
      rw [llen_eq] at hlen
      have hl6 : len < 1000000 := Nat.le_of_ble_eq_true hl6
      have hs6 : llen s < 1000000 := Nat.le_of_ble_eq_true hs6
      rw [llen_eq] at hs6
      rw [ltake_eq] at hs
      have hall := strs_of _ _ _ hs
      -- the strings
      have hx : ∀ i, i < len → ∃ x : ByteArray, cvs i = .string x ∧ cs.getD i .bot = .str (x.data.toList.map UInt8.toNat) := by
        intro i hi
        have hi' : i < cs.length := by omega
        have h3 := hrr i hi'
        have hm : cs.getD i .bot ∈ cs.take len := by
          rw [List.mem_iff_getElem]
          exact ⟨i, by simp; omega, by simp [List.getD, hi']⟩
        obtain ⟨s', hs'⟩ := hall _ hm
        rw [hs'] at h3 ⊢
        generalize hcv : cvs i = cv at h3
        cases h3 with
        | str l x hx => exact ⟨x, rfl, by rw [hx]⟩
      let xs : List ByteArray := (List.range len).map fun i => if h : i < len then (hx i h).choose else ⟨#[]⟩
      have hxl : xs.length = len := by simp [xs]
      have hxi : ∀ i (hi : i < len), xs[i]? = some (hx i hi).choose := by
        intro i hi
        simp [xs, hi]
      have hcs : cs.take len = (xs.map (·.data.toList)).map (fun x => AV.str (x.map UInt8.toNat)) := by
        apply List.ext_getElem?
        intro i
        by_cases hi : i < len
        · rw [List.getElem?_take]
          simp only [hi, if_true, List.getElem?_map, hxi i hi, Option.map_some]
          rw [← (hx i hi).choose_spec.2]
          simp [List.getD, show i < cs.length by omega]
        · have e1 : (cs.take len)[i]? = none := by simp; omega
          have e2 : xs[i]? = none := by simp [hxl]; omega
          rw [e1]; simp [e2]
      have hj := joinF_eq bs.data.toList (cs.take len) (xs.map (·.data.toList)) hcs
      rw [hb, hs] at hj
      have hj := Option.some.inj hj
      have hjl : (Lib.join (xs.map (·.data.toList)) bs.data.toList).length = s.length := by rw [hj]; simp
      have hcall := Tryz.strings_Join b o cap xs bs w (fun j x hjx => by
        have hjl : j < len := by
          have := (List.getElem?_eq_some_iff.1 hjx).1
          omega
        rw [hxi j hjl] at hjx
        cases hjx
        exact (hcl j (by omega)).trans (congrArg some (hx j hjl).choose_spec.1)) (hS b hSb) (by omega) (by omega) (by omega)
      rw [hxl] at hcall
      refine hcall.mono fun e w' ⟨h1, h2⟩ => ?_
      have hx' : Ext Phi.no S w Phi.no S w' := ⟨fun _ _ h => h, fun _ h => h, fun b hb => h2.block b (hS b hb), fun b hb _ => h2.block b hb, h2.size, fun b hb => .inl hb, fun id x h => absurd h (by intro h; cases h), h2.os, h2.output⟩
      refine ⟨S, hx', fun b hb => Nat.lt_of_lt_of_le (hS b hb) h2.size, _, h1, ?_⟩
      exact .str _ _ (by rw [hj])
  · cases he
theorem gAll_ok : ∀ args h r h', gAll 54 args h = some (r, h') → CallOk Tryz.prog 23 args h r h' :=
  gAll_ok' ⟨Tryz.f23, _, Tryz.func23, rfl, by kernel_rfl⟩ sortC sortN
theorem gCopy_ok2 : ∀ args h r h', gCopy [(126, 2)] args h = some (r, h') → CallOk Tryz.prog 89 args h r h' :=
  gCopy_ok ⟨Tryz.f89, _, Tryz.func89, rfl, by kernel_rfl⟩ copy_fresh copy_used
theorem gBStr_ok2 : ∀ args h r h', gBStr 5 args h = some (r, h') → CallOk Tryz.prog 48 args h r h' :=
  gBStr_ok Tryz.lays169 Tryz.Builder_Extra_169 ⟨Tryz.f48, _, Tryz.func48, rfl, by kernel_rfl⟩ rfl
end Go.Am
namespace Go.Am
open Go Go.Proofs Go.RowKit
theorem entCN : Ent Tryz.prog 180 := ⟨Tryz.f180, _, Tryz.func180, rfl, by kernel_rfl⟩
theorem entI1 : Ent Tryz.prog 258 := ⟨Tryz.f258, _, Tryz.func258, rfl, by kernel_rfl⟩
theorem entTD : Ent Tryz.prog 343 := ⟨Tryz.f343, _, Tryz.func343, rfl, by kernel_rfl⟩
theorem one_byte {bs : ByteArray} {c : Nat} (h : bs.data.toList.map UInt8.toNat = [c]) : ∃ b : UInt8, bs = ⟨#[b]⟩ ∧ b.toNat = c := by
  obtain ⟨⟨l⟩⟩ := bs
  match l, h with
  | [b], h => exact ⟨b, rfl, by simpa using h⟩
theorem gCount_ok : PurOk Tryz.prog 180 gCount := by
  intro args r he
  refine ⟨entCN, fun S w vs hS hG hv => ?_⟩
  unfold gCount at he
  split at he
  · rename_i s c
    cases he
    obtain ⟨hn, hr⟩ := hv
    have h0 := hr 0 (by simp)
    have h1 := hr 1 (by simp)
    simp only [List.getD_cons_zero, List.getD_cons_succ] at h0 h1
    rw [arr2 hn undef]
    generalize vs.getD 0 undef = v0 at *
    generalize vs.getD 1 undef = v1 at *
    cases h0 with
    | str l bs hb =>
      cases h1 with
      | str l' bc hc =>
        obtain ⟨b, rfl, rfl⟩ := one_byte hc
        refine (Tryz.strings_Count_one bs b w).mono fun e w' ⟨h1, h2⟩ => ?_
        subst h2
        refine ret_same hS h1 ?_
        rw [← hb, cntL_eq]
        exact .int _ _
  · cases he
theorem gIndex1_ok : PurOk Tryz.prog 258 gIndex1 := by
  intro args r he
  refine ⟨entI1, fun S w vs hS hG hv => ?_⟩
  unfold gIndex1 at he
  split at he
  · rename_i s c
    cases he
    obtain ⟨hn, hr⟩ := hv
    have h0 := hr 0 (by simp)
    have h1 := hr 1 (by simp)
    simp only [List.getD_cons_zero, List.getD_cons_succ] at h0 h1
    rw [arr2 hn undef]
    generalize vs.getD 0 undef = v0 at *
    generalize vs.getD 1 undef = v1 at *
    cases h0 with
    | str l bs hb =>
      cases h1 with
      | str l' bc hc =>
        obtain ⟨b, rfl, rfl⟩ := one_byte hc
        refine (Tryz.stringslite_Index_one bs b w).mono fun e w' ⟨h1, h2⟩ => ?_
        subst h2
        refine ret_same hS h1 ?_
        have e2 := idxF_eq b bs.data.toList 0
        rw [hb] at e2
        have hge := Lib.indexByte_ge bs.data.toList b
        rw [e2]
        have e3 : (if Lib.indexByte bs.data.toList b = -1 then (-1 : Int) else Lib.indexByte bs.data.toList b + ((0 : Nat) : Int)) = Lib.indexByte bs.data.toList b := by split <;> omega
        rw [e3]
        exact .int _ _
  · cases he
theorem glob_err {S : Sea} {w : World} (hG : GOk S w) : w.cell? ⟨4, 0, none⟩ = some (.iface 445 (.agg #[.pointer (some ⟨9, 130, none⟩)])) := (hG (4, _) (List.mem_singleton.2 rfl)).2
theorem ext_below {S : Sea} {w w' : World} (hS : ∀ b, S b → b < w.heap.size) (h2 : Below w.heap.size w w') : Ext Phi.no S w Phi.no S w' :=
  ⟨fun _ _ h => h, fun _ h => h, fun b hb => h2.block b (hS b hb), fun b hb _ => h2.block b hb, h2.size, fun b hb => .inl hb, fun id x h => absurd h (by intro h; cases h), h2.os, h2.output⟩
theorem gTold_ok : PurOk Tryz.prog 343 (gTold 378) := by
  intro args r he
  refine ⟨entTD, fun S w vs hS hG hv => ?_⟩
  unfold gTold at he
  split at he
  · cases he
    obtain ⟨hn, hr⟩ := hv
    have h0 := hr 0 (by simp)
    simp only [List.getD_cons_zero] at h0
    rw [arr1 hn undef]
    generalize vs.getD 0 undef = v0 at *
    cases h0 with
    | nili =>
      refine (told_nil w).mono fun e w' ⟨h1, h2⟩ => ?_
      exact ⟨S, ext_below hS h2, fun b hb => Nat.lt_of_lt_of_le (hS b hb) h2.size, _, h1, .int _ _⟩
  · rename_i t n
    rw [ogrd_some] at he
    obtain ⟨ht, he⟩ := he
    cases he
    have ht := Nat.eq_of_beq_eq_true ht
    subst ht
    obtain ⟨hn, hr⟩ := hv
    have h0 := hr 0 (by simp)
    simp only [List.getD_cons_zero] at h0
    rw [arr1 hn undef]
    generalize vs.getD 0 undef = v0 at *
    cases h0 with
    | iface _ _ v hv =>
      obtain ⟨xs, rfl, hx⟩ := hv.agg_inv
      obtain ⟨hxn, hxr⟩ := hx
      have hx0 := hxr 0 (by simp)
      simp only [List.getD_cons_zero] at hx0
      rw [arr1 hxn undef, hx0.int_inv]
      refine (told_hit n w (glob_err hG)).mono fun e w' ⟨h1, h2⟩ => ?_
      exact ⟨S, ext_below hS h2, fun b hb => Nat.lt_of_lt_of_le (hS b hb) h2.size, _, h1, .int _ _⟩
  · cases he
end Go.Am
