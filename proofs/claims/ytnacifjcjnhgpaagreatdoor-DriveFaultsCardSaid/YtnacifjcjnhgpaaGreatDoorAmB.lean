import Derived.Test.YtnacifjcjnhgpaaGreatDoorAmA
import Derived.Laws.Entries
import Derived.ChangeKeysEq
import Derived.Laws.BytesString
import Derived.Laws.Strings
import Derived.Lib.ConvBytes
set_option linter.all false
namespace Go.Am
open Go

/- constants -/
def cvB : Nat → AV → Value → Bool
  | 0, _, _ => false
  | n + 1, a, v =>
    match a, v with
    | .bool a, .bool b => a == b
    | .int k a, .int k' b => decide (k = k') && decide (a = b)
    | .str l, .string s => decide (s.data.toList.map UInt8.toNat = l)
    | .nilp, .pointer none => true
    | .nils, .slice none 0 0 => true
    | .nilm, .map none => true
    | .fn f [] [], .func g va vc => decide (f = g) && va.size == 0 && vc.size == 0
    | .nilf, .nilFunc => true
    | .nili, .nilIface => true
    | .iface t x, .iface t' v => decide (t = t') && cvB n x v
    | .agg cs, .agg vs => vs.size == cs.length && (List.range cs.length).all fun i => cvB n (cs.getD i .bot) (vs.getD i undef)
    | .tup cs, .tuple vs => vs.size == cs.length && (List.range cs.length).all fun i => cvB n (cs.getD i .bot) (vs.getD i undef)
    | _, _ => false

theorem cvB_sound {φ : Phi} {S : Sea} {w : World} : ∀ (n : Nat) (a : AV) (v : Value), cvB n a v = true → VR φ S w a v := by
  intro n
  induction n with
  | zero => intro a v h; simp [cvB] at h
  | succ n ih =>
    intro a v h
    simp only [cvB] at h
    split at h
    · simp only [beq_iff_eq] at h; subst h; exact .bool _
    · simp only [Bool.and_eq_true, decide_eq_true_eq] at h; obtain ⟨rfl, rfl⟩ := h; exact .int _ _
    · simp only [decide_eq_true_eq] at h; exact .str _ _ h
    · exact .nilp
    · exact .nils
    · exact .nilm
    · simp only [Bool.and_eq_true, decide_eq_true_eq, beq_iff_eq] at h
      obtain ⟨⟨rfl, h1⟩, h2⟩ := h
      exact .fn _ _ _ _ _ h1 h2 (fun i hi => absurd hi (by simp)) (fun i hi => absurd hi (by simp))
    · exact .nilf
    · exact .nili
    · simp only [Bool.and_eq_true, decide_eq_true_eq] at h
      obtain ⟨rfl, h1⟩ := h
      exact .iface _ _ _ (ih _ _ h1)
    · simp only [Bool.and_eq_true, beq_iff_eq, List.all_eq_true, List.mem_range] at h
      exact .agg _ _ h.1 (fun i hi => ih _ _ (h.2 i hi))
    · simp only [Bool.and_eq_true, beq_iff_eq, List.all_eq_true, List.mem_range] at h
      exact .tup _ _ h.1 (fun i hi => ih _ _ (h.2 i hi))
    · cases h

def cellsB (cs : List AV) (vs : Array Value) : Bool := vs.size == cs.length && (List.range cs.length).all fun i => cvB 6 (cs.getD i .bot) (vs.getD i undef)
theorem cellsB_sound {φ : Phi} {S : Sea} {w : World} {cs : List AV} {vs : Array Value} (h : cellsB cs vs = true) : VRs φ S w cs vs := by
  simp only [cellsB, Bool.and_eq_true, beq_iff_eq, List.all_eq_true, List.mem_range] at h
  exact ⟨h.1, fun i hi => cvB_sound _ _ _ (h.2 i hi)⟩

def chkOpd : Opd → Operand → Bool
  | .t i, .tmp j => i == j
  | .c v, .const cv => cvB 6 v cv
  | .c v, .func f => cvB 6 v (.func (.func f) #[] #[])
  | _, _ => false
def chkOpds (l : List Opd) (a : Array Operand) : Bool := a.size == l.length && (List.range l.length).all fun i => chkOpd (l.getD i default) (a.getD i default)
def chkO (x : Option Opd) (o : Option Operand) : Bool :=
  match x, o with
  | none, none => true
  | some x, some o => chkOpd x o
  | _, _ => false

section
variable {φ : Phi} {S : Sea} {w : World} {F : Fr} {a : Act}
theorem chkOpd_sound {x : Opd} {o : Operand} (h : chkOpd x o = true) (hf : FRel φ S w F a.tmps) : VR φ S w (x.ev F) (a.eval o) := by
  unfold chkOpd at h
  split at h
  · simp only [beq_iff_eq] at h; subst h; exact hf _
  · exact cvB_sound _ _ _ h
  · exact cvB_sound _ _ _ h
  · cases h
theorem evs_eq (F : Fr) (l : List Opd) : evs F l = l.map (Opd.ev F) := by
  induction l with
  | nil => rfl
  | cons a l ih => exact congrArg (Opd.ev F a :: ·) ih
theorem chkOpds_sound {l : List Opd} {o : Array Operand} (h : chkOpds l o = true) (hf : FRel φ S w F a.tmps) : VRs φ S w (evs F l) (o.map a.eval) := by
  simp only [chkOpds, Bool.and_eq_true, beq_iff_eq, List.all_eq_true, List.mem_range] at h
  rw [evs_eq]
  refine ⟨by simp [h.1], fun i hi => ?_⟩
  simp only [List.length_map] at hi
  have hi' : i < o.size := by rw [h.1]; exact hi
  have := h.2 i hi
  have e1 : (l.map (Opd.ev F)).getD i .bot = Opd.ev F (l.getD i default) := by simp [List.getD, hi]
  have e2 : (o.map a.eval).getD i undef = a.eval (o.getD i default) := by simp [Array.getD, hi']
  rw [e1, e2]
  exact chkOpd_sound this hf
end

/- types -/
def szOk (P : Program) (t : TypeId) (n : Nat) : Bool := match P.info? t with | some i => i.size == n | none => false
def uOk (P : Program) (t : TypeId) : Bool := (P.underlying t).isSome
def isStrT (P : Program) (t : TypeId) : Bool := match P.underlying t with | some .string => true | _ => false
def isU8 (P : Program) (t : TypeId) : Bool := match P.underlying t with | some (.int .u8) => true | _ => false
def aggOk (P : Program) (t : TypeId) (b : Bool) : Bool :=
  match P.underlying t with
  | some (.struct _) => b
  | some (.array ..) => b
  | some _ => !b
  | none => false
def zeroOk (P : Program) (t : TypeId) (z : List AV) : Bool := match P.info? t with | some i => (match i.zero with | some v => cellsB z v.cells | none => false) | none => false
def zeroVOk (P : Program) (t : TypeId) (z : AV) : Bool := match P.info? t with | some i => (match i.zero with | some v => cvB 6 z v | none => false) | none => false
def sliceE (P : Program) (t : TypeId) : Option TypeId := match P.underlying t with | some (.slice e) => some e | _ => none
def arrE (P : Program) (t : TypeId) : Option (Nat × TypeId) := match P.underlying t with | some (.array n e) => some (n, e) | _ => none
def ptrE (P : Program) (t : TypeId) : Option TypeId := match P.underlying t with | some (.pointer e) => some e | _ => none
def mapE (P : Program) (t : TypeId) : Option (TypeId × TypeId) := match P.underlying t with | some (.map k e) => some (k, e) | _ => none
def structE (P : Program) (t : TypeId) : Option (Array Field) := match P.underlying t with | some (.struct fs) => some fs | _ => none
def keyOk (P : Program) (kk : Nat) (t : TypeId) : Bool :=
  match P.underlying t with
  | some .string => kk == 0
  | some (.int _) => kk == 1
  | some .bool => kk == 2
  | _ => false
def eqOk (P : Program) (k : Nat) (t : TypeId) : Bool :=
  match P.underlying t with
  | some .bool => k == 0
  | some (.pointer _) => k == 1
  | some (.slice _) => k == 2
  | some (.map ..) => k == 3
  | some (.func ..) => k == 4
  | some (.interface _) => k == 5
  | _ => false

section
variable {P : Program} {t : TypeId}
theorem szOk_run {n : Nat} (h : szOk P t n = true) (w : World) : (sizeOf t).run P w = .ok n w := by
  unfold szOk at h
  split at h
  · rename_i i hi
    simp only [beq_iff_eq] at h
    rw [run_sizeOf w hi, Program.cellsOf, hi]
    simp [h]
  · cases h
theorem isStrT_u (h : isStrT P t = true) : P.underlying t = some .string := by
  unfold isStrT at h; split at h
  · assumption
  · cases h
theorem isU8_u (h : isU8 P t = true) : P.underlying t = some (.int .u8) := by
  unfold isU8 at h; split at h
  · assumption
  · cases h
theorem sliceE_u {e : TypeId} (h : sliceE P t = some e) : P.underlying t = some (.slice e) := by
  unfold sliceE at h; split at h
  · cases h; assumption
  · cases h
theorem arrE_u {e : Nat × TypeId} (h : arrE P t = some e) : P.underlying t = some (.array e.1 e.2) := by
  unfold arrE at h; split at h
  · cases h; assumption
  · cases h
theorem ptrE_u {e : TypeId} (h : ptrE P t = some e) : P.underlying t = some (.pointer e) := by
  unfold ptrE at h; split at h
  · cases h; assumption
  · cases h
theorem mapE_u {e : TypeId × TypeId} (h : mapE P t = some e) : P.underlying t = some (.map e.1 e.2) := by
  unfold mapE at h; split at h
  · cases h; assumption
  · cases h
theorem structE_u {e : Array Field} (h : structE P t = some e) : P.underlying t = some (.struct e) := by
  unfold structE at h; split at h
  · cases h; assumption
  · cases h
theorem aggOk_run {b : Bool} (h : aggOk P t b = true) (w : World) : (isAgg t).run P w = .ok b w := by
  unfold aggOk at h
  split at h
  · rename_i u; simp [isAgg, run_underlying u, h]
  · rename_i u; simp [isAgg, run_underlying u, h]
  · rename_i d n1 n2 u
    simp only [Bool.not_eq_true'] at h
    subst h
    cases d <;> first | (exact (n1 _ rfl).elim) | (exact (n2 _ _ rfl).elim) | simp [isAgg, run_underlying u]
  · cases h
theorem zeroOk_run {z : List AV} (h : zeroOk P t z = true) (w : World) : ∃ v, (zeroValue t).run P w = .ok v w ∧ ∀ φ S w', VRs φ S w' z v.cells := by
  unfold zeroOk at h
  split at h
  · rename_i i hi
    split at h
    · rename_i v hv
      exact ⟨v, by simp [zeroValue, run_typeInfo w hi, hv], fun φ S w' => cellsB_sound h⟩
    · cases h
  · cases h
theorem zeroVOk_run {z : AV} (h : zeroVOk P t z = true) (w : World) : ∃ v, (zeroValue t).run P w = .ok v w ∧ ∀ φ S w', VR φ S w' z v := by
  unfold zeroVOk at h
  split at h
  · rename_i i hi
    split at h
    · rename_i v hv
      exact ⟨v, by simp [zeroValue, run_typeInfo w hi, hv], fun φ S w' => cvB_sound _ _ _ h⟩
    · cases h
  · cases h
end

/-- an operation is carried out -/
def OpOk (P : Program) (a : Act) (o : Oper) (w : World) (R : Value → World → Prop) : Prop :=
  ∃ cv w', ((execOp a.eval o).run P w = .ok (.value cv) w' ∨ ((execOp a.eval o).run P w = .ok .skip w' ∧ cv = undef)) ∧ R cv w'

/-- which numbers, which blocks an operation may touch -/
structure Exact (h : Heap) (φ : Phi) (w : World) (φ' : Phi) (h' : Heap) (w' : World) : Prop where
  low : ∀ id, φ' id = φ id ∨ (h.next ≤ id ∧ id < h'.next)
  foot : ∀ b, b < w.heap.size → (∀ id x, h.get id ≠ .dead → φ id = some x → x.1 ≠ b) → w'.heap[b]? = w.heap[b]?
  new : ∀ id x, φ' id = some x → φ id = some x ∨ w.heap.size ≤ x.1 ∨ ∃ id0 x0, h.get id0 ≠ .dead ∧ φ id0 = some x0 ∧ x0.1 = x.1

theorem Exact.refl (h : Heap) (φ : Phi) (w : World) (h' : Heap) : Exact h φ w φ h' w := ⟨fun _ => .inl rfl, fun _ _ _ => rfl, fun _ _ h => .inl h⟩
theorem Phi.add_inv {φ : Phi} {i id : Nat} {x y : Nat × Nat × Nat} (h : φ.add i x id = some y) : φ id = some y ∨ (id = i ∧ y = x) := by
  unfold Phi.add at h
  split at h
  · rename_i he; cases h; exact .inr ⟨he, rfl⟩
  · exact .inl h

theorem Exact.make (h : Heap) (φ : Phi) (w : World) (obj : Obj) (o : AObj) (x : Nat × Nat × Nat) (hx : x.1 = w.heap.size) : Exact h φ w (φ.add h.next x) (h.new o) (w.alloc obj) where
  low id := by
    by_cases he : id = h.next
    · exact .inr ⟨by omega, by show id < h.next + 1; omega⟩
    · exact .inl (by simp [Phi.add, he])
  foot b hb _ := heap_push _ _ _ hb
  new id y hy := by
    rcases Phi.add_inv hy with h | ⟨_, rfl⟩
    · exact .inl h
    · exact .inr (.inl (by omega))

theorem Exact.make' {w w' : World} (h : Heap) (φ : Phi) (obj : Obj) (o : AObj) (x : Nat × Nat × Nat) (hx : x.1 = w.heap.size) (hh : w'.heap = (w.alloc obj).heap) : Exact h φ w (φ.add h.next x) (h.new o) w' where
  low := (Exact.make h φ w obj o x hx).low
  new := (Exact.make h φ w obj o x hx).new
  foot b hb hn := by rw [hh]; exact heap_push _ _ _ hb

theorem Exact.write {h : Heap} {φ : Phi} {w w' : World} {id b base tot : Nat} (hid : φ id = some (b, base, tot)) (hl : h.get id ≠ .dead) (h' : Heap)
    (hb : ∀ b', b' ≠ b → w'.heap[b']? = w.heap[b']?) : Exact h φ w φ h' w' :=
  ⟨fun _ => .inl rfl, fun b' _ hn => hb b' fun e => hn id _ hl hid e.symm, fun _ _ h => .inl h⟩

theorem Exact.again {h : Heap} {φ : Phi} {w w' : World} {id b base tot : Nat} (hid : φ id = some (b, base, tot)) (hl : h.get id ≠ .dead) (o : AObj) (x : Nat × Nat × Nat) (hx : x.1 = b)
    (hb : ∀ b', b' ≠ b → w'.heap[b']? = w.heap[b']?) : Exact h φ w (φ.add h.next x) ((h.set id .dead).new o) w' where
  low i := by
    by_cases he : i = h.next
    · exact .inr ⟨by omega, by show i < h.next + 1; omega⟩
    · exact .inl (by simp [Phi.add, he])
  foot b' _ hn := hb b' fun e => hn id _ hl hid e.symm
  new i y hy := by
    rcases Phi.add_inv hy with h | ⟨_, rfl⟩
    · exact .inl h
    · exact .inr (.inr ⟨id, _, hl, hid, hx.symm⟩)

/-- what was made of a part of the heap -/
theorem Exact.part {h h0 : Heap} {φ : Phi} {w : World} {φ' : Phi} {h' : Heap} {w' : World} (he : Exact h0 φ w φ' h' w') (hn : h0.next = h.next) (hl : ∀ id, h0.get id ≠ .dead → h.get id ≠ .dead) :
    Exact h φ w φ' h' w' :=
  ⟨by rw [← hn]; exact he.low, fun b hb hx => he.foot b hb fun id x h1 h2 => hx id x (hl id h1) h2, fun id x hx =>
    (he.new id x hx).imp (fun h => h) (Or.imp (fun h => h) fun ⟨i, y, h1, h2, h3⟩ => ⟨i, y, hl i h1, h2, h3⟩)⟩

abbrev Good (h : Heap) (φ : Phi) (S : Sea) (w : World) (v : AV) (h' : Heap) : Value → World → Prop :=
  fun cv w' => ∃ φ', Ext φ S w φ' S w' ∧ Cpl φ' S h' w' ∧ VR φ' S w' v cv ∧ Exact h φ w φ' h' w'

section
variable {P : Program} {φ : Phi} {S : Sea} {w : World} {F : Fr} {a : Act} {h h' : Heap} {v : AV} {o : Oper}

/-- an operation that leaves all as it is -/
theorem OpOk.pure {cv : Value} (hr : (execOp a.eval o).run P w = .ok (.value cv) w) (hc : Cpl φ S h w) (hv : VR φ S w v cv) : OpOk P a o w (Good h φ S w v h) :=
  ⟨cv, w, .inl hr, φ, Ext.refl _ _ _, hc, hv, Exact.refl _ _ _ _⟩

/-- an operation that reads alone -/
def Still (φ : Phi) (S : Sea) (w : World) (v : AV) (h h' : Heap) : Value → World → Prop := fun cv w' => w' = w ∧ h' = h ∧ VR φ S w v cv
theorem OpOk.still {cv : Value} (hr : (execOp a.eval o).run P w = .ok (.value cv) w) (_ : Cpl φ S h w) (hv : VR φ S w v cv) : OpOk P a o w (Still φ S w v h h) :=
  ⟨cv, w, .inl hr, rfl, rfl, hv⟩
theorem OpOk.good (hs : OpOk P a o w (Still φ S w v h h')) (hc : Cpl φ S h w) : OpOk P a o w (Good h φ S w v h') := by
  obtain ⟨cv, w', hr, rfl, rfl, hv⟩ := hs
  exact ⟨cv, w', hr, φ, Ext.refl _ _ _, hc, hv, Exact.refl _ _ _ _⟩

/-- an operation that makes an object -/
theorem OpOk.make {cv : Value} {obj : Obj} {ob : AObj} {tot : Nat} (hr : (execOp a.eval o).run P w = .ok (.value cv) (w.alloc obj)) (hc : Cpl φ S h w)
    (ho : ORel φ S (w.alloc obj) ob w.heap.size 0 tot) (hv : ∀ φ' : Phi, φ' h.next = some (w.heap.size, 0, tot) → VR φ' S (w.alloc obj) v cv) : OpOk P a o w (Good h φ S w v (h.new ob)) :=
  ⟨cv, _, .inl hr, _, Ext.alloc hc obj h.next tot (hc.fresh _ (Nat.le_refl _)), hc.alloc obj ob tot ho, hv _ (Phi.add_same _ _ _), Exact.make _ _ _ _ _ _ rfl⟩

theorem OpOk.make' {cv : Value} {obj : Obj} {ob : AObj} {tot : Nat} {w' : World} (hr : (execOp a.eval o).run P w = .ok (.value cv) w') (hh : w'.heap = (w.alloc obj).heap) (hos : w'.os = w.os) (hout : w'.output = w.output) (hc : Cpl φ S h w)
    (ho : ORel φ S (w.alloc obj) ob w.heap.size 0 tot) (hv : ∀ φ' : Phi, φ' h.next = some (w.heap.size, 0, tot) → VR φ' S w' v cv) : OpOk P a o w (Good h φ S w v (h.new ob)) :=
  ⟨cv, _, .inl hr, _, (Ext.alloc hc obj h.next tot (hc.fresh _ (Nat.le_refl _))).trans (Ext.same hh hos hout), (hc.alloc obj ob tot ho).same hh, hv _ (Phi.add_same _ _ _), Exact.make' _ _ _ _ _ rfl hh⟩

theorem ORel.rowT {w : World} {cs : List AV} {c : Array Value} {e : TypeId} (hv : VRs φ S w cs c) (hS : ∀ b, S b → b < w.heap.size) :
    ORel φ S (w.alloc (.cells c e)) (.cells (.one e) cs) w.heap.size 0 c.size := by
  refine ⟨c, e, (0, 0), heap_push_new _ _, ⟨rfl, rfl, hv.1⟩, fun i _ h => by simp at h, by simp, by rw [hv.1]; exact Nat.le_refl _, fun i hi => ?_⟩
  rw [Nat.zero_add]
  exact (hv.2 i hi).mono (fun _ _ h => h) (fun _ h => h) (fun b hb => heap_push _ _ _ (hS b hb))
theorem ORel.rowA {w : World} {cs : List AV} {c : Array Value} {e : TypeId} (hv : VRs φ S w cs c) (hS : ∀ b, S b → b < w.heap.size) :
    ORel φ S (w.alloc (.cells c e)) (.cells (.arr e) cs) w.heap.size 0 c.size := by
  refine ⟨c, e, (0, 0), heap_push_new _ _, ⟨rfl, rfl⟩, fun i _ h => by simp at h, by simp, by rw [hv.1]; exact Nat.le_refl _, fun i hi => ?_⟩
  rw [Nat.zero_add]
  exact (hv.2 i hi).mono (fun _ _ h => h) (fun _ h => h) (fun b hb => heap_push _ _ _ (hS b hb))
theorem ORel.row {w : World} {cs : List AV} {c : Array Value} {e : TypeId} (hv : VRs φ S w cs c) (hS : ∀ b, S b → b < w.heap.size) :
    ORel φ S (w.alloc (.cells c e)) (.cells .no cs) w.heap.size 0 c.size := by
  refine ⟨c, e, (0, 0), heap_push_new _ _, trivial, fun i _ h => by simp at h, by simp, by rw [hv.1]; exact Nat.le_refl _, fun i hi => ?_⟩
  rw [Nat.zero_add]
  exact (hv.2 i hi).mono (fun _ _ h => h) (fun _ h => h) (fun b hb => heap_push _ _ _ (hS b hb))

end

end Go.Am
namespace Go.Am
open Go

theorem ileB_iff (a b : Int) : ileB a b = true ↔ a ≤ b := by
  cases a <;> cases b <;> simp [ileB] <;> omega
theorem ieqB_iff (a b : Int) : ieqB a b = decide (a = b) := by
  cases a with
  | ofNat a => cases b with
    | ofNat b =>
      simp only [ieqB]
      rw [Bool.eq_iff_iff]
      simp
      omega
    | negSucc b => simp [ieqB]
  | negSucc a => cases b with
    | ofNat b => simp [ieqB]
    | negSucc b =>
      simp only [ieqB]
      rw [Bool.eq_iff_iff]
      simp
theorem beqB_eq (a b : Bool) : beqB a b = (a == b) := by cases a <;> cases b <;> rfl

section
variable {P : Program} {φ : Phi} {S : Sea} {w : World} {F : Fr} {a : Act} {h h' : Heap} {v : AV} {o : Oper}

theorem op_mv {x : Opd} {y : Operand} (ho : o.op = .move y ∨ o.op = .assign y) (hx : chkOpd x y = true)
    (he : aop (.mv x) F h = some (v, h')) (hc : Cpl φ S h w) (hf : FRel φ S w F a.tmps) : OpOk P a o w (Good h φ S w v h') := by
  simp only [aop, Option.some.injEq, Prod.mk.injEq] at he
  obtain ⟨rfl, rfl⟩ := he
  refine .pure ?_ hc (chkOpd_sound hx hf)
  rcases ho with ho | ho <;> simp [execOp, ho]

theorem op_pick {x y z : Opd} {x' y' z' : Operand} (ho : o.op = .pick x' y' z') (hx : chkOpd x x' = true) (hy : chkOpd y y' = true) (hz : chkOpd z z' = true)
    (he : aop (.pick x y z) F h = some (v, h')) (hc : Cpl φ S h w) (hf : FRel φ S w F a.tmps) : OpOk P a o w (Good h φ S w v h') := by
  simp only [aop, obind_some, Option.some.injEq, Prod.mk.injEq] at he
  obtain ⟨t, ht, rfl, rfl⟩ := he
  have h1 := chkOpd_sound hx hf
  rw [asBool_some ht] at h1
  have h1 := h1.bool_inv
  cases t
  · exact .pure (cv := a.eval z') (by simp [execOp, ho, h1, Go.asBool]) hc (chkOpd_sound hz hf)
  · exact .pure (cv := a.eval y') (by simp [execOp, ho, h1, Go.asBool]) hc (chkOpd_sound hy hf)

theorem op_new {z : List AV} {t : TypeId} (ho : o.op = .alloc t) (hz : zeroOk P t z = true)
    (he : aop (.new t z) F h = some (v, h')) (hc : Cpl φ S h w) : OpOk P a o w (Good h φ S w v h') := by
  simp only [aop, Option.some.injEq, Prod.mk.injEq] at he
  obtain ⟨rfl, rfl⟩ := he
  obtain ⟨zv, hr, hv⟩ := zeroOk_run hz w
  refine .make (cv := .pointer (some ⟨w.heap.size, 0, none⟩)) (obj := .cells zv.cells t) (tot := zv.cells.size) ?_ hc (ORel.rowT (hv φ S w) hc.sea) (fun φ' hφ => .ptr _ 0 _ 0 _ hφ)
  simp [execOp, ho, Instr.alloc, hr, newVar, newRow]

theorem op_box {x : Opd} {t : TypeId} {y : Operand} (ho : o.op = .box t y) (hx : chkOpd x y = true)
    (he : aop (.box x) F h = some (v, h')) (hc : Cpl φ S h w) (hf : FRel φ S w F a.tmps) : OpOk P a o w (Good h φ S w v h') := by
  simp only [aop, obind_some, Option.some.injEq, Prod.mk.injEq] at he
  obtain ⟨cs, hcs, rfl, rfl⟩ := he
  have h1 := (chkOpd_sound hx hf).cells_of hcs
  refine .make (cv := .pointer (some ⟨w.heap.size, 0, none⟩)) (obj := .cells (a.eval y).cells t) (tot := (a.eval y).cells.size) ?_ hc (ORel.row h1 hc.sea) (fun φ' hφ => .ptr _ 0 _ 0 _ hφ)
  simp [execOp, ho, Instr.box, newVar, newRow]

theorem op_mki {x : Opd} {t : TypeId} {y : Operand} (ho : o.op = .makeInterface t y) (ht : (match P.underlying t with | some (.interface _) => false | some _ => true | none => false) = true) (hx : chkOpd x y = true)
    (he : aop (.mki t x) F h = some (v, h')) (hc : Cpl φ S h w) (hf : FRel φ S w F a.tmps) : OpOk P a o w (Good h φ S w v h') := by
  simp only [aop, Option.some.injEq, Prod.mk.injEq] at he
  obtain ⟨rfl, rfl⟩ := he
  refine .pure (cv := .iface t (a.eval y)) ?_ hc (.iface _ _ _ (chkOpd_sound hx hf))
  cases hu : P.underlying t with
  | none => simp [hu] at ht
  | some d => cases d <;> first | (simp [hu] at ht; done) | simp [execOp, ho, Instr.makeInterface, run_underlying hu]

theorem op_mkf {f : Fn} {x y : List Opd} {x' y' : Array Operand} (ho : o.op = .makeFunc f x' y') (hx : chkOpds x x' = true) (hy : chkOpds y y' = true)
    (he : aop (.mkf f x y) F h = some (v, h')) (hc : Cpl φ S h w) (hf : FRel φ S w F a.tmps) : OpOk P a o w (Good h φ S w v h') := by
  simp only [aop, Option.some.injEq, Prod.mk.injEq] at he
  obtain ⟨rfl, rfl⟩ := he
  have h1 := chkOpds_sound hx hf
  have h2 := chkOpds_sound hy hf
  exact .pure (cv := .func f (x'.map a.eval) (y'.map a.eval)) (by simp [execOp, ho, Instr.makeFunc]) hc (.fn _ _ _ _ _ h1.1 h2.1 h1.2 h2.2)

theorem op_mkm {t : TypeId} {r : Option Operand} (ho : o.op = .makeMap t r) (ht : (mapE P t).isSome = true) (hr : (match r with | none => true | some (.const (.int _ _)) => true | _ => false) = true)
    (he : aop .mkm F h = some (v, h')) (hc : Cpl φ S h w) : OpOk P a o w (Good h φ S w v h') := by
  simp only [aop, Option.some.injEq, Prod.mk.injEq] at he
  obtain ⟨rfl, rfl⟩ := he
  obtain ⟨e, he⟩ := Option.isSome_iff_exists.1 ht
  have hu := mapE_u he
  refine .make (cv := .map (some w.heap.size)) (obj := .map #[] 0) (tot := 0) ?_ hc ?_ (fun φ' hφ => .mp _ _ _ hφ)
  · cases r with
    | none => simp [execOp, ho, Instr.makeMap]
    | some y =>
      cases y with
      | const c => cases c <;> first | (simp at hr; done) | simp [execOp, ho, Instr.makeMap, run_underlying hu, Act.eval, Go.asInt, asIntOf]
      | _ => simp at hr
  · exact ⟨rfl, #[], heap_push_new _ _, rfl, fun i hi => absurd hi (by simp), fun i hi => absurd hi (by simp), fun i hi => absurd hi (by simp)⟩

theorem op_ext {x : Opd} {i : Nat} {y : Operand} (ho : o.op = .extract y i) (hx : chkOpd x y = true)
    (he : aop (.ext x i) F h = some (v, h')) (hc : Cpl φ S h w) (hf : FRel φ S w F a.tmps) : OpOk P a o w (Good h φ S w v h') := by
  simp only [aop, obind_some, Option.some.injEq, Prod.mk.injEq, lget_eq] at he
  obtain ⟨vs, hvs, v', hv', rfl, rfl⟩ := he
  have h1 := chkOpd_sound hx hf
  rw [asTup_some hvs] at h1
  obtain ⟨ws, hws, hrel⟩ := h1.tup_inv
  obtain ⟨cv, hcv, hvr⟩ := hrel.get hv'
  exact .pure (cv := cv) (by simp [execOp, ho, hws, Instr.extract, hcv]) hc hvr

theorem op_nck {x : Opd} {y : Operand} (ho : o.op = .nilCheck y) (hx : chkOpd x y = true)
    (he : aop (.nck x) F h = some (v, h')) (hc : Cpl φ S h w) (hf : FRel φ S w F a.tmps) : OpOk P a o w (Good h φ S w v h') := by
  simp only [aop, obind_some, Option.some.injEq, Prod.mk.injEq] at he
  obtain ⟨v', hv', rfl, rfl⟩ := he
  have h1 := chkOpd_sound hx hf
  generalize hxe : x.ev F = xv at hv' h1
  have : xv = v' := by unfold ankc at hv'; split at hv' <;> first | (cases hv'; rfl) | cases hv'
  subst this
  refine .pure (cv := a.eval y) ?_ hc h1
  unfold ankc at hv'
  generalize hy : a.eval y = yv at h1 ⊢
  split at hv'
  · cases h1; simp [execOp, ho, hy]
  · cases h1; simp [execOp, ho, hy]
  · cases h1; simp [execOp, ho, hy]
  · cases hv'

theorem wrapF_eq (k : IntKind) (n : Int) : wrapF k n = k.wrap n := by
  unfold wrapF
  cases h : fitsB k n with
  | false => rfl
  | true =>
    show n = k.wrap n
    cases k <;> simp only [fitsB, Bool.and_eq_true, ileB_iff] at h <;> simp only [IntKind.wrap, IntKind.bits, IntKind.signed] <;> simp <;> (try split) <;> omega

theorem op_cvt {k : IntKind} {x : Opd} {s d : TypeId} {y : Operand} (ho : o.op = .convert s d y) (hs : uOk P s = true) (hd : P.underlying d = some (.int k)) (hx : chkOpd x y = true)
    (he : aop (.cvt k x) F h = some (v, h')) (hc : Cpl φ S h w) (hf : FRel φ S w F a.tmps) : OpOk P a o w (Good h φ S w v h') := by
  simp only [aop, obind_some, Option.some.injEq, Prod.mk.injEq] at he
  obtain ⟨v', hv', rfl, rfl⟩ := he
  have h1 := chkOpd_sound hx hf
  obtain ⟨ds, hds⟩ := Option.isSome_iff_exists.1 hs
  generalize x.ev F = xv at *
  unfold acvt at hv'
  split at hv'
  · rename_i k0 n
    cases hv'
    have h1 := h1.int_inv
    rw [wrapF_eq]
    exact .pure (cv := .int k (k.wrap n)) (by simp [execOp, ho, h1, convert, run_underlying hds, run_underlying hd, Conv.intToInt]) hc (.int _ _)
  · rw [ogrd_some] at hv'
    obtain ⟨hg, hv'⟩ := hv'
    cases hv'
    simp only [Bool.and_eq_true] at hg
    have hk : k = .i64 := by cases k <;> first | rfl | (exact absurd hg.1 (by decide))
    subst hk
    have hle := Nat.le_of_ble_eq_true hg.2
    generalize hy : a.eval y = yv at h1
    cases h1
    rename_i lo hi n h1 h2
    have hw : IntKind.i64.wrap (n : Int) = n := by
      rw [← wrapF_eq]
      unfold wrapF
      have : fitsB .i64 (n : Int) = true := by simp only [fitsB, Bool.and_eq_true, ileB_iff]; omega
      rw [this]; rfl
    exact .pure (cv := .int .i64 (n : Int)) (by simp [execOp, ho, hy, convert, run_underlying hds, run_underlying hd, Conv.intToInt, hw]) hc (.nb _ _ _ h1 h2)
  · cases hv'

theorem op_cvs {x : Opd} {s d : TypeId} {y : Operand} (ho : o.op = .convert s d y) (hs : isStrT P s = true) (hd : isStrT P d = true) (hx : chkOpd x y = true)
    (he : aop (.cvs x) F h = some (v, h')) (hc : Cpl φ S h w) (hf : FRel φ S w F a.tmps) : OpOk P a o w (Good h φ S w v h') := by
  simp only [aop, obind_some, Option.some.injEq, Prod.mk.injEq] at he
  obtain ⟨v', hv', rfl, rfl⟩ := he
  have h1 := chkOpd_sound hx hf
  generalize x.ev F = xv at *
  unfold acvs at hv'
  split at hv'
  · cases hv'
    obtain ⟨t, ht, hb⟩ := h1.str_inv
    exact .pure (cv := .string t) (by simp [execOp, ho, ht, convert, run_underlying (isStrT_u hs), run_underlying (isStrT_u hd)]) hc (.str _ _ hb)
  · cases hv'
    generalize hy : a.eval y = yv at h1
    cases h1
    rename_i lo hi l t hb h1 h2
    exact .pure (cv := .string t) (by simp [execOp, ho, hy, convert, run_underlying (isStrT_u hs), run_underlying (isStrT_u hd)]) hc (.strb _ _ _ _ hb h1 h2)
  · cases hv'

end
end Go.Am
namespace Go.Am
open Go

theorem bytes_length (s : ByteArray) (l : List Nat) (h : s.data.toList.map UInt8.toNat = l) : s.size = l.length := by
  subst h; simp
theorem toNat_inj : ∀ (a b : List UInt8), a.map UInt8.toNat = b.map UInt8.toNat → a = b := by
  intro a
  induction a with
  | nil => intro b h; cases b with
    | nil => rfl
    | cons => simp at h
  | cons x a ih => intro b h; cases b with
    | nil => simp at h
    | cons y b =>
      simp only [List.map_cons, List.cons.injEq] at h
      rw [ih b h.2, UInt8.toNat_inj.1 h.1]
theorem bytes_eq (s t : ByteArray) : (s.toList == t.toList) = leq (s.data.toList.map UInt8.toNat) (t.data.toList.map UInt8.toNat) := by
  rw [leq_eq, ByteArray.toList_eq, ByteArray.toList_eq, Bool.eq_iff_iff]
  simp only [beq_iff_eq, decide_eq_true_eq]
  exact ⟨fun h => by rw [h], toNat_inj _ _⟩
theorem bytes_lt : ∀ (a b : List UInt8), Op.bytesLess a b = llt (a.map UInt8.toNat) (b.map UInt8.toNat) := by
  intro a
  induction a with
  | nil => intro b; cases b <;> rfl
  | cons x a ih =>
    intro b
    cases b with
    | nil => rfl
    | cons y b =>
      show (decide (x < y) || (x == y && Op.bytesLess a b)) = (Bool.rec (Bool.rec false (llt (a.map UInt8.toNat) (b.map UInt8.toNat)) (Nat.beq x.toNat y.toNat)) true (Nat.blt x.toNat y.toNat) : Bool)
      rw [ih b]
      by_cases h : x < y
      · have e : Nat.blt x.toNat y.toNat = true := by rw [Nat.blt_eq]; exact UInt8.lt_iff_toNat_lt.1 h
        rw [e]; simp [h]
      · have e : Nat.blt x.toNat y.toNat = false := by
          cases hh : Nat.blt x.toNat y.toNat with
          | false => rfl
          | true => exact absurd (UInt8.lt_iff_toNat_lt.2 (by rwa [Nat.blt_eq] at hh)) h
        rw [e]
        by_cases h2 : x = y
        · subst h2
          have e2 : Nat.beq x.toNat x.toNat = true := Nat.beq_refl _
          rw [e2]; simp [h]
        · have e2 : Nat.beq x.toNat y.toNat = false := by
            cases hh : Nat.beq x.toNat y.toNat with
            | false => rfl
            | true => exact absurd (UInt8.toNat_inj.1 (Nat.eq_of_beq_eq_true hh)) h2
          rw [e2]; simp [h, h2]
theorem llt_asymm_leq : ∀ (a b : List Nat), (!llt b a) = (llt a b || leq a b) := by
  intro a
  induction a with
  | nil => intro b; cases b <;> rfl
  | cons x a ih =>
    intro b
    cases b with
    | nil => rfl
    | cons y b =>
      show (!(Bool.rec (Bool.rec false (llt b a) (Nat.beq y x)) true (Nat.blt y x) : Bool)) = ((Bool.rec (Bool.rec false (llt a b) (Nat.beq x y)) true (Nat.blt x y) : Bool) || (Bool.rec false (leq a b) (Nat.beq x y) : Bool))
      have hb : ∀ p q : Nat, Nat.beq p q = decide (p = q) := fun p q => by
        rw [Bool.eq_iff_iff]; simp
      have hl : ∀ p q : Nat, Nat.blt p q = decide (p < q) := fun p q => by
        rw [Bool.eq_iff_iff, Nat.blt_eq]; simp
      rw [hb, hb, hl, hl]
      rcases Nat.lt_trichotomy x y with h | h | h
      · simp [h, Nat.ne_of_lt h, Nat.ne_of_gt h, Nat.not_lt_of_gt h]
      · subst h; simp [ih b]
      · simp [h, Nat.ne_of_lt h, Nat.ne_of_gt h, Nat.not_lt_of_gt h]

section
variable {P : Program} {φ : Phi} {S : Sea} {w : World} {F : Fr} {a : Act} {h h' : Heap} {v : AV} {o : Oper}

theorem eqGuard_int (op : BinOp) (t : TypeId) (x y : Operand) (k : IntKind) (n : Int) (v : Value) : eqGuard op t x y (.int k n) v = pure () := by
  cases op <;> rfl
theorem eqGuard_str (op : BinOp) (t : TypeId) (x y : Operand) (s : ByteArray) (v : Value) : eqGuard op t x y (.string s) v = pure () := by
  cases op <;> rfl

theorem ikEq_eq {k k' : IntKind} (h : ikEq k k' = true) : k = k' := by cases k <;> cases k' <;> first | rfl | cases h

theorem acmp_ok {op : BinOp} {lo hi n lo' hi' n' : Nat} {b : Bool} (he : acmp op lo hi lo' hi' = some b) (h1 : lo ≤ n) (h2 : n ≤ hi) (h3 : lo' ≤ n') (h4 : n' ≤ hi')
    {t yt : TypeId} {x' y' : Operand} (ho : o.op = .binOp op t x' y' yt) (e1 : a.eval x' = .int .i64 n) (e2 : a.eval y' = .int .i64 n') (hc : Cpl φ S h w) :
    OpOk P a o w (Good h φ S w (.bool b) h) := by
  have hlt : ∀ {p q : Nat} {c : Bool}, Nat.blt p q = c → (c = true → p < q) := fun h e => by subst h; simpa [Nat.blt_eq] using e
  have bf : ∀ {c : Bool} {x : Bool} {y : Option Bool} {r : Bool}, (bif c then some x else y) = some r → (c = true ∧ x = r) ∨ y = some r := fun {c x y r} h => by
    cases c
    · exact .inr h
    · exact .inl ⟨rfl, Option.some.inj h⟩
  unfold acmp at he
  split at he
  · rcases bf he with ⟨hb, rfl⟩ | he
    · have hb : hi < lo' := by simpa [Nat.blt_eq] using hb
      exact .pure (cv := .bool true) (by simp [execOp, ho, e1, e2, eqGuard_int, binOp, Op.intCmp]; omega) hc (.bool _)
    · rw [ogrd_some] at he
      obtain ⟨hb, he⟩ := he
      cases he
      have hb := Nat.le_of_ble_eq_true hb
      exact .pure (cv := .bool false) (by simp [execOp, ho, e1, e2, eqGuard_int, binOp, Op.intCmp]; omega) hc (.bool _)
  · rcases bf he with ⟨hb, rfl⟩ | he
    · have hb : hi < lo' := by simpa [Nat.blt_eq] using hb
      exact .pure (cv := .bool false) (by simp [execOp, ho, e1, e2, eqGuard_int, binOp, Op.intCmp]; omega) hc (.bool _)
    · rw [ogrd_some] at he
      obtain ⟨hb, he⟩ := he
      cases he
      have hb := Nat.le_of_ble_eq_true hb
      exact .pure (cv := .bool true) (by simp [execOp, ho, e1, e2, eqGuard_int, binOp, Op.intCmp]; omega) hc (.bool _)
  · rcases bf he with ⟨hb, rfl⟩ | he
    · have hb : hi' < lo := by simpa [Nat.blt_eq] using hb
      exact .pure (cv := .bool true) (by simp [execOp, ho, e1, e2, eqGuard_int, binOp, Op.intCmp]; omega) hc (.bool _)
    · rw [ogrd_some] at he
      obtain ⟨hb, he⟩ := he
      cases he
      have hb := Nat.le_of_ble_eq_true hb
      exact .pure (cv := .bool false) (by simp [execOp, ho, e1, e2, eqGuard_int, binOp, Op.intCmp]; omega) hc (.bool _)
  · rcases bf he with ⟨hb, rfl⟩ | he
    · have hb : hi' < lo := by simpa [Nat.blt_eq] using hb
      exact .pure (cv := .bool false) (by simp [execOp, ho, e1, e2, eqGuard_int, binOp, Op.intCmp]; omega) hc (.bool _)
    · rw [ogrd_some] at he
      obtain ⟨hb, he⟩ := he
      cases he
      have hb := Nat.le_of_ble_eq_true hb
      exact .pure (cv := .bool true) (by simp [execOp, ho, e1, e2, eqGuard_int, binOp, Op.intCmp]; omega) hc (.bool _)
  · rw [ogrd_some] at he
    obtain ⟨hb, he⟩ := he
    cases he
    simp only [Bool.or_eq_true, Nat.blt_eq] at hb
    exact .pure (cv := .bool false) (by simp [execOp, ho, e1, e2, eqGuard_int, binOp, Op.intCmp]; omega) hc (.bool _)
  · rw [ogrd_some] at he
    obtain ⟨hb, he⟩ := he
    cases he
    simp only [Bool.or_eq_true, Nat.blt_eq] at hb
    exact .pure (cv := .bool true) (by simp [execOp, ho, e1, e2, eqGuard_int, binOp, Op.intCmp]; omega) hc (.bool _)
  · cases he

theorem wrap_small {n : Nat} (h : n ≤ 9223372036854775807) : IntKind.i64.wrap (n : Int) = n := by
  rw [← wrapF_eq]
  unfold wrapF
  have : fitsB .i64 (n : Int) = true := by simp only [fitsB, Bool.and_eq_true, ileB_iff]; omega
  rw [this]; rfl

theorem anb_ok {op : BinOp} {lo hi n lo' hi' n' : Nat} {v : AV} (he : anb op lo hi n lo' hi' n' = some v) (h1 : lo ≤ n) (h2 : n ≤ hi) (h3 : lo' ≤ n') (h4 : n' ≤ hi')
    {t yt : TypeId} {x' y' : Operand} (ho : o.op = .binOp op t x' y' yt) (e1 : a.eval x' = .int .i64 n) (e2 : a.eval y' = .int .i64 n') (hc : Cpl φ S h w) :
    OpOk P a o w (Good h φ S w v h) := by
  unfold anb at he
  split at he
  · rw [ogrd_some] at he
    obtain ⟨hb, he⟩ := he
    cases he
    have hb : hi + hi' ≤ 4611686018427387904 := Nat.le_of_ble_eq_true hb
    have hw := wrap_small (n := n + n') (by omega)
    refine .pure (cv := .int .i64 ((n + n' : Nat) : Int)) ?_ hc (.nb _ _ _ (Nat.add_le_add h1 h3) (Nat.add_le_add h2 h4))
    rw [Int.natCast_add] at hw
    simp [execOp, ho, e1, e2, eqGuard_int, binOp, Op.intArith, hw]
  · rw [ogrd_some, ogrd_some] at he
    obtain ⟨hb, hb2, he⟩ := he
    cases he
    have hb : hi' ≤ lo := Nat.le_of_ble_eq_true hb
    have hb2 : hi ≤ 4611686018427387904 := Nat.le_of_ble_eq_true hb2
    have hw := wrap_small (n := n - n') (by omega)
    have he : ((n - n' : Nat) : Int) = (n : Int) - n' := by omega
    refine .pure (cv := .int .i64 ((n - n' : Nat) : Int)) ?_ hc (.nb _ _ _ ?_ ?_)
    · rw [he] at hw
      simp [execOp, ho, e1, e2, eqGuard_int, binOp, Op.intArith, he, hw]
    · show lo - hi' ≤ n - n'; omega
    · show n - n' ≤ hi - lo'; omega
  · rw [obind_some] at he
    obtain ⟨b, hb, he⟩ := he
    cases he
    exact acmp_ok hb h1 h2 h3 h4 ho e1 e2 hc

theorem asb_ok {op : BinOp} {lo hi lo' hi' : Nat} {l m : List Nat} {v : AV} (he : asb op lo hi l lo' hi' m = some v) (h1 : lo ≤ l.length) (h2 : l.length ≤ hi) (h3 : lo' ≤ m.length) (h4 : m.length ≤ hi')
    {t yt : TypeId} {x' y' : Operand} (ho : o.op = .binOp op t x' y' yt) {s t' : ByteArray} (e1 : a.eval x' = .string s) (e2 : a.eval y' = .string t')
    (hs : s.data.toList.map UInt8.toNat = l) (ht : t'.data.toList.map UInt8.toNat = m) (hc : Cpl φ S h w) :
    OpOk P a o w (Good h φ S w v h) := by
  have heq : (s.toList == t'.toList) = leq l m := by rw [bytes_eq, hs, ht]
  have hneq : (hi < lo' ∨ hi' < lo) → leq l m = false := fun hb => by
    rw [leq_eq]
    have : l ≠ m := fun e => by subst e; omega
    simp [this]
  unfold asb at he
  split at he
  · rw [ogrd_some] at he
    obtain ⟨hb, he⟩ := he
    cases he
    have hb : hi + hi' ≤ 4611686018427387904 := Nat.le_of_ble_eq_true hb
    have hsz : s.size + t'.size ≤ 4611686018427387904 := by
      rw [bytes_length s l hs, bytes_length t' m ht]; omega
    refine .pure (cv := .string (s ++ t')) ?_ hc (.strb _ _ _ _ ?_ ?_ ?_)
    · have hi : IntKind.i64.max = 9223372036854775807 := rfl
      have : ¬ (((s.size + t'.size : Nat) : Int) > IntKind.i64.max) := by rw [hi]; omega
      simp only [Int.natCast_add] at this
      simp [execOp, ho, e1, e2, eqGuard_str, binOp, Op.stringOp]
      omega
    · rw [lapp_eq]; subst hs; subst ht; simp
    · rw [lapp_eq, List.length_append]; exact Nat.add_le_add h1 h3
    · rw [lapp_eq, List.length_append]; exact Nat.add_le_add h2 h4
  · rw [ogrd_some] at he
    obtain ⟨hb, he⟩ := he
    cases he
    simp only [Bool.or_eq_true, Nat.blt_eq] at hb
    have hq := hneq hb
    exact .pure (cv := .bool false) (by simp only [execOp, ho, e1, e2, eqGuard_str, binOp, Op.stringOp, heq, hq]; rfl) hc (.bool _)
  · rw [ogrd_some] at he
    obtain ⟨hb, he⟩ := he
    cases he
    simp only [Bool.or_eq_true, Nat.blt_eq] at hb
    have hq := hneq hb
    exact .pure (cv := .bool true) (by simp only [execOp, ho, e1, e2, eqGuard_str, binOp, Op.stringOp, heq, hq]; rfl) hc (.bool _)
  · cases he

theorem VR.nb_inv {lo hi n : Nat} {v : Value} (h : VR φ S w (.nb lo hi n) v) : v = .int .i64 n ∧ lo ≤ n ∧ n ≤ hi := by cases h; exact ⟨rfl, ‹_›, ‹_›⟩
theorem VR.strb_inv {lo hi : Nat} {l : List Nat} {v : Value} (h : VR φ S w (.strb lo hi l) v) : ∃ s : ByteArray, v = .string s ∧ s.data.toList.map UInt8.toNat = l ∧ lo ≤ l.length ∧ l.length ≤ hi := by cases h; exact ⟨_, rfl, ‹_›, ‹_›, ‹_›⟩

theorem op_bin {op : BinOp} {x y : Opd} {t yt : TypeId} {x' y' : Operand} (ho : o.op = .binOp op t x' y' yt) (hx : chkOpd x x' = true) (hy : chkOpd y y' = true)
    (he : aop (.bin op x y) F h = some (v, h')) (hc : Cpl φ S h w) (hf : FRel φ S w F a.tmps) : OpOk P a o w (Good h φ S w v h') := by
  simp only [aop, obind_some, Option.some.injEq, Prod.mk.injEq] at he
  obtain ⟨v', hv', rfl, rfl⟩ := he
  have h1 := chkOpd_sound hx hf
  have h2 := chkOpd_sound hy hf
  generalize hx1 : x.ev F = xv at hv' h1
  generalize hy1 : y.ev F = yv at hv' h2
  unfold abin at hv'
  split at hv'
  · rename_i k m k' n
    have e1 := h1.int_inv
    have e2 := h2.int_inv
    split at hv'
    · cases hb : ileB 0 n with
      | false => rw [hb] at hv'; cases hv'
      | true =>
        rw [hb] at hv'
        cases hv'
        have hn := (ileB_iff _ _).1 hb
        have : ¬ n < 0 := by omega
        exact .pure (cv := .int k (k.wrap (m * 2 ^ (min n.toNat k.bits)))) (by simp [execOp, ho, e1, e2, eqGuard_int, binOp, Op.shift, this]) hc (.int _ _)
    · cases hb : ileB 0 n with
      | false => rw [hb] at hv'; cases hv'
      | true =>
        rw [hb] at hv'
        cases hv'
        have hn := (ileB_iff _ _).1 hb
        have : ¬ n < 0 := by omega
        exact .pure (cv := .int k (m.fdiv (2 ^ (min n.toNat k.bits)))) (by simp [execOp, ho, e1, e2, eqGuard_int, binOp, Op.shift, this]) hc (.int _ _)
    · rw [ogrd_some] at hv'
      obtain ⟨hk, hv'⟩ := hv'
      have := ikEq_eq hk
      subst this
      have hz : ∀ b : Int, (ieqB b 0 = true) ↔ b = 0 := fun b => by rw [ieqB_iff]; simp
      split at hv'
      · cases hv'; rw [wrapF_eq]; exact .pure (cv := .int k (k.wrap (m + n))) (by simp [execOp, ho, e1, e2, eqGuard_int, binOp, Op.intArith]) hc (.int _ _)
      · cases hv'; rw [wrapF_eq]; exact .pure (cv := .int k (k.wrap (m - n))) (by simp [execOp, ho, e1, e2, eqGuard_int, binOp, Op.intArith]) hc (.int _ _)
      · cases hv'; rw [wrapF_eq]; exact .pure (cv := .int k (k.wrap (m * n))) (by simp [execOp, ho, e1, e2, eqGuard_int, binOp, Op.intArith]) hc (.int _ _)
      · cases hb : ieqB n 0 with
        | true => rw [hb] at hv'; cases hv'
        | false =>
          rw [hb] at hv'
          have hn : ¬ n = 0 := fun e => by rw [(hz n).2 e] at hb; cases hb
          cases hv'; rw [wrapF_eq]; exact .pure (cv := .int k (k.wrap (m.tdiv n))) (by simp [execOp, ho, e1, e2, eqGuard_int, binOp, Op.intDiv, hn]) hc (.int _ _)
      · cases hb : ieqB n 0 with
        | true => rw [hb] at hv'; cases hv'
        | false =>
          rw [hb] at hv'
          have hn : ¬ n = 0 := fun e => by rw [(hz n).2 e] at hb; cases hb
          cases hv'; exact .pure (cv := .int k (m.tmod n)) (by simp [execOp, ho, e1, e2, eqGuard_int, binOp, Op.intDiv, hn]) hc (.int _ _)
      · cases hv'; exact .pure (cv := .bool (ieqB m n)) (by simp [execOp, ho, e1, e2, eqGuard_int, binOp, Op.intCmp, ieqB_iff]; rw [Bool.eq_iff_iff]; simp) hc (.bool _)
      · cases hv'; exact .pure (cv := .bool (!ieqB m n)) (by simp [execOp, ho, e1, e2, eqGuard_int, binOp, Op.intCmp, ieqB_iff]; rw [Bool.eq_iff_iff]; simp) hc (.bool _)
      · cases hv'; exact .pure (cv := .bool (iltB m n)) (by
          have e : iltB m n = decide (m < n) := by rw [Bool.eq_iff_iff]; simp only [iltB, Bool.not_eq_true', decide_eq_true_eq, Bool.eq_false_iff, ne_eq, ileB_iff]; omega
          simp [execOp, ho, e1, e2, eqGuard_int, binOp, Op.intCmp, e]) hc (.bool _)
      · cases hv'; exact .pure (cv := .bool (ileB m n)) (by
          have e : ileB m n = decide (m ≤ n) := by rw [Bool.eq_iff_iff, ileB_iff]; simp
          simp [execOp, ho, e1, e2, eqGuard_int, binOp, Op.intCmp, e]) hc (.bool _)
      · cases hv'; exact .pure (cv := .bool (iltB n m)) (by
          have e : iltB n m = decide (n < m) := by rw [Bool.eq_iff_iff]; simp only [iltB, Bool.not_eq_true', decide_eq_true_eq, Bool.eq_false_iff, ne_eq, ileB_iff]; omega
          simp [execOp, ho, e1, e2, eqGuard_int, binOp, Op.intCmp, e]) hc (.bool _)
      · cases hv'; exact .pure (cv := .bool (ileB n m)) (by
          have e : ileB n m = decide (n ≤ m) := by rw [Bool.eq_iff_iff, ileB_iff]; simp
          simp [execOp, ho, e1, e2, eqGuard_int, binOp, Op.intCmp, e]) hc (.bool _)
      · cases hv'; exact .pure (cv := .int k (k.wrap (BitVec.ofInt k.bits m &&& BitVec.ofInt k.bits n).toNat)) (by simp [execOp, ho, e1, e2, eqGuard_int, binOp, Op.intBits]) hc (.int _ _)
      · cases hv'; exact .pure (cv := .int k (k.wrap (BitVec.ofInt k.bits m ||| BitVec.ofInt k.bits n).toNat)) (by simp [execOp, ho, e1, e2, eqGuard_int, binOp, Op.intBits]) hc (.int _ _)
      · cases hv'; exact .pure (cv := .int k (k.wrap (BitVec.ofInt k.bits m ^^^ BitVec.ofInt k.bits n).toNat)) (by simp [execOp, ho, e1, e2, eqGuard_int, binOp, Op.intBits]) hc (.int _ _)
      · cases hv'; exact .pure (cv := .int k (k.wrap (BitVec.ofInt k.bits m &&& ~~~(BitVec.ofInt k.bits n)).toNat)) (by simp [execOp, ho, e1, e2, eqGuard_int, binOp, Op.intBits]) hc (.int _ _)
      · cases hv'
  · rename_i l m
    obtain ⟨s, e1, hs⟩ := h1.str_inv
    obtain ⟨t', e2, ht⟩ := h2.str_inv
    have heq : (s.toList == t'.toList) = leq l m := by rw [bytes_eq, hs, ht]
    have hlt : Op.bytesLess s.toList t'.toList = llt l m := by rw [bytes_lt, ByteArray.toList_eq, ByteArray.toList_eq, hs, ht]
    have hle := llt_asymm_leq l m
    split at hv'
    · rw [ogrd_some] at hv'
      obtain ⟨hb, hv'⟩ := hv'
      cases hv'
      have hsz : s.size + t'.size ≤ 4611686018427387904 := by
        rw [bytes_length s l hs, bytes_length t' m ht]
        have := Nat.le_of_ble_eq_true hb
        rw [llen_eq, llen_eq] at this
        exact this
      refine .pure (cv := .string (s ++ t')) ?_ hc (.str _ _ ?_)
      · have hi : IntKind.i64.max = 9223372036854775807 := rfl
        have : ¬ (((s.size + t'.size : Nat) : Int) > IntKind.i64.max) := by rw [hi]; omega
        simp only [Int.natCast_add] at this
        simp [execOp, ho, e1, e2, eqGuard_str, binOp, Op.stringOp]
        omega
      · rw [lapp_eq]; subst hs; subst ht; simp
    · cases hv'; exact .pure (cv := .bool (leq l m)) (by simp only [execOp, ho, e1, e2, eqGuard_str, binOp, Op.stringOp, heq]; rfl) hc (.bool _)
    · cases hv'; exact .pure (cv := .bool (!leq l m)) (by simp only [execOp, ho, e1, e2, eqGuard_str, binOp, Op.stringOp, heq]; rfl) hc (.bool _)
    · cases hv'; exact .pure (cv := .bool (llt l m)) (by simp only [execOp, ho, e1, e2, eqGuard_str, binOp, Op.stringOp, hlt]; rfl) hc (.bool _)
    · cases hv'; exact .pure (cv := .bool (!llt m l)) (by simp only [execOp, ho, e1, e2, eqGuard_str, binOp, Op.stringOp, hlt, heq, hle]; rfl) hc (.bool _)
    · cases hv'; exact .pure (cv := .bool (llt m l)) (by
        have e : (!(llt l m || leq l m)) = llt m l := by rw [← hle]; simp
        simp only [execOp, ho, e1, e2, eqGuard_str, binOp, Op.stringOp, hlt, heq, e]; rfl) hc (.bool _)
    · cases hv'; exact .pure (cv := .bool (!llt l m)) (by simp only [execOp, ho, e1, e2, eqGuard_str, binOp, Op.stringOp, hlt]; rfl) hc (.bool _)
    · cases hv'
  · obtain ⟨e1, b1, b2⟩ := h1.nb_inv
    obtain ⟨e2, b3, b4⟩ := h2.nb_inv
    exact anb_ok hv' b1 b2 b3 b4 ho e1 e2 hc
  · obtain ⟨e1, b1, b2⟩ := h1.nb_inv
    exact anb_ok hv' b1 b2 (Nat.le_refl _) (Nat.le_refl _) ho e1 h2.int_inv hc
  · obtain ⟨e2, b1, b2⟩ := h2.nb_inv
    exact anb_ok hv' (Nat.le_refl _) (Nat.le_refl _) b1 b2 ho h1.int_inv e2 hc
  · obtain ⟨s, e1, hs, b1, b2⟩ := h1.strb_inv
    obtain ⟨s', e2, hs', b3, b4⟩ := h2.strb_inv
    exact asb_ok hv' b1 b2 b3 b4 ho e1 e2 hs hs' hc
  · obtain ⟨s, e1, hs, b1, b2⟩ := h1.strb_inv
    obtain ⟨s', e2, hs'⟩ := h2.str_inv
    rw [llen_eq] at hv'
    exact asb_ok hv' b1 b2 (Nat.le_refl _) (Nat.le_refl _) ho e1 e2 hs hs' hc
  · obtain ⟨s, e1, hs⟩ := h1.str_inv
    obtain ⟨s', e2, hs', b3, b4⟩ := h2.strb_inv
    rw [llen_eq] at hv'
    exact asb_ok hv' (Nat.le_refl _) (Nat.le_refl _) b3 b4 ho e1 e2 hs hs' hc
  · cases hv'

theorem look_some {x : AV} {cs : List AV} (hl : look h x = some cs) {c : Value} (hc : Cpl φ S h w) (hv : VR φ S w x c) :
    ∃ b o, c = .pointer (some ⟨b, o, none⟩) ∧ ∀ i, i < cs.length → ∃ cv, w.cell? ⟨b, o + i, none⟩ = some cv ∧ VR φ S w (cs.getD i .bot) cv := by
  unfold look at hl
  split at hl
  · cases hl
    cases hv
    rename_i b o vs hS hcl hr
    exact ⟨b, o, rfl, fun i hi => ⟨vs i, hcl i hi, (hr i hi).up⟩⟩
  · rename_i id off
    rw [obind_some] at hl
    obtain ⟨cs', hid, hl⟩ := hl
    have hid := oCells_some hid
    · cases hl
      obtain ⟨b, base, tot, hφ, rfl⟩ := hv.ptr_inv
      obtain ⟨b', base', tot', hφ', hnS, hor⟩ := hc.obj id (by rw [hid]; simp)
      rw [hφ] at hφ'; cases hφ'
      rw [hid] at hor
      obtain ⟨c, e, fr, hb, _, hfr, hsz, hlen, hrel⟩ := hor
      refine ⟨b, base + off, rfl, fun i hi => ?_⟩
      rw [ldrop_eq] at hi ⊢
      simp only [List.length_drop] at hi
      have hi' : off + i < cs'.length := by omega
      have := hrel (off + i) hi'
      have hlt : base + (off + i) < c.size := by omega
      refine ⟨c.getD (base + (off + i)) undef, ?_, ?_⟩
      · simp [World.cell?, hb, Array.getD, hlt, Nat.add_assoc]
      · have e1 : (cs'.drop off).getD i .bot = cs'.getD (off + i) .bot := by simp [List.getD]
        rw [e1]; exact this
  · cases hl

theorem op_ld1 {x : Opd} {t : TypeId} {y : Operand} (ho : o.op = .load t y) (ht : aggOk P t false = true) (hx : chkOpd x y = true)
    (he : aop (.ld1 x) F h = some (v, h')) (hc : Cpl φ S h w) (hf : FRel φ S w F a.tmps) : OpOk P a o w (Still φ S w v h h') := by
  simp only [aop, obind_some, Option.some.injEq, Prod.mk.injEq, lget_eq] at he
  obtain ⟨cs, hcs, v', hv', rfl, rfl⟩ := he
  obtain ⟨b, off, hp, hcell⟩ := look_some hcs hc (chkOpd_sound hx hf)
  have hlen : 0 < cs.length := by cases cs <;> simp at hv' ⊢
  obtain ⟨cv, h1, h2⟩ := hcell 0 hlen
  have e : cs.getD 0 .bot = v' := by simp [List.getD, hv']
  rw [e] at h2
  have h1' : w.cell? ⟨b, off, none⟩ = some cv := h1
  exact .still (cv := cv) (by simp [execOp, ho, hp, Instr.loadAt, Instr.sureAddr, loadVar, aggOk_run ht, h1']) hc h2

theorem loadCells_run {b o : Nat} {vs : Nat → Value} : ∀ (n i : Nat) (acc : Array Value), (∀ j, j < n → w.cell? ⟨b, o + (i + j), none⟩ = some (vs (i + j))) →
    (loadCellsFrom ⟨b, o, none⟩ i n acc).run P w = .ok (acc ++ ((List.range n).map fun j => vs (i + j)).toArray) w := by
  intro n
  induction n with
  | zero => intro i acc _; simp [loadCellsFrom]
  | succ n ih =>
    intro i acc hcell
    have h0 := hcell 0 (by omega)
    have ha : (⟨b, o, none⟩ : Addr).add i = ⟨b, o + i, none⟩ := by
      unfold Addr.add; split
      · rename_i e; subst e; rfl
      · rfl
    simp only [loadCellsFrom, Sem.run_bind, ha, run_load]
    simp only [Nat.add_zero] at h0
    rw [h0]
    simp only [Result.andThen_ok]
    rw [ih (i + 1) (acc.push (vs i)) (fun j hj => by have := hcell (j + 1) (by omega); rw [show i + (j + 1) = i + 1 + j by omega] at this; exact this)]
    congr 1
    rw [List.range_succ_eq_map]
    simp [Function.comp_def, Nat.add_assoc, Nat.add_comm 1]

end
end Go.Am
namespace Go.Am
open Go

section
variable {P : Program} {φ : Phi} {S : Sea} {w : World} {F : Fr} {a : Act} {h h' : Heap} {v : AV} {o : Oper}

theorem bif_some {α : Type} {c : Bool} {x : Option α} {r : α} (h : (bif c then x else none) = some r) : c = true ∧ x = some r := by
  cases c <;> simp_all

theorem equal_run' (d : Nat) {k : Nat} {x y : AV} {b : Bool} {t : TypeId} {cx cy : Value} (he : aeqn k x y = some b) (ht : eqOk P k t = true) (hx : VR φ S w x cx) (hy : VR φ S w y cy) :
    (Op.equalIn (d + 1) t cx cy).run P w = .ok b w := by
  unfold aeqn at he
  split at he
  all_goals try (exact absurd he (by simp))
  all_goals
    obtain ⟨hk, he⟩ := bif_some he
    have hk' := Nat.eq_of_beq_eq_true hk
    subst hk'
    cases he
    unfold eqOk at ht
    split at ht
    all_goals first
      | (exact absurd ht (by decide))
      | (rename_i hu
         cases hx
         cases hy
         simp only [Op.equalIn, Sem.run_bind, run_underlying hu, Result.andThen_ok]
         first | rfl | (rw [beqB_eq]; rfl))

theorem equal_run {k : Nat} {x y : AV} {b : Bool} {t : TypeId} {cx cy : Value} (he : aeqn k x y = some b) (ht : eqOk P k t = true) (hx : VR φ S w x cx) (hy : VR φ S w y cy) :
    (Op.equal t cx cy).run P w = .ok b w := equal_run' 9999 he ht hx hy

theorem eqGuard_ok {k : Nat} {x y : AV} {b : Bool} {op : BinOp} {t : TypeId} {x' y' : Operand} {cx cy : Value} (he : aeqn k x y = some b) (hop : op = .eql ∨ op = .neq)
    (hk : k = 5 → (Region.isConst x' || Region.isConst y') = true) (hx : VR φ S w x cx) (hy : VR φ S w y cy) :
    (eqGuard op t x' y' cx cy).run P w = .ok () w := by
  unfold aeqn at he
  split at he
  all_goals try (exact absurd he (by simp))
  all_goals
    obtain ⟨hk1, he⟩ := bif_some he
    have hk' := Nat.eq_of_beq_eq_true hk1
    subst hk'
    cases hx
    cases hy
    rcases hop with rfl | rfl
    all_goals first
      | rfl
      | (have := hk rfl
         cases x' <;> cases y' <;> first | rfl | (simp [Region.isConst] at this))

theorem op_eqn {k : Nat} {neg : Bool} {x y : Opd} {t yt : TypeId} {x' y' : Operand} (ho : o.op = .binOp (bif neg then .neq else .eql) t x' y' yt) (ht : eqOk P k t = true)
    (hk : k = 5 → (Region.isConst x' || Region.isConst y') = true) (hx : chkOpd x x' = true) (hy : chkOpd y y' = true)
    (he : aop (.eqn k neg x y) F h = some (v, h')) (hc : Cpl φ S h w) (hf : FRel φ S w F a.tmps) : OpOk P a o w (Good h φ S w v h') := by
  simp only [aop, obind_some, Option.some.injEq, Prod.mk.injEq] at he
  obtain ⟨b, hb, rfl, rfl⟩ := he
  have h1 := chkOpd_sound hx hf
  have h2 := chkOpd_sound hy hf
  have hr := equal_run hb ht h1 h2
  have hg := eqGuard_ok (P := P) (op := bif neg then .neq else .eql) (t := t) hb (by cases neg <;> simp) hk h1 h2
  have hbo : (binOp (bif neg then .neq else .eql) t (a.eval x') (a.eval y')).run P w = .ok (.bool (bif neg then !b else b)) w := by
    unfold aeqn at hb
    generalize x.ev F = xv at *
    generalize y.ev F = yv at *
    generalize a.eval x' = cx at *
    generalize a.eval y' = cy at *
    split at hb
    all_goals try (exact absurd hb (by simp))
    all_goals
      cases h1
      cases h2
      cases neg <;> simp only [cond_true, cond_false, binOp, Sem.run_bind, hr, Result.andThen_ok, Sem.run_pure]
  refine .pure (cv := .bool (bif neg then !b else b)) ?_ hc (.bool _)
  simp only [execOp, ho, Sem.run_bind, hg, Result.andThen_ok, hbo, Sem.run_pure]

theorem op_un {op : UnOp} {x : Opd} {t : TypeId} {y : Operand} (ho : o.op = .unOp op t y) (hx : chkOpd x y = true)
    (he : aop (.un op x) F h = some (v, h')) (hc : Cpl φ S h w) (hf : FRel φ S w F a.tmps) : OpOk P a o w (Good h φ S w v h') := by
  simp only [aop, obind_some, Option.some.injEq, Prod.mk.injEq] at he
  obtain ⟨v', hv', rfl, rfl⟩ := he
  have h1 := chkOpd_sound hx hf
  generalize x.ev F = xv at *
  unfold aun at hv'
  split at hv'
  · cases hv'
    have e := h1.bool_inv
    exact .pure (by simp [execOp, ho, e, Op.unary]) hc (.bool _)
  · cases hv'
    have e := h1.int_inv
    rw [wrapF_eq]
    exact .pure (by simp [execOp, ho, e, Op.unary, Op.intArith]) hc (.int _ _)
  · cases hv'
    have e := h1.int_inv
    refine .pure (cv := .int _ _) ?_ hc (.int _ _)
    simp [execOp, ho, e, Op.unary, Op.intBits]
  · cases hv'

theorem op_ldn {n : Nat} {x : Opd} {t : TypeId} {y : Operand} (ho : o.op = .load t y) (ht : aggOk P t true = true) (hn : szOk P t n = true) (hx : chkOpd x y = true)
    (he : aop (.ldn n x) F h = some (v, h')) (hc : Cpl φ S h w) (hf : FRel φ S w F a.tmps) : OpOk P a o w (Still φ S w v h h') := by
  simp only [aop, obind_some, ogrd_some, Option.some.injEq, Prod.mk.injEq, ltake_eq, llen_eq] at he
  obtain ⟨cs, hcs, hle, rfl, rfl⟩ := he
  have hle := Nat.le_of_ble_eq_true hle
  obtain ⟨b, off, hp, hcell⟩ := look_some hcs hc (chkOpd_sound hx hf)
  let vs : Nat → Value := fun i => if hi : i < cs.length then (hcell i hi).choose else undef
  have hvs : ∀ i (hi : i < cs.length), w.cell? ⟨b, off + i, none⟩ = some (vs i) ∧ VR φ S w (cs.getD i .bot) (vs i) := fun i hi => by
    have := (hcell i hi).choose_spec
    simp only [vs, hi, dif_pos]
    exact this
  have hld := loadCells_run (P := P) (w := w) (b := b) (o := off) (vs := vs) n 0 #[] (fun j hj => by
    have := (hvs j (by omega)).1
    simpa using this)
  simp only [Nat.zero_add, Array.empty_append, List.nil_append] at hld
  refine .still (cv := .agg ((List.range n).map vs).toArray) ?_ hc (.agg _ _ ?_ ?_)
  · simp only [execOp, ho, hp, Instr.loadAt, Instr.sureAddr, loadVar, Sem.run_bind, Sem.run_pure, Result.andThen_ok, aggOk_run ht, if_true, szOk_run hn, loadCells, hld]
  · simp; omega
  · intro i hi
    simp at hi
    have := (hvs i (by omega)).2
    have e1 : (cs.take n).getD i .bot = cs.getD i .bot := by simp [List.getD, List.getElem?_take, show i < n by omega]
    have e2 : (((List.range n).map vs).toArray).getD i undef = vs i := by simp [Array.getD, show i < n by omega]
    rw [e1, e2]; exact this

end
end Go.Am
namespace Go.Am
open Go

section
variable {P : Program} {φ : Phi} {S : Sea} {w : World} {F : Fr} {a : Act} {h h' : Heap} {v : AV} {o : Oper}

theorem addr_add (b o n : Nat) : (⟨b, o, none⟩ : Addr).add n = ⟨b, o + n, none⟩ := by
  unfold Addr.add; split
  · rename_i e; subst e; rfl
  · rfl

/-- a pointer is moved -/
theorem amove_some {off : Nat} {x v : AV} {c : Value} (hm : amove off x = some v) (hv : VR φ S w x c) :
    ∃ b o, c = .pointer (some ⟨b, o, none⟩) ∧ VR φ S w v (.pointer (some ⟨b, o + off, none⟩)) := by
  unfold amove at hm
  split at hm
  · rename_i id p
    cases hm
    obtain ⟨b, base, tot, hφ, rfl⟩ := hv.ptr_inv
    refine ⟨b, _, rfl, ?_⟩
    rw [Nat.add_assoc]
    exact .ptr id (p + off) b base tot hφ
  · cases hm
    cases hv
    rename_i b o vs hS hc hr
    refine ⟨b, o, rfl, ?_⟩
    rw [ldrop_eq]
    refine .pp _ b (o + off) (fun i => vs (off + i)) hS (fun i hi => ?_) (fun i hi => ?_)
    · simp only [List.length_drop] at hi
      have := hc (off + i) (by omega)
      rw [Nat.add_assoc]; exact this
    · simp only [List.length_drop] at hi
      have := hr (off + i) (by omega)
      simpa [List.getD] using this
  · cases hm

theorem op_fa {off : Nat} {x : Opd} {t : TypeId} {fi : Nat} {y : Operand} {fs : Array Field} {f : Field} (ho : o.op = .fieldAddr t y fi) (ht : structE P t = some fs) (hfi : fs[fi]? = some f)
    (hoff : f.offset = off) (hsz : ∃ n, szOk P f.type n = true ∧ n ≠ 0) (hx : chkOpd x y = true)
    (he : aop (.fa off x) F h = some (v, h')) (hc : Cpl φ S h w) (hf : FRel φ S w F a.tmps) : OpOk P a o w (Good h φ S w v h') := by
  simp only [aop, obind_some, Option.some.injEq, Prod.mk.injEq] at he
  obtain ⟨v', hv', rfl, rfl⟩ := he
  obtain ⟨b, p, hp, hv⟩ := amove_some hv' (chkOpd_sound hx hf)
  obtain ⟨n, hn, hn0⟩ := hsz
  refine .pure (cv := .pointer (some ⟨b, p + off, none⟩)) ?_ hc hv
  simp [execOp, ho, Instr.fieldAt, run_underlying (structE_u ht), hfi, hp, Instr.sureAddr, fieldPlace, szOk_run hn, hn0, addr_add, hoff]

theorem op_ia {sz : Nat} {x i : Opd} {t e : TypeId} {y j : Operand} (ho : o.op = .indexAddr t y j) (ht : sliceE P t = some e) (hsz : szOk P e sz = true) (hx : chkOpd x y = true) (hi : chkOpd i j = true)
    (he : aop (.ia sz x i) F h = some (v, h')) (hc : Cpl φ S h w) (hf : FRel φ S w F a.tmps) : OpOk P a o w (Good h φ S w v h') := by
  simp only [aop, obind_some, Option.some.injEq, Prod.mk.injEq] at he
  obtain ⟨n, hn, v', hv', rfl, rfl⟩ := he
  obtain ⟨k, hk⟩ := asNat_some hn
  have h2 := chkOpd_sound hi hf
  rw [hk] at h2
  have h2 := h2.int_inv
  have h1 := chkOpd_sound hx hf
  generalize x.ev F = xv at *
  unfold aia at hv'
  split at hv'
  · rw [ogrd_some] at hv'
    rename_i len cs
    obtain ⟨hlt, hv'⟩ := hv'
    have hlt : n < len := by simpa [Nat.blt_eq] using hlt
    cases hv'
    generalize hy : a.eval y = cy at h1
    cases h1
    rename_i b p cap vs hS hfl hle hcl hr
    refine .pure (cv := .pointer (some ⟨b, p + n * sz, none⟩)) ?_ hc ?_
    · simp [execOp, ho, Instr.indexAt, run_underlying (sliceE_u ht), h2, hy, asIntOf, hlt, szOk_run hsz, addr_add]
    · rw [ldrop_eq]
      refine .pp _ b _ (fun i => vs (n * sz + i)) hS (fun i hi => ?_) (fun i hi => ?_)
      · simp only [List.length_drop] at hi
        have := hcl (n * sz + i) (by have : Nat.mul n sz = n * sz := rfl; omega)
        rw [Nat.add_assoc]; exact this
      · simp only [List.length_drop] at hi
        have := hr (n * sz + i) (by have : Nat.mul n sz = n * sz := rfl; omega)
        simpa [List.getD] using this
  · rw [ogrd_some, ogrd_some] at hv'
    rename_i id off len sz' cap
    obtain ⟨hse, hlt, hv'⟩ := hv'
    have hlt : n < len := by simpa [Nat.blt_eq] using hlt
    cases hv'
    generalize hy : a.eval y = cy at h1
    cases h1
    rename_i b base tot vcap hφ hcap hl htot
    refine .pure (cv := .pointer (some ⟨b, base + off + n * sz, none⟩)) ?_ hc ?_
    · simp [execOp, ho, Instr.indexAt, run_underlying (sliceE_u ht), h2, hy, asIntOf, hlt, szOk_run hsz, addr_add]
    · rw [Nat.add_assoc]
      exact .ptr _ _ _ _ _ hφ
  · cases hv'

theorem op_iaa {len sz : Nat} {x i : Opd} {t : TypeId} {e : Nat × TypeId} {y j : Operand} (ho : o.op = .indexAddr t y j) (ht : arrE P t = some e) (hl : e.1 = len) (hsz : szOk P e.2 sz = true) (hx : chkOpd x y = true) (hi : chkOpd i j = true)
    (he : aop (.iaa len sz x i) F h = some (v, h')) (hc : Cpl φ S h w) (hf : FRel φ S w F a.tmps) : OpOk P a o w (Good h φ S w v h') := by
  simp only [aop, obind_some, ogrd_some, Option.some.injEq, Prod.mk.injEq] at he
  obtain ⟨n, hn, hlt, v', hv', rfl, rfl⟩ := he
  obtain ⟨k, hk⟩ := asNat_some hn
  have h2 := chkOpd_sound hi hf
  rw [hk] at h2
  have h2 := h2.int_inv
  obtain ⟨b, p, hp, hv⟩ := amove_some hv' (chkOpd_sound hx hf)
  have hlt : n < len := by simpa [Nat.blt_eq] using hlt
  subst hl
  refine .pure (cv := .pointer (some ⟨b, p + n * sz, none⟩)) ?_ hc hv
  simp [execOp, ho, Instr.indexAt, run_underlying (arrE_u ht), h2, hp, asIntOf, hlt, szOk_run hsz, addr_add, Instr.sureAddr]

theorem part_run1 {t : TypeId} {cs : Array Value} {off : Nat} {x : Value} (ht : aggOk P t false = true) (hx : cs[off]? = some x) : (part t cs off).run P w = .ok x w := by
  simp [part, aggOk_run ht, hx]
theorem part_runn {t : TypeId} {cs : Array Value} {off n : Nat} (ht : aggOk P t true = true) (hn : szOk P t n = true) : (part t cs off).run P w = .ok (.agg (cs.extract off (off + n))) w := by
  simp [part, aggOk_run ht, szOk_run hn]

theorem extract_rel {cs : List AV} {vs : Array Value} {off n : Nat} (hr : VRs φ S w cs vs) (hle : off + n ≤ cs.length) : VR φ S w (.agg ((cs.drop off).take n)) (.agg (vs.extract off (off + n))) := by
  refine .agg _ _ ?_ (fun i hi => ?_)
  · simp [hr.1]; omega
  · simp at hi
    have := hr.2 (off + i) (by omega)
    have hs := hr.1
    have e1 : ((cs.drop off).take n).getD i .bot = cs.getD (off + i) .bot := by simp [List.getD, List.getElem?_take, show i < n by omega]
    have e2 : (vs.extract off (off + n)).getD i undef = vs.getD (off + i) undef := by
      have h1 : off + i < vs.size := by omega
      have h2 : i < (vs.extract off (off + n)).size := by simp; omega
      simp only [Array.getD, h1, h2, dif_pos]
      simp
    rw [e1, e2]; exact this

theorem op_fld1 {off : Nat} {x : Opd} {t : TypeId} {fi : Nat} {y : Operand} {fs : Array Field} {f : Field} (ho : o.op = .field t y fi) (ht : structE P t = some fs) (hfi : fs[fi]? = some f)
    (hoff : f.offset = off) (hag : aggOk P f.type false = true) (hx : chkOpd x y = true)
    (he : aop (.fld1 off x) F h = some (v, h')) (hc : Cpl φ S h w) (hf : FRel φ S w F a.tmps) : OpOk P a o w (Good h φ S w v h') := by
  simp only [aop, obind_some, Option.some.injEq, Prod.mk.injEq, lget_eq] at he
  obtain ⟨cs, hcs, v', hv', rfl, rfl⟩ := he
  have h1 := chkOpd_sound hx hf
  rw [asAgg_some hcs] at h1
  obtain ⟨vs, hvs, hrel⟩ := h1.agg_inv
  obtain ⟨cv, hcv, hvr⟩ := hrel.get hv'
  subst hoff
  exact .pure (cv := cv) (by simp [execOp, ho, Instr.field, run_underlying (structE_u ht), hfi, hvs, Go.asAgg, part_run1 hag hcv]) hc hvr

theorem op_fldn {off n : Nat} {x : Opd} {t : TypeId} {fi : Nat} {y : Operand} {fs : Array Field} {f : Field} (ho : o.op = .field t y fi) (ht : structE P t = some fs) (hfi : fs[fi]? = some f)
    (hoff : f.offset = off) (hag : aggOk P f.type true = true) (hn : szOk P f.type n = true) (hx : chkOpd x y = true)
    (he : aop (.fldn off n x) F h = some (v, h')) (hc : Cpl φ S h w) (hf : FRel φ S w F a.tmps) : OpOk P a o w (Good h φ S w v h') := by
  simp only [aop, obind_some, ogrd_some, Option.some.injEq, Prod.mk.injEq, llen_eq, ltake_eq, ldrop_eq] at he
  obtain ⟨cs, hcs, hle, rfl, rfl⟩ := he
  have h1 := chkOpd_sound hx hf
  rw [asAgg_some hcs] at h1
  obtain ⟨vs, hvs, hrel⟩ := h1.agg_inv
  subst hoff
  exact .pure (by simp [execOp, ho, Instr.field, run_underlying (structE_u ht), hfi, hvs, Go.asAgg, part_runn hag hn]) hc (extract_rel hrel (Nat.le_of_ble_eq_true hle))

theorem op_ixs {x i : Opd} {t : TypeId} {y j : Operand} (ho : o.op = .index t y j) (ht : isStrT P t = true) (hx : chkOpd x y = true) (hi : chkOpd i j = true)
    (he : aop (.ixs x i) F h = some (v, h')) (hc : Cpl φ S h w) (hf : FRel φ S w F a.tmps) : OpOk P a o w (Good h φ S w v h') := by
  simp only [aop, obind_some, Option.some.injEq, Prod.mk.injEq, lget_eq] at he
  obtain ⟨l, hl, n, hn, c, hcc, rfl, rfl⟩ := he
  obtain ⟨k, hk⟩ := asNat_some hn
  have h2 := chkOpd_sound hi hf
  rw [hk] at h2
  have h2 := h2.int_inv
  have h1 := chkOpd_sound hx hf
  rw [asStr_some hl] at h1
  obtain ⟨s, hs, hb⟩ := h1.str_inv
  subst hb
  rw [List.getElem?_map] at hcc
  obtain ⟨u, hu, rfl⟩ := Option.map_eq_some_iff.1 hcc
  have hlt : n < s.size := by
    rcases Nat.lt_or_ge n s.data.toList.length with h' | h'
    · exact h'
    · rw [List.getElem?_eq_none h'] at hu; cases hu
  have hg : s[n]? = some u := by
    rw [ByteArray.getElem?_lt' s n hlt]
    have : s.data.toList[n]? = some s[n] := by
      have : s[n] = s.data[n] := rfl
      rw [this]; simp [hlt]
    rw [← this]; exact hu
  refine .pure (cv := .int .u8 u.toNat) ?_ hc (.int _ _)
  simp [execOp, ho, Instr.index, h2, hs, asIntOf, run_underlying (isStrT_u ht), hg]

end
end Go.Am
namespace Go.Am
open Go

section
variable {P : Program} {φ : Phi} {S : Sea} {w : World} {F : Fr} {a : Act} {h h' : Heap} {v : AV} {o : Oper}

theorem op_ixa1 {len : Nat} {x i : Opd} {t : TypeId} {e : Nat × TypeId} {y j : Operand} (ho : o.op = .index t y j) (ht : arrE P t = some e) (hl : e.1 = len) (hag : aggOk P e.2 false = true) (hsz : szOk P e.2 1 = true) (hx : chkOpd x y = true) (hi : chkOpd i j = true)
    (he : aop (.ixa1 len x i) F h = some (v, h')) (hc : Cpl φ S h w) (hf : FRel φ S w F a.tmps) : OpOk P a o w (Good h φ S w v h') := by
  simp only [aop, obind_some, ogrd_some, Option.some.injEq, Prod.mk.injEq, lget_eq] at he
  obtain ⟨cs, hcs, n, hn, hlt, v', hv', rfl, rfl⟩ := he
  obtain ⟨k, hk⟩ := asNat_some hn
  have h2 := chkOpd_sound hi hf
  rw [hk] at h2
  have h2 := h2.int_inv
  have h1 := chkOpd_sound hx hf
  rw [asAgg_some hcs] at h1
  obtain ⟨vs, hvs, hrel⟩ := h1.agg_inv
  obtain ⟨cv, hcv, hvr⟩ := hrel.get hv'
  subst hl
  have hlt : n < e.1 := by simpa [Nat.blt_eq] using hlt
  exact .pure (cv := cv) (by simp [execOp, ho, Instr.index, run_underlying (arrE_u ht), h2, hvs, asIntOf, hlt, szOk_run hsz, part_run1 hag hcv]) hc hvr

theorem op_ixan {len sz : Nat} {x i : Opd} {t : TypeId} {e : Nat × TypeId} {y j : Operand} (ho : o.op = .index t y j) (ht : arrE P t = some e) (hl : e.1 = len) (hag : aggOk P e.2 true = true) (hsz : szOk P e.2 sz = true) (hx : chkOpd x y = true) (hi : chkOpd i j = true)
    (he : aop (.ixan len sz x i) F h = some (v, h')) (hc : Cpl φ S h w) (hf : FRel φ S w F a.tmps) : OpOk P a o w (Good h φ S w v h') := by
  simp only [aop, obind_some, ogrd_some, Option.some.injEq, Prod.mk.injEq, llen_eq, ltake_eq, ldrop_eq] at he
  obtain ⟨cs, hcs, n, hn, hlt, hle, rfl, rfl⟩ := he
  obtain ⟨k, hk⟩ := asNat_some hn
  have h2 := chkOpd_sound hi hf
  rw [hk] at h2
  have h2 := h2.int_inv
  have h1 := chkOpd_sound hx hf
  rw [asAgg_some hcs] at h1
  obtain ⟨vs, hvs, hrel⟩ := h1.agg_inv
  subst hl
  have hlt : n < e.1 := by simpa [Nat.blt_eq] using hlt
  have hle : n * sz + sz ≤ cs.length := by have := Nat.le_of_ble_eq_true hle; rw [← Nat.succ_mul]; exact this
  exact .pure (by simp [execOp, ho, Instr.index, run_underlying (arrE_u ht), h2, hvs, asIntOf, hlt, szOk_run hsz, part_runn hag hsz]) hc (extract_rel hrel hle)

theorem op_tas {asserted : Nat} {z : AV} {x : Opd} {ok : Bool} {xt : TypeId} {y : Operand} (ho : o.op = .typeAssert y xt asserted ok)
    (ht : (match P.underlying asserted with | some (.interface _) => false | some _ => true | none => false) = true) (hz : zeroVOk P asserted z = true) (hx : chkOpd x y = true)
    (he : aop (.tas asserted z x ok) F h = some (v, h')) (hc : Cpl φ S h w) (hf : FRel φ S w F a.tmps) : OpOk P a o w (Good h φ S w v h') := by
  simp only [aop, obind_some, Option.some.injEq, Prod.mk.injEq] at he
  obtain ⟨v', hv', rfl, rfl⟩ := he
  obtain ⟨zv, hzr, hzv⟩ := zeroVOk_run hz w
  obtain ⟨d, hu, hd⟩ : ∃ d, P.underlying asserted = some d ∧ ∀ ms, d ≠ .interface ms := by
    cases hu : P.underlying asserted with
    | none => simp [hu] at ht
    | some d => exact ⟨d, rfl, fun ms e => by subst e; simp [hu] at ht⟩
  have h1 := chkOpd_sound hx hf
  generalize x.ev F = xv at *
  have two : ∀ (p : AV) (cp : Value) (b : Bool), VR φ S w p cp → VR φ S w (.tup [p, .bool b]) (.tuple #[cp, .bool b]) := fun p cp b hp => .tup _ _ rfl (fun i hi => by
    match i, hi with
    | 0, _ => exact hp
    | 1, _ => exact .bool b)
  unfold atas at hv'
  split at hv'
  · rename_i t' x'
    generalize hy : a.eval y = cy at h1
    cases h1
    rename_i cv hcv
    by_cases het : asserted = t'
    · subst het
      have : Nat.beq asserted asserted = true := Nat.beq_refl _
      rw [this] at hv'
      cases hv'
      cases ok
      · exact .pure (cv := cv) (by cases d <;> first | exact absurd rfl (hd _) | simp [execOp, ho, Instr.typeAssert, run_underlying hu, hy]) hc hcv
      · exact .pure (cv := .tuple #[cv, .bool true]) (by cases d <;> first | exact absurd rfl (hd _) | simp [execOp, ho, Instr.typeAssert, run_underlying hu, hy]) hc (two _ _ _ hcv)
    · have : Nat.beq asserted t' = false := by
        cases hh : Nat.beq asserted t' with
        | false => rfl
        | true => exact absurd (Nat.eq_of_beq_eq_true hh) het
      rw [this] at hv'
      simp only [cond_false, ogrd_some] at hv'
      obtain ⟨rfl, hv'⟩ := hv'
      cases hv'
      have het' : ¬ t' = asserted := fun e => het e.symm
      exact .pure (cv := .tuple #[zv, .bool false]) (by cases d <;> first | exact absurd rfl (hd _) | simp [execOp, ho, Instr.typeAssert, run_underlying hu, hy, het', hzr]) hc (two _ _ _ (hzv _ _ _))
  · rw [ogrd_some] at hv'
    obtain ⟨rfl, hv'⟩ := hv'
    cases hv'
    generalize hy : a.eval y = cy at h1
    cases h1
    exact .pure (cv := .tuple #[zv, .bool false]) (by cases d <;> first | exact absurd rfl (hd _) | simp [execOp, ho, Instr.typeAssert, run_underlying hu, hy, hzr]) hc (two _ _ _ (hzv _ _ _))
  · cases hv'

theorem slen_some {x : AV} {n : Nat} {c : Value} (hs : slen x = some n) (hv : VR φ S w x c) : ∃ p cap, c = .slice p n cap ∧ n ≤ cap := by
  unfold slen at hs
  split at hs
  · cases hs; cases hv; exact ⟨_, _, rfl, Nat.le_refl _⟩
  · cases hs; cases hv; exact ⟨_, _, rfl, Nat.zero_le _⟩
  · cases hs; cases hv; exact ⟨_, _, rfl, ‹_›⟩
  · cases hs; cases hv; exact ⟨_, _, rfl, ‹_›⟩
  · cases hs

theorem mapOf_some {x : AV} {es : List (AV × AV × Nat)} {c : Value} (hm : mapOf h x = some es) (hc : Cpl φ S h w) (hv : VR φ S w x c) :
    (c = .map none ∧ es = []) ∨ ∃ r ces clk, c = .map (some r) ∧ w.heap[r]? = some (.map ces clk) ∧ ces.size = es.length ∧
      (∀ i, i < es.length → VR φ S w (es.getD i (.bot, .bot, 0)).1 (ces.getD i default).key) ∧ (∀ i, i < es.length → VR φ S w (es.getD i (.bot, .bot, 0)).2.1 (ces.getD i default).val) ∧
      (∀ i, i < es.length → (es.getD i (.bot, .bot, 0)).2.2 = (ces.getD i default).born) := by
  unfold mapOf at hm
  split at hm
  · cases hm; cases hv; exact .inl ⟨rfl, rfl⟩
  · cases hm
    obtain ⟨b, ces, hcv, _, ho, hn, hk, hv', hb⟩ := hv.pm_inv
    exact .inr ⟨b, ces, _, hcv, ho, hn, fun i hi => (hk i hi).up, fun i hi => (hv' i hi).up, hb⟩
  · rename_i id
    rw [obind_some] at hm
    obtain ⟨p, hp, hm⟩ := hm
    cases hm
    obtain ⟨b, tot, hφ, rfl⟩ := hv.mp_inv
    have ho := oMp_some hp
    obtain ⟨b', base', tot', hφ', hnS, hor⟩ := hc.obj id (by rw [ho]; simp)
    rw [hφ] at hφ'; cases hφ'
    rw [ho] at hor
    obtain ⟨_, ces, e1, e2, e3, e4, e5⟩ := hor
    exact .inr ⟨b, ces, _, rfl, e1, e2, e3, e4, e5⟩
  · cases hm

theorem op_len {k : Nat} {x : Opd} {c : Call} {y : Operand} {t : TypeId} (ho : o.op = .call c) (hcl : c.callee = .builtin .len) (hca : c.args[0]? = some y) (hct : c.argTypes[0]? = some t)
    (ht : (match P.underlying t with | some .string => k == 0 | some (.slice _) => k == 1 | some (.map ..) => decide (2 ≤ k) | _ => false) = true) (hx : chkOpd x y = true)
    (he : aop (.len k x) F h = some (v, h')) (hc : Cpl φ S h w) (hf : FRel φ S w F a.tmps) : OpOk P a o w (Still φ S w v h h') := by
  simp only [aop, obind_some, Option.some.injEq, Prod.mk.injEq] at he
  obtain ⟨v', hn, rfl, rfl⟩ := he
  have h1 := chkOpd_sound hx hf
  have harg : (c.args.map a.eval)[0]? = some (a.eval y) := by simp [hca]
  generalize x.ev F = xv at *
  unfold alenv at hn
  split at hn
  · rename_i lo hi s
    rw [ogrd_some] at hn
    obtain ⟨hk, hn⟩ := hn
    cases hn
    have hk := Nat.eq_of_beq_eq_true hk
    subst hk
    obtain ⟨s', hs, hb, b1, b2⟩ := h1.strb_inv
    rw [llen_eq]
    refine .still (cv := .int .i64 (s.length : Int)) ?_ hc (.nb _ _ _ b1 b2)
    simp only [execOp, ho, resolve, hcl, Sem.run_bind, Sem.run_pure, Result.andThen_ok, invoke, builtin, Builtin.len_, hct, harg]
    split at ht
    · rename_i hu
      rw [← bytes_length s' s hb]
      simp [hs, run_underlying hu]
      rfl
    · simp at ht
    · simp at ht
    · cases ht
  rw [obind_some] at hn
  obtain ⟨n, hn, hv⟩ := hn
  cases hv
  refine .still (cv := goInt n) ?_ hc (.int _ _)
  simp only [execOp, ho, resolve, hcl, Sem.run_bind, Sem.run_pure, Result.andThen_ok, invoke, builtin, Builtin.len_, hct, harg]
  unfold alen at hn
  split at ht
  · rename_i hu
    simp only [beq_iff_eq] at ht
    subst ht
    simp only [obind_some, Option.some.injEq, llen_eq] at hn
    obtain ⟨l, hl, rfl⟩ := hn
    rw [asStr_some hl] at h1
    obtain ⟨s, hs, hb⟩ := h1.str_inv
    rw [← bytes_length s l hb]
    simp [hs, run_underlying hu]
  · rename_i hu
    simp only [beq_iff_eq] at ht
    subst ht
    obtain ⟨p, cap, hs, _⟩ := slen_some hn h1
    simp [hs, run_underlying hu]
  · rename_i hu
    simp only [decide_eq_true_eq] at ht
    obtain ⟨k', rfl⟩ : ∃ k', k = k' + 2 := ⟨k - 2, by omega⟩
    simp only [obind_some, Option.some.injEq, llen_eq] at hn
    obtain ⟨es, hes, rfl⟩ := hn
    rcases mapOf_some hes hc h1 with ⟨hcv, rfl⟩ | ⟨r, ces, clk, hcv, hob, hsz, _⟩
    · simp [hcv, run_underlying hu]
    · simp [hcv, run_underlying hu, getObj, Sem.run, hob, hsz]
  · cases ht

theorem bnd_some {d n : Nat} {x : Option Opd} {y : Option Operand} (hb : bnd F d x = some n) (hx : chkO x y = true) (hf : FRel φ S w F a.tmps) :
    (y = none ∧ x = none ∧ n = d) ∨ ∃ y' k, y = some y' ∧ x.isSome = true ∧ a.eval y' = .int k n := by
  cases x with
  | none =>
    cases y with
    | none => cases hb; exact .inl ⟨rfl, rfl, rfl⟩
    | some y => cases hx
  | some x =>
    cases y with
    | none => cases hx
    | some y =>
      obtain ⟨k, hk⟩ := asNat_some (show asNat (Opd.ev F x) = some n from hb)
      have h1 := chkOpd_sound (φ := φ) (S := S) (w := w) (a := a) (show chkOpd x y = true from hx) hf
      rw [hk] at h1
      exact .inr ⟨y, k, rfl, rfl, h1.int_inv⟩

theorem sliceBounds_run {isSlice : Bool} {len cap l u m : Nat} {lo hi mx : Option Value}
    (hlo : (lo = none ∧ l = 0) ∨ ∃ k, lo = some (.int k l)) (hhi : (hi = none ∧ u = len) ∨ ∃ k, hi = some (.int k u)) (hmx : (mx = none ∧ m = cap) ∨ ∃ k, mx = some (.int k m))
    (hn : mx.isSome = true → hi.isSome = true) (h1 : l ≤ u) (h2 : u ≤ m) (h3 : m ≤ cap) : (Instr.sliceBounds isSlice len cap lo hi mx).run P w = .ok (l, u, m) w := by
  have b : ∀ (k : IntKind) (n y : Nat) (c : BoundsCode), n ≤ y → (Instr.sliceBound (.int k n) y c).run P w = .ok n w := fun k n y c hle => by
    have : (0 : Int) ≤ n ∧ (n : Int) ≤ y := ⟨by omega, by omega⟩
    simp [Instr.sliceBound, asIntOf, hle]
  unfold Instr.sliceBounds
  rcases hmx with ⟨rfl, rfl⟩ | ⟨km, rfl⟩
  · rcases hhi with ⟨rfl, rfl⟩ | ⟨kh, rfl⟩ <;> rcases hlo with ⟨rfl, rfl⟩ | ⟨kl, rfl⟩ <;> simp [b, h1, h2]
  · rcases hhi with ⟨rfl, rfl⟩ | ⟨kh, rfl⟩
    · simp at hn
    · rcases hlo with ⟨rfl, rfl⟩ | ⟨kl, rfl⟩ <;> simp [b, h1, h2, h3]

theorem op_sls {x : Opd} {lo hi : Option Opd} {t : TypeId} {y : Operand} {l' h'' : Option Operand} (ho : o.op = .slice t y l' h'' none) (ht : isStrT P t = true) (hx : chkOpd x y = true) (hlo : chkO lo l' = true) (hhi : chkO hi h'' = true)
    (he : aop (.sls x lo hi) F h = some (v, h')) (hc : Cpl φ S h w) (hf : FRel φ S w F a.tmps) : OpOk P a o w (Good h φ S w v h') := by
  simp only [aop, obind_some, ogrd_some, Option.some.injEq, Prod.mk.injEq, llen_eq, ltake_eq, ldrop_eq] at he
  obtain ⟨s, hs, l, hl, u, hu, h1, h2, rfl, rfl⟩ := he
  have h1 := Nat.le_of_ble_eq_true h1
  have h2 := Nat.le_of_ble_eq_true h2
  have hv := chkOpd_sound hx hf
  rw [asStr_some hs] at hv
  obtain ⟨t', ht', hb⟩ := hv.str_inv
  have hsz := bytes_length t' s hb
  have hsb : (Instr.sliceBounds false t'.size t'.size (l'.map a.eval) (h''.map a.eval) none).run P w = .ok (l, u, t'.size) w := by
    refine sliceBounds_run ?_ ?_ (.inl ⟨rfl, rfl⟩) (by simp) h1 (by omega) (Nat.le_refl _)
    · rcases bnd_some hl hlo hf with ⟨rfl, _, rfl⟩ | ⟨y', k, rfl, _, e⟩
      · exact .inl ⟨rfl, rfl⟩
      · exact .inr ⟨k, by simp [e]⟩
    · rcases bnd_some hu hhi hf with ⟨rfl, _, rfl⟩ | ⟨y', k, rfl, _, e⟩
      · exact .inl ⟨rfl, by omega⟩
      · exact .inr ⟨k, by simp [e]⟩
  refine .pure (cv := .string (t'.extract l u)) ?_ hc (.str _ _ ?_)
  · simp [execOp, ho, Instr.sliceAt, run_underlying (isStrT_u ht), Instr.slice, ht', hsb]
  · subst hb
    simp [← List.map_drop, ← List.map_take, List.extract]

end
end Go.Am
