import Derived.Test.YtnacifjcjnhgpaaGreatDoorAmC
import Derived.ScopeJumps
import Derived.Laws.Sem
set_option linter.all false
namespace Go.Am
open Go

def concB (P : Program) (t : TypeId) : Bool := match P.underlying t with | some (.interface _) => false | some _ => true | none => false
def constB : Option Operand → Bool
  | none => true
  | some (.const (.int _ _)) => true
  | _ => false
def intB (P : Program) (t : TypeId) (k : IntKind) : Bool := match P.underlying t with | some (.int k') => decide (k' = k) | _ => false
def oany {α : Type} (o : Option α) (p : α → Bool) : Bool := match o with | some e => p e | none => false
def fieldB (P : Program) (t : TypeId) (fi : Nat) (p : Field → Bool) : Bool := match structE P t with | some fs => (match fs[fi]? with | some f => p f | none => false) | none => false
def sz1 (P : Program) (t : TypeId) : Bool := match P.info? t with | some i => i.size != 0 | none => false
def lenB (P : Program) (k : Nat) (t : TypeId) : Bool := match P.underlying t with | some .string => k == 0 | some (.slice _) => k == 1 | some (.map ..) => decide (2 ≤ k) | _ => false
def makeB (P : Program) (e : TypeId) (z : List AV) : Bool := oany (P.info? e) fun i => oany i.zero fun zv => cellsB z zv.cells && i.size == z.length && decide (i.bytes ≤ 1048576)
def appB (P : Program) (e : TypeId) (sz : Nat) : Bool := oany (P.info? e) fun i => oany i.zero fun zv => i.size == sz && zv.cells.size == sz && decide (i.bytes ≤ 131072)
def isB (c : Call) (b : Builtin) : Bool := match c.callee with | .builtin b' => decide (b' = b) | _ => false
def arg0 (c : Call) (p : Operand → TypeId → Bool) : Bool := match c.args[0]?, c.argTypes[0]? with | some x, some t => p x t | _, _ => false

/-- an operation of ours is the model's -/
def chkOp (P : Program) (ao : AOp) (o : Op) : Bool :=
  match ao with
  | .mv x => match o with | .move y => chkOpd x y | .assign y => chkOpd x y | _ => false
  | .pick c a b => match o with | .pick c' a' b' => chkOpd c c' && chkOpd a a' && chkOpd b b' | _ => false
  | .new t z => match o with | .alloc t' => t' == t && zeroOk P t z | _ => false
  | .box x => match o with | .box _ y => chkOpd x y | _ => false
  | .bld z ps => match o with
    | .build t qs => zeroOk P t z && ((oany (structE P t) fun fs => infosOk P fs && chkParts (fun i => (fieldPl P fs)[i]?) ps qs.toList) ||
        (oany (arrE P t) fun e => szOk P e.2 (P.cellsOf e.2) && chkParts (fun i => some (i * P.cellsOf e.2, P.cellsOf e.2)) ps qs.toList))
    | _ => false
  | .bsl z len sz ps => match o with
    | .buildSlice t len' qs => (oany (sliceE P t) fun e => zeroOk P e z && z.length == sz && szOk P e sz && len' == len && decide (len * sz ≤ 16777216) && chkParts (fun i => some (i * sz, sz)) ps qs.toList)
    | _ => false
  | .ld1 x => match o with | .load t y => aggOk P t false && chkOpd x y | _ => false
  | .ldn n x => match o with | .load t y => aggOk P t true && szOk P t n && chkOpd x y | _ => false
  | .st n x v => match o with | .store t y u => szOk P t n && chkOpd x y && chkOpd v u | _ => false
  | .nck x => match o with | .nilCheck y => chkOpd x y | _ => false
  | .bin op x y => match o with | .binOp op' _ x' y' _ => decide (op = op') && chkOpd x x' && chkOpd y y' | _ => false
  | .eqn k neg x y => match o with | .binOp op' t x' y' _ => decide (op' = bif neg then .neq else .eql) && eqOk P k t && (k != 5 || Region.isConst x' || Region.isConst y') && chkOpd x x' && chkOpd y y' | _ => false
  | .un op x => match o with | .unOp op' _ y => decide (op = op') && chkOpd x y | _ => false
  | .cvt k x => match o with | .convert s d y => uOk P s && intB P d k && chkOpd x y | _ => false
  | .cvs x => match o with | .convert s d y => isStrT P s && isStrT P d && chkOpd x y | _ => false
  | .s2b x => match o with | .convert s d y => isStrT P s && (oany (sliceE P d) fun e => isU8 P e) && chkOpd x y | _ => false
  | .b2s x => match o with | .convert s d y => isStrT P d && (oany (sliceE P s) fun e => isU8 P e) && chkOpd x y | _ => false
  | .mki t x => match o with | .makeInterface t' y => t' == t && concB P t && chkOpd x y | _ => false
  | .mkf f a b => match o with | .makeFunc f' a' b' => decide (f = f') && chkOpds a a' && chkOpds b b' | _ => false
  | .mkm => match o with | .makeMap t r => (mapE P t).isSome && constB r | _ => false
  | .mks z len cap => match o with | .makeSlice t l c => (oany (sliceE P t) fun e => makeB P e z) && chkOpd len l && chkOpd cap c | _ => false
  | .sls x lo hi => match o with | .slice t y l h m => isStrT P t && chkOpd x y && chkO lo l && chkO hi h && m.isNone | _ => false
  | .slc sz x lo hi mx => match o with | .slice t y l h m => (oany (sliceE P t) fun e => szOk P e sz) && chkOpd x y && chkO lo l && chkO hi h && chkO mx m && (m.isNone || h.isSome) | _ => false
  | .sla n sz x lo hi => match o with
    | .slice t y l h m => chkOpd x y && chkO lo l && chkO hi h && m.isNone && ((oany (arrE P t) fun e => e.1 == n && szOk P e.2 sz) || (oany (ptrE P t) fun pt => (oany (arrE P pt) fun e => e.1 == n && szOk P e.2 sz)))
    | _ => false
  | .fa off x => match o with | .fieldAddr t y fi => fieldB P t fi (fun f => f.offset == off && sz1 P f.type) && chkOpd x y | _ => false
  | .fld1 off x => match o with | .field t y fi => fieldB P t fi (fun f => f.offset == off && aggOk P f.type false) && chkOpd x y | _ => false
  | .fldn off n x => match o with | .field t y fi => fieldB P t fi (fun f => f.offset == off && aggOk P f.type true && szOk P f.type n) && chkOpd x y | _ => false
  | .ia sz x i => match o with | .indexAddr t y j => (oany (sliceE P t) fun e => szOk P e sz) && chkOpd x y && chkOpd i j | _ => false
  | .iaa len sz x i => match o with | .indexAddr t y j => (oany (arrE P t) fun e => e.1 == len && szOk P e.2 sz) && chkOpd x y && chkOpd i j | _ => false
  | .ixs x i => match o with | .index t y j => isStrT P t && chkOpd x y && chkOpd i j | _ => false
  | .ixa1 len x i => match o with | .index t y j => (oany (arrE P t) fun e => e.1 == len && aggOk P e.2 false && szOk P e.2 1) && chkOpd x y && chkOpd i j | _ => false
  | .ixan len sz x i => match o with | .index t y j => (oany (arrE P t) fun e => e.1 == len && aggOk P e.2 true && szOk P e.2 sz) && chkOpd x y && chkOpd i j | _ => false
  | .lkp kk z ok x i => match o with | .lookup t y j ok' => (oany (mapE P t) fun e => keyOk P kk e.1 && zeroVOk P e.2 z) && ok == ok' && chkOpd x y && chkOpd i j | _ => false
  | .mup kk m k v => match o with
    | .mapUpdate t m' k' v' => (oany (mapE P t) fun e => keyOk P kk e.1) && chkOpd m m' && chkOpd k k' && chkOpd v v'
    | .insert t m' k' v' => (oany (mapE P t) fun e => keyOk P kk e.1) && chkOpd m m' && chkOpd k k' && chkOpd v v'
    | _ => false
  | .rng x => match o with | .range t y => isStrT P t && chkOpd x y | _ => false
  | .nxt x => match o with | .next y true => chkOpd x y | _ => false
  | .tas t z x ok => match o with | .typeAssert y _ t' ok' => t' == t && ok == ok' && concB P t && zeroVOk P t z && chkOpd x y | _ => false
  | .ext x i => match o with | .extract y i' => i == i' && chkOpd x y | _ => false
  | .len k x => match o with | .call c => isB c .len && arg0 c (fun y t => lenB P k t && chkOpd x y) | _ => false
  | .app te sz x y => match o with
    | .call c => isB c .append && (match c.args.toList with | [x', y'] => chkOpd x x' && chkOpd y y' | _ => false) && (oany (c.argTypes[0]?) fun t => (oany (sliceE P t) fun e => e == te && appB P e sz)) && notInt P c.argTypes[1]?
    | _ => false
  | .mn l => match o with | .call c => isB c .min && chkOpds l c.args | _ => false
  | .mx l => match o with | .call c => isB c .max && chkOpds l c.args | _ => false
  | .del kk m k => match o with
    | .call c => isB c .delete && (match c.args[0]?, c.args[1]?, c.argTypes[0]? with | some m', some k', some t => chkOpd m m' && chkOpd k k' && (oany (mapE P t) fun e => keyOk P kk e.1) | _, _, _ => false)
    | _ => false
  | .rcv => match o with | .call c => isB c .recover && c.args.size == 0 | _ => false
  | .bad => true
  | _ => false

theorem isB_callee {c : Call} {b : Builtin} (h : isB c b = true) : c.callee = .builtin b := by
  unfold isB at h
  split at h
  · rename_i hc; simp at h; rw [hc, h]
  · cases h
theorem fieldB_some {P : Program} {t : TypeId} {fi : Nat} {p : Field → Bool} (h : fieldB P t fi p = true) : ∃ fs f, structE P t = some fs ∧ fs[fi]? = some f ∧ p f = true := by
  unfold fieldB at h
  split at h
  · split at h
    · exact ⟨_, _, ‹_›, ‹_›, h⟩
    · cases h
  · cases h
theorem opt_some {α : Type} {o : Option α} {p : α → Bool} (h : oany o p = true) : ∃ e, o = some e ∧ p e = true := by
  cases o with
  | none => cases h
  | some e => exact ⟨e, rfl, h⟩
theorem sz1_some {P : Program} {t : TypeId} (h : sz1 P t = true) : ∃ n, szOk P t n = true ∧ n ≠ 0 := by
  unfold sz1 at h
  split at h
  · rename_i i hi
    exact ⟨i.size, by simp [szOk, hi], by simpa using h⟩
  · cases h

theorem aop_sound {P : Program} {φ : Phi} {S : Sea} {w : World} {F : Fr} {a : Act} {h h' : Heap} {v : AV} {o : Oper} {ao : AOp} (hk : chkOp P ao o.op = true)
    (he : aop ao F h = some (v, h')) (hc : Cpl φ S h w) (hf : FRel φ S w F a.tmps) : OpOk P a o w (Good h φ S w v h') := by
  unfold chkOp at hk
  split at hk
  · split at hk
    · exact op_mv (.inl ‹_›) hk he hc hf
    · exact op_mv (.inr ‹_›) hk he hc hf
    · cases hk
  · split at hk
    · simp only [Bool.and_eq_true] at hk
      exact op_pick ‹_› hk.1.1 hk.1.2 hk.2 he hc hf
    · cases hk
  · split at hk
    · simp only [Bool.and_eq_true, beq_iff_eq] at hk
      obtain ⟨rfl, hk⟩ := hk
      exact op_new ‹_› hk he hc
    · cases hk
  · split at hk
    · exact op_box ‹_› hk he hc hf
    · cases hk
  · split at hk
    · simp only [Bool.and_eq_true, Bool.or_eq_true] at hk
      obtain ⟨hz, hk | hk⟩ := hk
      · obtain ⟨fs, hfs, hk⟩ := opt_some hk
        simp only [Bool.and_eq_true] at hk
        exact op_bld_struct ‹_› hfs hz hk.1 hk.2 he hc hf
      · obtain ⟨e, hfs, hk⟩ := opt_some hk
        simp only [Bool.and_eq_true] at hk
        exact op_bld_array ‹_› hfs hz hk.1 hk.2 he hc hf
    · cases hk
  · split at hk
    · obtain ⟨e, hfs, hk⟩ := opt_some hk
      simp only [Bool.and_eq_true, beq_iff_eq, decide_eq_true_eq] at hk
      obtain ⟨⟨⟨⟨⟨k1, k2⟩, k3⟩, k4⟩, k5⟩, k6⟩ := hk
      subst k4
      exact op_bsl ‹_› hfs k1 k2 k3 k5 k6 he hc hf
    · cases hk
  · split at hk
    · simp only [Bool.and_eq_true] at hk
      exact (op_ld1 ‹_› hk.1 hk.2 he hc hf).good hc
    · cases hk
  · split at hk
    · simp only [Bool.and_eq_true] at hk
      exact (op_ldn ‹_› hk.1.1 hk.1.2 hk.2 he hc hf).good hc
    · cases hk
  · split at hk
    · simp only [Bool.and_eq_true] at hk
      exact op_st ‹_› hk.1.1 hk.1.2 hk.2 he hc hf
    · cases hk
  · split at hk
    · exact op_nck ‹_› hk he hc hf
    · cases hk
  · split at hk
    · simp only [Bool.and_eq_true, decide_eq_true_eq] at hk
      obtain ⟨⟨rfl, k1⟩, k2⟩ := hk
      exact op_bin ‹_› k1 k2 he hc hf
    · cases hk
  · split at hk
    · simp only [Bool.and_eq_true, decide_eq_true_eq] at hk
      obtain ⟨⟨⟨⟨rfl, k1⟩, k2⟩, k3⟩, k4⟩ := hk
      refine op_eqn ‹_› k1 (fun h5 => ?_) k3 k4 he hc hf
      subst h5
      simpa using k2
    · cases hk
  · split at hk
    · simp only [Bool.and_eq_true, decide_eq_true_eq] at hk
      obtain ⟨rfl, k1⟩ := hk
      exact op_un ‹_› k1 he hc hf
    · cases hk
  · split at hk
    · simp only [Bool.and_eq_true] at hk
      have hk2 := hk.1.2
      unfold intB at hk2
      split at hk2
      · simp only [decide_eq_true_eq] at hk2
        subst hk2
        exact op_cvt ‹_› hk.1.1 ‹_› hk.2 he hc hf
      · cases hk2
    · cases hk
  · split at hk
    · simp only [Bool.and_eq_true] at hk
      exact op_cvs ‹_› hk.1.1 hk.1.2 hk.2 he hc hf
    · cases hk
  · split at hk
    · simp only [Bool.and_eq_true] at hk
      obtain ⟨e, he1, he2⟩ := opt_some hk.1.2
      exact op_s2b ‹_› hk.1.1 he1 he2 hk.2 he hc hf
    · cases hk
  · split at hk
    · simp only [Bool.and_eq_true] at hk
      obtain ⟨e, he1, he2⟩ := opt_some hk.1.2
      exact (op_b2s ‹_› he1 hk.1.1 he2 hk.2 he hc hf).good hc
    · cases hk
  · split at hk
    · simp only [Bool.and_eq_true, beq_iff_eq] at hk
      obtain ⟨⟨rfl, k1⟩, k2⟩ := hk
      exact op_mki ‹_› k1 k2 he hc hf
    · cases hk
  · split at hk
    · simp only [Bool.and_eq_true, decide_eq_true_eq] at hk
      obtain ⟨⟨rfl, k1⟩, k2⟩ := hk
      exact op_mkf ‹_› k1 k2 he hc hf
    · cases hk
  · split at hk
    · simp only [Bool.and_eq_true] at hk
      refine op_mkm ‹_› hk.1 ?_ he hc
      have := hk.2
      unfold constB at this
      split at this <;> first | rfl | cases this
    · cases hk
  · split at hk
    · simp only [Bool.and_eq_true] at hk
      obtain ⟨e, he1, he2⟩ := opt_some hk.1.1
      unfold makeB at he2
      obtain ⟨i, hi, he2⟩ := opt_some he2
      obtain ⟨zv, hz, he2⟩ := opt_some he2
      simp only [Bool.and_eq_true, beq_iff_eq, decide_eq_true_eq] at he2
      exact op_mks ‹_› he1 hi hz he2.1.1 he2.1.2 he2.2 hk.1.2 hk.2 he hc hf
    · cases hk
  · split at hk
    · simp only [Bool.and_eq_true, Option.isNone_iff_eq_none] at hk
      obtain ⟨⟨⟨⟨k1, k2⟩, k3⟩, k4⟩, rfl⟩ := hk
      exact op_sls ‹_› k1 k2 k3 k4 he hc hf
    · cases hk
  · split at hk
    · simp only [Bool.and_eq_true] at hk
      obtain ⟨⟨⟨⟨⟨k1, k2⟩, k3⟩, k4⟩, k5⟩, k6⟩ := hk
      obtain ⟨e, he1, he2⟩ := opt_some k1
      refine op_slc ‹_› he1 he2 (fun hm => ?_) k2 k3 k4 k5 he hc hf
      simp only [Bool.or_eq_true, Option.isNone_iff_eq_none] at k6
      rcases k6 with rfl | k6
      · simp at hm
      · exact k6
    · cases hk
  · split at hk
    · simp only [Bool.and_eq_true, Bool.or_eq_true, Option.isNone_iff_eq_none] at hk
      obtain ⟨⟨⟨⟨k1, k2⟩, k3⟩, rfl⟩, k4⟩ := hk
      rcases k4 with k4 | k4
      · obtain ⟨e, he1, he2⟩ := opt_some k4
        simp only [Bool.and_eq_true, beq_iff_eq] at he2
        exact (op_sla ‹_› (.inl he1) he2.1 he2.2 k1 k2 k3 he hc hf).good hc
      · obtain ⟨pt, hpt, k4⟩ := opt_some k4
        obtain ⟨e, he1, he2⟩ := opt_some k4
        simp only [Bool.and_eq_true, beq_iff_eq] at he2
        exact (op_sla ‹_› (.inr ⟨pt, hpt, he1⟩) he2.1 he2.2 k1 k2 k3 he hc hf).good hc
    · cases hk
  · split at hk
    · simp only [Bool.and_eq_true] at hk
      obtain ⟨fs, f, h1, h2, h3⟩ := fieldB_some hk.1
      simp only [Bool.and_eq_true, beq_iff_eq] at h3
      exact op_fa ‹_› h1 h2 h3.1 (sz1_some h3.2) hk.2 he hc hf
    · cases hk
  · split at hk
    · simp only [Bool.and_eq_true] at hk
      obtain ⟨fs, f, h1, h2, h3⟩ := fieldB_some hk.1
      simp only [Bool.and_eq_true, beq_iff_eq] at h3
      exact op_fld1 ‹_› h1 h2 h3.1 h3.2 hk.2 he hc hf
    · cases hk
  · split at hk
    · simp only [Bool.and_eq_true] at hk
      obtain ⟨fs, f, h1, h2, h3⟩ := fieldB_some hk.1
      simp only [Bool.and_eq_true, beq_iff_eq] at h3
      exact op_fldn ‹_› h1 h2 h3.1.1 h3.1.2 h3.2 hk.2 he hc hf
    · cases hk
  · split at hk
    · simp only [Bool.and_eq_true] at hk
      obtain ⟨e, he1, he2⟩ := opt_some hk.1.1
      exact op_ia ‹_› he1 he2 hk.1.2 hk.2 he hc hf
    · cases hk
  · split at hk
    · simp only [Bool.and_eq_true] at hk
      obtain ⟨e, he1, he2⟩ := opt_some hk.1.1
      simp only [Bool.and_eq_true, beq_iff_eq] at he2
      exact op_iaa ‹_› he1 he2.1 he2.2 hk.1.2 hk.2 he hc hf
    · cases hk
  · split at hk
    · simp only [Bool.and_eq_true] at hk
      exact op_ixs ‹_› hk.1.1 hk.1.2 hk.2 he hc hf
    · cases hk
  · split at hk
    · simp only [Bool.and_eq_true] at hk
      obtain ⟨e, he1, he2⟩ := opt_some hk.1.1
      simp only [Bool.and_eq_true, beq_iff_eq] at he2
      exact op_ixa1 ‹_› he1 he2.1.1 he2.1.2 he2.2 hk.1.2 hk.2 he hc hf
    · cases hk
  · split at hk
    · simp only [Bool.and_eq_true] at hk
      obtain ⟨e, he1, he2⟩ := opt_some hk.1.1
      simp only [Bool.and_eq_true, beq_iff_eq] at he2
      exact op_ixan ‹_› he1 he2.1.1 he2.1.2 he2.2 hk.1.2 hk.2 he hc hf
    · cases hk
  · split at hk
    · simp only [Bool.and_eq_true, beq_iff_eq] at hk
      obtain ⟨⟨⟨k1, rfl⟩, k2⟩, k3⟩ := hk
      obtain ⟨e, he1, he2⟩ := opt_some k1
      simp only [Bool.and_eq_true] at he2
      exact (op_lkp ‹_› he1 he2.1 he2.2 k2 k3 he hc hf).good hc
    · cases hk
  · split at hk
    · simp only [Bool.and_eq_true] at hk
      obtain ⟨e, he1, he2⟩ := opt_some hk.1.1.1
      exact op_mup (.inl ‹_›) he1 he2 hk.1.1.2 hk.1.2 hk.2 he hc hf
    · simp only [Bool.and_eq_true] at hk
      obtain ⟨e, he1, he2⟩ := opt_some hk.1.1.1
      exact op_mup (.inr ‹_›) he1 he2 hk.1.1.2 hk.1.2 hk.2 he hc hf
    · cases hk
  · split at hk
    · simp only [Bool.and_eq_true] at hk
      exact op_rng ‹_› hk.1 hk.2 he hc hf
    · cases hk
  · split at hk
    · exact op_nxt ‹_› hk he hc hf
    · cases hk
  · split at hk
    · simp only [Bool.and_eq_true, beq_iff_eq] at hk
      obtain ⟨⟨⟨⟨rfl, rfl⟩, k1⟩, k2⟩, k3⟩ := hk
      exact op_tas ‹_› k1 k2 k3 he hc hf
    · cases hk
  · split at hk
    · simp only [Bool.and_eq_true, beq_iff_eq] at hk
      obtain ⟨rfl, k1⟩ := hk
      exact op_ext ‹_› k1 he hc hf
    · cases hk
  · split at hk
    · simp only [Bool.and_eq_true] at hk
      have hk2 := hk.2
      unfold arg0 at hk2
      split at hk2
      · simp only [Bool.and_eq_true] at hk2
        exact (op_len ‹_› (isB_callee hk.1) ‹_› ‹_› hk2.1 hk2.2 he hc hf).good hc
      · cases hk2
    · cases hk
  · split at hk
    · simp only [Bool.and_eq_true] at hk
      obtain ⟨⟨⟨k1, k2⟩, k3⟩, k4⟩ := hk
      split at k2
      · rename_i x' y' hargs
        simp only [Bool.and_eq_true] at k2
        obtain ⟨t, ht, k3⟩ := opt_some k3
        obtain ⟨e, he1, k5⟩ := opt_some k3
        simp only [Bool.and_eq_true, beq_iff_eq] at k5
        obtain ⟨hte, k6⟩ := k5
        subst hte
        unfold appB at k6
        obtain ⟨i, hi, k3⟩ := opt_some k6
        obtain ⟨zv, hz, k3⟩ := opt_some k3
        simp only [Bool.and_eq_true, beq_iff_eq, decide_eq_true_eq] at k3
        exact op_app ‹_› (isB_callee k1) (by apply Array.ext'; rw [hargs]) ht he1 hi hz k3.1.1 k3.1.2 k3.2 k4 k2.1 k2.2 he hc hf
      · cases k2
    · cases hk
  · split at hk
    · simp only [Bool.and_eq_true] at hk
      exact op_mnmx (mx := false) ‹_› (isB_callee hk.1) hk.2 he hc hf
    · cases hk
  · split at hk
    · simp only [Bool.and_eq_true] at hk
      exact op_mnmx (mx := true) ‹_› (isB_callee hk.1) hk.2 he hc hf
    · cases hk
  · split at hk
    · simp only [Bool.and_eq_true] at hk
      have hk2 := hk.2
      split at hk2
      · simp only [Bool.and_eq_true] at hk2
        obtain ⟨e, he1, he2⟩ := opt_some hk2.2
        exact op_del ‹_› (isB_callee hk.1) ‹_› ‹_› ‹_› he1 he2 hk2.1.1 hk2.1.2 he hc hf
      · cases hk2
    · cases hk
  · split at hk
    · cases he
    · cases hk
  · cases he
  · cases hk

theorem aop_still {P : Program} {φ : Phi} {S : Sea} {w : World} {F : Fr} {a : Act} {h h' : Heap} {v : AV} {o : Oper} {ao : AOp} (hk : chkOp P ao o.op = true) (hcls : ao.cls = 1)
    (he : aop ao F h = some (v, h')) (hc : Cpl φ S h w) (hf : FRel φ S w F a.tmps) : OpOk P a o w (Still φ S w v h h') := by
  cases ao <;> first | (simp [AOp.cls] at hcls; done) | skip
  all_goals
    unfold chkOp at hk
    simp only [] at hk
    split at hk
  · simp only [Bool.and_eq_true] at hk
    exact op_ld1 ‹_› hk.1 hk.2 he hc hf
  · cases hk
  · simp only [Bool.and_eq_true] at hk
    exact op_ldn ‹_› hk.1.1 hk.1.2 hk.2 he hc hf
  · cases hk
  · simp only [Bool.and_eq_true] at hk
    obtain ⟨e, he1, he2⟩ := opt_some hk.1.2
    exact op_b2s ‹_› he1 hk.1.1 he2 hk.2 he hc hf
  · cases hk
  · simp only [Bool.and_eq_true, Bool.or_eq_true, Option.isNone_iff_eq_none] at hk
    obtain ⟨⟨⟨⟨k1, k2⟩, k3⟩, rfl⟩, k4⟩ := hk
    rcases k4 with k4 | k4
    · obtain ⟨e, he1, he2⟩ := opt_some k4
      simp only [Bool.and_eq_true, beq_iff_eq] at he2
      exact op_sla ‹_› (.inl he1) he2.1 he2.2 k1 k2 k3 he hc hf
    · obtain ⟨pt, hpt, k4⟩ := opt_some k4
      obtain ⟨e, he1, he2⟩ := opt_some k4
      simp only [Bool.and_eq_true, beq_iff_eq] at he2
      exact op_sla ‹_› (.inr ⟨pt, hpt, he1⟩) he2.1 he2.2 k1 k2 k3 he hc hf
  · cases hk
  · simp only [Bool.and_eq_true, beq_iff_eq] at hk
    obtain ⟨⟨⟨k1, rfl⟩, k2⟩, k3⟩ := hk
    obtain ⟨e, he1, he2⟩ := opt_some k1
    simp only [Bool.and_eq_true] at he2
    exact op_lkp ‹_› he1 he2.1 he2.2 k2 k3 he hc hf
  · cases hk
  · simp only [Bool.and_eq_true] at hk
    have hk2 := hk.2
    unfold arg0 at hk2
    split at hk2
    · simp only [Bool.and_eq_true] at hk2
      exact op_len ‹_› (isB_callee hk.1) ‹_› ‹_› hk2.1 hk2.2 he hc hf
    · cases hk2
  · cases hk

end Go.Am
namespace Go.Am
open Go

/-- a result stands for an ending -/
def ResR (φ : Phi) (S : Sea) (w : World) (r : ARes) (e : Ending) : Prop :=
  match r with
  | .ret v => ∃ cv, e = .returned cv ∧ VR φ S w v cv
  | .pan v => ∃ cv, e = .panicked [{ v := cv, recovered := false }] ∧ VR φ S w v cv

def Ent (P : Program) (f : FuncId) : Prop := ∃ fn c, P.funcs[f]? = some fn ∧ fn.body = some c ∧ (fn.name == "runtime.NumGoroutine") = false

/-- a call does what is said of it -/
def CallOk (P : Program) (f : FuncId) (args : List AV) (h : Heap) (r : ARes) (h' : Heap) : Prop :=
  Ent P f ∧ ∀ φ S w vs, Cpl φ S h w → VRs φ S w args vs → Calls P f vs w fun e w' => ∃ φ' S', Ext φ S w φ' S' w' ∧ Cpl φ' S' h' w' ∧ ResR φ' S' w' r e

/-- a pure function does what is said of it -/
def PurOk (P : Program) (f : FuncId) (g : List AV → Option ARes) : Prop :=
  ∀ args r, g args = some r → Ent P f ∧ ∀ S w vs, (∀ b, S b → b < w.heap.size) → GOk S w → VRs Phi.no S w args vs → Calls P f vs w fun e w' => ∃ S', Ext Phi.no S w Phi.no S' w' ∧ (∀ b, S' b → b < w'.heap.size) ∧ ResR Phi.no S' w' r e

theorem ent_run {P : Program} {f : FuncId} (h : Ent P f) (args : Array Value) (w : World) : (callFunc f args).run P w = .ok (.enter f args) w := by
  obtain ⟨fn, c, h1, h2, h3⟩ := h
  have h3' : ¬ fn.name = "runtime.NumGoroutine" := by simpa using h3
  simp [callFunc, h1, h2, h3']

/- closed values -/
theorem lrec_all {p : AV → Bool} : ∀ (l : List AV), (List.rec true (fun c _ r => p c && r) l : Bool) = true → ∀ x ∈ l, p x = true := by
  intro l
  induction l with
  | nil => simp
  | cons a l ih =>
    intro h x hx
    have h' : (p a && (List.rec true (fun c _ r => p c && r) l : Bool)) = true := h
    simp only [Bool.and_eq_true] at h'
    rcases List.mem_cons.1 hx with rfl | hx
    · exact h'.1
    · exact ih h'.2 x hx

theorem lrec_all2 {p : AV → Bool} (b : Bool) : ∀ (l : List AV), (List.rec b (fun c _ r => p c && r) l : Bool) = true → b = true ∧ ∀ x ∈ l, p x = true := by
  intro l
  induction l with
  | nil => intro h; exact ⟨h, by simp⟩
  | cons a l ih =>
    intro h
    have h' : (p a && (List.rec b (fun c _ r => p c && r) l : Bool)) = true := h
    simp only [Bool.and_eq_true] at h'
    obtain ⟨h1, h2⟩ := ih h'.2
    refine ⟨h1, fun x hx => ?_⟩
    rcases List.mem_cons.1 hx with rfl | hx
    · exact h'.1
    · exact h2 x hx

theorem getD_mem {l : List AV} {i : Nat} (hi : i < l.length) : l.getD i .bot ∈ l := by
  simp [List.getD, hi]

theorem closed_no {S : Sea} {w : World} : ∀ (n : Nat) (φ : Phi) (x : AV) (v : Value), closedB n x = true → VR φ S w x v → VR Phi.no S w x v := by
  intro n
  induction n with
  | zero => intro φ x v h; cases h
  | succ n ih =>
    intro φ x v h hv
    cases hv with
    | bot => cases (show false = true from h)
    | bool b => exact .bool b
    | int k n => exact .int k n
    | str l s hb => exact .str l s hb
    | nb lo hi n h1 h2 => exact .nb lo hi n h1 h2
    | strb lo hi l s hb h1 h2 => exact .strb lo hi l s hb h1 h2
    | md l n hm => exact .md l n hm
    | nilp => exact .nilp
    | ptr => cases (show false = true from h)
    | pp cs b o vs hS hc hr => exact .pp cs b o vs hS hc hr
    | nils => exact .nils
    | es full p cap hf => exact .es full p cap hf
    | ps full len cs b o cap vs hS hf hl hc hr => exact .ps full len cs b o cap vs hS hf hl hc hr
    | os => cases (show false = true from h)
    | nilm => exact .nilm
    | mp => cases (show false = true from h)
    | pm es clk b ces hS ho hn hk hv hb => exact .pm es clk b ces hS ho hn hk hv hb
    | fn f a c va vc ha hc hra hrc =>
      have h' : (List.rec (List.rec true (fun c _ r => closedB n c && r) c) (fun c _ r => closedB n c && r) a : Bool) = true := h
      obtain ⟨h1, h2⟩ := lrec_all2 _ a h'
      exact .fn f a c va vc ha hc (fun i hi => ih _ _ _ (h2 _ (getD_mem hi)) (hra i hi)) (fun i hi => ih _ _ _ (lrec_all _ h1 _ (getD_mem hi)) (hrc i hi))
    | nilf => exact .nilf
    | iface t x v hx => exact .iface t x v (ih _ _ _ h hx)
    | nili => exact .nili
    | agg cs vs hn hr =>
      have h' : (List.rec true (fun c _ r => closedB n c && r) cs : Bool) = true := h
      exact .agg cs vs hn (fun i hi => ih _ _ _ (lrec_all _ h' _ (getD_mem hi)) (hr i hi))
    | tup cs vs hn hr =>
      have h' : (List.rec true (fun c _ r => closedB n c && r) cs : Bool) = true := h
      exact .tup cs vs hn (fun i hi => ih _ _ _ (lrec_all _ h' _ (getD_mem hi)) (hr i hi))

theorem scalar_any {S S' : Sea} {w w' : World} : ∀ (n : Nat) (φ φ' : Phi) (x : AV) (v : Value), scalarB n x = true → VR φ S w x v → VR φ' S' w' x v := by
  intro n
  induction n with
  | zero => intro φ φ' x v h; cases h
  | succ n ih =>
    intro φ φ' x v h hv
    cases hv with
    | bot => cases (show false = true from h)
    | bool b => exact .bool b
    | int k n => exact .int k n
    | str l s hb => exact .str l s hb
    | nb lo hi n h1 h2 => exact .nb lo hi n h1 h2
    | strb lo hi l s hb h1 h2 => exact .strb lo hi l s hb h1 h2
    | md l n hm => exact .md l n hm
    | nilp => exact .nilp
    | ptr => cases (show false = true from h)
    | pp => cases (show false = true from h)
    | nils => exact .nils
    | es full p cap hf => exact .es full p cap hf
    | ps => cases (show false = true from h)
    | os => cases (show false = true from h)
    | nilm => exact .nilm
    | mp => cases (show false = true from h)
    | pm => cases (show false = true from h)
    | fn => cases (show false = true from h)
    | nilf => exact .nilf
    | iface => cases (show false = true from h)
    | nili => exact .nili
    | agg cs vs hn hr =>
      have h' : (List.rec true (fun c _ r => scalarB n c && r) cs : Bool) = true := h
      exact .agg cs vs hn (fun i hi => ih _ _ _ _ (lrec_all _ h' _ (getD_mem hi)) (hr i hi))
    | tup cs vs hn hr =>
      have h' : (List.rec true (fun c _ r => scalarB n c && r) cs : Bool) = true := h
      exact .tup cs vs hn (fun i hi => ih _ _ _ _ (lrec_all _ h' _ (getD_mem hi)) (hr i hi))

/-- all that is not written while a call lasts -/
def lentS (φ : Phi) (S : Sea) (h : Heap) : Sea := fun b => S b ∨ ∃ id x y, h.get id ≠ .dead ∧ φ id = some (b, x, y)

theorem lrec_opt {f : AV → Option AV} : ∀ (l r : List AV), (List.rec (some []) (fun c _ r => obind (f c) fun c => obind r fun r => some (c :: r)) l : Option (List AV)) = some r →
    r.length = l.length ∧ ∀ i, i < l.length → f (l.getD i .bot) = some (r.getD i .bot) := by
  intro l
  induction l with
  | nil => intro r h; cases h; exact ⟨rfl, fun i hi => absurd hi (by simp)⟩
  | cons a l ih =>
    intro r h
    have h' : (obind (f a) fun c => obind (List.rec (some []) (fun c _ r => obind (f c) fun c => obind r fun r => some (c :: r)) l : Option (List AV)) fun r => some (c :: r)) = some r := h
    rw [obind_some] at h'
    obtain ⟨c, hc, h'⟩ := h'
    rw [obind_some] at h'
    obtain ⟨r', hr', h'⟩ := h'
    cases h'
    obtain ⟨h1, h2⟩ := ih r' hr'
    refine ⟨by simp [h1], fun i hi => ?_⟩
    cases i with
    | zero => simpa using hc
    | succ i => simpa using h2 i (by simpa using hi)

theorem lend_ok {φ : Phi} {S : Sea} {h : Heap} {w : World} (hc : Cpl φ S h w) : ∀ (n : Nat) (x x' : AV) (v : Value), lend h n x = some x' → VR φ S w x v → VR Phi.no (lentS φ S h) w x' v := by
  have up : ∀ {x v}, VR Phi.no S w x v → VR Phi.no (lentS φ S h) w x v := fun hv => hv.mono (fun _ _ h => h) (fun _ h => .inl h) (fun _ _ => rfl)
  intro n
  induction n with
  | zero => intro x x' v he; cases he
  | succ n ih =>
    intro x x' v he hv
    cases hv with
    | bot => cases (show (none : Option AV) = some x' from he)
    | bool b => cases (show some (AV.bool b) = some x' from he); exact .bool b
    | int k n => cases (show some (AV.int k n) = some x' from he); exact .int k n
    | str l s h => cases (show some (AV.str l) = some x' from he); exact .str l s h
    | nb lo hi n h1 h2 => cases (show some (AV.nb lo hi n) = some x' from he); exact .nb lo hi n h1 h2
    | strb lo hi l s hb h1 h2 => cases (show some (AV.strb lo hi l) = some x' from he); exact .strb lo hi l s hb h1 h2
    | md l n h => cases (show some (AV.md l) = some x' from he); exact .md l n h
    | nilp => cases (show some AV.nilp = some x' from he); exact .nilp
    | ptr => cases (show (none : Option AV) = some x' from he)
    | pp cs b o vs hS hcc hr => cases (show some (AV.pp cs) = some x' from he); exact up (.pp cs b o vs hS hcc hr)
    | nils => cases (show some AV.nils = some x' from he); exact .nils
    | es full p cap hf => cases (show some (AV.es full) = some x' from he); exact .es full p cap hf
    | ps full len cs b o cap vs hS hf hl hcc hr => cases (show some (AV.ps full len cs) = some x' from he); exact up (.ps full len cs b o cap vs hS hf hl hcc hr)
    | os id off len sz cap b base tot vcap hφ hcap hl ht =>
      have he' : (obind (oCells (h.get id)) fun cs =>
          obind (List.rec (some []) (fun c _ r => obind (lend h n c) fun c => obind r fun r => some (c :: r)) (ltake (ldrop cs off) (Nat.mul len sz)) : Option (List AV)) fun cs => some (AV.ps false len cs)) = some x' := he
      simp only [obind_some, Option.some.injEq] at he'
      obtain ⟨cs, hcs, r, hr, rfl⟩ := he'
      obtain ⟨h1, h2⟩ := lrec_opt _ _ hr
      have hob := oCells_some hcs
      have hlive : h.get id ≠ .dead := by rw [hob]; simp
      obtain ⟨b', base', tot', hφ', hnS, hor⟩ := hc.obj id hlive
      rw [hφ] at hφ'; cases hφ'
      rw [hob] at hor
      obtain ⟨C, e, fr, hb, _, hfr, hsz, hlen, hrel⟩ := hor
      have hrl : r.length ≤ cs.length - off := by rw [h1, ltake_eq, ldrop_eq]; simp; exact Nat.min_le_right _ _
      refine .ps false len r b (base + off) vcap (fun i => C.getD (base + (off + i)) undef) (.inr ⟨id, _, _, hlive, hφ⟩) (fun h => by cases h) hl (fun i hi => ?_) (fun i hi => ?_)
      · have hlt : base + (off + i) < C.size := by omega
        simp [World.cell?, hb, Array.getD, hlt, Nat.add_assoc]
      · rw [h1] at hi
        have h3 := h2 i hi
        rw [ltake_eq, ldrop_eq] at hi h3
        simp only [List.length_take, List.length_drop] at hi
        have e1 : ((cs.drop off).take (Nat.mul len sz)).getD i .bot = cs.getD (off + i) .bot := by
          have : i < len * sz := by have : Nat.mul len sz = len * sz := rfl; omega
          simp [List.getD, this]
        rw [e1] at h3
        exact ih _ _ _ h3 (hrel (off + i) (by omega))
    | nilm => cases (show some AV.nilm = some x' from he); exact .nilm
    | mp => cases (show (none : Option AV) = some x' from he)
    | pm es clk b ces hS ho hn hk hv hb => cases (show some (AV.pm es clk) = some x' from he); exact up (.pm es clk b ces hS ho hn hk hv hb)
    | fn => cases (show (none : Option AV) = some x' from he)
    | nilf => cases (show some AV.nilf = some x' from he); exact .nilf
    | iface => cases (show (none : Option AV) = some x' from he)
    | nili => cases (show some AV.nili = some x' from he); exact .nili
    | agg cs vs hn hr =>
      have he' : (List.rec (some []) (fun c _ r => obind (lend h n c) fun c => obind r fun r => some (c :: r)) cs : Option (List AV)).map AV.agg = some x' := he
      obtain ⟨r, hr', rfl⟩ := Option.map_eq_some_iff.1 he'
      obtain ⟨h1, h2⟩ := lrec_opt _ _ hr'
      exact .agg r vs (by rw [h1]; exact hn) (fun i hi => ih _ _ _ (h2 i (by omega)) (hr i (by omega)))
    | tup => cases (show (none : Option AV) = some x' from he)

/-- a pure call changes nothing that was there -/
theorem callPure_quiet {P : Program} {f : FuncId} {g : List AV → Option ARes} {args : List AV} {h : Heap} {r : ARes} (hg : PurOk P f g) (he : callPure g args h = some r) :
    Ent P f ∧ ∀ φ S w vs, Cpl φ S h w → VRs φ S w args vs → Calls P f vs w fun e w' => ∃ S', Ext φ S w φ S' w' ∧ (∀ b, b < w.heap.size → w'.heap[b]? = w.heap[b]?) ∧
      (∀ b, S' b → b < w'.heap.size) ∧ (∀ b, S' b → S b ∨ w.heap.size ≤ b) ∧ ResR φ S' w' r e := by
  unfold callPure at he
  cases hcl : allB (closedB 12) args with
  | true =>
    rw [hcl] at he
    simp only [cond_true, obind_some, ogrd_some, Option.some.injEq] at he
    obtain ⟨r', hr, hrc, rfl⟩ := he
    obtain ⟨hent, hcall⟩ := hg args r' hr
    refine ⟨hent, fun φ S w vs hc hv => ?_⟩
    have hv' : VRs Phi.no S w args vs := ⟨hv.1, fun i hi => closed_no 12 _ _ _ (allB_true.1 hcl _ (getD_mem hi)) (hv.2 i hi)⟩
    refine (hcall S w vs hc.sea hc.gl hv').mono fun e w' ⟨S', hx, hS', hres⟩ => ?_
    have hnew : ∀ b, S' b → S b ∨ w.heap.size ≤ b := fun b hb => by
      rcases hx.newS b hb with h | ⟨id, x, h, _⟩ | h
      · exact .inl h
      · cases h
      · exact .inr h
    have hold : ∀ b, b < w.heap.size → w'.heap[b]? = w.heap[b]? := fun b hb => hx.foot b hb fun id x h => by cases h
    refine ⟨S', ⟨fun _ _ h => h, hx.sea, hx.keep, fun b hb _ => hold b hb, hx.size, fun b hb => (hnew b hb).elim .inl fun h => .inr (.inr h), fun id x h => .inl ⟨id, x, h, rfl⟩, hx.os, hx.out⟩, hold, hS', hnew, ?_⟩
    cases r' with
    | ret v => obtain ⟨cv, e1, e2⟩ := hres; exact ⟨cv, e1, e2.up⟩
    | pan v => obtain ⟨cv, e1, e2⟩ := hres; exact ⟨cv, e1, e2.up⟩
  | false =>
    rw [hcl] at he
    simp only [cond_false, obind_some, ogrd_some, Option.some.injEq] at he
    obtain ⟨args', ha, r', hr, hrc, rfl⟩ := he
    obtain ⟨hent, hcall⟩ := hg args' r' hr
    refine ⟨hent, fun φ S w vs hc hv => ?_⟩
    obtain ⟨h1, h2⟩ := lrec_opt (f := lend h 6) args args' ha
    have hv' : VRs Phi.no (lentS φ S h) w args' vs := ⟨by rw [h1]; exact hv.1, fun i hi => lend_ok hc 6 _ _ _ (h2 i (by omega)) (hv.2 i (by omega))⟩
    have hsea : ∀ b, lentS φ S h b → b < w.heap.size := fun b hb => by
      rcases hb with hb | ⟨id, x, y, _, hb⟩
      · exact hc.sea b hb
      · exact hc.phi id b x y hb
    refine (hcall _ w vs hsea (hc.gl.mono (fun b hb => .inl hb) (fun _ _ => rfl)) hv').mono fun e w' ⟨S', hx, hS', hres⟩ => ?_
    have hold : ∀ b, b < w.heap.size → w'.heap[b]? = w.heap[b]? := fun b hb => hx.foot b hb fun id x h => by cases h
    refine ⟨S, ⟨fun _ _ h => h, fun _ h => h, fun b hb => hold b (hc.sea b hb), fun b hb _ => hold b hb, hx.size, fun b hb => .inl hb, fun id x h => .inl ⟨id, x, h, rfl⟩, hx.os, hx.out⟩, hold,
      fun b hb => Nat.lt_of_lt_of_le (hc.sea b hb) hx.size, fun b hb => .inl hb, ?_⟩
    cases r' with
    | ret v => obtain ⟨cv, e1, e2⟩ := hres; exact ⟨cv, e1, scalar_any 12 _ _ _ _ hrc e2⟩
    | pan v => obtain ⟨cv, e1, e2⟩ := hres; exact ⟨cv, e1, scalar_any 12 _ _ _ _ hrc e2⟩

/-- what was there stays, what is new is sealed -/
theorem Cpl.quiet {φ : Phi} {S S' : Sea} {h : Heap} {w w' : World} (hc : Cpl φ S h w) (hx : Ext φ S w φ S' w') (hold : ∀ b, b < w.heap.size → w'.heap[b]? = w.heap[b]?)
    (hS' : ∀ b, S' b → b < w'.heap.size) (hnew : ∀ b, S' b → S b ∨ w.heap.size ≤ b) : Cpl φ S' h w' := by
  refine ⟨fun id hid => ?_, hc.inj, hS', hc.gl.mono hx.sea hx.keep, fun id b x y h => Nat.lt_of_lt_of_le (hc.phi id b x y h) hx.size, hc.fresh⟩
  obtain ⟨b, x, y, h1, h2, h3⟩ := hc.obj id hid
  have hb := hc.phi _ _ _ _ h1
  exact ⟨b, x, y, h1, fun hs => (hnew b hs).elim h2 fun h => by omega, h3.mono (fun _ _ h => h) hx.sea hx.keep (hold b hb)⟩

theorem callPure_ok {P : Program} {f : FuncId} {g : List AV → Option ARes} {args : List AV} {h : Heap} {r : ARes} (hg : PurOk P f g) (he : callPure g args h = some r) : CallOk P f args h r h := by
  obtain ⟨hent, hcall⟩ := callPure_quiet hg he
  refine ⟨hent, fun φ S w vs hc hv => (hcall φ S w vs hc hv).mono fun e w' ⟨S', hx, hold, hS', hnew, hres⟩ => ⟨φ, S', hx, hc.quiet hx hold hS' hnew, hres⟩⟩

end Go.Am
namespace Go.Am
open Go

section A
variable {φ : Phi} {S : Sea} {w : World} {F : Fr} {a : Act}

theorem FRel.put {v : AV} {cv : Value} {dst : Option Nat} (hf : FRel φ S w F a.tmps) (hv : VR φ S w v cv) (hd : ∀ d, dst = some d → d < a.tmps.size) :
    FRel φ S w (putF F dst v) (a.put dst cv).tmps := by
  cases dst with
  | none => exact hf
  | some d =>
    intro i
    show VR φ S w ((F.set d v).get i) ((a.tmps.setIfInBounds d cv).getD i undef)
    have hd' := hd d rfl
    have hg : (a.tmps.setIfInBounds d cv).getD i undef = if i = d then cv else a.tmps.getD i undef := by
      simp only [Array.getD_eq_getD_getElem?, Array.getElem?_setIfInBounds]
      by_cases h : i = d
      · subst h; simp [hd']
      · have h' : ¬ d = i := fun e => h e.symm
        simp [h, h']
    rcases Fr.get_set F d v i with h | h
    · rw [h, hg]
      by_cases h : i = d
      · simp only [h, if_true]; exact hv
      · simp only [h, if_false]; exact hf i
    · rw [h]; exact .bot _
end A

theorem put_size (a : Act) (dst : Option Nat) (v : Value) : (a.put dst v).tmps.size = a.tmps.size := by
  cases dst <;> simp [Act.put]
theorem put_dfr (a : Act) (dst : Option Nat) (v : Value) : (a.put dst v).defers = a.defers := by
  cases dst <;> simp [Act.put]

/-- a mark among the deferred calls -/
structure Mk (B : Nat) (φ : Phi) (S : Sea) (w : World) (r : Nat) : Prop where
  ge : B ≤ r
  at' : w.heap[r]? = some (.deferred (some []))
  sea : ¬ S r
  phi : ∀ id x, φ id = some x → x.1 ≠ r

theorem Mk.lt {B : Nat} {φ : Phi} {S : Sea} {w : World} {r : Nat} (h : Mk B φ S w r) : r < w.heap.size := (Array.getElem?_eq_some_iff.1 h.at').1

theorem Mk.ext {B : Nat} {φ φ' : Phi} {S S' : Sea} {w w' : World} {r : Nat} (h : Ext φ S w φ' S' w') (m : Mk B φ S w r) : Mk B φ' S' w' r where
  ge := m.ge
  at' := (h.foot r m.lt m.phi).trans m.at'
  sea hs := by
    rcases h.newS r hs with h' | ⟨id, x, h1, h2⟩ | h'
    · exact m.sea h'
    · exact m.phi id x h1 h2
    · have := m.lt; omega
  phi id x hx he := by
    rcases h.newP id x hx with ⟨id0, x0, h1, h2⟩ | h'
    · exact m.phi id0 x0 h1 (h2.trans he)
    · have := m.lt; omega

/-- deferred calls -/
def DCl (φ : Phi) (S : Sea) (w : World) (x : AV × List AV) (y : Deferred) : Prop :=
  ∃ f a c va vc vs, x.1 = .fn (.func f) a c ∧ y = ⟨.fn (.func f) vc, va ++ vs⟩ ∧ VRs φ S w a va ∧ VRs φ S w c vc ∧ VRs φ S w x.2 vs

def DRel (B : Nat) (φ : Phi) (S : Sea) (w : World) : List (AV × List AV) → List Deferred → Prop
  | [], [] => B ≤ w.heap.size
  | x :: d, y :: ds => (DCl φ S w x y ∨ ∃ r, x = (.bot, []) ∧ y = ⟨.collected r, #[]⟩ ∧ Mk B φ S w r ∧ ∀ z ∈ ds, z.target ≠ .collected r) ∧ DRel B φ S w d ds
  | _, _ => False

theorem DCl.ext {φ φ' : Phi} {S S' : Sea} {w w' : World} (h : Ext φ S w φ' S' w') {x : AV × List AV} {y : Deferred} : DCl φ S w x y → DCl φ' S' w' x y
  | ⟨f, a, c, va, vc, vs, h1, h2, h3, h4, h5⟩ => ⟨f, a, c, va, vc, vs, h1, h2, h3.ext h, h4.ext h, h5.ext h⟩

theorem DRel.ext {B : Nat} {φ φ' : Phi} {S S' : Sea} {w w' : World} (h : Ext φ S w φ' S' w') : ∀ {d : List (AV × List AV)} {ds : List Deferred}, DRel B φ S w d ds → DRel B φ' S' w' d ds
  | [], [], hb => Nat.le_trans hb h.size
  | _ :: _, _ :: _, ⟨.inl hc, hr⟩ => ⟨.inl (hc.ext h), hr.ext h⟩
  | _ :: _, _ :: _, ⟨.inr ⟨r, h1, h2, h3, h4⟩, hr⟩ => ⟨.inr ⟨r, h1, h2, h3.ext h, h4⟩, hr.ext h⟩
  | [], _ :: _, h => h
  | _ :: _, [], h => h

theorem DRel.bound {B : Nat} {φ : Phi} {S : Sea} {w : World} : ∀ {d : List (AV × List AV)} {ds : List Deferred}, DRel B φ S w d ds → B ≤ w.heap.size
  | [], [], hb => hb
  | _ :: _, _ :: _, h => h.2.bound
  | [], _ :: _, h => h.elim
  | _ :: _, [], h => h.elim

structure Rl (B N : Nat) (φ : Phi) (S : Sea) (s : St) (a : Act) (w : World) : Prop where
  cpl : Cpl φ S s.h w
  fr : FRel φ S w s.F a.tmps
  size : N ≤ a.tmps.size
  dfr : DRel B φ S w s.d a.defers

def XR (φ : Phi) (S : Sea) (w : World) : Out → Exit → Prop
  | .normal, .normal => True
  | .exit i, .exit j => i = j
  | .goto i, .goto j => i = j
  | .ret, .ret => True
  | .pan v, .panic ch => ∃ cv, ch = [{ v := cv, recovered := false }] ∧ VR φ S w v cv
  | _, _ => False

theorem XR.ext {φ φ' : Phi} {S S' : Sea} {w w' : World} (h : Ext φ S w φ' S' w') {o : Out} {e : Exit} (hx : XR φ S w o e) : XR φ' S' w' o e := by
  cases o <;> cases e <;> first | exact hx | (obtain ⟨cv, h1, h2⟩ := hx; exact ⟨cv, h1, h2.ext h⟩)

/-- what holds behind a code that ran so -/
def Po (B N : Nat) (φ : Phi) (S : Sea) (w : World) (r : Out × St) : Exit → Act → World → Prop :=
  fun e a' w' => ∃ φ' S', Ext φ S w φ' S' w' ∧ Rl B N φ' S' r.2 a' w' ∧ XR φ' S' w' r.1 e

theorem Po.from {B N : Nat} {φ φ' : Phi} {S S' : Sea} {w w' : World} (h : Ext φ S w φ' S' w') {r : Out × St} {e : Exit} {a : Act} {w'' : World} (hp : Po B N φ' S' w' r e a w'') : Po B N φ S w r e a w'' := by
  obtain ⟨φ2, S2, h1, h2, h3⟩ := hp
  exact ⟨φ2, S2, h.trans h1, h2, h3⟩

def RecOk (P : Program) (rec : Rec) : Prop := ∀ f args h r h', rec f args h = some (r, h') → CallOk P f args h r h'

def calleeF (c : Call) (f : Nat) : Bool := match c.callee with | .value (.func g) => g == f | _ => false
def calleeV (c : Call) (x : Opd) : Bool := match c.callee with | .value y => chkOpd x y | _ => false

/-- an operation of ours is the model's, calls with them -/
def chkDo (P : Program) (ao : AOp) (o : Op) : Bool :=
  match ao with
  | .call f args => match o with | .call c => calleeF c f && chkOpds args c.args | _ => false
  | .callv f args => match o with | .call c => calleeV c f && chkOpds args c.args | _ => false
  | .dfr f args => match o with | .defer c => calleeV c f && chkOpds args c.args | _ => false
  | .pan x => match o with | .panic y => chkOpd x y | .call c => isB c .panic && c.args.size == 1 && chkOpd x (c.args.getD 0 default) | _ => false
  | ao => chkOp P ao o

def AOp.ctl : AOp → Bool
  | .call .. | .callv .. | .dfr .. | .pan _ => true
  | _ => false

theorem doOp_plain {E : Env} {rec : Rec} {ao : AOp} {dst : Option Nat} {s : St} {k : St → OR} (h : ao.ctl = false) :
    doOp E rec ao dst s k = obind (aop ao s.F s.h) fun r => k (s.put dst r.1 r.2) := by
  cases ao <;> first | rfl | cases h
theorem chkDo_plain {P : Program} {ao : AOp} {o : Op} (h : ao.ctl = false) : chkDo P ao o = chkOp P ao o := by
  cases ao <;> first | rfl | cases h

structure EnvOk (P : Program) (E : Env) : Prop where
  pur : ∀ f g, E.pur f = some g → PurOk P f g
  sum : ∀ f g, E.sum f = some g → ∀ args h r h', g args h = some (r, h') → CallOk P f args h r h'

theorem doCall_ok {P : Program} {E : Env} {rec : Rec} (hE : EnvOk P E) (hr : RecOk P rec) {f : Nat} {args : List AV} {h h' : Heap} {r : ARes}
    (he : doCall E rec f args h = some (r, h')) : CallOk P f args h r h' := by
  unfold doCall at he
  cases hp : E.pur f with
  | none => rw [hp] at he; exact hr _ _ _ _ _ he
  | some g =>
    rw [hp] at he
    have he : (obind (callPure g args h) fun r => some (r, h)) = some (r, h') := he
    rw [obind_some] at he
    obtain ⟨r', h1, h2⟩ := he
    cases h2
    exact callPure_ok (hE.pur f g hp) h1

theorem VRs.app {φ : Phi} {S : Sea} {w : World} {l m : List AV} {a b : Array Value} (h1 : VRs φ S w l a) (h2 : VRs φ S w m b) : VRs φ S w (lapp l m) (a ++ b) := by
  rw [lapp_eq]; exact h1.append h2

section ops
variable {P : Program} {E : Env} {rec : Rec} {B N : Nat} {φ : Phi} {S : Sea} {w : World} {a : Act} {s : St} {k : St → OR} {r : Out × St} {o : Oper}
  {K : Act → World → Prop} {Q : Exit → Act → World → Prop}

/-- a call's two endings -/
theorem after_ok (hd : ∀ d, o.dst = some d → d < N) (hR : Rl B N φ S s a w) {f : Nat} {args : List AV} {vs : Array Value} {h' : Heap} {rr : ARes} (hc : CallOk P f args s.h rr h')
    (hv : VRs φ S w args vs) (hx : (execOp a.eval o).run P w = (callFunc f vs).run P w) (he : afterCall o.dst s k (rr, h') = some r)
    (hK : ∀ φ1 S1 s1 a1 w1, k s1 = some r → Ext φ S w φ1 S1 w1 → Rl B N φ1 S1 s1 a1 w1 → (∃ cv, a1.tmps = (a.put o.dst cv).tmps) → K a1 w1)
    (hQ : ∀ e a' w', (∃ v, r.1 = .pan v) → Po B N φ S w r e a' w' → Q e a' w') : o.wp P a w K Q := by
  obtain ⟨hent, hcall⟩ := hc
  unfold Oper.wp
  rw [hx, ent_run hent, Oper.upon_enter]
  refine (hcall φ S w vs hR.cpl hv).mono fun e w' ⟨φ', S', h1, h2, h3⟩ => ?_
  cases rr with
  | ret v =>
    obtain ⟨cv, rfl, h4⟩ := h3
    have he : k (s.put o.dst v h') = some r := he
    refine hK φ' S' _ _ w' he h1 ⟨h2, (hR.fr.ext h1).put h4 (fun d h => Nat.lt_of_lt_of_le (hd d h) hR.size), by rw [put_size]; exact hR.size, by rw [put_dfr]; exact hR.dfr.ext h1⟩ ⟨_, rfl⟩
  | pan v =>
    obtain ⟨cv, rfl, h4⟩ := h3
    have he : some (Out.pan v, (⟨s.F, h', s.d⟩ : St)) = some r := he
    cases he
    exact hQ _ _ _ ⟨v, rfl⟩ ⟨φ', S', h1, ⟨h2, hR.fr.ext h1, hR.size, hR.dfr.ext h1⟩, cv, rfl, h4⟩

theorem fnOf_some {x : AV} {q : Nat × List AV × List AV} (h : fnOf x = some q) : x = .fn (.func q.1) q.2.1 q.2.2 := by
  unfold fnOf at h
  split at h
  · cases h; rfl
  · cases h

theorem VR.fn_inv {f : Fn} {x y : List AV} {cv : Value} (h : VR φ S w (.fn f x y) cv) : ∃ va vc, cv = .func f va vc ∧ VRs φ S w x va ∧ VRs φ S w y vc := by
  cases h with
  | fn f a c va vc ha hc hra hrc => exact ⟨va, vc, rfl, ⟨ha, hra⟩, ⟨hc, hrc⟩⟩

theorem asIface_some {x y : AV} (h : asIface x = some y) : ∃ t v, x = .iface t v ∧ y = .iface t v := by
  unfold asIface at h
  split at h
  · cases h; exact ⟨_, _, rfl, rfl⟩
  · cases h

theorem doOp_ok (hE : EnvOk P E) (hr : RecOk P rec) {ao : AOp} (hk : chkDo P ao o.op = true) (hd : ∀ d, o.dst = some d → d < N)
    (he : doOp E rec ao o.dst s k = some r) (hR : Rl B N φ S s a w)
    (hK : ∀ φ1 S1 s1 a1 w1, k s1 = some r → Ext φ S w φ1 S1 w1 → Rl B N φ1 S1 s1 a1 w1 → (∃ cv, a1.tmps = (a.put o.dst cv).tmps) → K a1 w1)
    (hQ : ∀ e a' w', (∃ v, r.1 = .pan v) → Po B N φ S w r e a' w' → Q e a' w') : o.wp P a w K Q := by
  cases hctl : ao.ctl with
  | false =>
    rw [doOp_plain hctl, obind_some] at he
    rw [chkDo_plain hctl] at hk
    obtain ⟨⟨v, h'⟩, ha, hk'⟩ := he
    obtain ⟨cv, w', hx, φ', h1, h2, h3, _⟩ := aop_sound hk ha hR.cpl hR.fr
    have hn : K (a.put o.dst cv) w' :=
      hK φ' S _ _ w' hk' h1 ⟨h2, (hR.fr.ext h1).put h3 (fun d h => Nat.lt_of_lt_of_le (hd d h) hR.size), by rw [put_size]; exact hR.size, by rw [put_dfr]; exact hR.dfr.ext h1⟩ ⟨_, rfl⟩
    unfold Oper.wp
    rcases hx with hx | ⟨hx, hu⟩
    · rw [hx]; exact hn
    · rw [hx]; subst hu; exact hn
  | true =>
    cases ao with
    | call f args =>
      simp only [chkDo] at hk
      split at hk
      · rename_i c ho
        simp only [Bool.and_eq_true] at hk
        have he : (obind (doCall E rec f (evs s.F args) s.h) (afterCall o.dst s k)) = some r := he
        rw [obind_some] at he
        obtain ⟨⟨rr, h'⟩, h1, h2⟩ := he
        have hcl := hk.1
        unfold calleeF at hcl
        split at hcl
        · rename_i g hc
          simp only [beq_iff_eq] at hcl
          subst hcl
          refine after_ok hd hR (doCall_ok hE hr h1) (chkOpds_sound hk.2 hR.fr) ?_ h2 hK hQ
          simp [execOp, ho, resolve, hc, Act.eval, Deferred.ofValue, invoke]
        · cases hcl
      · cases hk
    | callv f args =>
      simp only [chkDo] at hk
      split at hk
      · rename_i c ho
        simp only [Bool.and_eq_true] at hk
        have he : (obind (fnOf (f.ev s.F)) fun p => obind (doCall E rec p.1 (lapp (lapp p.2.1 (evs s.F args)) p.2.2) s.h) (afterCall o.dst s k)) = some r := he
        rw [obind_some] at he
        obtain ⟨q, h0, he⟩ := he
        rw [obind_some] at he
        obtain ⟨⟨rr, h'⟩, h1, h2⟩ := he
        have hcl := hk.1
        unfold calleeV at hcl
        split at hcl
        · rename_i y hc
          have hy := chkOpd_sound hcl hR.fr
          rw [fnOf_some h0] at hy
          obtain ⟨va, vc, hya, hva, hvc⟩ := hy.fn_inv
          refine after_ok hd hR (doCall_ok hE hr h1) ((hva.app (chkOpds_sound hk.2 hR.fr)).app hvc) ?_ h2 hK hQ
          simp [execOp, ho, resolve, hc, hya, Deferred.ofValue, invoke]
        · cases hcl
      · cases hk
    | dfr f args =>
      simp only [chkDo] at hk
      split at hk
      · rename_i c ho
        simp only [Bool.and_eq_true] at hk
        have he : (obind (fnOf (f.ev s.F)) fun _ => k ⟨putF s.F o.dst (.tup []), s.h, (f.ev s.F, evs s.F args) :: s.d⟩) = some r := he
        rw [obind_some] at he
        obtain ⟨q, h0, he⟩ := he
        have hcl := hk.1
        unfold calleeV at hcl
        split at hcl
        · rename_i y hc
          have hy := chkOpd_sound hcl hR.fr
          have hq := fnOf_some h0
          rw [hq] at hy
          obtain ⟨va, vc, hya, hva, hvc⟩ := hy.fn_inv
          have hx : (execOp a.eval o).run P w = .ok (.defer ⟨.fn (.func q.1) vc, va ++ c.args.map a.eval⟩) w := by
            simp [execOp, ho, resolve, hc, hya, Deferred.ofValue]
          unfold Oper.wp
          rw [hx]
          have hF : FRel φ S w s.F ({ a with defers := ⟨.fn (.func q.1) vc, va ++ c.args.map a.eval⟩ :: a.defers } : Act).tmps := hR.fr
          refine hK φ S _ _ w he (Ext.refl _ _ _) ⟨hR.cpl, hF.put (.tup _ _ rfl (fun i hi => absurd hi (by simp))) (fun d h => Nat.lt_of_lt_of_le (hd d h) hR.size), by rw [put_size]; exact hR.size, ?_⟩ ⟨undef, by cases o.dst <;> rfl⟩
          rw [put_dfr]
          exact ⟨.inl ⟨q.1, q.2.1, q.2.2, va, vc, _, hq, rfl, hva, hvc, chkOpds_sound hk.2 hR.fr⟩, hR.dfr⟩
        · cases hcl
      · cases hk
    | pan x =>
      have he : (obind (asIface (x.ev s.F)) fun v => some (Out.pan v, s)) = some r := he
      rw [obind_some] at he
      obtain ⟨v, h0, he⟩ := he
      cases he
      obtain ⟨t, u, h1, rfl⟩ := asIface_some h0
      have hx : ∃ cv, (execOp a.eval o).run P w = .halt (.panic (.iface t cv)) w ∧ VR φ S w u cv := by
        simp only [chkDo] at hk
        split at hk
        · rename_i y ho
          have hy := chkOpd_sound hk hR.fr
          rw [h1] at hy
          obtain ⟨cv, hcv, hv⟩ : ∃ cv, a.eval y = .iface t cv ∧ VR φ S w u cv := by
            generalize hz : a.eval y = z at hy
            cases hy with
            | iface t x v h => exact ⟨v, rfl, h⟩
          refine ⟨cv, ?_, hv⟩
          simp [execOp, ho, hcv, Instr.panic, goPanic, Sem.run]
        · rename_i c ho
          simp only [Bool.and_eq_true, beq_iff_eq] at hk
          have hy := chkOpd_sound hk.2 hR.fr
          rw [h1] at hy
          obtain ⟨cv, hcv, hv⟩ : ∃ cv, a.eval (c.args.getD 0 default) = .iface t cv ∧ VR φ S w u cv := by
            generalize hz : a.eval (c.args.getD 0 default) = z at hy
            cases hy with
            | iface t x v h => exact ⟨v, rfl, h⟩
          refine ⟨cv, ?_, hv⟩
          have hcl := hk.1.1
          unfold isB at hcl
          split at hcl
          · rename_i b hc
            simp only [decide_eq_true_eq] at hcl
            subst hcl
            have e1 : (c.args.map a.eval).getD 0 .nilIface = .iface t cv := by
              have h0 : 0 < c.args.size := by omega
              rw [← hcv]
              simp [Array.getD, h0]
            have e2 : (Option.map a.eval c.args[0]?).getD .nilIface = .iface t cv := by rw [← e1]; simp
            simp [execOp, ho, resolve, hc, invoke, builtin, Instr.panic, goPanic, e2]
          · cases hcl
        · cases hk
      obtain ⟨cv, hx, hv⟩ := hx
      unfold Oper.wp
      rw [hx, Oper.upon_panic]
      exact hQ _ _ _ ⟨_, rfl⟩ ⟨φ, S, Ext.refl _ _ _, hR, _, rfl, .iface _ _ _ hv⟩
    | _ => cases hctl

/- guards -/
def chkG (ops : Array Oper) (N : Nat) (g : Option (Nat × Bool)) (g' : Option (Nat × Bool)) : Bool :=
  match g, g' with
  | none, none => true
  | some (s, b), some (j, b') => b == b' && decide ((ops[j]?).bind (·.dst) = some s) && decide (s < N)
  | _, _ => false

theorem wanted_ok {ops : Array Oper} {F : Fr} {g : Option (Nat × Bool)} {b : Bool} (hg : chkG ops N g o.guard = true) (he : wantedB F g = some b)
    (hv : ∀ p, g = some p → VR φ S w (F.get p.1) (a.tmps.getD p.1 undef)) (hN : N ≤ a.tmps.size) : Region.wanted o (yielded ops a.tmps) = b := by
  unfold chkG at hg
  split at hg
  · rename_i _ _ h1
    cases he
    simp [Region.wanted, h1]
  · rename_i s c j c' h1
    simp only [Bool.and_eq_true, beq_iff_eq, decide_eq_true_eq] at hg
    obtain ⟨⟨rfl, h2⟩, h3⟩ := hg
    have hs : s < a.tmps.size := by omega
    have hy : yielded ops a.tmps j = match a.tmps.getD s undef with | .bool b => some b | _ => none := by
      simp only [yielded, h2, Option.bind_some, Array.getElem?_eq_getElem hs]
      simp only [Array.getD, hs, dite_true]
      split <;> simp_all
    simp only [Region.wanted, h1, hy]
    have hv := hv _ rfl
    simp only [wantedB] at he
    generalize a.tmps.getD s undef = z at hv ⊢
    generalize F.get s = x at hv he
    cases hv <;> first
      | (cases he; rename_i b; cases b <;> cases c <;> rfl)
      | (simp at he; done)
      | (rename_i cs vs hn hr
         cases cs with
         | nil => cases he; rfl
         | cons => cases he)
      | (cases he)
  · cases hg
end ops

end Go.Am
namespace Go.Am
open Go

def chkDst (N : Nat) (a b : Option Nat) : Bool := decide (a = b) && (match b with | some d => decide (d < N) | none => true)
theorem chkDst_ok {N : Nat} {a b : Option Nat} (h : chkDst N a b = true) : a = b ∧ ∀ d, b = some d → d < N := by
  simp only [chkDst, Bool.and_eq_true, decide_eq_true_eq] at h
  refine ⟨h.1, fun d hd => ?_⟩
  have := h.2
  rw [hd] at this
  simpa using this

def chkOper (P : Program) (N : Nat) (ops : Array Oper) (ao : AOper) (o : Oper) : Bool :=
  chkDst N ao.dst o.dst && chkG ops N ao.g o.guard && chkDo P ao.op o.op
def chkOpers (P : Program) (N : Nat) (ops : Array Oper) : List AOper → List Oper → Bool
  | [], [] => true
  | a :: l, o :: os => chkOper P N ops a o && chkOpers P N ops l os
  | _, _ => false

section
variable {P : Program} {E : Env} {rec : Rec} {B N : Nat} {φ0 : Phi} {S0 : Sea} {w0 : World} {r : Out × St} {ops : Array Oper}

theorem skip_ok {φ : Phi} {S : Sea} {s : St} {a : Act} {w : World} {dst : Option Nat} (hR : Rl B N φ S s a w) (hd : ∀ d, dst = some d → d < N) :
    Rl B N φ S (s.put dst (.tup []) s.h) (a.put dst undef) w :=
  ⟨hR.cpl, hR.fr.put (.tup _ _ rfl (fun i hi => absurd hi (by simp))) (fun d h => Nat.lt_of_lt_of_le (hd d h) hR.size), by rw [put_size]; exact hR.size, by rw [put_dfr]; exact hR.dfr⟩

theorem evOps_ok (hE : EnvOk P E) (hr : RecOk P rec) : ∀ (l : List AOper) (i : Nat) (os : List Oper), ops.toList.drop i = os → chkOpers P N ops l os = true →
    ∀ (φ : Phi) (S : Sea) (s : St) (a : Act) (w : World), evOps E rec l s = some r → Ext φ0 S0 w0 φ S w → Rl B N φ S s a w →
    wpOps P ops (Po B N φ0 S0 w0 r) (List.range' i os.length) a w := by
  intro l
  induction l with
  | nil =>
    intro i os hos hk φ S s a w he hx hR
    cases os with
    | nil =>
      have he : some (Out.normal, s) = some r := he
      cases he
      exact ⟨φ, S, hx, hR, trivial⟩
    | cons o os => cases hk
  | cons ao l ih =>
    intro i os hos hk φ S s a w he hx hR
    cases os with
    | nil => cases hk
    | cons o os =>
      have hk : (chkOper P N ops ao o && chkOpers P N ops l os) = true := hk
      simp only [chkOper, Bool.and_eq_true] at hk
      obtain ⟨⟨⟨hd, hg⟩, hop⟩, hl⟩ := hk
      obtain ⟨hd1, hd2⟩ := chkDst_ok hd
      have ho : ops[i]? = some o := by
        have h0 : (ops.toList.drop i)[0]? = some o := by rw [hos]; rfl
        simpa using h0
      have hos' : ops.toList.drop (i + 1) = os := by
        have : (ops.toList.drop i).drop 1 = os := by rw [hos]; rfl
        rwa [List.drop_drop] at this
      show wpOps P ops (Po B N φ0 S0 w0 r) (i :: List.range' (i + 1) os.length) a w
      rw [wpOps_cons]
      unfold wpOp
      rw [ho]
      simp only []
      have he : (obind (wantedB s.F ao.g) fun wd => Bool.rec (evOps E rec l (s.put ao.dst (.tup []) s.h)) (doOp E rec ao.op ao.dst s (evOps E rec l)) wd) = some r := he
      rw [obind_some] at he
      obtain ⟨wd, h1, h2⟩ := he
      rw [wanted_ok (a := a) hg h1 (fun p _ => hR.fr p.1) hR.size]
      cases wd with
      | false =>
        have h2 : evOps E rec l (s.put ao.dst (.tup []) s.h) = some r := h2
        rw [hd1] at h2
        exact ih (i + 1) os hos' hl φ S _ _ w h2 hx (skip_ok hR hd2)
      | true =>
        have h2 : doOp E rec ao.op ao.dst s (evOps E rec l) = some r := h2
        rw [hd1] at h2
        refine .inl (doOp_ok hE hr hop hd2 h2 hR (fun φ1 S1 s1 a1 w1 g1 g2 g3 _ => ?_) (fun e a' w' _ hp => hp.from hx))
        exact ih (i + 1) os hos' hl φ1 S1 s1 a1 w1 g1 (hx.trans g2) g3

/-- a code of ours does what the model's does -/
def COk (P : Program) (N : Nat) (body : St → OR) (c : Code) : Prop :=
  ∀ B φ S s a w r, body s = some r → Rl B N φ S s a w → c.wp P (Po B N φ S w r) a w

theorem reg_ok (hE : EnvOk P E) (hr : RecOk P rec) {l : List AOper} {id : Nat} (hk : chkOpers P N ops l ops.toList = true) :
    COk P N (evOps E rec l) (.region id ops false) := by
  intro B φ S s a w r he hR
  refine wp_region ?_
  have := evOps_ok (φ0 := φ) (S0 := S) (w0 := w) hE hr l 0 ops.toList rfl hk φ S s a w he (Ext.refl _ _ _) hR
  rw [Array.length_toList] at this
  rwa [List.range_eq_range']

theorem keepF_get (F : Fr) : ∀ (l : List Nat) (i : Nat), (keepF F l).get i = F.get i ∨ (keepF F l).get i = .bot := by
  intro l
  induction l with
  | nil => intro i; exact .inr rfl
  | cons d l ih =>
    intro i
    show ((keepF F l).set d (F.get d)).get i = _ ∨ _
    rcases Fr.get_set (keepF F l) d (F.get d) i with h | h
    · have hh : (keepF F (d :: l)).get i = ((keepF F l).set d (F.get d)).get i := rfl
      rw [hh, h]
      by_cases e : i = d
      · subst e; simp
      · simp only [e, if_false]; exact ih i
    · exact .inr h

theorem Rl.keep {φ : Phi} {S : Sea} {s : St} {a : Act} {w : World} (hR : Rl B N φ S s a w) (l : List Nat) : Rl B N φ S ⟨keepF s.F l, s.h, s.d⟩ a w :=
  ⟨hR.cpl, fun i => by
    show VR φ S w ((keepF s.F l).get i) _
    rcases keepF_get s.F l i with h | h
    · rw [h]; exact hR.fr i
    · rw [h]; exact .bot _, hR.size, hR.dfr⟩

theorem out_of {φ : Phi} {S : Sea} {w : World} {o : Out} {e : Exit} (h : XR φ S w o e) (hn : o = .normal) : e = .normal := by
  subst hn
  cases e <;> first | rfl | exact h.elim
theorem not_out {φ : Phi} {S : Sea} {w : World} {o : Out} {e : Exit} (h : XR φ S w o e) (hn : o ≠ .normal) : e ≠ .normal := by
  cases o <;> cases e <;> first | exact absurd rfl hn | exact fun h => Exit.noConfusion h | exact h.elim

theorem loop_ok {keep : List Nat} {body : St → OR} {c : Code} (hb : COk P N body c) : ∀ (n : Nat) (φ : Phi) (S : Sea) (s : St) (a : Act) (w : World) (r : Out × St),
    evLoop keep body n s = some r → Rl B N φ S s a w → ∀ (b : Frame) (k : List Item) (cs : List Frame),
    ∃ e a' w', Po B N φ S w r e a' w' ∧ Arrives P (lone (b.at a (.code c :: .inLoop c :: k)) cs w) b k cs e a' w' := by
  intro n
  induction n with
  | zero => intro φ S s a w r he; cases he
  | succ n ih =>
    intro φ S s a w r he hR b k cs
    have he : (obind (body ⟨keepF s.F keep, s.h, s.d⟩) fun r => match r.1 with | .normal => evLoop keep body n r.2 | o => some (o, r.2)) = some r := he
    rw [obind_some] at he
    obtain ⟨r1, h1, h2⟩ := he
    obtain ⟨e, a1, w1, hq, harr⟩ := hb B φ S _ a w r1 h1 (hR.keep keep) b (.inLoop c :: k) cs
    obtain ⟨φ1, S1, hx, hR1, hxr⟩ := hq
    obtain ⟨o1, s1⟩ := r1
    cases o1 with
    | normal =>
      have := out_of hxr rfl
      subst this
      obtain ⟨e2, a2, w2, hq2, harr2⟩ := ih φ1 S1 s1 a1 w1 r h2 hR1 b k cs
      exact ⟨e2, a2, w2, hq2.from hx, .of_steps (Steps.trans harr (.one step_inLoop)) harr2⟩
    | exit id => cases h2; exact ⟨e, a1, w1, ⟨φ1, S1, hx, hR1, hxr⟩, .pass (x := .inLoop c) rfl (fun _ _ => .inl (not_out hxr (by simp))) harr⟩
    | goto l => cases h2; exact ⟨e, a1, w1, ⟨φ1, S1, hx, hR1, hxr⟩, .pass (x := .inLoop c) rfl (fun _ _ => .inl (not_out hxr (by simp))) harr⟩
    | ret => cases h2; exact ⟨e, a1, w1, ⟨φ1, S1, hx, hR1, hxr⟩, .pass (x := .inLoop c) rfl (fun _ _ => .inl (not_out hxr (by simp))) harr⟩
    | pan v => cases h2; exact ⟨e, a1, w1, ⟨φ1, S1, hx, hR1, hxr⟩, .pass (x := .inLoop c) rfl (fun _ _ => .inl (not_out hxr (by simp))) harr⟩

theorem jump_ok {l : Nat} {body : St → OR} {c : Code} (hb : (∃ rest, findLabel c l = some rest ∧ COk P N body rest) ∨ (∀ s, body s = none)) {m : Machine} {b : Frame} {k : List Item} {cs : List Frame} :
    ∀ (n : Nat) (r1 r : Out × St) (φ : Phi) (S : Sea) (e : Exit) (a : Act) (w : World), evJump l body n (some r1) = some r → Rl B N φ S r1.2 a w → XR φ S w r1.1 e →
    Arrives P m b (.inScope c :: k) cs e a w → ∃ e' a' w', Po B N φ S w r e' a' w' ∧ Arrives P m b k cs e' a' w' := by
  intro n
  induction n with
  | zero => intro r1 r φ S e a w he; cases he
  | succ n ih =>
    intro r1 r φ S e a w he hR hx harr
    have he : (match r1.1 with | .goto l' => bif Nat.beq l l' then evJump l body n (body r1.2) else none | o => some (o, r1.2)) = some r := he
    obtain ⟨o1, s1⟩ := r1
    have base : ∀ {e'}, XR φ S w o1 e' → Po B N φ S w (o1, s1) e' a w := fun h => ⟨φ, S, Ext.refl _ _ _, hR, h⟩
    cases o1 with
    | normal =>
      cases he
      have := out_of hx rfl
      subst this
      exact ⟨.normal, a, w, base hx, Steps.trans harr (.one step_inScope)⟩
    | exit id =>
      cases he
      cases e with
      | exit id' => exact ⟨.exit id', a, w, base hx, fun k' hk => harr k' (by simp [exitTo, hk])⟩
      | _ => exact hx.elim
    | goto l' =>
      cases e with
      | goto l2 =>
        have h12 : l' = l2 := hx
        subst h12
        replace he : (bif Nat.beq l l' then evJump l body n (body s1) else none) = some r := he
        cases hbeq : Nat.beq l l' with
        | false => rw [hbeq] at he; cases he
        | true =>
          rw [hbeq] at he
          have hj : evJump l body n (body s1) = some r := he
          have hll : l = l' := Nat.eq_of_beq_eq_true hbeq
          clear he hbeq
          subst hll
          cases hbs : body s1 with
          | none =>
            rw [hbs] at hj
            cases n <;> cases hj
          | some r2 =>
            rw [hbs] at hj
            rcases hb with ⟨rest, hf, hrest⟩ | hnone
            · have hg : gotoIn l (.inScope c :: k) = some (.code rest :: .inScope c :: k) := by simp [gotoIn, hf]
              obtain ⟨e2, a2, w2, ⟨φ2, S2, x1, x2, x3⟩, harr2⟩ := hrest B φ S s1 a w r2 hbs hR b (.inScope c :: k) cs
              obtain ⟨e3, a3, w3, hp, harr3⟩ := ih r2 r φ2 S2 e2 a2 w2 hj x2 x3 (.of_steps (harr _ hg) harr2)
              exact ⟨e3, a3, w3, hp.from x1, harr3⟩
            · rw [hnone] at hbs; cases hbs
      | _ => exact hx.elim
    | ret =>
      cases he
      cases e with
      | ret => exact ⟨.ret, a, w, base hx, harr⟩
      | _ => exact hx.elim
    | pan v =>
      cases he
      cases e with
      | panic ch => exact ⟨.panic ch, a, w, base hx, harr⟩
      | _ => exact hx.elim
end
end Go.Am
namespace Go.Am
open Go

/-- the regions that draw -/
abbrev ChkD := Nat → List DOper → Array Oper → Bool
def RegdOk (P : Program) (E : Env) (rec : Rec) (chk : ChkD) : Prop :=
  ∀ N l ops, chk N l ops = true → ∀ B φ S s a w r, evRegd E rec s.d l ⟨s.F, s.h, s.h, [], []⟩ = some r → Rl B N φ S s a w →
    ∀ t, wpOps P ops (Po B N φ S w r) (Region.schedule (P.follows .mixedOrders) ops t) a { w with drawn := w.drawn + 1 }

/-- within a round -/
def noDfr (o : Oper) : Bool := match o.op with | .defer _ => false | _ => true
def chkR (P : Program) (chk : ChkD) (N : Nat) : AC → Code → Bool
  | .skip, c => match c with | .skip => true | .label _ => true | _ => false
  | .reg l, c => match c with | .region _ ops d => !d && chkOpers P N ops l ops.toList && ops.toList.all noDfr | _ => false
  | .regd l, c => match c with | .region _ ops d => d && chk N l ops && ops.toList.all noDfr | _ => false
  | .seq a b, c => match c with | .seq x y => chkR P chk N a x && chkR P chk N b y | _ => false
  | .cond t a b, c => match c with | .cond t' x y => chkOpd t t' && chkR P chk N a x && chkR P chk N b y | _ => false
  | .block id a, c => match c with | .block id' x => id == id' && chkR P chk N a x | _ => false
  | .loop _ a, c => match c with | .loop x => chkR P chk N a x | _ => false
  | .exit id, c => match c with | .exit id' => id == id' | _ => false
  | .ret, c => match c with | .ret => true | _ => false
  | .kp _ a, c => chkR P chk N a c
  | _, _ => false
def chkRf (P : Program) (chk : ChkD) (N : Nat) (f : Opd) (ps : List Nat) (a b : AC) (c : Code) : Bool :=
  match c with
  | .rangeFunc g ps' x y => chkOpd f g && decide (ps = ps'.toList) && ps.all (fun p => decide (p < N)) && chkR P chk N a x && chkR P chk N b y
  | _ => false

/-- the ranges over functions -/
def RfOk (P : Program) (E : Env) (rec : Rec) (chk : ChkD) (n : Nat) : Prop :=
  ∀ N f ps a b c, chkRf P chk N f ps a b c = true → COk P N (fun s => evRf E rec n f ps (evCode E rec n a) (evCode E rec n b) s) c

def chkC (P : Program) (chk : ChkD) (N : Nat) : AC → Code → Bool
  | .skip, c => match c with | .skip => true | .label _ => true | _ => false
  | .reg l, c => match c with | .region _ ops d => !d && chkOpers P N ops l ops.toList | _ => false
  | .regd l, c => match c with | .region _ ops d => d && chk N l ops | _ => false
  | .seq a b, c => match c with | .seq x y => chkC P chk N a x && chkC P chk N b y | _ => false
  | .cond t a b, c => match c with | .cond t' x y => chkOpd t t' && chkC P chk N a x && chkC P chk N b y | _ => false
  | .block id a, c => match c with | .block id' x => id == id' && chkC P chk N a x | _ => false
  | .loop _ a, c => match c with | .loop x => chkC P chk N a x | _ => false
  | .rf f ps a b, c => chkRf P chk N f ps a b c
  | .exit id, c => match c with | .exit id' => id == id' | _ => false
  | .scope l a b, c => match c with
    | .scope x => chkC P chk N a x && (match findLabel x l with | some rest => chkC P chk N b rest | none => (match b with | .bad => true | _ => false))
    | _ => false
  | .goto l, c => match c with | .goto l' => l == l' | _ => false
  | .ret, c => match c with | .ret => true | _ => false
  | .kp _ a, c => chkC P chk N a c
  | .bad, _ => true

section
variable {P : Program} {E : Env} {rec : Rec} {chk : ChkD} {B N n : Nat}

theorem Rl.here {φ : Phi} {S : Sea} {w : World} {s : St} {a : Act} {o : Out} {e : Exit} (h : Rl B N φ S s a w) (hx : XR φ S w o e) : Po B N φ S w (o, s) e a w :=
  ⟨φ, S, Ext.refl _ _ _, h, hx⟩

theorem code_ok (hE : EnvOk P E) (hr : RecOk P rec) (hD : RegdOk P E rec chk) (hRf : RfOk P E rec chk n) : ∀ (ac : AC) (c : Code), chkC P chk N ac c = true → COk P N (evCode E rec n ac) c := by
  intro ac
  induction ac with
  | skip =>
    intro c hk B φ S s a w r he hR
    cases he
    cases c with
    | skip => exact wp_skip (hR.here trivial)
    | label l => exact wp_label (hR.here trivial)
    | _ => cases hk
  | reg l =>
    intro c hk B φ S s a w r he hR
    cases c with
    | region id ops d =>
      have hk : (!d && chkOpers P N ops l ops.toList) = true := hk
      simp only [Bool.and_eq_true, Bool.not_eq_true'] at hk
      obtain ⟨rfl, hk⟩ := hk
      exact reg_ok hE hr hk B φ S s a w r he hR
    | _ => cases hk
  | regd l =>
    intro c hk B φ S s a w r he hR
    cases c with
    | region id ops d =>
      have hk : (d && chk N l ops) = true := hk
      simp only [Bool.and_eq_true] at hk
      obtain ⟨rfl, hk⟩ := hk
      exact wp_region_draw (hD N l ops hk B φ S s a w r he hR)
    | _ => cases hk
  | seq x y ihx ihy =>
    intro c hk B φ S s a w r he hR
    cases c with
    | seq x' y' =>
      have hk : (chkC P chk N x x' && chkC P chk N y y') = true := hk
      simp only [Bool.and_eq_true] at hk
      have he : (obind (evCode E rec n x s) fun r => match r.1 with | .normal => evCode E rec n y r.2 | o => some (o, r.2)) = some r := he
      rw [obind_some] at he
      obtain ⟨r1, h1, h2⟩ := he
      refine wp_seq (wp_mono (ihx x' hk.1 B φ S s a w r1 h1 hR) fun e a1 w1 hp => ?_)
      obtain ⟨φ1, S1, x1, x2, x3⟩ := hp
      obtain ⟨o1, s1⟩ := r1
      cases o1 <;> cases e <;> first | exact x3.elim | skip
      · exact wp_mono (ihy y' hk.2 B φ1 S1 s1 a1 w1 r h2 x2) fun e a w hp => hp.from x1
      all_goals
        cases h2
        exact ⟨φ1, S1, x1, x2, x3⟩
    | _ => cases hk
  | cond t x y ihx ihy =>
    intro c hk B φ S s a w r he hR
    cases c with
    | cond t' x' y' =>
      have hk : (chkOpd t t' && chkC P chk N x x' && chkC P chk N y y') = true := hk
      simp only [Bool.and_eq_true] at hk
      have he : (obind (asBool (t.ev s.F)) fun b => Bool.rec (evCode E rec n y s) (evCode E rec n x s) b) = some r := he
      rw [obind_some] at he
      obtain ⟨b, h1, h2⟩ := he
      have ht := chkOpd_sound hk.1.1 hR.fr
      rw [asBool_some h1] at ht
      cases b with
      | true => exact wp_cond_true ht.bool_inv (ihx x' hk.1.2 B φ S s a w r h2 hR)
      | false => exact wp_cond_false ht.bool_inv (ihy y' hk.2 B φ S s a w r h2 hR)
    | _ => cases hk
  | block id x ih =>
    intro c hk B φ S s a w r he hR
    cases c with
    | block id' x' =>
      have hk1 : (id == id' && chkC P chk N x x') = true := hk
      clear hk
      simp only [Bool.and_eq_true, beq_iff_eq] at hk1
      obtain ⟨rfl, hk⟩ := hk1
      have he : (obind (evCode E rec n x s) fun r => match r.1 with | .exit id' => bif Nat.beq id id' then some (.normal, r.2) else some (.exit id', r.2) | o => some (o, r.2)) = some r := he
      rw [obind_some] at he
      obtain ⟨r1, h1, h2⟩ := he
      refine wp_block (wp_mono (ih x' hk B φ S s a w r1 h1 hR) fun e a1 w1 hp => ?_)
      obtain ⟨φ1, S1, x1, x2, x3⟩ := hp
      obtain ⟨o1, s1⟩ := r1
      cases o1 <;> cases e <;> first | exact x3.elim | skip
      · cases h2; exact ⟨φ1, S1, x1, x2, x3⟩
      · rename_i i j
        have hij : i = j := x3
        subst hij
        have h2 : (bif Nat.beq id i then some (Out.normal, s1) else some (.exit i, s1)) = some r := h2
        show if i = id then _ else _
        by_cases e : i = id
        · subst e
          have hb : Nat.beq i i = true := Nat.beq_refl i
          rw [hb] at h2
          cases h2
          simp only [if_true]
          exact ⟨φ1, S1, x1, x2, trivial⟩
        · simp only [e, if_false]
          have hb : Nat.beq id i = false := by
            cases hb : Nat.beq id i with
            | false => rfl
            | true => exact absurd (Nat.eq_of_beq_eq_true hb).symm e
          rw [hb] at h2
          cases h2
          exact ⟨φ1, S1, x1, x2, rfl⟩
      all_goals
        cases h2
        exact ⟨φ1, S1, x1, x2, x3⟩
    | _ => cases hk
  | loop keep x ih =>
    intro c hk B φ S s a w r he hR
    cases c with
    | loop x' =>
      intro b k cs
      obtain ⟨e, a', w', hq, harr⟩ := loop_ok (ih x' hk) n φ S s a w r he hR b k cs
      exact ⟨e, a', w', hq, .of_steps (.one step_loop) harr⟩
    | _ => cases hk
  | rf f ps x y => intro c hk; exact hRf N f ps x y c hk
  | exit id =>
    intro c hk B φ S s a w r he hR
    cases he
    cases c with
    | exit id' =>
      have hk : (id == id') = true := hk
      simp only [beq_iff_eq] at hk
      exact wp_exit (hR.here hk)
    | _ => cases hk
  | scope l x y ihx ihy =>
    intro c hk B φ S s a w r he hR
    cases c with
    | scope x' =>
      simp only [chkC, Bool.and_eq_true] at hk
      have he : evJump l (evCode E rec n y) n (evCode E rec n x s) = some r := he
      have hb : (∃ rest, findLabel x' l = some rest ∧ COk P N (evCode E rec n y) rest) ∨ (∀ s, evCode E rec n y s = none) := by
        have h2 := hk.2
        split at h2
        · rename_i rest hf
          exact .inl ⟨rest, hf, ihy rest h2⟩
        · split at h2
          · exact .inr fun s => rfl
          · cases h2
      cases hs : evCode E rec n x s with
      | none =>
        rw [hs] at he
        cases n <;> cases he
      | some r1 =>
        rw [hs] at he
        intro b k cs
        obtain ⟨e, a1, w1, ⟨φ1, S1, x1, x2, x3⟩, harr⟩ := ihx x' hk.1 B φ S s a w r1 hs hR b (.inScope x' :: k) cs
        obtain ⟨e2, a2, w2, hp, harr2⟩ := jump_ok hb n r1 r φ1 S1 e a1 w1 he x2 x3 (.of_steps (.one step_scope) harr)
        exact ⟨e2, a2, w2, hp.from x1, harr2⟩
    | _ => cases hk
  | goto l =>
    intro c hk B φ S s a w r he hR
    cases he
    cases c with
    | goto l' =>
      have hk : (l == l') = true := hk
      simp only [beq_iff_eq] at hk
      exact wp_goto (hR.here hk)
    | _ => cases hk
  | ret =>
    intro c hk B φ S s a w r he hR
    cases he
    cases c with
    | ret => exact wp_ret (hR.here trivial)
    | _ => cases hk
  | kp l x ih =>
    intro c hk B φ S s a w r he hR
    exact ih c hk B φ S _ a w r he (hR.keep l)
  | bad => intro c hk B φ S s a w r he; cases he
end

/- a function -/
def chkRv (P : Program) (r : ARV) (v : ResultVar) : Bool :=
  match r, v with
  | .t i, .tmp j => i == j
  | .c1 i, .cell j t => i == j && aggOk P t false
  | .cn i n, .cell j t => i == j && aggOk P t true && szOk P t n
  | _, _ => false
def chkRvs (P : Program) : List ARV → List ResultVar → Bool
  | [], [] => true
  | r :: l, v :: vs => chkRv P r v && chkRvs P l vs
  | _, _ => false

def resSem (tmps : Array Value) : ResultVar → Sem Value
  | .tmp t => pure (tmps.getD t undef)
  | .cell a t => do loadVar t (← asAddr (tmps.getD a undef))

section
variable {P : Program} {φ : Phi} {S : Sea} {w : World} {F : Fr} {tmps : Array Value} {h : Heap}

theorem resOf_run {r : ARV} {rv : ResultVar} {v : AV} (hk : chkRv P r rv = true) (he : resOf h F r = some v) (hc : Cpl φ S h w) (hf : FRel φ S w F tmps) :
    ∃ cv, (resSem tmps rv).run P w = .ok cv w ∧ VR φ S w v cv := by
  unfold chkRv at hk
  split at hk
  · simp only [beq_iff_eq] at hk
    subst hk
    cases he
    exact ⟨_, rfl, hf _⟩
  · rename_i i j t
    simp only [Bool.and_eq_true, beq_iff_eq] at hk
    obtain ⟨rfl, ht⟩ := hk
    have he : (obind (look h (F.get i)) fun cs => lget cs 0) = some v := he
    rw [obind_some] at he
    obtain ⟨cs, hcs, hv'⟩ := he
    rw [lget_eq] at hv'
    obtain ⟨b, off, hp, hcell⟩ := look_some hcs hc (hf i)
    have hlen : 0 < cs.length := by cases cs <;> simp at hv' ⊢
    obtain ⟨cv, h1, h2⟩ := hcell 0 hlen
    have e : cs.getD 0 .bot = v := by simp [List.getD, hv']
    rw [e] at h2
    have h1' : w.cell? ⟨b, off, none⟩ = some cv := h1
    exact ⟨cv, by simp [resSem, hp, asAddr, loadVar, aggOk_run ht, h1'], h2⟩
  · rename_i i n j t
    simp only [Bool.and_eq_true, beq_iff_eq] at hk
    obtain ⟨⟨rfl, ht⟩, hn⟩ := hk
    have he : (obind (look h (F.get i)) fun cs => ogrd (Nat.ble n (llen cs)) (some (.agg (ltake cs n)))) = some v := he
    simp only [obind_some, ogrd_some, Option.some.injEq, ltake_eq, llen_eq] at he
    obtain ⟨cs, hcs, hle, rfl⟩ := he
    have hle := Nat.le_of_ble_eq_true hle
    obtain ⟨b, off, hp, hcell⟩ := look_some hcs hc (hf i)
    let vs : Nat → Value := fun i => if hi : i < cs.length then (hcell i hi).choose else undef
    have hvs : ∀ i (hi : i < cs.length), w.cell? ⟨b, off + i, none⟩ = some (vs i) ∧ VR φ S w (cs.getD i .bot) (vs i) := fun i hi => by
      have := (hcell i hi).choose_spec
      simp only [vs, hi, dif_pos]
      exact this
    have hld := loadCells_run (P := P) (w := w) (b := b) (o := off) (vs := vs) n 0 #[] (fun j hj => by
      have := (hvs j (by omega)).1
      simpa using this)
    simp only [Nat.zero_add, Array.empty_append] at hld
    refine ⟨.agg ((List.range n).map vs).toArray, ?_, .agg _ _ ?_ ?_⟩
    · simp only [resSem, hp, asAddr, loadVar, Sem.run_bind, Sem.run_pure, Result.andThen_ok, aggOk_run ht, if_true, szOk_run hn, loadCells, hld]
    · simp; omega
    · intro i hi
      simp at hi
      have := (hvs i (by omega)).2
      have e1 : (cs.take n).getD i .bot = cs.getD i .bot := by simp [List.getD, show i < n by omega]
      have e2 : (((List.range n).map vs).toArray).getD i undef = vs i := by simp [Array.getD, show i < n by omega]
      rw [e1, e2]; exact this
  · cases hk

theorem resAll_run : ∀ (l : List ARV) (rvs : List ResultVar) (vs : List AV), chkRvs P l rvs = true → resAll h F l = some vs → Cpl φ S h w → FRel φ S w F tmps →
    ∃ cvs : List Value, (rvs.mapM (resSem tmps)).run P w = .ok cvs w ∧ VRs φ S w vs cvs.toArray := by
  intro l
  induction l with
  | nil =>
    intro rvs vs hk he hc hf
    cases rvs with
    | nil => cases he; exact ⟨[], by simp, rfl, fun i hi => absurd hi (by simp)⟩
    | cons => cases hk
  | cons r l ih =>
    intro rvs vs hk he hc hf
    cases rvs with
    | nil => cases hk
    | cons rv rvs =>
      have hk : (chkRv P r rv && chkRvs P l rvs) = true := hk
      simp only [Bool.and_eq_true] at hk
      have he : (obind (resOf h F r) fun v => obind (resAll h F l) fun vs => some (v :: vs)) = some vs := he
      simp only [obind_some, Option.some.injEq] at he
      obtain ⟨v, h1, vs', h2, rfl⟩ := he
      obtain ⟨cv, g1, g2⟩ := resOf_run hk.1 h1 hc hf
      obtain ⟨cvs, g3, g4⟩ := ih rvs vs' hk.2 h2 hc hf
      refine ⟨cv :: cvs, by simp [List.mapM_cons, g1, g3], ?_⟩
      refine ⟨by have := g4.1; simp at this ⊢; exact this, fun i hi => ?_⟩
      cases i with
      | zero => simpa [Array.getD] using g2
      | succ i =>
        have hi' : i < vs'.length := by simpa using hi
        have := g4.2 i hi'
        have hlt : i < cvs.length := by have h := g4.1; simp at h; omega
        simp [Array.getD, hlt] at this ⊢
        exact this

theorem results_run {fn : Func} {l : List ARV} {vs : List AV} (hk : chkRvs P l fn.results.toList = true) (he : resAll h F l = some vs) (hc : Cpl φ S h w) (hf : FRel φ S w F tmps) :
    ∃ cv, (results fn tmps).run P w = .ok cv w ∧ VR φ S w (oneOf vs) cv := by
  obtain ⟨cvs, h1, h2⟩ := resAll_run l fn.results.toList vs hk he hc hf
  have hm : (fn.results.mapM (resSem tmps)).run P w = .ok cvs.toArray w := by
    rw [Array.mapM_eq_mapM_toList]
    simp [h1]
  have hres : results fn tmps = (do let vs ← fn.results.mapM (resSem tmps); pure (if h : vs.size = 1 then vs[0] else .tuple vs)) := rfl
  rw [hres]
  simp only [Sem.run_bind, hm, Result.andThen_ok, Sem.run_pure]
  refine ⟨_, rfl, ?_⟩
  have hl := h2.1
  simp at hl
  match vs, cvs, hl, h2 with
  | [], [], _, _ => simp only [oneOf]; exact .tup _ _ rfl (fun i hi => absurd hi (by simp))
  | [v], [cv], _, h2 => simpa [oneOf, Array.getD] using h2.2 0 (by simp)
  | v :: v' :: vs, cv :: cv' :: cvs, hl, h2 =>
    simp only [oneOf]
    have : ¬ ((cv :: cv' :: cvs).toArray.size = 1) := by simp
    rw [dif_neg this]
    exact .tup _ _ h2.1 h2.2

theorem initF_get (l : List AV) : ∀ (i j : Nat), ((List.rec (motive := fun _ => Nat → Fr) (fun _ => []) (fun a _ ih i => Fr.set (ih (Nat.add i 1)) i a) l) i).get j = (if i ≤ j then l.getD (j - i) .bot else .bot) ∨
    Fr.get ((List.rec (motive := fun _ => Nat → Fr) (fun _ => []) (fun a _ ih i => Fr.set (ih (Nat.add i 1)) i a) l) i) j = .bot := by
  induction l with
  | nil => intro i j; exact .inr rfl
  | cons a l ih =>
    intro i j
    have h1 := ih (i + 1) j
    show (Fr.set (List.rec (motive := fun _ => Nat → Fr) (fun _ => []) (fun a _ ih i => Fr.set (ih (Nat.add i 1)) i a) l (i + 1)) i a).get j = _ ∨ (Fr.set (List.rec (motive := fun _ => Nat → Fr) (fun _ => []) (fun a _ ih i => Fr.set (ih (Nat.add i 1)) i a) l (i + 1)) i a).get j = .bot
    generalize (List.rec (motive := fun _ => Nat → Fr) (fun _ => []) (fun a _ ih i => Fr.set (ih (Nat.add i 1)) i a) l (i + 1) : Fr) = G at *
    rcases Fr.get_set G i a j with h | h
    · rw [h]
      by_cases e : j = i
      · subst e; simp
      · simp only [e, if_false]
        rcases h1 with h1 | h1
        · rw [h1]
          by_cases e2 : i + 1 ≤ j
          · have e3 : i ≤ j := by omega
            have e4 : j - i = (j - (i + 1)) + 1 := by omega
            simp [e2, e3, e4]
          · have e3 : ¬ i ≤ j := by omega
            simp [e2, e3]
        · exact .inr h1
    · exact .inr h

theorem initF_rel {l : List AV} {vs : Array Value} (hv : VRs φ S w l vs) (n : Nat) : FRel φ S w (initF l) (vs ++ Array.replicate n undef) := by
  intro j
  rcases initF_get l 0 j with h | h
  · have h' : (initF l).get j = l.getD j .bot := by
      have : (initF l).get j = _ := h
      simpa using this
    rw [h']
    by_cases hj : j < l.length
    · have := hv.2 j hj
      have hj' : j < vs.size := by rw [hv.1]; exact hj
      have e : (vs ++ Array.replicate n undef).getD j undef = vs.getD j undef := by
        simp [Array.getD, hj', show j < vs.size + n by omega]
      rw [e]; exact this
    · have : l.getD j .bot = .bot := by simp [List.getD, Nat.le_of_not_lt hj]
      rw [this]; exact .bot _
  · have h' : (initF l).get j = .bot := h
    rw [h']; exact .bot _
end

end Go.Am
