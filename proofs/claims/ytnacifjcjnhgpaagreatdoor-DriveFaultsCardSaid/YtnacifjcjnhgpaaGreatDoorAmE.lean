import Derived.Test.YtnacifjcjnhgpaaGreatDoorAmD
set_option linter.all false
namespace Go.Am
open Go

/- which operands an operation looks at -/
def optL (o : Option Opd) : List Opd := match o with | some x => [x] | none => []
def AOp.opds : AOp → List Opd
  | .mv x | .box x | .ld1 x | .ldn _ x | .nck x | .un _ x | .cvt _ x | .cvs x | .s2b x | .b2s x | .mki _ x | .fa _ x | .fld1 _ x | .fldn _ _ x | .rng x | .nxt x | .tas _ _ x _ | .ext x _ | .len _ x | .pan x => [x]
  | .pick c a b => [c, a, b]
  | .new .. | .mkm | .bad | .rcv => []
  | .bld _ ps => ps.map (·.2.2)
  | .bsl _ _ _ ps => ps.map (·.2.2)
  | .st _ x v => [x, v]
  | .bin _ x y => [x, y]
  | .eqn _ _ x y => [x, y]
  | .mkf _ a b => a ++ b
  | .mks _ l c => [l, c]
  | .sls x lo hi => x :: (optL lo ++ optL hi)
  | .slc _ x lo hi m => x :: (optL lo ++ optL hi ++ optL m)
  | .sla _ _ x lo hi => x :: (optL lo ++ optL hi)
  | .ia _ x i | .iaa _ _ x i | .ixs x i | .ixa1 _ x i | .ixan _ _ x i => [x, i]
  | .lkp _ _ _ x i => [x, i]
  | .mup _ m k v => [m, k, v]
  | .call _ l => l
  | .callv f l => f :: l
  | .app _ _ x y => [x, y]
  | .mn l => l
  | AOp.mx l => l
  | .del _ m k => [m, k]
  | .cpy _ x y => [x, y]
  | .dfr f l => f :: l

theorem evs_congr {F F' : Fr} {l : List Opd} (h : ∀ x ∈ l, x.ev F = x.ev F') : evs F l = evs F' l := by
  rw [evs_eq, evs_eq]; exact List.map_congr_left h
theorem bnd_congr {F F' : Fr} {d : Nat} {o : Option Opd} (h : ∀ x ∈ optL o, x.ev F = x.ev F') : bnd F d o = bnd F' d o := by
  cases o with
  | none => rfl
  | some x => simp only [bnd]; rw [h x (by simp [optL])]
theorem fills_cons (F : Fr) (z : List AV) (p : Nat × Nat × Opd) (ps : List (Nat × Nat × Opd)) : fills F z (p :: ps) =
    obind (AV.cells? (Opd.ev F p.2.2)) fun cs => ogrd (Nat.beq (llen cs) p.2.1) (ogrd (Nat.ble (Nat.add p.1 p.2.1) (llen z)) (obind (lput z p.1 cs) fun z => fills F z ps)) := rfl
theorem fills_congr {F F' : Fr} : ∀ {ps : List (Nat × Nat × Opd)} {z : List AV}, (∀ x ∈ ps.map (·.2.2), x.ev F = x.ev F') → fills F z ps = fills F' z ps
  | [], z, _ => rfl
  | p :: ps, z, h => by
    have h0 := h p.2.2 (by simp)
    have hfun : (fun z => fills F z ps) = fun z => fills F' z ps := funext fun z => fills_congr fun x hx => h x (by simp only [List.map_cons, List.mem_cons]; exact .inr hx)
    rw [fills_cons, fills_cons, h0, hfun]
theorem aslc_congr {F F' : Fr} {sz : Nat} {x : AV} {lo hi m : Option Opd} (h1 : ∀ x ∈ optL lo, x.ev F = x.ev F') (h2 : ∀ x ∈ optL hi, x.ev F = x.ev F') (h3 : ∀ x ∈ optL m, x.ev F = x.ev F') :
    aslc F sz x lo hi m = aslc F' sz x lo hi m := by
  unfold aslc
  simp only [bnd_congr h1, bnd_congr h2, bnd_congr h3]

theorem aop_congr {ao : AOp} {F F' : Fr} {h : Heap} (hx : ∀ x ∈ ao.opds, x.ev F = x.ev F') : aop ao F h = aop ao F' h := by
  cases ao with
  | bld z ps => simp only [aop]; rw [fills_congr hx]
  | bsl z len sz ps => simp only [aop]; rw [fills_congr hx]
  | mkf f a b =>
    simp only [aop]
    rw [evs_congr (l := a) (F' := F') (fun x h => hx x (by simp [AOp.opds, h])), evs_congr (l := b) (F' := F') (fun x h => hx x (by simp [AOp.opds, h]))]
  | sls x lo hi =>
    simp only [aop]
    rw [hx x (by simp [AOp.opds]), bnd_congr (o := lo) (F' := F') (fun x h => hx x (by simp [AOp.opds, h])), ]
    simp only [bnd_congr (o := hi) (F := F) (F' := F') (fun x h => hx x (by simp [AOp.opds, h]))]
  | slc sz x lo hi m =>
    simp only [aop]
    rw [hx x (by simp [AOp.opds]), aslc_congr (fun x h => hx x (by simp [AOp.opds, h])) (fun x h => hx x (by simp [AOp.opds, h])) (fun x h => hx x (by simp [AOp.opds, h]))]
  | sla n sz x lo hi =>
    simp only [aop]
    rw [hx x (by simp [AOp.opds]), bnd_congr (o := lo) (F' := F') (fun x h => hx x (by simp [AOp.opds, h])), ]
    simp only [bnd_congr (o := hi) (F := F) (F' := F') (fun x h => hx x (by simp [AOp.opds, h]))]
  | mn l => simp only [aop]; rw [evs_congr (l := l) (F' := F') hx]
  | mx l => simp only [aop]; rw [evs_congr (l := l) (F' := F') hx]
  | call f l => rfl
  | callv f l => rfl
  | dfr f l => rfl
  | pan x => rfl
  | cpy sz x y => rfl
  | _ =>
    simp only [AOp.opds, List.mem_cons, List.not_mem_nil, or_false, forall_eq_or_imp, forall_eq] at hx
    simp only [aop, hx]

/- classes -/
theorem cls0 {ao : AOp} {F : Fr} {h h' : Heap} {v : AV} (hc : ao.cls = 0) (he : aop ao F h = some (v, h')) : h' = h ∧ ∀ h2, aop ao F h2 = some (v, h2) := by
  cases ao <;> first | (simp [AOp.cls] at hc; done) | skip
  all_goals
    simp only [aop, obind_some, ogrd_some, Option.some.injEq, Prod.mk.injEq] at he
    first
      | (obtain ⟨x0, rfl⟩ := he; exact ⟨rfl, fun h2' => by simp only [aop, obind_some, ogrd_some, Option.some.injEq, Prod.mk.injEq, and_true]; exact x0⟩)
      | (obtain ⟨x0, x1, rfl⟩ := he; exact ⟨rfl, fun h2' => by simp only [aop, obind_some, ogrd_some, Option.some.injEq, Prod.mk.injEq, and_true]; exact ⟨x0, x1⟩⟩)
      | (obtain ⟨x0, x1, x2, rfl⟩ := he; exact ⟨rfl, fun h2' => by simp only [aop, obind_some, ogrd_some, Option.some.injEq, Prod.mk.injEq, and_true]; exact ⟨x0, x1, x2⟩⟩)
      | (obtain ⟨x0, x1, x2, x3, rfl⟩ := he; exact ⟨rfl, fun h2' => by simp only [aop, obind_some, ogrd_some, Option.some.injEq, Prod.mk.injEq, and_true]; exact ⟨x0, x1, x2, x3⟩⟩)
      | (obtain ⟨x0, x1, x2, x3, x4, rfl⟩ := he; exact ⟨rfl, fun h2' => by simp only [aop, obind_some, ogrd_some, Option.some.injEq, Prod.mk.injEq, and_true]; exact ⟨x0, x1, x2, x3, x4⟩⟩)
      | (obtain ⟨x0, x1, x2, x3, x4, x5, rfl⟩ := he; exact ⟨rfl, fun h2' => by simp only [aop, obind_some, ogrd_some, Option.some.injEq, Prod.mk.injEq, and_true]; exact ⟨x0, x1, x2, x3, x4, x5⟩⟩)
      | (obtain ⟨x0, x1, x2, x3, x4, x5, x6, rfl⟩ := he; exact ⟨rfl, fun h2' => by simp only [aop, obind_some, ogrd_some, Option.some.injEq, Prod.mk.injEq, and_true]; exact ⟨x0, x1, x2, x3, x4, x5, x6⟩⟩)
      | (obtain ⟨x0, x1, x2, x3, x4, x5, x6, x7, rfl⟩ := he; exact ⟨rfl, fun h2' => by simp only [aop, obind_some, ogrd_some, Option.some.injEq, Prod.mk.injEq, and_true]; exact ⟨x0, x1, x2, x3, x4, x5, x6, x7⟩⟩)
      | (obtain ⟨x0, x1, x2, x3, x4, x5, x6, x7, x8, rfl⟩ := he; exact ⟨rfl, fun h2' => by simp only [aop, obind_some, ogrd_some, Option.some.injEq, Prod.mk.injEq, and_true]; exact ⟨x0, x1, x2, x3, x4, x5, x6, x7, x8⟩⟩)
      | (obtain ⟨x0, x1, x2, x3, x4, x5, x6, x7, x8, x9, rfl⟩ := he; exact ⟨rfl, fun h2' => by simp only [aop, obind_some, ogrd_some, Option.some.injEq, Prod.mk.injEq, and_true]; exact ⟨x0, x1, x2, x3, x4, x5, x6, x7, x8, x9⟩⟩)
      | (obtain ⟨x0, x1, x2, x3, x4, x5, x6, x7, x8, x9, x10, rfl⟩ := he; exact ⟨rfl, fun h2' => by simp only [aop, obind_some, ogrd_some, Option.some.injEq, Prod.mk.injEq, and_true]; exact ⟨x0, x1, x2, x3, x4, x5, x6, x7, x8, x9, x10⟩⟩)

theorem cls1 {ao : AOp} {F : Fr} {h h' : Heap} {v : AV} (hc : ao.cls = 1) (he : aop ao F h = some (v, h')) : h' = h := by
  cases ao <;> first | (simp [AOp.cls] at hc; done) | skip
  case lkp kk z ok x i =>
    simp only [aop, obind_some] at he
    obtain ⟨es, _, r, _, he⟩ := he
    cases r <;> (cases he; rfl)
  all_goals
    simp only [aop, obind_some, ogrd_some, Option.some.injEq, Prod.mk.injEq] at he
    first
      | (obtain ⟨_, _, _, rfl⟩ := he; rfl)
      | (obtain ⟨_, _, _, _, rfl⟩ := he; rfl)
      | (obtain ⟨_, _, _, _, _, rfl⟩ := he; rfl)
      | (obtain ⟨_, _, _, _, _, _, rfl⟩ := he; rfl)
      | (obtain ⟨_, _, _, _, _, _, _, rfl⟩ := he; rfl)
      | (obtain ⟨_, _, _, _, _, _, _, _, rfl⟩ := he; rfl)
      | (obtain ⟨_, _, _, _, _, _, _, _, _, rfl⟩ := he; rfl)
      | (obtain ⟨_, _, _, _, _, _, _, _, _, _, rfl⟩ := he; rfl)
      | (obtain ⟨_, _, _, _, _, _, _, _, _, _, _, rfl⟩ := he; rfl)
      | (obtain ⟨_, _, _, _, _, _, _, _, _, _, _, _, rfl⟩ := he; rfl)
      | (obtain ⟨_, _, _, _, _, _, _, _, _, _, _, _, _, rfl⟩ := he; rfl)

theorem cls2 {ao : AOp} {F : Fr} {h h' : Heap} {v : AV} (hc : ao.cls = 2) (he : aop ao F h = some (v, h')) : ∃ ob, h' = h.new ob ∧ ∀ h2 : Heap, h2.next = h.next → aop ao F h2 = some (v, h2.new ob) := by
  cases ao <;> first | (simp [AOp.cls] at hc; done) | skip
  all_goals
    simp only [aop, obind_some, Option.some.injEq, Prod.mk.injEq] at he ⊢
    first
      | (obtain ⟨rfl, rfl⟩ := he; exact ⟨_, rfl, fun h2 hn => ⟨by rw [hn], rfl⟩⟩)
      | (obtain ⟨cs, h1, rfl, rfl⟩ := he; exact ⟨_, rfl, fun h2 hn => ⟨cs, h1, by rw [hn], rfl⟩⟩)

/- a heap's new object -/
theorem Tr.set_self {α : Type} (d : α) : ∀ (n : Nat) (t t' : Tr α) (i : Nat) (x : α), Tr.get d (Tr.set d n t i x) i = Tr.get d (Tr.set d n t' i x) i := by
  intro n
  induction n with
  | zero => intro t t' i x; rfl
  | succ n ih =>
    have key : ∀ (t : Tr α) (i : Nat) (x : α), Tr.get d (Tr.set d (n + 1) t i x) i = match i with | 0 => x | j + 1 => Tr.get d (Tr.set d n .e (j / 2) x) (j / 2) := by
      intro t i x
      cases t with
      | e =>
        rw [Tr.set_e]
        cases i with
        | zero => simp only [Tr.get_n]
        | succ i => by_cases h : i % 2 = 1 <;> simp only [h, if_true, if_false, Tr.get_n]
      | n v l r =>
        rw [Tr.set_n]
        cases i with
        | zero => simp only [Tr.get_n]
        | succ i => by_cases h : i % 2 = 1 <;> simp only [h, if_true, if_false, Tr.get_n] <;> exact ih _ _ _ _
    intro t t' i x
    rw [key, key]
theorem heap_new_same {h1 h2 : Heap} (hn : h1.next = h2.next) (ob : AObj) : (h1.new ob).get h1.next = (h2.new ob).get h2.next := by
  show Tr.get .dead (Tr.set .dead 20 h1.objs h1.next ob) h1.next = Tr.get .dead (Tr.set .dead 20 h2.objs h2.next ob) h2.next
  rw [hn]
  exact Tr.set_self _ _ _ _ _ _

/- some slots alone -/
def Fr.rest (p : Nat → Bool) : Fr → Fr
  | [] => []
  | q :: F => if p q.1 then q :: Fr.rest p F else Fr.rest p F
theorem Fr.get_cons (q : Nat × AV) (F : Fr) (i : Nat) : Fr.get (q :: F) i = if q.1 = i then q.2 else F.get i := by
  show (Bool.rec (motive := fun _ => AV) (F.get i) q.2 (Nat.beq q.1 i) : AV) = _
  by_cases h : q.1 = i
  · rw [h, Nat.beq_refl]; simp
  · have : Nat.beq q.1 i = false := by
      cases hb : Nat.beq q.1 i with
      | false => rfl
      | true => exact absurd (Nat.eq_of_beq_eq_true hb) h
    rw [this]; simp [h]
theorem Fr.get_rest (p : Nat → Bool) (F : Fr) (i : Nat) : (F.rest p).get i = if p i then F.get i else .bot := by
  induction F with
  | nil => unfold Fr.rest; cases p i <;> rfl
  | cons q F ih =>
    unfold Fr.rest
    by_cases hq : p q.1 = true
    · rw [if_pos hq, Fr.get_cons, Fr.get_cons, ih]
      by_cases e : q.1 = i
      · subst e; simp [hq]
      · simp [e]
    · rw [if_neg hq, ih, Fr.get_cons]
      by_cases e : q.1 = i
      · subst e; simp [hq]
      · simp [e]

/- equality -/
theorem avEq_sound : ∀ (n : Nat) (a b : AV), avEq n a b = true → a = b := by
  intro n
  induction n with
  | zero => intro a b h; cases h
  | succ n ih =>
    have hl : ∀ (x y : List AV), (List.rec (motive := fun _ => List AV → Bool) (fun y => List.rec true (fun _ _ _ => false) y)
        (fun a _ r y => List.rec (motive := fun _ => Bool) false (fun b y' _ => avEq n a b && r y') y) x : List AV → Bool) y = true → x = y := by
      intro x
      induction x with
      | nil => intro y h; cases y with | nil => rfl | cons => cases h
      | cons a x ihx =>
        intro y h
        cases y with
        | nil => cases h
        | cons b y =>
          have h' : (avEq n a b && (List.rec (motive := fun _ => List AV → Bool) (fun y => List.rec true (fun _ _ _ => false) y)
            (fun a _ r y => List.rec (motive := fun _ => Bool) false (fun b y' _ => avEq n a b && r y') y) x : List AV → Bool) y) = true := h
          simp only [Bool.and_eq_true] at h'
          rw [ih _ _ h'.1, ihx _ h'.2]
    have bb : ∀ x y : Bool, beqB x y = true → x = y := by intro x y h; cases x <;> cases y <;> first | rfl | cases h
    intro a b h
    cases a <;> cases b <;> first | (exact absurd h Bool.false_ne_true) | rfl | skip
    · rw [bb _ _ h]
    · have h' : (ikEq _ _ && ieqB _ _) = true := h
      simp only [Bool.and_eq_true] at h'
      have e2 := h'.2; rw [ieqB_iff, decide_eq_true_eq] at e2; rw [ikEq_eq h'.1, e2]
    · have h' : leq _ _ = true := h
      rw [leq_eq, decide_eq_true_eq] at h'
      rw [h']
    · have h' : (Nat.beq _ _ && Nat.beq _ _) = true := h
      simp only [Bool.and_eq_true] at h'
      rw [Nat.eq_of_beq_eq_true h'.1, Nat.eq_of_beq_eq_true h'.2]
    · rw [hl _ _ h]
    · rw [bb _ _ h]
    · have h' : (beqB _ _ && Nat.beq _ _ && _) = true := h
      simp only [Bool.and_eq_true] at h'
      rw [bb _ _ h'.1.1, Nat.eq_of_beq_eq_true h'.1.2, hl _ _ h'.2]
    · have h' : (Nat.beq _ _ && Nat.beq _ _ && Nat.beq _ _ && Nat.beq _ _ && decide _) = true := h
      simp only [Bool.and_eq_true, decide_eq_true_eq] at h'
      obtain ⟨⟨⟨⟨h1, h2⟩, h3⟩, h4⟩, h5⟩ := h'
      rw [Nat.eq_of_beq_eq_true h1, Nat.eq_of_beq_eq_true h2, Nat.eq_of_beq_eq_true h3, Nat.eq_of_beq_eq_true h4, h5]
    · have h' : Nat.beq _ _ = true := h
      rw [Nat.eq_of_beq_eq_true h']
    · have h' : (Nat.beq _ _ && avEq n _ _) = true := h
      simp only [Bool.and_eq_true] at h'
      rw [Nat.eq_of_beq_eq_true h'.1, ih _ _ h'.2]
    · rw [hl _ _ h]
    · rw [hl _ _ h]

end Go.Am
namespace Go.Am
open Go

/- the check -/
def usesB (o : AOper) (d : Nat) : Bool := (o.op.opds.any fun x => match x with | .t i => i == d | _ => false) || (match o.g with | some (s, _) => s == d | none => false)
def bitsAt (l : List DOper) (j : Nat) : Nat := match l.find? (fun o => o.idx == j) with | some o => o.bits | none => 0
def bitsOf (l : List DOper) (es : List Edge) : Nat := es.foldr (fun e s => if Region.binds .any e then 2 ^ e.on ||| bitsAt l e.on ||| s else s) 0
def dop (l : List DOper) (t : Nat) : DOper := l.getD t default

def pairB (a b : DOper) (t u : Nat) : Bool :=
  (t == u || a.idx != b.idx) && (!(a.bits.testBit b.idx) || decide (u < t)) &&
     (t == u || (match b.o.dst with | none => true | some d => !(usesB a.o d || decide (a.o.dst = some d)) || (a.bits.testBit b.idx || b.bits.testBit a.idx)))

/-- the last two the other way round -/
def swapL : List DOper → List DOper
  | [a, b] => [b, a]
  | a :: l => a :: swapL l
  | [] => []
def pairL : List DOper → Bool
  | [a, b] => (pairOf a [b]).isSome
  | _ :: l => pairL l
  | [] => false

def chkD0 (P : Program) : ChkD := fun N l ops =>
  l.length == ops.size &&
  ((List.range ops.size).all fun i => l.any fun o => o.idx == i) &&
  ((List.range l.length).all fun t => (List.range l.length).all fun u => pairB (dop l t) (dop l u) t u) &&
  (l.all fun o => match ops[o.idx]? with | some op => chkOper P N ops o.o op && o.bits == bitsOf l op.after.toList && (op.after.toList.all fun e => !Region.binds .any e || decide (e.on < ops.size)) | none => false)

def chkD (P : Program) : ChkD := fun N l ops => chkD0 P N l ops && (!pairL l || chkD0 P N (swapL l) ops)

structure Tab (P : Program) (N : Nat) (l : List DOper) (ops : Array Oper) : Prop where
  len : l.length = ops.size
  sur : ∀ i, i < ops.size → ∃ t, t < l.length ∧ (dop l t).idx = i
  inj : ∀ t u, t < l.length → u < l.length → (dop l t).idx = (dop l u).idx → t = u
  pos : ∀ t u, t < l.length → u < l.length → (dop l t).bits.testBit (dop l u).idx = true → u < t
  slot : ∀ t u d, t < l.length → u < l.length → t ≠ u → (dop l u).o.dst = some d → (usesB (dop l t).o d = true ∨ (dop l t).o.dst = some d) →
    (dop l t).bits.testBit (dop l u).idx = true ∨ (dop l u).bits.testBit (dop l t).idx = true
  op : ∀ t, t < l.length → ∃ o, ops[(dop l t).idx]? = some o ∧ chkOper P N ops (dop l t).o o = true ∧
    ∀ j, (dop l t).bits.testBit j = true → ∃ e ∈ o.after.toList, Region.binds .any e = true ∧ (e.on = j ∨ (bitsAt l e.on).testBit j = true)
  edge : ∀ t o, t < l.length → ops[(dop l t).idx]? = some o → ∀ e ∈ o.after.toList, Region.binds .any e = true → e.on < ops.size ∧ (dop l t).bits.testBit e.on = true

theorem bitsOf_on {l : List DOper} : ∀ {es : List Edge} {e : Edge}, e ∈ es → Region.binds .any e = true → (bitsOf l es).testBit e.on = true
  | e' :: es, e, h, hb => by
    have hu : bitsOf l (e' :: es) = if Region.binds .any e' then 2 ^ e'.on ||| bitsAt l e'.on ||| bitsOf l es else bitsOf l es := rfl
    rw [hu]
    rcases List.mem_cons.1 h with rfl | h
    · simp [hb, Nat.testBit_or, Nat.testBit_two_pow]
    · have := bitsOf_on (l := l) h hb
      split
      · simp [Nat.testBit_or, this]
      · exact this

theorem bitsOf_test {l : List DOper} : ∀ {es : List Edge} {j : Nat}, (bitsOf l es).testBit j = true → ∃ e ∈ es, Region.binds .any e = true ∧ (e.on = j ∨ (bitsAt l e.on).testBit j = true)
  | [], j, h => by simp [bitsOf] at h
  | e :: es, j, h => by
    have hu : bitsOf l (e :: es) = if Region.binds .any e then 2 ^ e.on ||| bitsAt l e.on ||| bitsOf l es else bitsOf l es := rfl
    rw [hu] at h
    split at h
    · rename_i hb
      simp only [Nat.testBit_or, Bool.or_eq_true] at h
      rcases h with (h | h) | h
      · rw [Nat.testBit_two_pow] at h
        exact ⟨e, by simp, hb, .inl (by simpa using h)⟩
      · exact ⟨e, by simp, hb, .inr h⟩
      · obtain ⟨e', h1, h2, h3⟩ := bitsOf_test h
        exact ⟨e', by simp [h1], h2, h3⟩
    · obtain ⟨e', h1, h2, h3⟩ := bitsOf_test h
      exact ⟨e', by simp [h1], h2, h3⟩

theorem dop_mem {l : List DOper} {t : Nat} (h : t < l.length) : dop l t ∈ l := by simp [dop, List.getD, h]
theorem mem_dop {l : List DOper} {o : DOper} (h : o ∈ l) : ∃ t, t < l.length ∧ dop l t = o := by
  obtain ⟨t, h1, h2⟩ := List.mem_iff_getElem.1 h
  exact ⟨t, h1, by simp [dop, List.getD, h1, h2]⟩

theorem chkD_ok {P : Program} {N : Nat} {l : List DOper} {ops : Array Oper} (h : chkD0 P N l ops = true) : Tab P N l ops := by
  simp only [chkD0, Bool.and_eq_true, beq_iff_eq, List.all_eq_true, List.mem_range, List.any_eq_true] at h
  obtain ⟨⟨⟨h1, h2⟩, h3⟩, h4⟩ := h
  have hp : ∀ t u, t < l.length → u < l.length → (t = u ∨ (dop l t).idx ≠ (dop l u).idx) ∧ ((dop l t).bits.testBit (dop l u).idx = true → u < t) ∧
      (t = u ∨ ∀ d, (dop l u).o.dst = some d → (usesB (dop l t).o d = true ∨ (dop l t).o.dst = some d) → (dop l t).bits.testBit (dop l u).idx = true ∨ (dop l u).bits.testBit (dop l t).idx = true) := by
    intro t u ht hu
    have := h3 t ht u hu
    simp only [pairB, Bool.and_eq_true, Bool.or_eq_true, beq_iff_eq, bne_iff_ne, Bool.not_eq_true', decide_eq_true_eq] at this
    obtain ⟨⟨a, b⟩, c⟩ := this
    refine ⟨a, fun hb => b.resolve_left (by simp [hb]), c.imp id fun c d hd hu => ?_⟩
    rw [hd] at c
    simp only [Bool.or_eq_true, Bool.not_eq_true', Bool.or_eq_false_iff, decide_eq_false_iff_not] at c
    rcases c with c | c
    · rcases hu with hu | hu
      · rw [c.1] at hu; cases hu
      · exact absurd hu c.2
    · exact c
  refine ⟨h1, fun i hi => ?_, fun t u ht hu he => (hp t u ht hu).1.resolve_right fun h => h he, fun t u ht hu hb => (hp t u ht hu).2.1 hb,
    fun t u d ht hu hne hd hus => ((hp t u ht hu).2.2.resolve_left hne) d hd hus, fun t ht => ?_, fun t o ht ho e he hb => ?_⟩
  · obtain ⟨o, ho, hi'⟩ := h2 i hi
    obtain ⟨t, ht, rfl⟩ := mem_dop ho
    exact ⟨t, ht, hi'⟩
  · have := h4 _ (dop_mem ht)
    split at this
    · rename_i o ho
      simp only [Bool.and_eq_true, beq_iff_eq] at this
      exact ⟨o, ho, this.1.1, fun j hj => bitsOf_test (by rw [← this.1.2]; exact hj)⟩
    · cases this
  · have := h4 _ (dop_mem ht)
    rw [ho] at this
    simp only [Bool.and_eq_true, beq_iff_eq, List.all_eq_true, Bool.or_eq_true, Bool.not_eq_true', decide_eq_true_eq] at this
    exact ⟨(this.2 e he).resolve_left (by simp [hb]), by rw [this.1.2]; exact bitsOf_on he hb⟩

theorem Tab.bitsAt {P : Program} {N : Nat} {l : List DOper} {ops : Array Oper} (T : Tab P N l ops) {t : Nat} (ht : t < l.length) : bitsAt l (dop l t).idx = (dop l t).bits := by
  unfold Go.Am.bitsAt
  cases hf : l.find? (fun o => o.idx == (dop l t).idx) with
  | none =>
    rw [List.find?_eq_none] at hf
    have := hf _ (dop_mem ht)
    simp at this
  | some o =>
    have h1 := List.mem_of_find?_eq_some hf
    have h2 := List.find?_some hf
    simp only [beq_iff_eq] at h2
    obtain ⟨u, hu, rfl⟩ := mem_dop h1
    rw [T.inj u t hu ht h2]

/- the run as a tape -/
inductive DStp (E : Env) (rec : Rec) (o : DOper) (s : DS) : DS → Prop
  | skip (hw : wantedB s.F o.o.g = some false) : DStp E rec o s ⟨putF s.F o.o.dst (.tup []), s.h, s.hc, s.done, s.hist⟩
  | pure (v : AV) (h0 : Heap) (hw : wantedB s.F o.o.g = some true) (hc : o.o.op.cls = 0) (he : aop o.o.op s.F .empty = some (v, h0)) : DStp E rec o s ⟨putF s.F o.o.dst v, s.h, s.hc, s.done, s.hist⟩
  | read (v : AV) (hw : wantedB s.F o.o.g = some true) (hc : clsE E o.o.op = 1) (he : reRead E o.o.op s.F s.hc = some (.ret v)) (hr : readsOk E o.o.op s.F v o.bits s.hist = true) :
      DStp E rec o s ⟨putF s.F o.o.dst v, s.h, s.hc, o.idx :: s.done, s.hist⟩
  | alloc (v : AV) (h' : Heap) (hw : wantedB s.F o.o.g = some true) (hc : o.o.op.cls = 2) (he : aop o.o.op s.F s.h = some (v, h')) : DStp E rec o s ⟨putF s.F o.o.dst v, h', s.hc, o.idx :: s.done, s.hist⟩
  | chain (v : AV) (h' : Heap) (hw : wantedB s.F o.o.g = some true) (he : dChain E rec o.o.op s.F s.h = some (.ret v, h')) (hn : s.h.next ≤ h'.next) :
      DStp E rec o s ⟨putF s.F o.o.dst v, h', h', o.idx :: s.done, (o.idx, s.hc) :: s.hist⟩

structure DPan (E : Env) (rec : Rec) (o : DOper) (rest : List DOper) (s : DS) (v : AV) (h' : Heap) : Prop where
  hw : wantedB s.F o.o.g = some true
  hb : allBits o.bits s.done = true
  he : dChain E rec o.o.op s.F s.h = some (.pan v, h')
  hr : restBits o.idx rest = true

theorem clsE_0 {E : Env} {ao : AOp} (h : clsE E ao = 0) : ao.cls = 0 := by
  cases ao with
  | call f args =>
    have h : Option.rec (motive := fun _ => Nat) 3 (fun _ => 1) (E.pur f) = 0 := h
    cases hp : E.pur f <;> rw [hp] at h <;> cases h
  | _ => exact h
theorem clsE_2 {E : Env} {ao : AOp} (h : clsE E ao = 2) : ao.cls = 2 := by
  cases ao with
  | call f args =>
    have h : Option.rec (motive := fun _ => Nat) 3 (fun _ => 1) (E.pur f) = 2 := h
    cases hp : E.pur f <;> rw [hp] at h <;> cases h
  | _ => exact h

theorem obind_none {α β : Type} {o : Option α} {f : α → Option β} (h : o = none) : obind o f = none := by subst h; rfl

theorem dStep_inv {E : Env} {rec : Rec} {d : List (AV × List AV)} {o : DOper} {rest : List DOper} {s : DS} {k : DS → OR} {r : Out × St} (h : dStep E rec d o rest s k = some r) :
    (∃ s', DStp E rec o s s' ∧ (s'.hist ≠ s.hist → allBits o.bits s.done = true) ∧ k s' = some r) ∨ ∃ v h', DPan E rec o rest s v h' ∧ r = (.pan v, ⟨[], h', d⟩) := by
  have chained : wantedB s.F o.o.g = some true → dChained E rec d o rest s k = some r →
      (∃ s', DStp E rec o s s' ∧ (s'.hist ≠ s.hist → allBits o.bits s.done = true) ∧ k s' = some r) ∨ ∃ v h', DPan E rec o rest s v h' ∧ r = (.pan v, ⟨[], h', d⟩) := by
    intro hw hd
    unfold dChained at hd
    simp only [ogrd_some, obind_some] at hd
    obtain ⟨hb, ⟨rr, h'⟩, he, hn, hk⟩ := hd
    cases rr with
    | ret v => exact .inl ⟨_, .chain v h' hw he (Nat.le_of_ble_eq_true hn), fun _ => hb, hk⟩
    | pan v =>
      have hk : ogrd (restBits o.idx rest) (some (Out.pan v, (⟨[], h', d⟩ : St))) = some r := hk
      rw [ogrd_some] at hk
      obtain ⟨hr, hk⟩ := hk
      cases hk
      exact .inr ⟨v, h', ⟨hw, hb, he, hr⟩, rfl⟩
  unfold dStep at h
  rw [obind_some] at h
  obtain ⟨wd, hw, h⟩ := h
  cases wd with
  | false => exact .inl ⟨_, .skip hw, fun h => absurd rfl h, h⟩
  | true =>
    replace h : (match clsE E o.o.op with
      | 0 => obind (aop o.o.op s.F .empty) fun r => k ⟨putF s.F o.o.dst r.1, s.h, s.hc, s.done, s.hist⟩
      | 1 => Option.rec (dChained E rec d o rest s k)
          (fun v => Bool.rec (dChained E rec d o rest s k) (k ⟨putF s.F o.o.dst v, s.h, s.hc, o.idx :: s.done, s.hist⟩) (readsOk E o.o.op s.F v o.bits s.hist))
          (obind (reRead E o.o.op s.F s.hc) retV)
      | 2 => obind (aop o.o.op s.F s.h) fun r => k ⟨putF s.F o.o.dst r.1, r.2, s.hc, o.idx :: s.done, s.hist⟩
      | _ => dChained E rec d o rest s k) = some r := h
    split at h
    · rename_i hc
      rw [obind_some] at h
      obtain ⟨⟨v, h0⟩, he, hk⟩ := h
      exact .inl ⟨_, .pure v h0 hw (clsE_0 hc) he, fun h => absurd rfl h, hk⟩
    · rename_i hc
      cases hrr : obind (reRead E o.o.op s.F s.hc) retV with
      | none => rw [hrr] at h; exact chained hw h
      | some v =>
        rw [hrr] at h
        cases hro : readsOk E o.o.op s.F v o.bits s.hist with
        | false =>
          replace h : Bool.rec (motive := fun _ => OR) (dChained E rec d o rest s k) (k ⟨putF s.F o.o.dst v, s.h, s.hc, o.idx :: s.done, s.hist⟩) (readsOk E o.o.op s.F v o.bits s.hist) = some r := h
          rw [hro] at h
          exact chained hw h
        | true =>
          replace h : Bool.rec (motive := fun _ => OR) (dChained E rec d o rest s k) (k ⟨putF s.F o.o.dst v, s.h, s.hc, o.idx :: s.done, s.hist⟩) (readsOk E o.o.op s.F v o.bits s.hist) = some r := h
          rw [hro] at h
          rw [obind_some] at hrr
          obtain ⟨r1, h1, h2⟩ := hrr
          cases r1 with
          | ret v' => cases h2; exact .inl ⟨_, .read v hw hc h1 hro, fun h => absurd rfl h, h⟩
          | pan v' => cases h2
    · rename_i hc
      rw [obind_some] at h
      obtain ⟨⟨v, h0⟩, he, hk⟩ := h
      exact .inl ⟨_, .alloc v h0 hw (clsE_2 hc) he, fun h => absurd rfl h, hk⟩
    · exact chained hw h

structure Tape (E : Env) (rec : Rec) (l : List DOper) (s : DS) (n : Nat) (st : Nat → DS) : Prop where
  zero : st 0 = s
  le : n ≤ l.length
  stp : ∀ t, t < n → DStp E rec (dop l t) (st t) (st (t + 1))

/-- a chained operation comes behind all that is done (but for what is pure) -/
def Ord (l : List DOper) (n : Nat) (st : Nat → DS) : Prop := ∀ t, t < n → (st (t + 1)).hist ≠ (st t).hist → allBits (dop l t).bits (st t).done = true

structure PairAt (l : List DOper) (d : List (AV × List AV)) (n : Nat) (st : Nat → DS) (r : Out × St) (a b : DOper) : Prop where
  len : n + 2 = l.length
  at0 : l.drop n = [a, b]
  pair : pairOf a [b] = some b
  ev : dPair d a b (st n) = some r

theorem pairOf_some {o : DOper} {rest : List DOper} {o2 : DOper} (h : pairOf o rest = some o2) : rest = [o2] := by
  unfold pairOf at h
  split at h
  · split at h
    · cases hb : (Nat.testBit _ _ || Nat.testBit _ _) <;> rw [hb] at h <;> cases h
      rfl
    · cases h
  · cases h

theorem evRegd_tape {E : Env} {rec : Rec} {d : List (AV × List AV)} : ∀ {l : List DOper} {s : DS} {r : Out × St}, evRegd E rec d l s = some r →
    ∃ n st, Tape E rec l s n st ∧ Ord l n st ∧ ((n = l.length ∧ r = (.normal, ⟨(st n).F, (st n).h, d⟩)) ∨
      (n < l.length ∧ ∃ v h', DPan E rec (dop l n) (l.drop (n + 1)) (st n) v h' ∧ r = (.pan v, ⟨[], h', d⟩)) ∨
      ∃ a b, PairAt l d n st r a b)
  | [], s, r, h => by
    cases h
    exact ⟨0, fun _ => s, ⟨rfl, Nat.le_refl _, fun t ht => absurd ht (by omega)⟩, fun t ht => absurd ht (by omega), .inl ⟨rfl, rfl⟩⟩
  | o :: l, s, r, h => by
    have h : Option.rec (motive := fun _ => OR) (dStep E rec d o l s (evRegd E rec d l)) (fun o2 => dPair d o o2 s) (pairOf o l) = some r := h
    cases hpo : pairOf o l with
    | some o2 =>
      rw [hpo] at h
      have hl := pairOf_some hpo
      subst hl
      exact ⟨0, fun _ => s, ⟨rfl, by simp, fun t ht => absurd ht (by omega)⟩, fun t ht => absurd ht (by omega), .inr (.inr ⟨o, o2, rfl, rfl, hpo, h⟩)⟩
    | none =>
      rw [hpo] at h
      rcases dStep_inv (k := evRegd E rec d l) h with ⟨s', hs, ho, hk⟩ | ⟨v, h', hp, hr⟩
      · obtain ⟨n, st, T, O, hT⟩ := evRegd_tape hk
        refine ⟨n + 1, fun t => match t with | 0 => s | t + 1 => st t, ⟨rfl, by simp [T.le], fun t ht => ?_⟩, fun t ht hc => ?_, ?_⟩
        · cases t with
          | zero => show DStp E rec (dop (o :: l) 0) s (st 0); rw [T.zero]; exact hs
          | succ t => exact T.stp t (by omega)
        · cases t with
          | zero => exact ho (by have : (st 0).hist ≠ s.hist := hc; rwa [T.zero] at this)
          | succ t => exact O t (by omega) hc
        · rcases hT with ⟨h1, h2⟩ | ⟨h1, v, h', h2, h3⟩ | ⟨a, b, p1, p2, p3, p4⟩
          · exact .inl ⟨by simp [h1], h2⟩
          · exact .inr (.inl ⟨by simp; exact h1, v, h', h2, h3⟩)
          · exact .inr (.inr ⟨a, b, by simp; omega, p2, p3, p4⟩)
      · exact ⟨0, fun _ => s, ⟨rfl, by simp, fun t ht => absurd ht (by omega)⟩, fun t ht => absurd ht (by omega), .inr (.inl ⟨by simp, v, h', hp, hr⟩)⟩

end Go.Am
namespace Go.Am
open Go

def Phi.below (φ : Phi) (n : Nat) : Phi := fun id => if id < n then φ id else none
def Phi.join (φ1 : Phi) (m : Nat) (φ : Phi) : Phi := fun id => if id < m then φ1 id else φ id

theorem Phi.below_some {φ : Phi} {n id : Nat} {x : Nat × Nat × Nat} : φ.below n id = some x ↔ id < n ∧ φ id = some x := by
  unfold Phi.below
  split <;> simp [*]
theorem below_mono {φ φ' : Phi} (h : ∀ id x, φ id = some x → φ' id = some x) {m n : Nat} (hn : m ≤ n) : ∀ id x, φ.below m id = some x → φ'.below n id = some x := fun id x hx => by
  rw [Phi.below_some] at hx ⊢
  exact ⟨by omega, h _ _ hx.2⟩

/- the tape -/
section tape
variable {E : Env} {rec : Rec} {l : List DOper} {s0 : DS} {n : Nat} {st : Nat → DS}

def nx (st : Nat → DS) (t : Nat) : Nat := (st t).h.next
def Ch (st : Nat → DS) (t : Nat) : Prop := (st (t + 1)).hist ≠ (st t).hist
/-- pure, or passed over -/
def Li (st : Nat → DS) (t : Nat) : Prop := (st (t + 1)).done = (st t).done

theorem stp_F {o : DOper} {s s' : DS} (h : DStp E rec o s s') : ∃ v, s'.F = putF s.F o.o.dst v := by
  cases h <;> exact ⟨_, rfl⟩
theorem stp_nx {o : DOper} {s s' : DS} (h : DStp E rec o s s') : s.h.next ≤ s'.h.next := by
  cases h with
  | alloc v h' hw hc he =>
    obtain ⟨ob, rfl, _⟩ := cls2 hc he
    exact Nat.le_succ _
  | chain v h' hw he hn => exact hn
  | _ => exact Nat.le_refl _
theorem stp_done {o : DOper} {s s' : DS} (h : DStp E rec o s s') : s'.done = s.done ∨ s'.done = o.idx :: s.done := by
  cases h <;> first | exact .inl rfl | exact .inr rfl
theorem stp_li {o : DOper} {s s' : DS} (h : DStp E rec o s s') (hl : s'.done = s.done) : s'.h = s.h ∧ s'.hc = s.hc ∧ s'.hist = s.hist := by
  cases h <;> first | exact ⟨rfl, rfl, rfl⟩ | (simp at hl; done)

theorem Tape.nx (T : Tape E rec l s0 n st) {u v : Nat} (h : u ≤ v) (hv : v ≤ n) : nx st u ≤ nx st v := by
  induction v with
  | zero => have : u = 0 := by omega
            subst this; exact Nat.le_refl _
  | succ v ih =>
    by_cases e : u = v + 1
    · subst e; exact Nat.le_refl _
    · exact Nat.le_trans (ih (by omega) (by omega)) (stp_nx (T.stp v (by omega)))

theorem Tape.same (T : Tape E rec l s0 n st) {t : Nat} (ht : t < n) (hc : ¬ Ch st t) : (st (t + 1)).hc = (st t).hc ∧ (st (t + 1)).hist = (st t).hist ∧
    ((st (t + 1)).h = (st t).h ∨ ∃ ob, (st (t + 1)).h = (st t).h.new ob) := by
  have h := T.stp t ht
  have hh : (st (t + 1)).hist = (st t).hist := Classical.byContradiction hc
  generalize st (t + 1) = s' at *
  cases h with
  | skip => exact ⟨rfl, rfl, .inl rfl⟩
  | pure => exact ⟨rfl, rfl, .inl rfl⟩
  | read => exact ⟨rfl, rfl, .inl rfl⟩
  | alloc v h' hw hc he =>
    obtain ⟨ob, rfl, _⟩ := cls2 hc he
    exact ⟨rfl, rfl, .inr ⟨ob, rfl⟩⟩
  | chain v h' hw he hn => exact absurd hh (by simp)

theorem Tape.done (T : Tape E rec l s0 n st) : ∀ {t : Nat}, t ≤ n → ∀ u, u < t → Li st u ∨ (dop l u).idx ∈ (st t).done := by
  intro t
  induction t with
  | zero => intro _ u hu; omega
  | succ t ih =>
    intro ht u hu
    have hs := stp_done (T.stp t (by omega))
    by_cases e : u = t
    · subst e
      rcases hs with h | h
      · exact .inl h
      · exact .inr (by rw [h]; simp)
    · rcases ih (by omega) u (by omega) with h | h
      · exact .inl h
      · rcases hs with h' | h'
        · exact .inr (by rw [h']; exact h)
        · exact .inr (by rw [h']; exact List.mem_cons_of_mem _ h)

theorem Tape.li (T : Tape E rec l s0 n st) {t : Nat} (ht : t < n) (h : Li st t) : (st (t + 1)).h = (st t).h ∧ (st (t + 1)).hc = (st t).hc ∧ ¬ Ch st t := by
  obtain ⟨h1, h2, h3⟩ := stp_li (T.stp t ht) h
  exact ⟨h1, h2, fun hc => hc h3⟩

theorem Tape.keep (T : Tape E rec l s0 n st) {d : Nat} : ∀ {t u : Nat}, u ≤ t → t ≤ n → (∀ v, u ≤ v → v < t → (dop l v).o.dst ≠ some d) → (st t).F.get d = (st u).F.get d ∨ (st t).F.get d = .bot := by
  intro t
  induction t with
  | zero => intro u hu _ _; have : u = 0 := by omega
            subst this; exact .inl rfl
  | succ t ih =>
    intro u hu ht hn
    by_cases e : u = t + 1
    · subst e; exact .inl rfl
    · have h1 := ih (u := u) (by omega) (by omega) (fun v h1 h2 => hn v h1 (by omega))
      obtain ⟨v, hv⟩ := stp_F (T.stp t (by omega))
      have hd := hn t (by omega) (by omega)
      rw [hv]
      cases hds : (dop l t).o.dst with
      | none => exact h1
      | some d' =>
        rw [hds] at hd
        show ((st t).F.set d' v).get d = _ ∨ ((st t).F.set d' v).get d = _
        rcases Fr.get_set (st t).F d' v d with h | h
        · have hne : ¬ d = d' := fun e => hd (by rw [e])
          rw [h]; simp only [hne, if_false]; exact h1
        · exact .inr h

theorem allBits_ok {bits : Nat} : ∀ {l : List Nat}, allBits bits l = true → ∀ j ∈ l, bits.testBit j = true := by
  intro l
  induction l with
  | nil => intro _ j hj; cases hj
  | cons a l ih =>
    intro h j hj
    have h' : (bits.testBit a && allBits bits l) = true := h
    simp only [Bool.and_eq_true] at h'
    rcases List.mem_cons.1 hj with rfl | hj
    · exact h'.1
    · exact ih h'.2 j hj
theorem restBits_ok {i : Nat} : ∀ {l : List DOper}, restBits i l = true → ∀ o ∈ l, o.bits.testBit i = true := by
  intro l
  induction l with
  | nil => intro _ j hj; cases hj
  | cons a l ih =>
    intro h j hj
    have h' : (a.bits.testBit i && restBits i l) = true := h
    simp only [Bool.and_eq_true] at h'
    rcases List.mem_cons.1 hj with rfl | hj
    · exact h'.1
    · exact ih h'.2 j hj

/-- the heap behind the last chained operation, or among those that were kept -/
theorem Tape.hist (T : Tape E rec l s0 n st) {q : Nat} (hq : (st q).hc = (st q).h) : ∀ {t : Nat}, q ≤ t → t ≤ n →
    ((st t).hc = (st q).h ∧ ∀ u, q ≤ u → u < t → ¬ Ch st u) ∨ ∃ c, q ≤ c ∧ c < t ∧ Ch st c ∧ ((dop l c).idx, (st q).h) ∈ (st t).hist := by
  intro t
  induction t with
  | zero => intro h _; have : q = 0 := by omega
            subst this; exact .inl ⟨hq, fun u _ h => absurd h (by omega)⟩
  | succ t ih =>
    intro h ht
    by_cases e : q = t + 1
    · subst e; exact .inl ⟨hq, fun u _ h => absurd h (by omega)⟩
    · have h1 := ih (by omega) (by omega)
      by_cases hc : Ch st t
      · have hs := T.stp t (by omega)
        have hc' : (st (t + 1)).hist ≠ (st t).hist := hc
        rcases h1 with ⟨h2, h3⟩ | ⟨c, h2, h3, h4, h5⟩
        · refine .inr ⟨t, by omega, by omega, hc, ?_⟩
          rw [← h2]
          generalize st (t + 1) = s' at hs hc'
          cases hs <;> first | exact absurd rfl hc' | simp
        · refine .inr ⟨c, h2, by omega, h4, ?_⟩
          generalize st (t + 1) = s' at hs hc'
          cases hs <;> first | exact h5 | exact List.mem_cons_of_mem _ h5
      · obtain ⟨e1, e2, _⟩ := T.same (by omega) hc
        rcases h1 with ⟨h2, h3⟩ | ⟨c, h2, h3, h4, h5⟩
        · refine .inl ⟨e1.trans h2, fun u h4 h5 => ?_⟩
          by_cases e : u = t
          · subst e; exact hc
          · exact h3 u h4 (by omega)
        · exact .inr ⟨c, h2, by omega, h4, by rw [e2]; exact h5⟩
end tape

/- the invariant -/
structure Inv (bd n : Nat) (st : Nat → DS) (l : List DOper) (N : Nat) (φ0 : Phi) (S0 : Sea) (w0 : World) (d : List (AV × List AV))
    (X : Nat → Prop) (q : Nat) (φ : Phi) (S : Sea) (a : Act) (w : World) : Prop where
  lim : ∀ t, X t → t < n
  clo : ∀ t, X t → ∀ u, u < l.length → (dop l t).bits.testBit (dop l u).idx = true → X u
  qn : q ≤ n
  qX : ∀ t, t < q → X t ∨ Li st t
  qC : ∀ t, q ≤ t → X t → ¬ Ch st t
  qh : (st q).hc = (st q).h
  core : Cpl (φ.below (nx st q)) S (st q).h w
  dom : ∀ id x, φ id = some x → id < nx st q ∨ ∃ t, q ≤ t ∧ X t ∧ nx st t ≤ id ∧ id < nx st (t + 1)
  flo : ∀ t, q ≤ t → X t → ∀ id, nx st t ≤ id → id < nx st (t + 1) → (st (t + 1)).h.get id ≠ .dead → ∃ b base tot, φ id = some (b, base, tot) ∧ ¬ S b ∧
    ORel (φ.below (nx st (t + 1))) S w ((st (t + 1)).h.get id) b base tot ∧ ∀ id' x, φ id' = some x → id' ≠ id → x.1 ≠ b
  bnd : ∀ id x, φ id = some x → x.1 < w.heap.size
  slots : ∀ s, (∃ t, X t ∧ (dop l t).o.dst = some s ∧ (∀ u, X u → (dop l u).o.dst = some s → u ≤ t) ∧ VR (φ.below (nx st (t + 1))) S w ((st (t + 1)).F.get s) (a.tmps.getD s undef)) ∨
    ((∀ t, X t → (dop l t).o.dst ≠ some s) ∧ VR (φ.below (nx st 0)) S w ((st 0).F.get s) (a.tmps.getD s undef))
  size : N ≤ a.tmps.size
  dfr : DRel bd φ0 S0 w0 d a.defers
  ext : Ext φ0 S0 w0 φ S w

section
variable {P : Program} {E : Env} {rec : Rec} {l : List DOper} {ops : Array Oper} {s0 : DS} {bd n N : Nat} {st : Nat → DS} {φ0 : Phi} {S0 : Sea} {w0 : World} {d : List (AV × List AV)}
  {X : Nat → Prop} {q : Nat} {φ : Phi} {S : Sea} {a : Act} {w : World}

theorem VR.bel {φ φ' : Phi} {S S' : Sea} {w w' : World} (h1 : ∀ id x, φ id = some x → φ' id = some x) (hx : Ext φ S w φ' S' w') {m k : Nat} (hm : m ≤ k) {x : AV} {v : Value} (h : VR (φ.below m) S w x v) :
    VR (φ'.below k) S' w' x v := h.mono (below_mono h1 hm) hx.sea hx.keep

/-- what a slot holds where an operation may be carried out -/
theorem Inv.slot (I : Inv bd n st l N φ0 S0 w0 d X q φ S a w) (T : Tape E rec l s0 n st) (B : Tab P N l ops) {t : Nat} (ht : t < l.length) (htn : t ≤ n) (hX : ¬ X t)
    (hp : ∀ u, u < l.length → (dop l t).bits.testBit (dop l u).idx = true → X u) {s : Nat} (hu : usesB (dop l t).o s = true) : VR (φ.below (nx st t)) S w ((st t).F.get s) (a.tmps.getD s undef) := by
  have hlen : ∀ u, X u → u < l.length := fun u hu => Nat.lt_of_lt_of_le (I.lim u hu) T.le
  have order : ∀ v, v < l.length → v ≠ t → (dop l v).o.dst = some s → (v < t ∧ X v) ∨ (t < v ∧ ¬ X v) := by
    intro v hv hne hd
    rcases B.slot t v s ht hv (fun e => hne e.symm) hd (.inl hu) with h | h
    · exact .inl ⟨B.pos t v ht hv h, hp v hv h⟩
    · exact .inr ⟨B.pos v t hv ht h, fun hx => hX (I.clo v hx t ht h)⟩
  rcases I.slots s with ⟨u, hXu, hdu, hlast, hv⟩ | ⟨hno, hv⟩
  · have hul := hlen u hXu
    have hut : u < t := by
      rcases order u hul (fun e => hX (e ▸ hXu)) hdu with h | h
      · exact h.1
      · exact absurd hXu h.2
    rcases T.keep (d := s) (u := u + 1) (t := t) (by omega) htn (fun v h1 h2 hd => by
      rcases order v (by omega) (by omega) hd with h | h
      · have := hlast v h.2 hd; omega
      · omega) with h | h
    · rw [h]; exact hv.mono (below_mono (fun _ _ h => h) (T.nx (by omega) htn)) (fun _ h => h) (fun _ _ => rfl)
    · rw [h]; exact .bot _
  · rcases T.keep (d := s) (u := 0) (t := t) (by omega) htn (fun v h1 h2 hd => by
      rcases order v (by omega) (by omega) hd with h | h
      · exact hno v h.2 hd
      · omega) with h | h
    · rw [h]; exact hv.mono (below_mono (fun _ _ h => h) (T.nx (by omega) htn)) (fun _ h => h) (fun _ _ => rfl)
    · rw [h]; exact .bot _

/-- the frame that an operation sees -/
theorem Inv.frame (I : Inv bd n st l N φ0 S0 w0 d X q φ S a w) (T : Tape E rec l s0 n st) (B : Tab P N l ops) {t : Nat} (ht : t < l.length) (htn : t ≤ n) (hX : ¬ X t)
    (hp : ∀ u, u < l.length → (dop l t).bits.testBit (dop l u).idx = true → X u) : FRel (φ.below (nx st t)) S w ((st t).F.rest (usesB (dop l t).o)) a.tmps := by
  intro s
  rw [Fr.get_rest]
  split
  · rename_i hu; exact I.slot T B ht htn hX hp hu
  · exact .bot _

theorem rest_opd {o : AOper} {F : Fr} : ∀ x ∈ o.op.opds, x.ev F = x.ev (F.rest (usesB o)) := by
  intro x hx
  cases x with
  | c v => rfl
  | t i =>
    show F.get i = (F.rest (usesB o)).get i
    rw [Fr.get_rest]
    have : usesB o i = true := by
      simp only [usesB, Bool.or_eq_true, List.any_eq_true]
      exact .inl ⟨_, hx, by simp⟩
    simp [this]

/-- one operation more -/
theorem Inv.next (I : Inv bd n st l N φ0 S0 w0 d X q φ S a w) (T : Tape E rec l s0 n st) (B : Tab P N l ops) {t : Nat} (ht : t < n) (hX : ¬ X t)
    (hp : ∀ u, u < l.length → (dop l t).bits.testBit (dop l u).idx = true → X u) {q' : Nat} {φ' : Phi} {S' : Sea} {w' : World} {v : AV} {cv : Value}
    (h1 : ∀ id x, φ id = some x → φ' id = some x) (hx : Ext φ S w φ' S' w') (hcore : Cpl (φ'.below (nx st q')) S' (st q').h w')
    (hqn : q' ≤ n) (hqX : ∀ u, u < q' → (X u ∨ u = t) ∨ Li st u) (hqC : ∀ u, q' ≤ u → X u ∨ u = t → ¬ Ch st u) (hqh : (st q').hc = (st q').h)
    (hdom : ∀ id x, φ' id = some x → id < nx st q' ∨ ∃ u, q' ≤ u ∧ (X u ∨ u = t) ∧ nx st u ≤ id ∧ id < nx st (u + 1))
    (hflo : ∀ u, q' ≤ u → (X u ∨ u = t) → ∀ id, nx st u ≤ id → id < nx st (u + 1) → (st (u + 1)).h.get id ≠ .dead → ∃ b base tot, φ' id = some (b, base, tot) ∧ ¬ S' b ∧
      ORel (φ'.below (nx st (u + 1))) S' w' ((st (u + 1)).h.get id) b base tot ∧ ∀ id' x, φ' id' = some x → id' ≠ id → x.1 ≠ b)
    (hbnd : ∀ id x, φ' id = some x → x.1 < w'.heap.size)
    (hF : (st (t + 1)).F = putF (st t).F (dop l t).o.dst v) (hv : VR (φ'.below (nx st (t + 1))) S' w' v cv) (hd : ∀ s, (dop l t).o.dst = some s → s < N) :
    Inv bd n st l N φ0 S0 w0 d (fun u => X u ∨ u = t) q' φ' S' (a.put (dop l t).o.dst cv) w' := by
  have hlen : ∀ u, X u → u < l.length := fun u hu => Nat.lt_of_lt_of_le (I.lim u hu) T.le
  have htl : t < l.length := Nat.lt_of_lt_of_le ht T.le
  refine ⟨fun u hu => hu.elim (I.lim u) (fun e => e ▸ ht), fun u hu y hy hb => ?_, hqn, hqX, hqC, hqh, hcore, hdom, hflo, hbnd, fun s => ?_, by rw [put_size]; exact I.size, by rw [put_dfr]; exact I.dfr, I.ext.trans hx⟩
  · rcases hu with hu | rfl
    · exact .inl (I.clo u hu y hy hb)
    · exact .inl (hp y hy hb)
  · by_cases e : (dop l t).o.dst = some s
    · refine .inl ⟨t, .inr rfl, e, fun u hu hdu => ?_, ?_⟩
      · rcases hu with hu | rfl
        · have hul := hlen u hu
          rcases B.slot t u s htl hul (fun e => hX (e ▸ hu)) hdu (.inr e) with h | h
          · exact Nat.le_of_lt (B.pos t u htl hul h)
          · exact absurd (I.clo u hu t htl h) hX
        · exact Nat.le_refl _
      · have hs : s < a.tmps.size := Nat.lt_of_lt_of_le (hd s e) I.size
        have hc : (a.put (dop l t).o.dst cv).tmps.getD s undef = cv := by
          rw [e]
          show (a.tmps.setIfInBounds s cv).getD s undef = cv
          simp [Array.getD_eq_getD_getElem?, Array.getElem?_setIfInBounds, hs]
        rw [hc, hF, e]
        show VR _ _ _ (((st t).F.set s v).get s) cv
        rcases Fr.get_set (st t).F s v s with h | h
        · rw [h]; simpa using hv
        · rw [h]; exact .bot _
    · have hc : (a.put (dop l t).o.dst cv).tmps.getD s undef = a.tmps.getD s undef := by
        cases hds : (dop l t).o.dst with
        | none => rfl
        | some s' =>
          rw [hds] at e
          have : ¬ s' = s := fun h => e (by rw [h])
          show (a.tmps.setIfInBounds s' cv).getD s undef = _
          simp [Array.getD_eq_getD_getElem?, Array.getElem?_setIfInBounds, this]
      rw [hc]
      rcases I.slots s with ⟨u, hu, hdu, hlast, hvv⟩ | ⟨hno, hvv⟩
      · exact .inl ⟨u, .inl hu, hdu, fun v hv hdv => hv.elim (fun h => hlast v h hdv) (fun h => absurd (h ▸ hdv) e), hvv.bel h1 hx (Nat.le_refl _)⟩
      · exact .inr ⟨fun v hv => hv.elim (hno v) (fun h => h ▸ e), hvv.bel h1 hx (Nat.le_refl _)⟩
end
end Go.Am
namespace Go.Am
open Go

section
variable {P : Program} {E : Env} {rec : Rec} {φ : Phi} {S : Sea} {w : World} {a : Act} {o : Oper} {F F' : Fr} {H H' : Heap} {ao : AOp}
  {K : Act → World → Prop} {Q : Exit → Act → World → Prop}

theorem dChain_plain (h : ao.ctl = false) : dChain E rec ao F H = obind (aop ao F H) fun r => some (.ret r.1, r.2) := by
  cases ao <;> first | rfl | cases h

theorem dChain_congr (hx : ∀ x ∈ ao.opds, x.ev F = x.ev F') : dChain E rec ao F H = dChain E rec ao F' H := by
  cases hctl : ao.ctl with
  | false => rw [dChain_plain hctl, dChain_plain hctl, aop_congr hx]
  | true =>
    cases ao with
    | call f args =>
      show doCall E rec f (evs F args) H = doCall E rec f (evs F' args) H
      rw [evs_congr (l := args) (F' := F') hx]
    | callv f args =>
      show (obind (fnOf (f.ev F)) fun p => doCall E rec p.1 (lapp (lapp p.2.1 (evs F args)) p.2.2) H) = (obind (fnOf (f.ev F')) fun p => doCall E rec p.1 (lapp (lapp p.2.1 (evs F' args)) p.2.2) H)
      rw [hx f (by simp [AOp.opds]), evs_congr (l := args) (F' := F') (fun x h => hx x (by simp [AOp.opds, h]))]
    | dfr f args => rfl
    | pan x => rfl
    | _ => cases hctl

theorem reRead_plain (h : ao.ctl = false) : reRead E ao F H = obind (aop ao F H) fun r => some (.ret r.1) := by
  cases ao <;> first | rfl | cases h
theorem clsE_1 (h : clsE E ao = 1) : (∃ f args g, ao = .call f args ∧ E.pur f = some g) ∨ (ao.cls = 1 ∧ ao.ctl = false) := by
  cases ao with
  | call f args =>
    have h : Option.rec (motive := fun _ => Nat) 3 (fun _ => 1) (E.pur f) = 1 := h
    cases hp : E.pur f with
    | none => rw [hp] at h; cases h
    | some g => exact .inl ⟨f, args, g, rfl, hp⟩
  | _ => first | exact .inr ⟨h, rfl⟩ | cases h

theorem reRead_congr (hc : clsE E ao = 1) (hx : ∀ x ∈ ao.opds, x.ev F = x.ev F') : reRead E ao F H = reRead E ao F' H := by
  rcases clsE_1 hc with ⟨f, args, g, rfl, hp⟩ | ⟨_, hctl⟩
  · show (obind (E.pur f) fun g => callPure g (evs F args) H) = obind (E.pur f) fun g => callPure g (evs F' args) H
    rw [evs_congr (l := args) (F' := F') hx]
  · rw [reRead_plain hctl, reRead_plain hctl, aop_congr hx]

theorem look_objs (H : Heap) (m : Nat) (x : AV) : look ⟨m, H.objs⟩ x = look H x := by cases x <;> rfl
theorem scells_objs (H : Heap) (m sz : Nat) (x : AV) : scells ⟨m, H.objs⟩ sz x = scells H sz x := by cases x <;> rfl
theorem mapOf_objs (H : Heap) (m : Nat) (x : AV) : mapOf ⟨m, H.objs⟩ x = mapOf H x := by cases x <;> rfl
theorem alen_objs (H : Heap) (m k : Nat) (x : AV) : alen ⟨m, H.objs⟩ k x = alen H k x := by cases x <;> rfl

theorem oh {α β γ : Type} {o : Option α} {f g : α → Option β} {k : β → Option γ} (h : ∀ x, obind (f x) k = obind (g x) k) : obind (obind o f) k = obind (obind o g) k := by
  cases o with
  | none => rfl
  | some x => exact h x
theorem og {β γ : Type} {b : Bool} {f g : Option β} {k : β → Option γ} (h : obind f k = obind g k) : obind (ogrd b f) k = obind (ogrd b g) k := by
  cases b with
  | false => rfl
  | true => exact h

theorem reRead_objs (hc : clsE E ao = 1) (m : Nat) : reRead E ao F ⟨m, H.objs⟩ = reRead E ao F H := by
  rcases clsE_1 hc with ⟨f, args, g, rfl, hp⟩ | ⟨hcl, hctl⟩
  · cases H; rfl
  · rw [reRead_plain hctl, reRead_plain hctl]
    cases ao <;> first | (simp [AOp.cls] at hcl; done) | skip
    case lkp kk z ok x i =>
      simp only [aop, mapOf_objs]
      refine oh fun es => oh fun r => ?_
      cases r <;> rfl
    all_goals
      simp only [aop, look_objs, scells_objs, alen_objs]
      repeat (first | rfl | refine oh fun _ => ?_ | refine og ?_)

/-- a chained operation -/
theorem dChain_wp (hE : EnvOk P E) (hr : RecOk P rec) (hk : chkDo P ao o.op = true) {rr : ARes} (he : dChain E rec ao F H = some (rr, H')) (hc : Cpl φ S H w) (hf : FRel φ S w F a.tmps)
    (hret : ∀ v φ1 S1 w1 cv, rr = .ret v → Ext φ S w φ1 S1 w1 → Cpl φ1 S1 H' w1 → VR φ1 S1 w1 v cv → K (a.put o.dst cv) w1)
    (hpan : ∀ v φ1 S1 w1 cv, rr = .pan v → Ext φ S w φ1 S1 w1 → Cpl φ1 S1 H' w1 → VR φ1 S1 w1 v cv → Q (.panic [{ v := cv, recovered := false }]) a w1) : o.wp P a w K Q := by
  have call : ∀ {f : Nat} {args : List AV} {vs : Array Value}, doCall E rec f args H = some (rr, H') → VRs φ S w args vs → (execOp a.eval o).run P w = (callFunc f vs).run P w → o.wp P a w K Q := by
    intro f args vs hd hv hx
    obtain ⟨hent, hcall⟩ := doCall_ok hE hr hd
    unfold Oper.wp
    rw [hx, ent_run hent, Oper.upon_enter]
    refine (hcall φ S w vs hc hv).mono fun e w' ⟨φ', S', h1, h2, h3⟩ => ?_
    cases rr with
    | ret v => obtain ⟨cv, rfl, h4⟩ := h3; exact hret v φ' S' w' cv rfl h1 h2 h4
    | pan v => obtain ⟨cv, rfl, h4⟩ := h3; exact hpan v φ' S' w' cv rfl h1 h2 h4
  cases hctl : ao.ctl with
  | false =>
    rw [dChain_plain hctl, obind_some] at he
    rw [chkDo_plain hctl] at hk
    obtain ⟨⟨v, h'⟩, ha, hk'⟩ := he
    cases hk'
    obtain ⟨cv, w', hx, φ', h1, h2, h3, _⟩ := aop_sound hk ha hc hf
    have hn := hret v φ' S w' cv rfl h1 h2 h3
    unfold Oper.wp
    rcases hx with hx | ⟨hx, hu⟩
    · rw [hx]; exact hn
    · rw [hx]; subst hu; exact hn
  | true =>
    cases ao with
    | call f args =>
      simp only [chkDo] at hk
      split at hk
      · rename_i c ho
        simp only [Bool.and_eq_true] at hk
        have hcl := hk.1
        unfold calleeF at hcl
        split at hcl
        · rename_i g hc'
          simp only [beq_iff_eq] at hcl
          subst hcl
          refine call he (chkOpds_sound hk.2 hf) ?_
          simp [execOp, ho, resolve, hc', Act.eval, Deferred.ofValue, invoke]
        · cases hcl
      · cases hk
    | callv f args =>
      simp only [chkDo] at hk
      split at hk
      · rename_i c ho
        simp only [Bool.and_eq_true] at hk
        have he : (obind (fnOf (f.ev F)) fun p => doCall E rec p.1 (lapp (lapp p.2.1 (evs F args)) p.2.2) H) = some (rr, H') := he
        rw [obind_some] at he
        obtain ⟨q, h0, he⟩ := he
        have hcl := hk.1
        unfold calleeV at hcl
        split at hcl
        · rename_i y hc'
          have hy := chkOpd_sound hcl hf
          rw [fnOf_some h0] at hy
          obtain ⟨va, vc, hya, hva, hvc⟩ := hy.fn_inv
          refine call he ((hva.app (chkOpds_sound hk.2 hf)).app hvc) ?_
          simp [execOp, ho, resolve, hc', hya, Deferred.ofValue, invoke]
        · cases hcl
      · cases hk
    | dfr f args => cases he
    | pan x => cases he
    | _ => cases hctl

/-- an operation that reads -/
theorem read_wp (hE : EnvOk P E) (hk : chkDo P ao o.op = true) (hcl : clsE E ao = 1) {v : AV} (he : reRead E ao F H = some (.ret v)) (hc : Cpl φ S H w) (hf : FRel φ S w F a.tmps)
    (hret : ∀ S1 w1 cv, Ext φ S w φ S1 w1 → (∀ b, b < w.heap.size → w1.heap[b]? = w.heap[b]?) → (∀ b, S1 b → b < w1.heap.size) → (∀ b, S1 b → S b ∨ w.heap.size ≤ b) → VR φ S1 w1 v cv → K (a.put o.dst cv) w1) :
    o.wp P a w K Q := by
  rcases clsE_1 hcl with ⟨f, args, g, rfl, hp⟩ | ⟨hcl, hctl⟩
  · have he : (obind (E.pur f) fun g => callPure g (evs F args) H) = some (.ret v) := he
    rw [hp] at he
    have he : callPure g (evs F args) H = some (.ret v) := he
    obtain ⟨hent, hcall⟩ := callPure_quiet (hE.pur f g hp) he
    simp only [chkDo] at hk
    split at hk
    · rename_i c ho
      simp only [Bool.and_eq_true] at hk
      have hcl := hk.1
      unfold calleeF at hcl
      split at hcl
      · rename_i g' hc'
        simp only [beq_iff_eq] at hcl
        subst hcl
        have hx : (execOp a.eval o).run P w = (callFunc g' (c.args.map a.eval)).run P w := by simp [execOp, ho, resolve, hc', Act.eval, Deferred.ofValue, invoke]
        unfold Oper.wp
        rw [hx, ent_run hent, Oper.upon_enter]
        refine (hcall φ S w _ hc (chkOpds_sound hk.2 hf)).mono fun e w' ⟨S', h1, h2, h3, h4, h5⟩ => ?_
        obtain ⟨cv, rfl, h6⟩ := h5
        exact hret S' w' cv h1 h2 h3 h4 h6
      · cases hcl
    · cases hk
  · rw [reRead_plain hctl, obind_some] at he
    rw [chkDo_plain hctl] at hk
    obtain ⟨⟨v', h'⟩, ha, hk'⟩ := he
    cases hk'
    obtain ⟨cv, w', hx, rfl, _, h3⟩ := aop_still hk hcl ha hc hf
    have hn := hret S w' cv (Ext.refl _ _ _) (fun _ _ => rfl) hc.sea (fun _ h => .inl h) h3
    unfold Oper.wp
    rcases hx with hx | ⟨hx, hu⟩
    · rw [hx]; exact hn
    · rw [hx]; subst hu; exact hn
end
end Go.Am
namespace Go.Am
open Go

section
variable {P : Program} {E : Env} {rec : Rec} {l : List DOper} {ops : Array Oper} {s0 : DS} {bd n N : Nat} {st : Nat → DS} {φ0 : Phi} {S0 : Sea} {w0 : World} {d : List (AV × List AV)}
  {X : Nat → Prop} {q : Nat} {φ : Phi} {S : Sea} {a : Act} {w : World}

theorem Inv.ge (I : Inv bd n st l N φ0 S0 w0 d X q φ S a w) {t : Nat} (hX : ¬ X t) (hl : ¬ Li st t) : q ≤ t := by
  rcases Nat.lt_or_ge t q with h | h
  · exact absurd (I.qX t h) (fun h => h.elim hX hl)
  · exact h

/-- what was there stays -/
theorem Inv.quiet (I : Inv bd n st l N φ0 S0 w0 d X q φ S a w) (T : Tape E rec l s0 n st) (B : Tab P N l ops) {t : Nat} (ht : t < n) (hX : ¬ X t)
    (hp : ∀ u, u < l.length → (dop l t).bits.testBit (dop l u).idx = true → X u) {S' : Sea} {w' : World} {v : AV} {cv : Value}
    (hx : Ext φ S w φ S' w') (hold : ∀ b, b < w.heap.size → w'.heap[b]? = w.heap[b]?) (hS' : ∀ b, S' b → b < w'.heap.size) (hnew : ∀ b, S' b → S b ∨ w.heap.size ≤ b)
    (hF : (st (t + 1)).F = putF (st t).F (dop l t).o.dst v) (hh : (st (t + 1)).h = (st t).h) (hc : ¬ Ch st t) (hv : VR (φ.below (nx st (t + 1))) S' w' v cv)
    (hd : ∀ s, (dop l t).o.dst = some s → s < N) : Inv bd n st l N φ0 S0 w0 d (fun u => X u ∨ u = t) q φ S' (a.put (dop l t).o.dst cv) w' := by
  have hn : nx st (t + 1) = nx st t := by unfold nx; rw [hh]
  have hSb := I.core.sea
  have hxq : Ext (φ.below (nx st q)) S w (φ.below (nx st q)) S' w' :=
    ⟨fun _ _ h => h, hx.sea, hx.keep, fun b hb _ => hold b hb, hx.size, fun b hb => (hnew b hb).elim .inl fun h => .inr (.inr h), fun id x h => .inl ⟨id, x, h, rfl⟩, hx.os, hx.out⟩
  refine I.next T B ht hX hp (fun _ _ h => h) hx (I.core.quiet hxq hold hS' hnew) I.qn (fun u hu => (I.qX u hu).imp .inl id) (fun u hq hu => hu.elim (I.qC u hq) (fun e => e ▸ hc)) I.qh ?_ ?_ ?_ hF hv hd
  · intro id x h
    rcases I.dom id x h with h | ⟨u, h1, h2, h3, h4⟩
    · exact .inl h
    · exact .inr ⟨u, h1, .inl h2, h3, h4⟩
  · intro u hq hu id h1 h2 hl
    rcases hu with hu | rfl
    · obtain ⟨b, base, tot, e1, e2, e3, e4⟩ := I.flo u hq hu id h1 h2 hl
      have hb := I.bnd _ _ e1
      refine ⟨b, base, tot, e1, fun hs => (hnew b hs).elim e2 fun h => ?_, e3.mono (fun _ _ h => h) hx.sea hx.keep (hold b hb), e4⟩
      simp only at hb
      omega
    · omega
  · intro id x h
    exact Nat.lt_of_lt_of_le (I.bnd id x h) hx.size

/-- the heap as it is where an operation stands -/
theorem Inv.coreTo (I : Inv bd n st l N φ0 S0 w0 d X q φ S a w) (T : Tape E rec l s0 n st) : ∀ {t : Nat}, q ≤ t → t ≤ n → (∀ u, q ≤ u → u < t → X u ∨ Li st u) → Cpl (φ.below (nx st t)) S (st t).h w := by
  intro t
  induction t with
  | zero => intro h _ _; have : q = 0 := by omega
            subst this; exact I.core
  | succ t ih =>
    intro h ht hX
    by_cases e : q = t + 1
    · subst e; exact I.core
    · have hc := ih (by omega) (by omega) (fun u h1 h2 => hX u h1 (by omega))
      have hXt := hX t (by omega) (by omega)
      rcases Classical.em (Li st t) with hli | hli
      · obtain ⟨hh, _, _⟩ := T.li (by omega) hli
        have : nx st (t + 1) = nx st t := by unfold nx; rw [hh]
        rw [this, hh]; exact hc
      replace hXt : X t := hXt.resolve_right hli
      obtain ⟨_, _, hh⟩ := T.same (by omega) (I.qC t (by omega) hXt)
      rcases hh with hh | ⟨ob, hh⟩
      · have : nx st (t + 1) = nx st t := by unfold nx; rw [hh]
        rw [this, hh]; exact hc
      · have hn : nx st (t + 1) = nx st t + 1 := by unfold nx; rw [hh]; rfl
        have hfl := I.flo t (by omega) hXt (nx st t) (Nat.le_refl _) (by omega)
        have hlive : ∀ i, (st (t + 1)).h.get i ≠ .dead → (i = nx st t) ∨ (i ≠ nx st t ∧ (st (t + 1)).h.get i = (st t).h.get i) := by
          intro i hi
          by_cases e : i = nx st t
          · exact .inl e
          · rw [hh] at hi ⊢
            rcases Heap.get_new (st t).h ob i with h | h
            · have e' : ¬ i = (st t).h.next := e
              simp only [e', if_false] at h
              exact .inr ⟨e, h⟩
            · exact absurd h hi
        have old : ∀ i, i ≠ nx st t → (st (t + 1)).h.get i ≠ .dead → ∃ b base tot, φ.below (nx st t) i = some (b, base, tot) ∧ ¬ S b ∧ ORel (φ.below (nx st t)) S w ((st (t + 1)).h.get i) b base tot ∧ (st t).h.get i ≠ .dead := by
          intro i hne hi
          rcases hlive i hi with h | ⟨_, h⟩
          · exact absurd h hne
          · rw [h] at hi
            obtain ⟨b, base, tot, h1, h2, h3⟩ := hc.obj i hi
            exact ⟨b, base, tot, h1, h2, by rw [h]; exact h3, hi⟩
        have up : ∀ id x, φ.below (nx st t) id = some x → φ.below (nx st (t + 1)) id = some x := below_mono (fun _ _ h => h) (by omega)
        refine ⟨fun i hi => ?_, fun i i' b x y x' y' hi hi' hx hx' => ?_, hc.sea, hc.gl, fun i b x y hx => ?_, fun i hi => ?_⟩
        · by_cases e : i = nx st t
          · subst e
            obtain ⟨b, base, tot, h1, h2, h3, _⟩ := hfl hi
            exact ⟨b, base, tot, Phi.below_some.2 ⟨by omega, h1⟩, h2, h3⟩
          · obtain ⟨b, base, tot, h1, h2, h3, _⟩ := old i e hi
            exact ⟨b, base, tot, up _ _ h1, h2, h3.mono up (fun _ h => h) (fun _ _ => rfl) rfl⟩
        · have hx := (Phi.below_some.1 hx).2
          have hx' := (Phi.below_some.1 hx').2
          by_cases e : i = nx st t
          · by_cases e' : i' = nx st t
            · rw [e, e']
            · subst e
              obtain ⟨b0, base, tot, h1, h2, h3, h4⟩ := hfl hi
              rw [h1] at hx; cases hx
              exact absurd rfl (h4 i' _ hx' e')
          · by_cases e' : i' = nx st t
            · subst e'
              obtain ⟨b0, base, tot, h1, h2, h3, h4⟩ := hfl hi'
              rw [h1] at hx'; cases hx'
              exact absurd rfl (h4 i _ hx e)
            · obtain ⟨b1, base1, tot1, g1, _, _, g2⟩ := old i e hi
              obtain ⟨b2, base2, tot2, k1, _, _, k2⟩ := old i' e' hi'
              have e1 := (Phi.below_some.1 g1).2
              have e2 := (Phi.below_some.1 k1).2
              rw [hx] at e1; cases e1
              rw [hx'] at e2; cases e2
              exact hc.inj i i' b x y x' y' g2 k2 g1 k1
        · exact I.bnd i _ (Phi.below_some.1 hx).2
        · have : ¬ i < nx st (t + 1) := by
            have : (st (t + 1)).h.next ≤ i := hi
            unfold nx; omega
          simp [Phi.below, this]

/-- an object more -/
theorem Inv.alloc (I : Inv bd n st l N φ0 S0 w0 d X q φ S a w) (T : Tape E rec l s0 n st) (B : Tab P N l ops) {t : Nat} (ht : t < n) (hX : ¬ X t)
    (hp : ∀ u, u < l.length → (dop l t).bits.testBit (dop l u).idx = true → X u) {φ1 : Phi} {w' : World} {v : AV} {cv : Value} {ob : AObj}
    (hx : Ext (φ.below (nx st t)) S w φ1 S w') (hc1 : Cpl φ1 S (Heap.new ⟨nx st t, .e⟩ ob) w') (hv : VR φ1 S w' v cv) (hex : Exact ⟨nx st t, .e⟩ (φ.below (nx st t)) w φ1 (Heap.new ⟨nx st t, .e⟩ ob) w')
    (hF : (st (t + 1)).F = putF (st t).F (dop l t).o.dst v) (hh : (st (t + 1)).h = (st t).h.new ob) (hc : ¬ Ch st t) (hli : ¬ Li st t)
    (hd : ∀ s, (dop l t).o.dst = some s → s < N) : ∃ φ', Inv bd n st l N φ0 S0 w0 d (fun u => X u ∨ u = t) q φ' S (a.put (dop l t).o.dst cv) w' := by
  have hn : nx st (t + 1) = nx st t + 1 := by unfold nx; rw [hh]; rfl
  have hqt := I.ge hX hli
  have dead : ∀ id, (⟨nx st t, .e⟩ : Heap).get id = .dead := fun id => rfl
  have hold : ∀ b, b < w.heap.size → w'.heap[b]? = w.heap[b]? := fun b hb => hex.foot b hb fun id x h => absurd (dead id) h
  have hfree : φ (nx st t) = none := by
    cases hf : φ (nx st t) with
    | none => rfl
    | some x =>
      rcases I.dom _ _ hf with h | ⟨u, h1, h2, h3, h4⟩
      · have := T.nx hqt (Nat.le_of_lt ht); omega
      · have hu := I.lim u h2
        rcases Nat.lt_trichotomy u t with h | rfl | h
        · have := T.nx (show u + 1 ≤ t by omega) (Nat.le_of_lt ht); omega
        · exact absurd h2 hX
        · have := T.nx (show t + 1 ≤ u by omega) (Nat.le_of_lt hu); omega
  have low : ∀ id, id < nx st t → φ1 id = φ id := by
    intro id hid
    rcases hex.low id with h | ⟨h, _⟩
    · rw [h]; simp [Phi.below, hid]
    · have : nx st t ≤ id := h
      omega
  have high : ∀ id, nx st t + 1 ≤ id → φ1 id = none := fun id hid => hc1.fresh id hid
  let φ' : Phi := fun id => if id = nx st t then φ1 id else φ id
  have e1 : φ' (nx st t) = φ1 (nx st t) := by simp [φ']
  have e2 : ∀ id, id ≠ nx st t → φ' id = φ id := fun id h => by simp [φ', h]
  have h1 : ∀ id x, φ id = some x → φ' id = some x := by
    intro id x h
    rw [e2 id (fun e => by rw [e, hfree] at h; cases h)]; exact h
  have hup : ∀ id x, φ1 id = some x → φ'.below (nx st (t + 1)) id = some x := by
    intro id x h
    rw [Phi.below_some, hn]
    rcases Nat.lt_trichotomy id (nx st t) with hlt | rfl | hgt
    · exact ⟨by omega, by rw [e2 id (by omega), ← low id hlt]; exact h⟩
    · exact ⟨by omega, by rw [e1]; exact h⟩
    · rw [high id hgt] at h; cases h
  have hfresh : ∀ x, φ1 (nx st t) = some x → w.heap.size ≤ x.1 := by
    intro x h
    rcases hex.new _ _ h with h | h | ⟨id0, x0, h, _⟩
    · have := (Phi.below_some.1 h).1; omega
    · exact h
    · exact absurd (dead id0) h
  have hxx : Ext φ S w φ' S w' := by
    refine ⟨h1, fun _ h => h, fun b hb => hold b (I.core.sea b hb), fun b hb _ => hold b hb, hx.size, fun b hb => .inl hb, fun id x h => ?_, hx.os, hx.out⟩
    by_cases e : id = nx st t
    · subst e; rw [e1] at h; exact .inr (hfresh x h)
    · rw [e2 id e] at h; exact .inl ⟨id, x, h, rfl⟩
  have hnq := T.nx hqt (Nat.le_of_lt ht)
  have hbel : φ'.below (nx st q) = φ.below (nx st q) := by
    funext id
    unfold Phi.below
    split
    · rw [e2 id (by omega)]
    · rfl
  refine ⟨φ', I.next T B ht hX hp h1 hxx ?_ I.qn (fun u hu => (I.qX u hu).imp .inl id) (fun u hq hu => hu.elim (I.qC u hq) (fun e => e ▸ hc)) I.qh ?_ ?_ ?_ hF (hv.mono hup (fun _ h => h) (fun _ _ => rfl)) hd⟩
  · rw [hbel]
    exact I.core.quiet ⟨fun _ _ h => h, fun _ h => h, fun b hb => hold b (I.core.sea b hb), fun b hb _ => hold b hb, hx.size, fun b hb => .inl hb, fun id x h => .inl ⟨id, x, h, rfl⟩, hx.os, hx.out⟩ hold
      (fun b hb => Nat.lt_of_lt_of_le (I.core.sea b hb) hx.size) (fun b hb => .inl hb)
  · intro id x h
    by_cases e : id = nx st t
    · subst e; exact .inr ⟨t, hqt, .inr rfl, Nat.le_refl _, by omega⟩
    · rw [e2 id e] at h
      rcases I.dom id x h with h | ⟨u, k1, k2, k3, k4⟩
      · exact .inl h
      · exact .inr ⟨u, k1, .inl k2, k3, k4⟩
  · intro u hq hu id g1 g2 hl
    rcases hu with hu | rfl
    · obtain ⟨b, base, tot, k1, k2, k3, k4⟩ := I.flo u hq hu id g1 g2 hl
      have hb := I.bnd _ _ k1
      refine ⟨b, base, tot, h1 _ _ k1, k2, k3.mono (below_mono h1 (Nat.le_refl _)) (fun _ h => h) (fun b hb => hold b (I.core.sea b hb)) (hold b hb), fun id' x hx' hne => ?_⟩
      by_cases e : id' = nx st t
      · subst e; rw [e1] at hx'
        have := hfresh x hx'
        simp only at hb
        omega
      · rw [e2 id' e] at hx'; exact k4 id' x hx' hne
    · have hid : id = nx st u := by omega
      subst hid
      have hsame : (Heap.new ⟨nx st u, .e⟩ ob).get (nx st u) = (st (u + 1)).h.get (nx st u) := by
        rw [hh]; exact heap_new_same (h1 := ⟨nx st u, .e⟩) (h2 := (st u).h) rfl ob
      obtain ⟨b, base, tot, k1, k2, k3⟩ := hc1.obj (nx st u) (by rw [hsame]; exact hl)
      rw [hsame] at k3
      refine ⟨b, base, tot, by rw [e1]; exact k1, k2, k3.mono hup (fun _ h => h) (fun _ _ => rfl) rfl, fun id' x hx' hne => ?_⟩
      rw [e2 id' hne] at hx'
      have g3 := I.bnd _ _ hx'
      have g4 := hfresh _ k1
      simp only at g4
      omega
  · intro id x h
    by_cases e : id = nx st t
    · subst e; rw [e1] at h
      obtain ⟨b, base, tot⟩ := x
      exact hc1.phi _ _ _ _ h
    · rw [e2 id e] at h; exact Nat.lt_of_lt_of_le (I.bnd id x h) hx.size

/-- a chained operation more -/
theorem Inv.chain (I : Inv bd n st l N φ0 S0 w0 d X q φ S a w) (T : Tape E rec l s0 n st) (B : Tab P N l ops) {t : Nat} (ht : t < n) (hX : ¬ X t) (hli : ¬ Li st t) (hall : ∀ u, u < t → X u ∨ Li st u)
    (hp : ∀ u, u < l.length → (dop l t).bits.testBit (dop l u).idx = true → X u) {φ1 : Phi} {S1 : Sea} {w' : World} {v : AV} {cv : Value}
    (hx : Ext (φ.below (nx st t)) S w φ1 S1 w') (hc1 : Cpl φ1 S1 (st (t + 1)).h w') (hv : VR φ1 S1 w' v cv)
    (hF : (st (t + 1)).F = putF (st t).F (dop l t).o.dst v) (hh : (st (t + 1)).hc = (st (t + 1)).h)
    (hd : ∀ s, (dop l t).o.dst = some s → s < N) : ∃ φ', Inv bd n st l N φ0 S0 w0 d (fun u => X u ∨ u = t) (t + 1) φ' S1 (a.put (dop l t).o.dst cv) w' := by
  have hqt := I.ge hX hli
  have hnn := T.nx (show t ≤ t + 1 by omega) ht
  have gap : ∀ id x, φ id = some x → id < nx st t ∨ (nx st (t + 1) ≤ id ∧ ∃ u, t + 1 ≤ u ∧ X u ∧ nx st u ≤ id ∧ id < nx st (u + 1)) := by
    intro id x h
    rcases I.dom id x h with h | ⟨u, k1, k2, k3, k4⟩
    · have := T.nx hqt (Nat.le_of_lt ht); exact .inl (by omega)
    · have hu := I.lim u k2
      rcases Nat.lt_trichotomy u t with h | rfl | h
      · have := T.nx (show u + 1 ≤ t by omega) (Nat.le_of_lt ht); exact .inl (by omega)
      · exact absurd k2 hX
      · have := T.nx (show t + 1 ≤ u by omega) (Nat.le_of_lt hu); exact .inr ⟨by omega, u, h, k2, k3, k4⟩
  have high : ∀ id, nx st (t + 1) ≤ id → φ1 id = none := fun id hid => hc1.fresh id hid
  let φ' : Phi := φ1.join (nx st (t + 1)) φ
  have e1 : ∀ id, id < nx st (t + 1) → φ' id = φ1 id := fun id h => by simp [φ', Phi.join, h]
  have e2 : ∀ id, ¬ id < nx st (t + 1) → φ' id = φ id := fun id h => by simp [φ', Phi.join, h]
  have hr : ∀ id x, φ id = some x → id < nx st t → φ1 id = some x := fun id x h hid => hx.phi _ _ (Phi.below_some.2 ⟨hid, h⟩)
  have h1 : ∀ id x, φ id = some x → φ' id = some x := by
    intro id x h
    rcases gap id x h with hid | ⟨hid, _⟩
    · rw [e1 id (by omega)]; exact hr id x h hid
    · rw [e2 id (by omega)]; exact h
  have hbel : φ'.below (nx st (t + 1)) = φ1 := by
    funext id
    unfold Phi.below
    split
    · rename_i hid; exact e1 id hid
    · rename_i hid; exact (high id (by omega)).symm
  have hxx : Ext φ S w φ' S1 w' := by
    refine ⟨h1, hx.sea, hx.keep, fun b hb hno => hx.foot b hb fun id x h => hno id x (Phi.below_some.1 h).2, hx.size, fun b hb => ?_, fun id x h => ?_, hx.os, hx.out⟩
    · rcases hx.newS b hb with h | ⟨id, x, h, h'⟩ | h
      · exact .inl h
      · exact .inr (.inl ⟨id, x, (Phi.below_some.1 h).2, h'⟩)
      · exact .inr (.inr h)
    · by_cases hid : id < nx st (t + 1)
      · rw [e1 id hid] at h
        rcases hx.newP id x h with ⟨id0, x0, h, h'⟩ | h
        · exact .inl ⟨id0, x0, (Phi.below_some.1 h).2, h'⟩
        · exact .inr h
      · rw [e2 id hid] at h; exact .inl ⟨id, x, h, rfl⟩
  refine ⟨φ', I.next T B ht hX hp h1 hxx (by rw [hbel]; exact hc1) ht (fun u hu => ?_) (fun u hq hu => ?_) hh ?_ ?_ ?_ hF (by rw [hbel]; exact hv) hd⟩
  · rcases Nat.lt_or_ge u t with h | h
    · exact (hall u h).imp .inl id
    · exact .inl (.inr (by omega))
  · rcases hu with hu | hu
    · exact I.qC u (by omega) hu
    · omega
  · intro id x h
    by_cases hid : id < nx st (t + 1)
    · exact .inl hid
    · rw [e2 id hid] at h
      rcases gap id x h with h | ⟨_, u, k1, k2, k3, k4⟩
      · omega
      · exact .inr ⟨u, k1, .inl k2, k3, k4⟩
  · intro u hq hu id g1 g2 hl
    have hu : X u := by
      rcases hu with hu | hu
      · exact hu
      · omega
    obtain ⟨b, base, tot, k1, k2, k3, k4⟩ := I.flo u (by omega) hu id g1 g2 hl
    have hb := I.bnd _ _ k1
    simp only at hb
    have hge : nx st (t + 1) ≤ id := Nat.le_trans (T.nx hq (Nat.le_of_lt (I.lim u hu))) g1
    have hno : ∀ id0 x0, φ.below (nx st t) id0 = some x0 → x0.1 ≠ b := fun id0 x0 h0 => by
      obtain ⟨h2, h3⟩ := Phi.below_some.1 h0
      exact k4 id0 x0 h3 (by omega)
    refine ⟨b, base, tot, h1 _ _ k1, fun hs => ?_, k3.mono (below_mono h1 (Nat.le_refl _)) hx.sea hx.keep (hx.foot b hb hno), fun id' x hx' hne => ?_⟩
    · rcases hx.newS b hs with h | ⟨id0, x0, h, h'⟩ | h
      · exact k2 h
      · exact hno id0 x0 h h'
      · omega
    · by_cases hid : id' < nx st (t + 1)
      · rw [e1 id' hid] at hx'
        rcases hx.newP id' x hx' with ⟨id0, x0, h, h'⟩ | h
        · rw [← h']; exact hno id0 x0 h
        · omega
      · rw [e2 id' hid] at hx'; exact k4 id' x hx' hne
  · intro id x h
    by_cases hid : id < nx st (t + 1)
    · rw [e1 id hid] at h
      obtain ⟨b, base, tot⟩ := x
      exact hc1.phi _ _ _ _ h
    · rw [e2 id hid] at h; exact Nat.lt_of_lt_of_le (I.bnd id x h) hx.size
end
end Go.Am
namespace Go.Am
open Go

theorem readsOk_ok {E : Env} {o : AOp} {F : Fr} {v : AV} {bits : Nat} : ∀ {l : List (Nat × Heap)}, readsOk E o F v bits l = true → ∀ x ∈ l, bits.testBit x.1 = false → reRead E o F x.2 = some (.ret v) := by
  intro l
  induction l with
  | nil => intro _ x hx; cases hx
  | cons y l ih =>
    intro h x hx hb
    have h' : ((bif Nat.testBit bits y.1 then true else Option.rec (motive := fun _ => Bool) false (fun v' => avEq 12 v' v) (obind (reRead E o F y.2) retV)) && readsOk E o F v bits l) = true := h
    simp only [Bool.and_eq_true] at h'
    rcases List.mem_cons.1 hx with rfl | hx
    · have h1 := h'.1
      rw [hb] at h1
      have h1 : (Option.rec (motive := fun _ => Bool) false (fun v' => avEq 12 v' v) (obind (reRead E o F x.2) retV) : Bool) = true := h1
      cases hr : obind (reRead E o F x.2) retV with
      | none => rw [hr] at h1; cases h1
      | some v' =>
        rw [hr] at h1
        have := avEq_sound 12 v' v h1
        subst this
        rw [obind_some] at hr
        obtain ⟨r1, g1, g2⟩ := hr
        cases r1 with
        | ret v => cases g2; exact g1
        | pan v => cases g2
    · exact ih h'.2 x hx hb

section
variable {P : Program} {E : Env} {rec : Rec} {l : List DOper} {ops : Array Oper} {s0 : DS} {bd n N : Nat} {st : Nat → DS} {φ0 : Phi} {S0 : Sea} {w0 : World} {d : List (AV × List AV)}
  {X : Nat → Prop} {q : Nat} {φ : Phi} {S : Sea} {a : Act} {w : World}

theorem Tape.all (T : Tape E rec l s0 n st) {t : Nat} (ht : t ≤ n) {bits : Nat} (hb : allBits bits (st t).done = true) : ∀ u, u < t → bits.testBit (dop l u).idx = true ∨ Li st u :=
  fun u hu => (T.done ht u hu).symm.imp (fun h => allBits_ok hb _ h) id

theorem guard_at (I : Inv bd n st l N φ0 S0 w0 d X q φ S a w) (T : Tape E rec l s0 n st) (B : Tab P N l ops) {t : Nat} (ht : t < l.length) (htn : t ≤ n) (hX : ¬ X t)
    (hp : ∀ u, u < l.length → (dop l t).bits.testBit (dop l u).idx = true → X u) {o : Oper} (hk : chkOper P N ops (dop l t).o o = true) {b : Bool} (hw : wantedB (st t).F (dop l t).o.g = some b) :
    Region.wanted o (yielded ops a.tmps) = b := by
  simp only [chkOper, Bool.and_eq_true] at hk
  refine wanted_ok (φ := φ.below (nx st t)) (S := S) (w := w) hk.1.2 hw (fun p hg => I.slot T B ht htn hX hp ?_) I.size
  simp [usesB, hg]

set_option maxHeartbeats 1000000 in
/-- one operation of the model's -/
theorem Inv.step (hE : EnvOk P E) (hr : RecOk P rec) (I : Inv bd n st l N φ0 S0 w0 d X q φ S a w) (T : Tape E rec l s0 n st) (B : Tab P N l ops) {t : Nat} (ht : t < n) (hX : ¬ X t)
    (hp : ∀ u, u < l.length → (dop l t).bits.testBit (dop l u).idx = true → X u) (hall : Ch st t → ∀ u, u < t → X u ∨ Li st u) {Q : Exit → Act → World → Prop} {K : Act → World → Prop}
    (hK : ∀ q' φ' S' a' w', Inv bd n st l N φ0 S0 w0 d (fun u => X u ∨ u = t) q' φ' S' a' w' → K a' w') : wpOp P ops Q (dop l t).idx K a w := by
  have htl : t < l.length := Nat.lt_of_lt_of_le ht T.le
  obtain ⟨o, ho, hk, hbits⟩ := B.op t htl
  have hgd := fun {b : Bool} => guard_at (b := b) I T B htl (Nat.le_of_lt ht) hX hp hk
  simp only [chkOper, Bool.and_eq_true] at hk
  obtain ⟨⟨hd, _⟩, hdo⟩ := hk
  obtain ⟨hd1, hd2⟩ := chkDst_ok hd
  have hd2' : ∀ s, (dop l t).o.dst = some s → s < N := fun s h => hd2 s (by rw [← hd1]; exact h)
  have hstp := T.stp t ht
  have hframe := I.frame T B htl (Nat.le_of_lt ht) hX hp
  have hCtr : ∀ {hi : List (Nat × Heap)}, (st (t + 1)).hist = hi → hi = (st t).hist → ¬ Ch st t := fun h1 h2 hc => hc (h1.trans h2)
  unfold wpOp
  rw [ho]
  simp only []
  generalize hs' : st (t + 1) = s' at hstp
  cases hstp with
  | skip hw =>
    rw [hgd hw]
    simp only [Bool.false_eq_true, if_false]
    refine hK q φ S _ w ?_
    rw [← hd1]
    have hh : (st (t + 1)).h = (st t).h := by rw [hs']
    exact I.quiet T B ht hX hp (v := .tup []) (Ext.refl _ _ _) (fun _ _ => rfl) I.core.sea (fun _ h => .inl h) (by rw [hs']) hh (hCtr (by rw [hs']) rfl) (.tup _ _ rfl (fun i hi => absurd hi (by simp))) hd2'
  | pure v hz hw hc he =>
    rw [hgd hw]
    simp only [if_true]
    have hctl : (dop l t).o.op.ctl = false := by
      revert hc
      generalize (dop l t).o.op = ao
      intro hc
      cases ao <;> first | rfl | cases hc
    rw [chkDo_plain hctl] at hdo
    obtain ⟨_, hany⟩ := cls0 hc he
    have he' := hany ⟨nx st t, .e⟩
    rw [aop_congr (F' := (st t).F.rest (usesB (dop l t).o)) rest_opd] at he'
    have hcp : Cpl (φ.below (nx st t)) S ⟨nx st t, .e⟩ w := ⟨fun id h => absurd rfl h, fun id id' b x y x' y' h => absurd rfl h, I.core.sea, I.core.gl, fun id b x y h => I.bnd _ _ (Phi.below_some.1 h).2, fun id h => by
      have : ¬ id < nx st t := by have h : nx st t ≤ id := h; omega
      simp [Phi.below, this]⟩
    obtain ⟨cv, w', hx, φ1, g1, g2, g3, g4⟩ := aop_sound hdo he' hcp hframe
    have hφ : φ1 = φ.below (nx st t) := by
      funext id
      rcases g4.low id with h | ⟨h, h'⟩
      · exact h
      · have h : nx st t ≤ id := h
        have h' : id < nx st t := h'
        omega
    subst hφ
    have hold : ∀ b, b < w.heap.size → w'.heap[b]? = w.heap[b]? := fun b hb => g4.foot b hb fun id x h => absurd rfl h
    have hh : (st (t + 1)).h = (st t).h := by rw [hs']
    have hn : nx st (t + 1) = nx st t := by unfold nx; rw [hh]
    have hn' : K (a.put o.dst cv) w' := by
      rw [← hd1]
      refine hK q φ S _ w' (I.quiet T B ht hX hp ⟨fun _ _ h => h, fun _ h => h, fun b hb => hold b (I.core.sea b hb), fun b hb _ => hold b hb, g1.size, fun b hb => .inl hb, fun id x h => .inl ⟨id, x, h, rfl⟩, g1.os, g1.out⟩
        hold (fun b hb => Nat.lt_of_lt_of_le (I.core.sea b hb) g1.size) (fun _ h => .inl h) (by rw [hs']) hh (hCtr (by rw [hs']) rfl) (by rw [hn]; exact g3) hd2')
    refine .inl ?_
    unfold Oper.wp
    rcases hx with hx | ⟨hx, hu⟩
    · rw [hx]; exact hn'
    · rw [hx]; subst hu; exact hn'
  | read v hw hc he hro =>
    have hqt := I.ge hX (by unfold Li; rw [hs']; simp)
    rw [hgd hw]
    simp only [if_true]
    have hq : reRead E (dop l t).o.op (st t).F (st q).h = some (.ret v) := by
      rcases T.hist I.qh hqt (Nat.le_of_lt ht) with ⟨h1, _⟩ | ⟨c, h1, h2, h3, h4⟩
      · rw [← h1]; exact he
      · have hb0 : (dop l t).bits.testBit (dop l c).idx = false := by
          cases hb : (dop l t).bits.testBit (dop l c).idx with
          | false => rfl
          | true => exact absurd h3 (I.qC c h1 (hp c (by have := T.le; omega) hb))
        have hfin := readsOk_ok hro ((dop l c).idx, (st q).h) h4 hb0
        exact hfin
    rw [← reRead_objs hc (nx st t), reRead_congr (F' := (st t).F.rest (usesB (dop l t).o)) hc rest_opd] at hq
    have hcp : Cpl (φ.below (nx st t)) S ⟨nx st t, (st q).h.objs⟩ w := by
      have up : ∀ id x, φ.below (nx st q) id = some x → φ.below (nx st t) id = some x := below_mono (fun _ _ h => h) (T.nx hqt (Nat.le_of_lt ht))
      refine ⟨fun id h => ?_, fun id id' b x y x' y' h h' hx hx' => ?_, I.core.sea, I.core.gl, fun id b x y h => I.bnd _ _ (Phi.below_some.1 h).2, fun id h => ?_⟩
      · obtain ⟨b, base, tot, k1, k2, k3⟩ := I.core.obj id h
        exact ⟨b, base, tot, up _ _ k1, k2, k3.mono up (fun _ h => h) (fun _ _ => rfl) rfl⟩
      · obtain ⟨b1, base1, tot1, k1, _, _⟩ := I.core.obj id h
        obtain ⟨b2, base2, tot2, k2, _, _⟩ := I.core.obj id' h'
        have e1 := up _ _ k1
        have e2 := up _ _ k2
        rw [hx] at e1; cases e1
        rw [hx'] at e2; cases e2
        exact I.core.inj id id' b x y x' y' h h' k1 k2
      · have : ¬ id < nx st t := by have h : nx st t ≤ id := h; omega
        simp [Phi.below, this]
    have hh : (st (t + 1)).h = (st t).h := by rw [hs']
    have hn : nx st (t + 1) = nx st t := by unfold nx; rw [hh]
    refine .inl (read_wp hE hdo hc hq hcp hframe fun S1 w1 cv g1 g2 g3 g4 g5 => ?_)
    rw [← hd1]
    exact hK q φ S1 _ w1 (I.quiet T B ht hX hp ⟨fun _ _ h => h, g1.sea, g1.keep, fun b hb _ => g2 b hb, g1.size, fun b hb => (g4 b hb).elim .inl fun h => .inr (.inr h), fun id x h => .inl ⟨id, x, h, rfl⟩, g1.os, g1.out⟩
        g2 g3 g4 (by rw [hs']) hh (hCtr (by rw [hs']) rfl) (by rw [hn]; exact g5) hd2')
  | alloc v h' hw hc he =>
    rw [hgd hw]
    simp only [if_true]
    have hctl : (dop l t).o.op.ctl = false := by
      revert hc
      generalize (dop l t).o.op = ao
      intro hc
      cases ao <;> first | rfl | cases hc
    rw [chkDo_plain hctl] at hdo
    obtain ⟨ob, rfl, hany⟩ := cls2 hc he
    have he' := hany ⟨nx st t, .e⟩ rfl
    rw [aop_congr (F' := (st t).F.rest (usesB (dop l t).o)) rest_opd] at he'
    have hcp : Cpl (φ.below (nx st t)) S ⟨nx st t, .e⟩ w := ⟨fun id h => absurd rfl h, fun id id' b x y x' y' h => absurd rfl h, I.core.sea, I.core.gl, fun id b x y h => I.bnd _ _ (Phi.below_some.1 h).2, fun id h => by
      have : ¬ id < nx st t := by have h : nx st t ≤ id := h; omega
      simp [Phi.below, this]⟩
    obtain ⟨cv, w', hx, φ1, g1, g2, g3, g4⟩ := aop_sound hdo he' hcp hframe
    have hn' : K (a.put o.dst cv) w' := by
      rw [← hd1]
      obtain ⟨φ', hI⟩ := I.alloc T B ht hX hp g1 g2 g3 g4 (by rw [hs']) (by rw [hs']) (hCtr (by rw [hs']) rfl) (by unfold Li; rw [hs']; simp) hd2'
      exact hK q φ' S _ w' hI
    refine .inl ?_
    unfold Oper.wp
    rcases hx with hx | ⟨hx, hu⟩
    · rw [hx]; exact hn'
    · rw [hx]; subst hu; exact hn'
  | chain v h' hw he hn =>
    have hli : ¬ Li st t := by unfold Li; rw [hs']; simp
    have hqt := I.ge hX hli
    rw [hgd hw]
    simp only [if_true]
    have hall : ∀ u, u < t → X u ∨ Li st u := hall (by unfold Ch; rw [hs']; simp)
    have hcp := I.coreTo T hqt (Nat.le_of_lt ht) (fun u _ hu => hall u hu)
    rw [dChain_congr (F' := (st t).F.rest (usesB (dop l t).o)) rest_opd] at he
    refine .inl (dChain_wp hE hr hdo he hcp hframe (fun v' φ1 S1 w1 cv e1 g1 g2 g3 => ?_) (fun v' φ1 S1 w1 cv e1 => by cases e1))
    cases e1
    rw [← hd1]
    have hh : (st (t + 1)).h = h' := by rw [hs']
    obtain ⟨φ', hI⟩ := I.chain T B ht hX hli hall hp g1 (by rw [hh]; exact g2) g3 (by rw [hs']) (by rw [hs']) hd2'
    exact hK (t + 1) φ' S1 _ w1 hI

theorem all_below (I : Inv bd n st l N φ0 S0 w0 d X q φ S a w) (T : Tape E rec l s0 n st) : φ.below (nx st n) = φ := by
  funext id
  unfold Phi.below
  split
  · rfl
  · rename_i h
    cases hf : φ id with
    | none => rfl
    | some x =>
      rcases I.dom id x hf with h' | ⟨u, k1, k2, k3, k4⟩
      · have := T.nx I.qn (Nat.le_refl _); omega
      · have := T.nx (show u + 1 ≤ n from I.lim u k2) (Nat.le_refl _); omega

/-- all is done -/
theorem Inv.end (I : Inv bd n st l N φ0 S0 w0 d X q φ S a w) (T : Tape E rec l s0 n st) (hX : ∀ t, t < n → X t) : Po bd N φ0 S0 w0 (.normal, ⟨(st n).F, (st n).h, d⟩) .normal a w := by
  have hall := all_below I T
  have hc := I.coreTo T I.qn (Nat.le_refl _) (fun u _ hu => .inl (hX u hu))
  rw [hall] at hc
  have up : ∀ m id x, φ.below m id = some x → φ id = some x := fun m id x h => (Phi.below_some.1 h).2
  refine ⟨φ, S, I.ext, ⟨hc, fun s => ?_, I.size, ?_⟩, trivial⟩
  · show VR φ S w ((st n).F.get s) _
    rcases I.slots s with ⟨u, hu, hdu, hlast, hv⟩ | ⟨hno, hv⟩
    · rcases T.keep (d := s) (u := u + 1) (t := n) (I.lim u hu) (Nat.le_refl _) (fun v h1 h2 hd => by have := hlast v (hX v h2) hd; omega) with h | h
      · rw [h]; exact hv.mono (up _) (fun _ h => h) (fun _ _ => rfl)
      · rw [h]; exact .bot _
    · rcases T.keep (d := s) (u := 0) (t := n) (by omega) (Nat.le_refl _) (fun v h1 h2 hd => hno v (hX v h2) hd) with h | h
      · rw [h]; exact hv.mono (up _) (fun _ h => h) (fun _ _ => rfl)
      · rw [h]; exact .bot _
  · exact I.dfr.ext I.ext

/-- it panics -/
theorem Inv.pan (hE : EnvOk P E) (hr : RecOk P rec) (I : Inv bd n st l N φ0 S0 w0 d X q φ S a w) (T : Tape E rec l s0 n st) (B : Tab P N l ops) (hnl : n < l.length)
    (hp : ∀ u, u < l.length → (dop l n).bits.testBit (dop l u).idx = true → X u) {v : AV} {h' : Heap} (hP : DPan E rec (dop l n) (l.drop (n + 1)) (st n) v h') {K : Act → World → Prop} :
    wpOp P ops (Po bd N φ0 S0 w0 (.pan v, ⟨[], h', d⟩)) (dop l n).idx K a w := by
  have hX : ¬ X n := fun h => absurd (I.lim n h) (by omega)
  obtain ⟨o, ho, hk, hbits⟩ := B.op n hnl
  have hgd := guard_at I T B hnl (Nat.le_refl _) hX hp hk hP.hw
  simp only [chkOper, Bool.and_eq_true] at hk
  obtain ⟨⟨hd, _⟩, hdo⟩ := hk
  have hframe := I.frame T B hnl (Nat.le_refl _) hX hp
  unfold wpOp
  rw [ho]
  simp only []
  rw [hgd]
  simp only [if_true]
  have hall : ∀ u, u < n → X u ∨ Li st u := fun u hu => (T.all (Nat.le_refl _) hP.hb u hu).imp (fun h => hp u (by omega) h) id
  have hcp := I.coreTo T I.qn (Nat.le_refl _) (fun u _ hu => hall u hu)
  have he := hP.he
  rw [dChain_congr (F' := (st n).F.rest (usesB (dop l n).o)) rest_opd] at he
  refine .inl (dChain_wp hE hr hdo he hcp hframe (fun v' φ1 S1 w1 cv e1 => by cases e1) (fun v' φ1 S1 w1 cv e1 g1 g2 g3 => ?_))
  cases e1
  rw [all_below I T] at g1
  refine ⟨φ1, S1, I.ext.trans g1, ⟨g2, fun s => .bot _, I.size, ?_⟩, cv, rfl, g3⟩
  exact I.dfr.ext (I.ext.trans g1)

/-- how many are not yet listed -/
def unl (k : Nat) (listed : Array Bool) : Nat := ((List.range k).filter fun i => !listed.getD i true).length
theorem unl_set {k i : Nat} {listed : Array Bool} (hk : listed.size = k) (hi : i < k) (h : listed.getD i true = false) : unl k (listed.setIfInBounds i true) < unl k listed := by
  unfold unl
  have e : (List.range k).filter (fun j => !(listed.setIfInBounds i true).getD j true) = ((List.range k).filter fun j => !listed.getD j true).filter fun j => decide (j ≠ i) := by
    rw [List.filter_filter]
    refine List.filter_congr fun j hj => ?_
    have hj : j < k := by simpa using hj
    by_cases e : i = j
    · subst e
      simp [Array.getD_eq_getD_getElem?, hk, hi]
    · have e' : ¬ j = i := fun h => e h.symm
      simp [Array.getD_eq_getD_getElem?, Array.getElem?_setIfInBounds, e, e']
  rw [e]
  refine List.length_filter_lt_length_iff_exists.2 ⟨i, ?_, by simp⟩
  rw [List.mem_filter]
  exact ⟨by simpa using hi, by rw [h]; rfl⟩

theorem ready_nil (T : Tab P N l ops) {listed : Array Bool} (hs : listed.size = ops.size) (hrd : Region.ready .any ops listed = []) : ∀ t, t < l.length → listed.getD (dop l t).idx false = true := by
  intro t
  induction t using Nat.strongRecOn with
  | _ t ih =>
    intro ht
    obtain ⟨o, ho, _⟩ := T.op t ht
    cases hb0 : listed.getD (dop l t).idx false with
    | true => rfl
    | false =>
      have hlt : (dop l t).idx < ops.size := (Array.getElem?_eq_some_iff.1 ho).1
      have : (dop l t).idx ∈ Region.ready .any ops listed := by
        rw [mem_ready]
        refine ⟨?_, o, ho, fun e he hb => ?_⟩
        · have : (dop l t).idx < listed.size := by omega
          simp only [Array.getD, this, dite_true] at hb0 ⊢
          exact hb0
        · obtain ⟨h1, h2⟩ := T.edge t o ht ho e (by simpa using he) hb
          obtain ⟨u, hu, hue⟩ := T.sur e.on h1
          rw [← hue] at h2 ⊢
          exact ih u (T.pos t u ht hu h2) hu
      rw [hrd] at this; cases this

theorem unl_zero {listed : Array Bool} (hs : listed.size = ops.size) (hu : unl ops.size listed ≤ 0) : Region.ready .any ops listed = [] := by
  have h0 : (List.range ops.size).filter (fun i => !listed.getD i true) = [] := by
    have : unl ops.size listed = 0 := by omega
    exact List.length_eq_zero_iff.1 this
  cases hr : Region.ready .any ops listed with
  | nil => rfl
  | cons i rest =>
    have hi : i ∈ Region.ready .any ops listed := by rw [hr]; simp
    rw [mem_ready] at hi
    obtain ⟨h1, o, h2, _⟩ := hi
    have : i ∈ (List.range ops.size).filter (fun i => !listed.getD i true) := by
      rw [List.mem_filter]
      exact ⟨by simpa using (Array.getElem?_eq_some_iff.1 h2).1, by simp only [h1]; rfl⟩
    rw [h0] at this; cases this

/-- an operation that comes up -/
theorem ready_at (B : Tab P N l ops) {listed : Array Bool} (hs : listed.size = ops.size) (hclo : ∀ t, (t < l.length ∧ listed.getD (dop l t).idx false = true) → ∀ u, u < l.length → (dop l t).bits.testBit (dop l u).idx = true → (u < l.length ∧ listed.getD (dop l u).idx false = true))
    {i : Nat} (hi : i ∈ Region.ready .any ops listed) : ∃ t, t < l.length ∧ (dop l t).idx = i ∧ i < ops.size ∧ listed.getD i true = false ∧ ¬ (t < l.length ∧ listed.getD (dop l t).idx false = true) ∧
      ∀ u, u < l.length → (dop l t).bits.testBit (dop l u).idx = true → (u < l.length ∧ listed.getD (dop l u).idx false = true) := by
  rw [mem_ready] at hi
  obtain ⟨hun, o, ho, hready⟩ := hi
  have hlt : i < ops.size := (Array.getElem?_eq_some_iff.1 ho).1
  obtain ⟨t, htl, rfl⟩ := B.sur i hlt
  have hnot : listed.getD (dop l t).idx false = false := by
    have : (dop l t).idx < listed.size := by omega
    simp only [Array.getD, this, dite_true] at hun ⊢
    exact hun
  refine ⟨t, htl, rfl, hlt, hun, fun h => by rw [hnot] at h; exact absurd h.2 (by simp), fun u hul hb => ?_⟩
  obtain ⟨o', ho', _, hbits⟩ := B.op t htl
  rw [ho] at ho'; cases ho'
  obtain ⟨e, he, heb, hej⟩ := hbits _ hb
  have hl := hready e (by simpa using he) heb
  rcases hej with h | h
  · exact ⟨hul, by rw [← h]; exact hl⟩
  · obtain ⟨v, hv, hve⟩ := B.sur e.on (B.edge t o htl ho e he heb).1
    rw [← hve] at hl h
    rw [B.bitsAt hv] at h
    exact hclo v ⟨hv, hl⟩ u hul h

theorem listed_more (B : Tab P N l ops) {listed : Array Bool} (hs : listed.size = ops.size) {t : Nat} (htl : t < l.length) (hlt : (dop l t).idx < ops.size) :
    (fun u => (u < l.length ∧ listed.getD (dop l u).idx false = true) ∨ u = t) = fun u => u < l.length ∧ (listed.setIfInBounds (dop l t).idx true).getD (dop l u).idx false = true := by
  funext u
  apply propext
  by_cases e : u = t
  · subst e
    have : (dop l u).idx < listed.size := by omega
    simp [Array.getD_eq_getD_getElem?, this, htl]
  · constructor
    · rintro (⟨h1, h2⟩ | h)
      · exact ⟨h1, getD_set_true h2⟩
      · exact absurd h e
    · rintro ⟨h1, h2⟩
      rw [getD_set_ne _ (fun h => e (B.inj t u htl h1 h).symm)] at h2
      exact .inl ⟨h1, h2⟩

theorem any_ok (hE : EnvOk P E) (hr : RecOk P rec) (T : Tape E rec l s0 n st) (B : Tab P N l ops) {X0 : Nat → Prop}
    (hord : ∀ t, t < n → Ch st t → ∀ u, u < t → (dop l t).bits.testBit (dop l u).idx = true ∨ Li st u ∨ X0 u) {r : Out × St}
    (hend : (n = l.length ∧ r = (.normal, ⟨(st n).F, (st n).h, d⟩)) ∨ (n < l.length ∧ ∃ v h', DPan E rec (dop l n) (l.drop (n + 1)) (st n) v h' ∧ r = (.pan v, ⟨[], h', d⟩))) :
    ∀ (fuel : Nat) (listed : Array Bool) (q : Nat) (φ : Phi) (S : Sea) (a : Act) (w : World), listed.size = ops.size → unl ops.size listed ≤ fuel → (∀ u, X0 u → u < l.length ∧ listed.getD (dop l u).idx false = true) →
      Inv bd n st l N φ0 S0 w0 d (fun t => t < l.length ∧ listed.getD (dop l t).idx false = true) q φ S a w → wpAny P .any ops (Po bd N φ0 S0 w0 r) fuel listed a w := by
  intro fuel
  have hdone : ∀ (listed : Array Bool) (q : Nat) (φ : Phi) (S : Sea) (a : Act) (w : World), listed.size = ops.size → Region.ready .any ops listed = [] →
      Inv bd n st l N φ0 S0 w0 d (fun t => t < l.length ∧ listed.getD (dop l t).idx false = true) q φ S a w → Po bd N φ0 S0 w0 r .normal a w := by
    intro listed q φ S a w hs hrd I
    have hall := ready_nil B hs hrd
    rcases hend with ⟨hn, rfl⟩ | ⟨hn, _⟩
    · exact I.end T fun t ht => ⟨by omega, hall t (by omega)⟩
    · exact absurd (I.lim n ⟨hn, hall n hn⟩) (by omega)
  induction fuel with
  | zero =>
    intro listed q φ S a w hs hu hx0 I
    exact ⟨unl_zero hs hu, hdone listed q φ S a w hs (unl_zero hs hu) I⟩
  | succ fuel ih =>
    intro listed q φ S a w hs hu hx0 I
    refine ⟨fun hrd => hdone listed q φ S a w hs hrd I, fun i hi => ?_⟩
    obtain ⟨t, htl, rfl, hlt, hun, hX, hp⟩ := ready_at B hs I.clo hi
    rcases Nat.lt_trichotomy t n with htn | htn | htn
    · refine I.step hE hr T B htn hX hp (fun hch u hu => ?_) fun q' φ' S' a' w' hI => ?_
      · rcases hord t htn hch u hu with h | h | h
        · exact .inl (hp u (by omega) h)
        · exact .inr h
        · exact .inl (hx0 u h)
      refine ih _ q' φ' S' a' w' (by simp [hs]) (by have := unl_set hs hlt hun; omega) (fun u h => ⟨(hx0 u h).1, getD_set_true (hx0 u h).2⟩) ?_
      rw [← listed_more B hs htl hlt]; exact hI
    · subst htn
      rcases hend with ⟨hn, _⟩ | ⟨_, v, h', hP, rfl⟩
      · omega
      · exact I.pan hE hr T B htl hp hP
    · rcases hend with ⟨hn, _⟩ | ⟨hnl, v, h', hP, rfl⟩
      · omega
      · have hm : dop l t ∈ l.drop (n + 1) := by
          rw [List.mem_drop_iff_getElem]
          exact ⟨t - (n + 1), by omega, by simp only [dop, List.getD, show n + 1 + (t - (n + 1)) = t by omega]; simp [htl]⟩
        have := hp n hnl (restBits_ok hP.hr _ hm)
        exact absurd (I.lim n this) (by omega)
end
end Go.Am
namespace Go.Am
open Go

/- puts into a trie are exact, where they reach -/
noncomputable def dp : Nat → Nat
  | 0 => 0
  | j + 1 => dp (j / 2) + 1
decreasing_by omega

theorem tr_exact {α : Type} {d : α} : ∀ (n : Nat) (t : Tr α) (i : Nat) (x : α), dp i < n → ∀ j, Tr.get d (Tr.set d n t i x) j = if j = i then x else Tr.get d t j := by
  intro n
  induction n with
  | zero => intro t i x h; omega
  | succ n ih =>
    intro t i x h j
    cases t with
    | e =>
      rw [Tr.set_e]
      cases i with
      | zero =>
        simp only [Tr.get_n]
        cases j with
        | zero => simp
        | succ j => simp [Tr.get_e]
      | succ i =>
        have hi : dp (i / 2) < n := by rw [dp] at h; omega
        by_cases e : i % 2 = 1 <;> simp only [e, if_true, if_false, Tr.get_n]
        all_goals
          cases j with
          | zero => simp [Tr.get_e]
          | succ j =>
            by_cases ej : j % 2 = 1 <;> simp only [ej, if_true, if_false, Tr.get_e]
            all_goals first
              | (rw [ih _ _ _ hi]
                 by_cases he : j / 2 = i / 2
                 · have : j = i := by omega
                   subst this; simp
                 · have : ¬ j = i := fun h => he (by rw [h])
                   simp [he, this, Tr.get_e])
              | (have : ¬ j = i := by omega
                 simp [this])
    | n v l r =>
      rw [Tr.set_n]
      cases i with
      | zero =>
        simp only [Tr.get_n]
        cases j with
        | zero => simp
        | succ j => simp
      | succ i =>
        have hi : dp (i / 2) < n := by rw [dp] at h; omega
        by_cases e : i % 2 = 1 <;> simp only [e, if_true, if_false, Tr.get_n]
        all_goals
          cases j with
          | zero => simp
          | succ j =>
            by_cases ej : j % 2 = 1 <;> simp only [ej, if_true, if_false]
            all_goals first
              | (rw [ih _ _ _ hi]
                 by_cases he : j / 2 = i / 2
                 · have : j = i := by omega
                   subst this; simp
                 · have : ¬ j = i := fun h => he (by rw [h])
                   simp [he, this])
              | (have : ¬ j = i := by omega
                 simp [this])

theorem tr_far {α : Type} {d : α} : ∀ (n : Nat) (t : Tr α) (i : Nat) (x : α), n ≤ dp i → Tr.get d (Tr.set d n t i x) i = d := by
  intro n
  induction n with
  | zero => intro t i x _; rfl
  | succ n ih =>
    intro t i x h
    cases i with
    | zero => rw [dp] at h; omega
    | succ i =>
      have hi : n ≤ dp (i / 2) := by rw [dp] at h; omega
      cases t with
      | e => rw [Tr.set_e]; by_cases e : i % 2 = 1 <;> simp only [e, if_true, if_false, Tr.get_n] <;> exact ih _ _ _ hi
      | n v l r => rw [Tr.set_n]; by_cases e : i % 2 = 1 <;> simp only [e, if_true, if_false, Tr.get_n] <;> exact ih _ _ _ hi

theorem heap_exact {h : Heap} {i : Nat} {o : AObj} (hi : dp i < 20) (j : Nat) : (h.set i o).get j = if j = i then o else h.get j := tr_exact 20 h.objs i o hi j
theorem heap_near {h : Heap} {i : Nat} {o : AObj} (hl : (h.set i o).get i ≠ .dead) : dp i < 20 := by
  rcases Nat.lt_or_ge (dp i) 20 with h' | h'
  · exact h'
  · exact absurd (tr_far 20 h.objs i o h') hl

/- two stores -/
theorem st_some {n : Nat} {x v : Opd} {F : Fr} {h h' : Heap} {b : AV} (he : aop (.st n x v) F h = some (b, h')) :
    ∃ id off ty cs vs cs', x.ev F = .ptr id off ∧ h.get id = .cells ty cs ∧ AV.cells? (v.ev F) = some vs ∧ Nat.beq (llen vs) n = true ∧ allB cellB vs = true ∧ lput cs off vs = some cs' ∧ b = .bot ∧ h' = h.set id (.cells ty cs') := by
  simp only [aop, obind_some, ogrd_some, Option.some.injEq, Prod.mk.injEq] at he
  obtain ⟨p, hp, cs, hcs, vs, hvs, h1, h2, cs', hcs', rfl, rfl⟩ := he
  exact ⟨p.1, p.2, _, cs, vs, cs', asPtr_some hp, oCells_some hcs, hvs, h1, h2, hcs', rfl, rfl⟩

theorem st_mk {n : Nat} {x v : Opd} {F : Fr} {h : Heap} {id off : Nat} {ty : OT} {cs vs cs' : List AV} (h1 : x.ev F = .ptr id off) (h2 : h.get id = .cells ty cs) (h3 : AV.cells? (v.ev F) = some vs) (h4 : Nat.beq (llen vs) n = true)
    (h5 : allB cellB vs = true) (h6 : lput cs off vs = some cs') : aop (.st n x v) F h = some (.bot, h.set id (.cells ty cs')) := by
  simp only [aop, h1, asPtr, obind, h2, oCells, oTy, h3, h4, h5, h6, ogrd]

theorem st_swap {n1 n2 : Nat} {x1 v1 x2 v2 : Opd} {F : Fr} {h h1 h2 : Heap} {b1 b2 : AV} {i1 i2 : Nat} (e1 : aop (.st n1 x1 v1) F h = some (b1, h1)) (e2 : aop (.st n2 x2 v2) F h1 = some (b2, h2))
    (hi1 : stId (.st n1 x1 v1) F = some i1) (hi2 : stId (.st n2 x2 v2) F = some i2) (hne : i1 ≠ i2) (hl1 : h2.get i1 ≠ .dead) (hl2 : h2.get i2 ≠ .dead) :
    b1 = .bot ∧ b2 = .bot ∧ h1.next = h.next ∧ h2.next = h.next ∧ ∃ hA hB, aop (.st n2 x2 v2) F h = some (.bot, hA) ∧ aop (.st n1 x1 v1) F hA = some (.bot, hB) ∧ hA.next = h.next ∧ hB.next = h.next ∧ ∀ j, hB.get j = h2.get j := by
  obtain ⟨j1, o1, ty1, cs1, vs1, cs1', k1, k2, k3, k4, k5, k6, rfl, rfl⟩ := st_some e1
  obtain ⟨j2, o2, ty2, cs2, vs2, cs2', g1, g2, g3, g4, g5, g6, rfl, rfl⟩ := st_some e2
  have hj1 : j1 = i1 := by simp only [stId, k1, asPtr, obind] at hi1; simpa using hi1
  have hj2 : j2 = i2 := by simp only [stId, g1, asPtr, obind] at hi2; simpa using hi2
  subst hj1 hj2
  have d2 : dp j2 < 20 := heap_near hl2
  have hl1' : (h.set j1 (.cells ty1 cs1')).get j1 ≠ .dead := by
    rw [heap_exact d2, if_neg hne] at hl1; exact hl1
  have d1 : dp j1 < 20 := heap_near hl1'
  have g2' : h.get j2 = .cells ty2 cs2 := by rw [heap_exact d1, if_neg (Ne.symm hne)] at g2; exact g2
  refine ⟨rfl, rfl, rfl, rfl, h.set j2 (.cells ty2 cs2'), (h.set j2 (.cells ty2 cs2')).set j1 (.cells ty1 cs1'), st_mk g1 g2' g3 g4 g5 g6, st_mk k1 ?_ k3 k4 k5 k6, rfl, rfl, fun j => ?_⟩
  · rw [heap_exact d2, if_neg hne]; exact k2
  · rw [heap_exact d1, heap_exact d2, heap_exact d2, heap_exact d1]
    by_cases a1 : j = j1
    · subst a1; simp [hne]
    · simp [a1]

/- the last two, the other way round -/
theorem swapL_app (a b : DOper) : ∀ (pre : List DOper), swapL (pre ++ [a, b]) = pre ++ [b, a]
  | [] => rfl
  | [x] => rfl
  | x :: y :: pre => by
    have := swapL_app a b (y :: pre)
    simp only [List.cons_append] at this ⊢
    rw [swapL]
    · rw [this]
    · intro _ h
      have := congrArg List.length h
      simp at this
theorem pairL_app {a b : DOper} (h : pairOf a [b] = some b) : ∀ (pre : List DOper), pairL (pre ++ [a, b]) = true
  | [] => by simp [pairL, h]
  | [x] => by simp [pairL, h]
  | x :: y :: pre => by
    have := pairL_app h (y :: pre)
    simp only [List.cons_append] at this ⊢
    rw [pairL]
    · exact this
    · intro _ h
      have := congrArg List.length h
      simp at this

theorem pairOf_ops {a b : DOper} (h : pairOf a [b] = some b) : ∃ n1 x1 v1 n2 x2 v2, a.o = ⟨none, .st n1 x1 v1, none⟩ ∧ b.o = ⟨none, .st n2 x2 v2, none⟩ ∧ b.bits.testBit a.idx = false ∧ a.bits.testBit b.idx = false := by
  unfold pairOf at h
  split at h
  · rename_i h1 h2
    cases h2
    split at h
    · cases hb : (Nat.testBit b.bits a.idx || Nat.testBit a.bits b.idx) with
      | true => rw [hb] at h; cases h
      | false =>
        simp only [Bool.or_eq_false_iff] at hb
        exact ⟨_, _, _, _, _, _, by assumption, by assumption, hb.1, hb.2⟩
    · cases h
  · cases h

section
variable {P : Program} {E : Env} {rec : Rec} {l l2 : List DOper} {ops : Array Oper} {s0 : DS} {bd n N : Nat} {st st1 st2 : Nat → DS} {φ0 : Phi} {S0 : Sea} {w0 : World} {d : List (AV × List AV)}
  {X : Nat → Prop} {q : Nat} {φ : Phi} {S : Sea} {a : Act} {w : World}

theorem Inv.swap (I : Inv bd (n + 2) st1 l N φ0 S0 w0 d X q φ S a w) (hlen : l.length = n + 2) (hlen2 : l2.length = n + 2) (hX : ∀ t, X t → t < n) (hli : ¬ Li st1 n) (hd : ∀ t, t < n → dop l2 t = dop l t)
    (hd1 : dop l2 n = dop l (n + 1)) (hd2 : dop l2 (n + 1) = dop l n) (hst : ∀ t, t ≤ n → st2 t = st1 t) : Inv bd (n + 2) st2 l2 N φ0 S0 w0 d X q φ S a w := by
  have hq : q ≤ n := by
    rcases Nat.lt_or_ge n q with h | h
    · rcases I.qX n h with h' | h'
      · exact absurd (hX n h') (by omega)
      · exact absurd h' hli
    · exact h
  have hnx : ∀ t, t ≤ n → nx st2 t = nx st1 t := fun t ht => by unfold nx; rw [hst t ht]
  have hLi : ∀ t, t < n → (Li st2 t ↔ Li st1 t) := fun t ht => by unfold Li; rw [hst t (by omega), hst (t + 1) (by omega)]
  have hCh : ∀ t, t < n → (Ch st2 t ↔ Ch st1 t) := fun t ht => by unfold Ch; rw [hst t (by omega), hst (t + 1) (by omega)]
  refine ⟨I.lim, fun t ht u hu hb => ?_, I.qn, fun t ht => (I.qX t ht).imp id fun h => (hLi t (by omega)).2 h, fun t ht hx hc => I.qC t ht hx ((hCh t (hX t hx)).1 hc), by rw [hst q hq]; exact I.qh, by rw [hnx q hq, hst q hq]; exact I.core,
    fun id x h => ?_, fun t ht hx id h1 h2 hl => ?_, I.bnd, fun s => ?_, I.size, I.dfr, I.ext⟩
  · rw [hd t (hX t ht)] at hb
    rcases Nat.lt_or_ge u n with h | h
    · rw [hd u h] at hb; exact I.clo t ht u (by omega) hb
    · have : u = n ∨ u = n + 1 := by omega
      rcases this with rfl | rfl
      · rw [hd1] at hb
        exact absurd (hX _ (I.clo t ht (u + 1) (by omega) hb)) (by omega)
      · rw [hd2] at hb
        exact absurd (hX _ (I.clo t ht n (by omega) hb)) (by omega)
  · rcases I.dom id x h with h | ⟨t, h1, h2, h3, h4⟩
    · exact .inl (by rw [hnx q hq]; exact h)
    · have := hX t h2
      exact .inr ⟨t, h1, h2, by rw [hnx t (by omega)]; exact h3, by rw [hnx (t + 1) (by omega)]; exact h4⟩
  · have := hX t hx
    rw [hnx t (by omega)] at h1
    rw [hnx (t + 1) (by omega)] at h2 ⊢
    rw [hst (t + 1) (by omega)] at hl ⊢
    exact I.flo t ht hx id h1 h2 hl
  · rcases I.slots s with ⟨t, h1, h2, h3, h4⟩ | ⟨h1, h2⟩
    · have := hX t h1
      exact .inl ⟨t, h1, by rw [hd t this]; exact h2, fun u hu hdu => h3 u hu (by rw [← hd u (hX u hu)]; exact hdu), by rw [hnx (t + 1) (by omega), hst (t + 1) (by omega)]; exact h4⟩
    · exact .inr ⟨fun t ht => by rw [hd t (hX t ht)]; exact h1 t ht, by rw [hnx 0 (by omega), hst 0 (by omega)]; exact h2⟩

theorem Cpl.alike {h h' : Heap} (hc : Cpl φ S h w) (hg : ∀ j, h.get j = h'.get j) (hn : h'.next = h.next) : Cpl φ S h' w where
  obj id hid := by rw [← hg id] at hid ⊢; exact hc.obj id hid
  inj id id' b x y x' y' h1 h2 := by rw [← hg] at h1 h2; exact hc.inj id id' b x y x' y' h1 h2
  sea := hc.sea
  gl := hc.gl
  phi := hc.phi
  fresh id hid := hc.fresh id (by rw [← hn]; exact hid)

theorem wpOp_post {Q Q' : Exit → Act → World → Prop} (hq : ∀ e a w, Q e a w → Q' e a w) {i : Nat} {K : Act → World → Prop} (h : wpOp P ops Q i K a w) : wpOp P ops Q' i K a w := by
  unfold wpOp at h ⊢
  cases ho : ops[i]? with
  | none => rw [ho] at h; exact h
  | some o =>
    rw [ho] at h
    simp only [] at h ⊢
    have hl : LetsOut Q → LetsOut Q' := fun ⟨a, w, h⟩ => ⟨a, w, hq _ _ _ h⟩
    split
    · rename_i hw
      rw [if_pos hw] at h
      rcases h with h | h
      · refine .inl ?_
        unfold Oper.wp at h ⊢
        generalize (execOp a.eval o).run P w = x at h
        cases x with
        | ok x w' =>
          cases x <;> first
            | exact h
            | exact Calls.mono h (fun e w'' he => by cases e <;> first | exact hq _ _ _ he | exact hl he | exact he)
        | halt x w' => cases x <;> first | exact hq _ _ _ h | exact h
      · exact .inr ⟨h.1, hl h.2⟩
    · rename_i hw
      rw [if_neg hw] at h
      exact h

theorem any_post {Q Q' : Exit → Act → World → Prop} (hq : ∀ e a w, Q e a w → Q' e a w) {md : Region.Mode} : ∀ {fuel : Nat} {listed : Array Bool} {a : Act} {w : World}, wpAny P md ops Q fuel listed a w → wpAny P md ops Q' fuel listed a w
  | 0, _, _, _, h => ⟨h.1, hq _ _ _ h.2⟩
  | fuel + 1, _, _, _, h => ⟨fun hr => hq _ _ _ (h.1 hr), fun i hi => wpOp_mono (fun _ _ h => any_post hq h) (wpOp_post hq (h.2 i hi))⟩

/-- a store, as a chained operation -/
theorem chain_st {o : DOper} {s : DS} {k : Nat} {x v : Opd} {h' : Heap} (ho : o.o = ⟨none, .st k x v, none⟩) (he : aop (.st k x v) s.F s.h = some (.bot, h')) (hn : h'.next = s.h.next) :
    DStp E rec o s ⟨s.F, h', h', o.idx :: s.done, (o.idx, s.hc) :: s.hist⟩ := by
  have h1 : putF s.F o.o.dst .bot = s.F := by rw [ho]; rfl
  have := DStp.chain (E := E) (rec := rec) (o := o) (s := s) .bot h' (by rw [ho]; rfl) (by
    rw [ho]
    show (obind (aop (.st k x v) s.F s.h) fun r => some (ARes.ret r.1, r.2)) = _
    rw [he]) (by omega)
  rwa [h1] at this

def ext2 (st : Nat → DS) (n : Nat) (s1 s2 : DS) : Nat → DS := fun t => if t ≤ n then st t else if t = n + 1 then s1 else s2

theorem tape2 (T : Tape E rec l s0 n st) (hlen : l.length = n + 2) (hd : ∀ t, t < n → dop l2 t = dop l t) (hlen2 : l2.length = n + 2) {s1 s2 : DS} (h1 : DStp E rec (dop l2 n) (st n) s1) (h2 : DStp E rec (dop l2 (n + 1)) s1 s2) :
    Tape E rec l2 s0 (n + 2) (ext2 st n s1 s2) := by
  refine ⟨by simp [ext2, T.zero], by omega, fun t ht => ?_⟩
  unfold ext2
  rcases Nat.lt_trichotomy t n with h | rfl | h
  · rw [if_pos (by omega), if_pos (by omega), hd t h]; exact T.stp t h
  · rw [if_pos (by omega), if_neg (by omega), if_pos rfl]; exact h1
  · have : t = n + 1 := by omega
    subst this
    rw [if_neg (by omega), if_pos rfl, if_neg (by omega), if_neg (by omega)]; exact h2

theorem pair_any (hE : EnvOk P E) (hr : RecOk P rec) {x y : DOper} {r : Out × St} (T : Tape E rec l s0 n st) (O : Ord l n st) (hP : PairAt l d n st r x y) (B : Tab P N l ops) (B2 : Tab P N (swapL l) ops) :
    ∀ (fuel : Nat) (listed : Array Bool) (q : Nat) (φ : Phi) (S : Sea) (a : Act) (w : World), listed.size = ops.size → unl ops.size listed ≤ fuel → listed.getD x.idx false = false → listed.getD y.idx false = false →
      Inv bd n st l N φ0 S0 w0 d (fun t => t < l.length ∧ listed.getD (dop l t).idx false = true) q φ S a w → wpAny P .any ops (Po bd N φ0 S0 w0 r) fuel listed a w := by
  obtain ⟨n1, x1, v1, n2, x2, v2, hx, hy, hyx, hxy⟩ := pairOf_ops hP.pair
  have hpre : l = l.take n ++ [x, y] := by rw [← hP.at0, List.take_append_drop]
  have hlen : l.length = n + 2 := hP.len.symm
  have hl2 : swapL l = l.take n ++ [y, x] := by
    conv => lhs; rw [hpre]
    exact swapL_app x y _
  have htl : (l.take n).length = n := by simp; omega
  have hlen2 : (swapL l).length = n + 2 := by rw [hl2]; simp; omega
  have hdn : dop l n = x := by rw [hpre]; simp [dop, List.getD, htl]
  have hdn1 : dop l (n + 1) = y := by rw [hpre]; simp [dop, List.getD, htl, List.getElem?_append]
  have hd2n : dop (swapL l) n = y := by rw [hl2]; simp [dop, List.getD, htl]
  have hd2n1 : dop (swapL l) (n + 1) = x := by rw [hl2]; simp [dop, List.getD, htl, List.getElem?_append]
  have hdt : ∀ t, t < n → dop (swapL l) t = dop l t := by
    intro t ht
    rw [hl2]
    conv => rhs; rw [hpre]
    simp [dop, List.getD, List.getElem?_append, htl, ht]
  -- the run
  have hev := hP.ev
  unfold dPair at hev
  rw [hx, hy] at hev
  simp only [ogrd_some, obind_some, Bool.not_eq_true', Option.some.injEq] at hev
  obtain ⟨hbx, hby, i1, hi1, i2, hi2, hne, ⟨b1, h1⟩, e1, ⟨b2, h2⟩, e2, c1, hc1, c2, hc2, rfl⟩ := hev
  have hne' : i1 ≠ i2 := fun e => by subst e; rw [Nat.beq_refl] at hne; cases hne
  obtain ⟨rfl, rfl, hn1, hn2, hA, hB, eA, eB, hnA, hnB, hget⟩ := st_swap e1 e2 hi1 hi2 hne' (by rw [oCells_some hc1]; simp) (by rw [oCells_some hc2]; simp)
  obtain ⟨s1, hs1⟩ : ∃ s1 : DS, s1 = ⟨(st n).F, h1, h1, x.idx :: (st n).done, (x.idx, (st n).hc) :: (st n).hist⟩ := ⟨_, rfl⟩
  obtain ⟨s2, hs2⟩ : ∃ s2 : DS, s2 = ⟨s1.F, h2, h2, y.idx :: s1.done, (y.idx, s1.hc) :: s1.hist⟩ := ⟨_, rfl⟩
  obtain ⟨sA, hsA⟩ : ∃ sA : DS, sA = ⟨(st n).F, hA, hA, y.idx :: (st n).done, (y.idx, (st n).hc) :: (st n).hist⟩ := ⟨_, rfl⟩
  obtain ⟨sB, hsB⟩ : ∃ sB : DS, sB = ⟨sA.F, hB, hB, x.idx :: sA.done, (x.idx, sA.hc) :: sA.hist⟩ := ⟨_, rfl⟩
  have T1 : Tape E rec l s0 (n + 2) (ext2 st n s1 s2) := by
    refine tape2 T hlen (fun _ _ => rfl) hlen ?_ ?_
    · rw [hdn, hs1]; exact chain_st hx e1 hn1
    · rw [hdn1, hs2]
      refine chain_st hy ?_ ?_
      · rw [hs1]; exact e2
      · rw [hs1]; exact hn2.trans hn1.symm
  have T2 : Tape E rec (swapL l) s0 (n + 2) (ext2 st n sA sB) := by
    refine tape2 T hlen hdt hlen2 ?_ ?_
    · rw [hd2n, hsA]; exact chain_st hy eA hnA
    · rw [hd2n1, hsB]
      refine chain_st hx ?_ ?_
      · rw [hsA]; exact eB
      · rw [hsA]; exact hnB.trans hnA.symm
  have at1 : ∀ t, t ≤ n → ext2 st n s1 s2 t = st t := fun t ht => by simp [ext2, ht]
  have at2 : ∀ t, t ≤ n → ext2 st n sA sB t = st t := fun t ht => by simp [ext2, ht]
  have at11 : ext2 st n s1 s2 (n + 1) = s1 := by unfold ext2; rw [if_neg (by omega), if_pos rfl]
  have at21 : ext2 st n sA sB (n + 1) = sA := by unfold ext2; rw [if_neg (by omega), if_pos rfl]
  have at12 : ext2 st n s1 s2 (n + 2) = s2 := by unfold ext2; rw [if_neg (by omega), if_neg (by omega)]
  have at22 : ext2 st n sA sB (n + 2) = sB := by unfold ext2; rw [if_neg (by omega), if_neg (by omega)]
  have li1 : ¬ Li (ext2 st n s1 s2) n := by unfold Li; rw [at11, at1 n (Nat.le_refl _), hs1]; simp
  have li2 : ¬ Li (ext2 st n sA sB) n := by unfold Li; rw [at21, at2 n (Nat.le_refl _), hsA]; simp
  have liS : ∀ (a b : DS) t, t < n → (Li (ext2 st n a b) t ↔ Li st t) := fun a b t ht => by simp [Li, ext2, Nat.le_of_lt ht, show t + 1 ≤ n from ht]
  have chS : ∀ (a b : DS) t, t < n → (Ch (ext2 st n a b) t ↔ Ch st t) := fun a b t ht => by simp [Ch, ext2, Nat.le_of_lt ht, show t + 1 ≤ n from ht]
  -- what each tape's chained operations come behind
  have ord0 : ∀ t, t < n → Ch st t → ∀ u, u < t → (dop l t).bits.testBit (dop l u).idx = true ∨ Li st u := fun t ht hc u hu => T.all (Nat.le_of_lt ht) (O t ht hc) u hu
  have ordx : ∀ u, u < n → x.bits.testBit (dop l u).idx = true ∨ Li st u := fun u hu => T.all (Nat.le_refl _) hbx u hu
  have ordy : ∀ u, u < n → y.bits.testBit (dop l u).idx = true ∨ Li st u := fun u hu => T.all (Nat.le_refl _) hby u hu
  have O1 : ∀ t, t < n + 2 → Ch (ext2 st n s1 s2) t → ∀ u, u < t → (dop l t).bits.testBit (dop l u).idx = true ∨ Li (ext2 st n s1 s2) u ∨ u = n := by
    intro t ht hc u hu
    rcases Nat.lt_trichotomy t n with h | rfl | h
    · exact (ord0 t h ((chS _ _ t h).1 hc) u hu).imp id fun h' => .inl ((liS _ _ u (by omega)).2 h')
    · rw [hdn]; exact (ordx u hu).imp id fun h' => .inl ((liS _ _ u hu).2 h')
    · have : t = n + 1 := by omega
      subst this
      by_cases e : u = n
      · exact .inr (.inr e)
      · rw [hdn1]; exact (ordy u (by omega)).imp id fun h' => .inl ((liS _ _ u (by omega)).2 h')
  have O2 : ∀ t, t < n + 2 → Ch (ext2 st n sA sB) t → ∀ u, u < t → (dop (swapL l) t).bits.testBit (dop (swapL l) u).idx = true ∨ Li (ext2 st n sA sB) u ∨ u = n := by
    intro t ht hc u hu
    rcases Nat.lt_trichotomy t n with h | rfl | h
    · rw [hdt t h, hdt u (by omega)]; exact (ord0 t h ((chS _ _ t h).1 hc) u hu).imp id fun h' => .inl ((liS _ _ u (by omega)).2 h')
    · rw [hd2n, hdt u hu]; exact (ordy u hu).imp id fun h' => .inl ((liS _ _ u hu).2 h')
    · have : t = n + 1 := by omega
      subst this
      by_cases e : u = n
      · exact .inr (.inr e)
      · rw [hd2n1, hdt u (by omega)]; exact (ordx u (by omega)).imp id fun h' => .inl ((liS _ _ u (by omega)).2 h')
  have F1 : s2.F = (st n).F := by rw [hs2, hs1]
  have F2 : sB.F = (st n).F := by rw [hsB, hsA]
  have h12 : s2.h = h2 := by rw [hs2]
  have h21 : sB.h = hB := by rw [hsB]
  have fin2 : ∀ e a w, Po bd N φ0 S0 w0 (.normal, ⟨sB.F, sB.h, d⟩) e a w → Po bd N φ0 S0 w0 (.normal, ⟨(st n).F, h2, d⟩) e a w := by
    rintro e a w ⟨φ', S', g1, g2, g3⟩
    refine ⟨φ', S', g1, ⟨?_, by rw [← F2]; exact g2.fr, g2.size, g2.dfr⟩, g3⟩
    have := g2.cpl
    rw [h21] at this
    exact this.alike hget (hn2.trans hnB.symm)
  -- the orders
  intro fuel
  induction fuel with
  | zero =>
    intro listed q φ S a w hs hu hxl hyl I
    have := ready_nil B hs (unl_zero hs hu) n (by omega)
    rw [hdn, hxl] at this; cases this
  | succ fuel ih =>
    intro listed q φ S a w hs hu hxl hyl I
    refine ⟨fun hrd => ?_, fun i hi => ?_⟩
    · have := ready_nil B hs hrd n (by omega)
      rw [hdn, hxl] at this; cases this
    · obtain ⟨t, htl', rfl, hlt, hun, hX, hp⟩ := ready_at B hs I.clo hi
      have hXn : ∀ t, (t < l.length ∧ listed.getD (dop l t).idx false = true) → t < n := by
        rintro t ⟨k1, k2⟩
        rcases Nat.lt_trichotomy t n with h | rfl | h
        · exact h
        · rw [hdn, hxl] at k2; cases k2
        · have : t = n + 1 := by omega
          subst this
          rw [hdn1, hyl] at k2; cases k2
      have I1 : Inv bd (n + 2) (ext2 st n s1 s2) l N φ0 S0 w0 d (fun t => t < l.length ∧ listed.getD (dop l t).idx false = true) q φ S a w := by
        have hq := I.qn
        have hnx : ∀ t, t ≤ n → nx (ext2 st n s1 s2) t = nx st t := fun t ht => by unfold nx; rw [at1 t ht]
        refine ⟨fun t ht => by have := hXn t ht; omega, I.clo, by omega, fun t ht => (I.qX t ht).imp id fun h => (liS _ _ t (by omega)).2 h, fun t ht hx hc => I.qC t ht hx ((chS _ _ t (hXn t hx)).1 hc),
          by rw [at1 q hq]; exact I.qh, by rw [hnx q hq, at1 q hq]; exact I.core, fun id x h => ?_, fun t ht hx id k1 k2 hl => ?_, I.bnd, fun s => ?_, I.size, I.dfr, I.ext⟩
        · rcases I.dom id x h with h | ⟨t, k1, k2, k3, k4⟩
          · exact .inl (by rw [hnx q hq]; exact h)
          · have := hXn t k2
            exact .inr ⟨t, k1, k2, by rw [hnx t (by omega)]; exact k3, by rw [hnx (t + 1) (by omega)]; exact k4⟩
        · have := hXn t hx
          rw [hnx t (by omega)] at k1
          rw [hnx (t + 1) (by omega)] at k2 ⊢
          rw [at1 (t + 1) (by omega)] at hl ⊢
          exact I.flo t ht hx id k1 k2 hl
        · rcases I.slots s with ⟨t, k1, k2, k3, k4⟩ | ⟨k1, k2⟩
          · have := hXn t k1
            exact .inl ⟨t, k1, k2, k3, by rw [hnx (t + 1) (by omega), at1 (t + 1) (by omega)]; exact k4⟩
          · exact .inr ⟨k1, by rw [hnx 0 (by omega), at1 0 (by omega)]; exact k2⟩
      rcases Nat.lt_trichotomy t n with htn | htn | htn
      · -- before the two
        refine I.step hE hr T B htn hX hp (fun hch u hu => ?_) fun q' φ' S' a' w' hI => ?_
        · exact (ord0 t htn hch u hu).imp (fun h => hp u (by omega) h) id
        · have hti : (dop l t).idx ≠ x.idx ∧ (dop l t).idx ≠ y.idx := by
            refine ⟨fun e => ?_, fun e => ?_⟩
            · rw [← hdn] at e; have := B.inj t n htl' (by omega) e; omega
            · rw [← hdn1] at e; have := B.inj t (n + 1) htl' (by omega) e; omega
          refine ih _ q' φ' S' a' w' (by simp [hs]) (by have := unl_set hs hlt hun; omega) ?_ ?_ ?_
          · simp [Array.getD_eq_getD_getElem?, Array.getElem?_setIfInBounds, hti.1] at hxl ⊢; exact hxl
          · simp [Array.getD_eq_getD_getElem?, Array.getElem?_setIfInBounds, hti.2] at hyl ⊢; exact hyl
          · rw [← listed_more B hs htl' hlt]; exact hI
      · -- the first one
        subst htn
        refine I1.step hE hr T1 B (by omega) hX hp (fun hch u hu => ?_) fun q' φ' S' a' w' hI => ?_
        · rw [hdn] at hp
          exact (ordx u hu).imp (fun h => hp u (by omega) h) fun h => (liS _ _ u hu).2 h
        · have := any_ok (bd := bd) (φ0 := φ0) (S0 := S0) (w0 := w0) (X0 := fun u => u = t) hE hr T1 B O1 (r := (.normal, ⟨s2.F, s2.h, d⟩)) (.inl ⟨by omega, by rw [at12]⟩) fuel (listed.setIfInBounds (dop l t).idx true) q' φ' S' a' w' (by simp [hs]) (by have := unl_set hs hlt hun; omega) ?_ ?_
          · rw [F1, h12] at this; exact this
          · rintro u rfl
            have : (dop l u).idx < listed.size := by omega
            exact ⟨by omega, by simp [Array.getD_eq_getD_getElem?, this]⟩
          · rw [← listed_more B hs htl' hlt]; exact hI
      · -- the second one first
        have ht1 : t = n + 1 := by omega
        subst ht1
        have I2 : Inv bd (n + 2) (ext2 st n sA sB) (swapL l) N φ0 S0 w0 d (fun t => t < l.length ∧ listed.getD (dop l t).idx false = true) q φ S a w :=
          I1.swap hlen hlen2 hXn li1 hdt (by rw [hd2n, hdn1]) (by rw [hd2n1, hdn]) (fun t ht => by rw [at1 t ht, at2 t ht])
        have hXe : (fun t => t < l.length ∧ listed.getD (dop l t).idx false = true) = fun t => t < (swapL l).length ∧ listed.getD (dop (swapL l) t).idx false = true := by
          funext t
          apply propext
          rw [hlen, hlen2]
          rcases Nat.lt_trichotomy t n with h | rfl | h
          · rw [hdt t h]
          · rw [hdn, hd2n, hxl, hyl]
          · by_cases e : t = n + 1
            · subst e; rw [hdn1, hd2n1, hxl, hyl]
            · constructor <;> (rintro ⟨k, _⟩; omega)
        rw [hXe] at I2
        have hidx : (dop l (n + 1)).idx = (dop (swapL l) n).idx := by rw [hdn1, hd2n]
        rw [hidx] at hlt hun ⊢
        refine I2.step hE hr T2 B2 (by omega) (fun h => by rw [hd2n, hyl] at h; exact absurd h.2 (by simp)) (fun u hul hb => ?_) (fun hch u hu => ?_) fun q' φ' S' a' w' hI => ?_
        · rw [hd2n] at hb
          rw [hdn1] at hp
          rcases Nat.lt_trichotomy u n with h | rfl | h
          · rw [hdt u h] at hb ⊢
            exact ⟨hul, (hp u (by omega) hb).2⟩
          · rw [hd2n] at hb
            have := hp (u + 1) (by omega) (by rw [hdn1]; exact hb)
            rw [hdn1, hyl] at this; exact absurd this.2 (by simp)
          · have : u = n + 1 := by omega
            subst this
            rw [hd2n1, hyx] at hb; cases hb
        · rw [hdn1] at hp
          rw [hdt u hu]
          rcases ordy u hu with h | h
          · exact .inl ⟨by omega, (hp u (by omega) h).2⟩
          · exact .inr ((liS _ _ u hu).2 h)
        · have := any_ok (bd := bd) (φ0 := φ0) (S0 := S0) (w0 := w0) (X0 := fun u => u = n) hE hr T2 B2 O2 (r := (.normal, ⟨sB.F, sB.h, d⟩)) (.inl ⟨by omega, by rw [at22]⟩) fuel (listed.setIfInBounds (dop (swapL l) n).idx true) q' φ' S' a' w' (by simp [hs]) (by have := unl_set hs hlt hun; omega) ?_ ?_
          · exact any_post fin2 this
          · rintro u rfl
            have : (dop (swapL l) u).idx < listed.size := by omega
            exact ⟨by omega, by simp [Array.getD_eq_getD_getElem?, this]⟩
          · rw [← listed_more B2 hs (by omega) hlt]; exact hI

/-- the regions that draw do what they should -/
theorem regd_ok (hE : EnvOk P E) (hm : P.follows .mixedOrders = true) (hr : RecOk P rec) : RegdOk P E rec (chkD P) := by
  intro N l ops hk bd φ S s a w r he hR t
  have hk : (chkD0 P N l ops && (!pairL l || chkD0 P N (swapL l) ops)) = true := hk
  rw [Bool.and_eq_true] at hk
  have B := chkD_ok hk.1
  obtain ⟨n, st, T, O, hend⟩ := evRegd_tape he
  simp only [Region.schedule, hm, Bool.true_or, if_true]
  refine wpAny_sound ops.size t _ a _ ?_
  have hc : Cpl φ S s.h { w with drawn := w.drawn + 1 } := hR.cpl.same rfl
  have hx : Ext φ S w φ S { w with drawn := w.drawn + 1 } := Ext.same rfl rfl rfl
  have hsame : ∀ {x y}, VR φ S w x y → VR φ S { w with drawn := w.drawn + 1 } x y := fun h => h.ext hx
  have hX : ∀ t, ¬ (t < l.length ∧ (Array.replicate ops.size false).getD (dop l t).idx false = true) := by
    rintro t ⟨_, h⟩
    simp [Array.getD_eq_getD_getElem?, Array.getElem?_replicate] at h
    split at h <;> simp at h
  have hunl : unl ops.size (Array.replicate ops.size false) ≤ ops.size := by
    unfold unl
    refine Nat.le_trans (List.length_filter_le _ _) (by simp)
  have hI : Inv bd n st l N φ S w s.d (fun t => t < l.length ∧ (Array.replicate ops.size false).getD (dop l t).idx false = true) 0 φ S a { w with drawn := w.drawn + 1 } := by
    have hn0 : nx st 0 = s.h.next := by unfold nx; rw [T.zero]
    have hb0 : φ.below (nx st 0) = φ := by
      funext id
      unfold Phi.below
      split
      · rfl
      · rename_i h; rw [hn0] at h; exact (hR.cpl.fresh id (by omega)).symm
    refine ⟨fun t h => absurd h (hX t), fun t h => absurd h (hX t), by omega, fun t h => absurd h (by omega), fun t _ h => absurd h (hX t), by rw [T.zero], ?_, fun id x h => ?_, fun t _ h => absurd h (hX t), fun id x h => ?_,
      fun sl => .inr ⟨fun t h => absurd h (hX t), ?_⟩, hR.size, hR.dfr, hx⟩
    · rw [hb0, T.zero]; exact hc
    · rw [← hb0] at h
      exact .inl (Phi.below_some.1 h).1
    · obtain ⟨b, base, tot⟩ := x
      exact hR.cpl.phi _ _ _ _ h
    · rw [hb0, T.zero]; exact hsame (hR.fr sl)
  rcases hend with h | h | ⟨x, y, hP⟩
  · exact any_ok (X0 := fun _ => False) hE hr T B (fun t ht hc u hu => (T.all (Nat.le_of_lt ht) (O t ht hc) u hu).imp id .inl) (.inl h) ops.size _ 0 φ S a _ (by simp) hunl (fun _ h => h.elim) hI
  · exact any_ok (X0 := fun _ => False) hE hr T B (fun t ht hc u hu => (T.all (Nat.le_of_lt ht) (O t ht hc) u hu).imp id .inl) (.inr h) ops.size _ 0 φ S a _ (by simp) hunl (fun _ h => h.elim) hI
  · have hpl : pairL l = true := by
      have : l = l.take n ++ [x, y] := by rw [← hP.at0, List.take_append_drop]
      rw [this]; exact pairL_app hP.pair _
    have B2 : Tab P N (swapL l) ops := by
      have := hk.2
      rw [hpl] at this
      exact chkD_ok (by simpa using this)
    have hno : ∀ i, (Array.replicate ops.size false).getD i false = false := by
      intro i
      simp [Array.getD_eq_getD_getElem?, Array.getElem?_replicate]
      split <;> rfl
    exact pair_any hE hr T O hP B B2 ops.size _ 0 φ S a _ (by simp) hunl (hno _) (hno _) hI
end
end Go.Am
