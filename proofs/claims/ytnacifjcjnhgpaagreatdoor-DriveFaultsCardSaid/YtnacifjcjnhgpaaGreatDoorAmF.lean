import Derived.Test.YtnacifjcjnhgpaaGreatDoorAmD
import Derived.OrdersIn
import Derived.RangeFuncRecord
import Derived.Test.YtnacifjcjnhgpaaGreatDoorAmE
import Derived.RangeFuncLeaves
import Derived.Recover
set_option linter.all false
namespace Go.Am
open Go

def chkFn (P : Program) (chk : ChkD) (f : Nat) (af : AFn) : Bool :=
  match P.funcs[f]? with
  | some fn => (match fn.body with
    | some c => !(fn.name == "runtime.NumGoroutine") && chkRvs P af.results fn.results.toList && chkC P chk fn.ntmps af.body c
    | none => false)
  | none => false

theorem chkFn_ok {P : Program} {chk : ChkD} {f : Nat} {af : AFn} (h : chkFn P chk f af = true) :
    ∃ fn c, P.funcs[f]? = some fn ∧ fn.body = some c ∧ (fn.name == "runtime.NumGoroutine") = false ∧ chkRvs P af.results fn.results.toList = true ∧ chkC P chk fn.ntmps af.body c = true := by
  unfold chkFn at h
  split at h
  · rename_i fn hf
    split at h
    · rename_i c hc
      simp only [Bool.and_eq_true, Bool.not_eq_true'] at h
      exact ⟨fn, c, hf, hc, h.1.1, h.1.2, h.2⟩
    · cases h
  · cases h

def FnsOk (P : Program) (E : Env) (chk : ChkD) : Prop := ∀ f, (E.fns f).body = .bad ∨ chkFn P chk f (E.fns f) = true

/-- the fence of a round's frame -/
abbrev fwr (l : Nat) : Fence := Fence.wide.inRound l

theorem noDfr_ok {o : Oper} (h : noDfr o = true) : ∀ c, o.op ≠ .defer c := by
  intro c he
  simp [noDfr, he] at h

theorem stepsR {P : Program} {l : Nat} {m m' : Machine} (h : Steps P m m') : StepsIn (Machine.fenced P (fwr l)) P m m' := stepsIn_wide.2 h

/-- an operation outside of rounds, within one -/
theorem wpIn_of_wp {P : Program} {o : Oper} {a : Act} {w : World} {next : Act → World → Prop} {Q : Exit → Act → World → Prop} {F : Fence} (hF : F = Fence.wide ∨ ∃ l, F = fwr l) (hd : F.round = none ∨ noDfr o = true) (h : o.wp P a w next Q) :
    o.wpIn F 0 P a w next Q := by
  have hfn : ∀ f, F.fn f := by rcases hF with rfl | ⟨l, rfl⟩ <;> exact fun _ => trivial
  have hdep : ¬ F.depth.isSome = true := by rcases hF with rfl | ⟨l, rfl⟩ <;> simp [Fence.wide]
  have hcall : ∀ {f args w R}, Calls P f args w R → CallsIn F 0 P f args w R := by
    intro f args w R hc
    rcases hF with rfl | ⟨l, rfl⟩
    · exact callsIn_wide.2 hc
    · exact callsIn_wide.2 hc
  have hst : ∀ {m m'}, Steps P m m' → StepsIn (Machine.fenced P F) P m m' := by
    intro m m' hs
    rcases hF with rfl | ⟨l, rfl⟩
    · exact stepsIn_wide.2 hs
    · exact stepsR hs
  refine ⟨fun f _ => hfn f, ?_⟩
  have he : Oper.semAt F.round a.eval o = execOp a.eval o := by
    rcases hd with h | h
    · rw [h]; rfl
    · exact Oper.semAt_eq _ _ _ (noDfr_ok h)
  rw [he]
  unfold Oper.wp at h
  generalize (execOp a.eval o).run P w = r at h
  cases r with
  | ok x w' =>
    cases x with
    | enter f args => exact ⟨fun h => absurd h hdep, hcall h⟩
    | row row args => exact ⟨fun h => absurd h hdep, fun c cs _ => let ⟨v, w', r, s⟩ := h c cs; ⟨v, w', r, hst s⟩⟩
    | round => exact h.elim
    | _ => exact h
  | halt x w' => cases x <;> exact h

theorem wpOpsIn_of {P : Program} {ops : Array Oper} {Q : Exit → Act → World → Prop} {l : Nat} (hQ : ¬ LetsOut Q) (hd : ops.toList.all noDfr = true) : ∀ (is : List Nat) (a : Act) (w : World), wpOps P ops Q is a w → wpOpsIn (fwr l) 0 P ops Q is a w
  | [], a, w, h => h
  | i :: is, a, w, h => by
    rw [wpOpsIn_cons]
    rw [wpOps_cons] at h
    unfold wpOpIn
    unfold wpOp at h
    cases ho : ops[i]? with
    | none => rw [ho] at h; exact wpOpsIn_of hQ hd is a w h
    | some o =>
      rw [ho] at h
      simp only [] at h ⊢
      have hod : noDfr o = true := by
        rw [List.all_eq_true] at hd
        exact hd o (by rw [Array.mem_toList_iff]; exact Array.mem_of_getElem? ho)
      split
      · rename_i hw
        rw [if_pos hw] at h
        rcases h with h | h
        · exact Oper.wpIn_mono (fun a w h => wpOpsIn_of hQ hd is a w h) (wpIn_of_wp (.inr ⟨l, rfl⟩) (.inr hod) h)
        · exact absurd h.2 hQ
      · rename_i hw
        rw [if_neg hw] at h
        exact ⟨fun _ _ => trivial, wpOpsIn_of hQ hd is _ w h⟩

theorem po_noOut {B N : Nat} {φ : Phi} {S : Sea} {w : World} {r : Out × St} : ¬ LetsOut (Po B N φ S w r) := by
  rintro ⟨a, w', φ', S', _, _, hx⟩
  obtain ⟨o, s⟩ := r
  cases o <;> exact hx

section
variable {P : Program} {E : Env} {rec : Rec} {chk : ChkD} {B N n : Nat}

/-- a code of ours does what the model's does, in a round -/
def COkR (P : Program) (l N : Nat) (body : St → OR) (c : Code) : Prop :=
  ∀ B φ S s a w r, body s = some r → Rl B N φ S s a w → c.wpIn (fwr l) 0 P (Po B N φ S w r) a w

theorem reg_ops (hE : EnvOk P E) (hr : RecOk P rec) {l : List AOper} {ops : Array Oper} (hk : chkOpers P N ops l ops.toList = true) {φ : Phi} {S : Sea} {s : St} {a : Act} {w : World} {r : Out × St}
    (he : evOps E rec l s = some r) (hR : Rl B N φ S s a w) : wpOps P ops (Po B N φ S w r) (List.range ops.size) a w := by
  have := evOps_ok (φ0 := φ) (S0 := S) (w0 := w) hE hr l 0 ops.toList rfl hk φ S s a w he (Ext.refl _ _ _) hR
  rw [Array.length_toList] at this
  rwa [List.range_eq_range']

theorem loopR_ok {l : Nat} {keep : List Nat} {body : St → OR} {c : Code} (hb : COkR P l N body c) : ∀ (n : Nat) (φ : Phi) (S : Sea) (s : St) (a : Act) (w : World) (r : Out × St),
    evLoop keep body n s = some r → Rl B N φ S s a w → ∀ (b : Frame) (k : List Item) (cs : List Frame), b.roundOf = (fwr l).round →
    ∃ e a' w', Po B N φ S w r e a' w' ∧ ArrivesIn (Machine.fenced P (fwr l)) P (lone (b.atR a (.code c :: .inLoop c :: k)) cs w) b k cs e a' w' := by
  intro n
  induction n with
  | zero => intro φ S s a w r he; cases he
  | succ n ih =>
    intro φ S s a w r he hR b k cs hro
    have he : (obind (body ⟨keepF s.F keep, s.h, s.d⟩) fun r => match r.1 with | .normal => evLoop keep body n r.2 | o => some (o, r.2)) = some r := he
    rw [obind_some] at he
    obtain ⟨r1, h1, h2⟩ := he
    obtain ⟨e, a1, w1, hq, harr⟩ := hb B φ S _ a w r1 h1 (hR.keep keep) b (.inLoop c :: k) cs hro trivial (room_wide _)
    obtain ⟨φ1, S1, hx, hR1, hxr⟩ := hq
    obtain ⟨o1, s1⟩ := r1
    cases o1 with
    | normal =>
      have := out_of hxr rfl
      subst this
      obtain ⟨e2, a2, w2, hq2, harr2⟩ := ih φ1 S1 s1 a1 w1 r h2 hR1 b k cs hro
      exact ⟨e2, a2, w2, hq2.from hx, .of_steps (StepsIn.trans harr (.one (fenced_calm (F := fwr l) (n := 0) (fr := b.atR a1 (.inLoop c :: k)) trivial (room_wide _) rfl) stepR_inLoop)) harr2⟩
    | exit id => cases h2; exact ⟨e, a1, w1, ⟨φ1, S1, hx, hR1, hxr⟩, .pass (x := .inLoop c) rfl (fun _ _ => .inl (not_out hxr (by simp))) harr⟩
    | goto l => cases h2; exact ⟨e, a1, w1, ⟨φ1, S1, hx, hR1, hxr⟩, .pass (x := .inLoop c) rfl (fun _ _ => .inl (not_out hxr (by simp))) harr⟩
    | ret => cases h2; exact ⟨e, a1, w1, ⟨φ1, S1, hx, hR1, hxr⟩, .pass (x := .inLoop c) rfl (fun _ _ => .inl (not_out hxr (by simp))) harr⟩
    | pan v => cases h2; exact ⟨e, a1, w1, ⟨φ1, S1, hx, hR1, hxr⟩, .pass (x := .inLoop c) rfl (fun _ _ => .inl (not_out hxr (by simp))) harr⟩

theorem codeR_ok (hE : EnvOk P E) (hr : RecOk P rec) (hD : RegdOk P E rec chk) (l : Nat) : ∀ (ac : AC) (c : Code), chkR P chk N ac c = true → COkR P l N (evCode E rec n ac) c := by
  intro ac
  induction ac with
  | skip =>
    intro c hk B φ S s a w r he hR
    cases he
    cases c with
    | skip => exact wpIn_skip (hR.here trivial)
    | label l => exact wpIn_label (hR.here trivial)
    | _ => cases hk
  | reg ol =>
    intro c hk B φ S s a w r he hR
    cases c with
    | region id ops d =>
      have hk1 : (!d && chkOpers P N ops ol ops.toList && ops.toList.all noDfr) = true := hk
      rw [Bool.and_eq_true, Bool.and_eq_true, Bool.not_eq_true'] at hk1
      obtain ⟨⟨rfl, hk2⟩, hd⟩ := hk1
      exact wpIn_region (wpOpsIn_of po_noOut hd _ _ _ (reg_ops hE hr hk2 he hR))
    | _ => cases hk
  | regd ol =>
    intro c hk B φ S s a w r he hR
    cases c with
    | region id ops d =>
      have hk1 : (d && chk N ol ops && ops.toList.all noDfr) = true := hk
      rw [Bool.and_eq_true, Bool.and_eq_true] at hk1
      obtain ⟨⟨rfl, hk2⟩, hd⟩ := hk1
      exact wpIn_region_draw fun t => wpOpsIn_of po_noOut hd _ _ _ (hD N ol ops hk2 B φ S s a w r he hR t)
    | _ => cases hk
  | seq x y ihx ihy =>
    intro c hk B φ S s a w r he hR
    cases c with
    | seq x' y' =>
      have hk : (chkR P chk N x x' && chkR P chk N y y') = true := hk
      simp only [Bool.and_eq_true] at hk
      have he : (obind (evCode E rec n x s) fun r => match r.1 with | .normal => evCode E rec n y r.2 | o => some (o, r.2)) = some r := he
      rw [obind_some] at he
      obtain ⟨r1, h1, h2⟩ := he
      refine wpIn_seq (wpIn_mono (ihx x' hk.1 B φ S s a w r1 h1 hR) fun e a1 w1 hp => ?_)
      obtain ⟨φ1, S1, x1, x2, x3⟩ := hp
      obtain ⟨o1, s1⟩ := r1
      cases o1 <;> cases e <;> first | exact x3.elim | skip
      · exact wpIn_mono (ihy y' hk.2 B φ1 S1 s1 a1 w1 r h2 x2) fun e a w hp => hp.from x1
      all_goals
        cases h2
        exact ⟨φ1, S1, x1, x2, x3⟩
    | _ => cases hk
  | cond t x y ihx ihy =>
    intro c hk B φ S s a w r he hR
    cases c with
    | cond t' x' y' =>
      have hk : (chkOpd t t' && chkR P chk N x x' && chkR P chk N y y') = true := hk
      simp only [Bool.and_eq_true] at hk
      have he : (obind (asBool (t.ev s.F)) fun b => Bool.rec (evCode E rec n y s) (evCode E rec n x s) b) = some r := he
      rw [obind_some] at he
      obtain ⟨b, h1, h2⟩ := he
      have ht := chkOpd_sound hk.1.1 hR.fr
      rw [asBool_some h1] at ht
      cases b with
      | true => exact wpIn_cond_true ht.bool_inv (ihx x' hk.1.2 B φ S s a w r h2 hR)
      | false => exact wpIn_cond_false ht.bool_inv (ihy y' hk.2 B φ S s a w r h2 hR)
    | _ => cases hk
  | block id x ih =>
    intro c hk B φ S s a w r he hR
    cases c with
    | block id' x' =>
      have hk1 : (id == id' && chkR P chk N x x') = true := hk
      clear hk
      simp only [Bool.and_eq_true, beq_iff_eq] at hk1
      obtain ⟨rfl, hk⟩ := hk1
      have he : (obind (evCode E rec n x s) fun r => match r.1 with | .exit id' => bif Nat.beq id id' then some (.normal, r.2) else some (.exit id', r.2) | o => some (o, r.2)) = some r := he
      rw [obind_some] at he
      obtain ⟨r1, h1, h2⟩ := he
      refine wpIn_block (wpIn_mono (ih x' hk B φ S s a w r1 h1 hR) fun e a1 w1 hp => ?_)
      obtain ⟨φ1, S1, x1, x2, x3⟩ := hp
      obtain ⟨o1, s1⟩ := r1
      cases o1 <;> cases e <;> first | exact x3.elim | skip
      · cases h2; exact ⟨φ1, S1, x1, x2, x3⟩
      · rename_i i j
        have hij : i = j := x3
        subst hij
        have h2 : (bif Nat.beq id i then some (Out.normal, s1) else some (.exit i, s1)) = some r := h2
        show if i = id then _ else _
        by_cases e : i = id
        · subst e
          have hb : Nat.beq i i = true := Nat.beq_refl i
          rw [hb] at h2
          cases h2
          simp only [if_true]
          exact ⟨φ1, S1, x1, x2, trivial⟩
        · simp only [e, if_false]
          have hb : Nat.beq id i = false := by
            cases hb : Nat.beq id i with
            | false => rfl
            | true => exact absurd (Nat.eq_of_beq_eq_true hb).symm e
          rw [hb] at h2
          cases h2
          exact ⟨φ1, S1, x1, x2, rfl⟩
      all_goals
        cases h2
        exact ⟨φ1, S1, x1, x2, x3⟩
    | _ => cases hk
  | loop keep x ih =>
    intro c hk B φ S s a w r he hR
    cases c with
    | loop x' =>
      intro b k cs hro hb hr'
      obtain ⟨e, a', w', hq, harr⟩ := loopR_ok (ih x' hk) n φ S s a w r he hR b k cs hro
      exact ⟨e, a', w', hq, .of_steps (.one (fenced_calm hb hr' rfl) stepR_loop) harr⟩
    | _ => cases hk
  | rf => intro c hk; cases hk
  | exit id =>
    intro c hk B φ S s a w r he hR
    cases he
    cases c with
    | exit id' =>
      have hk : (id == id') = true := hk
      simp only [beq_iff_eq] at hk
      exact wpIn_exit (hR.here hk)
    | _ => cases hk
  | scope => intro c hk; cases hk
  | goto => intro c hk; cases hk
  | ret =>
    intro c hk B φ S s a w r he hR
    cases he
    cases c with
    | ret => exact wpIn_ret (hR.here trivial)
    | _ => cases hk
  | kp l' x ih =>
    intro c hk B φ S s a w r he hR
    exact ih c hk B φ S _ a w r he (hR.keep l')
  | bad => intro c hk; cases hk
end

/- a block that is hidden from the heap -/
structure Hid (φ : Phi) (S : Sea) (w : World) (r : Nat) (o : Obj) : Prop where
  at' : w.heap[r]? = some o
  sea : ¬ S r
  phi : ∀ id x, φ id = some x → x.1 ≠ r

section
variable {φ φ' : Phi} {S S' : Sea} {w w' : World} {r : Nat} {o : Obj}
theorem Hid.lt (h : Hid φ S w r o) : r < w.heap.size := (Array.getElem?_eq_some_iff.1 h.at').1
theorem Hid.ext (h : Ext φ S w φ' S' w') (m : Hid φ S w r o) : Hid φ' S' w' r o where
  at' := (h.foot r m.lt m.phi).trans m.at'
  sea hs := by
    rcases h.newS r hs with h' | ⟨id, x, h1, h2⟩ | h'
    · exact m.sea h'
    · exact m.phi id x h1 h2
    · have := m.lt; omega
  phi id x hx he := by
    rcases h.newP id x hx with ⟨id0, x0, h1, h2⟩ | h'
    · exact m.phi id0 x0 h1 (h2.trans he)
    · have := m.lt; omega
theorem Hid.put (m : Hid φ S w r o) (o' : Obj) : Hid φ S (w.putObj r o') r o' := ⟨World.putObj_heap_same m.lt, m.sea, m.phi⟩
theorem Hid.other {r' : Nat} {o1 : Obj} (m : Hid φ S w r o) (hne : r ≠ r') : Hid φ S (w.putObj r' o1) r o := ⟨(World.putObj_heap_other hne).trans m.at', m.sea, m.phi⟩

theorem VR.put {x : AV} {v : Value} (m : Hid φ S w r o) (o' : Obj) (h : VR φ S w x v) : VR φ S (w.putObj r o') x v :=
  h.mono (fun _ _ h => h) (fun _ h => h) (fun b hb => World.putObj_heap_other (fun e => m.sea (by rw [← e]; exact hb)))
theorem FRel.putL {F : Fr} {t : Array Value} (m : Hid φ S w r o) (o' : Obj) (h : FRel φ S w F t) : FRel φ S (w.putObj r o') F t := fun i => (h i).put m o'
theorem VRs.put {l : List AV} {t : Array Value} (m : Hid φ S w r o) (o' : Obj) (h : VRs φ S w l t) : VRs φ S (w.putObj r o') l t := ⟨h.1, fun i hi => (h.2 i hi).put m o'⟩
theorem Cpl.putL {h : Heap} (m : Hid φ S w r o) (o' : Obj) (hc : Cpl φ S h w) : Cpl φ S h (w.putObj r o') where
  obj id hid := by
    obtain ⟨b, base, tot, h1, h2, h3⟩ := hc.obj id hid
    exact ⟨b, base, tot, h1, h2, h3.mono (fun _ _ h => h) (fun _ h => h) (fun b hb => World.putObj_heap_other (fun e => m.sea (by rw [← e]; exact hb))) (World.putObj_heap_other (m.phi id _ h1))⟩
  inj := hc.inj
  sea b hb := by rw [World.putObj_size]; exact hc.sea b hb
  gl := hc.gl.mono (fun _ h => h) (fun b hb => World.putObj_heap_other (fun e => m.sea (by rw [← e]; exact hb)))
  phi id b x y h := by rw [World.putObj_size]; exact hc.phi id b x y h
  fresh := hc.fresh
theorem DCl.put {x : AV × List AV} {y : Deferred} (m : Hid φ S w r o) (o' : Obj) : DCl φ S w x y → DCl φ S (w.putObj r o') x y
  | ⟨f, a, c, va, vc, vs, h1, h2, h3, h4, h5⟩ => ⟨f, a, c, va, vc, vs, h1, h2, h3.put m o', h4.put m o', h5.put m o'⟩
theorem DRel.putL {B : Nat} (m : Hid φ S w r o) (o' : Obj) : ∀ {d : List (AV × List AV)} {ds : List Deferred}, (∀ z ∈ ds, z.target ≠ .collected r) → DRel B φ S w d ds → DRel B φ S (w.putObj r o') d ds
  | [], [], _, h => by show B ≤ (w.putObj r o').heap.size; rw [World.putObj_size]; exact h
  | _ :: _, _ :: _, hn, ⟨.inl hc, hr⟩ => ⟨.inl (hc.put m o'), hr.putL m o' fun z hz => hn z (by simp [hz])⟩
  | _ :: _, _ :: _, hn, ⟨.inr ⟨q, h1, h2, h3, h4⟩, hr⟩ => ⟨.inr ⟨q, h1, h2, ⟨h3.ge, (World.putObj_heap_other (fun e => hn _ (List.mem_cons_self ..) (by rw [h2, e]))).trans h3.at', h3.sea, h3.phi⟩, h4⟩, hr.putL m o' fun z hz => hn z (by simp [hz])⟩
  | [], _ :: _, _, h => h
  | _ :: _, [], _, h => h
theorem Ext.put {φ0 : Phi} {S0 : Sea} {w0 : World} (h : Ext φ0 S0 w0 φ S w) (m : ¬ S r) (hr : w0.heap.size ≤ r) (o' : Obj) : Ext φ0 S0 w0 φ S (w.putObj r o') where
  phi := h.phi
  sea := h.sea
  keep b hb := (World.putObj_heap_other (fun e => m (by rw [← e]; exact h.sea b hb))).trans (h.keep b hb)
  foot b hb hn := (World.putObj_heap_other (by omega)).trans (h.foot b hb hn)
  size := by rw [World.putObj_size]; exact h.size
  newS := h.newS
  newP := h.newP
  os := h.os
  out := h.out
theorem DRel.marks {B : Nat} : ∀ {d : List (AV × List AV)} {ds : List Deferred}, DRel B φ S w d ds → ∀ z ∈ ds, ∀ r, z.target = .collected r → ∃ o, w.heap[r]? = some o ∧ o = .deferred (some [])
  | [], [], _, z, hz => by cases hz
  | x :: d, y :: ds, h, z, hz => by
    intro r hr
    rcases List.mem_cons.1 hz with rfl | hz
    · rcases h.1 with ⟨f, a, c, va, vc, vs, h1, h2, _⟩ | ⟨q, h1, h2, h3, _⟩
      · rw [h2] at hr; cases hr
      · rw [h2] at hr; cases hr; exact ⟨_, h3.at', rfl⟩
    · exact h.2.marks z hz r hr
  | [], _ :: _, h, _, _ => h.elim
  | _ :: _, [], h, _, _ => h.elim
theorem Rl.putL {B N : Nat} {s : St} {a : Act} (m : Hid φ S w r o) (ho : o ≠ .deferred (some [])) (o' : Obj) (h : Rl B N φ S s a w) : Rl B N φ S s a (w.putObj r o') :=
  ⟨h.cpl.putL m o', h.fr.putL m o', h.size, h.dfr.putL m o' fun z hz hzr => by
    obtain ⟨o1, h1, h2⟩ := h.dfr.marks z hz r hzr
    rw [m.at'] at h1; cases h1; exact ho h2⟩
end
end Go.Am
namespace Go.Am
open Go

def outCode : Out → Code
  | .exit id => .exit id
  | _ => .ret
def pendOf : List (AV × List AV) → Option Code
  | [] => none
  | m :: _ => (mkOut m).map outCode
def stOf : List (AV × List AV) → LoopState
  | [] => .ready
  | _ => .done

section
variable {P : Program} {E : Env} {rec : Rec} {chk : ChkD} {n N L D : Nat} {φ0 : Phi} {S0 : Sea} {w0 : World} {rc : LoopState → Option Code → Loop}
  {rd : List AV → Heap → Option (List (AV × List AV) × Heap)}

structure IRx (φ0 : Phi) (S0 : Sea) (w0 : World) (rc : LoopState → Option Code → Loop) (N L D : Nat) (ys : List Nat) (φ : Phi) (S : Sea) (s : St) (a : Act) (w : World) : Prop where
  ext : Ext φ0 S0 w0 φ S w
  cpl : Cpl φ S s.h w
  fr : FRel φ S w s.F a.tmps
  size : N ≤ a.tmps.size
  y0 : ∀ y ∈ ys, a.tmps.getD y undef = .func (.yield L) #[] #[]
  dfr : a.defers = []
  lp : Hid φ S w L (.loop (rc (stOf s.d) (pendOf s.d)))
  dm : Hid φ S w D (.deferred (some []))
def IR (φ0 : Phi) (S0 : Sea) (w0 : World) (rc : LoopState → Option Code → Loop) (N L D : Nat) (s : St) (a : Act) (w : World) : Prop := ∃ φ S, IRx φ0 S0 w0 rc N L D [0] φ S s a w

def XI : Out → Exit → Prop
  | .normal, .normal => True
  | .exit i, .exit j => i = j
  | .ret, .ret => True
  | _, _ => False

def IPost (φ0 : Phi) (S0 : Sea) (w0 : World) (rc : LoopState → Option Code → Loop) (N L D : Nat) (r : Out × St) (e : Exit) (a : Act) (w : World) : Prop :=
  (∃ v ch, r.1 = .pan v ∧ e = .panic ch) ∨ (XI r.1 e ∧ IR φ0 S0 w0 rc N L D r.2 a w)

def COkI (P : Program) (φ0 : Phi) (S0 : Sea) (w0 : World) (rc : LoopState → Option Code → Loop) (N L D : Nat) (body : St → OR) (c : Code) : Prop :=
  ∀ s a w r, body s = some r → IR φ0 S0 w0 rc N L D s a w → c.wpIn Fence.wide 0 P (IPost φ0 S0 w0 rc N L D r) a w

/-- a round does what is said of it -/
def RdOk (P : Program) (φ0 : Phi) (S0 : Sea) (w0 : World) (rc : LoopState → Option Code → Loop) (L D : Nat) (rd : List AV → Heap → Option (List (AV × List AV) × Heap)) : Prop :=
  ∀ φ S w h args vs m h', rd args h = some (m, h') → Ext φ0 S0 w0 φ S w → Cpl φ S h w → VRs φ S w args vs → Hid φ S w L (.loop (rc .ready none)) → Hid φ S w D (.deferred (some [])) →
    ∃ f T x y, (Instr.yield L vs).run P w = .ok (.round L f T x y) w ∧ RoundIn Fence.wide 0 P L f T x y w fun e w' => e = .returned (.bool (nilB m)) ∧
      ∃ φ' S', Ext φ0 S0 w0 φ' S' w' ∧ Cpl φ' S' h' w' ∧ Hid φ' S' w' L (.loop (rc (stOf m) (pendOf m))) ∧ Hid φ' S' w' D (.deferred (some [])) ∧ ∀ F t, FRel φ S w F t → FRel φ' S' w' F t

theorem nilB_eq {α : Type} {l : List α} (h : nilB l = true) : l = [] := by cases l <;> first | rfl | cases h

theorem yhas_ok {ys : List Nat} {k : Nat} (h : yhas ys k = true) : k ∈ ys := by
  induction ys with
  | nil => cases h
  | cons y ys ih =>
    have h : (Nat.beq y k || yhas ys k) = true := h
    rw [Bool.or_eq_true] at h
    rcases h with h | h
    · have := Nat.eq_of_beq_eq_true h
      subst this; simp
    · exact List.mem_cons_of_mem _ (ih h)
theorem yless_ok {ys : List Nat} {d : Option Nat} {y : Nat} (h : y ∈ yless ys d) : y ∈ ys ∧ d ≠ some y := by
  cases d with
  | none => exact ⟨h, by simp⟩
  | some d =>
    induction ys with
    | nil => cases h
    | cons z ys ih =>
      have h : y ∈ (bif Nat.beq z d then yless ys (some d) else z :: yless ys (some d)) := h
      cases hb : Nat.beq z d with
      | true =>
        rw [hb] at h
        exact ⟨List.mem_cons_of_mem _ (ih h).1, (ih h).2⟩
      | false =>
        rw [hb] at h
        rcases List.mem_cons.1 h with rfl | h
        · refine ⟨by simp, fun e => ?_⟩
          cases e
          rw [Nat.beq_refl] at hb; cases hb
        · exact ⟨List.mem_cons_of_mem _ (ih h).1, (ih h).2⟩
theorem yless_zero {ys : List Nat} {d : Option Nat} (hd : notD0 d = true) (h : 0 ∈ ys) : 0 ∈ yless ys d := by
  cases d with
  | none => exact h
  | some d =>
    induction ys with
    | nil => cases h
    | cons z ys ih =>
      show 0 ∈ (bif Nat.beq z d then yless ys (some d) else z :: yless ys (some d))
      rcases List.mem_cons.1 h with rfl | h
      · cases d with
        | zero => cases hd
        | succ d => exact List.mem_cons_self ..
      · cases hb : Nat.beq z d with
        | true => exact ih h
        | false => exact List.mem_cons_of_mem _ (ih h)

theorem getD_put_ne {a : Act} {dst : Option Nat} {cv : Value} {y : Nat} (h : dst ≠ some y) : (a.put dst cv).tmps.getD y undef = a.tmps.getD y undef := by
  cases dst with
  | none => rfl
  | some d =>
    have : ¬ d = y := fun e => h (by rw [e])
    simp [Act.put, Array.getD_eq_getD_getElem?, Array.getElem?_setIfInBounds, this]

theorem isYield_some {ys : List Nat} {o : AOp} {args : List Opd} (h : isYield ys o = some args) : ∃ k, k ∈ ys ∧ o = .callv (.t k) args := by
  unfold isYield at h
  split at h
  · rename_i k args'
    cases hb : yhas ys k with
    | false => rw [hb] at h; cases h
    | true => rw [hb] at h; cases h; exact ⟨k, yhas_ok hb, rfl⟩
  · cases h
theorem isYmove_some {ys : List Nat} {o : AOper} {d : Nat} (h : isYmove ys o = some d) : ∃ k, k ∈ ys ∧ o.op = .mv (.t k) ∧ o.dst = some d := by
  unfold isYmove at h
  split at h
  · rename_i k d' h1 h2
    cases hb : yhas ys k with
    | false => rw [hb] at h; cases h
    | true => rw [hb] at h; cases h; exact ⟨k, yhas_ok hb, h1, h2⟩
  · cases h

theorem wpIn_wide_op {o : Oper} {a : Act} {w : World} {next : Act → World → Prop} {Q : Exit → Act → World → Prop} (h : o.wp P a w next Q) : o.wpIn Fence.wide 0 P a w next Q :=
  wpIn_of_wp (.inl rfl) (.inl rfl) h

theorem dfr_none {B : Nat} {φ : Phi} {S : Sea} {w : World} {ds : List Deferred} (h : DRel B φ S w [] ds) : ds = [] := by
  cases ds with
  | nil => rfl
  | cons => exact h.elim

theorem evItOps_ok (hE : EnvOk P E) (hr : RecOk P rec) (hrd : RdOk P φ0 S0 w0 rc L D rd) {ops : Array Oper} : ∀ (l : List AOper) (i : Nat) (os : List Oper), ops.toList.drop i = os → chkOpers P N ops l os = true →
    ∀ (ys : List Nat) (φ : Phi) (S : Sea) (s : St) (a : Act) (w : World) (r : Out × St), evItOps E rec rd l ys s = some r → 0 ∈ ys → IRx φ0 S0 w0 rc N L D ys φ S s a w →
    wpOpsIn Fence.wide 0 P ops (IPost φ0 S0 w0 rc N L D r) (List.range' i os.length) a w := by
  intro l
  induction l with
  | nil =>
    intro i os hos hk ys φ S s a w r he h0 R
    cases os with
    | nil =>
      have he : some (Out.normal, s) = some r := he
      cases he
      exact .inr ⟨trivial, φ, S, R.ext, R.cpl, R.fr, R.size, fun y hy => by
        rw [List.mem_singleton] at hy; subst hy; exact R.y0 0 h0, R.dfr, R.lp, R.dm⟩
    | cons o os => cases hk
  | cons ao l ih =>
    intro i os hos hk ys φ S s a w r he h0 R
    cases os with
    | nil => cases hk
    | cons o os =>
      have hk : (chkOper P N ops ao o && chkOpers P N ops l os) = true := hk
      simp only [chkOper, Bool.and_eq_true] at hk
      obtain ⟨⟨⟨hd, hg⟩, hop⟩, hl⟩ := hk
      obtain ⟨hd1, hd2⟩ := chkDst_ok hd
      have ho : ops[i]? = some o := by
        have h0 : (ops.toList.drop i)[0]? = some o := by rw [hos]; rfl
        simpa using h0
      have hos' : ops.toList.drop (i + 1) = os := by
        have : (ops.toList.drop i).drop 1 = os := by rw [hos]; rfl
        rwa [List.drop_drop] at this
      show wpOpsIn Fence.wide 0 P ops (IPost φ0 S0 w0 rc N L D r) (i :: List.range' (i + 1) os.length) a w
      rw [wpOpsIn_cons]
      unfold wpOpIn
      rw [ho]
      simp only []
      have he : ogrd (notD0 ao.dst) (obind (wantedB s.F ao.g) fun w => Bool.rec (evItOps E rec rd l (yless ys ao.dst) (s.put ao.dst (.tup []) s.h))
          (Option.rec (motive := fun _ => OR) (Option.rec (motive := fun _ => OR)
              (doOp E rec ao.op ao.dst ⟨s.F, s.h, []⟩ fun s' => ogrd (nilB s'.d) (evItOps E rec rd l (yless ys ao.dst) ⟨s'.F, s'.h, s.d⟩))
              (fun args => ogrd (nilB s.d) (obind (rd (evs s.F args) s.h) fun r => evItOps E rec rd l (yless ys ao.dst) ⟨putF s.F ao.dst (.bool (nilB r.1)), r.2, r.1⟩)) (isYield ys ao.op))
            (fun d => evItOps E rec rd l (d :: yless ys ao.dst) ⟨s.F.set d .bot, s.h, s.d⟩) (isYmove ys ao)) w) = some r := he
      rw [ogrd_some, obind_some] at he
      obtain ⟨hn0, wd, h1, h2⟩ := he
      have hRl : Rl 0 N φ S ⟨s.F, s.h, []⟩ a w := ⟨R.cpl, R.fr, R.size, by rw [R.dfr]; exact Nat.zero_le _⟩
      have hyl : ∀ (a1 : Act) cv, a1.tmps = (a.put o.dst cv).tmps → ∀ y ∈ yless ys ao.dst, a1.tmps.getD y undef = .func (.yield L) #[] #[] := by
        intro a1 cv he y hy
        obtain ⟨k1, k2⟩ := yless_ok hy
        rw [hd1] at k2
        rw [he, getD_put_ne k2]; exact R.y0 y k1
      have h0' := yless_zero hn0 h0
      rw [wanted_ok (a := a) hg h1 (fun p _ => R.fr p.1) R.size]
      cases wd with
      | false =>
        have h2 : evItOps E rec rd l (yless ys ao.dst) (s.put ao.dst (.tup []) s.h) = some r := h2
        have hsk := skip_ok hRl hd2
        refine ⟨fun _ _ => trivial, ih (i + 1) os hos' hl _ φ S _ _ w r h2 h0' ⟨R.ext, R.cpl, ?_, hsk.size, hyl _ _ rfl, by rw [put_dfr]; exact R.dfr, R.lp, R.dm⟩⟩
        rw [hd1]; exact hsk.fr
      | true =>
        simp only [if_true]
        have h2 : Option.rec (motive := fun _ => OR) (Option.rec (motive := fun _ => OR)
              (doOp E rec ao.op ao.dst ⟨s.F, s.h, []⟩ fun s' => ogrd (nilB s'.d) (evItOps E rec rd l (yless ys ao.dst) ⟨s'.F, s'.h, s.d⟩))
              (fun args => ogrd (nilB s.d) (obind (rd (evs s.F args) s.h) fun r => evItOps E rec rd l (yless ys ao.dst) ⟨putF s.F ao.dst (.bool (nilB r.1)), r.2, r.1⟩)) (isYield ys ao.op))
            (fun d => evItOps E rec rd l (d :: yless ys ao.dst) ⟨s.F.set d .bot, s.h, s.d⟩) (isYmove ys ao) = some r := h2
        cases hym : isYmove ys ao with
        | some d =>
          rw [hym] at h2
          replace h2 : evItOps E rec rd l (d :: yless ys ao.dst) ⟨s.F.set d .bot, s.h, s.d⟩ = some r := h2
          obtain ⟨k, hk1, hk2, hk3⟩ := isYmove_some hym
          have hdd : o.dst = some d := by rw [← hd1]; exact hk3
          rw [hk2] at hop
          have hmv : ∃ y, (o.op = .move y ∨ o.op = .assign y) ∧ a.eval y = .func (.yield L) #[] #[] := by
            have hop : chkOp P (.mv (.t k)) o.op = true := hop
            unfold chkOp at hop
            simp only [] at hop
            have fin : ∀ y, chkOpd (.t k) y = true → a.eval y = .func (.yield L) #[] #[] := by
              intro y hy
              cases y with
              | tmp t =>
                have : (k == t) = true := hy
                simp only [beq_iff_eq] at this
                subst this
                exact R.y0 k hk1
              | _ => cases hy
            split at hop
            · exact ⟨_, .inl ‹_›, fin _ hop⟩
            · exact ⟨_, .inr ‹_›, fin _ hop⟩
            · cases hop
          obtain ⟨y, hy1, hy2⟩ := hmv
          have hx : (execOp a.eval o).run P w = .ok (.value (.func (.yield L) #[] #[])) w := by
            rw [← hy2]
            rcases hy1 with e | e <;> simp [execOp, e]
          refine ⟨fun _ _ => trivial, ?_⟩
          rw [show Oper.semAt Fence.wide.round a.eval o = execOp a.eval o from rfl, hx, Oper.uponIn_value]
          have hdN := hd2 d hdd
          have hds : d < a.tmps.size := Nat.lt_of_lt_of_le hdN R.size
          refine ih (i + 1) os hos' hl _ φ S _ _ w r h2 (List.mem_cons_of_mem _ h0') ⟨R.ext, R.cpl, ?_, by rw [put_size]; exact R.size, fun y hy => ?_, by rw [put_dfr]; exact R.dfr, R.lp, R.dm⟩
          · have := R.fr.put (a := a) (v := .bot) (cv := .func (.yield L) #[] #[]) (dst := some d) (.bot _) (fun d' h => by cases h; exact hds)
            rw [hdd]; exact this
          · rcases List.mem_cons.1 hy with rfl | hy
            · rw [hdd]
              simp [Act.put, Array.getD_eq_getD_getElem?, Array.getElem?_setIfInBounds, hds]
            · exact hyl _ _ rfl y hy
        | none =>
        rw [hym] at h2
        cases hy : isYield ys ao.op with
        | none =>
          rw [hy] at h2
          replace h2 : doOp E rec ao.op ao.dst ⟨s.F, s.h, []⟩ (fun s' => ogrd (nilB s'.d) (evItOps E rec rd l (yless ys ao.dst) ⟨s'.F, s'.h, s.d⟩)) = some r := h2
          have h2' : doOp E rec ao.op o.dst ⟨s.F, s.h, []⟩ (fun s' => ogrd (nilB s'.d) (evItOps E rec rd l (yless ys ao.dst) ⟨s'.F, s'.h, s.d⟩)) = some r := by rw [← hd1]; exact h2
          refine wpIn_wide_op (doOp_ok hE hr hop hd2 h2' hRl (fun φ1 S1 s1 a1 w1 g1 g2 g3 g4 => ?_) (fun e a' w' hpan hp => ?_))
          · rw [ogrd_some] at g1
            obtain ⟨g5, g6⟩ := g1
            obtain ⟨cv, g4⟩ := g4
            refine ih (i + 1) os hos' hl _ φ1 S1 _ a1 w1 r g6 h0' ⟨R.ext.trans g2, g3.cpl, g3.fr, g3.size, hyl a1 cv g4, ?_, R.lp.ext g2, R.dm.ext g2⟩
            have := g3.dfr; rw [nilB_eq g5] at this; exact dfr_none this
          · obtain ⟨φ', S', x1, x2, x3⟩ := hp
            obtain ⟨v, hv⟩ := hpan
            rw [hv] at x3
            cases e <;> first | exact x3.elim | exact .inl ⟨v, _, hv, rfl⟩
        | some args =>
          rw [hy] at h2
          replace h2 : ogrd (nilB s.d) (obind (rd (evs s.F args) s.h) fun r => evItOps E rec rd l (yless ys ao.dst) ⟨putF s.F ao.dst (.bool (nilB r.1)), r.2, r.1⟩) = some r := h2
          rw [ogrd_some, obind_some] at h2
          obtain ⟨hnil, ⟨m, h'⟩, h3, h4⟩ := h2
          have hd0 := nilB_eq hnil
          have hop' := hop
          obtain ⟨k, hk1, hk2⟩ := isYield_some hy
          rw [hk2] at hop'
          simp only [chkDo] at hop'
          split at hop'
          · rename_i c hoc
            simp only [Bool.and_eq_true] at hop'
            have hcl := hop'.1
            unfold calleeV at hcl
            split at hcl
            · rename_i y hcy
              have hy0 : a.eval y = .func (.yield L) #[] #[] := by
                cases y with
                | tmp t =>
                  have : (k == t) = true := hcl
                  simp only [beq_iff_eq] at this
                  subst this
                  exact R.y0 k hk1
                | _ => cases hcl
              have hlp := R.lp
              rw [hd0] at hlp
              have hvs := chkOpds_sound hop'.2 R.fr
              obtain ⟨f, T, x, y, hyr, hround⟩ := hrd φ S w s.h _ _ m h' h3 R.ext R.cpl hvs hlp R.dm
              have hx : (execOp a.eval o).run P w = .ok (.round L f T x y) w := by
                rw [← hyr]
                simp [execOp, hoc, resolve, hcy, hy0, Deferred.ofValue, invoke]
              refine ⟨fun _ _ => trivial, ?_⟩
              rw [show Oper.semAt Fence.wide.round a.eval o = execOp a.eval o from rfl, hx, Oper.uponIn_round]
              refine ⟨fun h => by simp [Fence.wide] at h, hround.mono fun e w' hp => ?_⟩
              obtain ⟨rfl, φ', S', x1, x2, x3, x4, x5⟩ := hp
              have hf := (x5 _ _ R.fr).put (a := a) (v := .bool (nilB m)) (.bool _) (fun d h => Nat.lt_of_lt_of_le (hd2 d h) R.size)
              refine ih (i + 1) os hos' hl _ φ' S' _ _ w' r h4 h0' ⟨x1, x2, ?_, by rw [put_size]; exact R.size, hyl _ _ rfl, by rw [put_dfr]; exact R.dfr, x3, x4⟩
              rw [hd1]; exact hf
            · cases hcl
          · cases hop'

theorem xi_out {o : Out} {e : Exit} (h : XI o e) (hn : o = .normal) : e = .normal := by
  subst hn
  cases e <;> first | rfl | exact h.elim
theorem xi_not {o : Out} {e : Exit} (h : XI o e) (hn : o ≠ .normal) : e ≠ .normal := by
  cases o <;> cases e <;> first | exact absurd rfl hn | exact fun h => Exit.noConfusion h | exact h.elim

theorem IRx.keep {ys : List Nat} {φ : Phi} {S : Sea} {s : St} {a : Act} {w : World} (R : IRx φ0 S0 w0 rc N L D ys φ S s a w) (l : List Nat) : IRx φ0 S0 w0 rc N L D ys φ S ⟨keepF s.F l, s.h, s.d⟩ a w :=
  ⟨R.ext, R.cpl, fun i => by
    show VR φ S w ((keepF s.F l).get i) _
    rcases keepF_get s.F l i with h | h
    · rw [h]; exact R.fr i
    · rw [h]; exact .bot _, R.size, R.y0, R.dfr, R.lp, R.dm⟩
theorem IR.keep {s : St} {a : Act} {w : World} (h : IR φ0 S0 w0 rc N L D s a w) (l : List Nat) : IR φ0 S0 w0 rc N L D ⟨keepF s.F l, s.h, s.d⟩ a w := by
  obtain ⟨φ, S, R⟩ := h
  exact ⟨φ, S, R.keep l⟩

theorem loopI_ok {keep : List Nat} {body : St → OR} {c : Code} (hb : COkI P φ0 S0 w0 rc N L D body c) : ∀ (n : Nat) (s : St) (a : Act) (w : World) (r : Out × St),
    evLoop keep body n s = some r → IR φ0 S0 w0 rc N L D s a w → ∀ (b : Frame) (k : List Item) (cs : List Frame), b.roundOf = Fence.wide.round →
    ∃ e a' w', IPost φ0 S0 w0 rc N L D r e a' w' ∧ ArrivesIn (Machine.fenced P Fence.wide) P (lone (b.atR a (.code c :: .inLoop c :: k)) cs w) b k cs e a' w' := by
  intro n
  induction n with
  | zero => intro s a w r he; cases he
  | succ n ih =>
    intro s a w r he hR b k cs hro
    have he : (obind (body ⟨keepF s.F keep, s.h, s.d⟩) fun r => match r.1 with | .normal => evLoop keep body n r.2 | o => some (o, r.2)) = some r := he
    rw [obind_some] at he
    obtain ⟨r1, h1, h2⟩ := he
    obtain ⟨e, a1, w1, hq, harr⟩ := hb _ a w r1 h1 (hR.keep keep) b (.inLoop c :: k) cs hro trivial (room_wide _)
    obtain ⟨o1, s1⟩ := r1
    rcases hq with ⟨v, ch, hv, rfl⟩ | ⟨hx, hR1⟩
    · replace hv : o1 = .pan v := hv
      subst hv
      cases h2
      exact ⟨.panic ch, a1, w1, .inl ⟨v, ch, rfl, rfl⟩, .pass (x := .inLoop c) rfl (fun _ _ => .inl (by simp)) harr⟩
    · cases o1 with
      | normal =>
        have := xi_out hx rfl
        subst this
        obtain ⟨e2, a2, w2, hq2, harr2⟩ := ih s1 a1 w1 r h2 hR1 b k cs hro
        exact ⟨e2, a2, w2, hq2, .of_steps (StepsIn.trans harr (.one (fenced_calm (F := Fence.wide) (n := 0) (fr := b.atR a1 (.inLoop c :: k)) trivial (room_wide _) rfl) stepR_inLoop)) harr2⟩
      | exit id => cases h2; exact ⟨e, a1, w1, .inr ⟨hx, hR1⟩, .pass (x := .inLoop c) rfl (fun _ _ => .inl (xi_not hx (by simp))) harr⟩
      | ret => cases h2; exact ⟨e, a1, w1, .inr ⟨hx, hR1⟩, .pass (x := .inLoop c) rfl (fun _ _ => .inl (xi_not hx (by simp))) harr⟩
      | goto l => cases e <;> exact hx.elim
      | pan v => cases e <;> exact hx.elim

theorem itCode_ok (hE : EnvOk P E) (hr : RecOk P rec) (hrd : RdOk P φ0 S0 w0 rc L D rd) : ∀ (ac : AC) (c : Code), chkC P chk N ac c = true → COkI P φ0 S0 w0 rc N L D (evItCode E rec rd n ac) c := by
  intro ac
  induction ac with
  | skip =>
    intro c hk s a w r he hR
    cases he
    cases c with
    | skip => exact wpIn_skip (.inr ⟨trivial, hR⟩)
    | label l => exact wpIn_label (.inr ⟨trivial, hR⟩)
    | _ => cases hk
  | reg ol =>
    intro c hk s a w r he hR
    cases c with
    | region id ops d =>
      have hk1 : (!d && chkOpers P N ops ol ops.toList) = true := hk
      rw [Bool.and_eq_true, Bool.not_eq_true'] at hk1
      obtain ⟨rfl, hk2⟩ := hk1
      refine wpIn_region ?_
      obtain ⟨φ, S, R⟩ := hR
      have := evItOps_ok hE hr hrd ol 0 ops.toList rfl hk2 [0] φ S s a w r he (by simp) R
      rw [Array.length_toList] at this
      rwa [List.range_eq_range']
    | _ => cases hk
  | regd ol => intro c hk s a w r he; cases he
  | seq x y ihx ihy =>
    intro c hk s a w r he hR
    cases c with
    | seq x' y' =>
      have hk : (chkC P chk N x x' && chkC P chk N y y') = true := hk
      simp only [Bool.and_eq_true] at hk
      have he : (obind (evItCode E rec rd n x s) fun r => match r.1 with | .normal => evItCode E rec rd n y r.2 | o => some (o, r.2)) = some r := he
      rw [obind_some] at he
      obtain ⟨r1, h1, h2⟩ := he
      refine wpIn_seq (wpIn_mono (ihx x' hk.1 s a w r1 h1 hR) fun e a1 w1 hp => ?_)
      obtain ⟨o1, s1⟩ := r1
      rcases hp with ⟨v, ch, hv, rfl⟩ | ⟨hx, hR1⟩
      · replace hv : o1 = .pan v := hv
        subst hv
        cases h2
        exact .inl ⟨v, ch, rfl, rfl⟩
      · cases o1 <;> cases e <;> first | exact hx.elim | skip
        · exact ihy y' hk.2 s1 a1 w1 r h2 hR1
        all_goals
          cases h2
          exact .inr ⟨hx, hR1⟩
    | _ => cases hk
  | cond t x y ihx ihy =>
    intro c hk s a w r he hR
    cases c with
    | cond t' x' y' =>
      have hk : (chkOpd t t' && chkC P chk N x x' && chkC P chk N y y') = true := hk
      simp only [Bool.and_eq_true] at hk
      have he : (obind (asBool (t.ev s.F)) fun b => Bool.rec (evItCode E rec rd n y s) (evItCode E rec rd n x s) b) = some r := he
      rw [obind_some] at he
      obtain ⟨b, h1, h2⟩ := he
      obtain ⟨φ, S, R⟩ := hR
      have ht := chkOpd_sound hk.1.1 R.fr
      rw [asBool_some h1] at ht
      cases b with
      | true => exact wpIn_cond_true ht.bool_inv (ihx x' hk.1.2 s a w r h2 ⟨φ, S, R⟩)
      | false => exact wpIn_cond_false ht.bool_inv (ihy y' hk.2 s a w r h2 ⟨φ, S, R⟩)
    | _ => cases hk
  | block id x ih =>
    intro c hk s a w r he hR
    cases c with
    | block id' x' =>
      have hk1 : (id == id' && chkC P chk N x x') = true := hk
      clear hk
      simp only [Bool.and_eq_true, beq_iff_eq] at hk1
      obtain ⟨rfl, hk⟩ := hk1
      have he : (obind (evItCode E rec rd n x s) fun r => match r.1 with | .exit id' => bif Nat.beq id id' then some (.normal, r.2) else some (.exit id', r.2) | o => some (o, r.2)) = some r := he
      rw [obind_some] at he
      obtain ⟨r1, h1, h2⟩ := he
      refine wpIn_block (wpIn_mono (ih x' hk s a w r1 h1 hR) fun e a1 w1 hp => ?_)
      obtain ⟨o1, s1⟩ := r1
      rcases hp with ⟨v, ch, hv, rfl⟩ | ⟨hx, hR1⟩
      · replace hv : o1 = .pan v := hv
        subst hv
        cases h2
        exact .inl ⟨v, ch, rfl, rfl⟩
      · cases o1 <;> cases e <;> first | exact hx.elim | skip
        · cases h2; exact .inr ⟨hx, hR1⟩
        · rename_i i j
          have hij : i = j := hx
          subst hij
          have h2 : (bif Nat.beq id i then some (Out.normal, s1) else some (.exit i, s1)) = some r := h2
          show if i = id then _ else _
          by_cases e : i = id
          · subst e
            have hb : Nat.beq i i = true := Nat.beq_refl i
            rw [hb] at h2
            cases h2
            simp only [if_true]
            exact .inr ⟨trivial, hR1⟩
          · simp only [e, if_false]
            have hb : Nat.beq id i = false := by
              cases hb : Nat.beq id i with
              | false => rfl
              | true => exact absurd (Nat.eq_of_beq_eq_true hb).symm e
            rw [hb] at h2
            cases h2
            exact .inr ⟨rfl, hR1⟩
        all_goals
          cases h2
          exact .inr ⟨hx, hR1⟩
    | _ => cases hk
  | loop keep x ih =>
    intro c hk s a w r he hR
    cases c with
    | loop x' =>
      intro b k cs hro hb hr'
      obtain ⟨e, a', w', hq, harr⟩ := loopI_ok (ih x' hk) n s a w r he hR b k cs hro
      exact ⟨e, a', w', hq, .of_steps (.one (fenced_calm hb hr' rfl) stepR_loop) harr⟩
    | _ => cases hk
  | rf => intro c hk s a w r he; cases he
  | exit id =>
    intro c hk s a w r he hR
    cases he
    cases c with
    | exit id' =>
      have hk : (id == id') = true := hk
      simp only [beq_iff_eq] at hk
      exact wpIn_exit (.inr ⟨hk, hR⟩)
    | _ => cases hk
  | scope => intro c hk s a w r he; cases he
  | goto => intro c hk s a w r he; cases he
  | ret =>
    intro c hk s a w r he hR
    cases he
    cases c with
    | ret => exact wpIn_ret (.inr ⟨trivial, hR⟩)
    | _ => cases hk
  | kp l' x ih =>
    intro c hk s a w r he hR
    exact ih c hk _ a w r he (hR.keep l')
  | bad => intro c hk s a w r he; cases he
end
end Go.Am
namespace Go.Am
open Go

theorem setAll_rel {φ : Phi} {S : Sea} {w : World} : ∀ (ps : List Nat) (args : List AV) (vs : List Value) (F : Fr) (t : Array Value), FRel φ S w F t → args.length = vs.length → (∀ i, i < args.length → VR φ S w (args.getD i .bot) (vs.getD i undef)) →
    (∀ p ∈ ps, p < t.size) → FRel φ S w (setAll ps args F) ((ps.zip vs).foldl (fun t (p : Nat × Value) => t.setIfInBounds p.1 p.2) t) ∧ ((ps.zip vs).foldl (fun t (p : Nat × Value) => t.setIfInBounds p.1 p.2) t).size = t.size := by
  intro ps
  induction ps with
  | nil => intro args vs F t hf _ _ _; exact ⟨by cases args <;> exact hf, rfl⟩
  | cons p ps ih =>
    intro args vs F t hf hl hv hp
    cases args with
    | nil =>
      cases vs with
      | nil => exact ⟨hf, rfl⟩
      | cons => simp at hl
    | cons a args =>
      cases vs with
      | nil => simp at hl
      | cons v vs =>
        have h0 := hv 0 (by simp)
        simp only [List.getD_cons_zero] at h0
        have h1 : FRel φ S w (F.set p a) (t.setIfInBounds p v) := by
          have := FRel.put (a := { tmps := t, defers := [] }) (dst := some p) hf h0 (fun d h => by cases h; exact hp p (by simp))
          exact this
        have := ih args vs (F.set p a) (t.setIfInBounds p v) h1 (by simpa using hl) (fun i hi => by
          have := hv (i + 1) (by simpa using hi)
          simpa using this) (fun q hq => by simpa using hp q (by simp [hq]))
        exact ⟨this.1, by rw [List.zip_cons_cons, List.foldl_cons, this.2]; simp⟩

section
variable {P : Program} {E : Env} {rec : Rec} {chk : ChkD} {n N0 : Nat} {φ0 : Phi} {S0 : Sea} {w0 : World}

theorem outMk_some {o : Out} {m : AV × List AV} (h : outMk o = some m) : (∃ id, o = .exit id ∧ m = (.int .i64 (.ofNat id), [])) ∨ (o = .ret ∧ m = (.nilp, [])) := by
  cases o <;> simp [outMk] at h
  · exact .inl ⟨_, rfl, h.symm⟩
  · exact .inr ⟨rfl, h.symm⟩

theorem round_ok (hE : EnvOk P E) (hr : RecOk P rec) (hD : RegdOk P E rec chk) {x y : AC} {fn0 : FuncId} {T0 : Array Value} {ps : Array Tmp} {x' y' : Code} {F0 : Fr} {L D : Nat}
    (hx : chkR P chk N0 x x' = true) (hy : chkR P chk N0 y y' = true) (hF0 : FRel φ0 S0 w0 F0 T0) (hN0 : N0 ≤ T0.size) (hps : ∀ p ∈ ps.toList, p < N0) (hL : w0.heap.size ≤ L) (hLD : L ≠ D) :
    RdOk P φ0 S0 w0 (fun st pe => { state := st, pending := pe, fn := fn0, tmps := T0, params := ps, assign := x', body := y', defers := D }) L D (evRound (evCode E rec n x) (evCode E rec n y) F0 ps.toList) := by
  intro φ S w h args vs m h' he hx0 hc hv hlp hdm
  obtain ⟨rc, hrc⟩ : ∃ rc : LoopState → Option Code → Loop, rc = fun st pe => { state := st, pending := pe, fn := fn0, tmps := T0, params := ps, assign := x', body := y', defers := D } := ⟨_, rfl⟩
  rw [← hrc] at hlp ⊢
  unfold evRound at he
  rw [ogrd_some, obind_some] at he
  obtain ⟨hlen, r1, h1, h2⟩ := he
  have hlen' : ps.size = vs.size := by
    have := Nat.eq_of_beq_eq_true hlen
    rw [llen_eq, llen_eq] at this
    rw [hv.1, ← this]; simp
  have hyr := run_yield (P := P) (args := vs) hlp.at' (by rw [hrc]; exact hlen'.symm)
  obtain ⟨T, hT⟩ : ∃ T, ((rc .ready none).params.zip vs).foldl (fun tmps (t, a) => tmps.setIfInBounds t a) (rc .ready none).tmps = T := ⟨_, rfl⟩
  have hTr : FRel φ S w (setAll ps.toList args F0) T ∧ T.size = T0.size := by
    have := setAll_rel (φ := φ) (S := S) (w := w) ps.toList args vs.toList F0 T0 (hF0.ext hx0) (by simp [hv.1]) (fun i hi => by have := hv.2 i hi; simpa using this) (fun p hp => Nat.lt_of_lt_of_le (hps p hp) hN0)
    have e : T = (ps.toList.zip vs.toList).foldl (fun t (p : Nat × Value) => t.setIfInBounds p.1 p.2) T0 := by
      rw [← hT, hrc]
      simp only [← Array.foldl_toList, Array.toList_zip]
    rw [e]; exact this
  rw [hT] at hyr
  refine ⟨fn0, T, x', y', by rw [hyr, hrc], ?_⟩
  have hR0 : Rl 0 N0 φ S ⟨setAll ps.toList args F0, h, []⟩ { tmps := T, defers := [] } w := ⟨hc, hTr.1, by rw [hTr.2]; exact hN0, Nat.zero_le _⟩
  refine roundIn_of_wpIn trivial ?_
  obtain ⟨o1, s1⟩ := r1
  cases o1 with
  | normal =>
    replace h2 : (obind (evCode E rec n y s1) fun q => match q.1 with
      | .normal => some ([], q.2.h)
      | o => obind (outMk o) fun m => some ([m], q.2.h)) = some (m, h') := h2
    rw [obind_some] at h2
    obtain ⟨⟨o2, s2⟩, h3, h4⟩ := h2
    refine wpIn_mono (codeR_ok hE hr hD L x x' hx 0 φ S _ _ w _ h1 hR0) fun e a1 w1 hp => ?_
    obtain ⟨φ1, S1, g1, g2, g3⟩ := hp
    have := out_of g3 rfl
    subst this
    have hlp1 := hlp.ext g1
    have hdm1 := hdm.ext g1
    refine ⟨_, run_beginRound hlp1.at' (by rw [hrc]), ?_⟩
    obtain ⟨ob, hob⟩ : ∃ ob, Obj.loop { rc .ready none with state := .busy } = ob := ⟨_, rfl⟩
    have hob' : ob ≠ .deferred (some []) := by rw [← hob]; exact fun h => by cases h
    rw [hob]
    have hlp2 : Hid φ1 S1 (w1.putObj L ob) L ob := hlp1.put ob
    have hdm2 : Hid φ1 S1 (w1.putObj L ob) D (.deferred (some [])) := hdm1.other (fun e => hLD e.symm)
    have hR1 : Rl 0 N0 φ1 S1 s1 a1 (w1.putObj L ob) := g2.putL hlp1 (by simp) ob
    have hx1 : Ext φ0 S0 w0 φ1 S1 (w1.putObj L ob) := (hx0.trans g1).put hlp1.sea hL ob
    refine wpIn_mono (codeR_ok hE hr hD L y y' hy 0 φ1 S1 _ _ _ _ h3 hR1) fun e a2 w2 hp => ?_
    obtain ⟨φ2, S2, k1, k2, k3⟩ := hp
    have hlp3 := hlp2.ext k1
    have hdm3 := hdm2.ext k1
    have fin : ∀ (jump : Option Code) (d : List (AV × List AV)), pendOf d = jump → (if jump.isNone then LoopState.ready else .done) = stOf d → nilB d = jump.isNone →
        ∃ v w', (Instr.endRound L jump).run P w2 = .ok v w' ∧ Ending.returned v = .returned (.bool (nilB d)) ∧
          ∃ φ' S', Ext φ0 S0 w0 φ' S' w' ∧ Cpl φ' S' s2.h w' ∧ Hid φ' S' w' L (.loop (rc (stOf d) (pendOf d))) ∧ Hid φ' S' w' D (.deferred (some [])) ∧ ∀ F t, FRel φ S w F t → FRel φ' S' w' F t := by
      intro jump d e1 e2 e3
      have hlp4 := hlp3.at'
      rw [← hob] at hlp4
      have hrun := run_endRound (P := P) jump hlp4
      refine ⟨_, _, hrun, by rw [e3], φ2, S2, ?_, ?_, ?_, ?_, fun F t hf => ?_⟩
      · exact (hx1.trans k1).put hlp3.sea hL _
      · exact k2.cpl.putL hlp3 _
      · rw [← e2, e1]
        have := hlp3.put (.loop { { rc .ready none with state := .busy } with state := if jump.isNone then .ready else .done, pending := jump })
        rw [hrc] at this ⊢
        exact this
      · exact hdm3.other (fun e => hLD e.symm)
      · exact (((hf.ext g1).putL hlp1 ob).ext k1).putL hlp3 _
    cases o2 with
    | normal =>
      cases h4
      have := out_of k3 rfl
      subst this
      exact fin none [] rfl rfl rfl
    | exit id =>
      replace h4 : some ([((.int .i64 (.ofNat id) : AV), ([] : List AV))], s2.h) = some (m, h') := h4
      cases h4
      cases e with
      | exit j =>
        have hij : id = j := k3
        subst hij
        exact fin (some (.exit id)) [(.int .i64 (.ofNat id), [])] rfl rfl rfl
      | _ => exact k3.elim
    | goto l => cases h4
    | ret =>
      replace h4 : some ([((.nilp : AV), ([] : List AV))], s2.h) = some (m, h') := h4
      cases h4
      cases e with
      | ret => exact fin (some .ret) [(.nilp, [])] rfl rfl rfl
      | _ => exact k3.elim
    | pan v => cases h4
  | _ => cases h2

theorem rf_ok (hE : EnvOk P E) (hF : FnsOk P E chk) (hr : RecOk P rec) (hD : RegdOk P E rec chk) : RfOk P E rec chk n := by
  intro N f ps x y c hk B φ S s a w r he hR
  unfold chkRf at hk
  split at hk
  · rename_i g ps' x' y'
    simp only [Bool.and_eq_true, decide_eq_true_eq, List.all_eq_true] at hk
    obtain ⟨⟨⟨⟨hg, rfl⟩, hps⟩, hx⟩, hy⟩ := hk
    unfold evRf at he
    simp only [obind_some, ogrd_some] at he
    obtain ⟨⟨gf, q1, q2⟩, hfn, hq1, r1, h1, h2⟩ := he
    have hq1 : q1 = [] := nilB_eq hq1
    subst hq1
    have hgv := chkOpd_sound hg hR.fr
    rw [fnOf_some hfn] at hgv
    obtain ⟨va, vc, hgv, hva, hvc⟩ := hgv.fn_inv
    have hva0 : va = #[] := by
      have := hva.1
      simpa using this
    subst hva0
    refine wpIn_wide (n := 0).1 (wpIn_rangeFunc fun fn _ => ?_)
    rcases hF gf with hb | hkf
    · rw [hb] at h1; cases h1
    · obtain ⟨gfn, gc, hgf, hgc, hgn, hgrv, hgcc⟩ := chkFn_ok hkf
      have eg : ∀ args w, (callFunc gf args).run P w = .ok (.enter gf args) w := ent_run ⟨gfn, gc, hgf, hgc, hgn⟩
      obtain ⟨rc, hrc⟩ : ∃ rc : LoopState → Option Code → Loop, rc = fun st pe => { state := st, pending := pe, fn, tmps := a.tmps, params := ps', assign := x', body := y', defers := w.heap.size } := ⟨_, rfl⟩
      obtain ⟨W1, hW1⟩ : ∃ W1, (w.alloc (.deferred (some []))).alloc (.loop (rc .ready none)) = W1 := ⟨_, rfl⟩
      have hL1 : W1.heap[w.heap.size + 1]? = some (.loop (rc .ready none)) := by
        rw [← hW1]; have := World.alloc_heap_new (w.alloc (.deferred (some []))) (.loop (rc .ready none)); rwa [World.size_alloc] at this
      have hK1 : W1.heap[w.heap.size]? = some (.deferred (some [])) := by
        rw [← hW1]; exact (heap_push _ _ _ (by simp)).trans (World.alloc_heap_new w _)
      have hold : ∀ b, b < w.heap.size → W1.heap[b]? = w.heap[b]? := fun b hb => by
        rw [← hW1]; exact (heap_push _ _ _ (by simp; omega)).trans (heap_push _ _ _ hb)
      have hsz : W1.heap.size = w.heap.size + 2 := by rw [← hW1]; simp
      have hx1 : Ext φ S w φ S W1 := ⟨fun _ _ h => h, fun _ h => h, fun b hb => hold b (hR.cpl.sea b hb), fun b hb _ => hold b hb, by omega, fun b hb => .inl hb, fun id x h => .inl ⟨id, x, h, rfl⟩, by rw [← hW1]; rfl, by rw [← hW1]; rfl⟩
      have hc1 : Cpl φ S s.h W1 := hR.cpl.quiet hx1 hold (fun b hb => by have := hR.cpl.sea b hb; omega) (fun _ h => .inl h)
      have hidL : Hid φ S W1 (w.heap.size + 1) (.loop (rc .ready none)) := ⟨hL1, fun h => by have := hR.cpl.sea _ h; omega, fun id x h e => by have := hR.cpl.phi id x.1 x.2.1 x.2.2 h; omega⟩
      have hidD : Hid φ S W1 w.heap.size (.deferred (some [])) := ⟨hK1, fun h => by have := hR.cpl.sea _ h; omega, fun id x h e => by have := hR.cpl.phi id x.1 x.2.1 x.2.2 h; omega⟩
      refine ⟨w.heap.size + 1, [{ target := .collected w.heap.size, args := #[] }], W1, { target := .fn (.func gf) vc, args := #[.func (.yield (w.heap.size + 1)) #[] #[]] }, W1, gf,
        #[.func (.yield (w.heap.size + 1)) #[] #[]] ++ vc, W1, ?_, ?_, fun _ _ => trivial, ?_, fun h => by simp [Fence.wide] at h, ?_⟩
      · rw [← hW1, hrc]; exact run_enterLoop_outer _ _ _ _ _
      · simp only [resolve, hgv]
        simp [go_sem]
      · simp [invoke, go_sem, eg]
      · have hrd : RdOk P φ S w rc (w.heap.size + 1) w.heap.size (evRound (evCode E rec n x) (evCode E rec n y) s.F ps'.toList) := by
          rw [hrc]
          exact round_ok hE hr hD hx hy hR.fr hR.size (fun p hp => by simpa using hps p hp) (by omega) (by omega)
        refine callsIn_of_wp hgf hgc trivial ?_
        have hargs : VRs φ S W1 (.bot :: q2) (#[Value.func (.yield (w.heap.size + 1)) #[] #[]] ++ vc) := by
          have := (hvc.ext hx1)
          refine ⟨by simp [this.1]; omega, fun i hi => ?_⟩
          cases i with
          | zero => exact .bot _
          | succ i =>
            have h1 := this.2 i (by simpa using hi)
            have e : (#[Value.func (.yield (w.heap.size + 1)) #[] #[]] ++ vc).getD (i + 1) undef = vc.getD i undef := by
              simp [Array.getD_eq_getD_getElem?, Array.getElem?_append]
            rw [e]; simpa using h1
        have hIR : IR φ S w rc gfn.ntmps (w.heap.size + 1) w.heap.size ⟨initF (.bot :: q2), s.h, []⟩
            { tmps := (#[Value.func (.yield (w.heap.size + 1)) #[] #[]] ++ vc) ++ Array.replicate (gfn.ntmps - (#[Value.func (.yield (w.heap.size + 1)) #[] #[]] ++ vc).size) undef, defers := [] } W1 :=
          ⟨φ, S, hx1, hc1, initF_rel hargs _, by simp; omega, fun y hy => by
            rw [List.mem_singleton] at hy; subst hy
            simp [Array.getD_eq_getD_getElem?, Array.getElem?_append], rfl, hidL, hidD⟩
        refine wpIn_mono (itCode_ok hE hr hrd _ gc hgcc _ _ W1 r1 h1 hIR) fun e a2 w2 hp => ?_
        obtain ⟨o1, s1⟩ := r1
        have main : ∀ (e : Exit), (e = .normal ∨ e = .ret) → ogrd (nilB (E.fns gf).results) (match s1.d with
            | [] => some (Out.normal, (⟨s.F, s1.h, (.bot, []) :: s.d⟩ : St))
            | m :: _ => obind (mkOut m) fun o => some (o, ⟨s.F, s1.h, (.bot, []) :: s.d⟩)) = some r → IR φ S w rc gfn.ntmps (w.heap.size + 1) w.heap.size s1 a2 w2 →
            bodyPost P gfn (rangePost Fence.wide 0 P (w.heap.size + 1) (Po B N φ S w r) { a with defers := [{ target := .collected w.heap.size, args := #[] }] ++ a.defers }) e a2 w2 := by
          intro e he hm hI
          rw [ogrd_some] at hm
          obtain ⟨hres, hm⟩ := hm
          obtain ⟨φ2, S2, R⟩ := hI
          have hrs : resAll s1.h s1.F (E.fns gf).results = some [] := by rw [nilB_eq hres]; rfl
          obtain ⟨cv, k1, _⟩ := results_run hgrv hrs R.cpl R.fr
          have hend := run_endLoop (P := P) R.lp.at' (by rw [hrc]; show stOf s1.d ≠ .busy; unfold stOf; split <;> simp)
          have hpend : (rc (stOf s1.d) (pendOf s1.d)).pending = pendOf s1.d := by rw [hrc]
          obtain ⟨ob, hob⟩ : ∃ ob, Obj.loop { rc (stOf s1.d) (pendOf s1.d) with state := .exhausted } = ob := ⟨_, rfl⟩
          rw [hob, hpend] at hend
          have hRl : ∀ o, r = (o, ⟨s.F, s1.h, (.bot, []) :: s.d⟩) → Ext φ S w φ2 S2 (w2.putObj (w.heap.size + 1) ob) ∧ Rl B N φ2 S2 r.2 { a with defers := [{ target := .collected w.heap.size, args := #[] }] ++ a.defers } (w2.putObj (w.heap.size + 1) ob) := by
            rintro o rfl
            have hxe := R.ext.put R.lp.sea (by omega) ob
            refine ⟨hxe, R.cpl.putL R.lp ob, hR.fr.ext hxe, hR.size, ?_⟩
            have hdm := R.dm.other (r' := w.heap.size + 1) (o1 := ob) (by omega)
            refine ⟨.inr ⟨w.heap.size, rfl, rfl, ⟨hR.dfr.bound, hdm.at', hdm.sea, hdm.phi⟩, fun z hz hzr => ?_⟩, hR.dfr.ext hxe⟩
            obtain ⟨o1, k2, _⟩ := hR.dfr.marks z hz _ hzr
            have := (Array.getElem?_eq_some_iff.1 k2).1
            omega
          have hpost : rangePost Fence.wide 0 P (w.heap.size + 1) (Po B N φ S w r) { a with defers := [{ target := .collected w.heap.size, args := #[] }] ++ a.defers } (.returned cv) w2 := by
            refine ⟨_, _, hend, ?_⟩
            cases hsd : s1.d with
            | nil =>
              rw [hsd] at hm
              cases hm
              obtain ⟨k3, k4⟩ := hRl _ rfl
              exact ⟨φ2, S2, k3, k4, trivial⟩
            | cons m ms =>
              rw [hsd] at hm
              replace hm : (obind (mkOut m) fun o => some (o, (⟨s.F, s1.h, (.bot, []) :: s.d⟩ : St))) = some r := hm
              rw [obind_some] at hm
              obtain ⟨o, ho, hm⟩ := hm
              cases hm
              obtain ⟨k3, k4⟩ := hRl _ rfl
              have hp2 : pendOf (m :: ms) = some (outCode o) := by simp [pendOf, ho]
              rw [hp2]
              show (outCode o).wpIn Fence.wide 0 P _ _ _
              have ho' : (∃ id, o = .exit id) ∨ o = .ret := by
                unfold mkOut at ho
                split at ho
                · cases ho; exact .inl ⟨_, rfl⟩
                · cases ho; exact .inr rfl
                · cases ho
              rcases ho' with ⟨id, rfl⟩ | rfl
              · exact wpIn_exit ⟨φ2, S2, k3, k4, rfl⟩
              · exact wpIn_ret ⟨φ2, S2, k3, k4, trivial⟩
          rcases he with rfl | rfl
          · exact ⟨R.dfr, cv, k1, hpost⟩
          · exact ⟨R.dfr, cv, k1, hpost⟩
        rcases hp with ⟨v, ch, hv, rfl⟩ | ⟨hxi, hI⟩
        · replace hv : o1 = .pan v := hv
          subst hv
          cases h2
        · cases o1 with
          | normal => cases e <;> first | exact main _ (.inl rfl) h2 hI | exact hxi.elim
          | ret => cases e <;> first | exact main _ (.inr rfl) h2 hI | exact hxi.elim
          | _ => cases h2
  · cases hk
end
end Go.Am
namespace Go.Am
open Go

/-- what a deferred call's recover makes of the mode of the frame below -/
def recMode (v : Value) : FrameMode := .panicking [{ v, recovered := true }]

/-- a panic under way, and the mode of the frame -/
def PMode (φ : Phi) (S : Sea) (w : World) (p : Option AV) (u : FrameMode) : Prop :=
  (p = none ∧ u = .returning) ∨ ∃ v cv, p = some v ∧ VR φ S w v cv ∧ u = .panicking [{ v := cv, recovered := false }]

theorem PMode.ext {φ φ' : Phi} {S S' : Sea} {w w' : World} (h : Ext φ S w φ' S' w') {p : Option AV} {u : FrameMode} : PMode φ S w p u → PMode φ' S' w' p u
  | .inl h => .inl h
  | .inr ⟨v, cv, h1, h2, h3⟩ => .inr ⟨v, cv, h1, h2.ext h, h3⟩
theorem PMode.put {φ : Phi} {S : Sea} {w : World} {r : Nat} {o : Obj} (m : Hid φ S w r o) (o' : Obj) {p : Option AV} {u : FrameMode} : PMode φ S w p u → PMode φ S (w.putObj r o') p u
  | .inl h => .inl h
  | .inr ⟨v, cv, h1, h2, h3⟩ => .inr ⟨v, cv, h1, h2.put m o', h3⟩

/-- a deferred call does what is said of it -/
def DOk (P : Program) (f : FuncId) (args : List AV) (h : Heap) (p : Option AV) (h' : Heap) (rcd : Bool) : Prop :=
  Ent P f ∧ ∀ φ S w vs u, Cpl φ S h w → VRs φ S w args vs → PMode φ S w p u → CallsD P f vs u w fun e u' w' => (∃ v, e = .returned v) ∧ (bif rcd then settle u' = .returning else u' = u) ∧
    ∃ φ' S', Ext φ S w φ' S' w' ∧ Cpl φ' S' h' w'

section
variable {P : Program} {E : Env} {rec : Rec} {chk : ChkD} {n : Nat}

theorem Rl.start {φ : Phi} {S : Sea} {w : World} {h : Heap} {args : List AV} {vs : Array Value} (hc : Cpl φ S h w) (hv : VRs φ S w args vs) (N : Nat) :
    Rl w.heap.size N φ S ⟨initF args, h, []⟩ { tmps := vs ++ Array.replicate (N - vs.size) undef, defers := [] } w :=
  ⟨hc, initF_rel hv _, by simp; omega, Nat.le_refl _⟩

/-- what a deferred call's body comes to -/
noncomputable def endsD (rs : List ARV) (b : Bool) (r : Out × St) : Option (Heap × Bool) :=
  match r.1, r.2.d with
  | .normal, [] | .ret, [] => obind (resAll r.2.h r.2.F rs) fun _ => some (r.2.h, b)
  | _, _ => none

theorem endsD_some {rs : List ARV} {b b' : Bool} {r : Out × St} {h' : Heap} (h : endsD rs b r = some (h', b')) : (r.1 = .normal ∨ r.1 = .ret) ∧ r.2.d = [] ∧ b' = b ∧ r.2.h = h' ∧ ∃ vs, resAll h' r.2.F rs = some vs := by
  obtain ⟨o, F, hh, d⟩ := r
  have fin : ∀ {q : Heap × Bool}, (obind (resAll hh F rs) fun _ => some (hh, b)) = some q → q = (hh, b) ∧ ∃ vs, resAll hh F rs = some vs := by
    intro q hq
    rw [obind_some] at hq
    obtain ⟨vs, h1, h2⟩ := hq
    cases h2
    exact ⟨rfl, vs, h1⟩
  cases o <;> cases d <;> first | (cases h; done) | skip
  · obtain ⟨h1, h2⟩ := fin h
    cases h1
    exact ⟨.inl rfl, rfl, rfl, rfl, h2⟩
  · obtain ⟨h1, h2⟩ := fin h
    cases h1
    exact ⟨.inr rfl, rfl, rfl, rfl, h2⟩

theorem rcvOf_some {c : AC} {q : Nat × AC} (h : rcvOf c = some q) : ∃ ops rest, c = .seq (.reg (⟨some q.1, .rcv, none⟩ :: ops)) rest ∧ q.2 = .seq (.reg ops) rest := by
  unfold rcvOf at h
  split at h
  · cases h; exact ⟨_, _, rfl, rfl⟩
  · cases h

/-- operations that do not recover -/
theorem wpOpsS_of {ops : Array Oper} {Q : Exit → Act → List Frame → World → Prop} {cs : List Frame} (hQ : ¬ LetsOut (fun e a w => Q e a cs w)) : ∀ (is : List Nat) (a : Act) (w : World),
    wpOps P ops (fun e a w => Q e a cs w) is a w → wpOpsS P ops Q is a cs w
  | [], a, w, h => h
  | i :: is, a, w, h => by
    simp only [wpOpsS]
    simp only [wpOps] at h
    cases ho : ops[i]? with
    | none => rw [ho] at h; exact wpOpsS_of hQ is a w h
    | some o =>
      rw [ho] at h
      simp only [] at h ⊢
      split
      · rename_i hw
        rw [if_pos hw] at h
        rcases h with h | h
        · have h2 : o.wp P a w (fun a' w' => wpOpsS P ops Q is a' cs w') (fun e a' w' => Q e a' cs w') := Oper.wp_mono (fun a w h => wpOpsS_of hQ is a w h) h
          unfold Oper.wp at h2
          generalize (execOp a.eval o).run P w = x at h2
          split
          · exact h2.elim
          · exact h2
        · exact absurd h.2 hQ
      · rename_i hw
        rw [if_neg hw] at h
        exact wpOpsS_of hQ is _ w h

theorem isRcv {o : Op} (h : chkDo P .rcv o = true) : ∃ c, o = .call c ∧ c.callee = .builtin .recover ∧ c.args.size = 0 := by
  have h : chkOp P .rcv o = true := h
  unfold chkOp at h
  simp only [] at h
  split at h
  · simp only [Bool.and_eq_true, beq_iff_eq] at h
    exact ⟨_, rfl, isB_callee h.1, h.2⟩
  · cases h

theorem wpOps_post {ops : Array Oper} {Q Q' : Exit → Act → World → Prop} (hq : ∀ e a w, Q e a w → Q' e a w) : ∀ (is : List Nat) (a : Act) (w : World), wpOps P ops Q is a w → wpOps P ops Q' is a w
  | [], a, w, h => hq _ _ _ h
  | i :: is, a, w, h => by
    simp only [wpOps] at h ⊢
    cases ho : ops[i]? with
    | none => rw [ho] at h; exact wpOps_post hq is a w h
    | some o =>
      rw [ho] at h
      simp only [] at h ⊢
      have hl : LetsOut Q → LetsOut Q' := fun ⟨a, w, h⟩ => ⟨a, w, hq _ _ _ h⟩
      split
      · rename_i hw
        rw [if_pos hw] at h
        rcases h with h | h
        · refine .inl ?_
          have h2 : o.wp P a w (wpOps P ops Q' is) Q := Oper.wp_mono (fun a w h => wpOps_post hq is a w h) h
          unfold Oper.wp at h2 ⊢
          generalize (execOp a.eval o).run P w = x at h2
          cases x with
          | ok x w' =>
            cases x <;> first
              | exact h2
              | exact Calls.mono h2 (fun e w'' he => by cases e <;> first | exact hq _ _ _ he | exact hl he | exact he)
          | halt x w' => cases x <;> first | exact hq _ _ _ h2 | exact h2
        · exact .inr ⟨h.1, hl h.2⟩
      · rename_i hw
        rw [if_neg hw] at h
        exact wpOps_post hq is _ w h

theorem runD_ok (hE : EnvOk P E) (hF : FnsOk P E chk) (hr : RecOk P rec) (hD : RegdOk P E rec chk) {f : Nat} {args : List AV} {h h' : Heap} {p : Option AV} {rcd : Bool} (he : runD E rec n f args h p = some (h', rcd)) : DOk P f args h p h' rcd := by
  have hRf : RfOk P E rec chk n := rf_ok hE hF hr hD
  have he : Option.rec (motive := fun _ => Option (Heap × Bool))
    (obind (evCode E rec n (E.fns f).body ⟨initF args, h, []⟩) fun r => endsD (E.fns f).results false r)
    (fun q => obind (evCode E rec n q.2 ⟨(initF args).set q.1 (p.getD .nili), h, []⟩) fun r => endsD (E.fns f).results p.isSome r)
    (rcvOf (E.fns f).body) = some (h', rcd) := he
  rcases hF f with hb | hk
  · rw [hb] at he
    have he : (obind (evCode E rec n .bad ⟨initF args, h, []⟩) fun r => endsD (E.fns f).results false r) = some (h', rcd) := he
    cases he
  · obtain ⟨fn, c, hf, hc, hn, hrv, hcc⟩ := chkFn_ok hk
    refine ⟨⟨fn, c, hf, hc, hn⟩, fun φ S w vs u hcpl hv hp => ?_⟩
    cases hrc : rcvOf (E.fns f).body with
    | none =>
      rw [hrc] at he
      replace he : (obind (evCode E rec n (E.fns f).body ⟨initF args, h, []⟩) fun r => endsD (E.fns f).results false r) = some (h', rcd) := he
      rw [obind_some] at he
      obtain ⟨r, h1, h2⟩ := he
      obtain ⟨e1, e2, rfl, e4, rv, hrv'⟩ := endsD_some h2
      refine CallsD.mono (callsD_of_wp (R := fun e w' => (∃ v, e = .returned v) ∧ ∃ φ' S', Ext φ S w φ' S' w' ∧ Cpl φ' S' h' w') hf hc ?_) (fun e u' w' h => ⟨h.2.1, h.1, h.2.2⟩)
      refine wp_mono (code_ok hE hr hD hRf (E.fns f).body c hcc _ φ S _ _ w r h1 (Rl.start hcpl hv fn.ntmps)) fun e a1 w1 hp => ?_
      obtain ⟨φ1, S1, x1, x2, x3⟩ := hp
      have hd := x2.dfr
      rw [e2] at hd
      have hcp := x2.cpl
      rw [e4] at hcp
      obtain ⟨cv, g1, g2⟩ := results_run hrv hrv' hcp x2.fr
      rcases e1 with e1 | e1 <;> rw [e1] at x3 <;> cases e <;> first | exact x3.elim | exact ⟨dfr_none hd, cv, g1, ⟨cv, rfl⟩, φ1, S1, x1, hcp⟩
    | some q =>
      rw [hrc] at he
      replace he : (obind (evCode E rec n q.2 ⟨(initF args).set q.1 (p.getD .nili), h, []⟩) fun r => endsD (E.fns f).results p.isSome r) = some (h', rcd) := he
      rw [obind_some] at he
      obtain ⟨r, h1, h2⟩ := he
      obtain ⟨e1, e2, rfl, e4, rv, hrv'⟩ := endsD_some h2
      obtain ⟨ops, rest, hbody, hq2⟩ := rcvOf_some hrc
      rw [hbody] at hcc
      rw [hq2] at h1
      -- the code
      cases c with
      | seq x y =>
        have hcc : (chkC P chk fn.ntmps (.reg (⟨some q.1, .rcv, none⟩ :: ops)) x && chkC P chk fn.ntmps rest y) = true := hcc
        rw [Bool.and_eq_true] at hcc
        obtain ⟨hx, hy⟩ := hcc
        cases x with
        | region id rops d =>
          have hx1 : (!d && chkOpers P fn.ntmps rops (⟨some q.1, .rcv, none⟩ :: ops) rops.toList) = true := hx
          rw [Bool.and_eq_true, Bool.not_eq_true'] at hx1
          obtain ⟨rfl, hx2⟩ := hx1
          obtain ⟨o, os, hro⟩ : ∃ o os, rops.toList = o :: os := by
            cases hl : rops.toList with
            | nil => rw [hl] at hx2; cases hx2
            | cons o os => exact ⟨o, os, rfl⟩
          rw [hro] at hx2
          have hx3 : (chkOper P fn.ntmps rops ⟨some q.1, .rcv, none⟩ o && chkOpers P fn.ntmps rops ops os) = true := hx2
          simp only [chkOper, Bool.and_eq_true] at hx3
          obtain ⟨⟨⟨hd, hg⟩, hop⟩, hl⟩ := hx3
          obtain ⟨hd1, hd2⟩ := chkDst_ok hd
          obtain ⟨cc, hoc, hcal, hca⟩ := isRcv hop
          have hguard : o.guard = none := by
            simp only [chkG] at hg
            split at hg
            · assumption
            · rename_i h1 _; cases h1
            · cases hg
          have ho0 : rops[0]? = some o := by
            have h0 : rops.toList[0]? = some o := by rw [hro]; rfl
            simpa using h0
          have hos : rops.toList.drop 1 = os := by rw [hro]; rfl
          have hsz : rops.size = os.length + 1 := by rw [← Array.length_toList, hro]; rfl
          have hexec : ∀ (a : Act) (w : World), (execOp a.eval o).run P w = .ok .recover w := by
            intro a w
            have hae : cc.args = #[] := Array.eq_empty_of_size_eq_zero hca
            simp [execOp, hoc, resolve, hcal, invoke, builtin, hae]
          -- the frame below
          have hmode : ∃ u' cv, (∀ (c₀ : Frame) (cs : List Frame), c₀.mode = u → (match recoverD (c₀ :: cs) with | some (v, cs') => v = cv ∧ cs' = { c₀ with mode := u' } :: cs | none => cv = .nilIface ∧ c₀ = { c₀ with mode := u' })) ∧
              VR φ S w (p.getD .nili) cv ∧ (bif p.isSome then settle u' = .returning else u' = u) := by
            rcases hp with ⟨rfl, rfl⟩ | ⟨v, cv, rfl, hv, rfl⟩
            · exact ⟨.returning, .nilIface, fun c₀ cs hm => by simp only [recoverD, hm]; exact ⟨trivial, by rw [← hm]⟩, .nili, rfl⟩
            · exact ⟨recMode cv, cv, fun c₀ cs hm => by simp only [recoverD, hm]; exact ⟨trivial, rfl⟩, hv, rfl⟩
          obtain ⟨u', cv, hrecv, hcv, hu'⟩ := hmode
          refine callsD_of_wpS hf hc fun c₀ cs hm => ?_
          have h1 : (obind (evOps E rec ops ⟨(initF args).set q.1 (p.getD .nili), h, []⟩) fun r => match r.1 with | .normal => evCode E rec n rest r.2 | o => some (o, r.2)) = some r := h1
          rw [obind_some] at h1
          obtain ⟨r1, h3, h4⟩ := h1
          have hst := Rl.start hcpl hv fn.ntmps
          have hst1 : Rl w.heap.size fn.ntmps φ S ⟨(initF args).set q.1 (p.getD .nili), h, []⟩ (({ tmps := vs ++ Array.replicate (fn.ntmps - vs.size) undef, defers := [] } : Act).put o.dst cv) w := by
            have hd1' : o.dst = some q.1 := hd1.symm
            refine ⟨hst.cpl, ?_, by rw [put_size]; exact hst.size, by rw [put_dfr]; exact hst.dfr⟩
            have := hst.fr.put (a := ({ tmps := vs ++ Array.replicate (fn.ntmps - vs.size) undef, defers := [] } : Act)) (dst := some q.1) hcv (fun d h => Nat.lt_of_lt_of_le (hd2 d (by rw [hd1']; exact h)) hst.size)
            rw [hd1']; exact this
          have hreg := evOps_ok (φ0 := φ) (S0 := S) (w0 := w) hE hr ops 1 os hos hl φ S _ _ w h3 (Ext.refl _ _ _) hst1
          refine wpS_seq (wpS_region ?_)
          have hrange : List.range rops.size = 0 :: List.range' 1 os.length := by
            rw [hsz, List.range_eq_range', List.range'_succ]
          rw [hrange]
          simp only [wpOpsS, ho0]
          have hw1 : Region.wanted o (yielded rops (vs ++ Array.replicate (fn.ntmps - vs.size) undef)) = true := by simp [Region.wanted, hguard]
          rw [if_pos hw1, hexec]
          simp only []
          -- behind the recover
          have rest_ok : ∀ (r1 : Out × St), r1 = r1 → (match r1.1 with | .normal => evCode E rec n rest r1.2 | o => some (o, r1.2)) = some r → ∀ e a1 w1, Po w.heap.size fn.ntmps φ S w r1 e a1 w1 →
              Exit.thenS (y.wpS P (bodyPostS P fn c₀ cs fun e u' w' => (∃ v, e = .returned v) ∧ (bif p.isSome then settle u' = .returning else u' = u) ∧ ∃ φ' S', Ext φ S w φ' S' w' ∧ Cpl φ' S' h' w'))
                (bodyPostS P fn c₀ cs fun e u' w' => (∃ v, e = .returned v) ∧ (bif p.isSome then settle u' = .returning else u' = u) ∧ ∃ φ' S', Ext φ S w φ' S' w' ∧ Cpl φ' S' h' w') e a1 ({ c₀ with mode := u' } :: cs) w1 := by
            intro r1 _ h4 e a1 w1 hpo
            obtain ⟨φ1, S1, x1, x2, x3⟩ := hpo
            have fin : ∀ (r2 : Out × St), r2 = r → ∀ e a2 w2, Po w.heap.size fn.ntmps φ1 S1 w1 r2 e a2 w2 → bodyPostS P fn c₀ cs (fun e u' w' => (∃ v, e = .returned v) ∧ (bif p.isSome then settle u' = .returning else u' = u) ∧ ∃ φ' S', Ext φ S w φ' S' w' ∧ Cpl φ' S' h' w') e a2 ({ c₀ with mode := u' } :: cs) w2 := by
              rintro r2 rfl e a2 w2 ⟨φ2, S2, y1, y2, y3⟩
              have hd := y2.dfr
              rw [e2] at hd
              have hcp := y2.cpl
              rw [e4] at hcp
              obtain ⟨cv', g1, g2⟩ := results_run hrv hrv' hcp y2.fr
              rcases e1 with e1 | e1 <;> rw [e1] at y3 <;> cases e <;> first | exact y3.elim | exact ⟨dfr_none hd, u', rfl, cv', g1, ⟨cv', rfl⟩, hu', φ2, S2, x1.trans y1, hcp⟩
            obtain ⟨o1, s1⟩ := r1
            cases o1 with
            | normal =>
              have := out_of x3 rfl
              subst this
              exact wpS_of_wp (wp_mono (code_ok hE hr hD hRf rest y hy _ φ1 S1 s1 a1 w1 r h4 x2) fun e a w hp => fin r rfl e a w hp)
            | _ =>
              have hne := not_out x3 (by simp)
              have hr2 := fin _ (by cases h4; rfl) e a1 w1 ⟨φ1, S1, Ext.refl _ _ _, x2, x3⟩
              cases e with
              | normal => exact absurd rfl hne
              | _ => exact hr2
          have hcall : wpOpsS P rops (Exit.thenS (y.wpS P (bodyPostS P fn c₀ cs fun e u' w' => (∃ v, e = .returned v) ∧ (bif p.isSome then settle u' = .returning else u' = u) ∧ ∃ φ' S', Ext φ S w φ' S' w' ∧ Cpl φ' S' h' w'))
                (bodyPostS P fn c₀ cs fun e u' w' => (∃ v, e = .returned v) ∧ (bif p.isSome then settle u' = .returning else u' = u) ∧ ∃ φ' S', Ext φ S w φ' S' w' ∧ Cpl φ' S' h' w')) (List.range' 1 os.length)
                (({ tmps := vs ++ Array.replicate (fn.ntmps - vs.size) undef, defers := [] } : Act).put o.dst cv) ({ c₀ with mode := u' } :: cs) w := by
            refine wpOpsS_of ?_ _ _ _ (wpOps_post (fun e a1 w1 hpo => rest_ok r1 rfl h4 e a1 w1 hpo) _ _ _ hreg)
            rintro ⟨a, w', u'', hb, _⟩
            exact absurd hb (by rintro ⟨v, h⟩; cases h)
          have hh := hrecv c₀ cs hm
          split
          · rename_i v cs' hv'
            rw [hv'] at hh
            obtain ⟨rfl, rfl⟩ := hh
            exact hcall
          · rename_i hv'
            rw [hv'] at hh
            obtain ⟨rfl, hc0⟩ := hh
            rw [hc0]
            exact hcall
        | _ => cases hx
      | _ => cases hcc

theorem isMark_some {x : AV × List AV} (h : isMark x = true) : x = (.bot, []) := by
  unfold isMark at h
  split at h
  · rfl
  · cases h

theorem invoke_fn {f : FuncId} (hent : Ent P f) (vc as : Array Value) (w : World) : (invoke (.fn (.func f) vc) as).run P w = .ok (.enter f (as ++ vc)) w := by
  simp only [invoke]
  exact ent_run hent _ w

/-- on the way out, from a mode, with deferred calls -/
def LvOk (P : Program) (fn : Func) (tmps : Array Value) (R : Ending → World → Prop) (ds : List Deferred) (u : FrameMode) (w : World) : Prop :=
  ∀ (fr : Frame) (cs : List Frame), fr.mode = u → fr.defers = ds → fr.tmps = tmps → P.funcs[fr.fn]? = some fn → fr.kind = .normal →
    ∃ e w' fr', R e w' ∧ Comes P (lone fr cs w) (lone fr' cs w') e ∧ fr'.fn = fr.fn ∧ fr'.leaving P w' e

theorem lv_nil {fn : Func} {tmps : Array Value} {R : Ending → World → Prop} {u : FrameMode} {w : World} (h : Leaves P fn tmps R [] u w) : LvOk P fn tmps R [] u w :=
  fun fr cs h1 h2 h3 h4 h5 => leaves_steps [] u w fr cs h1 h2 h3 h4 h5 h

theorem lv_mark {fn : Func} {tmps : Array Value} {R : Ending → World → Prop} {u : FrameMode} {w w' : World} {r : Nat} {ds : List Deferred} (hu : u ≠ .run) (hk : (Instr.takeDeferred r).run P w = .ok [] w')
    (h : LvOk P fn tmps R ds u w') : LvOk P fn tmps R (⟨.collected r, #[]⟩ :: ds) u w := by
  intro fr cs h1 h2 h3 h4 h5
  obtain ⟨e, w2, fr2, g1, g2, g3, g4⟩ := h { fr with defers := ds } cs h1 rfl h3 h4 h5
  exact ⟨e, w2, fr2, g1, .of_steps (.one (step_collected (cs := cs) (h1 ▸ hu) h2 rfl hk)) g2, g3, g4⟩

theorem lv_call {fn : Func} {tmps : Array Value} {R : Ending → World → Prop} {u : FrameMode} {w : World} {f : FuncId} {vc as : Array Value} {ds : List Deferred} (hu : u ≠ .run) (hent : Ent P f)
    (h : CallsD P f (as ++ vc) u w fun e u' w' => (∃ v, e = .returned v) ∧ LvOk P fn tmps R ds (settle u') w') : LvOk P fn tmps R (⟨.fn (.func f) vc, as⟩ :: ds) u w := by
  intro fr cs h1 h2 h3 h4 h5
  have s1 := step_defer (P := P) (cs := cs) (w := w) (h1 ▸ hu) h2 rfl (invoke_fn hent vc as w)
  obtain ⟨e, u', w1, frX, ⟨⟨v, rfl⟩, hl⟩, hst, hk, hg⟩ := h { fr with defers := ds } cs h1
  have s2 := step_going_returned (c := { { fr with defers := ds } with mode := u' }) (cs := cs) hk hg
  obtain ⟨e, w2, fr2, g1, g2, g3, g4⟩ := hl { { fr with defers := ds } with mode := settle u' } cs rfl rfl h3 h4 h5
  exact ⟨e, w2, fr2, g1, .of_steps (.head s1 (Steps.trans hst (.one s2))) g2, g3, g4⟩

def lvPost (P : Program) (fn : Func) (R : Ending → World → Prop) : Exit → Act → World → Prop
  | .normal, a, w | .ret, a, w => LvOk P fn a.tmps R a.defers .returning w
  | .panic ch, a, w => LvOk P fn a.tmps R a.defers (.panicking ch) w
  | _, _, _ => False

theorem calls_of_lv {f : FuncId} {fn : Func} {c : Code} {args : Array Value} {w : World} {R : Ending → World → Prop} (hf : P.funcs[f]? = some fn) (hb : fn.body = some c)
    (h : c.wp P (lvPost P fn R) { tmps := args ++ Array.replicate (fn.ntmps - args.size) undef, defers := [] } w) : Calls P f args w R := by
  intro cs
  obtain ⟨b, hb1⟩ : ∃ b : Frame, b = { (default : Frame) with fn := f, kind := .normal } := ⟨_, rfl⟩
  have hbf : b.fn = f ∧ b.kind = .normal ∧ b.roundOf = none := by rw [hb1]; exact ⟨rfl, rfl, rfl⟩
  have hin : Frame.enter P f args .normal = b.at { tmps := args ++ Array.replicate (fn.ntmps - args.size) undef, defers := [] } [.code c] := by
    simp [Frame.enter, Frame.at, hf, hb, hb1]
  rw [hin]
  obtain ⟨e, a1, w1, hq, harr⟩ := h b [] cs
  have go : ∀ (todo : List Item) (u : FrameMode), LvOk P fn a1.tmps R a1.defers u w1 →
      Steps P (lone (b.at { tmps := args ++ Array.replicate (fn.ntmps - args.size) undef, defers := [] } [.code c]) cs w) (lone { b.at a1 todo with mode := u } cs w1) →
      ∃ e w' fr, R e w' ∧ Comes P (lone (b.at { tmps := args ++ Array.replicate (fn.ntmps - args.size) undef, defers := [] } [.code c]) cs w) (lone fr cs w') e ∧ fr.fn = f ∧ fr.leaving P w' e := by
    intro todo u hl hs
    obtain ⟨e, w2, fr2, g1, g2, g3, g4⟩ := hl { b.at a1 todo with mode := u } cs rfl rfl rfl (by show P.funcs[b.fn]? = _; rw [hbf.1]; exact hf) hbf.2.1
    exact ⟨e, w2, fr2, g1, .of_steps hs g2, g3.trans hbf.1, g4⟩
  cases e with
  | normal => exact go [] .returning hq (Steps.trans harr (.one step_end))
  | ret => obtain ⟨todo, hs⟩ := harr; exact go todo .returning hq hs
  | panic ch => obtain ⟨todo, hs⟩ := harr; exact go todo (.panicking ch) hq hs
  | _ => exact hq.elim

theorem leave_ok {recD : Nat → List AV → Heap → Option AV → Option (Heap × Bool)} (hrd : ∀ f args h p h' b, recD f args h p = some (h', b) → DOk P f args h p h' b) {fn : Func} {rs : List ARV} (hrv : chkRvs P rs fn.results.toList = true)
    {F : Fr} {tmps : Array Value} {rr : ARes} {hE : Heap} {φ0 : Phi} {S0 : Sea} {w0 : World} :
    ∀ (d : List (AV × List AV)) (ds : List Deferred) (p : Option AV) (h : Heap) (φ : Phi) (S : Sea) (w : World) (u : FrameMode), leave recD rs F d p h = some (rr, hE) → Ext φ0 S0 w0 φ S w → Cpl φ S h w → FRel φ S w F tmps →
      DRel w0.heap.size φ S w d ds → PMode φ S w p u →
      LvOk P fn tmps (fun e w' => ∃ φ' S', Ext φ0 S0 w0 φ' S' w' ∧ Cpl φ' S' hE w' ∧ ResR φ' S' w' rr e) ds u w := by
  intro d
  induction d with
  | nil =>
    intro ds p h φ S w u he hx hc hf hd hu
    have := dfr_none hd
    subst this
    refine lv_nil ?_
    rcases hu with ⟨rfl, rfl⟩ | ⟨v, cv, rfl, hv, rfl⟩
    · have he : (obind (resAll h F rs) fun vs => some (ARes.ret (oneOf vs), h)) = some (rr, hE) := he
      rw [obind_some] at he
      obtain ⟨vs, h1, h2⟩ := he
      cases h2
      obtain ⟨cv, g1, g2⟩ := results_run hrv h1 hc hf
      exact ⟨cv, g1, φ, S, hx, hc, cv, rfl, g2⟩
    · have he : some (ARes.pan v, h) = some (rr, hE) := he
      cases he
      exact ⟨φ, S, hx, hc, cv, rfl, hv⟩
  | cons x d ih =>
    intro ds p h φ S w u he hx hc hf hd hu
    cases ds with
    | nil => exact hd.elim
    | cons y ds =>
      have hrun : u ≠ .run := by rcases hu with ⟨_, rfl⟩ | ⟨_, _, _, _, rfl⟩ <;> simp
      have he : Bool.rec (motive := fun _ => Option (ARes × Heap)) (obind (fnOf x.1) fun q => obind (recD q.1 (lapp (lapp q.2.1 x.2) q.2.2) h p) fun r => leave recD rs F d (bif r.2 then none else p) r.1) (leave recD rs F d p h) (isMark x) = some (rr, hE) := he
      obtain ⟨hxy, hds⟩ := hd
      rcases hxy with ⟨f, a, c, va, vc, vs, h1, h2, h3, h4, h5⟩ | ⟨r, rfl, rfl, hm, hno⟩
      · cases hmk : isMark x with
        | true => rw [isMark_some hmk] at h1; cases h1
        | false =>
          rw [hmk] at he
          replace he : (obind (fnOf x.1) fun q => obind (recD q.1 (lapp (lapp q.2.1 x.2) q.2.2) h p) fun r => leave recD rs F d (bif r.2 then none else p) r.1) = some (rr, hE) := he
          rw [obind_some] at he
          obtain ⟨q, hq, he⟩ := he
          rw [h1] at hq
          cases hq
          rw [obind_some] at he
          obtain ⟨⟨h', b⟩, hh', he⟩ := he
          obtain ⟨hent, hcall⟩ := hrd _ _ _ _ _ _ hh'
          rw [h2]
          refine lv_call hrun hent ((hcall φ S w _ u hc ((h3.app h5).app h4) hu).mono ?_)
          rintro e u' w' ⟨hv, hu', φ', S', x1, x2⟩
          refine ⟨hv, ?_⟩
          cases b with
          | true =>
            rw [show settle u' = .returning from hu']
            exact ih ds none h' φ' S' w' .returning he (hx.trans x1) x2 (hf.ext x1) (hds.ext x1) (.inl ⟨rfl, rfl⟩)
          | false =>
            have hu' : u' = u := hu'
            subst hu'
            have hs : settle u' = u' := by rcases hu with ⟨_, rfl⟩ | ⟨_, _, _, _, rfl⟩ <;> rfl
            rw [hs]
            exact ih ds p h' φ' S' w' u' he (hx.trans x1) x2 (hf.ext x1) (hds.ext x1) (hu.ext x1)
      · have he : leave recD rs F d p h = some (rr, hE) := he
        have hid : Hid φ S w r (.deferred (some [])) := ⟨hm.at', hm.sea, hm.phi⟩
        refine lv_mark hrun (run_takeDeferred hm.at') ?_
        exact ih ds p h φ S _ u he (hx.put hm.sea hm.ge _) (hc.putL hid _) (hf.putL hid _) (hds.putL hid _ hno) (hu.put hid _)

theorem runFn_ok (hE : EnvOk P E) (hF : FnsOk P E chk) (hr : RecOk P rec) (hD : RegdOk P E rec chk) {f : Nat} {args : List AV} {h h' : Heap} {rr : ARes} (he : runFn E rec n f args h = some (rr, h')) :
    CallOk P f args h rr h' := by
  have hRf : RfOk P E rec chk n := rf_ok hE hF hr hD
  unfold runFn at he
  rw [obind_some] at he
  obtain ⟨r, h1, h2⟩ := he
  rcases hF f with hb | hk
  · rw [hb] at h1; cases h1
  · obtain ⟨fn, c, hf, hc, hn, hrv, hcc⟩ := chkFn_ok hk
    refine ⟨⟨fn, c, hf, hc, hn⟩, fun φ S w vs hcpl hv => calls_of_lv hf hc ?_⟩
    refine wp_mono (code_ok hE hr hD hRf (E.fns f).body c hcc _ φ S _ _ w r h1 (Rl.start hcpl hv fn.ntmps)) fun e a1 w1 hp => ?_
    obtain ⟨φ1, S1, x1, x2, x3⟩ := hp
    obtain ⟨o1, F1, h1', d1⟩ := r
    have hrd : ∀ f args h p h' b, runD E rec n f args h p = some (h', b) → DOk P f args h p h' b := fun f args h p h' b h0 => runD_ok hE hF hr hD h0
    cases o1 <;> cases e <;> first | exact x3.elim | skip
    · exact leave_ok hrd hrv d1 a1.defers none h1' φ1 S1 w1 .returning h2 x1 x2.cpl x2.fr x2.dfr (.inl ⟨rfl, rfl⟩)
    · cases h2
    · cases h2
    · exact leave_ok hrd hrv d1 a1.defers none h1' φ1 S1 w1 .returning h2 x1 x2.cpl x2.fr x2.dfr (.inl ⟨rfl, rfl⟩)
    · obtain ⟨cv, rfl, hv⟩ := x3
      exact leave_ok hrd hrv d1 a1.defers (some _) h1' φ1 S1 w1 _ h2 x1 x2.cpl x2.fr x2.dfr (.inr ⟨_, cv, rfl, hv, rfl⟩)

theorem ev_ok (hE : EnvOk P E) (hF : FnsOk P E chk) (hD : ∀ rec, RecOk P rec → RegdOk P E rec chk) : ∀ n, RecOk P (ev E n) := by
  intro n
  induction n with
  | zero => intro f args h r h' he; cases he
  | succ n ih =>
    intro f args h r h' he
    have he : Option.rec (motive := fun _ => Option (ARes × Heap)) (runFn E (ev E n) n f args h) (fun g => g args h) (E.sum f) = some (r, h') := he
    cases hs : E.sum f with
    | none =>
      rw [hs] at he
      exact runFn_ok hE hF ih (hD _ ih) he
    | some g =>
      rw [hs] at he
      exact hE.sum f g hs _ _ _ _ he
end
end Go.Am
namespace Go.Am
open Go

/-- all of a trie; local index k stands for a + s * k -/
def TrAll {α : Type} (p : Nat → α → Prop) : Nat → Nat → Tr α → Prop
  | _, _, .e => True
  | a, s, .n v l r => p a v ∧ TrAll p (a + s) (2 * s) l ∧ TrAll p (a + 2 * s) (2 * s) r

theorem TrAll.get {α : Type} {p : Nat → α → Prop} {d : α} (hd : ∀ f, p f d) : ∀ (t : Tr α) (a s : Nat), TrAll p a s t → ∀ k, p (a + s * k) (Tr.get d t k) := by
  intro t
  induction t with
  | e => intro a s _ k; exact hd _
  | n v l r ihl ihr =>
    intro a s h k
    obtain ⟨h1, h2, h3⟩ := h
    rw [Tr.get_n]
    cases k with
    | zero => simpa using h1
    | succ j =>
      by_cases e : j % 2 = 1
      · simp only [e, if_true]
        have := ihr _ _ h3 (j / 2)
        have e2 : a + 2 * s + 2 * s * (j / 2) = a + s * (j + 1) := by
          have : j + 1 = 2 * (j / 2) + 2 := by omega
          rw [this, Nat.mul_add, ← Nat.mul_assoc, Nat.mul_comm s 2]; omega
        rw [e2] at this; exact this
      · simp only [e, if_false]
        have := ihl _ _ h2 (j / 2)
        have e2 : a + s + 2 * s * (j / 2) = a + s * (j + 1) := by
          have : j + 1 = 2 * (j / 2) + 1 := by omega
          rw [this, Nat.mul_add, ← Nat.mul_assoc, Nat.mul_comm s 2]; omega
        rw [e2] at this; exact this

theorem fnsOk_of_tr {P : Program} {E : Env} {chk : ChkD} {t : Tr AFn} {d : AFn} (h : E.fns = Tr.get d t) (hd : d.body = .bad) (ht : TrAll (fun f af => af.body = .bad ∨ chkFn P chk f af = true) 0 1 t) : FnsOk P E chk := by
  intro f
  rw [h]
  have := TrAll.get (d := d) (fun _ => .inl hd) t 0 1 ht f
  simpa using this

/-- no summaries -/
noncomputable def Env.plain (t : Tr AFn) (d : AFn) : Env := ⟨Tr.get d t, fun _ => none, fun _ => none⟩
end Go.Am
namespace Go.Am
open Go

/-- where a byte is first, from a place on -/
noncomputable def idxF (c : Nat) (l : List Nat) : Nat → AV :=
  List.rec (motive := fun _ => Nat → AV) (fun _ => .int .i64 (.negSucc 0)) (fun b _ ih i => Bool.rec (ih (Nat.add i 1)) (.int .i64 (.ofNat i)) (Nat.beq b c)) l
noncomputable def gIdx : List AV → Option ARes
  | [.str s, .int .u8 (.ofNat c)] => ogrd (Nat.blt c 256) (some (.ret (idxF c s 0)))
  | _ => none
/-- strings with another one between -/
noncomputable def joinF (sep : List Nat) (l : List AV) : Option (List Nat) :=
  List.rec (some []) (fun a r ih => obind (asStr a) fun s => List.rec (motive := fun _ => Option (List Nat)) (some s) (fun _ _ _ => obind ih fun t => some (lapp s (lapp sep t))) r) l
noncomputable def gJoin : List AV → Option ARes
  | [.nils, .str _] => some (.ret (.str []))
  | [.es _, .str _] => some (.ret (.str []))
  | [.ps _ len cs, .str sep] => ogrd (Nat.ble len (llen cs)) (ogrd (Nat.blt len 1000000) (obind (joinF sep (ltake cs len)) fun s => ogrd (Nat.blt (llen s) 1000000) (some (.ret (.str s)))))
  | _ => none
end Go.Am
namespace Go.Am
open Go

noncomputable def lendL (h : Heap) (l : List AV) : Option (List AV) :=
  List.rec (some []) (fun c _ r => obind (lend h 40 c) fun c => obind r fun r => some (c :: r)) l
/-- a result as one that is not written any more -/
noncomputable def lendV (h : Heap) (v : AV) : Option AV :=
  match v with
  | .tup l => obind (lendL h l) fun l => some (.tup l)
  | v => lend h 40 v
noncomputable def sealR (o : Option (ARes × Heap)) : Option ARes :=
  obind o fun r => match r.1 with
    | .ret v => obind (lendV r.2 v) fun v => some (.ret v)
    | .pan _ => none
noncomputable def keyEq : List AV → List AV → Bool := fun a => List.rec (motive := fun _ => List AV → Bool) (fun b => List.rec true (fun _ _ _ => false) b)
  (fun x _ r b => List.rec (motive := fun _ => Bool) false (fun y b' _ => Bool.rec false (r b') (avEq 40 x y)) b) a
noncomputable def memoG (tab : List (List AV × ARes)) (args : List AV) : Option ARes :=
  List.rec none (fun p _ ih => Bool.rec ih (some p.2) (keyEq p.1 args)) tab

/-- one call, of arguments that are not written -/
def MemoOk (P : Program) (f : FuncId) (args : List AV) (r : ARes) : Prop :=
  Ent P f ∧ ∀ S w vs, (∀ b, S b → b < w.heap.size) → GOk S w → VRs Phi.no S w args vs → Calls P f vs w fun e w' => ∃ S', Ext Phi.no S w Phi.no S' w' ∧ (∀ b, S' b → b < w'.heap.size) ∧ ResR Phi.no S' w' r e

theorem keyEq_sound : ∀ (a b : List AV), keyEq a b = true → a = b := by
  intro a
  induction a with
  | nil => intro b h; cases b with
    | nil => rfl
    | cons y b => cases (show false = true from h)
  | cons x a ih => intro b h; cases b with
    | nil => cases (show false = true from h)
    | cons y b =>
      have h : (Bool.rec (motive := fun _ => Bool) false (keyEq a b) (avEq 40 x y) : Bool) = true := h
      cases hx : avEq 40 x y with
      | false => rw [hx] at h; cases (show false = true from h)
      | true => rw [hx] at h; rw [avEq_sound 40 x y hx, ih b h]

theorem memoG_ok {P : Program} {f : FuncId} {tab : List (List AV × ARes)} (h : ∀ p ∈ tab, MemoOk P f p.1 p.2) : PurOk P f (memoG tab) := by
  intro args r he
  induction tab with
  | nil => cases he
  | cons p tab ih =>
    have he : (Bool.rec (motive := fun _ => Option ARes) (memoG tab args) (some p.2) (keyEq p.1 args) : Option ARes) = some r := he
    cases hk : keyEq p.1 args with
    | false => rw [hk] at he; exact ih (fun q hq => h q (List.mem_cons_of_mem _ hq)) he
    | true =>
      rw [hk] at he
      cases (show some p.2 = some r from he)
      have := h p (List.mem_cons_self ..)
      rw [keyEq_sound _ _ hk] at this
      exact this

theorem cpl_empty (S : Sea) (w : World) (hS : ∀ b, S b → b < w.heap.size) (hG : GOk S w) : Cpl Phi.no S Heap.empty w where
  obj := fun id h => absurd (by first | exact Heap.get_empty id | rfl) h
  inj := fun id id' b x y x' y' h => absurd (by first | exact Heap.get_empty id | rfl) h
  sea := hS
  gl := hG
  phi := fun id b x y h => by cases h
  fresh := fun id _ => rfl

theorem lendV_ok {φ : Phi} {S : Sea} {h : Heap} {w : World} (hc : Cpl φ S h w) (x x' : AV) (v : Value) (he : lendV h x = some x') (hv : VR φ S w x v) : VR Phi.no (lentS φ S h) w x' v := by
  unfold lendV at he
  split at he
  · rename_i l
    rw [obind_some] at he
    obtain ⟨r, hr, he⟩ := he
    cases he
    obtain ⟨h1, h2⟩ := lrec_opt (f := lend h 40) l r hr
    cases hv with
    | tup cs vs hn hrr => exact .tup r vs (by rw [h1]; exact hn) (fun i hi => lend_ok hc 40 _ _ _ (h2 i (by omega)) (hrr i (by omega)))
  · exact lend_ok hc 40 _ _ _ he hv

/-- a run makes an entry -/
theorem memo_of_run {P : Program} {f : FuncId} {args : List AV} {o : Option (ARes × Heap)} {r : ARes} (hrun : ∀ r' h', o = some (r', h') → CallOk P f args Heap.empty r' h') (he : sealR o = some r) : MemoOk P f args r := by
  unfold sealR at he
  rw [obind_some] at he
  obtain ⟨⟨r0, h'⟩, ho, he⟩ := he
  obtain ⟨hent, hcall⟩ := hrun _ _ ho
  refine ⟨hent, fun S w vs hS hG hv => ?_⟩
  refine (hcall Phi.no S w vs (cpl_empty S w hS hG) hv).mono fun e w' ⟨φ', S', hx, hc, hres⟩ => ?_
  cases r0 with
  | pan v => cases (show (none : Option ARes) = some r from he)
  | ret v =>
    have he : (obind (lendV h' v) fun v => some (ARes.ret v)) = some r := he
    rw [obind_some] at he
    obtain ⟨v', hv', he⟩ := he
    cases he
    obtain ⟨cv, e1, e2⟩ := hres
    refine ⟨lentS φ' S' h', ⟨fun _ _ h => h, fun b hb => .inl (hx.sea b hb), hx.keep, hx.foot, hx.size, fun b hb => ?_, fun id x h => absurd h (by intro h; cases h), hx.os, hx.out⟩, fun b hb => ?_, ⟨cv, e1, lendV_ok hc _ _ _ hv' e2⟩⟩
    · rcases hb with hb | ⟨id, x, y, _, hb⟩
      · exact hx.newS b hb
      · rcases hx.newP id _ hb with ⟨_, _, h, _⟩ | h
        · cases h
        · exact .inr (.inr h)
    · rcases hb with hb | ⟨id, x, y, _, hb⟩
      · exact hc.sea b hb
      · exact hc.phi id b x y hb
end Go.Am
