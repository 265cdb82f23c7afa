import Derived.Test.YtpcijpelimgnmaaGreatDoorDvB
import Derived.Test.YtpcijpelimgnmaaGreatDoorTie
import Derived.Test.YtpcijpelimgnmaaGreatDoorCards
import Derived.ProofKit
import Derived.LaidMore
import Derived.Lay
import Derived.OpenShut
import Derived.Stop.Joined
set_option linter.all false
set_option maxRecDepth 100000
set_option maxHeartbeats 400000000
namespace Go.Proofs.YtpcijpelimgnmaaGreatDoor
open Go Go.Am Go.ChangeShapes Go.WideShapes Go.ChangeAt Go.RowKit

theorem vrs_two {w : World} (a : Int) (b : Int) (S : Sea) : VRs Phi.no S w [.int .i64 a, .int .i64 b] #[.int .i64 a, .int .i64 b] :=
  ⟨rfl, fun i hi => match i, hi with
    | 0, _ => .int _ _
    | 1, _ => .int _ _⟩
theorem ext_kept {S S' : Sea} {φ' : Phi} {w w' : World} (h : Ext Phi.no S w φ' S' w') (may : MemPlace → Prop) : w.keptBut w' may := by
  refine ⟨h.os, h.out, fun i hi => ?_⟩
  rw [h.foot i hi (fun _ _ hh => by cases hh)]
  split <;> simp_all
theorem own : ownKnob Tryz.prog.godebug = none := by kernel_rfl
noncomputable def nh : List (String × DataW Unit) := Rows.driveScopesRow.laid.filter fun x => x.2.handleName?.isNone
noncomputable def witW (os : Os) : World := (World.doorLaid Tryz.prog 400 os).layVars Tryz.prog nh
theorem witW_met (os : Os) (args : Array Value) : laidMetH Tryz.prog Rows.driveScopesRow.laid ((witW os).forCall (fun _ _ => 0) ⟨#[], args, []⟩).memory := by
  refine laidMetH_of_parts3 (fuel := 8) ?_ (by as_aux_lemma => kernel_rfl) (by as_aux_lemma => kernel_rfl)
  refine laidMet_layVars (w0 := World.doorLaid Tryz.prog 400 os) (nh.map (·.1)) [] ?_ (by as_aux_lemma => kernel_rfl) (by as_aux_lemma => kernel_rfl) ?_
  · have e1 : ((Rows.driveScopesRow.laid.filter fun x => x.2.handleName?.isNone).filter fun x => (nh.map (·.1)).contains x.1) = nh := by kernel_rfl
    rw [e1]
    simp [World.memory, World.forCall, Input.heap, witW]
  · have e2 : ((Rows.driveScopesRow.laid.filter fun x => x.2.handleName?.isNone).filter fun x => !(nh.map (·.1)).contains x.1) = [] := by kernel_rfl
    rw [e2]; exact LaidIn.none

theorem driveScopes_lifted (hlaw : ∀ (a : Int) (b : Int), ∃ h', CallOk Tryz.prog 4 [.int .i64 a, .int .i64 b] Heap.empty (.ret (.bool true)) h') (os : Os) (started : os.Started) (H : Type) (enc : TypeId × Value → H) :
    ReturnsInHanded {} Tryz.checked os 4 .any (fun w args => (Rows.driveScopesSpec.pre enc Tryz.prog Tryz.f4 [] false w args ∧ laidMetH Tryz.prog Rows.driveScopesRow.laid w) ∧ sizedMet enc Tryz.prog Tryz.f4 (OpenSpec.ofChange Rows.driveScopesSpec) false w args)
      (Rows.driveScopesSpec.post enc Tryz.prog Tryz.f4 false true false false) := by
  refine returnsInHanded_of_change_and (C := Tryz.checked) (X := fun w _ => laidMetH Tryz.prog Rows.driveScopesRow.laid w) (fun _ _ _ hh h => h.of_heap hh) own started (by as_aux_lemma => kernel_rfl) Tryz.func4
    (ChangeSpec.witness_shaped (enc := enc) (C := Tryz.checked) (os := os) (X := fun w _ => laidMetH Tryz.prog Rows.driveScopesRow.laid w) false (witW os) #[.int .i64 0, .int .i64 0] 8 (by rfl)
      (World.shaped_of_ZipB (by as_aux_lemma => kernel_rfl) (by as_aux_lemma => kernel_rfl)) (by as_aux_lemma => kernel_rfl) (by as_aux_lemma => kernel_rfl) (by as_aux_lemma => kernel_rfl) (witW_met os _)) ?_
  intro W base args ds gs before hval0 hW _ _ hL _
  have hval : ∀ (j : Nat) t v, Tryz.f4.params[j]? = some t → args[j]? = some v → Value.okWide Tryz.prog W .any base t v := hval0
  have hW' := hW
  obtain ⟨p, q, hA0, hV, rfl, _, _⟩ := hW
  have hA : DataW.TrodAll enc Tryz.prog W 0 (fun _ => true) true Tryz.f4.params.toList args.toList ds p := hA0
  rw [Tryz.params4] at hA hval
  obtain ⟨v0, v1, d0, d1, p0, p1, rfl, rfl, rfl, h0, h1⟩ := trodAll_two hA
  obtain ⟨rfl, rfl⟩ := trodVars_none hV
  obtain ⟨a, rfl, rfl, rfl, wa⟩ := open_int Tryz.underlying3 (hval 0 3 v0 rfl rfl) h0
  obtain ⟨b, rfl, rfl, rfl, wb⟩ := open_int Tryz.underlying3 (hval 1 3 v1 rfl rfl) h1
  simp only [List.append_nil] at hW'
  obtain ⟨h', hent, hc⟩ := hlaw a b
  have hcall := hc Phi.no (fun _ => False) W #[.int .i64 a, .int .i64 b] (cpl_empty _ _ (fun _ h => h.elim)) (vrs_two a b _)
  refine hcall.mono fun e W' ⟨φ', S', hx, _, hres⟩ => ?_
  obtain ⟨cv, he, hv⟩ := hres
  cases hv
  subst he
  exact ⟨_, rfl, _, _, _, [], [], [], hW', trodAll_mk1 (shut_bool Tryz.underlying4 _), trodAll_mk2 (shut_int Tryz.underlying3 wa) (shut_int Tryz.underlying3 wb), rfl, ext_kept hx _, fun h => by cases h⟩

end Go.Proofs.YtpcijpelimgnmaaGreatDoor
