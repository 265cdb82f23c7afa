import Derived.Test.YtnacifjcjnhgpaaGreatDoorFGlob
import Derived.Test.YtnacifjcjnhgpaaGreatDoorDvB
import Derived.Test.YtnacifjcjnhgpaaGreatDoorTie
import Derived.Test.YtnacifjcjnhgpaaGreatDoorCards
import Derived.ProofKit
import Derived.LaidMore
import Derived.Lay
import Derived.OpenShut
import Derived.Stop.Joined
set_option linter.all false
set_option maxRecDepth 100000
set_option maxHeartbeats 400000000
namespace Go.Proofs.YtnacifjcjnhgpaaGreatDoor
open Go Go.Am Go.ChangeShapes Go.WideShapes Go.ChangeAt Go.RowKit

theorem vrs_two {w : World} (a : Int) (b : Int) (S : Sea) : VRs Phi.no S w [.int .i64 a, .int .i64 b] #[.int .i64 a, .int .i64 b] :=
  ⟨rfl, fun i hi => match i, hi with
    | 0, _ => .int _ _
    | 1, _ => .int _ _⟩
theorem ext_kept {S S' : Sea} {φ' : Phi} {w w' : World} (h : Ext Phi.no S w φ' S' w') (may : MemPlace → Prop) : w.keptBut w' may := by
  refine ⟨h.os, h.out, fun i hi => ?_⟩
  rw [h.foot i hi (fun _ _ hh => by cases hh)]
  split <;> simp_all
theorem own : ownKnob Tryz.prog.godebug = none := by kernel_rfl
noncomputable def nh : List (String × DataW Unit) := Rows.driveFaultsRow.laid.filter fun x => x.2.handleName?.isNone
noncomputable def witW (os : Os) : World := (World.doorLaid Tryz.prog 400 os).layVars Tryz.prog nh
theorem witW_met (os : Os) (args : Array Value) : laidMetH Tryz.prog Rows.driveFaultsRow.laid ((witW os).forCall (fun _ _ => 0) ⟨#[], args, []⟩).memory := by
  refine laidMetH_of_parts3 (fuel := 8) ?_ (by as_aux_lemma => kernel_rfl) (by as_aux_lemma => kernel_rfl)
  refine laidMet_layVars (w0 := World.doorLaid Tryz.prog 400 os) (nh.map (·.1)) [] ?_ (by as_aux_lemma => kernel_rfl) (by as_aux_lemma => kernel_rfl) ?_
  · have e1 : ((Rows.driveFaultsRow.laid.filter fun x => x.2.handleName?.isNone).filter fun x => (nh.map (·.1)).contains x.1) = nh := by kernel_rfl
    rw [e1]
    simp [World.memory, World.forCall, Input.heap, witW]
  · have e2 : ((Rows.driveFaultsRow.laid.filter fun x => x.2.handleName?.isNone).filter fun x => !(nh.map (·.1)).contains x.1) = [] := by kernel_rfl
    rw [e2]; exact LaidIn.none

end Go.Proofs.YtnacifjcjnhgpaaGreatDoor
