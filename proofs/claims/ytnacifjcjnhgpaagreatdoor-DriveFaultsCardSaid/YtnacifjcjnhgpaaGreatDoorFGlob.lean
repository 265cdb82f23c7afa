import Derived.Test.YtnacifjcjnhgpaaGreatDoorRows
import Derived.Test.YtnacifjcjnhgpaaGreatDoorAmF
import Derived.LaidLaws
import Derived.LaidHandle
import Derived.LaidSub
import Derived.ProofKit
set_option linter.all false
set_option maxRecDepth 100000
set_option maxHeartbeats 400000000
namespace Go.Proofs.YtnacifjcjnhgpaaGreatDoor
open Go Go.Am Go.RowKit
theorem gl_et : Tryz.prog.globalNamed "errors.errorType" = some 4 := by kernel_rfl
theorem gl_rt : (Tryz.prog.cutTypes.find? (·.1 == "internal/reflectlite.rtype")).map (·.2) = some 445 := by kernel_rfl
theorem gl_one : ((List.range 503).filter fun t => Tryz.prog.rowNamed t [101, 114, 114, 111, 114]) = [130] := by kernel_rfl
theorem gl_size : Tryz.prog.types.size = 503 := by kernel_rfl
theorem gl_handle : typeHandle Tryz.prog 130 = .pointer (some ⟨9, 130, none⟩) := by kernel_rfl
theorem glob_cell {W : World} (h : laidMetH Tryz.prog Rows.driveFaultsRow.laid W) : W.cell? ⟨4, 0, none⟩ = some (.iface 445 (.agg #[.pointer (some ⟨9, 130, none⟩)])) := by
  obtain ⟨_, h2⟩ := laidMetH_iff.1 h
  have hm : (("errors.errorType", Rows.laid_errors_errorType) : String × DataW Unit) ∈ Rows.driveFaultsRow.laid := .tail _ (.tail _ (.tail _ (.tail _ (.head _))))
  obtain ⟨name, u, ty, e1, e2, e3, e4, e5⟩ := h2 _ (List.mem_filter.2 ⟨hm, rfl⟩)
  have en : name = [101, 114, 114, 111, 114] := (Option.some.inj e1).symm
  subst en
  obtain rfl := Option.some.inj (gl_rt.symm.trans e2)
  have hm : ty ∈ (List.range 503).filter fun t => Tryz.prog.rowNamed t [101, 114, 114, 111, 114] := List.mem_filter.2 ⟨List.mem_range.2 (by rw [← gl_size]; exact e3), e4⟩
  rw [gl_one] at hm
  obtain rfl := List.mem_singleton.1 hm
  rw [gl_handle] at e5
  simpa using World.var?_cell gl_et e5 0
theorem glob_ok {W : World} (h : laidMetH Tryz.prog Rows.driveFaultsRow.laid W) : GOk (fun b => b = 4) W := fun p hp => by
  obtain rfl := List.mem_singleton.1 hp
  exact ⟨rfl, glob_cell h⟩
theorem glob_sea {W : World} (h : laidMetH Tryz.prog Rows.driveFaultsRow.laid W) : ∀ b, b = 4 → b < W.heap.size := fun b hb => by
  subst hb
  have hg := glob_cell h
  rcases Nat.lt_or_ge 4 W.heap.size with h | h
  · exact h
  · simp [World.cell?, Array.getElem?_eq_none h] at hg
end Go.Proofs.YtnacifjcjnhgpaaGreatDoor
