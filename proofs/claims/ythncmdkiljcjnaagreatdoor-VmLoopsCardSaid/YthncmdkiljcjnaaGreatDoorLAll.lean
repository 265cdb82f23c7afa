import Derived.Test.YthncmdkiljcjnaaGreatDoorLMem
import Derived.Test.YthncmdkiljcjnaaGreatDoorLCase0
import Derived.Test.YthncmdkiljcjnaaGreatDoorLCase1
import Derived.Test.YthncmdkiljcjnaaGreatDoorLCase2
import Derived.Test.YthncmdkiljcjnaaGreatDoorLCase3
import Derived.Test.YthncmdkiljcjnaaGreatDoorLCase4
import Derived.Test.YthncmdkiljcjnaaGreatDoorLCase5
import Derived.Test.YthncmdkiljcjnaaGreatDoorLCase6
import Derived.Test.YthncmdkiljcjnaaGreatDoorLCase7
import Derived.Test.YthncmdkiljcjnaaGreatDoorLCase8
import Derived.Test.YthncmdkiljcjnaaGreatDoorLCase9
import Derived.Test.YthncmdkiljcjnaaGreatDoorLCase10
import Derived.Test.YthncmdkiljcjnaaGreatDoorLCase11
import Derived.Test.YthncmdkiljcjnaaGreatDoorLCase12
import Derived.Test.YthncmdkiljcjnaaGreatDoorLCase13
import Derived.Test.YthncmdkiljcjnaaGreatDoorLCase14
set_option linter.all false
set_option maxRecDepth 100000
namespace Go.Am
open Go Go.Proofs
theorem k5_0_0 : Good5 0 0 := ⟨_, _, _, _, (mem_cons' m21_0 (mem_cons' m21_1 (mem_cons' m21_2 (fun x hx => by cases hx)))), (mem_cons' m22_0 (mem_cons' m22_1 (mem_cons' m22_2 (fun x hx => by cases hx)))), (mem_cons' m23_0 (mem_cons' m23_1 (mem_cons' m23_2 (fun x hx => by cases hx)))), (mem_cons' m65_0 (mem_cons' m65_1 (fun x hx => by cases hx))), c5_0_0⟩
theorem k5_0_1 : Good5 0 1 := ⟨_, _, _, _, (mem_cons' m21_0 (mem_cons' m21_6 (mem_cons' m21_2 (fun x hx => by cases hx)))), (mem_cons' m22_0 (mem_cons' m22_6 (mem_cons' m22_2 (fun x hx => by cases hx)))), (mem_cons' m23_0 (mem_cons' m23_6 (mem_cons' m23_2 (fun x hx => by cases hx)))), (mem_cons' m65_0 (mem_cons' m65_3 (fun x hx => by cases hx))), c5_0_1⟩
theorem k5_0_2 : Good5 0 2 := ⟨_, _, _, _, (mem_cons' m21_0 (mem_cons' m21_7 (mem_cons' m21_2 (fun x hx => by cases hx)))), (mem_cons' m22_0 (mem_cons' m22_7 (mem_cons' m22_2 (fun x hx => by cases hx)))), (mem_cons' m23_0 (mem_cons' m23_7 (mem_cons' m23_2 (fun x hx => by cases hx)))), (mem_cons' m65_0 (mem_cons' m65_4 (fun x hx => by cases hx))), c5_0_2⟩
theorem k5_0_3 : Good5 0 3 := ⟨_, _, _, _, (mem_cons' m21_0 (mem_cons' m21_8 (mem_cons' m21_2 (fun x hx => by cases hx)))), (mem_cons' m22_0 (mem_cons' m22_8 (mem_cons' m22_2 (fun x hx => by cases hx)))), (mem_cons' m23_0 (mem_cons' m23_8 (mem_cons' m23_2 (fun x hx => by cases hx)))), (mem_cons' m65_0 (mem_cons' m65_5 (fun x hx => by cases hx))), c5_0_3⟩
theorem k5_0_4 : Good5 0 4 := ⟨_, _, _, _, (mem_cons' m21_0 (mem_cons' m21_9 (mem_cons' m21_2 (fun x hx => by cases hx)))), (mem_cons' m22_0 (mem_cons' m22_9 (mem_cons' m22_2 (fun x hx => by cases hx)))), (mem_cons' m23_0 (mem_cons' m23_9 (mem_cons' m23_2 (fun x hx => by cases hx)))), (mem_cons' m65_0 (mem_cons' m65_6 (fun x hx => by cases hx))), c5_0_4⟩
theorem k5_0 (j : Nat) (hj : j < 5) : Good5 0 j := by
  match j, hj with
  | 0, _ => exact k5_0_0
  | 1, _ => exact k5_0_1
  | 2, _ => exact k5_0_2
  | 3, _ => exact k5_0_3
  | 4, _ => exact k5_0_4
  | (n + 5), h => exact absurd h (by omega)
theorem k5_1_0 : Good5 1 0 := ⟨_, _, _, _, (mem_cons' m21_10 (mem_cons' m21_11 (mem_cons' m21_2 (fun x hx => by cases hx)))), (mem_cons' m22_10 (mem_cons' m22_11 (mem_cons' m22_2 (fun x hx => by cases hx)))), (mem_cons' m23_10 (mem_cons' m23_11 (mem_cons' m23_2 (fun x hx => by cases hx)))), (mem_cons' m65_7 (mem_cons' m65_1 (fun x hx => by cases hx))), c5_1_0⟩
theorem k5_1_1 : Good5 1 1 := ⟨_, _, _, _, (mem_cons' m21_10 (mem_cons' m21_12 (mem_cons' m21_2 (fun x hx => by cases hx)))), (mem_cons' m22_10 (mem_cons' m22_12 (mem_cons' m22_2 (fun x hx => by cases hx)))), (mem_cons' m23_10 (mem_cons' m23_12 (mem_cons' m23_2 (fun x hx => by cases hx)))), (mem_cons' m65_7 (mem_cons' m65_3 (fun x hx => by cases hx))), c5_1_1⟩
theorem k5_1_2 : Good5 1 2 := ⟨_, _, _, _, (mem_cons' m21_10 (mem_cons' m21_13 (mem_cons' m21_2 (fun x hx => by cases hx)))), (mem_cons' m22_10 (mem_cons' m22_13 (mem_cons' m22_2 (fun x hx => by cases hx)))), (mem_cons' m23_10 (mem_cons' m23_13 (mem_cons' m23_2 (fun x hx => by cases hx)))), (mem_cons' m65_7 (mem_cons' m65_4 (fun x hx => by cases hx))), c5_1_2⟩
theorem k5_1_3 : Good5 1 3 := ⟨_, _, _, _, (mem_cons' m21_10 (mem_cons' m21_14 (mem_cons' m21_2 (fun x hx => by cases hx)))), (mem_cons' m22_10 (mem_cons' m22_14 (mem_cons' m22_2 (fun x hx => by cases hx)))), (mem_cons' m23_10 (mem_cons' m23_14 (mem_cons' m23_2 (fun x hx => by cases hx)))), (mem_cons' m65_7 (mem_cons' m65_5 (fun x hx => by cases hx))), c5_1_3⟩
theorem k5_1_4 : Good5 1 4 := ⟨_, _, _, _, (mem_cons' m21_10 (mem_cons' m21_15 (mem_cons' m21_2 (fun x hx => by cases hx)))), (mem_cons' m22_10 (mem_cons' m22_15 (mem_cons' m22_2 (fun x hx => by cases hx)))), (mem_cons' m23_10 (mem_cons' m23_15 (mem_cons' m23_2 (fun x hx => by cases hx)))), (mem_cons' m65_7 (mem_cons' m65_6 (fun x hx => by cases hx))), c5_1_4⟩
theorem k5_1 (j : Nat) (hj : j < 5) : Good5 1 j := by
  match j, hj with
  | 0, _ => exact k5_1_0
  | 1, _ => exact k5_1_1
  | 2, _ => exact k5_1_2
  | 3, _ => exact k5_1_3
  | 4, _ => exact k5_1_4
  | (n + 5), h => exact absurd h (by omega)
theorem k5_2_0 : Good5 2 0 := ⟨_, _, _, _, (mem_cons' m21_16 (mem_cons' m21_17 (mem_cons' m21_2 (fun x hx => by cases hx)))), (mem_cons' m22_16 (mem_cons' m22_17 (mem_cons' m22_2 (fun x hx => by cases hx)))), (mem_cons' m23_16 (mem_cons' m23_17 (mem_cons' m23_2 (fun x hx => by cases hx)))), (mem_cons' m65_8 (mem_cons' m65_1 (fun x hx => by cases hx))), c5_2_0⟩
theorem k5_2_1 : Good5 2 1 := ⟨_, _, _, _, (mem_cons' m21_16 (mem_cons' m21_18 (mem_cons' m21_2 (fun x hx => by cases hx)))), (mem_cons' m22_16 (mem_cons' m22_18 (mem_cons' m22_2 (fun x hx => by cases hx)))), (mem_cons' m23_16 (mem_cons' m23_18 (mem_cons' m23_2 (fun x hx => by cases hx)))), (mem_cons' m65_8 (mem_cons' m65_3 (fun x hx => by cases hx))), c5_2_1⟩
theorem k5_2_2 : Good5 2 2 := ⟨_, _, _, _, (mem_cons' m21_16 (mem_cons' m21_19 (mem_cons' m21_2 (fun x hx => by cases hx)))), (mem_cons' m22_16 (mem_cons' m22_19 (mem_cons' m22_2 (fun x hx => by cases hx)))), (mem_cons' m23_16 (mem_cons' m23_19 (mem_cons' m23_2 (fun x hx => by cases hx)))), (mem_cons' m65_8 (mem_cons' m65_4 (fun x hx => by cases hx))), c5_2_2⟩
theorem k5_2_3 : Good5 2 3 := ⟨_, _, _, _, (mem_cons' m21_16 (mem_cons' m21_20 (mem_cons' m21_2 (fun x hx => by cases hx)))), (mem_cons' m22_16 (mem_cons' m22_20 (mem_cons' m22_2 (fun x hx => by cases hx)))), (mem_cons' m23_16 (mem_cons' m23_20 (mem_cons' m23_2 (fun x hx => by cases hx)))), (mem_cons' m65_8 (mem_cons' m65_5 (fun x hx => by cases hx))), c5_2_3⟩
theorem k5_2_4 : Good5 2 4 := ⟨_, _, _, _, (mem_cons' m21_16 (mem_cons' m21_21 (mem_cons' m21_2 (fun x hx => by cases hx)))), (mem_cons' m22_16 (mem_cons' m22_21 (mem_cons' m22_2 (fun x hx => by cases hx)))), (mem_cons' m23_16 (mem_cons' m23_21 (mem_cons' m23_2 (fun x hx => by cases hx)))), (mem_cons' m65_8 (mem_cons' m65_6 (fun x hx => by cases hx))), c5_2_4⟩
theorem k5_2 (j : Nat) (hj : j < 5) : Good5 2 j := by
  match j, hj with
  | 0, _ => exact k5_2_0
  | 1, _ => exact k5_2_1
  | 2, _ => exact k5_2_2
  | 3, _ => exact k5_2_3
  | 4, _ => exact k5_2_4
  | (n + 5), h => exact absurd h (by omega)
theorem k5_3_0 : Good5 3 0 := ⟨_, _, _, _, (mem_cons' m21_22 (mem_cons' m21_23 (mem_cons' m21_2 (fun x hx => by cases hx)))), (mem_cons' m22_22 (mem_cons' m22_23 (mem_cons' m22_2 (fun x hx => by cases hx)))), (mem_cons' m23_22 (mem_cons' m23_23 (mem_cons' m23_2 (fun x hx => by cases hx)))), (mem_cons' m65_9 (mem_cons' m65_1 (fun x hx => by cases hx))), c5_3_0⟩
theorem k5_3_1 : Good5 3 1 := ⟨_, _, _, _, (mem_cons' m21_22 (mem_cons' m21_24 (mem_cons' m21_2 (fun x hx => by cases hx)))), (mem_cons' m22_22 (mem_cons' m22_24 (mem_cons' m22_2 (fun x hx => by cases hx)))), (mem_cons' m23_22 (mem_cons' m23_24 (mem_cons' m23_2 (fun x hx => by cases hx)))), (mem_cons' m65_9 (mem_cons' m65_3 (fun x hx => by cases hx))), c5_3_1⟩
theorem k5_3_2 : Good5 3 2 := ⟨_, _, _, _, (mem_cons' m21_22 (mem_cons' m21_25 (mem_cons' m21_2 (fun x hx => by cases hx)))), (mem_cons' m22_22 (mem_cons' m22_25 (mem_cons' m22_2 (fun x hx => by cases hx)))), (mem_cons' m23_22 (mem_cons' m23_25 (mem_cons' m23_2 (fun x hx => by cases hx)))), (mem_cons' m65_9 (mem_cons' m65_4 (fun x hx => by cases hx))), c5_3_2⟩
theorem k5_3_3 : Good5 3 3 := ⟨_, _, _, _, (mem_cons' m21_22 (mem_cons' m21_26 (mem_cons' m21_2 (fun x hx => by cases hx)))), (mem_cons' m22_22 (mem_cons' m22_26 (mem_cons' m22_2 (fun x hx => by cases hx)))), (mem_cons' m23_22 (mem_cons' m23_26 (mem_cons' m23_2 (fun x hx => by cases hx)))), (mem_cons' m65_9 (mem_cons' m65_5 (fun x hx => by cases hx))), c5_3_3⟩
theorem k5_3_4 : Good5 3 4 := ⟨_, _, _, _, (mem_cons' m21_22 (mem_cons' m21_27 (mem_cons' m21_2 (fun x hx => by cases hx)))), (mem_cons' m22_22 (mem_cons' m22_27 (mem_cons' m22_2 (fun x hx => by cases hx)))), (mem_cons' m23_22 (mem_cons' m23_27 (mem_cons' m23_2 (fun x hx => by cases hx)))), (mem_cons' m65_9 (mem_cons' m65_6 (fun x hx => by cases hx))), c5_3_4⟩
theorem k5_3 (j : Nat) (hj : j < 5) : Good5 3 j := by
  match j, hj with
  | 0, _ => exact k5_3_0
  | 1, _ => exact k5_3_1
  | 2, _ => exact k5_3_2
  | 3, _ => exact k5_3_3
  | 4, _ => exact k5_3_4
  | (n + 5), h => exact absurd h (by omega)
theorem k5_4_0 : Good5 4 0 := ⟨_, _, _, _, (mem_cons' m21_28 (mem_cons' m21_29 (mem_cons' m21_2 (fun x hx => by cases hx)))), (mem_cons' m22_28 (mem_cons' m22_29 (mem_cons' m22_2 (fun x hx => by cases hx)))), (mem_cons' m23_28 (mem_cons' m23_29 (mem_cons' m23_2 (fun x hx => by cases hx)))), (mem_cons' m65_10 (mem_cons' m65_1 (fun x hx => by cases hx))), c5_4_0⟩
theorem k5_4_1 : Good5 4 1 := ⟨_, _, _, _, (mem_cons' m21_28 (mem_cons' m21_30 (mem_cons' m21_2 (fun x hx => by cases hx)))), (mem_cons' m22_28 (mem_cons' m22_30 (mem_cons' m22_2 (fun x hx => by cases hx)))), (mem_cons' m23_28 (mem_cons' m23_30 (mem_cons' m23_2 (fun x hx => by cases hx)))), (mem_cons' m65_10 (mem_cons' m65_3 (fun x hx => by cases hx))), c5_4_1⟩
theorem k5_4_2 : Good5 4 2 := ⟨_, _, _, _, (mem_cons' m21_28 (mem_cons' m21_31 (mem_cons' m21_2 (fun x hx => by cases hx)))), (mem_cons' m22_28 (mem_cons' m22_31 (mem_cons' m22_2 (fun x hx => by cases hx)))), (mem_cons' m23_28 (mem_cons' m23_31 (mem_cons' m23_2 (fun x hx => by cases hx)))), (mem_cons' m65_10 (mem_cons' m65_4 (fun x hx => by cases hx))), c5_4_2⟩
theorem k5_4_3 : Good5 4 3 := ⟨_, _, _, _, (mem_cons' m21_28 (mem_cons' m21_32 (mem_cons' m21_2 (fun x hx => by cases hx)))), (mem_cons' m22_28 (mem_cons' m22_32 (mem_cons' m22_2 (fun x hx => by cases hx)))), (mem_cons' m23_28 (mem_cons' m23_32 (mem_cons' m23_2 (fun x hx => by cases hx)))), (mem_cons' m65_10 (mem_cons' m65_5 (fun x hx => by cases hx))), c5_4_3⟩
theorem k5_4_4 : Good5 4 4 := ⟨_, _, _, _, (mem_cons' m21_28 (mem_cons' m21_33 (mem_cons' m21_2 (fun x hx => by cases hx)))), (mem_cons' m22_28 (mem_cons' m22_33 (mem_cons' m22_2 (fun x hx => by cases hx)))), (mem_cons' m23_28 (mem_cons' m23_33 (mem_cons' m23_2 (fun x hx => by cases hx)))), (mem_cons' m65_10 (mem_cons' m65_6 (fun x hx => by cases hx))), c5_4_4⟩
theorem k5_4 (j : Nat) (hj : j < 5) : Good5 4 j := by
  match j, hj with
  | 0, _ => exact k5_4_0
  | 1, _ => exact k5_4_1
  | 2, _ => exact k5_4_2
  | 3, _ => exact k5_4_3
  | 4, _ => exact k5_4_4
  | (n + 5), h => exact absurd h (by omega)
theorem k5_5_0 : Good5 5 0 := ⟨_, _, _, _, (mem_cons' m21_34 (mem_cons' m21_35 (mem_cons' m21_2 (fun x hx => by cases hx)))), (mem_cons' m22_34 (mem_cons' m22_35 (mem_cons' m22_2 (fun x hx => by cases hx)))), (mem_cons' m23_34 (mem_cons' m23_35 (mem_cons' m23_2 (fun x hx => by cases hx)))), (mem_cons' m65_11 (mem_cons' m65_1 (fun x hx => by cases hx))), c5_5_0⟩
theorem k5_5_1 : Good5 5 1 := ⟨_, _, _, _, (mem_cons' m21_34 (mem_cons' m21_36 (mem_cons' m21_2 (fun x hx => by cases hx)))), (mem_cons' m22_34 (mem_cons' m22_36 (mem_cons' m22_2 (fun x hx => by cases hx)))), (mem_cons' m23_34 (mem_cons' m23_36 (mem_cons' m23_2 (fun x hx => by cases hx)))), (mem_cons' m65_11 (mem_cons' m65_3 (fun x hx => by cases hx))), c5_5_1⟩
theorem k5_5_2 : Good5 5 2 := ⟨_, _, _, _, (mem_cons' m21_34 (mem_cons' m21_37 (mem_cons' m21_2 (fun x hx => by cases hx)))), (mem_cons' m22_34 (mem_cons' m22_37 (mem_cons' m22_2 (fun x hx => by cases hx)))), (mem_cons' m23_34 (mem_cons' m23_37 (mem_cons' m23_2 (fun x hx => by cases hx)))), (mem_cons' m65_11 (mem_cons' m65_4 (fun x hx => by cases hx))), c5_5_2⟩
theorem k5_5_3 : Good5 5 3 := ⟨_, _, _, _, (mem_cons' m21_34 (mem_cons' m21_38 (mem_cons' m21_2 (fun x hx => by cases hx)))), (mem_cons' m22_34 (mem_cons' m22_38 (mem_cons' m22_2 (fun x hx => by cases hx)))), (mem_cons' m23_34 (mem_cons' m23_38 (mem_cons' m23_2 (fun x hx => by cases hx)))), (mem_cons' m65_11 (mem_cons' m65_5 (fun x hx => by cases hx))), c5_5_3⟩
theorem k5_5_4 : Good5 5 4 := ⟨_, _, _, _, (mem_cons' m21_34 (mem_cons' m21_39 (mem_cons' m21_2 (fun x hx => by cases hx)))), (mem_cons' m22_34 (mem_cons' m22_39 (mem_cons' m22_2 (fun x hx => by cases hx)))), (mem_cons' m23_34 (mem_cons' m23_39 (mem_cons' m23_2 (fun x hx => by cases hx)))), (mem_cons' m65_11 (mem_cons' m65_6 (fun x hx => by cases hx))), c5_5_4⟩
theorem k5_5 (j : Nat) (hj : j < 5) : Good5 5 j := by
  match j, hj with
  | 0, _ => exact k5_5_0
  | 1, _ => exact k5_5_1
  | 2, _ => exact k5_5_2
  | 3, _ => exact k5_5_3
  | 4, _ => exact k5_5_4
  | (n + 5), h => exact absurd h (by omega)
theorem k5_6_0 : Good5 6 0 := ⟨_, _, _, _, (mem_cons' m21_40 (mem_cons' m21_41 (mem_cons' m21_2 (fun x hx => by cases hx)))), (mem_cons' m22_40 (mem_cons' m22_41 (mem_cons' m22_2 (fun x hx => by cases hx)))), (mem_cons' m23_40 (mem_cons' m23_41 (mem_cons' m23_2 (fun x hx => by cases hx)))), (mem_cons' m65_12 (mem_cons' m65_1 (fun x hx => by cases hx))), c5_6_0⟩
theorem k5_6_1 : Good5 6 1 := ⟨_, _, _, _, (mem_cons' m21_40 (mem_cons' m21_42 (mem_cons' m21_2 (fun x hx => by cases hx)))), (mem_cons' m22_40 (mem_cons' m22_42 (mem_cons' m22_2 (fun x hx => by cases hx)))), (mem_cons' m23_40 (mem_cons' m23_42 (mem_cons' m23_2 (fun x hx => by cases hx)))), (mem_cons' m65_12 (mem_cons' m65_3 (fun x hx => by cases hx))), c5_6_1⟩
theorem k5_6_2 : Good5 6 2 := ⟨_, _, _, _, (mem_cons' m21_40 (mem_cons' m21_43 (mem_cons' m21_2 (fun x hx => by cases hx)))), (mem_cons' m22_40 (mem_cons' m22_43 (mem_cons' m22_2 (fun x hx => by cases hx)))), (mem_cons' m23_40 (mem_cons' m23_43 (mem_cons' m23_2 (fun x hx => by cases hx)))), (mem_cons' m65_12 (mem_cons' m65_4 (fun x hx => by cases hx))), c5_6_2⟩
theorem k5_6_3 : Good5 6 3 := ⟨_, _, _, _, (mem_cons' m21_40 (mem_cons' m21_44 (mem_cons' m21_2 (fun x hx => by cases hx)))), (mem_cons' m22_40 (mem_cons' m22_44 (mem_cons' m22_2 (fun x hx => by cases hx)))), (mem_cons' m23_40 (mem_cons' m23_44 (mem_cons' m23_2 (fun x hx => by cases hx)))), (mem_cons' m65_12 (mem_cons' m65_5 (fun x hx => by cases hx))), c5_6_3⟩
theorem k5_6_4 : Good5 6 4 := ⟨_, _, _, _, (mem_cons' m21_40 (mem_cons' m21_45 (mem_cons' m21_2 (fun x hx => by cases hx)))), (mem_cons' m22_40 (mem_cons' m22_45 (mem_cons' m22_2 (fun x hx => by cases hx)))), (mem_cons' m23_40 (mem_cons' m23_45 (mem_cons' m23_2 (fun x hx => by cases hx)))), (mem_cons' m65_12 (mem_cons' m65_6 (fun x hx => by cases hx))), c5_6_4⟩
theorem k5_6 (j : Nat) (hj : j < 5) : Good5 6 j := by
  match j, hj with
  | 0, _ => exact k5_6_0
  | 1, _ => exact k5_6_1
  | 2, _ => exact k5_6_2
  | 3, _ => exact k5_6_3
  | 4, _ => exact k5_6_4
  | (n + 5), h => exact absurd h (by omega)
theorem k5_7_0 : Good5 7 0 := ⟨_, _, _, _, (mem_cons' m21_46 (mem_cons' m21_47 (mem_cons' m21_2 (fun x hx => by cases hx)))), (mem_cons' m22_46 (mem_cons' m22_47 (mem_cons' m22_2 (fun x hx => by cases hx)))), (mem_cons' m23_46 (mem_cons' m23_47 (mem_cons' m23_2 (fun x hx => by cases hx)))), (mem_cons' m65_13 (mem_cons' m65_1 (fun x hx => by cases hx))), c5_7_0⟩
theorem k5_7_1 : Good5 7 1 := ⟨_, _, _, _, (mem_cons' m21_46 (mem_cons' m21_48 (mem_cons' m21_2 (fun x hx => by cases hx)))), (mem_cons' m22_46 (mem_cons' m22_48 (mem_cons' m22_2 (fun x hx => by cases hx)))), (mem_cons' m23_46 (mem_cons' m23_48 (mem_cons' m23_2 (fun x hx => by cases hx)))), (mem_cons' m65_13 (mem_cons' m65_3 (fun x hx => by cases hx))), c5_7_1⟩
theorem k5_7_2 : Good5 7 2 := ⟨_, _, _, _, (mem_cons' m21_46 (mem_cons' m21_49 (mem_cons' m21_2 (fun x hx => by cases hx)))), (mem_cons' m22_46 (mem_cons' m22_49 (mem_cons' m22_2 (fun x hx => by cases hx)))), (mem_cons' m23_46 (mem_cons' m23_49 (mem_cons' m23_2 (fun x hx => by cases hx)))), (mem_cons' m65_13 (mem_cons' m65_4 (fun x hx => by cases hx))), c5_7_2⟩
theorem k5_7_3 : Good5 7 3 := ⟨_, _, _, _, (mem_cons' m21_46 (mem_cons' m21_50 (mem_cons' m21_2 (fun x hx => by cases hx)))), (mem_cons' m22_46 (mem_cons' m22_50 (mem_cons' m22_2 (fun x hx => by cases hx)))), (mem_cons' m23_46 (mem_cons' m23_50 (mem_cons' m23_2 (fun x hx => by cases hx)))), (mem_cons' m65_13 (mem_cons' m65_5 (fun x hx => by cases hx))), c5_7_3⟩
theorem k5_7_4 : Good5 7 4 := ⟨_, _, _, _, (mem_cons' m21_46 (mem_cons' m21_51 (mem_cons' m21_2 (fun x hx => by cases hx)))), (mem_cons' m22_46 (mem_cons' m22_51 (mem_cons' m22_2 (fun x hx => by cases hx)))), (mem_cons' m23_46 (mem_cons' m23_51 (mem_cons' m23_2 (fun x hx => by cases hx)))), (mem_cons' m65_13 (mem_cons' m65_6 (fun x hx => by cases hx))), c5_7_4⟩
theorem k5_7 (j : Nat) (hj : j < 5) : Good5 7 j := by
  match j, hj with
  | 0, _ => exact k5_7_0
  | 1, _ => exact k5_7_1
  | 2, _ => exact k5_7_2
  | 3, _ => exact k5_7_3
  | 4, _ => exact k5_7_4
  | (n + 5), h => exact absurd h (by omega)
theorem k5_8_0 : Good5 8 0 := ⟨_, _, _, _, (mem_cons' m21_52 (mem_cons' m21_53 (mem_cons' m21_2 (fun x hx => by cases hx)))), (mem_cons' m22_52 (mem_cons' m22_53 (mem_cons' m22_2 (fun x hx => by cases hx)))), (mem_cons' m23_52 (mem_cons' m23_53 (mem_cons' m23_2 (fun x hx => by cases hx)))), (mem_cons' m65_14 (mem_cons' m65_1 (fun x hx => by cases hx))), c5_8_0⟩
theorem k5_8_1 : Good5 8 1 := ⟨_, _, _, _, (mem_cons' m21_52 (mem_cons' m21_54 (mem_cons' m21_2 (fun x hx => by cases hx)))), (mem_cons' m22_52 (mem_cons' m22_54 (mem_cons' m22_2 (fun x hx => by cases hx)))), (mem_cons' m23_52 (mem_cons' m23_54 (mem_cons' m23_2 (fun x hx => by cases hx)))), (mem_cons' m65_14 (mem_cons' m65_3 (fun x hx => by cases hx))), c5_8_1⟩
theorem k5_8_2 : Good5 8 2 := ⟨_, _, _, _, (mem_cons' m21_52 (mem_cons' m21_55 (mem_cons' m21_2 (fun x hx => by cases hx)))), (mem_cons' m22_52 (mem_cons' m22_55 (mem_cons' m22_2 (fun x hx => by cases hx)))), (mem_cons' m23_52 (mem_cons' m23_55 (mem_cons' m23_2 (fun x hx => by cases hx)))), (mem_cons' m65_14 (mem_cons' m65_4 (fun x hx => by cases hx))), c5_8_2⟩
theorem k5_8_3 : Good5 8 3 := ⟨_, _, _, _, (mem_cons' m21_52 (mem_cons' m21_56 (mem_cons' m21_2 (fun x hx => by cases hx)))), (mem_cons' m22_52 (mem_cons' m22_56 (mem_cons' m22_2 (fun x hx => by cases hx)))), (mem_cons' m23_52 (mem_cons' m23_56 (mem_cons' m23_2 (fun x hx => by cases hx)))), (mem_cons' m65_14 (mem_cons' m65_5 (fun x hx => by cases hx))), c5_8_3⟩
theorem k5_8_4 : Good5 8 4 := ⟨_, _, _, _, (mem_cons' m21_52 (mem_cons' m21_57 (mem_cons' m21_2 (fun x hx => by cases hx)))), (mem_cons' m22_52 (mem_cons' m22_57 (mem_cons' m22_2 (fun x hx => by cases hx)))), (mem_cons' m23_52 (mem_cons' m23_57 (mem_cons' m23_2 (fun x hx => by cases hx)))), (mem_cons' m65_14 (mem_cons' m65_6 (fun x hx => by cases hx))), c5_8_4⟩
theorem k5_8 (j : Nat) (hj : j < 5) : Good5 8 j := by
  match j, hj with
  | 0, _ => exact k5_8_0
  | 1, _ => exact k5_8_1
  | 2, _ => exact k5_8_2
  | 3, _ => exact k5_8_3
  | 4, _ => exact k5_8_4
  | (n + 5), h => exact absurd h (by omega)
theorem k5_9_0 : Good5 9 0 := ⟨_, _, _, _, (mem_cons' m21_58 (mem_cons' m21_59 (mem_cons' m21_2 (fun x hx => by cases hx)))), (mem_cons' m22_58 (mem_cons' m22_59 (mem_cons' m22_2 (fun x hx => by cases hx)))), (mem_cons' m23_58 (mem_cons' m23_59 (mem_cons' m23_2 (fun x hx => by cases hx)))), (mem_cons' m65_15 (mem_cons' m65_1 (fun x hx => by cases hx))), c5_9_0⟩
theorem k5_9_1 : Good5 9 1 := ⟨_, _, _, _, (mem_cons' m21_58 (mem_cons' m21_60 (mem_cons' m21_2 (fun x hx => by cases hx)))), (mem_cons' m22_58 (mem_cons' m22_60 (mem_cons' m22_2 (fun x hx => by cases hx)))), (mem_cons' m23_58 (mem_cons' m23_60 (mem_cons' m23_2 (fun x hx => by cases hx)))), (mem_cons' m65_15 (mem_cons' m65_3 (fun x hx => by cases hx))), c5_9_1⟩
theorem k5_9_2 : Good5 9 2 := ⟨_, _, _, _, (mem_cons' m21_58 (mem_cons' m21_61 (mem_cons' m21_2 (fun x hx => by cases hx)))), (mem_cons' m22_58 (mem_cons' m22_61 (mem_cons' m22_2 (fun x hx => by cases hx)))), (mem_cons' m23_58 (mem_cons' m23_61 (mem_cons' m23_2 (fun x hx => by cases hx)))), (mem_cons' m65_15 (mem_cons' m65_4 (fun x hx => by cases hx))), c5_9_2⟩
theorem k5_9_3 : Good5 9 3 := ⟨_, _, _, _, (mem_cons' m21_58 (mem_cons' m21_62 (mem_cons' m21_2 (fun x hx => by cases hx)))), (mem_cons' m22_58 (mem_cons' m22_62 (mem_cons' m22_2 (fun x hx => by cases hx)))), (mem_cons' m23_58 (mem_cons' m23_62 (mem_cons' m23_2 (fun x hx => by cases hx)))), (mem_cons' m65_15 (mem_cons' m65_5 (fun x hx => by cases hx))), c5_9_3⟩
theorem k5_9_4 : Good5 9 4 := ⟨_, _, _, _, (mem_cons' m21_58 (mem_cons' m21_63 (mem_cons' m21_2 (fun x hx => by cases hx)))), (mem_cons' m22_58 (mem_cons' m22_63 (mem_cons' m22_2 (fun x hx => by cases hx)))), (mem_cons' m23_58 (mem_cons' m23_63 (mem_cons' m23_2 (fun x hx => by cases hx)))), (mem_cons' m65_15 (mem_cons' m65_6 (fun x hx => by cases hx))), c5_9_4⟩
theorem k5_9 (j : Nat) (hj : j < 5) : Good5 9 j := by
  match j, hj with
  | 0, _ => exact k5_9_0
  | 1, _ => exact k5_9_1
  | 2, _ => exact k5_9_2
  | 3, _ => exact k5_9_3
  | 4, _ => exact k5_9_4
  | (n + 5), h => exact absurd h (by omega)
theorem k5_10_0 : Good5 10 0 := ⟨_, _, _, _, (mem_cons' m21_64 (mem_cons' m21_65 (mem_cons' m21_2 (fun x hx => by cases hx)))), (mem_cons' m22_64 (mem_cons' m22_65 (mem_cons' m22_2 (fun x hx => by cases hx)))), (mem_cons' m23_64 (mem_cons' m23_65 (mem_cons' m23_2 (fun x hx => by cases hx)))), (mem_cons' m65_16 (mem_cons' m65_1 (fun x hx => by cases hx))), c5_10_0⟩
theorem k5_10_1 : Good5 10 1 := ⟨_, _, _, _, (mem_cons' m21_64 (mem_cons' m21_66 (mem_cons' m21_2 (fun x hx => by cases hx)))), (mem_cons' m22_64 (mem_cons' m22_66 (mem_cons' m22_2 (fun x hx => by cases hx)))), (mem_cons' m23_64 (mem_cons' m23_66 (mem_cons' m23_2 (fun x hx => by cases hx)))), (mem_cons' m65_16 (mem_cons' m65_3 (fun x hx => by cases hx))), c5_10_1⟩
theorem k5_10_2 : Good5 10 2 := ⟨_, _, _, _, (mem_cons' m21_64 (mem_cons' m21_67 (mem_cons' m21_2 (fun x hx => by cases hx)))), (mem_cons' m22_64 (mem_cons' m22_67 (mem_cons' m22_2 (fun x hx => by cases hx)))), (mem_cons' m23_64 (mem_cons' m23_67 (mem_cons' m23_2 (fun x hx => by cases hx)))), (mem_cons' m65_16 (mem_cons' m65_4 (fun x hx => by cases hx))), c5_10_2⟩
theorem k5_10_3 : Good5 10 3 := ⟨_, _, _, _, (mem_cons' m21_64 (mem_cons' m21_68 (mem_cons' m21_2 (fun x hx => by cases hx)))), (mem_cons' m22_64 (mem_cons' m22_68 (mem_cons' m22_2 (fun x hx => by cases hx)))), (mem_cons' m23_64 (mem_cons' m23_68 (mem_cons' m23_2 (fun x hx => by cases hx)))), (mem_cons' m65_16 (mem_cons' m65_5 (fun x hx => by cases hx))), c5_10_3⟩
theorem k5_10_4 : Good5 10 4 := ⟨_, _, _, _, (mem_cons' m21_64 (mem_cons' m21_69 (mem_cons' m21_2 (fun x hx => by cases hx)))), (mem_cons' m22_64 (mem_cons' m22_69 (mem_cons' m22_2 (fun x hx => by cases hx)))), (mem_cons' m23_64 (mem_cons' m23_69 (mem_cons' m23_2 (fun x hx => by cases hx)))), (mem_cons' m65_16 (mem_cons' m65_6 (fun x hx => by cases hx))), c5_10_4⟩
theorem k5_10 (j : Nat) (hj : j < 5) : Good5 10 j := by
  match j, hj with
  | 0, _ => exact k5_10_0
  | 1, _ => exact k5_10_1
  | 2, _ => exact k5_10_2
  | 3, _ => exact k5_10_3
  | 4, _ => exact k5_10_4
  | (n + 5), h => exact absurd h (by omega)
theorem k5_11_0 : Good5 11 0 := ⟨_, _, _, _, (mem_cons' m21_70 (mem_cons' m21_71 (mem_cons' m21_2 (fun x hx => by cases hx)))), (mem_cons' m22_70 (mem_cons' m22_71 (mem_cons' m22_2 (fun x hx => by cases hx)))), (mem_cons' m23_70 (mem_cons' m23_71 (mem_cons' m23_2 (fun x hx => by cases hx)))), (mem_cons' m65_17 (mem_cons' m65_1 (fun x hx => by cases hx))), c5_11_0⟩
theorem k5_11_1 : Good5 11 1 := ⟨_, _, _, _, (mem_cons' m21_70 (mem_cons' m21_72 (mem_cons' m21_2 (fun x hx => by cases hx)))), (mem_cons' m22_70 (mem_cons' m22_72 (mem_cons' m22_2 (fun x hx => by cases hx)))), (mem_cons' m23_70 (mem_cons' m23_72 (mem_cons' m23_2 (fun x hx => by cases hx)))), (mem_cons' m65_17 (mem_cons' m65_3 (fun x hx => by cases hx))), c5_11_1⟩
theorem k5_11_2 : Good5 11 2 := ⟨_, _, _, _, (mem_cons' m21_70 (mem_cons' m21_73 (mem_cons' m21_2 (fun x hx => by cases hx)))), (mem_cons' m22_70 (mem_cons' m22_73 (mem_cons' m22_2 (fun x hx => by cases hx)))), (mem_cons' m23_70 (mem_cons' m23_73 (mem_cons' m23_2 (fun x hx => by cases hx)))), (mem_cons' m65_17 (mem_cons' m65_4 (fun x hx => by cases hx))), c5_11_2⟩
theorem k5_11_3 : Good5 11 3 := ⟨_, _, _, _, (mem_cons' m21_70 (mem_cons' m21_74 (mem_cons' m21_2 (fun x hx => by cases hx)))), (mem_cons' m22_70 (mem_cons' m22_74 (mem_cons' m22_2 (fun x hx => by cases hx)))), (mem_cons' m23_70 (mem_cons' m23_74 (mem_cons' m23_2 (fun x hx => by cases hx)))), (mem_cons' m65_17 (mem_cons' m65_5 (fun x hx => by cases hx))), c5_11_3⟩
theorem k5_11_4 : Good5 11 4 := ⟨_, _, _, _, (mem_cons' m21_70 (mem_cons' m21_75 (mem_cons' m21_2 (fun x hx => by cases hx)))), (mem_cons' m22_70 (mem_cons' m22_75 (mem_cons' m22_2 (fun x hx => by cases hx)))), (mem_cons' m23_70 (mem_cons' m23_75 (mem_cons' m23_2 (fun x hx => by cases hx)))), (mem_cons' m65_17 (mem_cons' m65_6 (fun x hx => by cases hx))), c5_11_4⟩
theorem k5_11 (j : Nat) (hj : j < 5) : Good5 11 j := by
  match j, hj with
  | 0, _ => exact k5_11_0
  | 1, _ => exact k5_11_1
  | 2, _ => exact k5_11_2
  | 3, _ => exact k5_11_3
  | 4, _ => exact k5_11_4
  | (n + 5), h => exact absurd h (by omega)
theorem k5_12_0 : Good5 12 0 := ⟨_, _, _, _, (mem_cons' m21_76 (mem_cons' m21_77 (mem_cons' m21_2 (fun x hx => by cases hx)))), (mem_cons' m22_76 (mem_cons' m22_77 (mem_cons' m22_2 (fun x hx => by cases hx)))), (mem_cons' m23_76 (mem_cons' m23_77 (mem_cons' m23_2 (fun x hx => by cases hx)))), (mem_cons' m65_18 (mem_cons' m65_1 (fun x hx => by cases hx))), c5_12_0⟩
theorem k5_12_1 : Good5 12 1 := ⟨_, _, _, _, (mem_cons' m21_76 (mem_cons' m21_78 (mem_cons' m21_2 (fun x hx => by cases hx)))), (mem_cons' m22_76 (mem_cons' m22_78 (mem_cons' m22_2 (fun x hx => by cases hx)))), (mem_cons' m23_76 (mem_cons' m23_78 (mem_cons' m23_2 (fun x hx => by cases hx)))), (mem_cons' m65_18 (mem_cons' m65_3 (fun x hx => by cases hx))), c5_12_1⟩
theorem k5_12_2 : Good5 12 2 := ⟨_, _, _, _, (mem_cons' m21_76 (mem_cons' m21_79 (mem_cons' m21_2 (fun x hx => by cases hx)))), (mem_cons' m22_76 (mem_cons' m22_79 (mem_cons' m22_2 (fun x hx => by cases hx)))), (mem_cons' m23_76 (mem_cons' m23_79 (mem_cons' m23_2 (fun x hx => by cases hx)))), (mem_cons' m65_18 (mem_cons' m65_4 (fun x hx => by cases hx))), c5_12_2⟩
theorem k5_12_3 : Good5 12 3 := ⟨_, _, _, _, (mem_cons' m21_76 (mem_cons' m21_80 (mem_cons' m21_2 (fun x hx => by cases hx)))), (mem_cons' m22_76 (mem_cons' m22_80 (mem_cons' m22_2 (fun x hx => by cases hx)))), (mem_cons' m23_76 (mem_cons' m23_80 (mem_cons' m23_2 (fun x hx => by cases hx)))), (mem_cons' m65_18 (mem_cons' m65_5 (fun x hx => by cases hx))), c5_12_3⟩
theorem k5_12_4 : Good5 12 4 := ⟨_, _, _, _, (mem_cons' m21_76 (mem_cons' m21_81 (mem_cons' m21_2 (fun x hx => by cases hx)))), (mem_cons' m22_76 (mem_cons' m22_81 (mem_cons' m22_2 (fun x hx => by cases hx)))), (mem_cons' m23_76 (mem_cons' m23_81 (mem_cons' m23_2 (fun x hx => by cases hx)))), (mem_cons' m65_18 (mem_cons' m65_6 (fun x hx => by cases hx))), c5_12_4⟩
theorem k5_12 (j : Nat) (hj : j < 5) : Good5 12 j := by
  match j, hj with
  | 0, _ => exact k5_12_0
  | 1, _ => exact k5_12_1
  | 2, _ => exact k5_12_2
  | 3, _ => exact k5_12_3
  | 4, _ => exact k5_12_4
  | (n + 5), h => exact absurd h (by omega)
theorem k5_13_0 : Good5 13 0 := ⟨_, _, _, _, (mem_cons' m21_82 (mem_cons' m21_83 (mem_cons' m21_2 (fun x hx => by cases hx)))), (mem_cons' m22_82 (mem_cons' m22_83 (mem_cons' m22_2 (fun x hx => by cases hx)))), (mem_cons' m23_82 (mem_cons' m23_83 (mem_cons' m23_2 (fun x hx => by cases hx)))), (mem_cons' m65_19 (mem_cons' m65_1 (fun x hx => by cases hx))), c5_13_0⟩
theorem k5_13_1 : Good5 13 1 := ⟨_, _, _, _, (mem_cons' m21_82 (mem_cons' m21_84 (mem_cons' m21_2 (fun x hx => by cases hx)))), (mem_cons' m22_82 (mem_cons' m22_84 (mem_cons' m22_2 (fun x hx => by cases hx)))), (mem_cons' m23_82 (mem_cons' m23_84 (mem_cons' m23_2 (fun x hx => by cases hx)))), (mem_cons' m65_19 (mem_cons' m65_3 (fun x hx => by cases hx))), c5_13_1⟩
theorem k5_13_2 : Good5 13 2 := ⟨_, _, _, _, (mem_cons' m21_82 (mem_cons' m21_85 (mem_cons' m21_2 (fun x hx => by cases hx)))), (mem_cons' m22_82 (mem_cons' m22_85 (mem_cons' m22_2 (fun x hx => by cases hx)))), (mem_cons' m23_82 (mem_cons' m23_85 (mem_cons' m23_2 (fun x hx => by cases hx)))), (mem_cons' m65_19 (mem_cons' m65_4 (fun x hx => by cases hx))), c5_13_2⟩
theorem k5_13_3 : Good5 13 3 := ⟨_, _, _, _, (mem_cons' m21_82 (mem_cons' m21_86 (mem_cons' m21_2 (fun x hx => by cases hx)))), (mem_cons' m22_82 (mem_cons' m22_86 (mem_cons' m22_2 (fun x hx => by cases hx)))), (mem_cons' m23_82 (mem_cons' m23_86 (mem_cons' m23_2 (fun x hx => by cases hx)))), (mem_cons' m65_19 (mem_cons' m65_5 (fun x hx => by cases hx))), c5_13_3⟩
theorem k5_13_4 : Good5 13 4 := ⟨_, _, _, _, (mem_cons' m21_82 (mem_cons' m21_87 (mem_cons' m21_2 (fun x hx => by cases hx)))), (mem_cons' m22_82 (mem_cons' m22_87 (mem_cons' m22_2 (fun x hx => by cases hx)))), (mem_cons' m23_82 (mem_cons' m23_87 (mem_cons' m23_2 (fun x hx => by cases hx)))), (mem_cons' m65_19 (mem_cons' m65_6 (fun x hx => by cases hx))), c5_13_4⟩
theorem k5_13 (j : Nat) (hj : j < 5) : Good5 13 j := by
  match j, hj with
  | 0, _ => exact k5_13_0
  | 1, _ => exact k5_13_1
  | 2, _ => exact k5_13_2
  | 3, _ => exact k5_13_3
  | 4, _ => exact k5_13_4
  | (n + 5), h => exact absurd h (by omega)
theorem k5_14_0 : Good5 14 0 := ⟨_, _, _, _, (mem_cons' m21_88 (mem_cons' m21_89 (mem_cons' m21_2 (fun x hx => by cases hx)))), (mem_cons' m22_88 (mem_cons' m22_89 (mem_cons' m22_2 (fun x hx => by cases hx)))), (mem_cons' m23_88 (mem_cons' m23_89 (mem_cons' m23_2 (fun x hx => by cases hx)))), (mem_cons' m65_20 (mem_cons' m65_1 (fun x hx => by cases hx))), c5_14_0⟩
theorem k5_14_1 : Good5 14 1 := ⟨_, _, _, _, (mem_cons' m21_88 (mem_cons' m21_90 (mem_cons' m21_2 (fun x hx => by cases hx)))), (mem_cons' m22_88 (mem_cons' m22_90 (mem_cons' m22_2 (fun x hx => by cases hx)))), (mem_cons' m23_88 (mem_cons' m23_90 (mem_cons' m23_2 (fun x hx => by cases hx)))), (mem_cons' m65_20 (mem_cons' m65_3 (fun x hx => by cases hx))), c5_14_1⟩
theorem k5_14_2 : Good5 14 2 := ⟨_, _, _, _, (mem_cons' m21_88 (mem_cons' m21_91 (mem_cons' m21_2 (fun x hx => by cases hx)))), (mem_cons' m22_88 (mem_cons' m22_91 (mem_cons' m22_2 (fun x hx => by cases hx)))), (mem_cons' m23_88 (mem_cons' m23_91 (mem_cons' m23_2 (fun x hx => by cases hx)))), (mem_cons' m65_20 (mem_cons' m65_4 (fun x hx => by cases hx))), c5_14_2⟩
theorem k5_14_3 : Good5 14 3 := ⟨_, _, _, _, (mem_cons' m21_88 (mem_cons' m21_92 (mem_cons' m21_2 (fun x hx => by cases hx)))), (mem_cons' m22_88 (mem_cons' m22_92 (mem_cons' m22_2 (fun x hx => by cases hx)))), (mem_cons' m23_88 (mem_cons' m23_92 (mem_cons' m23_2 (fun x hx => by cases hx)))), (mem_cons' m65_20 (mem_cons' m65_5 (fun x hx => by cases hx))), c5_14_3⟩
theorem k5_14_4 : Good5 14 4 := ⟨_, _, _, _, (mem_cons' m21_88 (mem_cons' m21_93 (mem_cons' m21_2 (fun x hx => by cases hx)))), (mem_cons' m22_88 (mem_cons' m22_93 (mem_cons' m22_2 (fun x hx => by cases hx)))), (mem_cons' m23_88 (mem_cons' m23_93 (mem_cons' m23_2 (fun x hx => by cases hx)))), (mem_cons' m65_20 (mem_cons' m65_6 (fun x hx => by cases hx))), c5_14_4⟩
theorem k5_14 (j : Nat) (hj : j < 5) : Good5 14 j := by
  match j, hj with
  | 0, _ => exact k5_14_0
  | 1, _ => exact k5_14_1
  | 2, _ => exact k5_14_2
  | 3, _ => exact k5_14_3
  | 4, _ => exact k5_14_4
  | (n + 5), h => exact absurd h (by omega)
theorem k5_15_0 : Good5 15 0 := ⟨_, _, _, _, (mem_cons' m21_94 (mem_cons' m21_95 (mem_cons' m21_2 (fun x hx => by cases hx)))), (mem_cons' m22_94 (mem_cons' m22_95 (mem_cons' m22_2 (fun x hx => by cases hx)))), (mem_cons' m23_94 (mem_cons' m23_95 (mem_cons' m23_2 (fun x hx => by cases hx)))), (mem_cons' m65_21 (mem_cons' m65_1 (fun x hx => by cases hx))), c5_15_0⟩
theorem k5_15_1 : Good5 15 1 := ⟨_, _, _, _, (mem_cons' m21_94 (mem_cons' m21_96 (mem_cons' m21_2 (fun x hx => by cases hx)))), (mem_cons' m22_94 (mem_cons' m22_96 (mem_cons' m22_2 (fun x hx => by cases hx)))), (mem_cons' m23_94 (mem_cons' m23_96 (mem_cons' m23_2 (fun x hx => by cases hx)))), (mem_cons' m65_21 (mem_cons' m65_3 (fun x hx => by cases hx))), c5_15_1⟩
theorem k5_15_2 : Good5 15 2 := ⟨_, _, _, _, (mem_cons' m21_94 (mem_cons' m21_97 (mem_cons' m21_2 (fun x hx => by cases hx)))), (mem_cons' m22_94 (mem_cons' m22_97 (mem_cons' m22_2 (fun x hx => by cases hx)))), (mem_cons' m23_94 (mem_cons' m23_97 (mem_cons' m23_2 (fun x hx => by cases hx)))), (mem_cons' m65_21 (mem_cons' m65_4 (fun x hx => by cases hx))), c5_15_2⟩
theorem k5_15_3 : Good5 15 3 := ⟨_, _, _, _, (mem_cons' m21_94 (mem_cons' m21_98 (mem_cons' m21_2 (fun x hx => by cases hx)))), (mem_cons' m22_94 (mem_cons' m22_98 (mem_cons' m22_2 (fun x hx => by cases hx)))), (mem_cons' m23_94 (mem_cons' m23_98 (mem_cons' m23_2 (fun x hx => by cases hx)))), (mem_cons' m65_21 (mem_cons' m65_5 (fun x hx => by cases hx))), c5_15_3⟩
theorem k5_15_4 : Good5 15 4 := ⟨_, _, _, _, (mem_cons' m21_94 (mem_cons' m21_99 (mem_cons' m21_2 (fun x hx => by cases hx)))), (mem_cons' m22_94 (mem_cons' m22_99 (mem_cons' m22_2 (fun x hx => by cases hx)))), (mem_cons' m23_94 (mem_cons' m23_99 (mem_cons' m23_2 (fun x hx => by cases hx)))), (mem_cons' m65_21 (mem_cons' m65_6 (fun x hx => by cases hx))), c5_15_4⟩
theorem k5_15 (j : Nat) (hj : j < 5) : Good5 15 j := by
  match j, hj with
  | 0, _ => exact k5_15_0
  | 1, _ => exact k5_15_1
  | 2, _ => exact k5_15_2
  | 3, _ => exact k5_15_3
  | 4, _ => exact k5_15_4
  | (n + 5), h => exact absurd h (by omega)
theorem k5_16_0 : Good5 16 0 := ⟨_, _, _, _, (mem_cons' m21_100 (mem_cons' m21_101 (mem_cons' m21_2 (fun x hx => by cases hx)))), (mem_cons' m22_100 (mem_cons' m22_101 (mem_cons' m22_2 (fun x hx => by cases hx)))), (mem_cons' m23_100 (mem_cons' m23_101 (mem_cons' m23_2 (fun x hx => by cases hx)))), (mem_cons' m65_22 (mem_cons' m65_1 (fun x hx => by cases hx))), c5_16_0⟩
theorem k5_16_1 : Good5 16 1 := ⟨_, _, _, _, (mem_cons' m21_100 (mem_cons' m21_102 (mem_cons' m21_2 (fun x hx => by cases hx)))), (mem_cons' m22_100 (mem_cons' m22_102 (mem_cons' m22_2 (fun x hx => by cases hx)))), (mem_cons' m23_100 (mem_cons' m23_102 (mem_cons' m23_2 (fun x hx => by cases hx)))), (mem_cons' m65_22 (mem_cons' m65_3 (fun x hx => by cases hx))), c5_16_1⟩
theorem k5_16_2 : Good5 16 2 := ⟨_, _, _, _, (mem_cons' m21_100 (mem_cons' m21_103 (mem_cons' m21_2 (fun x hx => by cases hx)))), (mem_cons' m22_100 (mem_cons' m22_103 (mem_cons' m22_2 (fun x hx => by cases hx)))), (mem_cons' m23_100 (mem_cons' m23_103 (mem_cons' m23_2 (fun x hx => by cases hx)))), (mem_cons' m65_22 (mem_cons' m65_4 (fun x hx => by cases hx))), c5_16_2⟩
theorem k5_16_3 : Good5 16 3 := ⟨_, _, _, _, (mem_cons' m21_100 (mem_cons' m21_104 (mem_cons' m21_2 (fun x hx => by cases hx)))), (mem_cons' m22_100 (mem_cons' m22_104 (mem_cons' m22_2 (fun x hx => by cases hx)))), (mem_cons' m23_100 (mem_cons' m23_104 (mem_cons' m23_2 (fun x hx => by cases hx)))), (mem_cons' m65_22 (mem_cons' m65_5 (fun x hx => by cases hx))), c5_16_3⟩
theorem k5_16_4 : Good5 16 4 := ⟨_, _, _, _, (mem_cons' m21_100 (mem_cons' m21_105 (mem_cons' m21_2 (fun x hx => by cases hx)))), (mem_cons' m22_100 (mem_cons' m22_105 (mem_cons' m22_2 (fun x hx => by cases hx)))), (mem_cons' m23_100 (mem_cons' m23_105 (mem_cons' m23_2 (fun x hx => by cases hx)))), (mem_cons' m65_22 (mem_cons' m65_6 (fun x hx => by cases hx))), c5_16_4⟩
theorem k5_16 (j : Nat) (hj : j < 5) : Good5 16 j := by
  match j, hj with
  | 0, _ => exact k5_16_0
  | 1, _ => exact k5_16_1
  | 2, _ => exact k5_16_2
  | 3, _ => exact k5_16_3
  | 4, _ => exact k5_16_4
  | (n + 5), h => exact absurd h (by omega)
theorem k5_17_0 : Good5 17 0 := ⟨_, _, _, _, (mem_cons' m21_106 (mem_cons' m21_107 (mem_cons' m21_2 (fun x hx => by cases hx)))), (mem_cons' m22_106 (mem_cons' m22_107 (mem_cons' m22_2 (fun x hx => by cases hx)))), (mem_cons' m23_106 (mem_cons' m23_107 (mem_cons' m23_2 (fun x hx => by cases hx)))), (mem_cons' m65_23 (mem_cons' m65_1 (fun x hx => by cases hx))), c5_17_0⟩
theorem k5_17_1 : Good5 17 1 := ⟨_, _, _, _, (mem_cons' m21_106 (mem_cons' m21_108 (mem_cons' m21_2 (fun x hx => by cases hx)))), (mem_cons' m22_106 (mem_cons' m22_108 (mem_cons' m22_2 (fun x hx => by cases hx)))), (mem_cons' m23_106 (mem_cons' m23_108 (mem_cons' m23_2 (fun x hx => by cases hx)))), (mem_cons' m65_23 (mem_cons' m65_3 (fun x hx => by cases hx))), c5_17_1⟩
theorem k5_17_2 : Good5 17 2 := ⟨_, _, _, _, (mem_cons' m21_106 (mem_cons' m21_109 (mem_cons' m21_2 (fun x hx => by cases hx)))), (mem_cons' m22_106 (mem_cons' m22_109 (mem_cons' m22_2 (fun x hx => by cases hx)))), (mem_cons' m23_106 (mem_cons' m23_109 (mem_cons' m23_2 (fun x hx => by cases hx)))), (mem_cons' m65_23 (mem_cons' m65_4 (fun x hx => by cases hx))), c5_17_2⟩
theorem k5_17_3 : Good5 17 3 := ⟨_, _, _, _, (mem_cons' m21_106 (mem_cons' m21_110 (mem_cons' m21_2 (fun x hx => by cases hx)))), (mem_cons' m22_106 (mem_cons' m22_110 (mem_cons' m22_2 (fun x hx => by cases hx)))), (mem_cons' m23_106 (mem_cons' m23_110 (mem_cons' m23_2 (fun x hx => by cases hx)))), (mem_cons' m65_23 (mem_cons' m65_5 (fun x hx => by cases hx))), c5_17_3⟩
theorem k5_17_4 : Good5 17 4 := ⟨_, _, _, _, (mem_cons' m21_106 (mem_cons' m21_111 (mem_cons' m21_2 (fun x hx => by cases hx)))), (mem_cons' m22_106 (mem_cons' m22_111 (mem_cons' m22_2 (fun x hx => by cases hx)))), (mem_cons' m23_106 (mem_cons' m23_111 (mem_cons' m23_2 (fun x hx => by cases hx)))), (mem_cons' m65_23 (mem_cons' m65_6 (fun x hx => by cases hx))), c5_17_4⟩
theorem k5_17 (j : Nat) (hj : j < 5) : Good5 17 j := by
  match j, hj with
  | 0, _ => exact k5_17_0
  | 1, _ => exact k5_17_1
  | 2, _ => exact k5_17_2
  | 3, _ => exact k5_17_3
  | 4, _ => exact k5_17_4
  | (n + 5), h => exact absurd h (by omega)
theorem k5_18_0 : Good5 18 0 := ⟨_, _, _, _, (mem_cons' m21_112 (mem_cons' m21_113 (mem_cons' m21_2 (fun x hx => by cases hx)))), (mem_cons' m22_112 (mem_cons' m22_113 (mem_cons' m22_2 (fun x hx => by cases hx)))), (mem_cons' m23_112 (mem_cons' m23_113 (mem_cons' m23_2 (fun x hx => by cases hx)))), (mem_cons' m65_24 (mem_cons' m65_1 (fun x hx => by cases hx))), c5_18_0⟩
theorem k5_18_1 : Good5 18 1 := ⟨_, _, _, _, (mem_cons' m21_112 (mem_cons' m21_114 (mem_cons' m21_2 (fun x hx => by cases hx)))), (mem_cons' m22_112 (mem_cons' m22_114 (mem_cons' m22_2 (fun x hx => by cases hx)))), (mem_cons' m23_112 (mem_cons' m23_114 (mem_cons' m23_2 (fun x hx => by cases hx)))), (mem_cons' m65_24 (mem_cons' m65_3 (fun x hx => by cases hx))), c5_18_1⟩
theorem k5_18_2 : Good5 18 2 := ⟨_, _, _, _, (mem_cons' m21_112 (mem_cons' m21_115 (mem_cons' m21_2 (fun x hx => by cases hx)))), (mem_cons' m22_112 (mem_cons' m22_115 (mem_cons' m22_2 (fun x hx => by cases hx)))), (mem_cons' m23_112 (mem_cons' m23_115 (mem_cons' m23_2 (fun x hx => by cases hx)))), (mem_cons' m65_24 (mem_cons' m65_4 (fun x hx => by cases hx))), c5_18_2⟩
theorem k5_18_3 : Good5 18 3 := ⟨_, _, _, _, (mem_cons' m21_112 (mem_cons' m21_116 (mem_cons' m21_2 (fun x hx => by cases hx)))), (mem_cons' m22_112 (mem_cons' m22_116 (mem_cons' m22_2 (fun x hx => by cases hx)))), (mem_cons' m23_112 (mem_cons' m23_116 (mem_cons' m23_2 (fun x hx => by cases hx)))), (mem_cons' m65_24 (mem_cons' m65_5 (fun x hx => by cases hx))), c5_18_3⟩
theorem k5_18_4 : Good5 18 4 := ⟨_, _, _, _, (mem_cons' m21_112 (mem_cons' m21_117 (mem_cons' m21_2 (fun x hx => by cases hx)))), (mem_cons' m22_112 (mem_cons' m22_117 (mem_cons' m22_2 (fun x hx => by cases hx)))), (mem_cons' m23_112 (mem_cons' m23_117 (mem_cons' m23_2 (fun x hx => by cases hx)))), (mem_cons' m65_24 (mem_cons' m65_6 (fun x hx => by cases hx))), c5_18_4⟩
theorem k5_18 (j : Nat) (hj : j < 5) : Good5 18 j := by
  match j, hj with
  | 0, _ => exact k5_18_0
  | 1, _ => exact k5_18_1
  | 2, _ => exact k5_18_2
  | 3, _ => exact k5_18_3
  | 4, _ => exact k5_18_4
  | (n + 5), h => exact absurd h (by omega)
theorem k5_19_0 : Good5 19 0 := ⟨_, _, _, _, (mem_cons' m21_118 (mem_cons' m21_119 (mem_cons' m21_2 (fun x hx => by cases hx)))), (mem_cons' m22_118 (mem_cons' m22_119 (mem_cons' m22_2 (fun x hx => by cases hx)))), (mem_cons' m23_118 (mem_cons' m23_119 (mem_cons' m23_2 (fun x hx => by cases hx)))), (mem_cons' m65_25 (mem_cons' m65_1 (fun x hx => by cases hx))), c5_19_0⟩
theorem k5_19_1 : Good5 19 1 := ⟨_, _, _, _, (mem_cons' m21_118 (mem_cons' m21_120 (mem_cons' m21_2 (fun x hx => by cases hx)))), (mem_cons' m22_118 (mem_cons' m22_120 (mem_cons' m22_2 (fun x hx => by cases hx)))), (mem_cons' m23_118 (mem_cons' m23_120 (mem_cons' m23_2 (fun x hx => by cases hx)))), (mem_cons' m65_25 (mem_cons' m65_3 (fun x hx => by cases hx))), c5_19_1⟩
theorem k5_19_2 : Good5 19 2 := ⟨_, _, _, _, (mem_cons' m21_118 (mem_cons' m21_121 (mem_cons' m21_2 (fun x hx => by cases hx)))), (mem_cons' m22_118 (mem_cons' m22_121 (mem_cons' m22_2 (fun x hx => by cases hx)))), (mem_cons' m23_118 (mem_cons' m23_121 (mem_cons' m23_2 (fun x hx => by cases hx)))), (mem_cons' m65_25 (mem_cons' m65_4 (fun x hx => by cases hx))), c5_19_2⟩
theorem k5_19_3 : Good5 19 3 := ⟨_, _, _, _, (mem_cons' m21_118 (mem_cons' m21_122 (mem_cons' m21_2 (fun x hx => by cases hx)))), (mem_cons' m22_118 (mem_cons' m22_122 (mem_cons' m22_2 (fun x hx => by cases hx)))), (mem_cons' m23_118 (mem_cons' m23_122 (mem_cons' m23_2 (fun x hx => by cases hx)))), (mem_cons' m65_25 (mem_cons' m65_5 (fun x hx => by cases hx))), c5_19_3⟩
theorem k5_19_4 : Good5 19 4 := ⟨_, _, _, _, (mem_cons' m21_118 (mem_cons' m21_123 (mem_cons' m21_2 (fun x hx => by cases hx)))), (mem_cons' m22_118 (mem_cons' m22_123 (mem_cons' m22_2 (fun x hx => by cases hx)))), (mem_cons' m23_118 (mem_cons' m23_123 (mem_cons' m23_2 (fun x hx => by cases hx)))), (mem_cons' m65_25 (mem_cons' m65_6 (fun x hx => by cases hx))), c5_19_4⟩
theorem k5_19 (j : Nat) (hj : j < 5) : Good5 19 j := by
  match j, hj with
  | 0, _ => exact k5_19_0
  | 1, _ => exact k5_19_1
  | 2, _ => exact k5_19_2
  | 3, _ => exact k5_19_3
  | 4, _ => exact k5_19_4
  | (n + 5), h => exact absurd h (by omega)
theorem k5_20_0 : Good5 20 0 := ⟨_, _, _, _, (mem_cons' m21_124 (mem_cons' m21_125 (mem_cons' m21_2 (fun x hx => by cases hx)))), (mem_cons' m22_124 (mem_cons' m22_125 (mem_cons' m22_2 (fun x hx => by cases hx)))), (mem_cons' m23_124 (mem_cons' m23_125 (mem_cons' m23_2 (fun x hx => by cases hx)))), (mem_cons' m65_26 (mem_cons' m65_1 (fun x hx => by cases hx))), c5_20_0⟩
theorem k5_20_1 : Good5 20 1 := ⟨_, _, _, _, (mem_cons' m21_124 (mem_cons' m21_126 (mem_cons' m21_2 (fun x hx => by cases hx)))), (mem_cons' m22_124 (mem_cons' m22_126 (mem_cons' m22_2 (fun x hx => by cases hx)))), (mem_cons' m23_124 (mem_cons' m23_126 (mem_cons' m23_2 (fun x hx => by cases hx)))), (mem_cons' m65_26 (mem_cons' m65_3 (fun x hx => by cases hx))), c5_20_1⟩
theorem k5_20_2 : Good5 20 2 := ⟨_, _, _, _, (mem_cons' m21_124 (mem_cons' m21_127 (mem_cons' m21_2 (fun x hx => by cases hx)))), (mem_cons' m22_124 (mem_cons' m22_127 (mem_cons' m22_2 (fun x hx => by cases hx)))), (mem_cons' m23_124 (mem_cons' m23_127 (mem_cons' m23_2 (fun x hx => by cases hx)))), (mem_cons' m65_26 (mem_cons' m65_4 (fun x hx => by cases hx))), c5_20_2⟩
theorem k5_20_3 : Good5 20 3 := ⟨_, _, _, _, (mem_cons' m21_124 (mem_cons' m21_128 (mem_cons' m21_2 (fun x hx => by cases hx)))), (mem_cons' m22_124 (mem_cons' m22_128 (mem_cons' m22_2 (fun x hx => by cases hx)))), (mem_cons' m23_124 (mem_cons' m23_128 (mem_cons' m23_2 (fun x hx => by cases hx)))), (mem_cons' m65_26 (mem_cons' m65_5 (fun x hx => by cases hx))), c5_20_3⟩
theorem k5_20_4 : Good5 20 4 := ⟨_, _, _, _, (mem_cons' m21_124 (mem_cons' m21_129 (mem_cons' m21_2 (fun x hx => by cases hx)))), (mem_cons' m22_124 (mem_cons' m22_129 (mem_cons' m22_2 (fun x hx => by cases hx)))), (mem_cons' m23_124 (mem_cons' m23_129 (mem_cons' m23_2 (fun x hx => by cases hx)))), (mem_cons' m65_26 (mem_cons' m65_6 (fun x hx => by cases hx))), c5_20_4⟩
theorem k5_20 (j : Nat) (hj : j < 5) : Good5 20 j := by
  match j, hj with
  | 0, _ => exact k5_20_0
  | 1, _ => exact k5_20_1
  | 2, _ => exact k5_20_2
  | 3, _ => exact k5_20_3
  | 4, _ => exact k5_20_4
  | (n + 5), h => exact absurd h (by omega)
theorem k5_21_0 : Good5 21 0 := ⟨_, _, _, _, (mem_cons' m21_130 (mem_cons' m21_131 (mem_cons' m21_2 (fun x hx => by cases hx)))), (mem_cons' m22_130 (mem_cons' m22_131 (mem_cons' m22_2 (fun x hx => by cases hx)))), (mem_cons' m23_130 (mem_cons' m23_131 (mem_cons' m23_2 (fun x hx => by cases hx)))), (mem_cons' m65_27 (mem_cons' m65_1 (fun x hx => by cases hx))), c5_21_0⟩
theorem k5_21_1 : Good5 21 1 := ⟨_, _, _, _, (mem_cons' m21_130 (mem_cons' m21_132 (mem_cons' m21_2 (fun x hx => by cases hx)))), (mem_cons' m22_130 (mem_cons' m22_132 (mem_cons' m22_2 (fun x hx => by cases hx)))), (mem_cons' m23_130 (mem_cons' m23_132 (mem_cons' m23_2 (fun x hx => by cases hx)))), (mem_cons' m65_27 (mem_cons' m65_3 (fun x hx => by cases hx))), c5_21_1⟩
theorem k5_21_2 : Good5 21 2 := ⟨_, _, _, _, (mem_cons' m21_130 (mem_cons' m21_133 (mem_cons' m21_2 (fun x hx => by cases hx)))), (mem_cons' m22_130 (mem_cons' m22_133 (mem_cons' m22_2 (fun x hx => by cases hx)))), (mem_cons' m23_130 (mem_cons' m23_133 (mem_cons' m23_2 (fun x hx => by cases hx)))), (mem_cons' m65_27 (mem_cons' m65_4 (fun x hx => by cases hx))), c5_21_2⟩
theorem k5_21_3 : Good5 21 3 := ⟨_, _, _, _, (mem_cons' m21_130 (mem_cons' m21_134 (mem_cons' m21_2 (fun x hx => by cases hx)))), (mem_cons' m22_130 (mem_cons' m22_134 (mem_cons' m22_2 (fun x hx => by cases hx)))), (mem_cons' m23_130 (mem_cons' m23_134 (mem_cons' m23_2 (fun x hx => by cases hx)))), (mem_cons' m65_27 (mem_cons' m65_5 (fun x hx => by cases hx))), c5_21_3⟩
theorem k5_21_4 : Good5 21 4 := ⟨_, _, _, _, (mem_cons' m21_130 (mem_cons' m21_135 (mem_cons' m21_2 (fun x hx => by cases hx)))), (mem_cons' m22_130 (mem_cons' m22_135 (mem_cons' m22_2 (fun x hx => by cases hx)))), (mem_cons' m23_130 (mem_cons' m23_135 (mem_cons' m23_2 (fun x hx => by cases hx)))), (mem_cons' m65_27 (mem_cons' m65_6 (fun x hx => by cases hx))), c5_21_4⟩
theorem k5_21 (j : Nat) (hj : j < 5) : Good5 21 j := by
  match j, hj with
  | 0, _ => exact k5_21_0
  | 1, _ => exact k5_21_1
  | 2, _ => exact k5_21_2
  | 3, _ => exact k5_21_3
  | 4, _ => exact k5_21_4
  | (n + 5), h => exact absurd h (by omega)
theorem k5_22_0 : Good5 22 0 := ⟨_, _, _, _, (mem_cons' m21_136 (mem_cons' m21_137 (mem_cons' m21_2 (fun x hx => by cases hx)))), (mem_cons' m22_136 (mem_cons' m22_137 (mem_cons' m22_2 (fun x hx => by cases hx)))), (mem_cons' m23_136 (mem_cons' m23_137 (mem_cons' m23_2 (fun x hx => by cases hx)))), (mem_cons' m65_28 (mem_cons' m65_1 (fun x hx => by cases hx))), c5_22_0⟩
theorem k5_22_1 : Good5 22 1 := ⟨_, _, _, _, (mem_cons' m21_136 (mem_cons' m21_138 (mem_cons' m21_2 (fun x hx => by cases hx)))), (mem_cons' m22_136 (mem_cons' m22_138 (mem_cons' m22_2 (fun x hx => by cases hx)))), (mem_cons' m23_136 (mem_cons' m23_138 (mem_cons' m23_2 (fun x hx => by cases hx)))), (mem_cons' m65_28 (mem_cons' m65_3 (fun x hx => by cases hx))), c5_22_1⟩
theorem k5_22_2 : Good5 22 2 := ⟨_, _, _, _, (mem_cons' m21_136 (mem_cons' m21_139 (mem_cons' m21_2 (fun x hx => by cases hx)))), (mem_cons' m22_136 (mem_cons' m22_139 (mem_cons' m22_2 (fun x hx => by cases hx)))), (mem_cons' m23_136 (mem_cons' m23_139 (mem_cons' m23_2 (fun x hx => by cases hx)))), (mem_cons' m65_28 (mem_cons' m65_4 (fun x hx => by cases hx))), c5_22_2⟩
theorem k5_22_3 : Good5 22 3 := ⟨_, _, _, _, (mem_cons' m21_136 (mem_cons' m21_140 (mem_cons' m21_2 (fun x hx => by cases hx)))), (mem_cons' m22_136 (mem_cons' m22_140 (mem_cons' m22_2 (fun x hx => by cases hx)))), (mem_cons' m23_136 (mem_cons' m23_140 (mem_cons' m23_2 (fun x hx => by cases hx)))), (mem_cons' m65_28 (mem_cons' m65_5 (fun x hx => by cases hx))), c5_22_3⟩
theorem k5_22_4 : Good5 22 4 := ⟨_, _, _, _, (mem_cons' m21_136 (mem_cons' m21_141 (mem_cons' m21_2 (fun x hx => by cases hx)))), (mem_cons' m22_136 (mem_cons' m22_141 (mem_cons' m22_2 (fun x hx => by cases hx)))), (mem_cons' m23_136 (mem_cons' m23_141 (mem_cons' m23_2 (fun x hx => by cases hx)))), (mem_cons' m65_28 (mem_cons' m65_6 (fun x hx => by cases hx))), c5_22_4⟩
theorem k5_22 (j : Nat) (hj : j < 5) : Good5 22 j := by
  match j, hj with
  | 0, _ => exact k5_22_0
  | 1, _ => exact k5_22_1
  | 2, _ => exact k5_22_2
  | 3, _ => exact k5_22_3
  | 4, _ => exact k5_22_4
  | (n + 5), h => exact absurd h (by omega)
theorem k5_23_0 : Good5 23 0 := ⟨_, _, _, _, (mem_cons' m21_142 (mem_cons' m21_143 (mem_cons' m21_2 (fun x hx => by cases hx)))), (mem_cons' m22_142 (mem_cons' m22_143 (mem_cons' m22_2 (fun x hx => by cases hx)))), (mem_cons' m23_142 (mem_cons' m23_143 (mem_cons' m23_2 (fun x hx => by cases hx)))), (mem_cons' m65_29 (mem_cons' m65_1 (fun x hx => by cases hx))), c5_23_0⟩
theorem k5_23_1 : Good5 23 1 := ⟨_, _, _, _, (mem_cons' m21_142 (mem_cons' m21_144 (mem_cons' m21_2 (fun x hx => by cases hx)))), (mem_cons' m22_142 (mem_cons' m22_144 (mem_cons' m22_2 (fun x hx => by cases hx)))), (mem_cons' m23_142 (mem_cons' m23_144 (mem_cons' m23_2 (fun x hx => by cases hx)))), (mem_cons' m65_29 (mem_cons' m65_3 (fun x hx => by cases hx))), c5_23_1⟩
theorem k5_23_2 : Good5 23 2 := ⟨_, _, _, _, (mem_cons' m21_142 (mem_cons' m21_145 (mem_cons' m21_2 (fun x hx => by cases hx)))), (mem_cons' m22_142 (mem_cons' m22_145 (mem_cons' m22_2 (fun x hx => by cases hx)))), (mem_cons' m23_142 (mem_cons' m23_145 (mem_cons' m23_2 (fun x hx => by cases hx)))), (mem_cons' m65_29 (mem_cons' m65_4 (fun x hx => by cases hx))), c5_23_2⟩
theorem k5_23_3 : Good5 23 3 := ⟨_, _, _, _, (mem_cons' m21_142 (mem_cons' m21_146 (mem_cons' m21_2 (fun x hx => by cases hx)))), (mem_cons' m22_142 (mem_cons' m22_146 (mem_cons' m22_2 (fun x hx => by cases hx)))), (mem_cons' m23_142 (mem_cons' m23_146 (mem_cons' m23_2 (fun x hx => by cases hx)))), (mem_cons' m65_29 (mem_cons' m65_5 (fun x hx => by cases hx))), c5_23_3⟩
theorem k5_23_4 : Good5 23 4 := ⟨_, _, _, _, (mem_cons' m21_142 (mem_cons' m21_147 (mem_cons' m21_2 (fun x hx => by cases hx)))), (mem_cons' m22_142 (mem_cons' m22_147 (mem_cons' m22_2 (fun x hx => by cases hx)))), (mem_cons' m23_142 (mem_cons' m23_147 (mem_cons' m23_2 (fun x hx => by cases hx)))), (mem_cons' m65_29 (mem_cons' m65_6 (fun x hx => by cases hx))), c5_23_4⟩
theorem k5_23 (j : Nat) (hj : j < 5) : Good5 23 j := by
  match j, hj with
  | 0, _ => exact k5_23_0
  | 1, _ => exact k5_23_1
  | 2, _ => exact k5_23_2
  | 3, _ => exact k5_23_3
  | 4, _ => exact k5_23_4
  | (n + 5), h => exact absurd h (by omega)
theorem k5_24_0 : Good5 24 0 := ⟨_, _, _, _, (mem_cons' m21_148 (mem_cons' m21_149 (mem_cons' m21_2 (fun x hx => by cases hx)))), (mem_cons' m22_148 (mem_cons' m22_149 (mem_cons' m22_2 (fun x hx => by cases hx)))), (mem_cons' m23_148 (mem_cons' m23_149 (mem_cons' m23_2 (fun x hx => by cases hx)))), (mem_cons' m65_30 (mem_cons' m65_1 (fun x hx => by cases hx))), c5_24_0⟩
theorem k5_24_1 : Good5 24 1 := ⟨_, _, _, _, (mem_cons' m21_148 (mem_cons' m21_150 (mem_cons' m21_2 (fun x hx => by cases hx)))), (mem_cons' m22_148 (mem_cons' m22_150 (mem_cons' m22_2 (fun x hx => by cases hx)))), (mem_cons' m23_148 (mem_cons' m23_150 (mem_cons' m23_2 (fun x hx => by cases hx)))), (mem_cons' m65_30 (mem_cons' m65_3 (fun x hx => by cases hx))), c5_24_1⟩
theorem k5_24_2 : Good5 24 2 := ⟨_, _, _, _, (mem_cons' m21_148 (mem_cons' m21_151 (mem_cons' m21_2 (fun x hx => by cases hx)))), (mem_cons' m22_148 (mem_cons' m22_151 (mem_cons' m22_2 (fun x hx => by cases hx)))), (mem_cons' m23_148 (mem_cons' m23_151 (mem_cons' m23_2 (fun x hx => by cases hx)))), (mem_cons' m65_30 (mem_cons' m65_4 (fun x hx => by cases hx))), c5_24_2⟩
theorem k5_24_3 : Good5 24 3 := ⟨_, _, _, _, (mem_cons' m21_148 (mem_cons' m21_152 (mem_cons' m21_2 (fun x hx => by cases hx)))), (mem_cons' m22_148 (mem_cons' m22_152 (mem_cons' m22_2 (fun x hx => by cases hx)))), (mem_cons' m23_148 (mem_cons' m23_152 (mem_cons' m23_2 (fun x hx => by cases hx)))), (mem_cons' m65_30 (mem_cons' m65_5 (fun x hx => by cases hx))), c5_24_3⟩
theorem k5_24_4 : Good5 24 4 := ⟨_, _, _, _, (mem_cons' m21_148 (mem_cons' m21_153 (mem_cons' m21_2 (fun x hx => by cases hx)))), (mem_cons' m22_148 (mem_cons' m22_153 (mem_cons' m22_2 (fun x hx => by cases hx)))), (mem_cons' m23_148 (mem_cons' m23_153 (mem_cons' m23_2 (fun x hx => by cases hx)))), (mem_cons' m65_30 (mem_cons' m65_6 (fun x hx => by cases hx))), c5_24_4⟩
theorem k5_24 (j : Nat) (hj : j < 5) : Good5 24 j := by
  match j, hj with
  | 0, _ => exact k5_24_0
  | 1, _ => exact k5_24_1
  | 2, _ => exact k5_24_2
  | 3, _ => exact k5_24_3
  | 4, _ => exact k5_24_4
  | (n + 5), h => exact absurd h (by omega)
theorem k5_25_0 : Good5 25 0 := ⟨_, _, _, _, (mem_cons' m21_154 (mem_cons' m21_155 (mem_cons' m21_2 (fun x hx => by cases hx)))), (mem_cons' m22_154 (mem_cons' m22_155 (mem_cons' m22_2 (fun x hx => by cases hx)))), (mem_cons' m23_154 (mem_cons' m23_155 (mem_cons' m23_2 (fun x hx => by cases hx)))), (mem_cons' m65_31 (mem_cons' m65_1 (fun x hx => by cases hx))), c5_25_0⟩
theorem k5_25_1 : Good5 25 1 := ⟨_, _, _, _, (mem_cons' m21_154 (mem_cons' m21_156 (mem_cons' m21_2 (fun x hx => by cases hx)))), (mem_cons' m22_154 (mem_cons' m22_156 (mem_cons' m22_2 (fun x hx => by cases hx)))), (mem_cons' m23_154 (mem_cons' m23_156 (mem_cons' m23_2 (fun x hx => by cases hx)))), (mem_cons' m65_31 (mem_cons' m65_3 (fun x hx => by cases hx))), c5_25_1⟩
theorem k5_25_2 : Good5 25 2 := ⟨_, _, _, _, (mem_cons' m21_154 (mem_cons' m21_157 (mem_cons' m21_2 (fun x hx => by cases hx)))), (mem_cons' m22_154 (mem_cons' m22_157 (mem_cons' m22_2 (fun x hx => by cases hx)))), (mem_cons' m23_154 (mem_cons' m23_157 (mem_cons' m23_2 (fun x hx => by cases hx)))), (mem_cons' m65_31 (mem_cons' m65_4 (fun x hx => by cases hx))), c5_25_2⟩
theorem k5_25_3 : Good5 25 3 := ⟨_, _, _, _, (mem_cons' m21_154 (mem_cons' m21_158 (mem_cons' m21_2 (fun x hx => by cases hx)))), (mem_cons' m22_154 (mem_cons' m22_158 (mem_cons' m22_2 (fun x hx => by cases hx)))), (mem_cons' m23_154 (mem_cons' m23_158 (mem_cons' m23_2 (fun x hx => by cases hx)))), (mem_cons' m65_31 (mem_cons' m65_5 (fun x hx => by cases hx))), c5_25_3⟩
theorem k5_25_4 : Good5 25 4 := ⟨_, _, _, _, (mem_cons' m21_154 (mem_cons' m21_159 (mem_cons' m21_2 (fun x hx => by cases hx)))), (mem_cons' m22_154 (mem_cons' m22_159 (mem_cons' m22_2 (fun x hx => by cases hx)))), (mem_cons' m23_154 (mem_cons' m23_159 (mem_cons' m23_2 (fun x hx => by cases hx)))), (mem_cons' m65_31 (mem_cons' m65_6 (fun x hx => by cases hx))), c5_25_4⟩
theorem k5_25 (j : Nat) (hj : j < 5) : Good5 25 j := by
  match j, hj with
  | 0, _ => exact k5_25_0
  | 1, _ => exact k5_25_1
  | 2, _ => exact k5_25_2
  | 3, _ => exact k5_25_3
  | 4, _ => exact k5_25_4
  | (n + 5), h => exact absurd h (by omega)
theorem k5_26_0 : Good5 26 0 := ⟨_, _, _, _, (mem_cons' m21_160 (mem_cons' m21_161 (mem_cons' m21_2 (fun x hx => by cases hx)))), (mem_cons' m22_160 (mem_cons' m22_161 (mem_cons' m22_2 (fun x hx => by cases hx)))), (mem_cons' m23_160 (mem_cons' m23_161 (mem_cons' m23_2 (fun x hx => by cases hx)))), (mem_cons' m65_32 (mem_cons' m65_1 (fun x hx => by cases hx))), c5_26_0⟩
theorem k5_26_1 : Good5 26 1 := ⟨_, _, _, _, (mem_cons' m21_160 (mem_cons' m21_162 (mem_cons' m21_2 (fun x hx => by cases hx)))), (mem_cons' m22_160 (mem_cons' m22_162 (mem_cons' m22_2 (fun x hx => by cases hx)))), (mem_cons' m23_160 (mem_cons' m23_162 (mem_cons' m23_2 (fun x hx => by cases hx)))), (mem_cons' m65_32 (mem_cons' m65_3 (fun x hx => by cases hx))), c5_26_1⟩
theorem k5_26_2 : Good5 26 2 := ⟨_, _, _, _, (mem_cons' m21_160 (mem_cons' m21_163 (mem_cons' m21_2 (fun x hx => by cases hx)))), (mem_cons' m22_160 (mem_cons' m22_163 (mem_cons' m22_2 (fun x hx => by cases hx)))), (mem_cons' m23_160 (mem_cons' m23_163 (mem_cons' m23_2 (fun x hx => by cases hx)))), (mem_cons' m65_32 (mem_cons' m65_4 (fun x hx => by cases hx))), c5_26_2⟩
theorem k5_26_3 : Good5 26 3 := ⟨_, _, _, _, (mem_cons' m21_160 (mem_cons' m21_164 (mem_cons' m21_2 (fun x hx => by cases hx)))), (mem_cons' m22_160 (mem_cons' m22_164 (mem_cons' m22_2 (fun x hx => by cases hx)))), (mem_cons' m23_160 (mem_cons' m23_164 (mem_cons' m23_2 (fun x hx => by cases hx)))), (mem_cons' m65_32 (mem_cons' m65_5 (fun x hx => by cases hx))), c5_26_3⟩
theorem k5_26_4 : Good5 26 4 := ⟨_, _, _, _, (mem_cons' m21_160 (mem_cons' m21_165 (mem_cons' m21_2 (fun x hx => by cases hx)))), (mem_cons' m22_160 (mem_cons' m22_165 (mem_cons' m22_2 (fun x hx => by cases hx)))), (mem_cons' m23_160 (mem_cons' m23_165 (mem_cons' m23_2 (fun x hx => by cases hx)))), (mem_cons' m65_32 (mem_cons' m65_6 (fun x hx => by cases hx))), c5_26_4⟩
theorem k5_26 (j : Nat) (hj : j < 5) : Good5 26 j := by
  match j, hj with
  | 0, _ => exact k5_26_0
  | 1, _ => exact k5_26_1
  | 2, _ => exact k5_26_2
  | 3, _ => exact k5_26_3
  | 4, _ => exact k5_26_4
  | (n + 5), h => exact absurd h (by omega)
theorem k5_27_0 : Good5 27 0 := ⟨_, _, _, _, (mem_cons' m21_166 (mem_cons' m21_167 (mem_cons' m21_2 (fun x hx => by cases hx)))), (mem_cons' m22_166 (mem_cons' m22_167 (mem_cons' m22_2 (fun x hx => by cases hx)))), (mem_cons' m23_166 (mem_cons' m23_167 (mem_cons' m23_2 (fun x hx => by cases hx)))), (mem_cons' m65_33 (mem_cons' m65_1 (fun x hx => by cases hx))), c5_27_0⟩
theorem k5_27_1 : Good5 27 1 := ⟨_, _, _, _, (mem_cons' m21_166 (mem_cons' m21_168 (mem_cons' m21_2 (fun x hx => by cases hx)))), (mem_cons' m22_166 (mem_cons' m22_168 (mem_cons' m22_2 (fun x hx => by cases hx)))), (mem_cons' m23_166 (mem_cons' m23_168 (mem_cons' m23_2 (fun x hx => by cases hx)))), (mem_cons' m65_33 (mem_cons' m65_3 (fun x hx => by cases hx))), c5_27_1⟩
theorem k5_27_2 : Good5 27 2 := ⟨_, _, _, _, (mem_cons' m21_166 (mem_cons' m21_169 (mem_cons' m21_2 (fun x hx => by cases hx)))), (mem_cons' m22_166 (mem_cons' m22_169 (mem_cons' m22_2 (fun x hx => by cases hx)))), (mem_cons' m23_166 (mem_cons' m23_169 (mem_cons' m23_2 (fun x hx => by cases hx)))), (mem_cons' m65_33 (mem_cons' m65_4 (fun x hx => by cases hx))), c5_27_2⟩
theorem k5_27_3 : Good5 27 3 := ⟨_, _, _, _, (mem_cons' m21_166 (mem_cons' m21_170 (mem_cons' m21_2 (fun x hx => by cases hx)))), (mem_cons' m22_166 (mem_cons' m22_170 (mem_cons' m22_2 (fun x hx => by cases hx)))), (mem_cons' m23_166 (mem_cons' m23_170 (mem_cons' m23_2 (fun x hx => by cases hx)))), (mem_cons' m65_33 (mem_cons' m65_5 (fun x hx => by cases hx))), c5_27_3⟩
theorem k5_27_4 : Good5 27 4 := ⟨_, _, _, _, (mem_cons' m21_166 (mem_cons' m21_171 (mem_cons' m21_2 (fun x hx => by cases hx)))), (mem_cons' m22_166 (mem_cons' m22_171 (mem_cons' m22_2 (fun x hx => by cases hx)))), (mem_cons' m23_166 (mem_cons' m23_171 (mem_cons' m23_2 (fun x hx => by cases hx)))), (mem_cons' m65_33 (mem_cons' m65_6 (fun x hx => by cases hx))), c5_27_4⟩
theorem k5_27 (j : Nat) (hj : j < 5) : Good5 27 j := by
  match j, hj with
  | 0, _ => exact k5_27_0
  | 1, _ => exact k5_27_1
  | 2, _ => exact k5_27_2
  | 3, _ => exact k5_27_3
  | 4, _ => exact k5_27_4
  | (n + 5), h => exact absurd h (by omega)
theorem k5_28_0 : Good5 28 0 := ⟨_, _, _, _, (mem_cons' m21_172 (mem_cons' m21_173 (mem_cons' m21_2 (fun x hx => by cases hx)))), (mem_cons' m22_172 (mem_cons' m22_173 (mem_cons' m22_2 (fun x hx => by cases hx)))), (mem_cons' m23_172 (mem_cons' m23_173 (mem_cons' m23_2 (fun x hx => by cases hx)))), (mem_cons' m65_34 (mem_cons' m65_1 (fun x hx => by cases hx))), c5_28_0⟩
theorem k5_28_1 : Good5 28 1 := ⟨_, _, _, _, (mem_cons' m21_172 (mem_cons' m21_174 (mem_cons' m21_2 (fun x hx => by cases hx)))), (mem_cons' m22_172 (mem_cons' m22_174 (mem_cons' m22_2 (fun x hx => by cases hx)))), (mem_cons' m23_172 (mem_cons' m23_174 (mem_cons' m23_2 (fun x hx => by cases hx)))), (mem_cons' m65_34 (mem_cons' m65_3 (fun x hx => by cases hx))), c5_28_1⟩
theorem k5_28_2 : Good5 28 2 := ⟨_, _, _, _, (mem_cons' m21_172 (mem_cons' m21_175 (mem_cons' m21_2 (fun x hx => by cases hx)))), (mem_cons' m22_172 (mem_cons' m22_175 (mem_cons' m22_2 (fun x hx => by cases hx)))), (mem_cons' m23_172 (mem_cons' m23_175 (mem_cons' m23_2 (fun x hx => by cases hx)))), (mem_cons' m65_34 (mem_cons' m65_4 (fun x hx => by cases hx))), c5_28_2⟩
theorem k5_28_3 : Good5 28 3 := ⟨_, _, _, _, (mem_cons' m21_172 (mem_cons' m21_176 (mem_cons' m21_2 (fun x hx => by cases hx)))), (mem_cons' m22_172 (mem_cons' m22_176 (mem_cons' m22_2 (fun x hx => by cases hx)))), (mem_cons' m23_172 (mem_cons' m23_176 (mem_cons' m23_2 (fun x hx => by cases hx)))), (mem_cons' m65_34 (mem_cons' m65_5 (fun x hx => by cases hx))), c5_28_3⟩
theorem k5_28_4 : Good5 28 4 := ⟨_, _, _, _, (mem_cons' m21_172 (mem_cons' m21_177 (mem_cons' m21_2 (fun x hx => by cases hx)))), (mem_cons' m22_172 (mem_cons' m22_177 (mem_cons' m22_2 (fun x hx => by cases hx)))), (mem_cons' m23_172 (mem_cons' m23_177 (mem_cons' m23_2 (fun x hx => by cases hx)))), (mem_cons' m65_34 (mem_cons' m65_6 (fun x hx => by cases hx))), c5_28_4⟩
theorem k5_28 (j : Nat) (hj : j < 5) : Good5 28 j := by
  match j, hj with
  | 0, _ => exact k5_28_0
  | 1, _ => exact k5_28_1
  | 2, _ => exact k5_28_2
  | 3, _ => exact k5_28_3
  | 4, _ => exact k5_28_4
  | (n + 5), h => exact absurd h (by omega)
theorem k5_29_0 : Good5 29 0 := ⟨_, _, _, _, (mem_cons' m21_178 (mem_cons' m21_179 (mem_cons' m21_2 (fun x hx => by cases hx)))), (mem_cons' m22_178 (mem_cons' m22_179 (mem_cons' m22_2 (fun x hx => by cases hx)))), (mem_cons' m23_178 (mem_cons' m23_179 (mem_cons' m23_2 (fun x hx => by cases hx)))), (mem_cons' m65_35 (mem_cons' m65_1 (fun x hx => by cases hx))), c5_29_0⟩
theorem k5_29_1 : Good5 29 1 := ⟨_, _, _, _, (mem_cons' m21_178 (mem_cons' m21_180 (mem_cons' m21_2 (fun x hx => by cases hx)))), (mem_cons' m22_178 (mem_cons' m22_180 (mem_cons' m22_2 (fun x hx => by cases hx)))), (mem_cons' m23_178 (mem_cons' m23_180 (mem_cons' m23_2 (fun x hx => by cases hx)))), (mem_cons' m65_35 (mem_cons' m65_3 (fun x hx => by cases hx))), c5_29_1⟩
theorem k5_29_2 : Good5 29 2 := ⟨_, _, _, _, (mem_cons' m21_178 (mem_cons' m21_181 (mem_cons' m21_2 (fun x hx => by cases hx)))), (mem_cons' m22_178 (mem_cons' m22_181 (mem_cons' m22_2 (fun x hx => by cases hx)))), (mem_cons' m23_178 (mem_cons' m23_181 (mem_cons' m23_2 (fun x hx => by cases hx)))), (mem_cons' m65_35 (mem_cons' m65_4 (fun x hx => by cases hx))), c5_29_2⟩
theorem k5_29_3 : Good5 29 3 := ⟨_, _, _, _, (mem_cons' m21_178 (mem_cons' m21_182 (mem_cons' m21_2 (fun x hx => by cases hx)))), (mem_cons' m22_178 (mem_cons' m22_182 (mem_cons' m22_2 (fun x hx => by cases hx)))), (mem_cons' m23_178 (mem_cons' m23_182 (mem_cons' m23_2 (fun x hx => by cases hx)))), (mem_cons' m65_35 (mem_cons' m65_5 (fun x hx => by cases hx))), c5_29_3⟩
theorem k5_29_4 : Good5 29 4 := ⟨_, _, _, _, (mem_cons' m21_178 (mem_cons' m21_183 (mem_cons' m21_2 (fun x hx => by cases hx)))), (mem_cons' m22_178 (mem_cons' m22_183 (mem_cons' m22_2 (fun x hx => by cases hx)))), (mem_cons' m23_178 (mem_cons' m23_183 (mem_cons' m23_2 (fun x hx => by cases hx)))), (mem_cons' m65_35 (mem_cons' m65_6 (fun x hx => by cases hx))), c5_29_4⟩
theorem k5_29 (j : Nat) (hj : j < 5) : Good5 29 j := by
  match j, hj with
  | 0, _ => exact k5_29_0
  | 1, _ => exact k5_29_1
  | 2, _ => exact k5_29_2
  | 3, _ => exact k5_29_3
  | 4, _ => exact k5_29_4
  | (n + 5), h => exact absurd h (by omega)
theorem k5_all (k j : Nat) (hk : k < 30) (hj : j < 5) : Good5 k j := by
  match k, hk with
  | 0, _ => exact k5_0 j hj
  | 1, _ => exact k5_1 j hj
  | 2, _ => exact k5_2 j hj
  | 3, _ => exact k5_3 j hj
  | 4, _ => exact k5_4 j hj
  | 5, _ => exact k5_5 j hj
  | 6, _ => exact k5_6 j hj
  | 7, _ => exact k5_7 j hj
  | 8, _ => exact k5_8 j hj
  | 9, _ => exact k5_9 j hj
  | 10, _ => exact k5_10 j hj
  | 11, _ => exact k5_11 j hj
  | 12, _ => exact k5_12 j hj
  | 13, _ => exact k5_13 j hj
  | 14, _ => exact k5_14 j hj
  | 15, _ => exact k5_15 j hj
  | 16, _ => exact k5_16 j hj
  | 17, _ => exact k5_17 j hj
  | 18, _ => exact k5_18 j hj
  | 19, _ => exact k5_19 j hj
  | 20, _ => exact k5_20 j hj
  | 21, _ => exact k5_21 j hj
  | 22, _ => exact k5_22 j hj
  | 23, _ => exact k5_23 j hj
  | 24, _ => exact k5_24 j hj
  | 25, _ => exact k5_25 j hj
  | 26, _ => exact k5_26 j hj
  | 27, _ => exact k5_27 j hj
  | 28, _ => exact k5_28 j hj
  | 29, _ => exact k5_29 j hj
  | (n + 30), h => exact absurd h (by omega)
end Go.Am
