import Derived.Test.YthncmdkiljcjnaaGreatDoorCase0
import Derived.Test.YthncmdkiljcjnaaGreatDoorCase1
import Derived.Test.YthncmdkiljcjnaaGreatDoorCase2
import Derived.Test.YthncmdkiljcjnaaGreatDoorCase3
import Derived.Test.YthncmdkiljcjnaaGreatDoorCase4
import Derived.Test.YthncmdkiljcjnaaGreatDoorCase5
import Derived.Test.YthncmdkiljcjnaaGreatDoorCase6
import Derived.Test.YthncmdkiljcjnaaGreatDoorCase7
import Derived.Test.YthncmdkiljcjnaaGreatDoorCase8
import Derived.Test.YthncmdkiljcjnaaGreatDoorCase9
import Derived.Test.YthncmdkiljcjnaaGreatDoorCase10
import Derived.Test.YthncmdkiljcjnaaGreatDoorCase11
set_option linter.all false
set_option maxRecDepth 100000
namespace Go.Am
open Go
theorem c3_all (k j : Nat) (hk : k < 12) (hj : j < 14) : isT (R3 k j) = true := by
  match k, hk with
  | 0, _ => exact c3_0 j hj
  | 1, _ => exact c3_1 j hj
  | 2, _ => exact c3_2 j hj
  | 3, _ => exact c3_3 j hj
  | 4, _ => exact c3_4 j hj
  | 5, _ => exact c3_5 j hj
  | 6, _ => exact c3_6 j hj
  | 7, _ => exact c3_7 j hj
  | 8, _ => exact c3_8 j hj
  | 9, _ => exact c3_9 j hj
  | 10, _ => exact c3_10 j hj
  | 11, _ => exact c3_11 j hj
  | (n + 12), h => exact absurd h (by omega)
end Go.Am
