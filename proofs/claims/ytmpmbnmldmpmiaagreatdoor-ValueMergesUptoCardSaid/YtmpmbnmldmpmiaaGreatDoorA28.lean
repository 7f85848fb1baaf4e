/- Texts of this claim, put together. -/
import Derived.Test.YtmpmbnmldmpmiaaGreatDoorShort
import Derived.Test.YtmpmbnmldmpmiaaGreatDoorA0
namespace Go.Proofs.YtmpmbnmldmpmiaaGreatDoor.A
open Go.RowKit Go.Proofs.YtmpmbnmldmpmiaaGreatDoorW.PrintWords Go.Proofs.YtmpmbnmldmpmiaaGreatDoorW.PrintLast Go.Proofs.YtmpmbnmldmpmiaaGreatDoorW.PrintMore Go.Proofs.YtmpmbnmldmpmiaaGreatDoorW.Short
attribute [local go_sem] max2_int min2_int max_two min_two max_three min_three max_four min_four   -- for this text's walks alone
set_option linter.unusedVariables false
set_option linter.unusedSimpArgs false
end Go.Proofs.YtmpmbnmldmpmiaaGreatDoor.A
namespace Go.Proofs.YtmpmbnmldmpmiaaGreatDoor.A
open Go.RowKit Go.Proofs.YtmpmbnmldmpmiaaGreatDoorW.PrintWords Go.Proofs.YtmpmbnmldmpmiaaGreatDoorW.PrintLast Go.Proofs.YtmpmbnmldmpmiaaGreatDoorW.PrintMore Go.Proofs.YtmpmbnmldmpmiaaGreatDoorW.Short
attribute [local go_sem] max2_int min2_int max_two min_two max_three min_three max_four min_four   -- for this text's walks alone
set_option linter.unusedVariables false
set_option linter.unusedSimpArgs false
mutual
def colanderref03_room.l0 : Nat → Int → Int → Int → Int → Int → Nat → ByteArray → List (S27) → List ByteArray → Option (Int × Int)
 | 0, _, _, _, _, _, _, _, _, _ => none
 | k + 1, x1, x2, x3, x10, x606000, x606001, x606002, x606003, x606004 => if x10 < (x606004.length : Int) then (if 0 ≤ x10 then (colanderref03_room.l0 k x1 (wrap64 (x2 - ((rdOf ByteArray.empty x606004 x10).size : Int))) x3 (wrap64 (x10 + 1)) x606000 x606001 x606002 x606003 x606004) else (none)) else (colanderref03_room.l1 k x1 x2 x3 0 x606000 x606001 x606002 x606003 x606004)
def colanderref03_room.l1 : Nat → Int → Int → Int → Int → Int → Nat → ByteArray → List (S27) → List ByteArray → Option (Int × Int)
 | 0, _, _, _, _, _, _, _, _, _ => none
 | k + 1, x1, x2, x3, x11, x606000, x606001, x606002, x606003, x606004 => if x11 < (x606003.length : Int) then (if x1 ≥ 0 then (if x2 ≥ 0 then (if 0 ≤ x11 then ((colanderref03_room.f k ((rd_T27 x606003 x11).f0) ((rd_T27 x606003 x11).f1) ((rd_T27 x606003 x11).f2) ((rd_T27 x606003 x11).f3) ((rd_T27 x606003 x11).f4) x1 x2 (wrap64 (x3 - 1))).bind fun bt608 => (colanderref03_room.l1 k bt608.1 bt608.2 x3 (wrap64 (x11 + 1)) x606000 x606001 x606002 x606003 x606004)) else (none)) else (some (x1, x2))) else (some (x1, x2))) else (some (x1, x2))
def colanderref03_room.f : Nat → Int → Nat → ByteArray → List (S27) → List ByteArray → Int → Int → Int → Option (Int × Int)
 | 0, _, _, _, _, _, _, _, _ => none
 | k + 1, a0_0, a0_1, a0_2, l0_3, l0_4, a1, a2, a3 => if a3 < 1 then (some ((-1), (-1))) else (colanderref03_room.l0 k (wrap64 (a1 - 1)) (wrap64 (a2 - (a0_2.size : Int))) a3 0 a0_0 a0_1 a0_2 l0_3 l0_4)
end
end Go.Proofs.YtmpmbnmldmpmiaaGreatDoor.A
namespace Go.Proofs.YtmpmbnmldmpmiaaGreatDoor.A
open Go.RowKit Go.Proofs.YtmpmbnmldmpmiaaGreatDoorW.PrintWords Go.Proofs.YtmpmbnmldmpmiaaGreatDoorW.PrintLast Go.Proofs.YtmpmbnmldmpmiaaGreatDoorW.PrintMore Go.Proofs.YtmpmbnmldmpmiaaGreatDoorW.Short
attribute [local go_sem] max2_int min2_int max_two min_two max_three min_three max_four min_four   -- for this text's walks alone
set_option linter.unusedVariables false
set_option linter.unusedSimpArgs false
def colanderref03_Large.f (k : Nat) (a0_0 : Int) (a0_1 : Nat) (a0_2 : ByteArray) (l0_3 : List (S27)) (l0_4 : List ByteArray) : Option (Bool) := (colanderref03_room.f k a0_0 a0_1 a0_2 l0_3 l0_4 65536 1048576 10000).bind fun bt611 => (if bt611.1 < 0 then (some true) else (some (decide (bt611.2 < 0))))
end Go.Proofs.YtmpmbnmldmpmiaaGreatDoor.A
