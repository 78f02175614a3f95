/- Laid by a program of this session out of the kit's print for the law FnExactMedian: what it says of the machine is proved here, function by function; each contract under the conditions that it names. -/
import Derived.Test.YtbmkobanpakohaaMFnExactMedianx0
namespace Go.Proofs.Ytbmkobanpakohaa.PFnExactMedian
open Go.RowKit Go.Proofs.YtbmkobanpakohaaW.PrintWords Go.Proofs.YtbmkobanpakohaaW.PrintLast Go.Proofs.YtbmkobanpakohaaW.PrintMore
attribute [local go_sem] max2_int min2_int max_two min_two max_three min_three max_four min_four   -- for this text's walks alone
set_option linter.unusedVariables false
set_option linter.unusedSimpArgs false

/-! ### spec_l8Forest: function 83 -/
mutual
def spec_l8Forest.l0 : Nat → Int → Int → List Int → List Int → List Int → Int → Int → List Int → Int → List Int → List Int → List Int → List Int → List Int → List Int → List Int → Option (List Int × List Int)
 | 0, _, _, _, _, _, _, _, _, _, _, _, _, _, _, _, _ => none
 | k + 1, x1, x2, x3, x9, x10, x11, x12, x13, x14, x268000, x268001, x268002, x268003, x268004, x268005, x268006 => if x14 ≤ x1 then (if 0 ≤ x1 then (if x1 < (x9.length : Int) then (if 0 ≤ (wrap64 ((wrap64 ((wrap64 ((wrap64 (x14 - (rd x9 x1))) + 1)) - 1)) * x11)) then (if (wrap64 ((wrap64 ((wrap64 ((wrap64 (x14 - (rd x9 x1))) + 1)) - 1)) * x11)) < (x13.length : Int) then (if 0 ≤ x14 then (if x14 < (x268000.length : Int) then (if 0 ≤ (rd x268000 x14) then (if (rd x268000 x14) < (x268004.length : Int) then (if 0 ≤ (wrap64 ((wrap64 ((wrap64 (x14 - (rd x9 x1))) + 1)) * x11)) then (if (wrap64 ((wrap64 ((wrap64 (x14 - (rd x9 x1))) + 1)) * x11)) < (x13.length : Int) then (spec_l8Forest.l0 k x1 x2 x3 x9 x10 x11 x12 (x13.set ((wrap64 ((wrap64 ((wrap64 (x14 - (rd x9 x1))) + 1)) * x11)) : Int).toNat (wrap64 ((rd x13 (wrap64 ((wrap64 ((wrap64 ((wrap64 (x14 - (rd x9 x1))) + 1)) - 1)) * x11))) + (rd x268004 (rd x268000 x14))))) (wrap64 (x14 + 1)) x268000 x268001 x268002 x268003 x268004 x268005 x268006) else (none)) else (none)) else (none)) else (none)) else (none)) else (none)) else (none)) else (none)) else (none)) else (none)) else (if 0 ≤ x2 then (if x2 < (x10.length : Int) then (spec_l8Forest.l1 k x1 x2 x3 x9 x10 x11 x12 x13 (rd x10 x2) x268000 x268001 x268002 x268003 x268004 x268005 x268006) else (none)) else (none))
def spec_l8Forest.l1 : Nat → Int → Int → List Int → List Int → List Int → Int → Int → List Int → Int → List Int → List Int → List Int → List Int → List Int → List Int → List Int → Option (List Int × List Int)
 | 0, _, _, _, _, _, _, _, _, _, _, _, _, _, _, _, _ => none
 | k + 1, x1, x2, x3, x9, x10, x11, x12, x13, x16, x268000, x268001, x268002, x268003, x268004, x268005, x268006 => if x16 ≤ x2 then (if 0 ≤ x2 then (if x2 < (x10.length : Int) then (if 0 ≤ (wrap64 (x16 - (rd x10 x2))) then (if (wrap64 (x16 - (rd x10 x2))) < (x13.length : Int) then (if 0 ≤ x16 then (if x16 < (x268001.length : Int) then (if 0 ≤ (rd x268001 x16) then (if (rd x268001 x16) < (x268005.length : Int) then (if 0 ≤ (wrap64 ((wrap64 (x16 - (rd x10 x2))) + 1)) then (if (wrap64 ((wrap64 (x16 - (rd x10 x2))) + 1)) < (x13.length : Int) then (spec_l8Forest.l1 k x1 x2 x3 x9 x10 x11 x12 (x13.set ((wrap64 ((wrap64 (x16 - (rd x10 x2))) + 1)) : Int).toNat (wrap64 ((rd x13 (wrap64 (x16 - (rd x10 x2)))) + (rd x268005 (rd x268001 x16))))) (wrap64 (x16 + 1)) x268000 x268001 x268002 x268003 x268004 x268005 x268006) else (none)) else (none)) else (none)) else (none)) else (none)) else (none)) else (none)) else (none)) else (none)) else (none)) else (if 0 ≤ x1 then (if x1 < (x9.length : Int) then (spec_l8Forest.l2 k x1 x2 x3 x9 x10 x11 x12 x13 (rd x9 x1) x268000 x268001 x268002 x268003 x268004 x268005 x268006) else (none)) else (none))
def spec_l8Forest.l2 : Nat → Int → Int → List Int → List Int → List Int → Int → Int → List Int → Int → List Int → List Int → List Int → List Int → List Int → List Int → List Int → Option (List Int × List Int)
 | 0, _, _, _, _, _, _, _, _, _, _, _, _, _, _, _, _ => none
 | k + 1, x1, x2, x3, x9, x10, x11, x12, x13, x17, x268000, x268001, x268002, x268003, x268004, x268005, x268006 => if x17 ≤ x1 then (if 0 ≤ x2 then (if x2 < (x10.length : Int) then (spec_l8Forest.l3 k x1 x2 x3 x9 x10 x11 x12 x13 x17 (rd x10 x2) x268000 x268001 x268002 x268003 x268004 x268005 x268006) else (none)) else (none)) else (some (x13, x3))
def spec_l8Forest.l3 : Nat → Int → Int → List Int → List Int → List Int → Int → Int → List Int → Int → Int → List Int → List Int → List Int → List Int → List Int → List Int → List Int → Option (List Int × List Int)
 | 0, _, _, _, _, _, _, _, _, _, _, _, _, _, _, _, _, _ => none
 | k + 1, x1, x2, x3, x9, x10, x11, x12, x13, x17, x18, x268000, x268001, x268002, x268003, x268004, x268005, x268006 => if x18 ≤ x2 then (if 0 ≤ x1 then (if x1 < (x9.length : Int) then (if 0 ≤ x2 then (if x2 < (x10.length : Int) then (if 0 ≤ (wrap64 ((wrap64 ((wrap64 ((wrap64 ((wrap64 (x17 - (rd x9 x1))) + 1)) - 1)) * x11)) + (wrap64 ((wrap64 (x18 - (rd x10 x2))) + 1)))) then (if (wrap64 ((wrap64 ((wrap64 ((wrap64 ((wrap64 (x17 - (rd x9 x1))) + 1)) - 1)) * x11)) + (wrap64 ((wrap64 (x18 - (rd x10 x2))) + 1)))) < (x13.length : Int) then (if 0 ≤ x17 then (if x17 < (x268000.length : Int) then (if 0 ≤ (rd x268000 x17) then (if (rd x268000 x17) < (x268004.length : Int) then (if 0 ≤ (wrap64 ((wrap64 ((wrap64 ((wrap64 ((wrap64 (x17 - (rd x9 x1))) + 1)) * x11)) + (wrap64 ((wrap64 (x18 - (rd x10 x2))) + 1)))) - 1)) then (if (wrap64 ((wrap64 ((wrap64 ((wrap64 ((wrap64 (x17 - (rd x9 x1))) + 1)) * x11)) + (wrap64 ((wrap64 (x18 - (rd x10 x2))) + 1)))) - 1)) < (x13.length : Int) then (if 0 ≤ x18 then (if x18 < (x268001.length : Int) then (if 0 ≤ (rd x268001 x18) then (if (rd x268001 x18) < (x268005.length : Int) then (if x17 < (x9.length : Int) then (if (rd x9 x17) = (rd x9 x1) then (if x18 < (x10.length : Int) then (if (rd x10 x18) = (rd x10 x2) then (if 0 ≤ (wrap64 ((wrap64 ((wrap64 ((wrap64 ((wrap64 ((wrap64 (x17 - (rd x9 x1))) + 1)) - 1)) * x11)) + (wrap64 ((wrap64 (x18 - (rd x10 x2))) + 1)))) - 1)) then (if (wrap64 ((wrap64 ((wrap64 ((wrap64 ((wrap64 ((wrap64 (x17 - (rd x9 x1))) + 1)) - 1)) * x11)) + (wrap64 ((wrap64 (x18 - (rd x10 x2))) + 1)))) - 1)) < (x13.length : Int) then (if 0 ≤ (wrap64 ((wrap64 ((rd x268000 x17) * 6)) + (rd x268001 x18))) then (if (wrap64 ((wrap64 ((rd x268000 x17) * 6)) + (rd x268001 x18))) < (x268006.length : Int) then (if 0 ≤ (wrap64 ((wrap64 (x17 * x12)) + x18)) then (if (wrap64 ((wrap64 (x17 * x12)) + x18)) < (x3.length : Int) then (if 0 ≤ (wrap64 ((wrap64 ((wrap64 ((wrap64 (x17 - (rd x9 x1))) + 1)) * x11)) + (wrap64 ((wrap64 (x18 - (rd x10 x2))) + 1)))) then (if (wrap64 ((wrap64 ((wrap64 ((wrap64 (x17 - (rd x9 x1))) + 1)) * x11)) + (wrap64 ((wrap64 (x18 - (rd x10 x2))) + 1)))) < (x13.length : Int) then (spec_l8Forest.l3 k x1 x2 (x3.set ((wrap64 ((wrap64 (x17 * x12)) + x18)) : Int).toNat (mn (mn (wrap64 ((rd x13 (wrap64 ((wrap64 ((wrap64 ((wrap64 ((wrap64 (x17 - (rd x9 x1))) + 1)) - 1)) * x11)) + (wrap64 ((wrap64 (x18 - (rd x10 x2))) + 1))))) + (rd x268004 (rd x268000 x17)))) (wrap64 ((rd x13 (wrap64 ((wrap64 ((wrap64 ((wrap64 ((wrap64 (x17 - (rd x9 x1))) + 1)) * x11)) + (wrap64 ((wrap64 (x18 - (rd x10 x2))) + 1)))) - 1))) + (rd x268005 (rd x268001 x18))))) (wrap64 ((rd x13 (wrap64 ((wrap64 ((wrap64 ((wrap64 ((wrap64 ((wrap64 (x17 - (rd x9 x1))) + 1)) - 1)) * x11)) + (wrap64 ((wrap64 (x18 - (rd x10 x2))) + 1)))) - 1))) + (rd x268006 (wrap64 ((wrap64 ((rd x268000 x17) * 6)) + (rd x268001 x18)))))))) x9 x10 x11 x12 (x13.set ((wrap64 ((wrap64 ((wrap64 ((wrap64 (x17 - (rd x9 x1))) + 1)) * x11)) + (wrap64 ((wrap64 (x18 - (rd x10 x2))) + 1)))) : Int).toNat (mn (mn (wrap64 ((rd x13 (wrap64 ((wrap64 ((wrap64 ((wrap64 ((wrap64 (x17 - (rd x9 x1))) + 1)) - 1)) * x11)) + (wrap64 ((wrap64 (x18 - (rd x10 x2))) + 1))))) + (rd x268004 (rd x268000 x17)))) (wrap64 ((rd x13 (wrap64 ((wrap64 ((wrap64 ((wrap64 ((wrap64 (x17 - (rd x9 x1))) + 1)) * x11)) + (wrap64 ((wrap64 (x18 - (rd x10 x2))) + 1)))) - 1))) + (rd x268005 (rd x268001 x18))))) (wrap64 ((rd x13 (wrap64 ((wrap64 ((wrap64 ((wrap64 ((wrap64 ((wrap64 (x17 - (rd x9 x1))) + 1)) - 1)) * x11)) + (wrap64 ((wrap64 (x18 - (rd x10 x2))) + 1)))) - 1))) + (rd x268006 (wrap64 ((wrap64 ((rd x268000 x17) * 6)) + (rd x268001 x18)))))))) x17 (wrap64 (x18 + 1)) x268000 x268001 x268002 x268003 x268004 x268005 x268006) else (none)) else (none)) else (none)) else (none)) else (none)) else (none)) else (none)) else (none)) else (if 0 ≤ (wrap64 ((wrap64 ((wrap64 ((wrap64 ((rd x9 x17) - (rd x9 x1))) * x11)) + (rd x10 x18))) - (rd x10 x2))) then (if (wrap64 ((wrap64 ((wrap64 ((wrap64 ((rd x9 x17) - (rd x9 x1))) * x11)) + (rd x10 x18))) - (rd x10 x2))) < (x13.length : Int) then (if 0 ≤ (wrap64 ((wrap64 (x17 * x12)) + x18)) then (if (wrap64 ((wrap64 (x17 * x12)) + x18)) < (x3.length : Int) then (if 0 ≤ (wrap64 ((wrap64 ((wrap64 ((wrap64 (x17 - (rd x9 x1))) + 1)) * x11)) + (wrap64 ((wrap64 (x18 - (rd x10 x2))) + 1)))) then (if (wrap64 ((wrap64 ((wrap64 ((wrap64 (x17 - (rd x9 x1))) + 1)) * x11)) + (wrap64 ((wrap64 (x18 - (rd x10 x2))) + 1)))) < (x13.length : Int) then (spec_l8Forest.l3 k x1 x2 x3 x9 x10 x11 x12 (x13.set ((wrap64 ((wrap64 ((wrap64 ((wrap64 (x17 - (rd x9 x1))) + 1)) * x11)) + (wrap64 ((wrap64 (x18 - (rd x10 x2))) + 1)))) : Int).toNat (mn (mn (wrap64 ((rd x13 (wrap64 ((wrap64 ((wrap64 ((wrap64 ((wrap64 (x17 - (rd x9 x1))) + 1)) - 1)) * x11)) + (wrap64 ((wrap64 (x18 - (rd x10 x2))) + 1))))) + (rd x268004 (rd x268000 x17)))) (wrap64 ((rd x13 (wrap64 ((wrap64 ((wrap64 ((wrap64 ((wrap64 (x17 - (rd x9 x1))) + 1)) * x11)) + (wrap64 ((wrap64 (x18 - (rd x10 x2))) + 1)))) - 1))) + (rd x268005 (rd x268001 x18))))) (wrap64 ((rd x13 (wrap64 ((wrap64 ((wrap64 ((wrap64 ((rd x9 x17) - (rd x9 x1))) * x11)) + (rd x10 x18))) - (rd x10 x2)))) + (rd x3 (wrap64 ((wrap64 (x17 * x12)) + x18))))))) x17 (wrap64 (x18 + 1)) x268000 x268001 x268002 x268003 x268004 x268005 x268006) else (none)) else (none)) else (none)) else (none)) else (none)) else (none))) else (none)) else (if x18 < (x10.length : Int) then (if 0 ≤ (wrap64 ((wrap64 ((wrap64 ((wrap64 ((rd x9 x17) - (rd x9 x1))) * x11)) + (rd x10 x18))) - (rd x10 x2))) then (if (wrap64 ((wrap64 ((wrap64 ((wrap64 ((rd x9 x17) - (rd x9 x1))) * x11)) + (rd x10 x18))) - (rd x10 x2))) < (x13.length : Int) then (if 0 ≤ (wrap64 ((wrap64 (x17 * x12)) + x18)) then (if (wrap64 ((wrap64 (x17 * x12)) + x18)) < (x3.length : Int) then (if 0 ≤ (wrap64 ((wrap64 ((wrap64 ((wrap64 (x17 - (rd x9 x1))) + 1)) * x11)) + (wrap64 ((wrap64 (x18 - (rd x10 x2))) + 1)))) then (if (wrap64 ((wrap64 ((wrap64 ((wrap64 (x17 - (rd x9 x1))) + 1)) * x11)) + (wrap64 ((wrap64 (x18 - (rd x10 x2))) + 1)))) < (x13.length : Int) then (spec_l8Forest.l3 k x1 x2 x3 x9 x10 x11 x12 (x13.set ((wrap64 ((wrap64 ((wrap64 ((wrap64 (x17 - (rd x9 x1))) + 1)) * x11)) + (wrap64 ((wrap64 (x18 - (rd x10 x2))) + 1)))) : Int).toNat (mn (mn (wrap64 ((rd x13 (wrap64 ((wrap64 ((wrap64 ((wrap64 ((wrap64 (x17 - (rd x9 x1))) + 1)) - 1)) * x11)) + (wrap64 ((wrap64 (x18 - (rd x10 x2))) + 1))))) + (rd x268004 (rd x268000 x17)))) (wrap64 ((rd x13 (wrap64 ((wrap64 ((wrap64 ((wrap64 ((wrap64 (x17 - (rd x9 x1))) + 1)) * x11)) + (wrap64 ((wrap64 (x18 - (rd x10 x2))) + 1)))) - 1))) + (rd x268005 (rd x268001 x18))))) (wrap64 ((rd x13 (wrap64 ((wrap64 ((wrap64 ((wrap64 ((rd x9 x17) - (rd x9 x1))) * x11)) + (rd x10 x18))) - (rd x10 x2)))) + (rd x3 (wrap64 ((wrap64 (x17 * x12)) + x18))))))) x17 (wrap64 (x18 + 1)) x268000 x268001 x268002 x268003 x268004 x268005 x268006) else (none)) else (none)) else (none)) else (none)) else (none)) else (none)) else (none))) else (none)) else (none)) else (none)) else (none)) else (none)) else (none)) else (none)) else (none)) else (none)) else (none)) else (none)) else (none)) else (none)) else (none)) else (none)) else (none)) else (none)) else (spec_l8Forest.l2 k x1 x2 x3 x9 x10 x11 x12 x13 (wrap64 (x17 + 1)) x268000 x268001 x268002 x268003 x268004 x268005 x268006)
end
def spec_l8Forest.f (k : Nat) (l0_0 : List Int) (l0_1 : List Int) (l0_2 : List Int) (l0_3 : List Int) (l0_4 : List Int) (l0_5 : List Int) (l0_6 : List Int) (a1 : Int) (a2 : Int) (l3 : List Int) : Option (List Int × List Int) := if 0 ≤ a2 then (if a2 < (l0_3.length : Int) then (if 0 ≤ a1 then (if a1 < (l0_2.length : Int) then (if 0 ≤ (wrap64 ((wrap64 ((wrap64 (a1 - (rd l0_2 a1))) + 2)) * (wrap64 ((wrap64 (a2 - (rd l0_3 a2))) + 2)))) then (if (wrap64 ((wrap64 ((wrap64 (a1 - (rd l0_2 a1))) + 2)) * (wrap64 ((wrap64 (a2 - (rd l0_3 a2))) + 2))) : Int).toNat ≤ 35184372088832 then (spec_l8Forest.l0 k a1 a2 l3 l0_2 l0_3 (wrap64 ((wrap64 (a2 - (rd l0_3 a2))) + 2)) (l0_3.length : Int) (List.replicate (wrap64 ((wrap64 ((wrap64 (a1 - (rd l0_2 a1))) + 2)) * (wrap64 ((wrap64 (a2 - (rd l0_3 a2))) + 2))) : Int).toNat 0) (rd l0_2 a1) l0_0 l0_1 l0_2 l0_3 l0_4 l0_5 l0_6) else (none)) else (none)) else (none)) else (none)) else (none)) else (none)
def spec_l8Forest.T10 : Bool × List (List Nat × List Nat) := (true, [([], []), ([], []), ([], []), ([1, 2], [1, 2]), ([], []), ([], []), ([5], [5]), ([], []), ([6, 7], [6, 7]), ([4, 8], [4, 8]), ([9], [9]), ([], []), ([11], [11]), ([12], [12]), ([], []), ([14], [14]), ([], []), ([15, 16], [15, 16]), ([17], [17]), ([13, 18], [13, 18]), ([19], [19]), ([10, 20], [10, 20]), ([0, 3, 0, 1, 2, 3, 4, 5, 6, 7, 8, 9, 10, 11, 12, 13, 14, 15, 16, 17, 18, 19, 20, 21], [0, 3]), ([22, 21, 0, 1, 2, 3, 4, 5, 6, 7, 8, 9, 10, 11, 12, 13, 14, 15, 16, 17, 18, 19, 20, 21], [21, 22])])
def spec_l8Forest.B10 : List Nat := [0, 0, 0, 6, 0, 0, 32, 0, 224, 496, 1008, 0, 2048, 6144, 0, 16384, 0, 114688, 245760, 522240, 1046528, 2097136, 4194303, 8388607]
theorem spec_l8Forest.tab10 : rtab .any (opsOf Try.f83 10) = spec_l8Forest.T10 := by kernel_rfl
theorem spec_l8Forest.bits10 : waitsOk spec_l8Forest.T10.2 spec_l8Forest.B10 = true := by kernel_rfl
def spec_l8Forest.T14 : Bool × List (List Nat × List Nat) := (true, [([], []), ([], []), ([], []), ([], []), ([2, 3], [2, 3]), ([4], [4]), ([1, 5], [1, 5]), ([6], [6]), ([], []), ([], []), ([], []), ([], []), ([10, 11], [10, 11]), ([12], [12]), ([9, 13], [9, 13]), ([8, 14], [8, 14]), ([15], [15]), ([], []), ([17], [17]), ([18], [18]), ([], []), ([20], [20]), ([], []), ([21, 22], [21, 22]), ([23], [23]), ([19, 24], [19, 24]), ([25], [25]), ([16, 26], [16, 26]), ([0, 7, 0, 1, 2, 3, 4, 5, 6, 7, 8, 9, 10, 11, 12, 13, 14, 15, 16, 17, 18, 19, 20, 21, 22, 23, 24, 25, 26, 27], [0, 7]), ([28, 27, 0, 1, 2, 3, 4, 5, 6, 7, 8, 9, 10, 11, 12, 13, 14, 15, 16, 17, 18, 19, 20, 21, 22, 23, 24, 25, 26, 27], [27, 28])])
def spec_l8Forest.B14 : List Nat := [0, 0, 0, 0, 12, 28, 62, 126, 0, 0, 0, 0, 3072, 7168, 15872, 32512, 65280, 0, 131072, 393216, 0, 1048576, 0, 7340032, 15728640, 33423360, 66977792, 134217472, 268435455, 536870911]
theorem spec_l8Forest.tab14 : rtab .any (opsOf Try.f83 14) = spec_l8Forest.T14 := by kernel_rfl
theorem spec_l8Forest.bits14 : waitsOk spec_l8Forest.T14.2 spec_l8Forest.B14 = true := by kernel_rfl
def spec_l8Forest.T23 : Bool × List (List Nat × List Nat) := (true, [([], []), ([], []), ([1], [1]), ([], []), ([2, 3], [2, 3]), ([], []), ([4, 5], [4, 5]), ([0, 6], [0, 6]), ([7], [7]), ([], []), ([9], [9]), ([10], [10]), ([], []), ([12], [12]), ([], []), ([13, 14], [13, 14]), ([15], [15]), ([11, 16], [11, 16]), ([17], [17]), ([8, 18], [8, 18]), ([], []), ([], []), ([], []), ([21, 22], [21, 22]), ([], []), ([23, 24], [23, 24]), ([25], [25]), ([20, 26], [20, 26]), ([27], [27]), ([], []), ([29], [29]), ([30], [30]), ([], []), ([32], [32]), ([], []), ([33, 34], [33, 34]), ([35], [35]), ([31, 36], [31, 36]), ([37], [37]), ([28, 38], [28, 38]), ([19, 39], [19, 39]), ([40, 0, 1, 2, 3, 4, 5, 6, 7, 8, 9, 10, 11, 12, 13, 14, 15, 16, 17, 18, 19, 20, 21, 22, 23, 24, 25, 26, 27, 28, 29, 30, 31, 32, 33, 34, 35, 36, 37, 38, 39, 40], [40])])
def spec_l8Forest.B23 : List Nat := [0, 0, 2, 0, 14, 0, 62, 127, 255, 0, 512, 1536, 0, 4096, 0, 28672, 61440, 130560, 261632, 524287, 0, 0, 0, 6291456, 0, 31457280, 65011712, 133169152, 267386880, 0, 536870912, 1610612736, 0, 4294967296, 0, 30064771072, 64424509440, 136902082560, 274341036032, 549754765312, 1099511627775, 2199023255551]
theorem spec_l8Forest.tab23 : rtab .any (opsOf Try.f83 23) = spec_l8Forest.T23 := by kernel_rfl
theorem spec_l8Forest.bits23 : waitsOk spec_l8Forest.T23.2 spec_l8Forest.B23 = true := by kernel_rfl
def spec_l8Forest.T24 : Bool × List (List Nat × List Nat) := (true, [([], []), ([], []), ([0, 1], [0, 1]), ([2], [2]), ([], []), ([], []), ([4, 5], [4, 5]), ([6], [6]), ([3, 7], [3, 7]), ([8], [8]), ([9], [9]), ([9], [9]), ([10, 11, 9], [9, 10, 11]), ([12, 9], [9, 12]), ([9], [9]), ([9], [9]), ([14, 15, 9], [9, 14, 15]), ([16, 9], [9, 16]), ([13, 17, 9], [9, 13, 17]), ([9, 18], [9, 18])])
def spec_l8Forest.B24 : List Nat := [0, 0, 3, 7, 0, 0, 48, 112, 255, 511, 1023, 1023, 4095, 8191, 1023, 1023, 50175, 115711, 262143, 524287]
theorem spec_l8Forest.tab24 : rtab .any (opsOf Try.f83 24) = spec_l8Forest.T24 := by kernel_rfl
theorem spec_l8Forest.bits24 : waitsOk spec_l8Forest.T24.2 spec_l8Forest.B24 = true := by kernel_rfl
def spec_l8Forest.T25 : Bool × List (List Nat × List Nat) := (true, [([], []), ([], []), ([], []), ([2], [2]), ([], []), ([3, 4], [3, 4]), ([], []), ([5, 6], [5, 6]), ([7], [7]), ([1, 8], [1, 8]), ([9], [9]), ([], []), ([11], [11]), ([12], [12]), ([], []), ([14], [14]), ([], []), ([15, 16], [15, 16]), ([17], [17]), ([18], [18]), ([], []), ([20], [20]), ([], []), ([21, 22], [21, 22]), ([23], [23]), ([19, 24], [19, 24]), ([13, 25], [13, 25]), ([26], [26]), ([10, 27], [10, 27]), ([0, 28], [0, 28]), ([29, 0, 1, 2, 3, 4, 5, 6, 7, 8, 9, 10, 11, 12, 13, 14, 15, 16, 17, 18, 19, 20, 21, 22, 23, 24, 25, 26, 27, 28, 29], [0, 29])])
def spec_l8Forest.B25 : List Nat := [0, 0, 0, 4, 0, 28, 0, 124, 252, 510, 1022, 0, 2048, 6144, 0, 16384, 0, 114688, 245760, 507904, 0, 1048576, 0, 7340032, 15728640, 33538048, 67106816, 134215680, 268435454, 536870911, 1073741823]
theorem spec_l8Forest.tab25 : rtab .any (opsOf Try.f83 25) = spec_l8Forest.T25 := by kernel_rfl
theorem spec_l8Forest.bits25 : waitsOk spec_l8Forest.T25.2 spec_l8Forest.B25 = true := by kernel_rfl
def spec_l8Forest.T27 : Bool × List (List Nat × List Nat) := (true, [([], []), ([], []), ([], []), ([], []), ([2, 3], [2, 3]), ([4], [4]), ([], []), ([], []), ([6, 7], [6, 7]), ([8], [8]), ([5, 9], [5, 9]), ([], []), ([10, 11], [10, 11]), ([], []), ([], []), ([13, 14], [13, 14]), ([15], [15]), ([12, 16], [12, 16]), ([], []), ([], []), ([18, 19], [18, 19]), ([20], [20]), ([17, 21], [17, 21]), ([1, 22], [1, 22]), ([23], [23]), ([], []), ([], []), ([], []), ([26, 27], [26, 27]), ([], []), ([28, 29], [28, 29]), ([25, 30], [25, 30]), ([31], [31]), ([24, 32], [24, 32]), ([0, 33], [0, 33]), ([34, 0, 1, 2, 3, 4, 5, 6, 7, 8, 9, 10, 11, 12, 13, 14, 15, 16, 17, 18, 19, 20, 21, 22, 23, 24, 25, 26, 27, 28, 29, 30, 31, 32, 33, 34], [0, 34])])
def spec_l8Forest.B27 : List Nat := [0, 0, 0, 0, 12, 28, 0, 0, 192, 448, 1020, 0, 4092, 0, 0, 24576, 57344, 131068, 0, 0, 786432, 1835008, 4194300, 8388606, 16777214, 0, 0, 0, 201326592, 0, 1006632960, 2113929216, 4261412864, 8589934590, 17179869183, 34359738367]
theorem spec_l8Forest.tab27 : rtab .any (opsOf Try.f83 27) = spec_l8Forest.T27 := by kernel_rfl
theorem spec_l8Forest.bits27 : waitsOk spec_l8Forest.T27.2 spec_l8Forest.B27 = true := by kernel_rfl
set_option maxHeartbeats 8000000 in
set_option maxRecDepth 100000 in
theorem spec_l8Forest.calls (k : Nat) (A0_0 : Option Addr) (c0_0 : Nat) (l0_0 : List Int) (A0_1 : Option Addr) (c0_1 : Nat) (l0_1 : List Int) (A0_2 : Option Addr) (c0_2 : Nat) (l0_2 : List Int) (A0_3 : Option Addr) (c0_3 : Nat) (l0_3 : List Int) (A0_4 : Option Addr) (c0_4 : Nat) (l0_4 : List Int) (A0_5 : Option Addr) (c0_5 : Nat) (l0_5 : List Int) (A0_6 : Option Addr) (c0_6 : Nat) (l0_6 : List Int) (a1 : Int) (a2 : Int) (P3_ : Nat → Prop) (u9000_ : Value) (l3 : List Int) (r1 : List Int) (r2 : List Int) (w0 w : World) (hB : Below w0.heap.size w0 w) (hr0_0 : ∀ W_, Kept w W_ (fun k_ => P3_ k_) → Kd.C (Kd.int .i64) W_ A0_0 l0_0.length l0_0) (hc0_0 : l0_0.length ≤ c0_0) (hr0_1 : ∀ W_, Kept w W_ (fun k_ => P3_ k_) → Kd.C (Kd.int .i64) W_ A0_1 l0_1.length l0_1) (hc0_1 : l0_1.length ≤ c0_1) (hr0_2 : ∀ W_, Kept w W_ (fun k_ => P3_ k_) → Kd.C (Kd.int .i64) W_ A0_2 l0_2.length l0_2) (hc0_2 : l0_2.length ≤ c0_2) (hr0_3 : ∀ W_, Kept w W_ (fun k_ => P3_ k_) → Kd.C (Kd.int .i64) W_ A0_3 l0_3.length l0_3) (hc0_3 : l0_3.length ≤ c0_3) (hr0_4 : ∀ W_, Kept w W_ (fun k_ => P3_ k_) → Kd.C (Kd.int .i64) W_ A0_4 l0_4.length l0_4) (hc0_4 : l0_4.length ≤ c0_4) (hr0_5 : ∀ W_, Kept w W_ (fun k_ => P3_ k_) → Kd.C (Kd.int .i64) W_ A0_5 l0_5.length l0_5) (hc0_5 : l0_5.length ≤ c0_5) (hr0_6 : ∀ W_, Kept w W_ (fun k_ => P3_ k_) → Kd.C (Kd.int .i64) W_ A0_6 l0_6.length l0_6) (hc0_6 : l0_6.length ≤ c0_6) (ho3 : Kd.R (Kd.int .i64) 3 w w0.heap.size P3_ u9000_ l3) (h : spec_l8Forest.f k l0_0 l0_1 l0_2 l0_3 l0_4 l0_5 l0_6 a1 a2 l3 = some (r1, r2)) :
  Calls Try.prog 83 #[.agg #[.slice A0_0 l0_0.length c0_0, .slice A0_1 l0_1.length c0_1, .slice A0_2 l0_2.length c0_2, .slice A0_3 l0_3.length c0_3, .slice A0_4 l0_4.length c0_4, .slice A0_5 l0_5.length c0_5, .slice A0_6 l0_6.length c0_6], .int .i64 a1, .int .i64 a2, u9000_] w fun e w' => ∃ v0_ : Value, e = .returned (v0_) ∧ Kd.R (Kd.int .i64) 3 w' w0.heap.size (fun k_ => (P3_ k_ ∨ w.heap.size ≤ k_) ∧ some k_ ≠ (u9000_ : Value).ownBlock) v0_ r1 ∧ Kd.R (Kd.int .i64) 3 w' w0.heap.size (fun k_ => (P3_ k_ ∨ w.heap.size ≤ k_)) u9000_ r2 ∧ Below w0.heap.size w0 w' ∧ Kept w w' (fun k_ => P3_ k_) := by
 have hu105 := Try.underlying105
 have HR0_0 := Aside0.mk hr0_0
 have HC0_0 := Aside0.mk hc0_0
 clear hr0_0 hc0_0
 have HR0_1 := Aside0.mk hr0_1
 have HC0_1 := Aside0.mk hc0_1
 clear hr0_1 hc0_1
 have HR0_2 := Aside0.mk hr0_2
 have HC0_2 := Aside0.mk hc0_2
 clear hr0_2 hc0_2
 have HR0_3 := Aside0.mk hr0_3
 have HC0_3 := Aside0.mk hc0_3
 clear hr0_3 hc0_3
 have HR0_4 := Aside0.mk hr0_4
 have HC0_4 := Aside0.mk hc0_4
 clear hr0_4 hc0_4
 have HR0_5 := Aside0.mk hr0_5
 have HC0_5 := Aside0.mk hc0_5
 clear hr0_5 hc0_5
 have HR0_6 := Aside0.mk hr0_6
 have HC0_6 := Aside0.mk hc0_6
 clear hr0_6 hc0_6
 have HO3 := Aside0.mk (show Kd.R (Kd.int .i64) 3 w w0.heap.size (fun k_ => (P3_ k_ ∨ w.heap.size ≤ k_)) u9000_ l3 from Kd.R_mono ho3 (fun k_ hk => (.inl hk)))
 have HK := Aside0.mk (Kept.refl w (fun k_ => P3_ k_))
 have HW0 := Aside0.mk hB.size
 have HB := Aside0.mk hB
 clear hB
 have H : (if 0 ≤ a2 then (if a2 < (l0_3.length : Int) then (if 0 ≤ a1 then (if a1 < (l0_2.length : Int) then (if 0 ≤ (wrap64 ((wrap64 ((wrap64 (a1 - (rd l0_2 a1))) + 2)) * (wrap64 ((wrap64 (a2 - (rd l0_3 a2))) + 2)))) then (if (wrap64 ((wrap64 ((wrap64 (a1 - (rd l0_2 a1))) + 2)) * (wrap64 ((wrap64 (a2 - (rd l0_3 a2))) + 2))) : Int).toNat ≤ 35184372088832 then (spec_l8Forest.l0 k a1 a2 l3 l0_2 l0_3 (wrap64 ((wrap64 (a2 - (rd l0_3 a2))) + 2)) (l0_3.length : Int) (List.replicate (wrap64 ((wrap64 ((wrap64 (a1 - (rd l0_2 a1))) + 2)) * (wrap64 ((wrap64 (a2 - (rd l0_3 a2))) + 2))) : Int).toNat 0) (rd l0_2 a1) l0_0 l0_1 l0_2 l0_3 l0_4 l0_5 l0_6) else (none)) else (none)) else (none)) else (none)) else (none)) else (none)) = some (r1, r2) := h
 clear h
 obtain ⟨c5b0, H⟩ := ifd_ H
 obtain ⟨c6b0, H⟩ := ifd_ H
 obtain ⟨c7b0, H⟩ := ifd_ H
 obtain ⟨c8b0, H⟩ := ifd_ H
 obtain ⟨ji9, hji9⟩ : ∃ j_ : Int, (wrap64 ((wrap64 ((wrap64 (a1 - (rd l0_2 a1))) + 2)) * (wrap64 ((wrap64 (a2 - (rd l0_3 a2))) + 2)))) = j_ := ⟨_, rfl⟩
 first | rw [hji9] at H | simp only [hji9] at H
 have hji9w : (IntKind.i64.wrap ((wrap64 ((wrap64 (a1 - (rd l0_2 a1))) + 2)) * (wrap64 ((wrap64 (a2 - (rd l0_3 a2))) + 2)))) = ji9 := (i64_w _).trans hji9
 obtain ⟨c10b0, c10b1, H⟩ := ife_ H
 obtain ⟨c11b0, c11b1, H⟩ := ife_ H
 first | ((with_reducible have hz_ := gy_ H); obtain ⟨y270, Ny270, H⟩ := hz_) | (generalize hy_ : ((List.replicate (ji9 : Int).toNat 0) : List Int) = y270 at H; have Ny270 := Aside0.mk hy_.symm; clear hy_)
 have H' := Aside0.mk H
 clear H
 go_enter Try.func83, Try.ntmps83
 go_wp2_with (first | ((with_reducible refine gate_dst (N := 4) rfl ?_); refine box_event ?hg (N := 4) ?hd (cs := #[.slice A0_0 l0_0.length c0_0, .slice A0_1 l0_1.length c0_1, .slice A0_2 l0_2.length c0_2, .slice A0_3 l0_3.length c0_3, .slice A0_4 l0_4.length c0_4, .slice A0_5 l0_5.length c0_5, .slice A0_6 l0_6.length c0_6]) (t := 105) ?hr ?_; (case hd => rfl); (case hg => rfl); (case hr => exact z9_); intro gb267 hg w12 hbox hb; replace HO3 := Aside0.mk (Kd.R_below z170_ hb); have BK267 := Aside0.mk (hbox); have GW267 := Aside0.mk ((by rw [hg]; exact (by first | exact HK.out.1 | exact (show Kept w _ (fun k_ => P3_ k_) from by repeat (first | (with_reducible first | exact HK.out | apply Kept.alloc | apply Kept.drewN | apply Kept.drew) | exact HK.out)).1) : w.heap.size ≤ gb267)); replace HK := Aside0.mk (Kept.below (S := (fun k_ => P3_ k_)) (by repeat (first | (with_reducible first | exact HK.out | apply Kept.alloc | apply Kept.drewN | apply Kept.drew) | exact HK.out)) hb); have GE267 := Aside0.mk ((by rw [hg]; exact (below_size z0_) : w0.heap.size ≤ gb267)); replace HB := Aside0.mk (below_step z0_ hb); clear hb hbox hg; obtain ⟨hcz13_0, hcz13_1, hcz13_2, hcz13_3, hcz13_4, hcz13_5, hcz13_6, hfz13_0, hfz13_1, hfz13_2, hfz13_3, hfz13_4, hfz13_5, hfz13_6⟩ := bx7_ BK267.out; have p268 : 0 ≤ (a2 : Int) := odt_; have q268 : a2 < (l0_3.length : Int) := odt_; obtain ⟨ad268, e268, hx268_0⟩ := Kd.at_int (Kd.C_kept_now HR0_3.out HK.out) a2 p268 q268; cases e268; replace p268 := eq_true p268; replace q268 := eq_true q268; have p269 : 0 ≤ (a1 : Int) := odt_; have q269 : a1 < (l0_2.length : Int) := odt_; obtain ⟨ad269, e269, hx269_0⟩ := Kd.at_int (Kd.C_kept_now HR0_2.out HK.out) a1 p269 q269; cases e269; replace p269 := eq_true p269; replace q269 := eq_true q269) | ((with_reducible refine gate_dst (N := 44) rfl ?_); refine Kd.R_make (Kd.int .i64) _ 3 rfl (N := 44) rfl 30 _ _ rfl ji9 rfl rfl Try.underlying30 (.int .i64 0) 8 info3 rfl (by decide) (by omega) 0 (ok := fun _ => True) (okp := fun _ => True) rfl (fun _ hk => hk) trivial (odt_) (Nat.le_trans (Nat.mul_le_mul_right _ (odt_ : ji9.toNat ≤ 35184372088832)) (by omega)) (Below.refl _ _) (Nat.le_refl _) ?_; intro v271 w14 ho15 hb hg_ hnew_; clear hg_ hnew_; (first | rw [← Ny270.out] at ho15 | (simp only [Int.reduceToNat] at ho15; rw [← Ny270.out] at ho15)); have HO272 := Aside0.mk (Kd.R_lower (Kd.R_new' (Kd.R_newM (M := fun k_ => (P3_ k_ ∨ w.heap.size ≤ k_)) ho15 (by first | exact HK.out.1 | exact (show Kept w _ (fun k_ => P3_ k_) from by repeat (first | (with_reducible first | exact HK.out | apply Kept.alloc | apply Kept.drewN | apply Kept.drew | refine Kept.setCell ?_ (.inr GW267.out) _) | exact HK.out)).1) (fun k_ h_ => .inr h_)) (Kd.R_lt z170_)) (below_size z38_)); replace HO3 := Aside0.mk (Kd.R_elder' z170_ (Kd.R_base ho15) hb); replace BK267 := Aside0.mk (blk_below z53_ hb); replace HK := Aside0.mk (Kept.below (S := (fun k_ => P3_ k_)) z26_ hb); replace HB := Aside0.mk (below_step z38_ hb); clear hb ho15; have p273 : 0 ≤ (a1 : Int) := odt_; have q273 : a1 < (l0_2.length : Int) := odt_; obtain ⟨ad273, e273, hx273_0⟩ := Kd.at_int (Kd.C_kept_now HR0_2.out HK.out) a1 p273 q273; obtain rfl : ad269 = ad273 := (by injection e273); replace p273 := eq_true p273; replace q273 := eq_true q273))
 go_loopg [14] k (fun kq v14 w' => ∃ (x13_1 : List Int) (x14_1 : Int), v14 = .int .i64 x14_1 ∧ Aside0 (spec_l8Forest.l0 kq a1 a2 l3 l0_2 l0_3 (wrap64 ((wrap64 (a2 - (rd l0_3 a2))) + 2)) (l0_3.length : Int) x13_1 x14_1 l0_0 l0_1 l0_2 l0_3 l0_4 l0_5 l0_6 = some (r1, r2)) ∧ Aside0 (kq ≤ k) ∧ Aside0 (Kd.R (Kd.int .i64) 3 w' w0.heap.size (fun k_ => (P3_ k_ ∨ w.heap.size ≤ k_) ∧ some k_ ≠ (v271 : Value).ownBlock) u9000_ l3) ∧ Aside0 (Kd.R (Kd.int .i64) 3 w' w0.heap.size (fun k_ => (P3_ k_ ∨ w.heap.size ≤ k_) ∧ some k_ ≠ (u9000_ : Value).ownBlock) v271 x13_1) ∧ Aside0 (w'.heap[gb267]? = some (.cells #[(.slice A0_0 l0_0.length c0_0), (.slice A0_1 l0_1.length c0_1), (.slice (some ad269) l0_2.length c0_2), (.slice (some ad268) l0_3.length c0_3), (.slice A0_4 l0_4.length c0_4), (.slice A0_5 l0_5.length c0_5), (.slice A0_6 l0_6.length c0_6)] 105 (0, 0))) ∧ Aside0 (Kept w w' (fun k_ => P3_ k_)) ∧ Aside0 (Below w0.heap.size w0 w'))
 case atStart => exact ⟨(y270), (rd l0_2 a1), z4_, H', ⟨Nat.le_refl _⟩, ⟨z170_⟩, ⟨by (with_reducible repeat (first | apply Kd.R_alloc | apply Kd.R_drewN | apply Kd.R_drew)); exact Kd.R_mono HO272.out (fun _ hk => ⟨hk.1.1, hk.2⟩)⟩, ⟨z53_⟩, ⟨z26_⟩, ⟨z38_⟩⟩
 case round =>
  as_aux_lemma =>
   clear H'
   try clear c1
   try clear p2
   try clear q2
   try clear hx2
   try clear c5
   try clear c5b0
   try clear c6
   try clear c6b0
   try clear p6
   try clear c7
   try clear c7b0
   try clear c8
   try clear c8b0
   try clear c10
   try clear c10b0
   try clear c10b1
   try clear c11
   try clear c11b0
   try clear c11b1
   try clear hcz13_0
   try clear hcz13_1
   try clear hcz13_2
   try clear hcz13_3
   try clear hcz13_4
   try clear hcz13_5
   try clear hcz13_6
   try clear hfz13_0
   try clear hfz13_1
   try clear hfz13_2
   try clear hfz13_3
   try clear hfz13_4
   try clear hfz13_5
   try clear hfz13_6
   try clear hx268_0
   try clear hx269_0
   try clear hx273_0
   try clear p268
   try clear p269
   try clear p273
   try clear q268
   try clear q269
   try clear q273
   obtain ⟨x13_1, x14_1, rfl, HA, HK1, HO_3, HO_13, BK267, HK, HB⟩ := hrel
   cases gk with
   | zero => exact absurd HA.out (by simp [spec_l8Forest.l0])
   | succ k1 =>
    have H := HA.out
    clear HA
    simp only [spec_l8Forest.l0] at H
    by_cases c16 : x14_1 ≤ a1
    ·rw [if_pos c16] at H
     have c16b0 := decide_eq_true c16
     clear c16
     obtain ⟨c17b0, H⟩ := ifd_ H
     obtain ⟨c18b0, H⟩ := ifd_ H
     obtain ⟨ji19, hji19⟩ : ∃ j_ : Int, (wrap64 ((wrap64 ((wrap64 ((wrap64 (x14_1 - (rd l0_2 a1))) + 1)) - 1)) * (wrap64 ((wrap64 (a2 - (rd l0_3 a2))) + 2)))) = j_ := ⟨_, rfl⟩
     first | rw [hji19] at H | simp only [hji19] at H
     have hji19w : (IntKind.i64.wrap ((wrap64 ((wrap64 ((wrap64 (x14_1 - (rd l0_2 a1))) + 1)) - 1)) * (wrap64 ((wrap64 (a2 - (rd l0_3 a2))) + 2)))) = ji19 := (i64_w _).trans hji19
     obtain ⟨c20b0, H⟩ := ifd_ H
     obtain ⟨c21b0, H⟩ := ifd_ H
     obtain ⟨c22b0, H⟩ := ifd_ H
     obtain ⟨c23b0, H⟩ := ifd_ H
     obtain ⟨c24b0, H⟩ := ifd_ H
     obtain ⟨c25b0, H⟩ := ifd_ H
     obtain ⟨ji26, hji26⟩ : ∃ j_ : Int, (wrap64 ((wrap64 ((wrap64 (x14_1 - (rd l0_2 a1))) + 1)) * (wrap64 ((wrap64 (a2 - (rd l0_3 a2))) + 2)))) = j_ := ⟨_, rfl⟩
     first | rw [hji26] at H | simp only [hji26] at H
     have hji26w : (IntKind.i64.wrap ((wrap64 ((wrap64 (x14_1 - (rd l0_2 a1))) + 1)) * (wrap64 ((wrap64 (a2 - (rd l0_3 a2))) + 2)))) = ji26 := (i64_w _).trans hji26
     obtain ⟨c27b0, H⟩ := ifd_ H
     obtain ⟨c28b0, H⟩ := ifd_ H
     first | ((with_reducible have hz_ := gy_ H); obtain ⟨y278, Ny278, H⟩ := hz_) | (generalize hy_ : ((x13_1.set ((ji26) : Int).toNat (wrap64 ((rd x13_1 (ji19)) + (rd l0_4 (rd l0_0 x14_1))))) : List Int) = y278 at H; have Ny278 := Aside0.mk hy_.symm; clear hy_)
     have H' := Aside0.mk H
     clear H
     have p274 : 0 ≤ (a1 : Int) := odt_
     have q274 : a1 < (l0_2.length : Int) := odt_
     obtain ⟨ad274, e274, hx274_0⟩ := Kd.at_int (Kd.C_kept_now HR0_2.out HK.out) a1 p274 q274
     obtain rfl : ad269 = ad274 := (by injection e274)
     replace p274 := eq_true p274
     replace q274 := eq_true q274
     try go_wp2
     have n0_ := Aside0.mk (Kd.R_drew HO_3.out)
     have n1_ := Aside0.mk (Kd.R_drew HO_13.out)
     have n2_ := Aside0.mk (blk_drew BK267.out)
     have n3_ := Aside0.mk (Kept.drew HK.out)
     have n4_ := Aside0.mk (below_drew1 HB.out)
     clear HO_3
     clear HO_13
     clear BK267
     clear HK
     clear HB
     have HO_3 := n0_
     have HO_13 := n1_
     have BK267 := n2_
     have HK := n3_
     have HB := n4_
     clear n0_ n1_ n2_ n3_ n4_
     obtain ⟨Ao31, co31, eo31⟩ := Kd.R_slice HO_13.out
     (first | subst eo31 | (injection eo31 with f1_ f2_ f3_; have f4_ := f1_.symm; have f5_ := f3_.symm; clear f1_ f2_ f3_; subst f4_; subst f5_))
     have p275 : 0 ≤ ((ji19) : Int) := odt_
     have q275 : (ji19) < (x13_1.length : Int) := odt_
     obtain ⟨ad275, e275, hx275_0⟩ := Kd.at_int (Kd.R_reads' HO_13.out).2.2 (ji19) p275 q275
     cases e275
     replace p275 := eq_true p275
     replace q275 := eq_true q275
     have p276 : 0 ≤ (x14_1 : Int) := odt_
     have q276 : x14_1 < (l0_0.length : Int) := odt_
     obtain ⟨ad276, e276, hx276_0⟩ := Kd.at_int (Kd.C_kept_now HR0_0.out HK.out) x14_1 p276 q276
     have hw276_0 := hx276_0
     cases e276
     replace p276 := eq_true p276
     replace q276 := eq_true q276
     have p277 : 0 ≤ ((rd l0_0 x14_1) : Int) := odt_
     have q277 : (rd l0_0 x14_1) < (l0_4.length : Int) := odt_
     obtain ⟨ad277, e277, hx277_0⟩ := Kd.at_int (Kd.C_kept_now HR0_4.out HK.out) (rd l0_0 x14_1) p277 q277
     have hw277_0 := hx277_0
     cases e277
     replace p277 := eq_true p277
     replace q277 := eq_true q277
     have p29 : 0 ≤ ((ji26) : Int) := odt_
     have q29 : ((ji26) : Int) < ((x13_1.length : Int) : Int) := odt_
     obtain ⟨go29, co29, eo29, gb29, gl29, cl29, HG29⟩ := Kd.R_form HO_13.out (by omega)
     (first | cases eo29 | (injection eo29 with ea_ en_ ec_; (first | subst ea_ | (injection ea_ with ea_; subst ea_)); subst ec_; clear en_))
     have GB29 := Aside0.mk gb29
     have GG29 := Aside0.mk HG29
     clear gb29 gl29 HG29
     have HMgo29 := Aside0.mk (show (P3_ go29 ∨ w.heap.size ≤ go29) from (HO_13.out.1 _ rfl).1)
     (first | simp only [add_plain] at hx275_0 | skip)
     obtain ⟨hx29_0, hf29_0⟩ := Kd.R_celln 0 HO_13.out ((ji26) : Int) p29 q29
     replace p29 := eq_true p29
     replace q29 := eq_true q29
     have HP32 := Kd.R_putn HO_13.out ((ji26) : Int) (wrap64 ((rd x13_1 (ji19)) + (rd l0_4 (rd l0_0 x14_1))))
     rw [← Ny278.out] at HP32
     have HQ32 := Aside0.mk HP32
     clear HP32
     refine start_ (n := 24) (S := fun w' => w'.cell? ⟨gb267, 0, none⟩ = some (.slice (some ad276) l0_0.length c0_0) ∧ w'.cell? ⟨gb267, 1, none⟩ = some (.slice A0_1 l0_1.length c0_1) ∧ w'.cell? ⟨gb267, 2, none⟩ = some (.slice (some ad269) l0_2.length c0_2) ∧ w'.cell? ⟨gb267, 3, none⟩ = some (.slice (some ad268) l0_3.length c0_3) ∧ w'.cell? ⟨gb267, 4, none⟩ = some (.slice (some ad277) l0_4.length c0_4) ∧ w'.cell? ⟨gb267, 5, none⟩ = some (.slice A0_5 l0_5.length c0_5) ∧ w'.cell? ⟨gb267, 6, none⟩ = some (.slice A0_6 l0_6.length c0_6) ∧ w'.cell? ⟨go29, ((ji19)).toNat, none⟩ = some (.int .i64 (rd x13_1 (ji19))) ∧ w'.cell? (ad276.add (x14_1).toNat) = some (.int .i64 (rd l0_0 x14_1)) ∧ w'.cell? (ad277.add ((rd l0_0 x14_1)).toNat) = some (.int .i64 (rd l0_4 (rd l0_0 x14_1)))) (ds := [23]) (fl_ 24 0) (by kernel_rfl) rfl (fl_zero _) ⟨(blk_cell BK267.out 0).trans rfl, (blk_cell BK267.out 1).trans rfl, (blk_cell BK267.out 2).trans rfl, (blk_cell BK267.out 3).trans rfl, (blk_cell BK267.out 4).trans rfl, (blk_cell BK267.out 5).trans rfl, (blk_cell BK267.out 6).trans rfl, hx275_0, (Kd.foot_int (HR0_0.out _ z216_) x14_1 (of_eq_true p276) (of_eq_true q276)), (Kd.foot_int (HR0_4.out _ z216_) (rd l0_0 x14_1) (of_eq_true p277) (of_eq_true q277))⟩ (fun hHeld => ?_); refine with_tabW spec_l8Forest.tab10 spec_l8Forest.bits10 (fun HT_ HW_ => ?_)
     generalize wr.drew = w30 at HO_3 HO_13 BK267 HK HB GG29 HQ32 hf29_0 hx275_0 hx276_0 hx277_0 hx29_0 hHeld ⊢
     iterate 10 refine zp_ HT_ rfl rfl (by kernel_rfl) (fun _ _ _ h => h) (by rfl) ?_
     refine zpg_ (i := 11) (ra_ [10, 1, 1, 12]) HT_ rfl rfl (by kernel_rfl) (fun _ _ _ h => h) (by rfl) ?_
     refine zpg_ (i := 12) (ra_ [10, 1, 2, 11]) HT_ rfl rfl (by kernel_rfl) (fun _ _ _ h => h) (by rfl) ?_
     refine zpg_ (i := 14) (ra_ [10, 1, 2, 1, 1, 9]) HT_ rfl rfl (by kernel_rfl) (fun _ _ _ h => h) (by rfl) ?_
     refine zpg_ (i := 16) (ra_ [10, 1, 2, 1, 1, 1, 1, 7]) HT_ rfl rfl (by kernel_rfl) (fun _ _ _ h => h) (by rfl) ?_
     refine ztg_ (i := 10) (ra_ [13, 1, 1, 1, 1, 7]) HT_ HW_ rfl rfl (by kernel_rfl) (fun _ _ _ h => h) (by rfl) hHeld ?_ z171_
     refine ztg_ (i := 13) (ra_ [15, 1, 1, 7]) HT_ HW_ rfl rfl (by kernel_rfl) (fun _ _ _ h => h) (by rfl) hHeld ?_ z171_
     refine ztg_ (i := 15) (fl_ 24 17) HT_ HW_ rfl rfl (by kernel_rfl) (fun _ _ _ h => h) (by rfl) hHeld ?_ z171_
     refine zp_ HT_ rfl rfl (by kernel_rfl) (fun _ _ _ h => h) (by rfl) ?_
     refine zt_ HT_ HW_ rfl rfl (by kernel_rfl) (fun _ _ _ h => h) (by rfl) hHeld ?_ z171_
     refine zp_ HT_ rfl rfl (by kernel_rfl) (fun _ _ _ h => h) (by rfl) ?_
     refine zt_ HT_ HW_ rfl rfl (by kernel_rfl) (fun _ _ _ h => h) (by rfl) hHeld ?_ z171_
     iterate 2 refine zp_ HT_ rfl rfl (by kernel_rfl) (fun _ _ _ h => h) (by rfl) ?_
     refine last_ (i := 23) (N := none) (fl_ 24 24) rfl rfl (one_of HT_.out (by kernel_rfl)) (by decide) (fun K hK => ?_)
     refine skip_ (w1 := ?_) (by rfl) rfl ?_ ?_
     rotate_left
     ·go_simp
      rfl
     refine hK.out _ _ ?_
     clear hK K
     refine done_ (done_of HT_.out (by kernel_rfl)) ?_
     try go_wp2
     go_roundg k1
     case measure => have := HK1.out; omega
     case rel => exact ⟨(y278), (wrap64 (x14_1 + 1)), z4_, H', ⟨z155_⟩, ⟨by (with_reducible repeat (first | apply Kd.R_alloc | apply Kd.R_drewN | apply Kd.R_drew)); exact Kd.R_mono (Kd.R_far (p := ⟨go29, ((ji26) : Int).toNat, none⟩) (Kd.R_mono HO_3.out (fun k_ hk => (⟨hk, fun e_ => hk.2 (by rw [e_]; rfl)⟩ : _ ∧ k_ ≠ go29))) (fun _ hk => hk.2) (.int .i64 (wrap64 ((rd x13_1 (ji19)) + (rd l0_4 (rd l0_0 x14_1)))))) (fun _ hk => ⟨hk.1.1, hk.1.2⟩)⟩, ⟨by (with_reducible repeat (first | apply Kd.R_alloc | apply Kd.R_drewN | apply Kd.R_drew)); exact HQ32.out⟩, ⟨z115_⟩, ⟨by repeat (first | (with_reducible first | exact HK.out | apply Kept.alloc | apply Kept.drewN | apply Kept.drew | refine Kept.setCell ?_ HMgo29.out _ | refine Kept.setCell ?_ (.inr GW267.out) _) | exact HK.out)⟩, ⟨by repeat (first | (with_reducible first | exact HB.out | apply below_alloc | apply pw_below_drewN | apply below_drew1 | refine below_set ?_ GB29.out | refine below_set ?_ GE267.out) | exact HB.out)⟩⟩
    ·rw [if_neg c16] at H
     have c16b0 := decide_eq_false c16
     clear c16
     obtain ⟨c33b0, H⟩ := ifd_ H
     obtain ⟨c34b0, H⟩ := ifd_ H
     have H' := Aside0.mk H
     clear H
     have p279 : 0 ≤ (a2 : Int) := odt_
     have q279 : a2 < (l0_3.length : Int) := odt_
     obtain ⟨ad279, e279, hx279_0⟩ := Kd.at_int (Kd.C_kept_now HR0_3.out HK.out) a2 p279 q279
     obtain rfl : ad268 = ad279 := (by injection e279)
     replace p279 := eq_true p279
     replace q279 := eq_true q279
     go_wp2
     go_loopg [16] k1 (fun kq v16 w' => ∃ (x13_2 : List Int) (x16_2 : Int), v16 = .int .i64 x16_2 ∧ Aside0 (spec_l8Forest.l1 kq a1 a2 l3 l0_2 l0_3 (wrap64 ((wrap64 (a2 - (rd l0_3 a2))) + 2)) (l0_3.length : Int) x13_2 x16_2 l0_0 l0_1 l0_2 l0_3 l0_4 l0_5 l0_6 = some (r1, r2)) ∧ Aside0 (kq ≤ k1) ∧ Aside0 (Kd.R (Kd.int .i64) 3 w' w0.heap.size (fun k_ => (P3_ k_ ∨ w.heap.size ≤ k_) ∧ some k_ ≠ (v271 : Value).ownBlock) u9000_ l3) ∧ Aside0 (Kd.R (Kd.int .i64) 3 w' w0.heap.size (fun k_ => (P3_ k_ ∨ w.heap.size ≤ k_) ∧ some k_ ≠ (u9000_ : Value).ownBlock) v271 x13_2) ∧ Aside0 (w'.heap[gb267]? = some (.cells #[(.slice A0_0 l0_0.length c0_0), (.slice A0_1 l0_1.length c0_1), (.slice (some ad269) l0_2.length c0_2), (.slice (some ad268) l0_3.length c0_3), (.slice A0_4 l0_4.length c0_4), (.slice A0_5 l0_5.length c0_5), (.slice A0_6 l0_6.length c0_6)] 105 (0, 0))) ∧ Aside0 (Kept w w' (fun k_ => P3_ k_)) ∧ Aside0 (Below w0.heap.size w0 w'))
     case atStart => exact ⟨(x13_1), (rd l0_3 a2), z4_, H', ⟨Nat.le_refl _⟩, ⟨z14_⟩, ⟨z74_⟩, ⟨z53_⟩, ⟨z26_⟩, ⟨z38_⟩⟩
     case round =>
      as_aux_lemma =>
       clear H'
       try clear c1
       try clear c2
       try clear p2
       try clear q2
       try clear hx2
       try clear c3
       try clear c5
       try clear c5b0
       try clear c6
       try clear c6b0
       try clear p6
       try clear c7
       try clear c7b0
       try clear c8
       try clear c8b0
       try clear c10
       try clear c10b0
       try clear c10b1
       try clear c11
       try clear c11b0
       try clear c11b1
       try clear c16
       try clear c16b0
       try clear c17
       try clear c17b0
       try clear c18
       try clear c18b0
       try clear c20
       try clear c20b0
       try clear c21
       try clear c21b0
       try clear c22
       try clear c22b0
       try clear c23
       try clear c23b0
       try clear c24
       try clear c24b0
       try clear c25
       try clear c25b0
       try clear p26
       try clear q26
       try clear hx26
       try clear c27
       try clear c27b0
       try clear p27
       try clear q27
       try clear hx27
       try clear c28
       try clear c28b0
       try clear p29
       try clear q29
       try clear hx29
       try clear hf29
       try clear c33
       try clear c33b0
       try clear c34
       try clear c34b0
       try clear hcz13_0
       try clear hcz13_1
       try clear hcz13_2
       try clear hcz13_3
       try clear hcz13_4
       try clear hcz13_5
       try clear hcz13_6
       try clear hfz13_0
       try clear hfz13_1
       try clear hfz13_2
       try clear hfz13_3
       try clear hfz13_4
       try clear hfz13_5
       try clear hfz13_6
       try clear hx268_0
       try clear hx269_0
       try clear hx273_0
       try clear hx274_0
       try clear hx275_0
       try clear hx276_0
       try clear hx277_0
       try clear hx279_0
       try clear hx29_0
       try clear p2
       try clear p268
       try clear p269
       try clear p273
       try clear p274
       try clear p275
       try clear p276
       try clear p277
       try clear p279
       try clear p29
       try clear p6
       try clear q2
       try clear q268
       try clear q269
       try clear q273
       try clear q274
       try clear q275
       try clear q276
       try clear q277
       try clear q279
       try clear q29
       obtain ⟨x13_2, x16_2, rfl, HA, HK2, HO_3, HO_13, BK267, HK, HB⟩ := hrel
       cases gk with
       | zero => exact absurd HA.out (by simp [spec_l8Forest.l1])
       | succ k2 =>
        have H := HA.out
        clear HA
        simp only [spec_l8Forest.l1] at H
        by_cases c35 : x16_2 ≤ a2
        ·rw [if_pos c35] at H
         have c35b0 := decide_eq_true c35
         clear c35
         obtain ⟨c36b0, H⟩ := ifd_ H
         obtain ⟨c37b0, H⟩ := ifd_ H
         obtain ⟨ji38, hji38⟩ : ∃ j_ : Int, (wrap64 (x16_2 - (rd l0_3 a2))) = j_ := ⟨_, rfl⟩
         first | rw [hji38] at H | simp only [hji38] at H
         have hji38w : (IntKind.i64.wrap (x16_2 - (rd l0_3 a2))) = ji38 := (i64_w _).trans hji38
         obtain ⟨c39b0, H⟩ := ifd_ H
         obtain ⟨c40b0, H⟩ := ifd_ H
         obtain ⟨c41b0, H⟩ := ifd_ H
         obtain ⟨c42b0, H⟩ := ifd_ H
         obtain ⟨c43b0, H⟩ := ifd_ H
         obtain ⟨c44b0, H⟩ := ifd_ H
         obtain ⟨ji45, hji45⟩ : ∃ j_ : Int, (wrap64 ((ji38) + 1)) = j_ := ⟨_, rfl⟩
         first | rw [hji45] at H | simp only [hji45] at H
         have hji45w : (IntKind.i64.wrap ((ji38) + 1)) = ji45 := (i64_w _).trans hji45
         obtain ⟨c46b0, H⟩ := ifd_ H
         obtain ⟨c47b0, H⟩ := ifd_ H
         first | ((with_reducible have hz_ := gy_ H); obtain ⟨y285, Ny285, H⟩ := hz_) | (generalize hy_ : ((x13_2.set ((ji45) : Int).toNat (wrap64 ((rd x13_2 (ji38)) + (rd l0_5 (rd l0_1 x16_2))))) : List Int) = y285 at H; have Ny285 := Aside0.mk hy_.symm; clear hy_)
         have H' := Aside0.mk H
         clear H
         try go_wp2
         have n0_ := Aside0.mk (Kd.R_drew HO_3.out)
         have n1_ := Aside0.mk (Kd.R_drew HO_13.out)
         have n2_ := Aside0.mk (blk_drew BK267.out)
         have n3_ := Aside0.mk (Kept.drew HK.out)
         have n4_ := Aside0.mk (below_drew1 HB.out)
         clear HO_3
         clear HO_13
         clear BK267
         clear HK
         clear HB
         have HO_3 := n0_
         have HO_13 := n1_
         have BK267 := n2_
         have HK := n3_
         have HB := n4_
         clear n0_ n1_ n2_ n3_ n4_
         have p280 : 0 ≤ (a2 : Int) := odt_
         have q280 : a2 < (l0_3.length : Int) := odt_
         obtain ⟨ad280, e280, hx280_0⟩ := Kd.at_int (Kd.C_kept_now HR0_3.out HK.out) a2 p280 q280
         have hw280_0 := hx280_0
         obtain rfl : ad268 = ad280 := (by injection e280)
         replace p280 := eq_true p280
         replace q280 := eq_true q280
         have p281 : 0 ≤ (a2 : Int) := odt_
         have q281 : a2 < (l0_3.length : Int) := odt_
         obtain ⟨ad281, e281, hx281_0⟩ := Kd.at_int (Kd.C_kept_now HR0_3.out HK.out) a2 p281 q281
         have hw281_0 := hx281_0
         obtain rfl : ad268 = ad281 := (by injection e281)
         replace p281 := eq_true p281
         replace q281 := eq_true q281
         obtain ⟨Ao50, co50, eo50⟩ := Kd.R_slice HO_13.out
         (first | subst eo50 | (injection eo50 with f1_ f2_ f3_; have f4_ := f1_.symm; have f5_ := f3_.symm; clear f1_ f2_ f3_; subst f4_; subst f5_))
         have p282 : 0 ≤ ((ji38) : Int) := odt_
         have q282 : (ji38) < (x13_2.length : Int) := odt_
         obtain ⟨ad282, e282, hx282_0⟩ := Kd.at_int (Kd.R_reads' HO_13.out).2.2 (ji38) p282 q282
         cases e282
         replace p282 := eq_true p282
         replace q282 := eq_true q282
         have p283 : 0 ≤ (x16_2 : Int) := odt_
         have q283 : x16_2 < (l0_1.length : Int) := odt_
         obtain ⟨ad283, e283, hx283_0⟩ := Kd.at_int (Kd.C_kept_now HR0_1.out HK.out) x16_2 p283 q283
         have hw283_0 := hx283_0
         cases e283
         replace p283 := eq_true p283
         replace q283 := eq_true q283
         have p284 : 0 ≤ ((rd l0_1 x16_2) : Int) := odt_
         have q284 : (rd l0_1 x16_2) < (l0_5.length : Int) := odt_
         obtain ⟨ad284, e284, hx284_0⟩ := Kd.at_int (Kd.C_kept_now HR0_5.out HK.out) (rd l0_1 x16_2) p284 q284
         have hw284_0 := hx284_0
         cases e284
         replace p284 := eq_true p284
         replace q284 := eq_true q284
         have p48 : 0 ≤ ((ji45) : Int) := odt_
         have q48 : ((ji45) : Int) < ((x13_2.length : Int) : Int) := odt_
         obtain ⟨go48, co48, eo48, gb48, gl48, cl48, HG48⟩ := Kd.R_form HO_13.out (by omega)
         (first | cases eo48 | (injection eo48 with ea_ en_ ec_; (first | subst ea_ | (injection ea_ with ea_; subst ea_)); subst ec_; clear en_))
         have GB48 := Aside0.mk gb48
         have GG48 := Aside0.mk HG48
         clear gb48 gl48 HG48
         have HMgo48 := Aside0.mk (show (P3_ go48 ∨ w.heap.size ≤ go48) from (HO_13.out.1 _ rfl).1)
         (first | simp only [add_plain] at hx282_0 | skip)
         obtain ⟨hx48_0, hf48_0⟩ := Kd.R_celln 0 HO_13.out ((ji45) : Int) p48 q48
         replace p48 := eq_true p48
         replace q48 := eq_true q48
         have HP51 := Kd.R_putn HO_13.out ((ji45) : Int) (wrap64 ((rd x13_2 (ji38)) + (rd l0_5 (rd l0_1 x16_2))))
         rw [← Ny285.out] at HP51
         have HQ51 := Aside0.mk HP51
         clear HP51
         refine start_ (n := 30) (S := fun w' => w'.cell? ⟨gb267, 0, none⟩ = some (.slice A0_0 l0_0.length c0_0) ∧ w'.cell? ⟨gb267, 1, none⟩ = some (.slice (some ad283) l0_1.length c0_1) ∧ w'.cell? ⟨gb267, 2, none⟩ = some (.slice (some ad269) l0_2.length c0_2) ∧ w'.cell? ⟨gb267, 3, none⟩ = some (.slice (some ad268) l0_3.length c0_3) ∧ w'.cell? ⟨gb267, 4, none⟩ = some (.slice A0_4 l0_4.length c0_4) ∧ w'.cell? ⟨gb267, 5, none⟩ = some (.slice (some ad284) l0_5.length c0_5) ∧ w'.cell? ⟨gb267, 6, none⟩ = some (.slice A0_6 l0_6.length c0_6) ∧ w'.cell? (ad268.add (a2).toNat) = some (.int .i64 (rd l0_3 a2)) ∧ w'.cell? ⟨go48, ((ji38)).toNat, none⟩ = some (.int .i64 (rd x13_2 (ji38))) ∧ w'.cell? (ad283.add (x16_2).toNat) = some (.int .i64 (rd l0_1 x16_2)) ∧ w'.cell? (ad284.add ((rd l0_1 x16_2)).toNat) = some (.int .i64 (rd l0_5 (rd l0_1 x16_2)))) (ds := [29]) (fl_ 30 0) (by kernel_rfl) rfl (fl_zero _) ⟨(blk_cell BK267.out 0).trans rfl, (blk_cell BK267.out 1).trans rfl, (blk_cell BK267.out 2).trans rfl, (blk_cell BK267.out 3).trans rfl, (blk_cell BK267.out 4).trans rfl, (blk_cell BK267.out 5).trans rfl, (blk_cell BK267.out 6).trans rfl, (Kd.foot_int (HR0_3.out _ z174_) a2 (of_eq_true p280) (of_eq_true q280)), hx282_0, (Kd.foot_int (HR0_1.out _ z174_) x16_2 (of_eq_true p283) (of_eq_true q283)), (Kd.foot_int (HR0_5.out _ z174_) (rd l0_1 x16_2) (of_eq_true p284) (of_eq_true q284))⟩ (fun hHeld => ?_); refine with_tabW spec_l8Forest.tab14 spec_l8Forest.bits14 (fun HT_ HW_ => ?_)
         generalize wr.drew = w49 at HO_3 HO_13 BK267 HK HB GG48 HQ51 hf48_0 hx280_0 hx281_0 hx282_0 hx283_0 hx284_0 hx48_0 hHeld ⊢
         iterate 5 refine zp_ HT_ rfl rfl (by kernel_rfl) (fun _ _ _ h => h) (by rfl) ?_
         refine zpg_ (i := 8) (ra_ [5, 3, 1, 21]) HT_ rfl rfl (by kernel_rfl) (fun _ _ _ h => h) (by rfl) ?_
         refine zpg_ (i := 9) (ra_ [5, 3, 2, 20]) HT_ rfl rfl (by kernel_rfl) (fun _ _ _ h => h) (by rfl) ?_
         refine zpg_ (i := 10) (ra_ [5, 3, 3, 19]) HT_ rfl rfl (by kernel_rfl) (fun _ _ _ h => h) (by rfl) ?_
         refine zpg_ (i := 11) (ra_ [5, 3, 4, 18]) HT_ rfl rfl (by kernel_rfl) (fun _ _ _ h => h) (by rfl) ?_
         refine zpg_ (i := 12) (ra_ [5, 3, 5, 17]) HT_ rfl rfl (by kernel_rfl) (fun _ _ _ h => h) (by rfl) ?_
         refine zpg_ (i := 17) (ra_ [5, 3, 5, 4, 1, 12]) HT_ rfl rfl (by kernel_rfl) (fun _ _ _ h => h) (by rfl) ?_
         refine zpg_ (i := 18) (ra_ [5, 3, 5, 4, 2, 11]) HT_ rfl rfl (by kernel_rfl) (fun _ _ _ h => h) (by rfl) ?_
         refine zpg_ (i := 20) (ra_ [5, 3, 5, 4, 2, 1, 1, 9]) HT_ rfl rfl (by kernel_rfl) (fun _ _ _ h => h) (by rfl) ?_
         refine zpg_ (i := 22) (ra_ [5, 3, 5, 4, 2, 1, 1, 1, 1, 7]) HT_ rfl rfl (by kernel_rfl) (fun _ _ _ h => h) (by rfl) ?_
         refine ztg_ (i := 5) (ra_ [6, 2, 5, 4, 2, 1, 1, 1, 1, 7]) HT_ HW_ rfl rfl (by kernel_rfl) (fun _ _ _ h => h) (by rfl) hHeld ?_ z119_
         refine zpg_ (i := 6) (ra_ [7, 1, 5, 4, 2, 1, 1, 1, 1, 7]) HT_ rfl rfl (by kernel_rfl) (fun _ _ _ h => h) (by rfl) ?_
         refine zpg_ (i := 7) (ra_ [13, 4, 2, 1, 1, 1, 1, 7]) HT_ rfl rfl (by kernel_rfl) (fun _ _ _ h => h) (by rfl) ?_
         refine ztg_ (i := 13) (ra_ [14, 3, 2, 1, 1, 1, 1, 7]) HT_ HW_ rfl rfl (by kernel_rfl) (fun _ _ _ h => h) (by rfl) hHeld ?_ z119_
         refine zpg_ (i := 14) (ra_ [15, 2, 2, 1, 1, 1, 1, 7]) HT_ rfl rfl (by kernel_rfl) (fun _ _ _ h => h) (by rfl) ?_
         refine zpg_ (i := 15) (ra_ [16, 1, 2, 1, 1, 1, 1, 7]) HT_ rfl rfl (by kernel_rfl) (fun _ _ _ h => h) (by rfl) ?_
         refine ztg_ (i := 16) (ra_ [19, 1, 1, 1, 1, 7]) HT_ HW_ rfl rfl (by kernel_rfl) (fun _ _ _ h => h) (by rfl) hHeld ?_ z119_
         refine ztg_ (i := 19) (ra_ [21, 1, 1, 7]) HT_ HW_ rfl rfl (by kernel_rfl) (fun _ _ _ h => h) (by rfl) hHeld ?_ z119_
         refine ztg_ (i := 21) (fl_ 30 23) HT_ HW_ rfl rfl (by kernel_rfl) (fun _ _ _ h => h) (by rfl) hHeld ?_ z119_
         refine zp_ HT_ rfl rfl (by kernel_rfl) (fun _ _ _ h => h) (by rfl) ?_
         refine zt_ HT_ HW_ rfl rfl (by kernel_rfl) (fun _ _ _ h => h) (by rfl) hHeld ?_ z119_
         refine zp_ HT_ rfl rfl (by kernel_rfl) (fun _ _ _ h => h) (by rfl) ?_
         refine zt_ HT_ HW_ rfl rfl (by kernel_rfl) (fun _ _ _ h => h) (by rfl) hHeld ?_ z119_
         iterate 2 refine zp_ HT_ rfl rfl (by kernel_rfl) (fun _ _ _ h => h) (by rfl) ?_
         refine last_ (i := 29) (N := none) (fl_ 30 30) rfl rfl (one_of HT_.out (by kernel_rfl)) (by decide) (fun K hK => ?_)
         refine skip_ (w1 := ?_) (by rfl) rfl ?_ ?_
         rotate_left
         ·go_simp
          rfl
         refine hK.out _ _ ?_
         clear hK K
         refine done_ (done_of HT_.out (by kernel_rfl)) ?_
         try go_wp2
         go_roundg k2
         case measure => have := HK1.out; have := HK2.out; omega
         case rel => exact ⟨(y285), (wrap64 (x16_2 + 1)), z4_, H', ⟨z107_⟩, ⟨by (with_reducible repeat (first | apply Kd.R_alloc | apply Kd.R_drewN | apply Kd.R_drew)); exact Kd.R_mono (Kd.R_far (p := ⟨go48, ((ji45) : Int).toNat, none⟩) (Kd.R_mono HO_3.out (fun k_ hk => (⟨hk, fun e_ => hk.2 (by rw [e_]; rfl)⟩ : _ ∧ k_ ≠ go48))) (fun _ hk => hk.2) (.int .i64 (wrap64 ((rd x13_2 (ji38)) + (rd l0_5 (rd l0_1 x16_2)))))) (fun _ hk => ⟨hk.1.1, hk.1.2⟩)⟩, ⟨by (with_reducible repeat (first | apply Kd.R_alloc | apply Kd.R_drewN | apply Kd.R_drew)); exact HQ51.out⟩, ⟨z115_⟩, ⟨by repeat (first | (with_reducible first | exact HK.out | apply Kept.alloc | apply Kept.drewN | apply Kept.drew | refine Kept.setCell ?_ HMgo48.out _ | refine Kept.setCell ?_ (.inr GW267.out) _) | exact HK.out)⟩, ⟨by repeat (first | (with_reducible first | exact HB.out | apply below_alloc | apply pw_below_drewN | apply below_drew1 | refine below_set ?_ GB48.out | refine below_set ?_ GE267.out) | exact HB.out)⟩⟩
        ·rw [if_neg c35] at H
         have c35b0 := decide_eq_false c35
         clear c35
         obtain ⟨c52b0, H⟩ := ifd_ H
         obtain ⟨c53b0, H⟩ := ifd_ H
         have H' := Aside0.mk H
         clear H
         have p286 : 0 ≤ (a1 : Int) := odt_
         have q286 : a1 < (l0_2.length : Int) := odt_
         obtain ⟨ad286, e286, hx286_0⟩ := Kd.at_int (Kd.C_kept_now HR0_2.out HK.out) a1 p286 q286
         obtain rfl : ad269 = ad286 := (by injection e286)
         replace p286 := eq_true p286
         replace q286 := eq_true q286
         go_wp2
         go_loopg [17] k2 (fun kq v17 w' => ∃ (x3_3 : List Int) (x13_3 : List Int) (x17_3 : Int), v17 = .int .i64 x17_3 ∧ Aside0 (spec_l8Forest.l2 kq a1 a2 x3_3 l0_2 l0_3 (wrap64 ((wrap64 (a2 - (rd l0_3 a2))) + 2)) (l0_3.length : Int) x13_3 x17_3 l0_0 l0_1 l0_2 l0_3 l0_4 l0_5 l0_6 = some (r1, r2)) ∧ Aside0 (kq ≤ k2) ∧ Aside0 (Kd.R (Kd.int .i64) 3 w' w0.heap.size (fun k_ => (P3_ k_ ∨ w.heap.size ≤ k_) ∧ some k_ ≠ (v271 : Value).ownBlock) u9000_ x3_3) ∧ Aside0 (Kd.R (Kd.int .i64) 3 w' w0.heap.size (fun k_ => (P3_ k_ ∨ w.heap.size ≤ k_) ∧ some k_ ≠ (u9000_ : Value).ownBlock) v271 x13_3) ∧ Aside0 (w'.heap[gb267]? = some (.cells #[(.slice A0_0 l0_0.length c0_0), (.slice A0_1 l0_1.length c0_1), (.slice (some ad269) l0_2.length c0_2), (.slice (some ad268) l0_3.length c0_3), (.slice A0_4 l0_4.length c0_4), (.slice A0_5 l0_5.length c0_5), (.slice A0_6 l0_6.length c0_6)] 105 (0, 0))) ∧ Aside0 (Kept w w' (fun k_ => P3_ k_)) ∧ Aside0 (Below w0.heap.size w0 w'))
         case atStart => exact ⟨(l3), (x13_2), (rd l0_2 a1), z4_, H', ⟨Nat.le_refl _⟩, ⟨z14_⟩, ⟨z74_⟩, ⟨z53_⟩, ⟨z26_⟩, ⟨z38_⟩⟩
         case round =>
          as_aux_lemma =>
           clear H'
           try clear c1
           try clear c2
           try clear p2
           try clear q2
           try clear hx2
           try clear c3
           try clear c4
           try clear p4
           try clear q4
           try clear hx4
           try clear hf4
           try clear c5
           try clear c5b0
           try clear c6
           try clear c6b0
           try clear p6
           try clear c7
           try clear c7b0
           try clear c8
           try clear c8b0
           try clear c10
           try clear c10b0
           try clear c10b1
           try clear c11
           try clear c11b0
           try clear c11b1
           try clear c16
           try clear c16b0
           try clear c17
           try clear c17b0
           try clear c18
           try clear c18b0
           try clear c20
           try clear c20b0
           try clear c21
           try clear c21b0
           try clear c22
           try clear c22b0
           try clear c23
           try clear c23b0
           try clear c24
           try clear c24b0
           try clear c25
           try clear c25b0
           try clear p26
           try clear q26
           try clear hx26
           try clear c27
           try clear c27b0
           try clear p27
           try clear q27
           try clear hx27
           try clear c28
           try clear c28b0
           try clear p28
           try clear q28
           try clear hx28
           try clear p29
           try clear q29
           try clear hx29
           try clear hf29
           try clear c33
           try clear c33b0
           try clear c34
           try clear c34b0
           try clear c35
           try clear c35b0
           try clear c36
           try clear c36b0
           try clear c37
           try clear c37b0
           try clear c39
           try clear c39b0
           try clear c40
           try clear c40b0
           try clear c41
           try clear c41b0
           try clear c42
           try clear c42b0
           try clear c43
           try clear c43b0
           try clear c44
           try clear c44b0
           try clear c46
           try clear c46b0
           try clear c47
           try clear c47b0
           try clear p48
           try clear q48
           try clear hx48
           try clear hf48
           try clear c52
           try clear c52b0
           try clear c53
           try clear c53b0
           try clear hcz13_0
           try clear hcz13_1
           try clear hcz13_2
           try clear hcz13_3
           try clear hcz13_4
           try clear hcz13_5
           try clear hcz13_6
           try clear hfz13_0
           try clear hfz13_1
           try clear hfz13_2
           try clear hfz13_3
           try clear hfz13_4
           try clear hfz13_5
           try clear hfz13_6
           try clear hx268_0
           try clear hx269_0
           try clear hx273_0
           try clear hx274_0
           try clear hx275_0
           try clear hx276_0
           try clear hx277_0
           try clear hx279_0
           try clear hx280_0
           try clear hx281_0
           try clear hx282_0
           try clear hx283_0
           try clear hx284_0
           try clear hx286_0
           try clear hx29_0
           try clear hx48_0
           try clear p2
           try clear p26
           try clear p268
           try clear p269
           try clear p27
           try clear p273
           try clear p274
           try clear p275
           try clear p276
           try clear p277
           try clear p279
           try clear p280
           try clear p281
           try clear p282
           try clear p283
           try clear p284
           try clear p286
           try clear p29
           try clear p48
           try clear p6
           try clear q2
           try clear q26
           try clear q268
           try clear q269
           try clear q27
           try clear q273
           try clear q274
           try clear q275
           try clear q276
           try clear q277
           try clear q279
           try clear q280
           try clear q281
           try clear q282
           try clear q283
           try clear q284
           try clear q286
           try clear q29
           try clear q48
           obtain ⟨x3_3, x13_3, x17_3, rfl, HA, HK3, HO_3, HO_13, BK267, HK, HB⟩ := hrel
           cases gk with
           | zero => exact absurd HA.out (by simp [spec_l8Forest.l2])
           | succ k3 =>
            have H := HA.out
            clear HA
            simp only [spec_l8Forest.l2] at H
            by_cases c54 : x17_3 ≤ a1
            ·rw [if_pos c54] at H
             have c54b0 := decide_eq_true c54
             clear c54
             obtain ⟨c55b0, H⟩ := ifd_ H
             obtain ⟨c56b0, H⟩ := ifd_ H
             have H' := Aside0.mk H
             clear H
             have p287 : 0 ≤ (a2 : Int) := odt_
             have q287 : a2 < (l0_3.length : Int) := odt_
             obtain ⟨ad287, e287, hx287_0⟩ := Kd.at_int (Kd.C_kept_now HR0_3.out HK.out) a2 p287 q287
             obtain rfl : ad268 = ad287 := (by injection e287)
             replace p287 := eq_true p287
             replace q287 := eq_true q287
             go_wp2
             go_loopg [18] k3 (fun kq v18 w' => ∃ (x3_4 : List Int) (x13_4 : List Int) (x18_4 : Int), v18 = .int .i64 x18_4 ∧ Aside0 (spec_l8Forest.l3 kq a1 a2 x3_4 l0_2 l0_3 (wrap64 ((wrap64 (a2 - (rd l0_3 a2))) + 2)) (l0_3.length : Int) x13_4 x17_3 x18_4 l0_0 l0_1 l0_2 l0_3 l0_4 l0_5 l0_6 = some (r1, r2)) ∧ Aside0 (kq ≤ k3) ∧ Aside0 (Kd.R (Kd.int .i64) 3 w' w0.heap.size (fun k_ => (P3_ k_ ∨ w.heap.size ≤ k_) ∧ some k_ ≠ (v271 : Value).ownBlock) u9000_ x3_4) ∧ Aside0 (Kd.R (Kd.int .i64) 3 w' w0.heap.size (fun k_ => (P3_ k_ ∨ w.heap.size ≤ k_) ∧ some k_ ≠ (u9000_ : Value).ownBlock) v271 x13_4) ∧ Aside0 (w'.heap[gb267]? = some (.cells #[(.slice A0_0 l0_0.length c0_0), (.slice A0_1 l0_1.length c0_1), (.slice (some ad269) l0_2.length c0_2), (.slice (some ad268) l0_3.length c0_3), (.slice A0_4 l0_4.length c0_4), (.slice A0_5 l0_5.length c0_5), (.slice A0_6 l0_6.length c0_6)] 105 (0, 0))) ∧ Aside0 (Kept w w' (fun k_ => P3_ k_)) ∧ Aside0 (Below w0.heap.size w0 w'))
             case atStart => exact ⟨(x3_3), (x13_3), (rd l0_3 a2), z4_, H', ⟨Nat.le_refl _⟩, ⟨z14_⟩, ⟨z74_⟩, ⟨z53_⟩, ⟨z26_⟩, ⟨z38_⟩⟩
             case round =>
              as_aux_lemma =>
               clear H'
               try clear c1
               try clear c2
               try clear p2
               try clear q2
               try clear hx2
               try clear c3
               try clear c4
               try clear p4
               try clear q4
               try clear hx4
               try clear hf4
               try clear c5
               try clear c5b0
               try clear c6
               try clear c6b0
               try clear p6
               try clear c7
               try clear c7b0
               try clear c8
               try clear c8b0
               try clear c10
               try clear c10b0
               try clear c10b1
               try clear c11
               try clear c11b0
               try clear c11b1
               try clear c16
               try clear c16b0
               try clear c17
               try clear c17b0
               try clear c18
               try clear c18b0
               try clear c20
               try clear c20b0
               try clear c21
               try clear c21b0
               try clear c22
               try clear c22b0
               try clear c23
               try clear c23b0
               try clear c24
               try clear c24b0
               try clear c25
               try clear c25b0
               try clear p26
               try clear q26
               try clear hx26
               try clear c27
               try clear c27b0
               try clear p27
               try clear q27
               try clear hx27
               try clear c28
               try clear c28b0
               try clear p28
               try clear q28
               try clear hx28
               try clear p29
               try clear q29
               try clear hx29
               try clear hf29
               try clear c33
               try clear c33b0
               try clear c34
               try clear c34b0
               try clear c35
               try clear c35b0
               try clear c36
               try clear c36b0
               try clear c37
               try clear c37b0
               try clear c39
               try clear c39b0
               try clear c40
               try clear c40b0
               try clear c41
               try clear c41b0
               try clear c42
               try clear c42b0
               try clear c43
               try clear c43b0
               try clear c44
               try clear c44b0
               try clear c46
               try clear c46b0
               try clear c47
               try clear c47b0
               try clear p48
               try clear q48
               try clear hx48
               try clear hf48
               try clear c52
               try clear c52b0
               try clear c53
               try clear c53b0
               try clear c54
               try clear c54b0
               try clear c55
               try clear c55b0
               try clear c56
               try clear c56b0
               try clear hcz13_0
               try clear hcz13_1
               try clear hcz13_2
               try clear hcz13_3
               try clear hcz13_4
               try clear hcz13_5
               try clear hcz13_6
               try clear hfz13_0
               try clear hfz13_1
               try clear hfz13_2
               try clear hfz13_3
               try clear hfz13_4
               try clear hfz13_5
               try clear hfz13_6
               try clear hx268_0
               try clear hx269_0
               try clear hx273_0
               try clear hx274_0
               try clear hx275_0
               try clear hx276_0
               try clear hx277_0
               try clear hx279_0
               try clear hx280_0
               try clear hx281_0
               try clear hx282_0
               try clear hx283_0
               try clear hx284_0
               try clear hx286_0
               try clear hx287_0
               try clear hx29_0
               try clear hx48_0
               try clear p2
               try clear p26
               try clear p268
               try clear p269
               try clear p27
               try clear p273
               try clear p274
               try clear p275
               try clear p276
               try clear p277
               try clear p279
               try clear p28
               try clear p280
               try clear p281
               try clear p282
               try clear p283
               try clear p284
               try clear p286
               try clear p287
               try clear p29
               try clear p4
               try clear p48
               try clear p6
               try clear q2
               try clear q26
               try clear q268
               try clear q269
               try clear q27
               try clear q273
               try clear q274
               try clear q275
               try clear q276
               try clear q277
               try clear q279
               try clear q28
               try clear q280
               try clear q281
               try clear q282
               try clear q283
               try clear q284
               try clear q286
               try clear q287
               try clear q29
               try clear q4
               try clear q48
               obtain ⟨x3_4, x13_4, x18_4, rfl, HA, HK4, HO_3, HO_13, BK267, HK, HB⟩ := hrel
               cases gk with
               | zero => exact absurd HA.out (by simp [spec_l8Forest.l3])
               | succ k4 =>
                have H := HA.out
                clear HA
                simp only [spec_l8Forest.l3] at H
                by_cases c57 : x18_4 ≤ a2
                ·rw [if_pos c57] at H
                 have c57b0 := decide_eq_true c57
                 clear c57
                 obtain ⟨c58b0, H⟩ := ifd_ H
                 obtain ⟨c59b0, H⟩ := ifd_ H
                 obtain ⟨c60b0, H⟩ := ifd_ H
                 obtain ⟨c61b0, H⟩ := ifd_ H
                 obtain ⟨ji62, hji62⟩ : ∃ j_ : Int, (wrap64 ((wrap64 ((wrap64 ((wrap64 ((wrap64 (x17_3 - (rd l0_2 a1))) + 1)) - 1)) * (wrap64 ((wrap64 (a2 - (rd l0_3 a2))) + 2)))) + (wrap64 ((wrap64 (x18_4 - (rd l0_3 a2))) + 1)))) = j_ := ⟨_, rfl⟩
                 first | rw [hji62] at H | simp only [hji62] at H
                 have hji62w : (IntKind.i64.wrap ((wrap64 ((wrap64 ((wrap64 ((wrap64 (x17_3 - (rd l0_2 a1))) + 1)) - 1)) * (wrap64 ((wrap64 (a2 - (rd l0_3 a2))) + 2)))) + (wrap64 ((wrap64 (x18_4 - (rd l0_3 a2))) + 1)))) = ji62 := (i64_w _).trans hji62
                 obtain ⟨c63b0, H⟩ := ifd_ H
                 obtain ⟨c64b0, H⟩ := ifd_ H
                 obtain ⟨c65b0, H⟩ := ifd_ H
                 obtain ⟨c66b0, H⟩ := ifd_ H
                 obtain ⟨c67b0, H⟩ := ifd_ H
                 obtain ⟨c68b0, H⟩ := ifd_ H
                 obtain ⟨ji69, hji69⟩ : ∃ j_ : Int, (wrap64 ((wrap64 ((wrap64 ((wrap64 ((wrap64 (x17_3 - (rd l0_2 a1))) + 1)) * (wrap64 ((wrap64 (a2 - (rd l0_3 a2))) + 2)))) + (wrap64 ((wrap64 (x18_4 - (rd l0_3 a2))) + 1)))) - 1)) = j_ := ⟨_, rfl⟩
                 first | rw [hji69] at H | simp only [hji69] at H
                 have hji69w : (IntKind.i64.wrap ((wrap64 ((wrap64 ((wrap64 ((wrap64 (x17_3 - (rd l0_2 a1))) + 1)) * (wrap64 ((wrap64 (a2 - (rd l0_3 a2))) + 2)))) + (wrap64 ((wrap64 (x18_4 - (rd l0_3 a2))) + 1)))) - 1)) = ji69 := (i64_w _).trans hji69
                 obtain ⟨c70b0, H⟩ := ifd_ H
                 obtain ⟨c71b0, H⟩ := ifd_ H
                 obtain ⟨c72b0, H⟩ := ifd_ H
                 obtain ⟨c73b0, H⟩ := ifd_ H
                 obtain ⟨c74b0, H⟩ := ifd_ H
                 obtain ⟨c75b0, H⟩ := ifd_ H
                 obtain ⟨ji76, hji76⟩ : ∃ j_ : Int, (mn (wrap64 ((rd x13_4 (ji62)) + (rd l0_4 (rd l0_0 x17_3)))) (wrap64 ((rd x13_4 (ji69)) + (rd l0_5 (rd l0_1 x18_4))))) = j_ := ⟨_, rfl⟩
                 first | rw [hji76] at H | simp only [hji76] at H
                 have hji76_ : (if (wrap64 ((rd x13_4 (ji69)) + (rd l0_5 (rd l0_1 x18_4)))) < (wrap64 ((rd x13_4 (ji62)) + (rd l0_4 (rd l0_0 x17_3)))) then (wrap64 ((rd x13_4 (ji69)) + (rd l0_5 (rd l0_1 x18_4)))) else (wrap64 ((rd x13_4 (ji62)) + (rd l0_4 (rd l0_0 x17_3))))) = ji76 := hji76
                 obtain ⟨c77b0, H⟩ := ifd_ H
                 by_cases c78 : (rd l0_2 x17_3) = (rd l0_2 a1)
                 ·as_aux_lemma =>
                   rw [if_pos c78] at H
                   have c78b0 : ((rd l0_2 x17_3) == (rd l0_2 a1)) = true := beq_iff_eq.mpr c78
                   have c78b1 : ((rd l0_2 x17_3) != (rd l0_2 a1)) = false := bne_eq_false_iff_eq.mpr c78
                   clear c78
                   obtain ⟨c79b0, H⟩ := ifd_ H
                   by_cases c80 : (rd l0_3 x18_4) = (rd l0_3 a2)
                   ·as_aux_lemma =>
                     rw [if_pos c80] at H
                     have c80b0 : ((rd l0_3 x18_4) == (rd l0_3 a2)) = true := beq_iff_eq.mpr c80
                     have c80b1 : ((rd l0_3 x18_4) != (rd l0_3 a2)) = false := bne_eq_false_iff_eq.mpr c80
                     clear c80
                     obtain ⟨ji81, hji81⟩ : ∃ j_ : Int, (wrap64 ((ji62) - 1)) = j_ := ⟨_, rfl⟩
                     first | rw [hji81] at H | simp only [hji81] at H
                     have hji81w : (IntKind.i64.wrap ((ji62) - 1)) = ji81 := (i64_w _).trans hji81
                     obtain ⟨c82b0, H⟩ := ifd_ H
                     obtain ⟨c83b0, H⟩ := ifd_ H
                     obtain ⟨ji84, hji84⟩ : ∃ j_ : Int, (wrap64 ((wrap64 ((rd l0_0 x17_3) * 6)) + (rd l0_1 x18_4))) = j_ := ⟨_, rfl⟩
                     first | rw [hji84] at H | simp only [hji84] at H
                     have hji84w : (IntKind.i64.wrap ((wrap64 ((rd l0_0 x17_3) * 6)) + (rd l0_1 x18_4))) = ji84 := (i64_w _).trans hji84
                     obtain ⟨c85b0, H⟩ := ifd_ H
                     obtain ⟨c86b0, H⟩ := ifd_ H
                     obtain ⟨ji87, hji87⟩ : ∃ j_ : Int, (mn (ji76) (wrap64 ((rd x13_4 (ji81)) + (rd l0_6 (ji84))))) = j_ := ⟨_, rfl⟩
                     first | rw [hji87] at H | simp only [hji87] at H
                     have hji87_ : (if (wrap64 ((rd x13_4 (ji81)) + (rd l0_6 (ji84)))) < (ji76) then (wrap64 ((rd x13_4 (ji81)) + (rd l0_6 (ji84)))) else (ji76)) = ji87 := hji87
                     obtain ⟨ji88, hji88⟩ : ∃ j_ : Int, (wrap64 ((wrap64 (x17_3 * (l0_3.length : Int))) + x18_4)) = j_ := ⟨_, rfl⟩
                     first | rw [hji88] at H | simp only [hji88] at H
                     have hji88w : (IntKind.i64.wrap ((wrap64 (x17_3 * (l0_3.length : Int))) + x18_4)) = ji88 := (i64_w _).trans hji88
                     obtain ⟨c89b0, H⟩ := ifd_ H
                     obtain ⟨c90b0, H⟩ := ifd_ H
                     first | ((with_reducible have hz_ := gy_ H); obtain ⟨y304, Ny304, H⟩ := hz_) | (generalize hy_ : ((x3_4.set ((ji88) : Int).toNat (ji87)) : List Int) = y304 at H; have Ny304 := Aside0.mk hy_.symm; clear hy_)
                     obtain ⟨ji92, hji92⟩ : ∃ j_ : Int, (wrap64 ((wrap64 ((wrap64 ((wrap64 (x17_3 - (rd l0_2 a1))) + 1)) * (wrap64 ((wrap64 (a2 - (rd l0_3 a2))) + 2)))) + (wrap64 ((wrap64 (x18_4 - (rd l0_3 a2))) + 1)))) = j_ := ⟨_, rfl⟩
                     have hji69_ji92 : (wrap64 (ji92 - 1)) = ji69 := (by rw [← hji92]; exact hji69)
                     have hji69_ji92w : (IntKind.i64.wrap (ji92 - 1)) = ji69 := (i64_w _).trans hji69_ji92
                     first | rw [hji92] at H | simp only [hji92] at H
                     have hji92w : (IntKind.i64.wrap ((wrap64 ((wrap64 ((wrap64 (x17_3 - (rd l0_2 a1))) + 1)) * (wrap64 ((wrap64 (a2 - (rd l0_3 a2))) + 2)))) + (wrap64 ((wrap64 (x18_4 - (rd l0_3 a2))) + 1)))) = ji92 := (i64_w _).trans hji92
                     obtain ⟨c93b0, H⟩ := ifd_ H
                     obtain ⟨c94b0, H⟩ := ifd_ H
                     first | ((with_reducible have hz_ := gy_ H); obtain ⟨y305, Ny305, H⟩ := hz_) | (generalize hy_ : ((x13_4.set ((ji92) : Int).toNat (ji87)) : List Int) = y305 at H; have Ny305 := Aside0.mk hy_.symm; clear hy_)
                     have H' := Aside0.mk H
                     clear H
                     have p288 : 0 ≤ (a1 : Int) := odt_
                     have q288 : a1 < (l0_2.length : Int) := odt_
                     obtain ⟨ad288, e288, hx288_0⟩ := Kd.at_int (Kd.C_kept_now HR0_2.out HK.out) a1 p288 q288
                     obtain rfl : ad269 = ad288 := (by injection e288)
                     replace p288 := eq_true p288
                     replace q288 := eq_true q288
                     have p289 : 0 ≤ (a2 : Int) := odt_
                     have q289 : a2 < (l0_3.length : Int) := odt_
                     obtain ⟨ad289, e289, hx289_0⟩ := Kd.at_int (Kd.C_kept_now HR0_3.out HK.out) a2 p289 q289
                     obtain rfl : ad268 = ad289 := (by injection e289)
                     replace p289 := eq_true p289
                     replace q289 := eq_true q289
                     try go_wp2
                     have n0_ := Aside0.mk (Kd.R_drew HO_3.out)
                     have n1_ := Aside0.mk (Kd.R_drew HO_13.out)
                     have n2_ := Aside0.mk (blk_drew BK267.out)
                     have n3_ := Aside0.mk (Kept.drew HK.out)
                     have n4_ := Aside0.mk (below_drew1 HB.out)
                     clear HO_3
                     clear HO_13
                     clear BK267
                     clear HK
                     clear HB
                     have HO_3 := n0_
                     have HO_13 := n1_
                     have BK267 := n2_
                     have HK := n3_
                     have HB := n4_
                     clear n0_ n1_ n2_ n3_ n4_
                     obtain ⟨Ao97, co97, eo97⟩ := Kd.R_slice HO_13.out
                     (first | subst eo97 | (injection eo97 with f1_ f2_ f3_; have f4_ := f1_.symm; have f5_ := f3_.symm; clear f1_ f2_ f3_; subst f4_; subst f5_))
                     have p290 : 0 ≤ ((ji62) : Int) := odt_
                     have q290 : (ji62) < (x13_4.length : Int) := odt_
                     obtain ⟨ad290, e290, hx290_0⟩ := Kd.at_int (Kd.R_reads' HO_13.out).2.2 (ji62) p290 q290
                     cases e290
                     replace p290 := eq_true p290
                     replace q290 := eq_true q290
                     have p291 : 0 ≤ (x17_3 : Int) := odt_
                     have q291 : x17_3 < (l0_0.length : Int) := odt_
                     obtain ⟨ad291, e291, hx291_0⟩ := Kd.at_int (Kd.C_kept_now HR0_0.out HK.out) x17_3 p291 q291
                     have hw291_0 := hx291_0
                     cases e291
                     replace p291 := eq_true p291
                     replace q291 := eq_true q291
                     have p292 : 0 ≤ ((rd l0_0 x17_3) : Int) := odt_
                     have q292 : (rd l0_0 x17_3) < (l0_4.length : Int) := odt_
                     obtain ⟨ad292, e292, hx292_0⟩ := Kd.at_int (Kd.C_kept_now HR0_4.out HK.out) (rd l0_0 x17_3) p292 q292
                     have hw292_0 := hx292_0
                     cases e292
                     replace p292 := eq_true p292
                     replace q292 := eq_true q292
                     have p293 : 0 ≤ ((ji69) : Int) := odt_
                     have q293 : (ji69) < (x13_4.length : Int) := odt_
                     obtain ⟨ad293, e293, hx293_0⟩ := Kd.at_int (Kd.R_reads' HO_13.out).2.2 (ji69) p293 q293
                     obtain rfl : ad290 = ad293 := (by injection e293)
                     replace p293 := eq_true p293
                     replace q293 := eq_true q293
                     have p294 : 0 ≤ (x18_4 : Int) := odt_
                     have q294 : x18_4 < (l0_1.length : Int) := odt_
                     obtain ⟨ad294, e294, hx294_0⟩ := Kd.at_int (Kd.C_kept_now HR0_1.out HK.out) x18_4 p294 q294
                     have hw294_0 := hx294_0
                     cases e294
                     replace p294 := eq_true p294
                     replace q294 := eq_true q294
                     have p295 : 0 ≤ ((rd l0_1 x18_4) : Int) := odt_
                     have q295 : (rd l0_1 x18_4) < (l0_5.length : Int) := odt_
                     obtain ⟨ad295, e295, hx295_0⟩ := Kd.at_int (Kd.C_kept_now HR0_5.out HK.out) (rd l0_1 x18_4) p295 q295
                     have hw295_0 := hx295_0
                     cases e295
                     replace p295 := eq_true p295
                     replace q295 := eq_true q295
                     refine start_ (n := 42) (S := fun w' => w'.cell? ⟨gb267, 0, none⟩ = some (.slice (some ad291) l0_0.length c0_0) ∧ w'.cell? ⟨gb267, 1, none⟩ = some (.slice (some ad294) l0_1.length c0_1) ∧ w'.cell? ⟨gb267, 2, none⟩ = some (.slice (some ad269) l0_2.length c0_2) ∧ w'.cell? ⟨gb267, 3, none⟩ = some (.slice (some ad268) l0_3.length c0_3) ∧ w'.cell? ⟨gb267, 4, none⟩ = some (.slice (some ad292) l0_4.length c0_4) ∧ w'.cell? ⟨gb267, 5, none⟩ = some (.slice (some ad295) l0_5.length c0_5) ∧ w'.cell? ⟨gb267, 6, none⟩ = some (.slice A0_6 l0_6.length c0_6) ∧ w'.cell? (ad290.add ((ji62)).toNat) = some (.int .i64 (rd x13_4 (ji62))) ∧ w'.cell? (ad291.add (x17_3).toNat) = some (.int .i64 (rd l0_0 x17_3)) ∧ w'.cell? (ad292.add ((rd l0_0 x17_3)).toNat) = some (.int .i64 (rd l0_4 (rd l0_0 x17_3))) ∧ w'.cell? (ad290.add ((ji69)).toNat) = some (.int .i64 (rd x13_4 (ji69))) ∧ w'.cell? (ad294.add (x18_4).toNat) = some (.int .i64 (rd l0_1 x18_4)) ∧ w'.cell? (ad295.add ((rd l0_1 x18_4)).toNat) = some (.int .i64 (rd l0_5 (rd l0_1 x18_4)))) (ds := []) (fl_ 42 0) (by kernel_rfl) rfl (fl_zero _) ⟨(blk_cell BK267.out 0).trans rfl, (blk_cell BK267.out 1).trans rfl, (blk_cell BK267.out 2).trans rfl, (blk_cell BK267.out 3).trans rfl, (blk_cell BK267.out 4).trans rfl, (blk_cell BK267.out 5).trans rfl, (blk_cell BK267.out 6).trans rfl, hx290_0, (Kd.foot_int (HR0_0.out _ z20_) x17_3 (of_eq_true p291) (of_eq_true q291)), (Kd.foot_int (HR0_4.out _ z20_) (rd l0_0 x17_3) (of_eq_true p292) (of_eq_true q292)), hx293_0, (Kd.foot_int (HR0_1.out _ z20_) x18_4 (of_eq_true p294) (of_eq_true q294)), (Kd.foot_int (HR0_5.out _ z20_) (rd l0_1 x18_4) (of_eq_true p295) (of_eq_true q295))⟩ (fun hHeld => ?_); refine with_tabW spec_l8Forest.tab23 spec_l8Forest.bits23 (fun HT_ HW_ => ?_)
                     generalize wr.drew = w96 at HO_3 HO_13 BK267 HK HB hx290_0 hx291_0 hx292_0 hx293_0 hx294_0 hx295_0 hHeld ⊢
                     iterate 8 refine zp_ HT_ rfl rfl (by kernel_rfl) (fun _ _ _ h => h) (by rfl) ?_
                     refine zpg_ (i := 9) (ra_ [8, 1, 1, 32]) HT_ rfl rfl (by kernel_rfl) (fun _ _ _ h => h) (by rfl) ?_
                     refine zpg_ (i := 10) (ra_ [8, 1, 2, 31]) HT_ rfl rfl (by kernel_rfl) (fun _ _ _ h => h) (by rfl) ?_
                     refine zpg_ (i := 12) (ra_ [8, 1, 2, 1, 1, 29]) HT_ rfl rfl (by kernel_rfl) (fun _ _ _ h => h) (by rfl) ?_
                     refine zpg_ (i := 14) (ra_ [8, 1, 2, 1, 1, 1, 1, 27]) HT_ rfl rfl (by kernel_rfl) (fun _ _ _ h => h) (by rfl) ?_
                     refine zpg_ (i := 20) (ra_ [8, 1, 2, 1, 1, 1, 1, 5, 1, 21]) HT_ rfl rfl (by kernel_rfl) (fun _ _ _ h => h) (by rfl) ?_
                     refine zpg_ (i := 21) (ra_ [8, 1, 2, 1, 1, 1, 1, 5, 2, 20]) HT_ rfl rfl (by kernel_rfl) (fun _ _ _ h => h) (by rfl) ?_
                     refine zpg_ (i := 22) (ra_ [8, 1, 2, 1, 1, 1, 1, 5, 3, 19]) HT_ rfl rfl (by kernel_rfl) (fun _ _ _ h => h) (by rfl) ?_
                     refine zpg_ (i := 23) (ra_ [8, 1, 2, 1, 1, 1, 1, 5, 4, 18]) HT_ rfl rfl (by kernel_rfl) (fun _ _ _ h => h) (by rfl) ?_
                     refine zpg_ (i := 24) (ra_ [8, 1, 2, 1, 1, 1, 1, 5, 5, 17]) HT_ rfl rfl (by kernel_rfl) (fun _ _ _ h => h) (by rfl) ?_
                     refine zpg_ (i := 25) (ra_ [8, 1, 2, 1, 1, 1, 1, 5, 6, 16]) HT_ rfl rfl (by kernel_rfl) (fun _ _ _ h => h) (by rfl) ?_
                     refine zpg_ (i := 26) (ra_ [8, 1, 2, 1, 1, 1, 1, 5, 7, 15]) HT_ rfl rfl (by kernel_rfl) (fun _ _ _ h => h) (by rfl) ?_
                     refine zpg_ (i := 27) (ra_ [8, 1, 2, 1, 1, 1, 1, 5, 8, 14]) HT_ rfl rfl (by kernel_rfl) (fun _ _ _ h => h) (by rfl) ?_
                     refine zpg_ (i := 29) (ra_ [8, 1, 2, 1, 1, 1, 1, 5, 8, 1, 1, 12]) HT_ rfl rfl (by kernel_rfl) (fun _ _ _ h => h) (by rfl) ?_
                     refine zpg_ (i := 30) (ra_ [8, 1, 2, 1, 1, 1, 1, 5, 8, 1, 2, 11]) HT_ rfl rfl (by kernel_rfl) (fun _ _ _ h => h) (by rfl) ?_
                     refine zpg_ (i := 32) (ra_ [8, 1, 2, 1, 1, 1, 1, 5, 8, 1, 2, 1, 1, 9]) HT_ rfl rfl (by kernel_rfl) (fun _ _ _ h => h) (by rfl) ?_
                     refine zpg_ (i := 34) (ra_ [8, 1, 2, 1, 1, 1, 1, 5, 8, 1, 2, 1, 1, 1, 1, 7]) HT_ rfl rfl (by kernel_rfl) (fun _ _ _ h => h) (by rfl) ?_
                     refine ztg_ (i := 8) (ra_ [11, 1, 1, 1, 1, 5, 8, 1, 2, 1, 1, 1, 1, 7]) HT_ HW_ rfl rfl (by kernel_rfl) (fun _ _ _ h => h) (by rfl) hHeld ?_ z10_
                     refine ztg_ (i := 11) (ra_ [13, 1, 1, 5, 8, 1, 2, 1, 1, 1, 1, 7]) HT_ HW_ rfl rfl (by kernel_rfl) (fun _ _ _ h => h) (by rfl) hHeld ?_ z10_
                     refine ztg_ (i := 13) (ra_ [15, 5, 8, 1, 2, 1, 1, 1, 1, 7]) HT_ HW_ rfl rfl (by kernel_rfl) (fun _ _ _ h => h) (by rfl) hHeld ?_ z10_
                     refine zpg_ (i := 15) (ra_ [16, 4, 8, 1, 2, 1, 1, 1, 1, 7]) HT_ rfl rfl (by kernel_rfl) (fun _ _ _ h => h) (by rfl) ?_
                     refine ztg_ (i := 16) (ra_ [17, 3, 8, 1, 2, 1, 1, 1, 1, 7]) HT_ HW_ rfl rfl (by kernel_rfl) (fun _ _ _ h => h) (by rfl) hHeld ?_ z10_
                     refine zpg_ (i := 17) (ra_ [18, 2, 8, 1, 2, 1, 1, 1, 1, 7]) HT_ rfl rfl (by kernel_rfl) (fun _ _ _ h => h) (by rfl) ?_
                     refine ztg_ (i := 18) (ra_ [19, 1, 8, 1, 2, 1, 1, 1, 1, 7]) HT_ HW_ rfl rfl (by kernel_rfl) (fun _ _ _ h => h) (by rfl) hHeld ?_ z10_
                     refine zpg_ (i := 19) (ra_ [28, 1, 2, 1, 1, 1, 1, 7]) HT_ rfl rfl (by kernel_rfl) (fun _ _ _ h => h) (by rfl) ?_
                     refine ztg_ (i := 28) (ra_ [31, 1, 1, 1, 1, 7]) HT_ HW_ rfl rfl (by kernel_rfl) (fun _ _ _ h => h) (by rfl) hHeld ?_ z10_
                     refine ztg_ (i := 31) (ra_ [33, 1, 1, 7]) HT_ HW_ rfl rfl (by kernel_rfl) (fun _ _ _ h => h) (by rfl) hHeld ?_ z10_
                     refine ztg_ (i := 33) (fl_ 42 35) HT_ HW_ rfl rfl (by kernel_rfl) (fun _ _ _ h => h) (by rfl) hHeld ?_ z10_
                     refine zp_ HT_ rfl rfl (by kernel_rfl) (fun _ _ _ h => h) (by rfl) ?_
                     refine zt_ HT_ HW_ rfl rfl (by kernel_rfl) (fun _ _ _ h => h) (by rfl) hHeld ?_ z10_
                     refine zp_ HT_ rfl rfl (by kernel_rfl) (fun _ _ _ h => h) (by rfl) ?_
                     refine zt_ HT_ HW_ rfl rfl (by kernel_rfl) (fun _ _ _ h => h) (by rfl) hHeld ?_ z10_
                     iterate 3 refine zp_ HT_ rfl rfl (by kernel_rfl) (fun _ _ _ h => h) (by rfl) ?_
                     refine done_ (done_of HT_.out (by kernel_rfl)) ?_
                     try go_wp2
                     have n0_ := Aside0.mk (Kd.R_drew HO_3.out)
                     have n1_ := Aside0.mk (Kd.R_drew HO_13.out)
                     have n2_ := Aside0.mk (blk_drew BK267.out)
                     have n3_ := Aside0.mk (Kept.drew HK.out)
                     have n4_ := Aside0.mk (below_drew1 HB.out)
                     clear HO_3
                     clear HO_13
                     clear BK267
                     clear HK
                     clear HB
                     have HO_3 := n0_
                     have HO_13 := n1_
                     have BK267 := n2_
                     have HK := n3_
                     have HB := n4_
                     clear n0_ n1_ n2_ n3_ n4_
                     have p296 : 0 ≤ (x17_3 : Int) := odt_
                     have q296 : x17_3 < (l0_2.length : Int) := odt_
                     obtain ⟨ad296, e296, hx296_0⟩ := Kd.at_int (Kd.C_kept_now HR0_2.out HK.out) x17_3 p296 q296
                     have hw296_0 := hx296_0
                     obtain rfl : ad269 = ad296 := (by injection e296)
                     replace p296 := eq_true p296
                     replace q296 := eq_true q296
                     have p297 : 0 ≤ (a1 : Int) := odt_
                     have q297 : a1 < (l0_2.length : Int) := odt_
                     obtain ⟨ad297, e297, hx297_0⟩ := Kd.at_int (Kd.C_kept_now HR0_2.out HK.out) a1 p297 q297
                     have hw297_0 := hx297_0
                     obtain rfl : ad269 = ad297 := (by injection e297)
                     replace p297 := eq_true p297
                     replace q297 := eq_true q297
                     have p298 : 0 ≤ (x18_4 : Int) := odt_
                     have q298 : x18_4 < (l0_3.length : Int) := odt_
                     obtain ⟨ad298, e298, hx298_0⟩ := Kd.at_int (Kd.C_kept_now HR0_3.out HK.out) x18_4 p298 q298
                     have hw298_0 := hx298_0
                     obtain rfl : ad268 = ad298 := (by injection e298)
                     replace p298 := eq_true p298
                     replace q298 := eq_true q298
                     have p299 : 0 ≤ (a2 : Int) := odt_
                     have q299 : a2 < (l0_3.length : Int) := odt_
                     obtain ⟨ad299, e299, hx299_0⟩ := Kd.at_int (Kd.C_kept_now HR0_3.out HK.out) a2 p299 q299
                     have hw299_0 := hx299_0
                     obtain rfl : ad268 = ad299 := (by injection e299)
                     replace p299 := eq_true p299
                     replace q299 := eq_true q299
                     refine start_ (n := 20) (S := fun w' => w'.cell? (ad269.add (x17_3).toNat) = some (.int .i64 (rd l0_2 x17_3)) ∧ w'.cell? (ad269.add (a1).toNat) = some (.int .i64 (rd l0_2 a1)) ∧ w'.cell? (ad268.add (x18_4).toNat) = some (.int .i64 (rd l0_3 x18_4)) ∧ w'.cell? (ad268.add (a2).toNat) = some (.int .i64 (rd l0_3 a2))) (ds := []) (fl_ 20 0) (by kernel_rfl) rfl (fl_zero _) ⟨(Kd.foot_int (HR0_2.out _ z20_) x17_3 (of_eq_true p296) (of_eq_true q296)), (Kd.foot_int (HR0_2.out _ z20_) a1 (of_eq_true p297) (of_eq_true q297)), (Kd.foot_int (HR0_3.out _ z20_) x18_4 (of_eq_true p298) (of_eq_true q298)), (Kd.foot_int (HR0_3.out _ z20_) a2 (of_eq_true p299) (of_eq_true q299))⟩ (fun hHeld => ?_); refine with_tabW spec_l8Forest.tab24 spec_l8Forest.bits24 (fun HT_ HW_ => ?_)
                     generalize w96.drew = w98 at HO_3 HO_13 BK267 HK HB hx296_0 hx297_0 hx298_0 hx299_0 hHeld ⊢
                     iterate 3 refine zp_ HT_ rfl rfl (by kernel_rfl) (fun _ _ _ h => h) (by rfl) ?_
                     refine zpg_ (i := 4) (ra_ [3, 1, 1, 15]) HT_ rfl rfl (by kernel_rfl) (fun _ _ _ h => h) (by rfl) ?_
                     refine zpg_ (i := 5) (ra_ [3, 1, 2, 14]) HT_ rfl rfl (by kernel_rfl) (fun _ _ _ h => h) (by rfl) ?_
                     refine zpg_ (i := 6) (ra_ [3, 1, 3, 13]) HT_ rfl rfl (by kernel_rfl) (fun _ _ _ h => h) (by rfl) ?_
                     refine ztg_ (i := 3) (fl_ 20 7) HT_ HW_ rfl rfl (by kernel_rfl) (fun _ _ _ h => h) (by rfl) hHeld ?_ z116_
                     refine zt_ HT_ HW_ rfl rfl (by kernel_rfl) (fun _ _ _ h => h) (by rfl) hHeld ?_ z116_
                     iterate 5 refine zp_ HT_ rfl rfl (by kernel_rfl) (fun _ _ _ h => h) (by rfl) ?_
                     refine zpg_ (i := 14) (ra_ [13, 1, 1, 5]) HT_ rfl rfl (by kernel_rfl) (fun _ _ _ h => h) (by rfl) ?_
                     refine zpg_ (i := 15) (ra_ [13, 1, 2, 4]) HT_ rfl rfl (by kernel_rfl) (fun _ _ _ h => h) (by rfl) ?_
                     refine zpg_ (i := 16) (ra_ [13, 1, 3, 3]) HT_ rfl rfl (by kernel_rfl) (fun _ _ _ h => h) (by rfl) ?_
                     refine ztg_ (i := 13) (fl_ 20 17) HT_ HW_ rfl rfl (by kernel_rfl) (fun _ _ _ h => h) (by rfl) hHeld ?_ z116_
                     refine zt_ HT_ HW_ rfl rfl (by kernel_rfl) (fun _ _ _ h => h) (by rfl) hHeld ?_ z116_
                     iterate 2 refine zp_ HT_ rfl rfl (by kernel_rfl) (fun _ _ _ h => h) (by rfl) ?_
                     refine done_ (done_of HT_.out (by kernel_rfl)) ?_
                     try go_wp2
                     have n0_ := Aside0.mk (Kd.R_drew HO_3.out)
                     have n1_ := Aside0.mk (Kd.R_drew HO_13.out)
                     have n2_ := Aside0.mk (blk_drew BK267.out)
                     have n3_ := Aside0.mk (Kept.drew HK.out)
                     have n4_ := Aside0.mk (below_drew1 HB.out)
                     clear HO_3
                     clear HO_13
                     clear BK267
                     clear HK
                     clear HB
                     have HO_3 := n0_
                     have HO_13 := n1_
                     have BK267 := n2_
                     have HK := n3_
                     have HB := n4_
                     clear n0_ n1_ n2_ n3_ n4_
                     have p300 : 0 ≤ ((ji81) : Int) := odt_
                     have q300 : (ji81) < (x13_4.length : Int) := odt_
                     obtain ⟨ad300, e300, hx300_0⟩ := Kd.at_int (Kd.R_reads' HO_13.out).2.2 (ji81) p300 q300
                     obtain rfl : ad290 = ad300 := (by injection e300)
                     replace p300 := eq_true p300
                     replace q300 := eq_true q300
                     have p301 : 0 ≤ (x17_3 : Int) := odt_
                     have q301 : x17_3 < (l0_0.length : Int) := odt_
                     obtain ⟨ad301, e301, hx301_0⟩ := Kd.at_int (Kd.C_kept_now HR0_0.out HK.out) x17_3 p301 q301
                     have hw301_0 := hx301_0
                     obtain rfl : ad291 = ad301 := (by injection e301)
                     replace p301 := eq_true p301
                     replace q301 := eq_true q301
                     have p302 : 0 ≤ (x18_4 : Int) := odt_
                     have q302 : x18_4 < (l0_1.length : Int) := odt_
                     obtain ⟨ad302, e302, hx302_0⟩ := Kd.at_int (Kd.C_kept_now HR0_1.out HK.out) x18_4 p302 q302
                     have hw302_0 := hx302_0
                     obtain rfl : ad294 = ad302 := (by injection e302)
                     replace p302 := eq_true p302
                     replace q302 := eq_true q302
                     have p303 : 0 ≤ ((ji84) : Int) := odt_
                     have q303 : (ji84) < (l0_6.length : Int) := odt_
                     obtain ⟨ad303, e303, hx303_0⟩ := Kd.at_int (Kd.C_kept_now HR0_6.out HK.out) (ji84) p303 q303
                     have hw303_0 := hx303_0
                     cases e303
                     replace p303 := eq_true p303
                     replace q303 := eq_true q303
                     refine start_ (n := 31) (S := fun w' => w'.cell? ⟨gb267, 0, none⟩ = some (.slice (some ad291) l0_0.length c0_0) ∧ w'.cell? ⟨gb267, 1, none⟩ = some (.slice (some ad294) l0_1.length c0_1) ∧ w'.cell? ⟨gb267, 2, none⟩ = some (.slice (some ad269) l0_2.length c0_2) ∧ w'.cell? ⟨gb267, 3, none⟩ = some (.slice (some ad268) l0_3.length c0_3) ∧ w'.cell? ⟨gb267, 4, none⟩ = some (.slice (some ad292) l0_4.length c0_4) ∧ w'.cell? ⟨gb267, 5, none⟩ = some (.slice (some ad295) l0_5.length c0_5) ∧ w'.cell? ⟨gb267, 6, none⟩ = some (.slice (some ad303) l0_6.length c0_6) ∧ w'.cell? (ad290.add ((ji81)).toNat) = some (.int .i64 (rd x13_4 (ji81))) ∧ w'.cell? (ad291.add (x17_3).toNat) = some (.int .i64 (rd l0_0 x17_3)) ∧ w'.cell? (ad294.add (x18_4).toNat) = some (.int .i64 (rd l0_1 x18_4)) ∧ w'.cell? (ad303.add ((ji84)).toNat) = some (.int .i64 (rd l0_6 (ji84)))) (ds := []) (fl_ 31 0) (by kernel_rfl) rfl (fl_zero _) ⟨(blk_cell BK267.out 0).trans rfl, (blk_cell BK267.out 1).trans rfl, (blk_cell BK267.out 2).trans rfl, (blk_cell BK267.out 3).trans rfl, (blk_cell BK267.out 4).trans rfl, (blk_cell BK267.out 5).trans rfl, (blk_cell BK267.out 6).trans rfl, hx300_0, (Kd.foot_int (HR0_0.out _ z20_) x17_3 (of_eq_true p301) (of_eq_true q301)), (Kd.foot_int (HR0_1.out _ z20_) x18_4 (of_eq_true p302) (of_eq_true q302)), (Kd.foot_int (HR0_6.out _ z20_) (ji84) (of_eq_true p303) (of_eq_true q303))⟩ (fun hHeld => ?_); refine with_tabW spec_l8Forest.tab25 spec_l8Forest.bits25 (fun HT_ HW_ => ?_)
                     generalize w98.drew = w99 at HO_3 HO_13 BK267 HK HB hx300_0 hx301_0 hx302_0 hx303_0 hHeld ⊢
                     iterate 10 refine zp_ HT_ rfl rfl (by kernel_rfl) (fun _ _ _ h => h) (by rfl) ?_
                     refine zpg_ (i := 11) (ra_ [10, 1, 1, 19]) HT_ rfl rfl (by kernel_rfl) (fun _ _ _ h => h) (by rfl) ?_
                     refine zpg_ (i := 12) (ra_ [10, 1, 2, 18]) HT_ rfl rfl (by kernel_rfl) (fun _ _ _ h => h) (by rfl) ?_
                     refine zpg_ (i := 14) (ra_ [10, 1, 2, 1, 1, 16]) HT_ rfl rfl (by kernel_rfl) (fun _ _ _ h => h) (by rfl) ?_
                     refine zpg_ (i := 16) (ra_ [10, 1, 2, 1, 1, 1, 1, 14]) HT_ rfl rfl (by kernel_rfl) (fun _ _ _ h => h) (by rfl) ?_
                     refine zpg_ (i := 20) (ra_ [10, 1, 2, 1, 1, 1, 1, 3, 1, 10]) HT_ rfl rfl (by kernel_rfl) (fun _ _ _ h => h) (by rfl) ?_
                     refine zpg_ (i := 22) (ra_ [10, 1, 2, 1, 1, 1, 1, 3, 1, 1, 1, 8]) HT_ rfl rfl (by kernel_rfl) (fun _ _ _ h => h) (by rfl) ?_
                     refine ztg_ (i := 10) (ra_ [13, 1, 1, 1, 1, 3, 1, 1, 1, 8]) HT_ HW_ rfl rfl (by kernel_rfl) (fun _ _ _ h => h) (by rfl) hHeld ?_ z93_
                     refine ztg_ (i := 13) (ra_ [15, 1, 1, 3, 1, 1, 1, 8]) HT_ HW_ rfl rfl (by kernel_rfl) (fun _ _ _ h => h) (by rfl) hHeld ?_ z93_
                     refine ztg_ (i := 15) (ra_ [17, 3, 1, 1, 1, 8]) HT_ HW_ rfl rfl (by kernel_rfl) (fun _ _ _ h => h) (by rfl) hHeld ?_ z93_
                     refine zpg_ (i := 17) (ra_ [18, 2, 1, 1, 1, 8]) HT_ rfl rfl (by kernel_rfl) (fun _ _ _ h => h) (by rfl) ?_
                     refine ztg_ (i := 18) (ra_ [19, 1, 1, 1, 1, 8]) HT_ HW_ rfl rfl (by kernel_rfl) (fun _ _ _ h => h) (by rfl) hHeld ?_ z93_
                     refine zpg_ (i := 19) (ra_ [21, 1, 1, 8]) HT_ rfl rfl (by kernel_rfl) (fun _ _ _ h => h) (by rfl) ?_
                     refine ztg_ (i := 21) (fl_ 31 23) HT_ HW_ rfl rfl (by kernel_rfl) (fun _ _ _ h => h) (by rfl) hHeld ?_ z93_
                     refine zp_ HT_ rfl rfl (by kernel_rfl) (fun _ _ _ h => h) (by rfl) ?_
                     refine zt_ HT_ HW_ rfl rfl (by kernel_rfl) (fun _ _ _ h => h) (by rfl) hHeld ?_ z93_
                     iterate 2 refine zp_ HT_ rfl rfl (by kernel_rfl) (fun _ _ _ h => h) (by rfl) ?_
                     refine zt_ HT_ HW_ rfl rfl (by kernel_rfl) (fun _ _ _ h => h) (by rfl) hHeld ?_ z93_
                     iterate 3 refine zp_ HT_ rfl rfl (by kernel_rfl) (fun _ _ _ h => h) (by rfl) ?_
                     refine done_ (done_of HT_.out (by kernel_rfl)) ?_
                     have p91 : 0 ≤ ((ji88) : Int) := odt_
                     have q91 : ((ji88) : Int) < ((x3_4.length : Int) : Int) := odt_
                     obtain ⟨go91, co91, eo91, gb91, gl91, cl91, HG91⟩ := Kd.R_form HO_3.out (by omega)
                     (first | cases eo91 | (injection eo91 with ea_ en_ ec_; (first | subst ea_ | (injection ea_ with ea_; subst ea_)); subst ec_; clear en_))
                     have GB91 := Aside0.mk gb91
                     have GG91 := Aside0.mk HG91
                     clear gb91 gl91 HG91
                     have HMgo91 := Aside0.mk (show (P3_ go91 ∨ w.heap.size ≤ go91) from (HO_3.out.1 _ rfl).1)
                     obtain ⟨hx91_0, hf91_0⟩ := Kd.R_celln 0 HO_3.out ((ji88) : Int) p91 q91
                     replace p91 := eq_true p91
                     replace q91 := eq_true q91
                     obtain ⟨hy100_, hz100_⟩ := Kd.R_celln 0 HO_3.out ((ji88) : Int) (odt_) (odt_)
                     have HP100 := Kd.R_putg HO_3.out ((ji88) : Int) ji87
                     try go_wp2_with (first | ((with_reducible refine gate_store (t := 3) (p := 252) rfl ?_); refine store_event (t := 3) (p := 252) (v := ?vo_w101) (w1 := (w99.setCell ⟨go91, ((ji88) : Int).toNat, none⟩ (.int .i64 ji87))) ?hg ?ho ?hn ?hr ?_; (case ho => rfl); (case hg => rfl); (case hn => rfl); (case hr => exact z9_); intro w101 hw; have hg : w99.grownBy w101 (some go91) := (by rw [hw]; exact HP100.2); have hp_ : Kd.R (Kd.int .i64) 3 w101 w0.heap.size (fun k_ => (P3_ k_ ∨ w.heap.size ≤ k_) ∧ some k_ ≠ (.slice (some ad290) x13_4.length co97 : Value).ownBlock) (.slice (some ⟨go91, 0, none⟩) x3_4.length co91) y304 := (by rw [hw, Ny304.out]; exact HP100.1); clear HP100; replace HO_13 := Aside0.mk (Kd.R_after (v := (.slice (some ⟨go91, 0, none⟩) x3_4.length co91)) (v1 := (.slice (some ⟨go91, 0, none⟩) x3_4.length co91)) (ok := (fun k_ => (P3_ k_ ∨ w.heap.size ≤ k_))) z74_ hg (.inl rfl)); replace BK267 := Aside0.mk (blk_grown z53_ hg (Kd.R_ne HO_3.out BK267.out (by decide))); replace HB := Aside0.mk ((by rw [hw]; exact below_set (HB.out) GB91.out : Below w0.heap.size w0 w101)); replace HK := Aside0.mk (Kept.of_grown (S := (fun k_ => P3_ k_)) hg z26_ (fun k_ e_ => (HO_3.out.1 k_ e_).1)); replace HO_3 := Aside0.mk (hp_); clear hg hw hp_; have p95 : 0 ≤ ((ji92) : Int) := odt_; have q95 : ((ji92) : Int) < ((x13_4.length : Int) : Int) := odt_; obtain ⟨go95, co95, eo95, gb95, gl95, cl95, HG95⟩ := Kd.R_form HO_13.out (by omega); (first | cases eo95 | (injection eo95 with ea_ en_ ec_; (first | subst ea_ | (injection ea_ with ea_; subst ea_)); subst ec_; clear en_)); have GB95 := Aside0.mk gb95; have GG95 := Aside0.mk HG95; clear gb95 gl95 HG95; have HMgo95 := Aside0.mk (show (P3_ go95 ∨ w.heap.size ≤ go95) from (HO_13.out.1 _ rfl).1); (first | simp only [add_plain] at hx290_0 | skip); (first | simp only [add_plain] at hx293_0 | skip); (first | simp only [add_plain] at hx300_0 | skip); obtain ⟨hx95_0, hf95_0⟩ := Kd.R_celln 0 HO_13.out ((ji92) : Int) p95 q95; replace p95 := eq_true p95; replace q95 := eq_true q95; obtain ⟨hy102_, hz102_⟩ := Kd.R_celln 0 HO_13.out ((ji92) : Int) (odt_) (odt_); have HP102 := Kd.R_putg HO_13.out ((ji92) : Int) ji87) | ((with_reducible refine gate_store (t := 3) (p := 295) rfl ?_); refine store_event (t := 3) (p := 295) (v := ?vo_w103) (w1 := (w101.setCell ⟨go95, ((ji92) : Int).toNat, none⟩ (.int .i64 ji87))) ?hg ?ho ?hn ?hr ?_; (case ho => rfl); (case hg => rfl); (case hn => rfl); (case hr => exact z9_); intro w103 hw; have hg : w101.grownBy w103 (some go95) := (by rw [hw]; exact HP102.2); have hp_ : Kd.R (Kd.int .i64) 3 w103 w0.heap.size (fun k_ => (P3_ k_ ∨ w.heap.size ≤ k_) ∧ some k_ ≠ (.slice (some ⟨go91, 0, none⟩) x3_4.length co91 : Value).ownBlock) (.slice (some ⟨go95, 0, none⟩) x13_4.length co97) y305 := (by rw [hw, Ny305.out]; exact HP102.1); clear HP102; replace HO_3 := Aside0.mk (Kd.R_after (v := (.slice (some ⟨go95, 0, none⟩) x13_4.length co97)) (v1 := (.slice (some ⟨go95, 0, none⟩) x13_4.length co97)) (ok := (fun k_ => (P3_ k_ ∨ w.heap.size ≤ k_))) z14_ hg (.inl rfl)); replace BK267 := Aside0.mk (blk_grown z53_ hg (Kd.R_ne HO_13.out BK267.out (by decide))); replace HB := Aside0.mk ((by rw [hw]; exact below_set (HB.out) GB95.out : Below w0.heap.size w0 w103)); replace HK := Aside0.mk (Kept.of_grown (S := (fun k_ => P3_ k_)) hg z26_ (fun k_ e_ => (HO_13.out.1 k_ e_).1)); replace HO_13 := Aside0.mk (hp_); clear hg hw hp_))
                     go_roundg k4
                     case measure => have := HK1.out; have := HK2.out; have := HK3.out; have := HK4.out; omega
                     case rel => exact ⟨(y304), (y305), (wrap64 (x18_4 + 1)), z4_, H', ⟨z210_⟩, ⟨z14_⟩, ⟨z74_⟩, ⟨z53_⟩, ⟨z26_⟩, ⟨z38_⟩⟩
                   ·as_aux_lemma =>
                     rw [if_neg c80] at H
                     have c80b0 : ((rd l0_3 x18_4) == (rd l0_3 a2)) = false := beq_eq_false_iff_ne.mpr c80
                     have c80b1 : ((rd l0_3 x18_4) != (rd l0_3 a2)) = true := bne_iff_ne.mpr c80
                     obtain ⟨ji104, hji104⟩ : ∃ j_ : Int, (wrap64 ((wrap64 ((wrap64 ((wrap64 ((rd l0_2 x17_3) - (rd l0_2 a1))) * (wrap64 ((wrap64 (a2 - (rd l0_3 a2))) + 2)))) + (rd l0_3 x18_4))) - (rd l0_3 a2))) = j_ := ⟨_, rfl⟩
                     first | rw [hji104] at H | simp only [hji104] at H
                     have hji104w : (IntKind.i64.wrap ((wrap64 ((wrap64 ((wrap64 ((rd l0_2 x17_3) - (rd l0_2 a1))) * (wrap64 ((wrap64 (a2 - (rd l0_3 a2))) + 2)))) + (rd l0_3 x18_4))) - (rd l0_3 a2))) = ji104 := (i64_w _).trans hji104
                     obtain ⟨c105b0, H⟩ := ifd_ H
                     obtain ⟨c106b0, H⟩ := ifd_ H
                     obtain ⟨ji107, hji107⟩ : ∃ j_ : Int, (wrap64 ((wrap64 (x17_3 * (l0_3.length : Int))) + x18_4)) = j_ := ⟨_, rfl⟩
                     first | rw [hji107] at H | simp only [hji107] at H
                     have hji107w : (IntKind.i64.wrap ((wrap64 (x17_3 * (l0_3.length : Int))) + x18_4)) = ji107 := (i64_w _).trans hji107
                     obtain ⟨c108b0, H⟩ := ifd_ H
                     obtain ⟨c109b0, H⟩ := ifd_ H
                     obtain ⟨ji110, hji110⟩ : ∃ j_ : Int, (mn (ji76) (wrap64 ((rd x13_4 (ji104)) + (rd x3_4 (ji107))))) = j_ := ⟨_, rfl⟩
                     first | rw [hji110] at H | simp only [hji110] at H
                     have hji110_ : (if (wrap64 ((rd x13_4 (ji104)) + (rd x3_4 (ji107)))) < (ji76) then (wrap64 ((rd x13_4 (ji104)) + (rd x3_4 (ji107)))) else (ji76)) = ji110 := hji110
                     obtain ⟨ji111, hji111⟩ : ∃ j_ : Int, (wrap64 ((wrap64 ((wrap64 ((wrap64 (x17_3 - (rd l0_2 a1))) + 1)) * (wrap64 ((wrap64 (a2 - (rd l0_3 a2))) + 2)))) + (wrap64 ((wrap64 (x18_4 - (rd l0_3 a2))) + 1)))) = j_ := ⟨_, rfl⟩
                     have hji69_ji111 : (wrap64 (ji111 - 1)) = ji69 := (by rw [← hji111]; exact hji69)
                     have hji69_ji111w : (IntKind.i64.wrap (ji111 - 1)) = ji69 := (i64_w _).trans hji69_ji111
                     first | rw [hji111] at H | simp only [hji111] at H
                     have hji111w : (IntKind.i64.wrap ((wrap64 ((wrap64 ((wrap64 (x17_3 - (rd l0_2 a1))) + 1)) * (wrap64 ((wrap64 (a2 - (rd l0_3 a2))) + 2)))) + (wrap64 ((wrap64 (x18_4 - (rd l0_3 a2))) + 1)))) = ji111 := (i64_w _).trans hji111
                     obtain ⟨c112b0, H⟩ := ifd_ H
                     obtain ⟨c113b0, H⟩ := ifd_ H
                     first | ((with_reducible have hz_ := gy_ H); obtain ⟨y312, Ny312, H⟩ := hz_) | (generalize hy_ : ((x13_4.set ((ji111) : Int).toNat (ji110)) : List Int) = y312 at H; have Ny312 := Aside0.mk hy_.symm; clear hy_)
                     have H' := Aside0.mk H
                     clear H
                     have p288 : 0 ≤ (a1 : Int) := odt_
                     have q288 : a1 < (l0_2.length : Int) := odt_
                     obtain ⟨ad288, e288, hx288_0⟩ := Kd.at_int (Kd.C_kept_now HR0_2.out HK.out) a1 p288 q288
                     obtain rfl : ad269 = ad288 := (by injection e288)
                     replace p288 := eq_true p288
                     replace q288 := eq_true q288
                     have p289 : 0 ≤ (a2 : Int) := odt_
                     have q289 : a2 < (l0_3.length : Int) := odt_
                     obtain ⟨ad289, e289, hx289_0⟩ := Kd.at_int (Kd.C_kept_now HR0_3.out HK.out) a2 p289 q289
                     obtain rfl : ad268 = ad289 := (by injection e289)
                     replace p289 := eq_true p289
                     replace q289 := eq_true q289
                     try go_wp2
                     have n0_ := Aside0.mk (Kd.R_drew HO_3.out)
                     have n1_ := Aside0.mk (Kd.R_drew HO_13.out)
                     have n2_ := Aside0.mk (blk_drew BK267.out)
                     have n3_ := Aside0.mk (Kept.drew HK.out)
                     have n4_ := Aside0.mk (below_drew1 HB.out)
                     clear HO_3
                     clear HO_13
                     clear BK267
                     clear HK
                     clear HB
                     have HO_3 := n0_
                     have HO_13 := n1_
                     have BK267 := n2_
                     have HK := n3_
                     have HB := n4_
                     clear n0_ n1_ n2_ n3_ n4_
                     obtain ⟨Ao116, co116, eo116⟩ := Kd.R_slice HO_13.out
                     (first | subst eo116 | (injection eo116 with f1_ f2_ f3_; have f4_ := f1_.symm; have f5_ := f3_.symm; clear f1_ f2_ f3_; subst f4_; subst f5_))
                     have p290 : 0 ≤ ((ji62) : Int) := odt_
                     have q290 : (ji62) < (x13_4.length : Int) := odt_
                     obtain ⟨ad290, e290, hx290_0⟩ := Kd.at_int (Kd.R_reads' HO_13.out).2.2 (ji62) p290 q290
                     cases e290
                     replace p290 := eq_true p290
                     replace q290 := eq_true q290
                     have p291 : 0 ≤ (x17_3 : Int) := odt_
                     have q291 : x17_3 < (l0_0.length : Int) := odt_
                     obtain ⟨ad291, e291, hx291_0⟩ := Kd.at_int (Kd.C_kept_now HR0_0.out HK.out) x17_3 p291 q291
                     have hw291_0 := hx291_0
                     cases e291
                     replace p291 := eq_true p291
                     replace q291 := eq_true q291
                     have p292 : 0 ≤ ((rd l0_0 x17_3) : Int) := odt_
                     have q292 : (rd l0_0 x17_3) < (l0_4.length : Int) := odt_
                     obtain ⟨ad292, e292, hx292_0⟩ := Kd.at_int (Kd.C_kept_now HR0_4.out HK.out) (rd l0_0 x17_3) p292 q292
                     have hw292_0 := hx292_0
                     cases e292
                     replace p292 := eq_true p292
                     replace q292 := eq_true q292
                     have p293 : 0 ≤ ((ji69) : Int) := odt_
                     have q293 : (ji69) < (x13_4.length : Int) := odt_
                     obtain ⟨ad293, e293, hx293_0⟩ := Kd.at_int (Kd.R_reads' HO_13.out).2.2 (ji69) p293 q293
                     obtain rfl : ad290 = ad293 := (by injection e293)
                     replace p293 := eq_true p293
                     replace q293 := eq_true q293
                     have p294 : 0 ≤ (x18_4 : Int) := odt_
                     have q294 : x18_4 < (l0_1.length : Int) := odt_
                     obtain ⟨ad294, e294, hx294_0⟩ := Kd.at_int (Kd.C_kept_now HR0_1.out HK.out) x18_4 p294 q294
                     have hw294_0 := hx294_0
                     cases e294
                     replace p294 := eq_true p294
                     replace q294 := eq_true q294
                     have p295 : 0 ≤ ((rd l0_1 x18_4) : Int) := odt_
                     have q295 : (rd l0_1 x18_4) < (l0_5.length : Int) := odt_
                     obtain ⟨ad295, e295, hx295_0⟩ := Kd.at_int (Kd.C_kept_now HR0_5.out HK.out) (rd l0_1 x18_4) p295 q295
                     have hw295_0 := hx295_0
                     cases e295
                     replace p295 := eq_true p295
                     replace q295 := eq_true q295
                     refine start_ (n := 42) (S := fun w' => w'.cell? ⟨gb267, 0, none⟩ = some (.slice (some ad291) l0_0.length c0_0) ∧ w'.cell? ⟨gb267, 1, none⟩ = some (.slice (some ad294) l0_1.length c0_1) ∧ w'.cell? ⟨gb267, 2, none⟩ = some (.slice (some ad269) l0_2.length c0_2) ∧ w'.cell? ⟨gb267, 3, none⟩ = some (.slice (some ad268) l0_3.length c0_3) ∧ w'.cell? ⟨gb267, 4, none⟩ = some (.slice (some ad292) l0_4.length c0_4) ∧ w'.cell? ⟨gb267, 5, none⟩ = some (.slice (some ad295) l0_5.length c0_5) ∧ w'.cell? ⟨gb267, 6, none⟩ = some (.slice A0_6 l0_6.length c0_6) ∧ w'.cell? (ad290.add ((ji62)).toNat) = some (.int .i64 (rd x13_4 (ji62))) ∧ w'.cell? (ad291.add (x17_3).toNat) = some (.int .i64 (rd l0_0 x17_3)) ∧ w'.cell? (ad292.add ((rd l0_0 x17_3)).toNat) = some (.int .i64 (rd l0_4 (rd l0_0 x17_3))) ∧ w'.cell? (ad290.add ((ji69)).toNat) = some (.int .i64 (rd x13_4 (ji69))) ∧ w'.cell? (ad294.add (x18_4).toNat) = some (.int .i64 (rd l0_1 x18_4)) ∧ w'.cell? (ad295.add ((rd l0_1 x18_4)).toNat) = some (.int .i64 (rd l0_5 (rd l0_1 x18_4)))) (ds := []) (fl_ 42 0) (by kernel_rfl) rfl (fl_zero _) ⟨(blk_cell BK267.out 0).trans rfl, (blk_cell BK267.out 1).trans rfl, (blk_cell BK267.out 2).trans rfl, (blk_cell BK267.out 3).trans rfl, (blk_cell BK267.out 4).trans rfl, (blk_cell BK267.out 5).trans rfl, (blk_cell BK267.out 6).trans rfl, hx290_0, (Kd.foot_int (HR0_0.out _ z20_) x17_3 (of_eq_true p291) (of_eq_true q291)), (Kd.foot_int (HR0_4.out _ z20_) (rd l0_0 x17_3) (of_eq_true p292) (of_eq_true q292)), hx293_0, (Kd.foot_int (HR0_1.out _ z20_) x18_4 (of_eq_true p294) (of_eq_true q294)), (Kd.foot_int (HR0_5.out _ z20_) (rd l0_1 x18_4) (of_eq_true p295) (of_eq_true q295))⟩ (fun hHeld => ?_); refine with_tabW spec_l8Forest.tab23 spec_l8Forest.bits23 (fun HT_ HW_ => ?_)
                     generalize wr.drew = w115 at HO_3 HO_13 BK267 HK HB hx290_0 hx291_0 hx292_0 hx293_0 hx294_0 hx295_0 hHeld ⊢
                     iterate 8 refine zp_ HT_ rfl rfl (by kernel_rfl) (fun _ _ _ h => h) (by rfl) ?_
                     refine zpg_ (i := 9) (ra_ [8, 1, 1, 32]) HT_ rfl rfl (by kernel_rfl) (fun _ _ _ h => h) (by rfl) ?_
                     refine zpg_ (i := 10) (ra_ [8, 1, 2, 31]) HT_ rfl rfl (by kernel_rfl) (fun _ _ _ h => h) (by rfl) ?_
                     refine zpg_ (i := 12) (ra_ [8, 1, 2, 1, 1, 29]) HT_ rfl rfl (by kernel_rfl) (fun _ _ _ h => h) (by rfl) ?_
                     refine zpg_ (i := 14) (ra_ [8, 1, 2, 1, 1, 1, 1, 27]) HT_ rfl rfl (by kernel_rfl) (fun _ _ _ h => h) (by rfl) ?_
                     refine zpg_ (i := 20) (ra_ [8, 1, 2, 1, 1, 1, 1, 5, 1, 21]) HT_ rfl rfl (by kernel_rfl) (fun _ _ _ h => h) (by rfl) ?_
                     refine zpg_ (i := 21) (ra_ [8, 1, 2, 1, 1, 1, 1, 5, 2, 20]) HT_ rfl rfl (by kernel_rfl) (fun _ _ _ h => h) (by rfl) ?_
                     refine zpg_ (i := 22) (ra_ [8, 1, 2, 1, 1, 1, 1, 5, 3, 19]) HT_ rfl rfl (by kernel_rfl) (fun _ _ _ h => h) (by rfl) ?_
                     refine zpg_ (i := 23) (ra_ [8, 1, 2, 1, 1, 1, 1, 5, 4, 18]) HT_ rfl rfl (by kernel_rfl) (fun _ _ _ h => h) (by rfl) ?_
                     refine zpg_ (i := 24) (ra_ [8, 1, 2, 1, 1, 1, 1, 5, 5, 17]) HT_ rfl rfl (by kernel_rfl) (fun _ _ _ h => h) (by rfl) ?_
                     refine zpg_ (i := 25) (ra_ [8, 1, 2, 1, 1, 1, 1, 5, 6, 16]) HT_ rfl rfl (by kernel_rfl) (fun _ _ _ h => h) (by rfl) ?_
                     refine zpg_ (i := 26) (ra_ [8, 1, 2, 1, 1, 1, 1, 5, 7, 15]) HT_ rfl rfl (by kernel_rfl) (fun _ _ _ h => h) (by rfl) ?_
                     refine zpg_ (i := 27) (ra_ [8, 1, 2, 1, 1, 1, 1, 5, 8, 14]) HT_ rfl rfl (by kernel_rfl) (fun _ _ _ h => h) (by rfl) ?_
                     refine zpg_ (i := 29) (ra_ [8, 1, 2, 1, 1, 1, 1, 5, 8, 1, 1, 12]) HT_ rfl rfl (by kernel_rfl) (fun _ _ _ h => h) (by rfl) ?_
                     refine zpg_ (i := 30) (ra_ [8, 1, 2, 1, 1, 1, 1, 5, 8, 1, 2, 11]) HT_ rfl rfl (by kernel_rfl) (fun _ _ _ h => h) (by rfl) ?_
                     refine zpg_ (i := 32) (ra_ [8, 1, 2, 1, 1, 1, 1, 5, 8, 1, 2, 1, 1, 9]) HT_ rfl rfl (by kernel_rfl) (fun _ _ _ h => h) (by rfl) ?_
                     refine zpg_ (i := 34) (ra_ [8, 1, 2, 1, 1, 1, 1, 5, 8, 1, 2, 1, 1, 1, 1, 7]) HT_ rfl rfl (by kernel_rfl) (fun _ _ _ h => h) (by rfl) ?_
                     refine ztg_ (i := 8) (ra_ [11, 1, 1, 1, 1, 5, 8, 1, 2, 1, 1, 1, 1, 7]) HT_ HW_ rfl rfl (by kernel_rfl) (fun _ _ _ h => h) (by rfl) hHeld ?_ z10_
                     refine ztg_ (i := 11) (ra_ [13, 1, 1, 5, 8, 1, 2, 1, 1, 1, 1, 7]) HT_ HW_ rfl rfl (by kernel_rfl) (fun _ _ _ h => h) (by rfl) hHeld ?_ z10_
                     refine ztg_ (i := 13) (ra_ [15, 5, 8, 1, 2, 1, 1, 1, 1, 7]) HT_ HW_ rfl rfl (by kernel_rfl) (fun _ _ _ h => h) (by rfl) hHeld ?_ z10_
                     refine zpg_ (i := 15) (ra_ [16, 4, 8, 1, 2, 1, 1, 1, 1, 7]) HT_ rfl rfl (by kernel_rfl) (fun _ _ _ h => h) (by rfl) ?_
                     refine ztg_ (i := 16) (ra_ [17, 3, 8, 1, 2, 1, 1, 1, 1, 7]) HT_ HW_ rfl rfl (by kernel_rfl) (fun _ _ _ h => h) (by rfl) hHeld ?_ z10_
                     refine zpg_ (i := 17) (ra_ [18, 2, 8, 1, 2, 1, 1, 1, 1, 7]) HT_ rfl rfl (by kernel_rfl) (fun _ _ _ h => h) (by rfl) ?_
                     refine ztg_ (i := 18) (ra_ [19, 1, 8, 1, 2, 1, 1, 1, 1, 7]) HT_ HW_ rfl rfl (by kernel_rfl) (fun _ _ _ h => h) (by rfl) hHeld ?_ z10_
                     refine zpg_ (i := 19) (ra_ [28, 1, 2, 1, 1, 1, 1, 7]) HT_ rfl rfl (by kernel_rfl) (fun _ _ _ h => h) (by rfl) ?_
                     refine ztg_ (i := 28) (ra_ [31, 1, 1, 1, 1, 7]) HT_ HW_ rfl rfl (by kernel_rfl) (fun _ _ _ h => h) (by rfl) hHeld ?_ z10_
                     refine ztg_ (i := 31) (ra_ [33, 1, 1, 7]) HT_ HW_ rfl rfl (by kernel_rfl) (fun _ _ _ h => h) (by rfl) hHeld ?_ z10_
                     refine ztg_ (i := 33) (fl_ 42 35) HT_ HW_ rfl rfl (by kernel_rfl) (fun _ _ _ h => h) (by rfl) hHeld ?_ z10_
                     refine zp_ HT_ rfl rfl (by kernel_rfl) (fun _ _ _ h => h) (by rfl) ?_
                     refine zt_ HT_ HW_ rfl rfl (by kernel_rfl) (fun _ _ _ h => h) (by rfl) hHeld ?_ z10_
                     refine zp_ HT_ rfl rfl (by kernel_rfl) (fun _ _ _ h => h) (by rfl) ?_
                     refine zt_ HT_ HW_ rfl rfl (by kernel_rfl) (fun _ _ _ h => h) (by rfl) hHeld ?_ z10_
                     iterate 3 refine zp_ HT_ rfl rfl (by kernel_rfl) (fun _ _ _ h => h) (by rfl) ?_
                     refine done_ (done_of HT_.out (by kernel_rfl)) ?_
                     try go_wp2
                     have n0_ := Aside0.mk (Kd.R_drew HO_3.out)
                     have n1_ := Aside0.mk (Kd.R_drew HO_13.out)
                     have n2_ := Aside0.mk (blk_drew BK267.out)
                     have n3_ := Aside0.mk (Kept.drew HK.out)
                     have n4_ := Aside0.mk (below_drew1 HB.out)
                     clear HO_3
                     clear HO_13
                     clear BK267
                     clear HK
                     clear HB
                     have HO_3 := n0_
                     have HO_13 := n1_
                     have BK267 := n2_
                     have HK := n3_
                     have HB := n4_
                     clear n0_ n1_ n2_ n3_ n4_
                     have p296 : 0 ≤ (x17_3 : Int) := odt_
                     have q296 : x17_3 < (l0_2.length : Int) := odt_
                     obtain ⟨ad296, e296, hx296_0⟩ := Kd.at_int (Kd.C_kept_now HR0_2.out HK.out) x17_3 p296 q296
                     have hw296_0 := hx296_0
                     obtain rfl : ad269 = ad296 := (by injection e296)
                     replace p296 := eq_true p296
                     replace q296 := eq_true q296
                     have p297 : 0 ≤ (a1 : Int) := odt_
                     have q297 : a1 < (l0_2.length : Int) := odt_
                     obtain ⟨ad297, e297, hx297_0⟩ := Kd.at_int (Kd.C_kept_now HR0_2.out HK.out) a1 p297 q297
                     have hw297_0 := hx297_0
                     obtain rfl : ad269 = ad297 := (by injection e297)
                     replace p297 := eq_true p297
                     replace q297 := eq_true q297
                     have p298 : 0 ≤ (x18_4 : Int) := odt_
                     have q298 : x18_4 < (l0_3.length : Int) := odt_
                     obtain ⟨ad298, e298, hx298_0⟩ := Kd.at_int (Kd.C_kept_now HR0_3.out HK.out) x18_4 p298 q298
                     have hw298_0 := hx298_0
                     obtain rfl : ad268 = ad298 := (by injection e298)
                     replace p298 := eq_true p298
                     replace q298 := eq_true q298
                     have p299 : 0 ≤ (a2 : Int) := odt_
                     have q299 : a2 < (l0_3.length : Int) := odt_
                     obtain ⟨ad299, e299, hx299_0⟩ := Kd.at_int (Kd.C_kept_now HR0_3.out HK.out) a2 p299 q299
                     have hw299_0 := hx299_0
                     obtain rfl : ad268 = ad299 := (by injection e299)
                     replace p299 := eq_true p299
                     replace q299 := eq_true q299
                     refine start_ (n := 20) (S := fun w' => w'.cell? (ad269.add (x17_3).toNat) = some (.int .i64 (rd l0_2 x17_3)) ∧ w'.cell? (ad269.add (a1).toNat) = some (.int .i64 (rd l0_2 a1)) ∧ w'.cell? (ad268.add (x18_4).toNat) = some (.int .i64 (rd l0_3 x18_4)) ∧ w'.cell? (ad268.add (a2).toNat) = some (.int .i64 (rd l0_3 a2))) (ds := []) (fl_ 20 0) (by kernel_rfl) rfl (fl_zero _) ⟨(Kd.foot_int (HR0_2.out _ z20_) x17_3 (of_eq_true p296) (of_eq_true q296)), (Kd.foot_int (HR0_2.out _ z20_) a1 (of_eq_true p297) (of_eq_true q297)), (Kd.foot_int (HR0_3.out _ z20_) x18_4 (of_eq_true p298) (of_eq_true q298)), (Kd.foot_int (HR0_3.out _ z20_) a2 (of_eq_true p299) (of_eq_true q299))⟩ (fun hHeld => ?_); refine with_tabW spec_l8Forest.tab24 spec_l8Forest.bits24 (fun HT_ HW_ => ?_)
                     generalize w115.drew = w117 at HO_3 HO_13 BK267 HK HB hx296_0 hx297_0 hx298_0 hx299_0 hHeld ⊢
                     iterate 3 refine zp_ HT_ rfl rfl (by kernel_rfl) (fun _ _ _ h => h) (by rfl) ?_
                     refine zpg_ (i := 4) (ra_ [3, 1, 1, 15]) HT_ rfl rfl (by kernel_rfl) (fun _ _ _ h => h) (by rfl) ?_
                     refine zpg_ (i := 5) (ra_ [3, 1, 2, 14]) HT_ rfl rfl (by kernel_rfl) (fun _ _ _ h => h) (by rfl) ?_
                     refine zpg_ (i := 6) (ra_ [3, 1, 3, 13]) HT_ rfl rfl (by kernel_rfl) (fun _ _ _ h => h) (by rfl) ?_
                     refine ztg_ (i := 3) (fl_ 20 7) HT_ HW_ rfl rfl (by kernel_rfl) (fun _ _ _ h => h) (by rfl) hHeld ?_ z116_
                     refine zt_ HT_ HW_ rfl rfl (by kernel_rfl) (fun _ _ _ h => h) (by rfl) hHeld ?_ z116_
                     iterate 5 refine zp_ HT_ rfl rfl (by kernel_rfl) (fun _ _ _ h => h) (by rfl) ?_
                     refine zpg_ (i := 14) (ra_ [13, 1, 1, 5]) HT_ rfl rfl (by kernel_rfl) (fun _ _ _ h => h) (by rfl) ?_
                     refine zpg_ (i := 15) (ra_ [13, 1, 2, 4]) HT_ rfl rfl (by kernel_rfl) (fun _ _ _ h => h) (by rfl) ?_
                     refine zpg_ (i := 16) (ra_ [13, 1, 3, 3]) HT_ rfl rfl (by kernel_rfl) (fun _ _ _ h => h) (by rfl) ?_
                     refine ztg_ (i := 13) (fl_ 20 17) HT_ HW_ rfl rfl (by kernel_rfl) (fun _ _ _ h => h) (by rfl) hHeld ?_ z116_
                     refine zt_ HT_ HW_ rfl rfl (by kernel_rfl) (fun _ _ _ h => h) (by rfl) hHeld ?_ z116_
                     iterate 2 refine zp_ HT_ rfl rfl (by kernel_rfl) (fun _ _ _ h => h) (by rfl) ?_
                     refine done_ (done_of HT_.out (by kernel_rfl)) ?_
                     try go_wp2
                     have n0_ := Aside0.mk (Kd.R_drew HO_3.out)
                     have n1_ := Aside0.mk (Kd.R_drew HO_13.out)
                     have n2_ := Aside0.mk (blk_drew BK267.out)
                     have n3_ := Aside0.mk (Kept.drew HK.out)
                     have n4_ := Aside0.mk (below_drew1 HB.out)
                     clear HO_3
                     clear HO_13
                     clear BK267
                     clear HK
                     clear HB
                     have HO_3 := n0_
                     have HO_13 := n1_
                     have BK267 := n2_
                     have HK := n3_
                     have HB := n4_
                     clear n0_ n1_ n2_ n3_ n4_
                     have p306 : 0 ≤ (x17_3 : Int) := odt_
                     have q306 : x17_3 < (l0_2.length : Int) := odt_
                     obtain ⟨ad306, e306, hx306_0⟩ := Kd.at_int (Kd.C_kept_now HR0_2.out HK.out) x17_3 p306 q306
                     have hw306_0 := hx306_0
                     obtain rfl : ad269 = ad306 := (by injection e306)
                     replace p306 := eq_true p306
                     replace q306 := eq_true q306
                     have p307 : 0 ≤ (a1 : Int) := odt_
                     have q307 : a1 < (l0_2.length : Int) := odt_
                     obtain ⟨ad307, e307, hx307_0⟩ := Kd.at_int (Kd.C_kept_now HR0_2.out HK.out) a1 p307 q307
                     have hw307_0 := hx307_0
                     obtain rfl : ad269 = ad307 := (by injection e307)
                     replace p307 := eq_true p307
                     replace q307 := eq_true q307
                     have p308 : 0 ≤ (x18_4 : Int) := odt_
                     have q308 : x18_4 < (l0_3.length : Int) := odt_
                     obtain ⟨ad308, e308, hx308_0⟩ := Kd.at_int (Kd.C_kept_now HR0_3.out HK.out) x18_4 p308 q308
                     have hw308_0 := hx308_0
                     obtain rfl : ad268 = ad308 := (by injection e308)
                     replace p308 := eq_true p308
                     replace q308 := eq_true q308
                     have p309 : 0 ≤ (a2 : Int) := odt_
                     have q309 : a2 < (l0_3.length : Int) := odt_
                     obtain ⟨ad309, e309, hx309_0⟩ := Kd.at_int (Kd.C_kept_now HR0_3.out HK.out) a2 p309 q309
                     have hw309_0 := hx309_0
                     obtain rfl : ad268 = ad309 := (by injection e309)
                     replace p309 := eq_true p309
                     replace q309 := eq_true q309
                     have p310 : 0 ≤ ((ji104) : Int) := odt_
                     have q310 : (ji104) < (x13_4.length : Int) := odt_
                     obtain ⟨ad310, e310, hx310_0⟩ := Kd.at_int (Kd.R_reads' HO_13.out).2.2 (ji104) p310 q310
                     obtain rfl : ad290 = ad310 := (by injection e310)
                     replace p310 := eq_true p310
                     replace q310 := eq_true q310
                     obtain ⟨Ao119, co119, eo119⟩ := Kd.R_slice HO_3.out
                     (first | subst eo119 | (injection eo119 with f1_ f2_ f3_; have f4_ := f1_.symm; have f5_ := f3_.symm; clear f1_ f2_ f3_; subst f4_; subst f5_))
                     have p311 : 0 ≤ ((ji107) : Int) := odt_
                     have q311 : (ji107) < (x3_4.length : Int) := odt_
                     obtain ⟨ad311, e311, hx311_0⟩ := Kd.at_int (Kd.R_reads' HO_3.out).2.2 (ji107) p311 q311
                     cases e311
                     replace p311 := eq_true p311
                     replace q311 := eq_true q311
                     refine start_ (n := 36) (S := fun w' => w'.cell? (ad269.add (x17_3).toNat) = some (.int .i64 (rd l0_2 x17_3)) ∧ w'.cell? (ad269.add (a1).toNat) = some (.int .i64 (rd l0_2 a1)) ∧ w'.cell? (ad268.add (x18_4).toNat) = some (.int .i64 (rd l0_3 x18_4)) ∧ w'.cell? (ad268.add (a2).toNat) = some (.int .i64 (rd l0_3 a2)) ∧ w'.cell? (ad290.add ((ji104)).toNat) = some (.int .i64 (rd x13_4 (ji104))) ∧ w'.cell? (ad311.add ((ji107)).toNat) = some (.int .i64 (rd x3_4 (ji107)))) (ds := []) (fl_ 36 0) (by kernel_rfl) rfl (fl_zero _) ⟨(Kd.foot_int (HR0_2.out _ z20_) x17_3 (of_eq_true p306) (of_eq_true q306)), (Kd.foot_int (HR0_2.out _ z20_) a1 (of_eq_true p307) (of_eq_true q307)), (Kd.foot_int (HR0_3.out _ z20_) x18_4 (of_eq_true p308) (of_eq_true q308)), (Kd.foot_int (HR0_3.out _ z20_) a2 (of_eq_true p309) (of_eq_true q309)), hx310_0, hx311_0⟩ (fun hHeld => ?_); refine with_tabW spec_l8Forest.tab27 spec_l8Forest.bits27 (fun HT_ HW_ => ?_)
                     generalize w117.drew = w118 at HO_3 HO_13 BK267 HK HB hx306_0 hx307_0 hx308_0 hx309_0 hx310_0 hx311_0 hHeld ⊢
                     iterate 5 refine zp_ HT_ rfl rfl (by kernel_rfl) (fun _ _ _ h => h) (by rfl) ?_
                     refine zpg_ (i := 6) (ra_ [5, 1, 1, 29]) HT_ rfl rfl (by kernel_rfl) (fun _ _ _ h => h) (by rfl) ?_
                     refine zpg_ (i := 7) (ra_ [5, 1, 2, 28]) HT_ rfl rfl (by kernel_rfl) (fun _ _ _ h => h) (by rfl) ?_
                     refine zpg_ (i := 8) (ra_ [5, 1, 3, 27]) HT_ rfl rfl (by kernel_rfl) (fun _ _ _ h => h) (by rfl) ?_
                     refine zpg_ (i := 11) (ra_ [5, 1, 3, 2, 1, 24]) HT_ rfl rfl (by kernel_rfl) (fun _ _ _ h => h) (by rfl) ?_
                     refine zpg_ (i := 13) (ra_ [5, 1, 3, 2, 1, 1, 1, 22]) HT_ rfl rfl (by kernel_rfl) (fun _ _ _ h => h) (by rfl) ?_
                     refine zpg_ (i := 14) (ra_ [5, 1, 3, 2, 1, 1, 2, 21]) HT_ rfl rfl (by kernel_rfl) (fun _ _ _ h => h) (by rfl) ?_
                     refine zpg_ (i := 15) (ra_ [5, 1, 3, 2, 1, 1, 3, 20]) HT_ rfl rfl (by kernel_rfl) (fun _ _ _ h => h) (by rfl) ?_
                     refine zpg_ (i := 18) (ra_ [5, 1, 3, 2, 1, 1, 3, 2, 1, 17]) HT_ rfl rfl (by kernel_rfl) (fun _ _ _ h => h) (by rfl) ?_
                     refine zpg_ (i := 19) (ra_ [5, 1, 3, 2, 1, 1, 3, 2, 2, 16]) HT_ rfl rfl (by kernel_rfl) (fun _ _ _ h => h) (by rfl) ?_
                     refine zpg_ (i := 20) (ra_ [5, 1, 3, 2, 1, 1, 3, 2, 3, 15]) HT_ rfl rfl (by kernel_rfl) (fun _ _ _ h => h) (by rfl) ?_
                     refine zpg_ (i := 25) (ra_ [5, 1, 3, 2, 1, 1, 3, 2, 3, 4, 1, 10]) HT_ rfl rfl (by kernel_rfl) (fun _ _ _ h => h) (by rfl) ?_
                     refine zpg_ (i := 26) (ra_ [5, 1, 3, 2, 1, 1, 3, 2, 3, 4, 2, 9]) HT_ rfl rfl (by kernel_rfl) (fun _ _ _ h => h) (by rfl) ?_
                     refine zpg_ (i := 27) (ra_ [5, 1, 3, 2, 1, 1, 3, 2, 3, 4, 3, 8]) HT_ rfl rfl (by kernel_rfl) (fun _ _ _ h => h) (by rfl) ?_
                     refine zpg_ (i := 28) (ra_ [5, 1, 3, 2, 1, 1, 3, 2, 3, 4, 4, 7]) HT_ rfl rfl (by kernel_rfl) (fun _ _ _ h => h) (by rfl) ?_
                     refine zpg_ (i := 29) (ra_ [5, 1, 3, 2, 1, 1, 3, 2, 3, 4, 5, 6]) HT_ rfl rfl (by kernel_rfl) (fun _ _ _ h => h) (by rfl) ?_
                     refine zpg_ (i := 30) (ra_ [5, 1, 3, 2, 1, 1, 3, 2, 3, 4, 6, 5]) HT_ rfl rfl (by kernel_rfl) (fun _ _ _ h => h) (by rfl) ?_
                     refine zpg_ (i := 31) (ra_ [5, 1, 3, 2, 1, 1, 3, 2, 3, 4, 7, 4]) HT_ rfl rfl (by kernel_rfl) (fun _ _ _ h => h) (by rfl) ?_
                     refine ztg_ (i := 5) (ra_ [9, 2, 1, 1, 3, 2, 3, 4, 7, 4]) HT_ HW_ rfl rfl (by kernel_rfl) (fun _ _ _ h => h) (by rfl) hHeld ?_ z88_
                     refine ztg_ (i := 9) (ra_ [10, 1, 1, 1, 3, 2, 3, 4, 7, 4]) HT_ HW_ rfl rfl (by kernel_rfl) (fun _ _ _ h => h) (by rfl) hHeld ?_ z88_
                     refine zpg_ (i := 10) (ra_ [12, 1, 3, 2, 3, 4, 7, 4]) HT_ rfl rfl (by kernel_rfl) (fun _ _ _ h => h) (by rfl) ?_
                     refine zpg_ (i := 12) (ra_ [16, 2, 3, 4, 7, 4]) HT_ rfl rfl (by kernel_rfl) (fun _ _ _ h => h) (by rfl) ?_
                     refine ztg_ (i := 16) (ra_ [17, 1, 3, 4, 7, 4]) HT_ HW_ rfl rfl (by kernel_rfl) (fun _ _ _ h => h) (by rfl) hHeld ?_ z88_
                     refine zpg_ (i := 17) (ra_ [21, 4, 7, 4]) HT_ rfl rfl (by kernel_rfl) (fun _ _ _ h => h) (by rfl) ?_
                     refine ztg_ (i := 21) (ra_ [22, 3, 7, 4]) HT_ HW_ rfl rfl (by kernel_rfl) (fun _ _ _ h => h) (by rfl) hHeld ?_ z88_
                     refine zpg_ (i := 22) (ra_ [23, 2, 7, 4]) HT_ rfl rfl (by kernel_rfl) (fun _ _ _ h => h) (by rfl) ?_
                     refine zpg_ (i := 23) (ra_ [24, 1, 7, 4]) HT_ rfl rfl (by kernel_rfl) (fun _ _ _ h => h) (by rfl) ?_
                     refine ztg_ (i := 24) (fl_ 36 32) HT_ HW_ rfl rfl (by kernel_rfl) (fun _ _ _ h => h) (by rfl) hHeld ?_ z88_
                     refine zt_ HT_ HW_ rfl rfl (by kernel_rfl) (fun _ _ _ h => h) (by rfl) hHeld ?_ z88_
                     iterate 3 refine zp_ HT_ rfl rfl (by kernel_rfl) (fun _ _ _ h => h) (by rfl) ?_
                     refine done_ (done_of HT_.out (by kernel_rfl)) ?_
                     have p114 : 0 ≤ ((ji111) : Int) := odt_
                     have q114 : ((ji111) : Int) < ((x13_4.length : Int) : Int) := odt_
                     obtain ⟨go114, co114, eo114, gb114, gl114, cl114, HG114⟩ := Kd.R_form HO_13.out (by omega)
                     (first | cases eo114 | (injection eo114 with ea_ en_ ec_; (first | subst ea_ | (injection ea_ with ea_; subst ea_)); subst ec_; clear en_))
                     have GB114 := Aside0.mk gb114
                     have GG114 := Aside0.mk HG114
                     clear gb114 gl114 HG114
                     have HMgo114 := Aside0.mk (show (P3_ go114 ∨ w.heap.size ≤ go114) from (HO_13.out.1 _ rfl).1)
                     (first | simp only [add_plain] at hx290_0 | skip)
                     (first | simp only [add_plain] at hx293_0 | skip)
                     (first | simp only [add_plain] at hx310_0 | skip)
                     obtain ⟨hx114_0, hf114_0⟩ := Kd.R_celln 0 HO_13.out ((ji111) : Int) p114 q114
                     replace p114 := eq_true p114
                     replace q114 := eq_true q114
                     obtain ⟨hy120_, hz120_⟩ := Kd.R_celln 0 HO_13.out ((ji111) : Int) (odt_) (odt_)
                     have HP120 := Kd.R_putg HO_13.out ((ji111) : Int) ji110
                     try go_wp2_with (first | ((with_reducible refine gate_store (t := 3) (p := 295) rfl ?_); refine store_event (t := 3) (p := 295) (v := ?vo_w121) (w1 := (w118.setCell ⟨go114, ((ji111) : Int).toNat, none⟩ (.int .i64 ji110))) ?hg ?ho ?hn ?hr ?_; (case ho => rfl); (case hg => rfl); (case hn => rfl); (case hr => exact z9_); intro w121 hw; have hg : w118.grownBy w121 (some go114) := (by rw [hw]; exact HP120.2); have hp_ : Kd.R (Kd.int .i64) 3 w121 w0.heap.size (fun k_ => (P3_ k_ ∨ w.heap.size ≤ k_) ∧ some k_ ≠ (.slice (some ad311) x3_4.length co119 : Value).ownBlock) (.slice (some ⟨go114, 0, none⟩) x13_4.length co116) y312 := (by rw [hw, Ny312.out]; exact HP120.1); clear HP120; replace HO_3 := Aside0.mk (Kd.R_after (v := (.slice (some ⟨go114, 0, none⟩) x13_4.length co116)) (v1 := (.slice (some ⟨go114, 0, none⟩) x13_4.length co116)) (ok := (fun k_ => (P3_ k_ ∨ w.heap.size ≤ k_))) z14_ hg (.inl rfl)); replace BK267 := Aside0.mk (blk_grown z53_ hg (Kd.R_ne HO_13.out BK267.out (by decide))); replace HB := Aside0.mk ((by rw [hw]; exact below_set (HB.out) GB114.out : Below w0.heap.size w0 w121)); replace HK := Aside0.mk (Kept.of_grown (S := (fun k_ => P3_ k_)) hg z26_ (fun k_ e_ => (HO_13.out.1 k_ e_).1)); replace HO_13 := Aside0.mk (hp_); clear hg hw hp_))
                     go_roundg k4
                     case measure => have := HK1.out; have := HK2.out; have := HK3.out; have := HK4.out; omega
                     case rel => exact ⟨(x3_4), (y312), (wrap64 (x18_4 + 1)), z4_, H', ⟨z210_⟩, ⟨z14_⟩, ⟨z74_⟩, ⟨z53_⟩, ⟨z26_⟩, ⟨z38_⟩⟩
                 ·as_aux_lemma =>
                   rw [if_neg c78] at H
                   have c78b0 : ((rd l0_2 x17_3) == (rd l0_2 a1)) = false := beq_eq_false_iff_ne.mpr c78
                   have c78b1 : ((rd l0_2 x17_3) != (rd l0_2 a1)) = true := bne_iff_ne.mpr c78
                   obtain ⟨c122b0, H⟩ := ifd_ H
                   obtain ⟨ji123, hji123⟩ : ∃ j_ : Int, (wrap64 ((wrap64 ((wrap64 ((wrap64 ((rd l0_2 x17_3) - (rd l0_2 a1))) * (wrap64 ((wrap64 (a2 - (rd l0_3 a2))) + 2)))) + (rd l0_3 x18_4))) - (rd l0_3 a2))) = j_ := ⟨_, rfl⟩
                   first | rw [hji123] at H | simp only [hji123] at H
                   have hji123w : (IntKind.i64.wrap ((wrap64 ((wrap64 ((wrap64 ((rd l0_2 x17_3) - (rd l0_2 a1))) * (wrap64 ((wrap64 (a2 - (rd l0_3 a2))) + 2)))) + (rd l0_3 x18_4))) - (rd l0_3 a2))) = ji123 := (i64_w _).trans hji123
                   obtain ⟨c124b0, H⟩ := ifd_ H
                   obtain ⟨c125b0, H⟩ := ifd_ H
                   obtain ⟨ji126, hji126⟩ : ∃ j_ : Int, (wrap64 ((wrap64 (x17_3 * (l0_3.length : Int))) + x18_4)) = j_ := ⟨_, rfl⟩
                   first | rw [hji126] at H | simp only [hji126] at H
                   have hji126w : (IntKind.i64.wrap ((wrap64 (x17_3 * (l0_3.length : Int))) + x18_4)) = ji126 := (i64_w _).trans hji126
                   obtain ⟨c127b0, H⟩ := ifd_ H
                   obtain ⟨c128b0, H⟩ := ifd_ H
                   obtain ⟨ji129, hji129⟩ : ∃ j_ : Int, (mn (ji76) (wrap64 ((rd x13_4 (ji123)) + (rd x3_4 (ji126))))) = j_ := ⟨_, rfl⟩
                   first | rw [hji129] at H | simp only [hji129] at H
                   have hji129_ : (if (wrap64 ((rd x13_4 (ji123)) + (rd x3_4 (ji126)))) < (ji76) then (wrap64 ((rd x13_4 (ji123)) + (rd x3_4 (ji126)))) else (ji76)) = ji129 := hji129
                   obtain ⟨ji130, hji130⟩ : ∃ j_ : Int, (wrap64 ((wrap64 ((wrap64 ((wrap64 (x17_3 - (rd l0_2 a1))) + 1)) * (wrap64 ((wrap64 (a2 - (rd l0_3 a2))) + 2)))) + (wrap64 ((wrap64 (x18_4 - (rd l0_3 a2))) + 1)))) = j_ := ⟨_, rfl⟩
                   have hji69_ji130 : (wrap64 (ji130 - 1)) = ji69 := (by rw [← hji130]; exact hji69)
                   have hji69_ji130w : (IntKind.i64.wrap (ji130 - 1)) = ji69 := (i64_w _).trans hji69_ji130
                   first | rw [hji130] at H | simp only [hji130] at H
                   have hji130w : (IntKind.i64.wrap ((wrap64 ((wrap64 ((wrap64 (x17_3 - (rd l0_2 a1))) + 1)) * (wrap64 ((wrap64 (a2 - (rd l0_3 a2))) + 2)))) + (wrap64 ((wrap64 (x18_4 - (rd l0_3 a2))) + 1)))) = ji130 := (i64_w _).trans hji130
                   obtain ⟨c131b0, H⟩ := ifd_ H
                   obtain ⟨c132b0, H⟩ := ifd_ H
                   first | ((with_reducible have hz_ := gy_ H); obtain ⟨y319, Ny319, H⟩ := hz_) | (generalize hy_ : ((x13_4.set ((ji130) : Int).toNat (ji129)) : List Int) = y319 at H; have Ny319 := Aside0.mk hy_.symm; clear hy_)
                   have H' := Aside0.mk H
                   clear H
                   have p288 : 0 ≤ (a1 : Int) := odt_
                   have q288 : a1 < (l0_2.length : Int) := odt_
                   obtain ⟨ad288, e288, hx288_0⟩ := Kd.at_int (Kd.C_kept_now HR0_2.out HK.out) a1 p288 q288
                   obtain rfl : ad269 = ad288 := (by injection e288)
                   replace p288 := eq_true p288
                   replace q288 := eq_true q288
                   have p289 : 0 ≤ (a2 : Int) := odt_
                   have q289 : a2 < (l0_3.length : Int) := odt_
                   obtain ⟨ad289, e289, hx289_0⟩ := Kd.at_int (Kd.C_kept_now HR0_3.out HK.out) a2 p289 q289
                   obtain rfl : ad268 = ad289 := (by injection e289)
                   replace p289 := eq_true p289
                   replace q289 := eq_true q289
                   try go_wp2
                   have n0_ := Aside0.mk (Kd.R_drew HO_3.out)
                   have n1_ := Aside0.mk (Kd.R_drew HO_13.out)
                   have n2_ := Aside0.mk (blk_drew BK267.out)
                   have n3_ := Aside0.mk (Kept.drew HK.out)
                   have n4_ := Aside0.mk (below_drew1 HB.out)
                   clear HO_3
                   clear HO_13
                   clear BK267
                   clear HK
                   clear HB
                   have HO_3 := n0_
                   have HO_13 := n1_
                   have BK267 := n2_
                   have HK := n3_
                   have HB := n4_
                   clear n0_ n1_ n2_ n3_ n4_
                   obtain ⟨Ao135, co135, eo135⟩ := Kd.R_slice HO_13.out
                   (first | subst eo135 | (injection eo135 with f1_ f2_ f3_; have f4_ := f1_.symm; have f5_ := f3_.symm; clear f1_ f2_ f3_; subst f4_; subst f5_))
                   have p290 : 0 ≤ ((ji62) : Int) := odt_
                   have q290 : (ji62) < (x13_4.length : Int) := odt_
                   obtain ⟨ad290, e290, hx290_0⟩ := Kd.at_int (Kd.R_reads' HO_13.out).2.2 (ji62) p290 q290
                   cases e290
                   replace p290 := eq_true p290
                   replace q290 := eq_true q290
                   have p291 : 0 ≤ (x17_3 : Int) := odt_
                   have q291 : x17_3 < (l0_0.length : Int) := odt_
                   obtain ⟨ad291, e291, hx291_0⟩ := Kd.at_int (Kd.C_kept_now HR0_0.out HK.out) x17_3 p291 q291
                   have hw291_0 := hx291_0
                   cases e291
                   replace p291 := eq_true p291
                   replace q291 := eq_true q291
                   have p292 : 0 ≤ ((rd l0_0 x17_3) : Int) := odt_
                   have q292 : (rd l0_0 x17_3) < (l0_4.length : Int) := odt_
                   obtain ⟨ad292, e292, hx292_0⟩ := Kd.at_int (Kd.C_kept_now HR0_4.out HK.out) (rd l0_0 x17_3) p292 q292
                   have hw292_0 := hx292_0
                   cases e292
                   replace p292 := eq_true p292
                   replace q292 := eq_true q292
                   have p293 : 0 ≤ ((ji69) : Int) := odt_
                   have q293 : (ji69) < (x13_4.length : Int) := odt_
                   obtain ⟨ad293, e293, hx293_0⟩ := Kd.at_int (Kd.R_reads' HO_13.out).2.2 (ji69) p293 q293
                   obtain rfl : ad290 = ad293 := (by injection e293)
                   replace p293 := eq_true p293
                   replace q293 := eq_true q293
                   have p294 : 0 ≤ (x18_4 : Int) := odt_
                   have q294 : x18_4 < (l0_1.length : Int) := odt_
                   obtain ⟨ad294, e294, hx294_0⟩ := Kd.at_int (Kd.C_kept_now HR0_1.out HK.out) x18_4 p294 q294
                   have hw294_0 := hx294_0
                   cases e294
                   replace p294 := eq_true p294
                   replace q294 := eq_true q294
                   have p295 : 0 ≤ ((rd l0_1 x18_4) : Int) := odt_
                   have q295 : (rd l0_1 x18_4) < (l0_5.length : Int) := odt_
                   obtain ⟨ad295, e295, hx295_0⟩ := Kd.at_int (Kd.C_kept_now HR0_5.out HK.out) (rd l0_1 x18_4) p295 q295
                   have hw295_0 := hx295_0
                   cases e295
                   replace p295 := eq_true p295
                   replace q295 := eq_true q295
                   refine start_ (n := 42) (S := fun w' => w'.cell? ⟨gb267, 0, none⟩ = some (.slice (some ad291) l0_0.length c0_0) ∧ w'.cell? ⟨gb267, 1, none⟩ = some (.slice (some ad294) l0_1.length c0_1) ∧ w'.cell? ⟨gb267, 2, none⟩ = some (.slice (some ad269) l0_2.length c0_2) ∧ w'.cell? ⟨gb267, 3, none⟩ = some (.slice (some ad268) l0_3.length c0_3) ∧ w'.cell? ⟨gb267, 4, none⟩ = some (.slice (some ad292) l0_4.length c0_4) ∧ w'.cell? ⟨gb267, 5, none⟩ = some (.slice (some ad295) l0_5.length c0_5) ∧ w'.cell? ⟨gb267, 6, none⟩ = some (.slice A0_6 l0_6.length c0_6) ∧ w'.cell? (ad290.add ((ji62)).toNat) = some (.int .i64 (rd x13_4 (ji62))) ∧ w'.cell? (ad291.add (x17_3).toNat) = some (.int .i64 (rd l0_0 x17_3)) ∧ w'.cell? (ad292.add ((rd l0_0 x17_3)).toNat) = some (.int .i64 (rd l0_4 (rd l0_0 x17_3))) ∧ w'.cell? (ad290.add ((ji69)).toNat) = some (.int .i64 (rd x13_4 (ji69))) ∧ w'.cell? (ad294.add (x18_4).toNat) = some (.int .i64 (rd l0_1 x18_4)) ∧ w'.cell? (ad295.add ((rd l0_1 x18_4)).toNat) = some (.int .i64 (rd l0_5 (rd l0_1 x18_4)))) (ds := []) (fl_ 42 0) (by kernel_rfl) rfl (fl_zero _) ⟨(blk_cell BK267.out 0).trans rfl, (blk_cell BK267.out 1).trans rfl, (blk_cell BK267.out 2).trans rfl, (blk_cell BK267.out 3).trans rfl, (blk_cell BK267.out 4).trans rfl, (blk_cell BK267.out 5).trans rfl, (blk_cell BK267.out 6).trans rfl, hx290_0, (Kd.foot_int (HR0_0.out _ z20_) x17_3 (of_eq_true p291) (of_eq_true q291)), (Kd.foot_int (HR0_4.out _ z20_) (rd l0_0 x17_3) (of_eq_true p292) (of_eq_true q292)), hx293_0, (Kd.foot_int (HR0_1.out _ z20_) x18_4 (of_eq_true p294) (of_eq_true q294)), (Kd.foot_int (HR0_5.out _ z20_) (rd l0_1 x18_4) (of_eq_true p295) (of_eq_true q295))⟩ (fun hHeld => ?_); refine with_tabW spec_l8Forest.tab23 spec_l8Forest.bits23 (fun HT_ HW_ => ?_)
                   generalize wr.drew = w134 at HO_3 HO_13 BK267 HK HB hx290_0 hx291_0 hx292_0 hx293_0 hx294_0 hx295_0 hHeld ⊢
                   iterate 8 refine zp_ HT_ rfl rfl (by kernel_rfl) (fun _ _ _ h => h) (by rfl) ?_
                   refine zpg_ (i := 9) (ra_ [8, 1, 1, 32]) HT_ rfl rfl (by kernel_rfl) (fun _ _ _ h => h) (by rfl) ?_
                   refine zpg_ (i := 10) (ra_ [8, 1, 2, 31]) HT_ rfl rfl (by kernel_rfl) (fun _ _ _ h => h) (by rfl) ?_
                   refine zpg_ (i := 12) (ra_ [8, 1, 2, 1, 1, 29]) HT_ rfl rfl (by kernel_rfl) (fun _ _ _ h => h) (by rfl) ?_
                   refine zpg_ (i := 14) (ra_ [8, 1, 2, 1, 1, 1, 1, 27]) HT_ rfl rfl (by kernel_rfl) (fun _ _ _ h => h) (by rfl) ?_
                   refine zpg_ (i := 20) (ra_ [8, 1, 2, 1, 1, 1, 1, 5, 1, 21]) HT_ rfl rfl (by kernel_rfl) (fun _ _ _ h => h) (by rfl) ?_
                   refine zpg_ (i := 21) (ra_ [8, 1, 2, 1, 1, 1, 1, 5, 2, 20]) HT_ rfl rfl (by kernel_rfl) (fun _ _ _ h => h) (by rfl) ?_
                   refine zpg_ (i := 22) (ra_ [8, 1, 2, 1, 1, 1, 1, 5, 3, 19]) HT_ rfl rfl (by kernel_rfl) (fun _ _ _ h => h) (by rfl) ?_
                   refine zpg_ (i := 23) (ra_ [8, 1, 2, 1, 1, 1, 1, 5, 4, 18]) HT_ rfl rfl (by kernel_rfl) (fun _ _ _ h => h) (by rfl) ?_
                   refine zpg_ (i := 24) (ra_ [8, 1, 2, 1, 1, 1, 1, 5, 5, 17]) HT_ rfl rfl (by kernel_rfl) (fun _ _ _ h => h) (by rfl) ?_
                   refine zpg_ (i := 25) (ra_ [8, 1, 2, 1, 1, 1, 1, 5, 6, 16]) HT_ rfl rfl (by kernel_rfl) (fun _ _ _ h => h) (by rfl) ?_
                   refine zpg_ (i := 26) (ra_ [8, 1, 2, 1, 1, 1, 1, 5, 7, 15]) HT_ rfl rfl (by kernel_rfl) (fun _ _ _ h => h) (by rfl) ?_
                   refine zpg_ (i := 27) (ra_ [8, 1, 2, 1, 1, 1, 1, 5, 8, 14]) HT_ rfl rfl (by kernel_rfl) (fun _ _ _ h => h) (by rfl) ?_
                   refine zpg_ (i := 29) (ra_ [8, 1, 2, 1, 1, 1, 1, 5, 8, 1, 1, 12]) HT_ rfl rfl (by kernel_rfl) (fun _ _ _ h => h) (by rfl) ?_
                   refine zpg_ (i := 30) (ra_ [8, 1, 2, 1, 1, 1, 1, 5, 8, 1, 2, 11]) HT_ rfl rfl (by kernel_rfl) (fun _ _ _ h => h) (by rfl) ?_
                   refine zpg_ (i := 32) (ra_ [8, 1, 2, 1, 1, 1, 1, 5, 8, 1, 2, 1, 1, 9]) HT_ rfl rfl (by kernel_rfl) (fun _ _ _ h => h) (by rfl) ?_
                   refine zpg_ (i := 34) (ra_ [8, 1, 2, 1, 1, 1, 1, 5, 8, 1, 2, 1, 1, 1, 1, 7]) HT_ rfl rfl (by kernel_rfl) (fun _ _ _ h => h) (by rfl) ?_
                   refine ztg_ (i := 8) (ra_ [11, 1, 1, 1, 1, 5, 8, 1, 2, 1, 1, 1, 1, 7]) HT_ HW_ rfl rfl (by kernel_rfl) (fun _ _ _ h => h) (by rfl) hHeld ?_ z10_
                   refine ztg_ (i := 11) (ra_ [13, 1, 1, 5, 8, 1, 2, 1, 1, 1, 1, 7]) HT_ HW_ rfl rfl (by kernel_rfl) (fun _ _ _ h => h) (by rfl) hHeld ?_ z10_
                   refine ztg_ (i := 13) (ra_ [15, 5, 8, 1, 2, 1, 1, 1, 1, 7]) HT_ HW_ rfl rfl (by kernel_rfl) (fun _ _ _ h => h) (by rfl) hHeld ?_ z10_
                   refine zpg_ (i := 15) (ra_ [16, 4, 8, 1, 2, 1, 1, 1, 1, 7]) HT_ rfl rfl (by kernel_rfl) (fun _ _ _ h => h) (by rfl) ?_
                   refine ztg_ (i := 16) (ra_ [17, 3, 8, 1, 2, 1, 1, 1, 1, 7]) HT_ HW_ rfl rfl (by kernel_rfl) (fun _ _ _ h => h) (by rfl) hHeld ?_ z10_
                   refine zpg_ (i := 17) (ra_ [18, 2, 8, 1, 2, 1, 1, 1, 1, 7]) HT_ rfl rfl (by kernel_rfl) (fun _ _ _ h => h) (by rfl) ?_
                   refine ztg_ (i := 18) (ra_ [19, 1, 8, 1, 2, 1, 1, 1, 1, 7]) HT_ HW_ rfl rfl (by kernel_rfl) (fun _ _ _ h => h) (by rfl) hHeld ?_ z10_
                   refine zpg_ (i := 19) (ra_ [28, 1, 2, 1, 1, 1, 1, 7]) HT_ rfl rfl (by kernel_rfl) (fun _ _ _ h => h) (by rfl) ?_
                   refine ztg_ (i := 28) (ra_ [31, 1, 1, 1, 1, 7]) HT_ HW_ rfl rfl (by kernel_rfl) (fun _ _ _ h => h) (by rfl) hHeld ?_ z10_
                   refine ztg_ (i := 31) (ra_ [33, 1, 1, 7]) HT_ HW_ rfl rfl (by kernel_rfl) (fun _ _ _ h => h) (by rfl) hHeld ?_ z10_
                   refine ztg_ (i := 33) (fl_ 42 35) HT_ HW_ rfl rfl (by kernel_rfl) (fun _ _ _ h => h) (by rfl) hHeld ?_ z10_
                   refine zp_ HT_ rfl rfl (by kernel_rfl) (fun _ _ _ h => h) (by rfl) ?_
                   refine zt_ HT_ HW_ rfl rfl (by kernel_rfl) (fun _ _ _ h => h) (by rfl) hHeld ?_ z10_
                   refine zp_ HT_ rfl rfl (by kernel_rfl) (fun _ _ _ h => h) (by rfl) ?_
                   refine zt_ HT_ HW_ rfl rfl (by kernel_rfl) (fun _ _ _ h => h) (by rfl) hHeld ?_ z10_
                   iterate 3 refine zp_ HT_ rfl rfl (by kernel_rfl) (fun _ _ _ h => h) (by rfl) ?_
                   refine done_ (done_of HT_.out (by kernel_rfl)) ?_
                   try go_wp2
                   have n0_ := Aside0.mk (Kd.R_drew HO_3.out)
                   have n1_ := Aside0.mk (Kd.R_drew HO_13.out)
                   have n2_ := Aside0.mk (blk_drew BK267.out)
                   have n3_ := Aside0.mk (Kept.drew HK.out)
                   have n4_ := Aside0.mk (below_drew1 HB.out)
                   clear HO_3
                   clear HO_13
                   clear BK267
                   clear HK
                   clear HB
                   have HO_3 := n0_
                   have HO_13 := n1_
                   have BK267 := n2_
                   have HK := n3_
                   have HB := n4_
                   clear n0_ n1_ n2_ n3_ n4_
                   have p296 : 0 ≤ (x17_3 : Int) := odt_
                   have q296 : x17_3 < (l0_2.length : Int) := odt_
                   obtain ⟨ad296, e296, hx296_0⟩ := Kd.at_int (Kd.C_kept_now HR0_2.out HK.out) x17_3 p296 q296
                   have hw296_0 := hx296_0
                   obtain rfl : ad269 = ad296 := (by injection e296)
                   replace p296 := eq_true p296
                   replace q296 := eq_true q296
                   have p297 : 0 ≤ (a1 : Int) := odt_
                   have q297 : a1 < (l0_2.length : Int) := odt_
                   obtain ⟨ad297, e297, hx297_0⟩ := Kd.at_int (Kd.C_kept_now HR0_2.out HK.out) a1 p297 q297
                   have hw297_0 := hx297_0
                   obtain rfl : ad269 = ad297 := (by injection e297)
                   replace p297 := eq_true p297
                   replace q297 := eq_true q297
                   refine start_ (n := 20) (S := fun w' => w'.cell? (ad269.add (x17_3).toNat) = some (.int .i64 (rd l0_2 x17_3)) ∧ w'.cell? (ad269.add (a1).toNat) = some (.int .i64 (rd l0_2 a1))) (ds := []) (fl_ 20 0) (by kernel_rfl) rfl (fl_zero _) ⟨(Kd.foot_int (HR0_2.out _ z20_) x17_3 (of_eq_true p296) (of_eq_true q296)), (Kd.foot_int (HR0_2.out _ z20_) a1 (of_eq_true p297) (of_eq_true q297))⟩ (fun hHeld => ?_); refine with_tabW spec_l8Forest.tab24 spec_l8Forest.bits24 (fun HT_ HW_ => ?_)
                   generalize w134.drew = w136 at HO_3 HO_13 BK267 HK HB hx296_0 hx297_0 hHeld ⊢
                   iterate 3 refine zp_ HT_ rfl rfl (by kernel_rfl) (fun _ _ _ h => h) (by rfl) ?_
                   refine zpg_ (i := 4) (ra_ [3, 1, 1, 15]) HT_ rfl rfl (by kernel_rfl) (fun _ _ _ h => h) (by rfl) ?_
                   refine zpg_ (i := 5) (ra_ [3, 1, 2, 14]) HT_ rfl rfl (by kernel_rfl) (fun _ _ _ h => h) (by rfl) ?_
                   refine zpg_ (i := 6) (ra_ [3, 1, 3, 13]) HT_ rfl rfl (by kernel_rfl) (fun _ _ _ h => h) (by rfl) ?_
                   refine ztg_ (i := 3) (fl_ 20 7) HT_ HW_ rfl rfl (by kernel_rfl) (fun _ _ _ h => h) (by rfl) hHeld ?_ z104_
                   refine zt_ HT_ HW_ rfl rfl (by kernel_rfl) (fun _ _ _ h => h) (by rfl) hHeld ?_ z104_
                   iterate 2 refine zp_ HT_ rfl rfl (by kernel_rfl) (fun _ _ _ h => h) (by rfl) ?_
                   iterate 9 refine zu_ HT_ rfl rfl (by kernel_rfl) (fun _ _ _ h => h) (by rfl) ?_
                   refine zp_ HT_ rfl rfl (by kernel_rfl) (fun _ _ _ h => h) (by rfl) ?_
                   refine done_ (done_of HT_.out (by kernel_rfl)) ?_
                   try go_wp2
                   have n0_ := Aside0.mk (Kd.R_drew HO_3.out)
                   have n1_ := Aside0.mk (Kd.R_drew HO_13.out)
                   have n2_ := Aside0.mk (blk_drew BK267.out)
                   have n3_ := Aside0.mk (Kept.drew HK.out)
                   have n4_ := Aside0.mk (below_drew1 HB.out)
                   clear HO_3
                   clear HO_13
                   clear BK267
                   clear HK
                   clear HB
                   have HO_3 := n0_
                   have HO_13 := n1_
                   have BK267 := n2_
                   have HK := n3_
                   have HB := n4_
                   clear n0_ n1_ n2_ n3_ n4_
                   have p313 : 0 ≤ (x17_3 : Int) := odt_
                   have q313 : x17_3 < (l0_2.length : Int) := odt_
                   obtain ⟨ad313, e313, hx313_0⟩ := Kd.at_int (Kd.C_kept_now HR0_2.out HK.out) x17_3 p313 q313
                   have hw313_0 := hx313_0
                   obtain rfl : ad269 = ad313 := (by injection e313)
                   replace p313 := eq_true p313
                   replace q313 := eq_true q313
                   have p314 : 0 ≤ (a1 : Int) := odt_
                   have q314 : a1 < (l0_2.length : Int) := odt_
                   obtain ⟨ad314, e314, hx314_0⟩ := Kd.at_int (Kd.C_kept_now HR0_2.out HK.out) a1 p314 q314
                   have hw314_0 := hx314_0
                   obtain rfl : ad269 = ad314 := (by injection e314)
                   replace p314 := eq_true p314
                   replace q314 := eq_true q314
                   have p315 : 0 ≤ (x18_4 : Int) := odt_
                   have q315 : x18_4 < (l0_3.length : Int) := odt_
                   obtain ⟨ad315, e315, hx315_0⟩ := Kd.at_int (Kd.C_kept_now HR0_3.out HK.out) x18_4 p315 q315
                   have hw315_0 := hx315_0
                   obtain rfl : ad268 = ad315 := (by injection e315)
                   replace p315 := eq_true p315
                   replace q315 := eq_true q315
                   have p316 : 0 ≤ (a2 : Int) := odt_
                   have q316 : a2 < (l0_3.length : Int) := odt_
                   obtain ⟨ad316, e316, hx316_0⟩ := Kd.at_int (Kd.C_kept_now HR0_3.out HK.out) a2 p316 q316
                   have hw316_0 := hx316_0
                   obtain rfl : ad268 = ad316 := (by injection e316)
                   replace p316 := eq_true p316
                   replace q316 := eq_true q316
                   have p317 : 0 ≤ ((ji123) : Int) := odt_
                   have q317 : (ji123) < (x13_4.length : Int) := odt_
                   obtain ⟨ad317, e317, hx317_0⟩ := Kd.at_int (Kd.R_reads' HO_13.out).2.2 (ji123) p317 q317
                   obtain rfl : ad290 = ad317 := (by injection e317)
                   replace p317 := eq_true p317
                   replace q317 := eq_true q317
                   obtain ⟨Ao138, co138, eo138⟩ := Kd.R_slice HO_3.out
                   (first | subst eo138 | (injection eo138 with f1_ f2_ f3_; have f4_ := f1_.symm; have f5_ := f3_.symm; clear f1_ f2_ f3_; subst f4_; subst f5_))
                   have p318 : 0 ≤ ((ji126) : Int) := odt_
                   have q318 : (ji126) < (x3_4.length : Int) := odt_
                   obtain ⟨ad318, e318, hx318_0⟩ := Kd.at_int (Kd.R_reads' HO_3.out).2.2 (ji126) p318 q318
                   cases e318
                   replace p318 := eq_true p318
                   replace q318 := eq_true q318
                   refine start_ (n := 36) (S := fun w' => w'.cell? (ad269.add (x17_3).toNat) = some (.int .i64 (rd l0_2 x17_3)) ∧ w'.cell? (ad269.add (a1).toNat) = some (.int .i64 (rd l0_2 a1)) ∧ w'.cell? (ad268.add (x18_4).toNat) = some (.int .i64 (rd l0_3 x18_4)) ∧ w'.cell? (ad268.add (a2).toNat) = some (.int .i64 (rd l0_3 a2)) ∧ w'.cell? (ad290.add ((ji123)).toNat) = some (.int .i64 (rd x13_4 (ji123))) ∧ w'.cell? (ad318.add ((ji126)).toNat) = some (.int .i64 (rd x3_4 (ji126)))) (ds := []) (fl_ 36 0) (by kernel_rfl) rfl (fl_zero _) ⟨(Kd.foot_int (HR0_2.out _ z20_) x17_3 (of_eq_true p313) (of_eq_true q313)), (Kd.foot_int (HR0_2.out _ z20_) a1 (of_eq_true p314) (of_eq_true q314)), (Kd.foot_int (HR0_3.out _ z20_) x18_4 (of_eq_true p315) (of_eq_true q315)), (Kd.foot_int (HR0_3.out _ z20_) a2 (of_eq_true p316) (of_eq_true q316)), hx317_0, hx318_0⟩ (fun hHeld => ?_); refine with_tabW spec_l8Forest.tab27 spec_l8Forest.bits27 (fun HT_ HW_ => ?_)
                   generalize w136.drew = w137 at HO_3 HO_13 BK267 HK HB hx313_0 hx314_0 hx315_0 hx316_0 hx317_0 hx318_0 hHeld ⊢
                   iterate 5 refine zp_ HT_ rfl rfl (by kernel_rfl) (fun _ _ _ h => h) (by rfl) ?_
                   refine zpg_ (i := 6) (ra_ [5, 1, 1, 29]) HT_ rfl rfl (by kernel_rfl) (fun _ _ _ h => h) (by rfl) ?_
                   refine zpg_ (i := 7) (ra_ [5, 1, 2, 28]) HT_ rfl rfl (by kernel_rfl) (fun _ _ _ h => h) (by rfl) ?_
                   refine zpg_ (i := 8) (ra_ [5, 1, 3, 27]) HT_ rfl rfl (by kernel_rfl) (fun _ _ _ h => h) (by rfl) ?_
                   refine zpg_ (i := 11) (ra_ [5, 1, 3, 2, 1, 24]) HT_ rfl rfl (by kernel_rfl) (fun _ _ _ h => h) (by rfl) ?_
                   refine zpg_ (i := 13) (ra_ [5, 1, 3, 2, 1, 1, 1, 22]) HT_ rfl rfl (by kernel_rfl) (fun _ _ _ h => h) (by rfl) ?_
                   refine zpg_ (i := 14) (ra_ [5, 1, 3, 2, 1, 1, 2, 21]) HT_ rfl rfl (by kernel_rfl) (fun _ _ _ h => h) (by rfl) ?_
                   refine zpg_ (i := 15) (ra_ [5, 1, 3, 2, 1, 1, 3, 20]) HT_ rfl rfl (by kernel_rfl) (fun _ _ _ h => h) (by rfl) ?_
                   refine zpg_ (i := 18) (ra_ [5, 1, 3, 2, 1, 1, 3, 2, 1, 17]) HT_ rfl rfl (by kernel_rfl) (fun _ _ _ h => h) (by rfl) ?_
                   refine zpg_ (i := 19) (ra_ [5, 1, 3, 2, 1, 1, 3, 2, 2, 16]) HT_ rfl rfl (by kernel_rfl) (fun _ _ _ h => h) (by rfl) ?_
                   refine zpg_ (i := 20) (ra_ [5, 1, 3, 2, 1, 1, 3, 2, 3, 15]) HT_ rfl rfl (by kernel_rfl) (fun _ _ _ h => h) (by rfl) ?_
                   refine zpg_ (i := 25) (ra_ [5, 1, 3, 2, 1, 1, 3, 2, 3, 4, 1, 10]) HT_ rfl rfl (by kernel_rfl) (fun _ _ _ h => h) (by rfl) ?_
                   refine zpg_ (i := 26) (ra_ [5, 1, 3, 2, 1, 1, 3, 2, 3, 4, 2, 9]) HT_ rfl rfl (by kernel_rfl) (fun _ _ _ h => h) (by rfl) ?_
                   refine zpg_ (i := 27) (ra_ [5, 1, 3, 2, 1, 1, 3, 2, 3, 4, 3, 8]) HT_ rfl rfl (by kernel_rfl) (fun _ _ _ h => h) (by rfl) ?_
                   refine zpg_ (i := 28) (ra_ [5, 1, 3, 2, 1, 1, 3, 2, 3, 4, 4, 7]) HT_ rfl rfl (by kernel_rfl) (fun _ _ _ h => h) (by rfl) ?_
                   refine zpg_ (i := 29) (ra_ [5, 1, 3, 2, 1, 1, 3, 2, 3, 4, 5, 6]) HT_ rfl rfl (by kernel_rfl) (fun _ _ _ h => h) (by rfl) ?_
                   refine zpg_ (i := 30) (ra_ [5, 1, 3, 2, 1, 1, 3, 2, 3, 4, 6, 5]) HT_ rfl rfl (by kernel_rfl) (fun _ _ _ h => h) (by rfl) ?_
                   refine zpg_ (i := 31) (ra_ [5, 1, 3, 2, 1, 1, 3, 2, 3, 4, 7, 4]) HT_ rfl rfl (by kernel_rfl) (fun _ _ _ h => h) (by rfl) ?_
                   refine ztg_ (i := 5) (ra_ [9, 2, 1, 1, 3, 2, 3, 4, 7, 4]) HT_ HW_ rfl rfl (by kernel_rfl) (fun _ _ _ h => h) (by rfl) hHeld ?_ z88_
                   refine ztg_ (i := 9) (ra_ [10, 1, 1, 1, 3, 2, 3, 4, 7, 4]) HT_ HW_ rfl rfl (by kernel_rfl) (fun _ _ _ h => h) (by rfl) hHeld ?_ z88_
                   refine zpg_ (i := 10) (ra_ [12, 1, 3, 2, 3, 4, 7, 4]) HT_ rfl rfl (by kernel_rfl) (fun _ _ _ h => h) (by rfl) ?_
                   refine zpg_ (i := 12) (ra_ [16, 2, 3, 4, 7, 4]) HT_ rfl rfl (by kernel_rfl) (fun _ _ _ h => h) (by rfl) ?_
                   refine ztg_ (i := 16) (ra_ [17, 1, 3, 4, 7, 4]) HT_ HW_ rfl rfl (by kernel_rfl) (fun _ _ _ h => h) (by rfl) hHeld ?_ z88_
                   refine zpg_ (i := 17) (ra_ [21, 4, 7, 4]) HT_ rfl rfl (by kernel_rfl) (fun _ _ _ h => h) (by rfl) ?_
                   refine ztg_ (i := 21) (ra_ [22, 3, 7, 4]) HT_ HW_ rfl rfl (by kernel_rfl) (fun _ _ _ h => h) (by rfl) hHeld ?_ z88_
                   refine zpg_ (i := 22) (ra_ [23, 2, 7, 4]) HT_ rfl rfl (by kernel_rfl) (fun _ _ _ h => h) (by rfl) ?_
                   refine zpg_ (i := 23) (ra_ [24, 1, 7, 4]) HT_ rfl rfl (by kernel_rfl) (fun _ _ _ h => h) (by rfl) ?_
                   refine ztg_ (i := 24) (fl_ 36 32) HT_ HW_ rfl rfl (by kernel_rfl) (fun _ _ _ h => h) (by rfl) hHeld ?_ z88_
                   refine zt_ HT_ HW_ rfl rfl (by kernel_rfl) (fun _ _ _ h => h) (by rfl) hHeld ?_ z88_
                   iterate 3 refine zp_ HT_ rfl rfl (by kernel_rfl) (fun _ _ _ h => h) (by rfl) ?_
                   refine done_ (done_of HT_.out (by kernel_rfl)) ?_
                   have p133 : 0 ≤ ((ji130) : Int) := odt_
                   have q133 : ((ji130) : Int) < ((x13_4.length : Int) : Int) := odt_
                   obtain ⟨go133, co133, eo133, gb133, gl133, cl133, HG133⟩ := Kd.R_form HO_13.out (by omega)
                   (first | cases eo133 | (injection eo133 with ea_ en_ ec_; (first | subst ea_ | (injection ea_ with ea_; subst ea_)); subst ec_; clear en_))
                   have GB133 := Aside0.mk gb133
                   have GG133 := Aside0.mk HG133
                   clear gb133 gl133 HG133
                   have HMgo133 := Aside0.mk (show (P3_ go133 ∨ w.heap.size ≤ go133) from (HO_13.out.1 _ rfl).1)
                   (first | simp only [add_plain] at hx290_0 | skip)
                   (first | simp only [add_plain] at hx293_0 | skip)
                   (first | simp only [add_plain] at hx317_0 | skip)
                   obtain ⟨hx133_0, hf133_0⟩ := Kd.R_celln 0 HO_13.out ((ji130) : Int) p133 q133
                   replace p133 := eq_true p133
                   replace q133 := eq_true q133
                   obtain ⟨hy139_, hz139_⟩ := Kd.R_celln 0 HO_13.out ((ji130) : Int) (odt_) (odt_)
                   have HP139 := Kd.R_putg HO_13.out ((ji130) : Int) ji129
                   try go_wp2_with (first | ((with_reducible refine gate_store (t := 3) (p := 295) rfl ?_); refine store_event (t := 3) (p := 295) (v := ?vo_w140) (w1 := (w137.setCell ⟨go133, ((ji130) : Int).toNat, none⟩ (.int .i64 ji129))) ?hg ?ho ?hn ?hr ?_; (case ho => rfl); (case hg => rfl); (case hn => rfl); (case hr => exact z9_); intro w140 hw; have hg : w137.grownBy w140 (some go133) := (by rw [hw]; exact HP139.2); have hp_ : Kd.R (Kd.int .i64) 3 w140 w0.heap.size (fun k_ => (P3_ k_ ∨ w.heap.size ≤ k_) ∧ some k_ ≠ (.slice (some ad318) x3_4.length co138 : Value).ownBlock) (.slice (some ⟨go133, 0, none⟩) x13_4.length co135) y319 := (by rw [hw, Ny319.out]; exact HP139.1); clear HP139; replace HO_3 := Aside0.mk (Kd.R_after (v := (.slice (some ⟨go133, 0, none⟩) x13_4.length co135)) (v1 := (.slice (some ⟨go133, 0, none⟩) x13_4.length co135)) (ok := (fun k_ => (P3_ k_ ∨ w.heap.size ≤ k_))) z14_ hg (.inl rfl)); replace BK267 := Aside0.mk (blk_grown z53_ hg (Kd.R_ne HO_13.out BK267.out (by decide))); replace HB := Aside0.mk ((by rw [hw]; exact below_set (HB.out) GB133.out : Below w0.heap.size w0 w140)); replace HK := Aside0.mk (Kept.of_grown (S := (fun k_ => P3_ k_)) hg z26_ (fun k_ e_ => (HO_13.out.1 k_ e_).1)); replace HO_13 := Aside0.mk (hp_); clear hg hw hp_))
                   go_roundg k4
                   case measure => have := HK1.out; have := HK2.out; have := HK3.out; have := HK4.out; omega
                   case rel => exact ⟨(x3_4), (y319), (wrap64 (x18_4 + 1)), z4_, H', ⟨z210_⟩, ⟨z14_⟩, ⟨z74_⟩, ⟨z53_⟩, ⟨z26_⟩, ⟨z38_⟩⟩
                ·rw [if_neg c57] at H
                 have c57b0 := decide_eq_false c57
                 clear c57
                 have H' := Aside0.mk H
                 clear H
                 go_wp2
                 go_roundg k4
                 case measure => have := HK1.out; have := HK2.out; have := HK3.out; have := HK4.out; omega
                 case rel => exact ⟨(x3_4), (x13_4), (wrap64 (x17_3 + 1)), z4_, H', ⟨z210_⟩, ⟨z14_⟩, ⟨z74_⟩, ⟨z53_⟩, ⟨z26_⟩, ⟨z38_⟩⟩
            ·rw [if_neg c54] at H
             have c54b0 := decide_eq_false c54
             clear c54
             simp only [Option.some.injEq, Prod.mk.injEq] at H
             obtain ⟨rfl, rfl⟩ := H
             go_wp2
             go_ret
             exact ⟨_, by first | rfl | (simp [errW_none, errW_some] <;> rfl) | (simp only [← hji9]; first | rfl | (simp [errW_none, errW_some] <;> rfl)) | (simp [*, errW_none, errW_some] <;> rfl), z74_, by (with_reducible repeat (first | apply Kd.R_alloc | apply Kd.R_drewN | apply Kd.R_drew)); exact Kd.R_mono HO_3.out (fun _ hk => hk.1), z38_, z26_⟩

end Go.Proofs.Ytbmkobanpakohaa.PFnExactMedian
