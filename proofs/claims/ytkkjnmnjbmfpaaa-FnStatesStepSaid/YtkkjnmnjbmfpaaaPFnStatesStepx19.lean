-- written by a program of this session (the kit's print with turns of the session's own)
import Derived.Test.YtkkjnmnjbmfpaaaPFnStatesStepx0
import Derived.Test.YtkkjnmnjbmfpaaaHp
import Derived.Test.YtkkjnmnjbmfpaaaPFnStatesStepx1
import Derived.Test.YtkkjnmnjbmfpaaaPFnStatesStepx2
import Derived.Test.YtkkjnmnjbmfpaaaPFnStatesStepx3
import Derived.Test.YtkkjnmnjbmfpaaaPFnStatesStepx4
import Derived.Test.YtkkjnmnjbmfpaaaPFnStatesStepx6
import Derived.Test.YtkkjnmnjbmfpaaaPFnStatesStepx7
import Derived.Test.YtkkjnmnjbmfpaaaPFnStatesStepx8
import Derived.Test.YtkkjnmnjbmfpaaaPFnStatesStepx9
import Derived.Test.YtkkjnmnjbmfpaaaPFnStatesStepx10
import Derived.Test.YtkkjnmnjbmfpaaaPFnStatesStepx11
import Derived.Test.YtkkjnmnjbmfpaaaPFnStatesStepx12
import Derived.Test.YtkkjnmnjbmfpaaaPFnStatesStepx13
import Derived.Test.YtkkjnmnjbmfpaaaPFnStatesStepx14
import Derived.Test.YtkkjnmnjbmfpaaaPFnStatesStepx15
import Derived.Test.YtkkjnmnjbmfpaaaPFnStatesStepx17
import Derived.Test.YtkkjnmnjbmfpaaaPFnStatesStepx18
namespace Go.Proofs.Ytkkjnmnjbmfpaaa.PFnStatesStep
open Go.RowKit Go.Proofs.YtkkjnmnjbmfpaaaW.PrintWords Go.Proofs.YtkkjnmnjbmfpaaaW.PrintLast Go.Proofs.YtkkjnmnjbmfpaaaW.PrintMore
attribute [local go_sem] Instr.field asAgg part max2_int min2_int max_two min_two max_three min_three max_four min_four
set_option linter.unusedVariables false
set_option linter.unusedSimpArgs false
mutual
def laws_FnStatesStep.j0 : Nat → List Int → Int → Int → List Int → Int → Bool → List Int → List (List Int) → Bool → Bool → List Int → List Int → Int → Bool → Bool → Int → List (List Int) → Option (Bool)
 | 0, _, _, _, _, _, _, _, _, _, _, _, _, _, _, _, _, _ => none
 | k + 1, x1, x6, x7, x8, x9, x10, x14, x18, x19, x22, x26, x30, x34, x35, x288, x662000, x662001 => if x288 = true then (some false) else (if x10 = true then (if (x8.length : Int) = (x662001.length : Int) then ((laws_uSum.f k x8).bind fun t720 => (if t720 = x9 then (if x9 < 1 then (some false) else (laws_FnStatesStep.l0 k x1 x6 x7 x8 x10 x14 x18 x19 x22 x26 x30 x34 x35 x8 (x8.length : Int) 0 x662000 x662001)) else (some false))) else (some false)) else (laws_FnStatesStep.j2 k x1 x6 x7 x8 x10 x18 x19 x22 x26 x30 x34 x35 x662000 x662001))
def laws_FnStatesStep.j2 : Nat → List Int → Int → Int → List Int → Bool → List (List Int) → Bool → Bool → List Int → List Int → Int → Bool → Int → List (List Int) → Option (Bool)
 | 0, _, _, _, _, _, _, _, _, _, _, _, _, _, _ => none
 | k + 1, x1, x6, x7, x8, x10, x18, x19, x22, x26, x30, x34, x35, x662000, x662001 => if x19 = true then (laws_FnStatesStep.l1 k x1 x6 x7 x8 x10 x18 x22 x26 x30 x34 x35 0 x18 (x18.length : Int) 0 x662000 x662001) else (laws_FnStatesStep.j6 k x1 x6 x7 x8 x10 x34 x35)
def laws_FnStatesStep.j6 : Nat → List Int → Int → Int → List Int → Bool → Int → Bool → Option (Bool)
 | 0, _, _, _, _, _, _, _ => none
 | k + 1, x1, x6, x7, x8, x10, x34, x35 => if x35 = true then (if x34 < 1 then (some false) else (if x10 = true then (if x34 = 0 then (none) else (if (Int.tmod x7 x34) = 0 then (laws_FnStatesStep.j7 k x1 false) else (if 0 ≤ x6 then (if x6 < (x8.length : Int) then (if (rd x8 x6) = 0 then (laws_FnStatesStep.j7 k x1 false) else (some false)) else (none)) else (none)))) else (laws_FnStatesStep.j7 k x1 false))) else (laws_FnStatesStep.j7 k x1 false)
def laws_FnStatesStep.j7 : Nat → List Int → Bool → Option (Bool)
 | 0, _, _ => none
 | k + 1, x1, x502 => if x502 = true then (some false) else ((spec_DrawRenameStates.f k x1).bind fun bt747 => ((impl_RenameStates.f k bt747.1 bt747.2.1 bt747.2.2).bind fun bt755 => ((spec_RenameStates.f k bt747.1 bt747.2.1 bt747.2.2).bind fun bt761 => ((spec_DrawCountWays.f k x1).bind fun bt767 => ((impl_CountWays.f k bt767.1 bt767.2.1 bt767.2.2.1 bt767.2.2.2.1 bt767.2.2.2.2).bind fun bt775 => ((spec_CountWays.f k bt767.1 bt767.2.1 bt767.2.2.1 bt767.2.2.2.1 bt767.2.2.2.2).bind fun bt777 => (if (bt755.2.2 != bt761.2.2) = true then (some false) else ((laws_uStates.f k bt755.1 bt755.2.1 bt761.1 bt761.2.1).bind fun t779 => (if t779 = true then (if (bt775.2 != bt777.2) = true then (some false) else (if bt775.1 = bt777.1 then (if bt755.2.2 = true then (laws_FnStatesStep.l4 k bt747.2.2 (bt747.2.1.length : Int) 0 bt747.1 bt747.2.1 bt755.1 bt755.2.1) else (some true)) else (some false))) else (some false))))))))))
def laws_FnStatesStep.l4 : Nat → List Int → Int → Int → Int → List (List Int) → Int → List (List Int) → Option (Bool)
 | 0, _, _, _, _, _, _, _ => none
 | k + 1, x54, x565, x566, x755000, x755001, x761000, x761001 => if x566 < x565 then (laws_FnStatesStep.l5 k x54 x566 x565 x566 (x755001.length : Int) 0 x755000 x755001 x761000 x761001) else ((impl_IsOneClass.f k x755000 x755001).bind fun bt786 => ((impl_IsOneClass.f k x761000 x761001).bind fun bt788 => (if bt786.2 = true then (if bt788.2 = true then (if (bt786.1 != bt788.1) = true then (some false) else (some true)) else (some false)) else (some false))))
def laws_FnStatesStep.l5 : Nat → List Int → Int → Int → Int → Int → Int → Int → List (List Int) → Int → List (List Int) → Option (Bool)
 | 0, _, _, _, _, _, _, _, _, _, _ => none
 | k + 1, x54, x67, x565, x566, x571, x572, x755000, x755001, x761000, x761001 => if x572 < x571 then (if 0 ≤ x67 then (if x67 < (x54.length : Int) then (if 0 ≤ (rd x54 x67) then (if (rd x54 x67) < (x761001.length : Int) then (if 0 ≤ x572 then (if x572 < (x54.length : Int) then (if 0 ≤ (rd x54 x572) then (if (rd x54 x572) < ((rd_L2 x761001 (rd x54 x67)).length : Int) then (if x67 < (x755001.length : Int) then (if x572 < ((rd_L2 x755001 x67).length : Int) then (if (rd (rd_L2 x761001 (rd x54 x67)) (rd x54 x572)) = (rd (rd_L2 x755001 x67) x572) then (laws_FnStatesStep.l5 k x54 x67 x565 x566 x571 (wrap64 (x572 + 1)) x755000 x755001 x761000 x761001) else (some false)) else (none)) else (none)) else (none)) else (none)) else (none)) else (none)) else (none)) else (none)) else (none)) else (none)) else (laws_FnStatesStep.l4 k x54 x565 (wrap64 (x566 + 1)) x755000 x755001 x761000 x761001)
def laws_FnStatesStep.l1 : Nat → List Int → Int → Int → List Int → Bool → List (List Int) → Bool → List Int → List Int → Int → Bool → Int → List (List Int) → Int → Int → Int → List (List Int) → Option (Bool)
 | 0, _, _, _, _, _, _, _, _, _, _, _, _, _, _, _, _, _ => none
 | k + 1, x1, x6, x7, x8, x10, x18, x22, x26, x30, x34, x35, x42, x346, x347, x348, x662000, x662001 => if x348 < x347 then (if 0 ≤ x348 then (if x348 < (x346.length : Int) then (if ((rd_L2 x346 x348).length : Int) < 1 then (some false) else ((laws_uRises.f k (rd_L2 x346 x348)).bind fun t726 => (if t726 = true then (if x348 > 0 then (if 0 ≤ (wrap64 (x348 - 1)) then (if (wrap64 (x348 - 1)) < (x18.length : Int) then (if 0 < ((rd_L2 x18 (wrap64 (x348 - 1))).length : Int) then (if 0 < ((rd_L2 x346 x348).length : Int) then (if (rd (rd_L2 x18 (wrap64 (x348 - 1))) 0) ≥ (rd (rd_L2 x346 x348) 0) then (some false) else (laws_FnStatesStep.l2 k x1 x6 x7 x8 x10 x18 x22 x26 x30 x34 x35 (wrap64 (x42 + ((rd_L2 x346 x348).length : Int))) (rd_L2 x346 x348) x346 x347 x348 (rd_L2 x346 x348) ((rd_L2 x346 x348).length : Int) 0 x662000 x662001)) else (none)) else (none)) else (none)) else (none)) else (laws_FnStatesStep.l2 k x1 x6 x7 x8 x10 x18 x22 x26 x30 x34 x35 (wrap64 (x42 + ((rd_L2 x346 x348).length : Int))) (rd_L2 x346 x348) x346 x347 x348 (rd_L2 x346 x348) ((rd_L2 x346 x348).length : Int) 0 x662000 x662001)) else (some false)))) else (none)) else (none)) else (if x42 = (x662001.length : Int) then (if (x22 != ((x18.length : Int) == 1)) = true then (some false) else (if (x26.length : Int) < 1 then (some false) else ((laws_uRises.f k x26).bind fun t738 => (if t738 = true then ((laws_uRises.f k x30).bind fun t739 => (if t739 = true then (laws_FnStatesStep.l3 k x1 x6 x7 x8 x10 x26 x34 x35 x30 (x30.length : Int) 0 x662000 x662001) else (some false))) else (some false))))) else (some false))
def laws_FnStatesStep.l2 : Nat → List Int → Int → Int → List Int → Bool → List (List Int) → Bool → List Int → List Int → Int → Bool → Int → List Int → List (List Int) → Int → Int → List Int → Int → Int → Int → List (List Int) → Option (Bool)
 | 0, _, _, _, _, _, _, _, _, _, _, _, _, _, _, _, _, _, _, _, _, _ => none
 | k + 1, x1, x6, x7, x8, x10, x18, x22, x26, x30, x34, x35, x42, x44, x346, x347, x348, x382, x383, x384, x662000, x662001 => if x384 < x383 then (if 0 ≤ x384 then (if x384 < (x382.length : Int) then ((impl_ReachedStates.f k x662000 x662001 (rd x382 x384)).bind fun bt731 => (if bt731.2 = true then (if 0 < (x44.length : Int) then ((laws_uHas.f k bt731.1 (rd x44 0)).bind fun t736 => (if t736 = true then ((laws_uHas.f k x26 (rd x382 x384)).bind fun t737 => (if (t737 != ((bt731.1.length : Int) == (x44.length : Int))) = true then (some false) else (laws_FnStatesStep.l2 k x1 x6 x7 x8 x10 x18 x22 x26 x30 x34 x35 x42 x44 x346 x347 x348 x382 x383 (wrap64 (x384 + 1)) x662000 x662001))) else (some false))) else (none)) else (some false))) else (none)) else (none)) else (laws_FnStatesStep.l1 k x1 x6 x7 x8 x10 x18 x22 x26 x30 x34 x35 x42 x346 x347 (wrap64 (x348 + 1)) x662000 x662001)
def laws_FnStatesStep.l3 : Nat → List Int → Int → Int → List Int → Bool → List Int → Int → Bool → List Int → Int → Int → Int → List (List Int) → Option (Bool)
 | 0, _, _, _, _, _, _, _, _, _, _, _, _, _ => none
 | k + 1, x1, x6, x7, x8, x10, x26, x34, x35, x444, x445, x446, x662000, x662001 => if x446 < x445 then (if 0 ≤ x446 then (if x446 < (x444.length : Int) then ((impl_PeriodOfState.f k x662000 x662001 (rd x444 x446)).bind fun bt741 => ((laws_uHas.f k x26 (rd x444 x446)).bind fun t743 => (if t743 = true then (if 0 ≤ (rd x444 x446) then (if (rd x444 x446) < (x662001.length : Int) then (if (rd x444 x446) < ((rd_L2 x662001 (rd x444 x446)).length : Int) then (if (rd (rd_L2 x662001 (rd x444 x446)) (rd x444 x446)) = x662000 then (if bt741.2 = true then (if bt741.1 = 1 then (laws_FnStatesStep.l3 k x1 x6 x7 x8 x10 x26 x34 x35 x444 x445 (wrap64 (x446 + 1)) x662000 x662001) else (some false)) else (some false)) else (some false)) else (none)) else (none)) else (none)) else (some false)))) else (none)) else (none)) else (laws_FnStatesStep.j6 k x1 x6 x7 x8 x10 x34 x35)
def laws_FnStatesStep.l0 : Nat → List Int → Int → Int → List Int → Bool → List Int → List (List Int) → Bool → Bool → List Int → List Int → Int → Bool → List Int → Int → Int → Int → List (List Int) → Option (Bool)
 | 0, _, _, _, _, _, _, _, _, _, _, _, _, _, _, _, _, _, _ => none
 | k + 1, x1, x6, x7, x8, x10, x14, x18, x19, x22, x26, x30, x34, x35, x306, x307, x308, x662000, x662001 => if x308 < x307 then (if 0 ≤ x308 then (if x308 < (x306.length : Int) then ((impl_CountWays.f k x662000 x662001 x6 x308 x7).bind fun bt722 => (if (rd x306 x308) < 0 then (some false) else (if bt722.2 = true then (if ((decide (bt722.1 > 0)) != (decide ((rd x306 x308) > 0))) = true then (some false) else (if (rd x306 x308) > 0 then ((laws_uHas.f k x14 x308).bind fun t724 => (if t724 = true then (laws_FnStatesStep.l0 k x1 x6 x7 x8 x10 x14 x18 x19 x22 x26 x30 x34 x35 x306 x307 (wrap64 (x308 + 1)) x662000 x662001) else (some false))) else (laws_FnStatesStep.l0 k x1 x6 x7 x8 x10 x14 x18 x19 x22 x26 x30 x34 x35 x306 x307 (wrap64 (x308 + 1)) x662000 x662001))) else (some false)))) else (none)) else (none)) else (laws_FnStatesStep.j2 k x1 x6 x7 x8 x10 x18 x19 x22 x26 x30 x34 x35 x662000 x662001)
end
def laws_FnStatesStep.f (k : Nat) (l0 : List Int) (l1 : List Int) : Option (Bool) := (laws_big.f l0 l1).bind fun t654 => (if t654 = true then (some true) else ((spec_DrawStatesAfter.f k l0).bind fun bt655 => ((impl_StatesAfter.f k bt655.1 bt655.2.1 bt655.2.2.1 bt655.2.2.2).bind fun bt662 => ((spec_StatesAfter.f k bt655.1 bt655.2.1 bt655.2.2.1 bt655.2.2.2).bind fun bt667 => ((impl_ReachedStates.f k bt655.1 bt655.2.1 bt655.2.2.1).bind fun bt672 => ((spec_ReachedStates.f k bt655.1 bt655.2.1 bt655.2.2.1).bind fun bt676 => ((impl_StateClasses.f k bt655.1 bt655.2.1).bind fun bt680 => ((spec_StateClasses.f k bt655.1 bt655.2.1).bind fun bt684 => ((impl_IsOneClass.f k bt655.1 bt655.2.1).bind fun bt688 => ((spec_IsOneClass.f k bt655.1 bt655.2.1).bind fun bt690 => ((impl_LastingStates.f k bt655.1 bt655.2.1).bind fun bt692 => ((spec_LastingStates.f k bt655.1 bt655.2.1).bind fun bt696 => ((impl_EndStates.f k bt655.1 bt655.2.1).bind fun bt700 => ((spec_EndStates.f k bt655.1 bt655.2.1).bind fun bt704 => ((impl_PeriodOfState.f k bt655.1 bt655.2.1 bt655.2.2.1).bind fun bt708 => ((spec_PeriodOfState.f k bt655.1 bt655.2.1 bt655.2.2.1).bind fun bt710 => (if (bt662.2.2 != bt667.2.2) = true then (some false) else ((laws_uSame.f k bt662.1 bt667.1).bind fun t712 => (if t712 = true then (if bt662.2.1 = bt667.2.1 then (if (bt672.2 != bt676.2) = true then (some false) else ((laws_uSame.f k bt672.1 bt676.1).bind fun t713 => (if t713 = true then (if (bt680.2 != bt684.2) = true then (some false) else ((laws_uRows.f k bt680.1 bt684.1).bind fun t714 => (if t714 = true then (if (bt688.2 != bt690.2) = true then (some false) else (if (bt688.1 != bt690.1) = true then (some false) else (if (bt692.2 != bt696.2) = true then (some false) else ((laws_uSame.f k bt692.1 bt696.1).bind fun t715 => (if t715 = true then (if (bt700.2 != bt704.2) = true then (some false) else ((laws_uSame.f k bt700.1 bt704.1).bind fun t716 => (if t716 = true then (if (bt708.2 != bt710.2) = true then (some false) else (if bt708.1 = bt710.1 then ((impl_AreStates.f k bt655.1 bt655.2.1).bind fun t717 => (if (bt680.2 != t717) = true then (some false) else ((impl_AreStates.f k bt655.1 bt655.2.1).bind fun t718 => ((spec_AreStates.f k bt655.1 bt655.2.1).bind fun t719 => (if (t718 != t719) = true then (some false) else (if (bt688.2 != bt680.2) = true then (some false) else (if (bt692.2 != bt680.2) = true then (some false) else (if (bt700.2 != bt680.2) = true then (some false) else (if bt662.2.2 = true then (if bt672.2 = true then (if bt680.2 = true then (if bt708.2 = true then (laws_FnStatesStep.j0 k l1 bt655.2.2.1 bt655.2.2.2 bt662.1 bt662.2.1 bt662.2.2 bt672.1 bt680.1 bt680.2 bt688.1 bt692.1 bt700.1 bt708.1 bt708.2 false bt655.1 bt655.2.1) else (laws_FnStatesStep.j0 k l1 bt655.2.2.1 bt655.2.2.2 bt662.1 bt662.2.1 bt662.2.2 bt672.1 bt680.1 bt680.2 bt688.1 bt692.1 bt700.1 bt708.1 bt708.2 false bt655.1 bt655.2.1)) else (some false)) else (some false)) else (if bt672.2 = true then (if bt680.2 = true then (if bt708.2 = true then (laws_FnStatesStep.j0 k l1 bt655.2.2.1 bt655.2.2.2 bt662.1 bt662.2.1 bt662.2.2 bt672.1 bt680.1 bt680.2 bt688.1 bt692.1 bt700.1 bt708.1 bt708.2 false bt655.1 bt655.2.1) else (laws_FnStatesStep.j0 k l1 bt655.2.2.1 bt655.2.2.2 bt662.1 bt662.2.1 bt662.2.2 bt672.1 bt680.1 bt680.2 bt688.1 bt692.1 bt700.1 bt708.1 bt708.2 false bt655.1 bt655.2.1)) else (some false)) else (if bt708.2 = true then (some false) else (laws_FnStatesStep.j0 k l1 bt655.2.2.1 bt655.2.2.2 bt662.1 bt662.2.1 bt662.2.2 bt672.1 bt680.1 bt680.2 bt688.1 bt692.1 bt700.1 bt708.1 bt708.2 false bt655.1 bt655.2.1)))))))))))) else (some false))) else (some false)))) else (some false)))))) else (some false)))) else (some false)))) else (some false)) else (some false))))))))))))))))))))
def laws_FnStatesStep.T18 : Bool × List (List Nat × List Nat) := (true, [([], []), ([], []), ([0, 1], [0, 1]), ([2], [2]), ([3], [3]), ([3], [3]), ([4, 5, 3, 3], [3, 4, 5]), ([6, 3], [3, 6]), ([3, 7], [3, 7]), ([8, 6], [8]), ([9], [9]), ([9], [9]), ([10, 11, 9], [9, 10, 11]), ([9, 12], [9, 12]), ([13, 9], [13]), ([14], [14]), ([14], [14]), ([15, 16, 14], [14, 15, 16]), ([14, 17], [14, 17]), ([18, 14], [18]), ([19], [19]), ([19], [19]), ([20, 21, 19, 19], [19, 20, 21]), ([22, 19], [19, 22]), ([19, 23], [19, 23]), ([24, 22], [24]), ([25], [25]), ([25], [25]), ([26, 27, 25], [25, 26, 27]), ([25, 28], [25, 28]), ([29, 25], [29]), ([30], [30]), ([30], [30]), ([31, 32, 30, 30], [30, 31, 32]), ([33, 30], [30, 33]), ([30, 34], [30, 34]), ([35, 33], [35]), ([36], [36]), ([36], [36]), ([37, 38, 36], [36, 37, 38]), ([36, 39], [36, 39]), ([40, 36], [40]), ([41], [41]), ([41], [41]), ([42, 43, 41], [41, 42, 43]), ([41, 44], [41, 44]), ([45, 41], [45]), ([46], [46]), ([46], [46]), ([47, 48, 46], [46, 47, 48]), ([46, 49], [46, 49]), ([50, 46], [50]), ([51], [51]), ([51], [51]), ([52, 53, 51, 51], [51, 52, 53]), ([54, 51], [51, 54]), ([51, 55], [51, 55]), ([56, 54], [56]), ([57], [57]), ([57], [57]), ([58, 59, 57], [57, 58, 59]), ([57, 60], [57, 60]), ([61, 57], [61]), ([62], [62]), ([62], [62]), ([63, 64, 62, 62], [62, 63, 64]), ([65, 62], [62, 65]), ([62, 66], [62, 66]), ([67, 65], [67]), ([68], [68]), ([68], [68]), ([69, 70, 68], [68, 69, 70]), ([68, 71], [68, 71]), ([72, 68], [72]), ([73], [73]), ([73], [73]), ([74, 75, 73], [73, 74, 75]), ([73, 76], [73, 76]), ([77, 73], [77]), ([78], [78]), ([78], [78]), ([80, 78, 78], [78, 80]), ([79, 81, 78], [78, 79, 81]), ([78, 82], [78, 82]), ([83, 81], [83]), ([84], [84]), ([85, 84, 84], [84, 85]), ([84], [84]), ([87, 86, 84], [84, 87]), ([86, 88, 84], [84, 86, 88]), ([84, 89], [84, 89]), ([90, 88], [90]), ([91], [91]), ([91], [91]), ([92, 93, 91], [91, 92, 93]), ([91, 94], [91, 94]), ([95, 91], [95]), ([96], [96]), ([96], [96]), ([97, 98, 96], [96, 97, 98]), ([96, 99], [96, 99]), ([100, 96], [100]), ([101], [101]), ([101], [101]), ([102, 103, 101], [101, 102, 103]), ([101, 104], [101, 104]), ([105, 101], [105]), ([106], [106]), ([107, 106, 106], [106, 107]), ([108], [108]), ([109, 108], [108, 109]), ([108, 110, 106], [106, 108, 110]), ([106, 111], [106, 111]), ([112, 108], [112]), ([113], [113]), ([114, 113, 113], [113, 114]), ([115], [115]), ([116, 115], [115, 116]), ([115, 117, 113], [113, 115, 117]), ([113, 118], [113, 118]), ([119, 115], [119]), ([120], [120]), ([121, 120, 120], [120, 121]), ([122], [122]), ([123, 122], [122, 123]), ([122, 124, 120], [120, 122, 124]), ([120, 125], [120, 125])])
def laws_FnStatesStep.B18 : List Nat := [0, 0, 3, 7, 15, 15, 63, 127, 255, 511, 1023, 1023, 4095, 8191, 16383, 32767, 32767, 131071, 262143, 524287, 1048575, 1048575, 4194303, 8388607, 16777215, 33554431, 67108863, 67108863, 268435455, 536870911, 1073741823, 2147483647, 2147483647, 8589934591, 17179869183, 34359738367, 68719476735, 137438953471, 137438953471, 549755813887, 1099511627775, 2199023255551, 4398046511103, 4398046511103, 17592186044415, 35184372088831, 70368744177663, 140737488355327, 140737488355327, 562949953421311, 1125899906842623, 2251799813685247, 4503599627370495, 4503599627370495, 18014398509481983, 36028797018963967, 72057594037927935, 144115188075855871, 288230376151711743, 288230376151711743, 1152921504606846975, 2305843009213693951, 4611686018427387903, 9223372036854775807, 9223372036854775807, 36893488147419103231, 73786976294838206463, 147573952589676412927, 295147905179352825855, 590295810358705651711, 590295810358705651711, 2361183241434822606847, 4722366482869645213695, 9444732965739290427391, 18889465931478580854783, 18889465931478580854783, 75557863725914323419135, 151115727451828646838271, 302231454903657293676543, 604462909807314587353087, 604462909807314587353087, 1813388729421943762059263, 4835703278458516698824703, 9671406556917033397649407, 19342813113834066795298815, 38685626227668133590597631, 77371252455336267181195263, 38685626227668133590597631, 309485009821345068724781055, 618970019642690137449562111, 1237940039285380274899124223, 2475880078570760549798248447, 4951760157141521099596496895, 4951760157141521099596496895, 19807040628566084398385987583, 39614081257132168796771975167, 79228162514264337593543950335, 158456325028528675187087900671, 158456325028528675187087900671, 633825300114114700748351602687, 1267650600228229401496703205375, 2535301200456458802993406410751, 5070602400912917605986812821503, 5070602400912917605986812821503, 20282409603651670423947251286015, 40564819207303340847894502572031, 81129638414606681695789005144063, 162259276829213363391578010288127, 324518553658426726783156020576255, 649037107316853453566312041152511, 1298074214633706907132624082305023, 2596148429267413814265248164610047, 5192296858534827628530496329220095, 10384593717069655257060992658440191, 20769187434139310514121985316880383, 41538374868278621028243970633760767, 83076749736557242056487941267521535, 166153499473114484112975882535043071, 332306998946228968225951765070086143, 664613997892457936451903530140172287, 1329227995784915872903807060280344575, 2658455991569831745807614120560689151, 5316911983139663491615228241121378303, 10633823966279326983230456482242756607, 21267647932558653966460912964485513215, 42535295865117307932921825928971026431, 85070591730234615865843651857942052863]
theorem laws_FnStatesStep.tab18 : rtab .any (opsOf Try.f3 18) = laws_FnStatesStep.T18 := by kernel_rfl
theorem laws_FnStatesStep.bits18 : waitsOk laws_FnStatesStep.T18.2 laws_FnStatesStep.B18 = true := by kernel_rfl
def laws_FnStatesStep.T35 : Bool × List (List Nat × List Nat) := (true, [([], []), ([0], [0]), ([1], [1]), ([2], [2]), ([3], [3]), ([4, 3, 3], [3, 4]), ([5, 3], [3, 5]), ([3, 6], [3, 6]), ([7, 5], [7]), ([8], [8]), ([9, 8], [8, 9]), ([10, 8, 8], [8, 10]), ([11], [11]), ([11], [11]), ([13, 11], [11, 13]), ([12, 14, 11], [11, 12, 14]), ([15, 11], [11, 15]), ([16, 11], [11, 16]), ([17, 11], [11, 17]), ([11], [11]), ([19, 11], [11, 19]), ([20, 11], [11, 20]), ([18, 21, 11], [11, 18, 21]), ([11, 22, 8], [8, 11, 22]), ([8, 23], [8, 23])])
def laws_FnStatesStep.B35 : List Nat := [0, 1, 3, 7, 15, 31, 63, 127, 255, 511, 1023, 2047, 4095, 4095, 12287, 32767, 65535, 131071, 262143, 4095, 528383, 1576959, 4194303, 8388607, 16777215]
theorem laws_FnStatesStep.tab35 : rtab .any (opsOf Try.f3 35) = laws_FnStatesStep.T35 := by kernel_rfl
theorem laws_FnStatesStep.bits35 : waitsOk laws_FnStatesStep.T35.2 laws_FnStatesStep.B35 = true := by kernel_rfl
def laws_FnStatesStep.T52 : Bool × List (List Nat × List Nat) := (true, [([], []), ([], []), ([0, 1], [0, 1]), ([2], [2]), ([3, 2], [3]), ([4], [4]), ([5, 4], [4, 5]), ([4], [4]), ([6, 7, 4], [4, 6, 7]), ([8, 4], [4, 8]), ([4], [4]), ([9, 10, 4], [4, 9, 10]), ([11, 4], [4, 11]), ([4], [4]), ([13, 4], [4, 13]), ([12, 14, 4], [4, 12, 14]), ([4, 15], [4, 15]), ([16, 4], [16]), ([17], [17]), ([18, 17], [17, 18]), ([17, 19], [17, 19]), ([20, 17], [20]), ([21], [21]), ([22, 21], [21, 22]), ([21, 23], [21, 23])])
def laws_FnStatesStep.B52 : List Nat := [0, 0, 3, 7, 15, 31, 63, 31, 255, 511, 31, 2047, 4095, 31, 8223, 32767, 65535, 131071, 262143, 524287, 1048575, 2097151, 4194303, 8388607, 16777215]
theorem laws_FnStatesStep.tab52 : rtab .any (opsOf Try.f3 52) = laws_FnStatesStep.T52 := by kernel_rfl
theorem laws_FnStatesStep.bits52 : waitsOk laws_FnStatesStep.T52.2 laws_FnStatesStep.B52 = true := by kernel_rfl
def laws_FnStatesStep.T72 : Bool × List (List Nat × List Nat) := (true, [([], []), ([0], [0]), ([], []), ([], []), ([2, 3], [2, 3]), ([4], [4]), ([1, 5], [1, 5]), ([6], [6]), ([], []), ([], []), ([8, 9], [8, 9]), ([10], [10]), ([7, 11], [7, 11]), ([12], [12]), ([], []), ([14], [14]), ([], []), ([15, 16], [15, 16]), ([17], [17]), ([], []), ([18, 19], [18, 19]), ([20], [20]), ([13, 21], [13, 21])])
def laws_FnStatesStep.B72 : List Nat := [0, 1, 0, 0, 12, 28, 63, 127, 0, 0, 768, 1792, 4095, 8191, 0, 16384, 0, 114688, 245760, 0, 1032192, 2080768, 4194303]
theorem laws_FnStatesStep.tab72 : rtab .any (opsOf Try.f3 72) = laws_FnStatesStep.T72 := by kernel_rfl
theorem laws_FnStatesStep.bits72 : waitsOk laws_FnStatesStep.T72.2 laws_FnStatesStep.B72 = true := by kernel_rfl
set_option maxHeartbeats 8000000 in
set_option maxRecDepth 100000 in
theorem laws_FnStatesStep.calls (k : Nat) (A0 : Option Addr) (c0 : Nat) (l0 : List Int) (A1 : Option Addr) (c1 : Nat) (l1 : List Int) (r : Bool) (w : World) (hr0 : Kd.C (Kd.int .u8) w A0 l0.length l0) (hc0 : l0.length ≤ c0) (hr1 : Kd.C (Kd.int .u8) w A1 l1.length l1) (hc1 : l1.length ≤ c1) (h : laws_FnStatesStep.f k l0 l1 = some true) :
 Calls Try.prog 3 #[.slice A0 l0.length c0, .slice A1 l1.length c1] w fun e w' => e = .returned (.bool true) ∧ Below w.heap.size w w' := by
 have hu26 := Try.underlying26
 have HR0 := am hr0
 have HC0 := am hc0
 clear hr0 hc0
 have HR1 := am hr1
 have HC1 := am hc1
 clear hr1 hc1
 have HB := am (Below.refl w.heap.size w)
 have H := h
 clear h
 unfold laws_FnStatesStep.f at H
 replace H := bnd H
 obtain ⟨t654, A3, H⟩ := H
 (try dsimp only at H)
 by_cases c4 : t654 = true
 · subst c4
   replace H := ifT H
   clear H
   go_enter Try.func3, Try.ntmps3
   go_wp2_with (first | ((with_reducible refine gate_callee (f := 4) rfl ?_); refine gL 75 Try.func4 #[.slice A0 l0.length c0, .slice A1 l1.length c1] ?_; (with_reducible refine (laws_big.calls _ _ l0 _ _ l1 true _ ?side1 HC0.out ?side3 HC1.out A3.out).mono ?_); (case side1 => exact cB HR0.out); (case side3 => exact cB HR1.out); rintro e w' ⟨rfl, ⟨nd, rfl⟩⟩; refine ⟨_, rfl, ?_⟩))
   go_ret
   exact ⟨eW, bB⟩
 · replace c4 := Bool.eq_false_iff.mpr c4
   subst c4
   replace H := ifF H
   replace H := bnd H
   obtain ⟨⟨t655, t656, t659, t660⟩, A5, H⟩ := H
   (try dsimp only at H)
   replace H := bnd H
   obtain ⟨⟨t662, t665, t666⟩, A6, H⟩ := H
   (try dsimp only at H)
   replace H := bnd H
   obtain ⟨⟨t667, t670, t671⟩, A7, H⟩ := H
   (try dsimp only at H)
   replace H := bnd H
   obtain ⟨⟨t672, t675⟩, A8, H⟩ := H
   (try dsimp only at H)
   replace H := bnd H
   obtain ⟨⟨t676, t679⟩, A9, H⟩ := H
   (try dsimp only at H)
   replace H := bnd H
   obtain ⟨⟨t680, t683⟩, A10, H⟩ := H
   (try dsimp only at H)
   replace H := bnd H
   obtain ⟨⟨t684, t687⟩, A11, H⟩ := H
   (try dsimp only at H)
   replace H := bnd H
   obtain ⟨⟨t688, t689⟩, A12, H⟩ := H
   (try dsimp only at H)
   replace H := bnd H
   obtain ⟨⟨t690, t691⟩, A13, H⟩ := H
   (try dsimp only at H)
   replace H := bnd H
   obtain ⟨⟨t692, t695⟩, A14, H⟩ := H
   (try dsimp only at H)
   replace H := bnd H
   obtain ⟨⟨t696, t699⟩, A15, H⟩ := H
   (try dsimp only at H)
   replace H := bnd H
   obtain ⟨⟨t700, t703⟩, A16, H⟩ := H
   (try dsimp only at H)
   replace H := bnd H
   obtain ⟨⟨t704, t707⟩, A17, H⟩ := H
   (try dsimp only at H)
   replace H := bnd H
   obtain ⟨⟨t708, t709⟩, A18, H⟩ := H
   (try dsimp only at H)
   replace H := bnd H
   obtain ⟨⟨t710, t711⟩, A19, H⟩ := H
   (try dsimp only at H)
   have HC20 := am H
   clear H
   go_enter Try.func3, Try.ntmps3
   go_upto_region 18 with (first | ((with_reducible refine gate_callee (f := 4) rfl ?_); refine gL 75 Try.func4 #[.slice A0 l0.length c0, .slice A1 l1.length c1] ?_; (with_reducible refine (laws_big.calls _ _ l0 _ _ l1 false _ ?side1 HC0.out ?side3 HC1.out A3.out).mono ?_); (case side1 => exact cB HR0.out); (case side3 => exact cB HR1.out); rintro e w' ⟨rfl, ⟨nd, rfl⟩⟩; refine ⟨_, rfl, ?_⟩) | ((with_reducible refine gate_callee (f := 5) rfl ?_); refine gL 78 Try.func5 #[.slice A0 l0.length c0] ?_; (with_reducible refine (spec_DrawStatesAfter.calls k _ _ l0 t655 t656 t659 t660 _ ?side1 HC0.out A5.out).mono ?_); (case side1 => exact cB HR0.out); rintro e w21 ⟨v657, rfl, ho0, hb⟩; refine ⟨_, rfl, ?_⟩; obtain ⟨bzw21_, hzow21_, hznw21_, hzbw21_⟩ := born_pair hb; have HO658 := am (Kd.S_lower (hznw21_ ho0) (below_size bB)); replace HB := sB hb) | ((with_reducible refine gate_dst (N := 5) rfl ?_); (try (refine gate_guard (by rfl) ?_; dsimp only)); refine bE 5 #[.int .i64 0, .slice none 0 0] 26 ?_; intro gb661 hg w22 hbox hb; replace HO658 := lS HO658 hb; have BK661 := am (hbox); have GW661 := gW hg; have GE661 := gW hg; replace HB := sB hb; clear hb hbox hg; obtain ⟨hcz23_0, hcz23_1, hfz23_0, hfz23_1⟩ := cZ BK661; obtain ⟨Ao24, co24, eo24⟩ := Kd.S_slice HO658.out; subst eo24) | ((with_reducible refine gate_callee (f := 6) rfl ?_); refine gL 86 Try.func6 #[.agg #[.int .i64 t655, .slice Ao24 t656.length co24], .int .i64 t659, .int .i64 t660] ?_; (with_reducible refine (impl_StatesAfter.calls k t655 _ _ t656 t659 t660 t662 t665 t666 _ ?side1 (Kd.S_reads' HO658.out).2.1 A6.out).mono ?_); (case side1 => refine (Kd.S_reads' (e := 29) (base := w.heap.size) (ok := fun k_ => (True ∧ bzw21_ ≤ k_)) (n := t656.length) (c := co24) ?_).2.2; exact (by (with_reducible repeat (first | apply Kd.S_alloc | apply Kd.S_drewN | apply Kd.S_drew)); exact (Kd.S_mono (Kd.S_far (p := ⟨gb661, 1, none⟩) (Kd.S_far (p := ⟨gb661, 0, none⟩) (Kd.S_types HO658.out BK661.out (by decide)) (fun _ hk => hk.2) (.int .i64 t655)) (fun _ hk => hk.2) (.slice Ao24 t656.length co24)) (fun _ h_ => h_.1)))); rintro e w25 ⟨v663, rfl, ho0, hb⟩; refine ⟨_, rfl, ?_⟩; replace HO658 := am (Kd.S_elder' (by (with_reducible repeat (first | apply Kd.S_alloc | apply Kd.S_drewN | apply Kd.S_drew)); exact (Kd.S_mono (Kd.S_far (p := ⟨gb661, 1, none⟩) (Kd.S_far (p := ⟨gb661, 0, none⟩) (Kd.S_types HO658.out BK661.out (by decide)) (fun _ hk => hk.2) (.int .i64 t655)) (fun _ hk => hk.2) (.slice Ao24 t656.length co24)) (fun _ h_ => h_.1))) (Kd.R_base ho0) hb); have HO664 := am (Kd.R_lower ho0 (below_size bB)); replace BK661 := am (blk_below (g := gb661) (o := .cells #[.int .i64 t655, .slice Ao24 t656.length co24] 26 (0, 0)) (by (with_reducible repeat (first | refine blk_drewN ?_ _ | refine blk_drew ?_ | refine blk_alloc ?_ _)); refine blk_put (cs := #[.int .i64 t655, .slice none 0 0]) ?_ 1 _ rfl; (with_reducible repeat (first | refine blk_drewN ?_ _ | refine blk_drew ?_ | refine blk_alloc ?_ _)); refine blk_put (cs := #[.int .i64 0, .slice none 0 0]) ?_ 0 _ rfl; (with_reducible repeat (first | refine blk_drewN ?_ _ | refine blk_drew ?_ | refine blk_alloc ?_ _)); exact BK661.out) hb); replace HB := sB hb; obtain ⟨hcz26_0, hcz26_1, hfz26_0, hfz26_1⟩ := cZ BK661) | ((with_reducible refine gate_callee (f := 7) rfl ?_); refine gL 94 Try.func7 #[.agg #[.int .i64 t655, .slice Ao24 t656.length co24], .int .i64 t659, .int .i64 t660] ?_; (with_reducible refine (spec_StatesAfter.calls k t655 _ _ t656 t659 t660 t667 t670 t671 _ ?side1 (Kd.S_reads' HO658.out).2.1 A7.out).mono ?_); (case side1 => exact cB (Kd.S_reads' HO658.out).2.2); rintro e w27 ⟨v668, rfl, ho0, hb⟩; refine ⟨_, rfl, ?_⟩; replace HO658 := eS HO658 ho0 hb; have HO669 := am (Kd.R_lower (Kd.R_new' ho0 (Kd.R_lt (rP HO664))) (below_size bB)); replace HO664 := eR HO664 ho0 hb; replace BK661 := kb BK661 hb; replace HB := sB hb; obtain ⟨hcz28_0, hcz28_1, hfz28_0, hfz28_1⟩ := cZ BK661) | ((with_reducible refine gate_callee (f := 8) rfl ?_); refine gL 101 Try.func8 #[.agg #[.int .i64 t655, .slice Ao24 t656.length co24], .int .i64 t659] ?_; (with_reducible refine (impl_ReachedStates.calls k t655 _ _ t656 t659 t672 t675 _ ?side1 (Kd.S_reads' HO658.out).2.1 A8.out).mono ?_); (case side1 => exact cB (Kd.S_reads' HO658.out).2.2); rintro e w29 ⟨v673, rfl, ho0, hb⟩; refine ⟨_, rfl, ?_⟩; replace HO658 := eS HO658 ho0 hb; have HO674 := am (Kd.R_lower (Kd.R_new' (Kd.R_new' ho0 (Kd.R_lt (rP HO664))) (Kd.R_lt (rP HO669))) (below_size bB)); replace HO664 := eR HO664 ho0 hb; replace HO669 := eR HO669 ho0 hb; replace BK661 := kb BK661 hb; replace HB := sB hb; obtain ⟨hcz30_0, hcz30_1, hfz30_0, hfz30_1⟩ := cZ BK661) | ((with_reducible refine gate_callee (f := 9) rfl ?_); refine gL 107 Try.func9 #[.agg #[.int .i64 t655, .slice Ao24 t656.length co24], .int .i64 t659] ?_; (with_reducible refine (spec_ReachedStates.calls k t655 _ _ t656 t659 t676 t679 _ ?side1 (Kd.S_reads' HO658.out).2.1 A9.out).mono ?_); (case side1 => exact cB (Kd.S_reads' HO658.out).2.2); rintro e w31 ⟨v677, rfl, ho0, hb⟩; refine ⟨_, rfl, ?_⟩; replace HO658 := eS HO658 ho0 hb; have HO678 := am (Kd.R_lower (Kd.R_new' (Kd.R_new' (Kd.R_new' ho0 (Kd.R_lt (rP HO664))) (Kd.R_lt (rP HO669))) (Kd.R_lt (rP HO674))) (below_size bB)); replace HO664 := eR HO664 ho0 hb; replace HO669 := eR HO669 ho0 hb; replace HO674 := eR HO674 ho0 hb; replace BK661 := kb BK661 hb; replace HB := sB hb; obtain ⟨hcz32_0, hcz32_1, hfz32_0, hfz32_1⟩ := cZ BK661) | ((with_reducible refine gate_callee (f := 10) rfl ?_); refine gL 112 Try.func10 #[.agg #[.int .i64 t655, .slice Ao24 t656.length co24]] ?_; (with_reducible refine (impl_StateClasses.calls k t655 _ _ t656 t680 t683 _ ?side1 (Kd.S_reads' HO658.out).2.1 A10.out).mono ?_); (case side1 => exact cB (Kd.S_reads' HO658.out).2.2); rintro e w33 ⟨v681, rfl, ho0, hb⟩; refine ⟨_, rfl, ?_⟩; obtain ⟨bzw33_, hzow33_, hznw33_, hzbw33_⟩ := born_pair hb; have HO682 := am (Kd.S_lower (Kd.S_new' (Kd.S_new' (Kd.S_new' (Kd.S_new' (Kd.S_new' (hznw33_ ho0) (Kd.S_lt (rP HO658))) (Kd.R_lt (rP HO664))) (Kd.R_lt (rP HO669))) (Kd.R_lt (rP HO674))) (Kd.R_lt (rP HO678))) (below_size bB)); replace HO658 := am (Kd.S_mono (ok' := fun k_ => (((((((True ∧ bzw21_ ≤ k_) ∧ some k_ ≠ (v663 : Value).ownBlock) ∧ some k_ ≠ (v668 : Value).ownBlock) ∧ some k_ ≠ (v673 : Value).ownBlock) ∧ some k_ ≠ (v677 : Value).ownBlock) ∧ some k_ ≠ (v681 : Value).ownBlock) ∧ k_ < bzw33_)) (hzow33_ (rP HO658)) (fun k_ hk_ => ⟨⟨hk_.1, fun e_ => Nat.not_le.2 hk_.2 (hzbw33_ _ (Kd.S_base ho0 k_ e_.symm))⟩, hk_.2⟩)); replace HO664 := lR HO664 hb; replace HO669 := lR HO669 hb; replace HO674 := lR HO674 hb; replace HO678 := lR HO678 hb; replace BK661 := kb BK661 hb; replace HB := sB hb; obtain ⟨hcz34_0, hcz34_1, hfz34_0, hfz34_1⟩ := cZ BK661) | ((with_reducible refine gate_callee (f := 11) rfl ?_); refine gL 117 Try.func11 #[.agg #[.int .i64 t655, .slice Ao24 t656.length co24]] ?_; (with_reducible refine (spec_StateClasses.calls k t655 _ _ t656 t684 t687 _ ?side1 (Kd.S_reads' HO658.out).2.1 A11.out).mono ?_); (case side1 => exact cB (Kd.S_reads' HO658.out).2.2); rintro e w35 ⟨v685, rfl, ho0, hb⟩; refine ⟨_, rfl, ?_⟩; obtain ⟨bzw35_, hzow35_, hznw35_, hzbw35_⟩ := born_pair hb; have HO686 := am (Kd.S_lower (Kd.S_new' (Kd.S_new' (Kd.S_new' (Kd.S_new' (Kd.S_new' (Kd.S_new' (hznw35_ ho0) (Kd.S_lt (rP HO658))) (Kd.R_lt (rP HO664))) (Kd.R_lt (rP HO669))) (Kd.R_lt (rP HO674))) (Kd.R_lt (rP HO678))) (Kd.S_lt (rP HO682))) (below_size bB)); replace HO658 := am (Kd.S_mono (ok' := fun k_ => (((((((((True ∧ bzw21_ ≤ k_) ∧ some k_ ≠ (v663 : Value).ownBlock) ∧ some k_ ≠ (v668 : Value).ownBlock) ∧ some k_ ≠ (v673 : Value).ownBlock) ∧ some k_ ≠ (v677 : Value).ownBlock) ∧ some k_ ≠ (v681 : Value).ownBlock) ∧ k_ < bzw33_) ∧ some k_ ≠ (v685 : Value).ownBlock) ∧ k_ < bzw35_)) (hzow35_ (rP HO658)) (fun k_ hk_ => ⟨⟨hk_.1, fun e_ => Nat.not_le.2 hk_.2 (hzbw35_ _ (Kd.S_base ho0 k_ e_.symm))⟩, hk_.2⟩)); replace HO664 := lR HO664 hb; replace HO669 := lR HO669 hb; replace HO674 := lR HO674 hb; replace HO678 := lR HO678 hb; replace HO682 := am (Kd.S_mono (ok' := fun k_ => ((((((((True ∧ bzw33_ ≤ k_) ∧ some k_ ≠ (.slice Ao24 t656.length co24 : Value).ownBlock) ∧ some k_ ≠ (v663 : Value).ownBlock) ∧ some k_ ≠ (v668 : Value).ownBlock) ∧ some k_ ≠ (v673 : Value).ownBlock) ∧ some k_ ≠ (v677 : Value).ownBlock) ∧ some k_ ≠ (v685 : Value).ownBlock) ∧ k_ < bzw35_)) (hzow35_ (rP HO682)) (fun k_ hk_ => ⟨⟨hk_.1, fun e_ => Nat.not_le.2 hk_.2 (hzbw35_ _ (Kd.S_base ho0 k_ e_.symm))⟩, hk_.2⟩)); replace BK661 := kb BK661 hb; replace HB := sB hb; obtain ⟨hcz36_0, hcz36_1, hfz36_0, hfz36_1⟩ := cZ BK661) | ((with_reducible refine gate_callee (f := 12) rfl ?_); refine gL 122 Try.func12 #[.agg #[.int .i64 t655, .slice Ao24 t656.length co24]] ?_; (with_reducible refine (impl_IsOneClass.calls k t655 _ _ t656 t688 t689 _ ?side1 (Kd.S_reads' HO658.out).2.1 A12.out).mono ?_); (case side1 => exact cB (Kd.S_reads' HO658.out).2.2); rintro e w37 ⟨rfl, hb⟩; refine ⟨_, rfl, ?_⟩; replace HO658 := lS HO658 hb; replace HO664 := lR HO664 hb; replace HO669 := lR HO669 hb; replace HO674 := lR HO674 hb; replace HO678 := lR HO678 hb; replace HO682 := lS HO682 hb; replace HO686 := lS HO686 hb; replace BK661 := kb BK661 hb; replace HB := sB hb; obtain ⟨hcz38_0, hcz38_1, hfz38_0, hfz38_1⟩ := cZ BK661) | ((with_reducible refine gate_callee (f := 13) rfl ?_); refine gL 127 Try.func13 #[.agg #[.int .i64 t655, .slice Ao24 t656.length co24]] ?_; (with_reducible refine (spec_IsOneClass.calls k t655 _ _ t656 t690 t691 _ ?side1 (Kd.S_reads' HO658.out).2.1 A13.out).mono ?_); (case side1 => exact cB (Kd.S_reads' HO658.out).2.2); rintro e w39 ⟨rfl, hb⟩; refine ⟨_, rfl, ?_⟩; replace HO658 := lS HO658 hb; replace HO664 := lR HO664 hb; replace HO669 := lR HO669 hb; replace HO674 := lR HO674 hb; replace HO678 := lR HO678 hb; replace HO682 := lS HO682 hb; replace HO686 := lS HO686 hb; replace BK661 := kb BK661 hb; replace HB := sB hb; obtain ⟨hcz40_0, hcz40_1, hfz40_0, hfz40_1⟩ := cZ BK661) | ((with_reducible refine gate_callee (f := 14) rfl ?_); refine gL 132 Try.func14 #[.agg #[.int .i64 t655, .slice Ao24 t656.length co24]] ?_; (with_reducible refine (impl_LastingStates.calls k t655 _ _ t656 t692 t695 _ ?side1 (Kd.S_reads' HO658.out).2.1 A14.out).mono ?_); (case side1 => exact cB (Kd.S_reads' HO658.out).2.2); rintro e w41 ⟨v693, rfl, ho0, hb⟩; refine ⟨_, rfl, ?_⟩; replace HO658 := eS HO658 ho0 hb; replace HO682 := eS HO682 ho0 hb; replace HO686 := eS HO686 ho0 hb; have HO694 := am (Kd.R_lower (Kd.R_new' (Kd.R_new' (Kd.R_new' (Kd.R_new' ho0 (Kd.R_lt (rP HO664))) (Kd.R_lt (rP HO669))) (Kd.R_lt (rP HO674))) (Kd.R_lt (rP HO678))) (below_size bB)); replace HO664 := eR HO664 ho0 hb; replace HO669 := eR HO669 ho0 hb; replace HO674 := eR HO674 ho0 hb; replace HO678 := eR HO678 ho0 hb; replace BK661 := kb BK661 hb; replace HB := sB hb; obtain ⟨hcz42_0, hcz42_1, hfz42_0, hfz42_1⟩ := cZ BK661) | ((with_reducible refine gate_callee (f := 15) rfl ?_); refine gL 137 Try.func15 #[.agg #[.int .i64 t655, .slice Ao24 t656.length co24]] ?_; (with_reducible refine (spec_LastingStates.calls k t655 _ _ t656 t696 t699 _ ?side1 (Kd.S_reads' HO658.out).2.1 A15.out).mono ?_); (case side1 => exact cB (Kd.S_reads' HO658.out).2.2); rintro e w43 ⟨v697, rfl, ho0, hb⟩; refine ⟨_, rfl, ?_⟩; replace HO658 := eS HO658 ho0 hb; replace HO682 := eS HO682 ho0 hb; replace HO686 := eS HO686 ho0 hb; have HO698 := am (Kd.R_lower (Kd.R_new' (Kd.R_new' (Kd.R_new' (Kd.R_new' (Kd.R_new' ho0 (Kd.R_lt (rP HO664))) (Kd.R_lt (rP HO669))) (Kd.R_lt (rP HO674))) (Kd.R_lt (rP HO678))) (Kd.R_lt (rP HO694))) (below_size bB)); replace HO664 := eR HO664 ho0 hb; replace HO669 := eR HO669 ho0 hb; replace HO674 := eR HO674 ho0 hb; replace HO678 := eR HO678 ho0 hb; replace HO694 := eR HO694 ho0 hb; replace BK661 := kb BK661 hb; replace HB := sB hb; obtain ⟨hcz44_0, hcz44_1, hfz44_0, hfz44_1⟩ := cZ BK661) | ((with_reducible refine gate_callee (f := 16) rfl ?_); refine gL 142 Try.func16 #[.agg #[.int .i64 t655, .slice Ao24 t656.length co24]] ?_; (with_reducible refine (impl_EndStates.calls k t655 _ _ t656 t700 t703 _ ?side1 (Kd.S_reads' HO658.out).2.1 A16.out).mono ?_); (case side1 => exact cB (Kd.S_reads' HO658.out).2.2); rintro e w45 ⟨v701, rfl, ho0, hb⟩; refine ⟨_, rfl, ?_⟩; replace HO658 := eS HO658 ho0 hb; replace HO682 := eS HO682 ho0 hb; replace HO686 := eS HO686 ho0 hb; have HO702 := am (Kd.R_lower (Kd.R_new' (Kd.R_new' (Kd.R_new' (Kd.R_new' (Kd.R_new' (Kd.R_new' ho0 (Kd.R_lt (rP HO664))) (Kd.R_lt (rP HO669))) (Kd.R_lt (rP HO674))) (Kd.R_lt (rP HO678))) (Kd.R_lt (rP HO694))) (Kd.R_lt (rP HO698))) (below_size bB)); replace HO664 := eR HO664 ho0 hb; replace HO669 := eR HO669 ho0 hb; replace HO674 := eR HO674 ho0 hb; replace HO678 := eR HO678 ho0 hb; replace HO694 := eR HO694 ho0 hb; replace HO698 := eR HO698 ho0 hb; replace BK661 := kb BK661 hb; replace HB := sB hb; obtain ⟨hcz46_0, hcz46_1, hfz46_0, hfz46_1⟩ := cZ BK661) | ((with_reducible refine gate_callee (f := 17) rfl ?_); refine gL 147 Try.func17 #[.agg #[.int .i64 t655, .slice Ao24 t656.length co24]] ?_; (with_reducible refine (spec_EndStates.calls k t655 _ _ t656 t704 t707 _ ?side1 (Kd.S_reads' HO658.out).2.1 A17.out).mono ?_); (case side1 => exact cB (Kd.S_reads' HO658.out).2.2); rintro e w47 ⟨v705, rfl, ho0, hb⟩; refine ⟨_, rfl, ?_⟩; replace HO658 := eS HO658 ho0 hb; replace HO682 := eS HO682 ho0 hb; replace HO686 := eS HO686 ho0 hb; have HO706 := am (Kd.R_lower (Kd.R_new' (Kd.R_new' (Kd.R_new' (Kd.R_new' (Kd.R_new' (Kd.R_new' (Kd.R_new' ho0 (Kd.R_lt (rP HO664))) (Kd.R_lt (rP HO669))) (Kd.R_lt (rP HO674))) (Kd.R_lt (rP HO678))) (Kd.R_lt (rP HO694))) (Kd.R_lt (rP HO698))) (Kd.R_lt (rP HO702))) (below_size bB)); replace HO664 := eR HO664 ho0 hb; replace HO669 := eR HO669 ho0 hb; replace HO674 := eR HO674 ho0 hb; replace HO678 := eR HO678 ho0 hb; replace HO694 := eR HO694 ho0 hb; replace HO698 := eR HO698 ho0 hb; replace HO702 := eR HO702 ho0 hb; replace BK661 := kb BK661 hb; replace HB := sB hb; obtain ⟨hcz48_0, hcz48_1, hfz48_0, hfz48_1⟩ := cZ BK661) | ((with_reducible refine gate_callee (f := 18) rfl ?_); refine gL 153 Try.func18 #[.agg #[.int .i64 t655, .slice Ao24 t656.length co24], .int .i64 t659] ?_; (with_reducible refine (impl_PeriodOfState.calls k t655 _ _ t656 t659 t708 t709 _ ?side1 (Kd.S_reads' HO658.out).2.1 A18.out).mono ?_); (case side1 => exact cB (Kd.S_reads' HO658.out).2.2); rintro e w49 ⟨rfl, hb⟩; refine ⟨_, rfl, ?_⟩; replace HO658 := lS HO658 hb; replace HO664 := lR HO664 hb; replace HO669 := lR HO669 hb; replace HO674 := lR HO674 hb; replace HO678 := lR HO678 hb; replace HO682 := lS HO682 hb; replace HO686 := lS HO686 hb; replace HO694 := lR HO694 hb; replace HO698 := lR HO698 hb; replace HO702 := lR HO702 hb; replace HO706 := lR HO706 hb; replace BK661 := kb BK661 hb; replace HB := sB hb; obtain ⟨hcz50_0, hcz50_1, hfz50_0, hfz50_1⟩ := cZ BK661) | ((with_reducible refine gate_callee (f := 19) rfl ?_); refine gL 159 Try.func19 #[.agg #[.int .i64 t655, .slice Ao24 t656.length co24], .int .i64 t659] ?_; (with_reducible refine (spec_PeriodOfState.calls k t655 _ _ t656 t659 t710 t711 _ ?side1 (Kd.S_reads' HO658.out).2.1 A19.out).mono ?_); (case side1 => exact cB (Kd.S_reads' HO658.out).2.2); rintro e w51 ⟨rfl, hb⟩; refine ⟨_, rfl, ?_⟩; replace HO658 := lS HO658 hb; replace HO664 := lR HO664 hb; replace HO669 := lR HO669 hb; replace HO674 := lR HO674 hb; replace HO678 := lR HO678 hb; replace HO682 := lS HO682 hb; replace HO686 := lS HO686 hb; replace HO694 := lR HO694 hb; replace HO698 := lR HO698 hb; replace HO702 := lR HO702 hb; replace HO706 := lR HO706 hb; replace BK661 := kb BK661 hb; replace HB := sB hb))
   (try simp only [Act.put, List.setIfInBounds_toArray, List.set_cons_zero, List.set_cons_succ])
   go_cut [288] from 1 to 0 (fun v288 wc => ∃ (kq : Nat) (x288_19 : Bool), v288 = .bool x288_19 ∧ Aside0 (laws_FnStatesStep.j0 kq l1 t659 t660 t662 t665 t666 t672 t680 t683 t688 t692 t700 t708 t709 x288_19 t655 t656 = some true) ∧ Aside0 (kq ≤ k) ∧ Aside0 (Kd.R (Kd.int .i64) 3 wc w.heap.size (fun k_ => some k_ ≠ (v673 : Value).ownBlock ∧ some k_ ≠ (v693 : Value).ownBlock ∧ some k_ ≠ (v701 : Value).ownBlock) v663 t662) ∧ Aside0 (Kd.R (Kd.int .i64) 3 wc w.heap.size (fun k_ => some k_ ≠ (v663 : Value).ownBlock ∧ some k_ ≠ (v693 : Value).ownBlock ∧ some k_ ≠ (v701 : Value).ownBlock) v673 t672) ∧ Aside0 (Kd.S (Kd.slice 3 (Kd.int .i64)) 29 wc w.heap.size (fun k_ => some k_ ≠ (v663 : Value).ownBlock ∧ some k_ ≠ (v673 : Value).ownBlock ∧ some k_ ≠ (v693 : Value).ownBlock ∧ some k_ ≠ (v701 : Value).ownBlock ∧ some k_ ≠ ((.slice Ao24 t656.length co24) : Value).ownBlock) v681 t680) ∧ Aside0 (Kd.R (Kd.int .i64) 3 wc w.heap.size (fun k_ => some k_ ≠ (v663 : Value).ownBlock ∧ some k_ ≠ (v673 : Value).ownBlock ∧ some k_ ≠ (v701 : Value).ownBlock) v693 t692) ∧ Aside0 (Kd.R (Kd.int .i64) 3 wc w.heap.size (fun k_ => some k_ ≠ (v663 : Value).ownBlock ∧ some k_ ≠ (v673 : Value).ownBlock ∧ some k_ ≠ (v693 : Value).ownBlock) v701 t700) ∧ Aside0 (Kd.S (Kd.slice 3 (Kd.int .i64)) 29 wc w.heap.size (fun k_ => some k_ ≠ (v663 : Value).ownBlock ∧ some k_ ≠ (v673 : Value).ownBlock ∧ some k_ ≠ (v681 : Value).ownBlock ∧ some k_ ≠ (v693 : Value).ownBlock ∧ some k_ ≠ (v701 : Value).ownBlock) (.slice Ao24 t656.length co24) t656) ∧ Aside0 (wc.heap[gb661]? = some (.cells #[.int .i64 t655, (.slice Ao24 t656.length co24)] 26 (0, 0))) ∧ Aside0 (Below w.heap.size w wc))
   case first => as_aux_lemma =>
    have H := HC20.out
    clear HC20
    replace H := ifN H
    obtain ⟨c52, H⟩ := H
    have c52b0 : (t666 != t671) = false := by simpa using c52
    (try (have c52b1 : decide (t666 = t671) = true := by simpa using c52))
    (try (have c52b2 : (t666 == t671) = true := by simpa using c52))
    clear c52
    (first | rw [c52b0] | (simp only [i64_w, i32_w]; rw [c52b0]) | skip)
    replace H := bnd H
    obtain ⟨t712, A53, H⟩ := H
    (try dsimp only at H)
    replace H := ifP H
    obtain ⟨c54, H⟩ := H
    subst c54
    by_cases c55 : t665 = t670
    · rw [if_pos c55] at H
      have c55b0 : (t665 == t670) = true := beq_iff_eq.mpr c55
      have c55b1 : (t665 != t670) = false := bne_eq_false_iff_eq.mpr c55
      clear c55
      replace H := ifN H
      obtain ⟨c56, H⟩ := H
      have c56b0 : (t675 != t679) = false := by simpa using c56
      (try (have c56b1 : decide (t675 = t679) = true := by simpa using c56))
      (try (have c56b2 : (t675 == t679) = true := by simpa using c56))
      clear c56
      replace H := bnd H
      obtain ⟨t713, A57, H⟩ := H
      (try dsimp only at H)
      replace H := ifP H
      obtain ⟨c58, H⟩ := H
      subst c58
      replace H := ifN H
      obtain ⟨c59, H⟩ := H
      have c59b0 : (t683 != t687) = false := by simpa using c59
      (try (have c59b1 : decide (t683 = t687) = true := by simpa using c59))
      (try (have c59b2 : (t683 == t687) = true := by simpa using c59))
      clear c59
      replace H := bnd H
      obtain ⟨t714, A60, H⟩ := H
      (try dsimp only at H)
      replace H := ifP H
      obtain ⟨c61, H⟩ := H
      subst c61
      replace H := ifN H
      obtain ⟨c62, H⟩ := H
      have c62b0 : (t689 != t691) = false := by simpa using c62
      (try (have c62b1 : decide (t689 = t691) = true := by simpa using c62))
      (try (have c62b2 : (t689 == t691) = true := by simpa using c62))
      clear c62
      replace H := ifN H
      obtain ⟨c63, H⟩ := H
      have c63b0 : (t688 != t690) = false := by simpa using c63
      (try (have c63b1 : decide (t688 = t690) = true := by simpa using c63))
      (try (have c63b2 : (t688 == t690) = true := by simpa using c63))
      clear c63
      replace H := ifN H
      obtain ⟨c64, H⟩ := H
      have c64b0 : (t695 != t699) = false := by simpa using c64
      (try (have c64b1 : decide (t695 = t699) = true := by simpa using c64))
      (try (have c64b2 : (t695 == t699) = true := by simpa using c64))
      clear c64
      replace H := bnd H
      obtain ⟨t715, A65, H⟩ := H
      (try dsimp only at H)
      replace H := ifP H
      obtain ⟨c66, H⟩ := H
      subst c66
      replace H := ifN H
      obtain ⟨c67, H⟩ := H
      have c67b0 : (t703 != t707) = false := by simpa using c67
      (try (have c67b1 : decide (t703 = t707) = true := by simpa using c67))
      (try (have c67b2 : (t703 == t707) = true := by simpa using c67))
      clear c67
      replace H := bnd H
      obtain ⟨t716, A68, H⟩ := H
      (try dsimp only at H)
      replace H := ifP H
      obtain ⟨c69, H⟩ := H
      subst c69
      replace H := ifN H
      obtain ⟨c70, H⟩ := H
      have c70b0 : (t709 != t711) = false := by simpa using c70
      (try (have c70b1 : decide (t709 = t711) = true := by simpa using c70))
      (try (have c70b2 : (t709 == t711) = true := by simpa using c70))
      clear c70
      by_cases c71 : t708 = t710
      · rw [if_pos c71] at H
        have c71b0 : (t708 == t710) = true := beq_iff_eq.mpr c71
        have c71b1 : (t708 != t710) = false := bne_eq_false_iff_eq.mpr c71
        clear c71
        replace H := bnd H
        obtain ⟨t717, A72, H⟩ := H
        (try dsimp only at H)
        replace H := ifN H
        obtain ⟨c73, H⟩ := H
        have c73b0 : (t683 != t717) = false := by simpa using c73
        (try (have c73b1 : decide (t683 = t717) = true := by simpa using c73))
        (try (have c73b2 : (t683 == t717) = true := by simpa using c73))
        clear c73
        replace H := bnd H
        obtain ⟨t718, A74, H⟩ := H
        (try dsimp only at H)
        replace H := bnd H
        obtain ⟨t719, A75, H⟩ := H
        (try dsimp only at H)
        replace H := ifN H
        obtain ⟨c76, H⟩ := H
        have c76b0 : (t718 != t719) = false := by simpa using c76
        (try (have c76b1 : decide (t718 = t719) = true := by simpa using c76))
        (try (have c76b2 : (t718 == t719) = true := by simpa using c76))
        clear c76
        replace H := ifN H
        obtain ⟨c77, H⟩ := H
        have c77b0 : (t689 != t683) = false := by simpa using c77
        (try (have c77b1 : decide (t689 = t683) = true := by simpa using c77))
        (try (have c77b2 : (t689 == t683) = true := by simpa using c77))
        clear c77
        replace H := ifN H
        obtain ⟨c78, H⟩ := H
        have c78b0 : (t695 != t683) = false := by simpa using c78
        (try (have c78b1 : decide (t695 = t683) = true := by simpa using c78))
        (try (have c78b2 : (t695 == t683) = true := by simpa using c78))
        clear c78
        replace H := ifN H
        obtain ⟨c79, H⟩ := H
        have c79b0 : (t703 != t683) = false := by simpa using c79
        (try (have c79b1 : decide (t703 = t683) = true := by simpa using c79))
        (try (have c79b2 : (t703 == t683) = true := by simpa using c79))
        clear c79
        try go_wp2
        replace HO658 := am (Kd.S_drew HO658.out)
        replace HO664 := am (Kd.R_drew HO664.out)
        replace HO669 := am (Kd.R_drew HO669.out)
        replace HO674 := am (Kd.R_drew HO674.out)
        replace HO678 := am (Kd.R_drew HO678.out)
        replace HO682 := am (Kd.S_drew HO682.out)
        replace HO686 := am (Kd.S_drew HO686.out)
        replace HO694 := am (Kd.R_drew HO694.out)
        replace HO698 := am (Kd.R_drew HO698.out)
        replace HO702 := am (Kd.R_drew HO702.out)
        replace HO706 := am (Kd.R_drew HO706.out)
        replace BK661 := am (blk_drew BK661.out)
        replace HB := am (below_drew1 HB.out)
        obtain ⟨Ao85, co85, eo85⟩ := Kd.R_slice HO664.out
        (first | subst eo85 | (injection eo85 with f1_ f2_ f3_; have f4_ := f1_.symm; have f5_ := f3_.symm; clear f1_ f2_ f3_; subst f4_; subst f5_))
        obtain ⟨Ao86, co86, eo86⟩ := Kd.R_slice HO669.out
        (first | subst eo86 | (injection eo86 with f1_ f2_ f3_; have f4_ := f1_.symm; have f5_ := f3_.symm; clear f1_ f2_ f3_; subst f4_; subst f5_))
        refine start_ (n := 127) (S := fun w' => w'.cell? ⟨gb661, 0, none⟩ = some (.int .i64 t655) ∧ w'.cell? ⟨gb661, 1, none⟩ = some (.slice Ao24 t656.length co24)) (ds := []) (bs [0, 127]) (by kernel_rfl) rfl rfl ⟨(blk_cell BK661.out 0).trans rfl, (blk_cell BK661.out 1).trans rfl⟩ (fun hHeld => ?_); refine with_tabW laws_FnStatesStep.tab18 laws_FnStatesStep.bits18 (fun HT_ HW_ => ?_)
        generalize w51.drew = w84 at HO658 HO664 HO669 HO674 HO678 HO682 HO686 HO694 HO698 HO702 HO706 BK661 HB hHeld ⊢
        refine pS 0 (some 162) (bs [1, 126]) ?_
        refine pS 1 (some 163) (bs [2, 125]) ?_
        refine pS 2 (some 164) (bs [3, 124]) ?_
        refine pS 3 (some 165) (bs [4, 123]) ?_
        refine pS 4 (some 166) (bs [5, 122]) ?_
        refine pS 5 (some 167) (bs [6, 121]) ?_
        refine oS 6 (some 168) (bs [7, 120]) (fun K hK => ?_)
        refine goes_ Try.func20 (by kernel_rfl) rfl #[.slice Ao85 t662.length co85, .slice Ao86 t667.length co86] (by rfl) rfl rfl aM ?_
        with_reducible refine (laws_uSame.calls k _ _ t662 _ _ t667 true _ ?side1 (Kd.R_reads' HO664.out).2.1 ?side3 (Kd.R_reads' HO669.out).2.1 A53.out).mono ?_
        (case side1 => exact cB (Kd.R_reads' HO664.out).2.2)
        (case side3 => exact cB (Kd.R_reads' HO669.out).2.2)
        rintro e w' ⟨rfl, ⟨nd, rfl⟩⟩
        refine ⟨_, rfl, ?_⟩
        obtain ⟨Ao87, co87, eo87⟩ := Kd.R_slice HO674.out
        (first | subst eo87 | (injection eo87 with f1_ f2_ f3_; have f4_ := f1_.symm; have f5_ := f3_.symm; clear f1_ f2_ f3_; subst f4_; subst f5_))
        obtain ⟨Ao88, co88, eo88⟩ := Kd.R_slice HO678.out
        (first | subst eo88 | (injection eo88 with f1_ f2_ f3_; have f4_ := f1_.symm; have f5_ := f3_.symm; clear f1_ f2_ f3_; subst f4_; subst f5_))
        refine hK.out _ _ ⟨(blk_cell BK661.out 0).trans rfl, (blk_cell BK661.out 1).trans rfl⟩ (fun hHeld => ?_)
        clear hK K
        refine nS 168 ?_
        refine pS 7 (some 169) (bs [8, 119]) ?_
        refine pS 8 (some 170) (bs [9, 118]) ?_
        refine pS 9 (some 171) (bs [10, 117]) ?_
        refine pS 10 (some 172) (bs [11, 116]) ?_
        refine pS 11 (some 173) (bs [12, 115]) ?_
        refine pS 12 (some 174) (bs [13, 114]) ?_
        refine pS 13 (some 175) (bs [14, 113]) ?_
        refine pS 14 (some 176) (bs [15, 112]) ?_
        refine pS 15 (some 177) (bs [16, 111]) ?_
        refine pS 16 (some 178) (bs [17, 110]) ?_
        refine pS 17 (some 179) (bs [18, 109]) ?_
        refine pS 18 (some 180) (bs [19, 108]) ?_
        refine pS 19 (some 181) (bs [20, 107]) ?_
        refine pS 20 (some 182) (bs [21, 106]) ?_
        refine pS 21 (some 183) (bs [22, 105]) ?_
        refine oS 22 (some 184) (bs [23, 104]) (fun K hK => ?_)
        refine goes_ Try.func20 (by kernel_rfl) rfl #[.slice Ao87 t672.length co87, .slice Ao88 t676.length co88] (by rfl) rfl rfl aM ?_
        with_reducible refine (laws_uSame.calls k _ _ t672 _ _ t676 true _ ?side1 (Kd.R_reads' HO674.out).2.1 ?side3 (Kd.R_reads' HO678.out).2.1 A57.out).mono ?_
        (case side1 => exact cB (Kd.R_reads' HO674.out).2.2)
        (case side3 => exact cB (Kd.R_reads' HO678.out).2.2)
        rintro e w' ⟨rfl, ⟨nd, rfl⟩⟩
        refine ⟨_, rfl, ?_⟩
        obtain ⟨Ao89, co89, eo89⟩ := Kd.S_slice HO682.out
        (first | subst eo89 | (injection eo89 with f1_ f2_ f3_; have f4_ := f1_.symm; have f5_ := f3_.symm; clear f1_ f2_ f3_; subst f4_; subst f5_))
        obtain ⟨Ao90, co90, eo90⟩ := Kd.S_slice HO686.out
        (first | subst eo90 | (injection eo90 with f1_ f2_ f3_; have f4_ := f1_.symm; have f5_ := f3_.symm; clear f1_ f2_ f3_; subst f4_; subst f5_))
        refine hK.out _ _ ⟨(blk_cell BK661.out 0).trans rfl, (blk_cell BK661.out 1).trans rfl⟩ (fun hHeld => ?_)
        clear hK K
        refine nS 184 ?_
        refine pS 23 (some 185) (bs [24, 103]) ?_
        refine pS 24 (some 186) (bs [25, 102]) ?_
        refine pS 25 (some 187) (bs [26, 101]) ?_
        refine pS 26 (some 188) (bs [27, 100]) ?_
        refine pS 27 (some 189) (bs [28, 99]) ?_
        refine pS 28 (some 190) (bs [29, 98]) ?_
        refine pS 29 (some 191) (bs [30, 97]) ?_
        refine pS 30 (some 192) (bs [31, 96]) ?_
        refine pS 31 (some 193) (bs [32, 95]) ?_
        refine pS 32 (some 194) (bs [33, 94]) ?_
        refine oS 33 (some 195) (bs [34, 93]) (fun K hK => ?_)
        refine goes_ Try.func21 (by kernel_rfl) rfl #[.slice Ao89 t680.length co89, .slice Ao90 t684.length co90] (by rfl) rfl rfl aM ?_
        with_reducible refine (laws_uRows.calls k _ _ t680 _ _ t684 true _ ?side1 (Kd.S_reads' HO682.out).2.1 ?side3 (Kd.S_reads' HO686.out).2.1 A60.out).mono ?_
        (case side1 => exact cB (Kd.S_reads' HO682.out).2.2)
        (case side3 => exact cB (Kd.S_reads' HO686.out).2.2)
        rintro e w' ⟨rfl, ⟨nd, rfl⟩⟩
        refine ⟨_, rfl, ?_⟩
        obtain ⟨Ao91, co91, eo91⟩ := Kd.R_slice HO694.out
        (first | subst eo91 | (injection eo91 with f1_ f2_ f3_; have f4_ := f1_.symm; have f5_ := f3_.symm; clear f1_ f2_ f3_; subst f4_; subst f5_))
        obtain ⟨Ao92, co92, eo92⟩ := Kd.R_slice HO698.out
        (first | subst eo92 | (injection eo92 with f1_ f2_ f3_; have f4_ := f1_.symm; have f5_ := f3_.symm; clear f1_ f2_ f3_; subst f4_; subst f5_))
        refine hK.out _ _ ⟨(blk_cell BK661.out 0).trans rfl, (blk_cell BK661.out 1).trans rfl⟩ (fun hHeld => ?_)
        clear hK K
        refine nS 195 ?_
        refine pS 34 (some 196) (bs [35, 92]) ?_
        refine pS 35 (some 197) (bs [36, 91]) ?_
        refine pS 36 (some 198) (bs [37, 90]) ?_
        refine pS 37 (some 199) (bs [38, 89]) ?_
        refine pS 38 (some 200) (bs [39, 88]) ?_
        refine pS 39 (some 201) (bs [40, 87]) ?_
        refine pS 40 (some 202) (bs [41, 86]) ?_
        refine pS 41 (some 203) (bs [42, 85]) ?_
        refine pS 42 (some 204) (bs [43, 84]) ?_
        refine pS 43 (some 205) (bs [44, 83]) ?_
        refine pS 44 (some 206) (bs [45, 82]) ?_
        refine pS 45 (some 207) (bs [46, 81]) ?_
        refine pS 46 (some 208) (bs [47, 80]) ?_
        refine pS 47 (some 209) (bs [48, 79]) ?_
        refine pS 48 (some 210) (bs [49, 78]) ?_
        refine pS 49 (some 211) (bs [50, 77]) ?_
        refine pS 50 (some 212) (bs [51, 76]) ?_
        refine pS 51 (some 213) (bs [52, 75]) ?_
        refine pS 52 (some 214) (bs [53, 74]) ?_
        refine pS 53 (some 215) (bs [54, 73]) ?_
        refine oS 54 (some 216) (bs [55, 72]) (fun K hK => ?_)
        refine goes_ Try.func20 (by kernel_rfl) rfl #[.slice Ao91 t692.length co91, .slice Ao92 t696.length co92] (by rfl) rfl rfl aM ?_
        with_reducible refine (laws_uSame.calls k _ _ t692 _ _ t696 true _ ?side1 (Kd.R_reads' HO694.out).2.1 ?side3 (Kd.R_reads' HO698.out).2.1 A65.out).mono ?_
        (case side1 => exact cB (Kd.R_reads' HO694.out).2.2)
        (case side3 => exact cB (Kd.R_reads' HO698.out).2.2)
        rintro e w' ⟨rfl, ⟨nd, rfl⟩⟩
        refine ⟨_, rfl, ?_⟩
        obtain ⟨Ao93, co93, eo93⟩ := Kd.R_slice HO702.out
        (first | subst eo93 | (injection eo93 with f1_ f2_ f3_; have f4_ := f1_.symm; have f5_ := f3_.symm; clear f1_ f2_ f3_; subst f4_; subst f5_))
        obtain ⟨Ao94, co94, eo94⟩ := Kd.R_slice HO706.out
        (first | subst eo94 | (injection eo94 with f1_ f2_ f3_; have f4_ := f1_.symm; have f5_ := f3_.symm; clear f1_ f2_ f3_; subst f4_; subst f5_))
        refine hK.out _ _ ⟨(blk_cell BK661.out 0).trans rfl, (blk_cell BK661.out 1).trans rfl⟩ (fun hHeld => ?_)
        clear hK K
        refine nS 216 ?_
        refine pS 55 (some 217) (bs [56, 71]) ?_
        refine pS 56 (some 218) (bs [57, 70]) ?_
        refine pS 57 (some 219) (bs [58, 69]) ?_
        refine pS 58 (some 220) (bs [59, 68]) ?_
        refine pS 59 (some 221) (bs [60, 67]) ?_
        refine pS 60 (some 222) (bs [61, 66]) ?_
        refine pS 61 (some 223) (bs [62, 65]) ?_
        refine pS 62 (some 224) (bs [63, 64]) ?_
        refine pS 63 (some 225) (bs [64, 63]) ?_
        refine pS 64 (some 226) (bs [65, 62]) ?_
        refine oS 65 (some 227) (bs [66, 61]) (fun K hK => ?_)
        refine goes_ Try.func20 (by kernel_rfl) rfl #[.slice Ao93 t700.length co93, .slice Ao94 t704.length co94] (by rfl) rfl rfl aM ?_
        with_reducible refine (laws_uSame.calls k _ _ t700 _ _ t704 true _ ?side1 (Kd.R_reads' HO702.out).2.1 ?side3 (Kd.R_reads' HO706.out).2.1 A68.out).mono ?_
        (case side1 => exact cB (Kd.R_reads' HO702.out).2.2)
        (case side3 => exact cB (Kd.R_reads' HO706.out).2.2)
        rintro e w' ⟨rfl, ⟨nd, rfl⟩⟩
        refine ⟨_, rfl, ?_⟩
        refine hK.out _ _ ⟨(blk_cell BK661.out 0).trans rfl, (blk_cell BK661.out 1).trans rfl⟩ (fun hHeld => ?_)
        clear hK K
        refine nS 227 ?_
        refine pS 66 (some 228) (bs [67, 60]) ?_
        refine pS 67 (some 229) (bs [68, 59]) ?_
        refine pS 68 (some 230) (bs [69, 58]) ?_
        refine pS 69 (some 231) (bs [70, 57]) ?_
        refine pS 70 (some 232) (bs [71, 56]) ?_
        refine pS 71 (some 233) (bs [72, 55]) ?_
        refine pS 72 (some 234) (bs [73, 54]) ?_
        refine pS 73 (some 235) (bs [74, 53]) ?_
        refine pS 74 (some 236) (bs [75, 52]) ?_
        refine pS 75 (some 237) (bs [76, 51]) ?_
        refine pS 76 (some 238) (bs [77, 50]) ?_
        refine pS 77 (some 239) (bs [78, 49]) ?_
        refine pS 78 (some 240) (bs [79, 48]) ?_
        refine pS 79 (some 241) (bs [80, 47]) ?_
        refine tS 80 (some 242) (bs [81, 46]) ?_
        refine oS 81 (some 243) (bs [82, 45]) (fun K hK => ?_)
        refine goes_ Try.func22 (by kernel_rfl) rfl #[.agg #[.int .i64 t655, .slice Ao24 t656.length co24]] (by rfl) rfl rfl aM ?_
        with_reducible refine (impl_AreStates.calls k t655 _ _ t656 t717 _ ?side1 (Kd.S_reads' HO658.out).2.1 A72.out).mono ?_
        (case side1 => exact cB (Kd.S_reads' HO658.out).2.2)
        rintro e w95 ⟨rfl, hb⟩
        refine ⟨_, rfl, ?_⟩
        replace HO658 := lS HO658 hb
        replace HO664 := lR HO664 hb
        replace HO669 := lR HO669 hb
        replace HO674 := lR HO674 hb
        replace HO678 := lR HO678 hb
        replace HO682 := lS HO682 hb
        replace HO686 := lS HO686 hb
        replace HO694 := lR HO694 hb
        replace HO698 := lR HO698 hb
        replace HO702 := lR HO702 hb
        replace HO706 := lR HO706 hb
        replace BK661 := kb BK661 hb
        replace HB := sB hb
        (try clear hb)
        (try clear hb2)
        (try clear hk)
        (try clear hi)
        refine hK.out _ _ ⟨(blk_cell BK661.out 0).trans rfl, (blk_cell BK661.out 1).trans rfl⟩ (fun hHeld => ?_)
        clear hK K
        refine nS 243 ?_
        refine pS 82 (some 244) (bs [83, 44]) ?_
        refine pS 83 (some 245) (bs [84, 43]) ?_
        refine pS 84 (some 246) (bs [85, 42]) ?_
        refine tS 85 (some 247) (bs [86, 41]) ?_
        refine tS 87 (some 249) (bs [86, 1, 1, 39]) ?_
        refine oS 86 (some 248) (bs [88, 39]) (fun K hK => ?_)
        refine goes_ Try.func22 (by kernel_rfl) rfl #[.agg #[.int .i64 t655, .slice Ao24 t656.length co24]] (by rfl) rfl rfl aM ?_
        with_reducible refine (impl_AreStates.calls k t655 _ _ t656 t718 _ ?side1 (Kd.S_reads' HO658.out).2.1 A74.out).mono ?_
        (case side1 => exact cB (Kd.S_reads' HO658.out).2.2)
        rintro e w96 ⟨rfl, hb⟩
        refine ⟨_, rfl, ?_⟩
        replace HO658 := lS HO658 hb
        replace HO664 := lR HO664 hb
        replace HO669 := lR HO669 hb
        replace HO674 := lR HO674 hb
        replace HO678 := lR HO678 hb
        replace HO682 := lS HO682 hb
        replace HO686 := lS HO686 hb
        replace HO694 := lR HO694 hb
        replace HO698 := lR HO698 hb
        replace HO702 := lR HO702 hb
        replace HO706 := lR HO706 hb
        replace BK661 := kb BK661 hb
        replace HB := sB hb
        (try clear hb)
        (try clear hb2)
        (try clear hk)
        (try clear hi)
        refine hK.out _ _ ⟨(blk_cell BK661.out 0).trans rfl, (blk_cell BK661.out 1).trans rfl⟩ (fun hHeld => ?_)
        clear hK K
        refine nS 248 ?_
        refine oS 88 (some 250) (bs [89, 38]) (fun K hK => ?_)
        refine goes_ Try.func23 (by kernel_rfl) rfl #[.agg #[.int .i64 t655, .slice Ao24 t656.length co24]] (by rfl) rfl rfl aM ?_
        with_reducible refine (spec_AreStates.calls k t655 _ _ t656 t719 _ ?side1 (Kd.S_reads' HO658.out).2.1 A75.out).mono ?_
        (case side1 => exact cB (Kd.S_reads' HO658.out).2.2)
        rintro e w97 ⟨rfl, hb⟩
        refine ⟨_, rfl, ?_⟩
        replace HO658 := lS HO658 hb
        replace HO664 := lR HO664 hb
        replace HO669 := lR HO669 hb
        replace HO674 := lR HO674 hb
        replace HO678 := lR HO678 hb
        replace HO682 := lS HO682 hb
        replace HO686 := lS HO686 hb
        replace HO694 := lR HO694 hb
        replace HO698 := lR HO698 hb
        replace HO702 := lR HO702 hb
        replace HO706 := lR HO706 hb
        replace BK661 := kb BK661 hb
        replace HB := sB hb
        (try clear hb)
        (try clear hb2)
        (try clear hk)
        (try clear hi)
        refine hK.out _ _ ⟨(blk_cell BK661.out 0).trans rfl, (blk_cell BK661.out 1).trans rfl⟩ (fun hHeld => ?_)
        clear hK K
        refine nS 250 ?_
        refine pS 89 (some 251) (bs [90, 37]) ?_
        refine pS 90 (some 252) (bs [91, 36]) ?_
        refine pS 91 (some 253) (bs [92, 35]) ?_
        refine pS 92 (some 254) (bs [93, 34]) ?_
        refine pS 93 (some 255) (bs [94, 33]) ?_
        refine pS 94 (some 256) (bs [95, 32]) ?_
        refine pS 95 (some 257) (bs [96, 31]) ?_
        refine pS 96 (some 258) (bs [97, 30]) ?_
        refine pS 97 (some 259) (bs [98, 29]) ?_
        refine pS 98 (some 260) (bs [99, 28]) ?_
        refine pS 99 (some 261) (bs [100, 27]) ?_
        refine pS 100 (some 262) (bs [101, 26]) ?_
        refine pS 101 (some 263) (bs [102, 25]) ?_
        refine pS 102 (some 264) (bs [103, 24]) ?_
        refine pS 103 (some 265) (bs [104, 23]) ?_
        refine pS 104 (some 266) (bs [105, 22]) ?_
        refine pS 105 (some 267) (bs [106, 21]) ?_
        refine pS 106 (some 268) (bs [107, 20]) ?_
        refine pS 107 (some 269) (bs [108, 19]) ?_
        refine pS 108 (some 270) (bs [109, 18]) ?_
        by_cases c80 : t666 = true
        · subst c80
          replace H := ifT H
          replace H := ifP H
          obtain ⟨c81, H⟩ := H
          subst c81
          replace H := ifP H
          obtain ⟨c82, H⟩ := H
          subst c82
          by_cases c83 : t709 = true
          · subst c83
            replace H := ifT H
            have H' := am H
            clear H
            refine pS 109 (some 271) (bs [110, 17]) ?_
            refine pS 110 (some 272) (bs [111, 16]) ?_
            refine pS 111 (some 273) (bs [112, 15]) ?_
            refine pS 112 (some 274) (bs [113, 14]) ?_
            refine pS 113 (some 275) (bs [114, 13]) ?_
            refine pS 114 (some 276) (bs [115, 12]) ?_
            refine pS 115 (some 277) (bs [116, 11]) ?_
            refine pS 116 (some 278) (bs [117, 10]) ?_
            refine pS 117 (some 279) (bs [118, 9]) ?_
            refine pS 118 (some 280) (bs [119, 8]) ?_
            refine pS 119 (some 281) (bs [120, 7]) ?_
            refine pS 120 (some 282) (bs [121, 6]) ?_
            refine pS 121 (some 283) (bs [122, 5]) ?_
            refine pS 122 (some 284) (bs [123, 4]) ?_
            refine pS 123 (some 285) (bs [124, 3]) ?_
            refine pS 124 (some 286) (bs [125, 2]) ?_
            refine pS 125 (some 287) (bs [126, 1]) ?_
            refine pS 126 (some 288) (bs [127]) ?_
            refine done_ (done_of HT_.out (by kernel_rfl)) ?_
            try go_wp2
            go_meet
            case rel => exact ⟨_, (false), sR, H', ⟨by first | omega | exact Nat.le_refl _⟩, ⟨by (with_reducible repeat (first | apply Kd.R_alloc | apply Kd.R_drewN | apply Kd.R_drew)); exact Kd.R_mono HO664.out (fun _ hk => ⟨hk.1.1.1.1.1.2, ⟨hk.1.1.1.2, hk.1.2⟩⟩)⟩, ⟨by (with_reducible repeat (first | apply Kd.R_alloc | apply Kd.R_drewN | apply Kd.R_drew)); exact Kd.R_mono HO674.out (fun _ hk => ⟨hk.1.1.1.1.1.1.2, ⟨hk.1.1.1.2, hk.1.2⟩⟩)⟩, ⟨by (with_reducible repeat (first | apply Kd.S_alloc | apply Kd.S_drewN | apply Kd.S_drew)); exact Kd.S_mono HO682.out (fun _ hk => ⟨hk.1.1.1.1.1.1.1.1.1.2, ⟨hk.1.1.1.1.1.1.1.2, ⟨hk.1.1.1.2, ⟨hk.1.2, hk.1.1.1.1.1.1.1.1.1.1.2⟩⟩⟩⟩)⟩, ⟨by (with_reducible repeat (first | apply Kd.R_alloc | apply Kd.R_drewN | apply Kd.R_drew)); exact Kd.R_mono HO694.out (fun _ hk => ⟨hk.1.1.1.1.1.1.2, ⟨hk.1.1.1.1.2, hk.1.2⟩⟩)⟩, ⟨by (with_reducible repeat (first | apply Kd.R_alloc | apply Kd.R_drewN | apply Kd.R_drew)); exact Kd.R_mono HO702.out (fun _ hk => ⟨hk.1.1.1.1.1.1.2, ⟨hk.1.1.1.1.2, hk.1.1.2⟩⟩)⟩, ⟨by (with_reducible repeat (first | apply Kd.S_alloc | apply Kd.S_drewN | apply Kd.S_drew)); exact Kd.S_mono HO658.out (fun _ hk => ⟨hk.1.1.1.1.1.1.1.1.1.1.1.2, ⟨hk.1.1.1.1.1.1.1.1.1.2, ⟨hk.1.1.1.1.1.1.1.2, ⟨hk.1.1.1.2, hk.1.2⟩⟩⟩⟩)⟩, ⟨bP BK661⟩, ⟨bB⟩⟩
          · replace c83 := Bool.eq_false_iff.mpr c83
            subst c83
            replace H := ifF H
            have H' := am H
            clear H
            refine pS 109 (some 271) (bs [110, 17]) ?_
            refine pS 110 (some 272) (bs [111, 16]) ?_
            refine pS 111 (some 273) (bs [112, 15]) ?_
            refine pS 112 (some 274) (bs [113, 14]) ?_
            refine pS 113 (some 275) (bs [114, 13]) ?_
            refine pS 114 (some 276) (bs [115, 12]) ?_
            refine pS 115 (some 277) (bs [116, 11]) ?_
            refine pS 116 (some 278) (bs [117, 10]) ?_
            refine pS 117 (some 279) (bs [118, 9]) ?_
            refine pS 118 (some 280) (bs [119, 8]) ?_
            refine pS 119 (some 281) (bs [120, 7]) ?_
            refine pS 120 (some 282) (bs [121, 6]) ?_
            refine pS 121 (some 283) (bs [122, 5]) ?_
            refine pS 122 (some 284) (bs [123, 4]) ?_
            refine pU 123 (some 285) (bs [124, 3]) ?_
            refine pU 124 (some 286) (bs [125, 2]) ?_
            refine pS 125 (some 287) (bs [126, 1]) ?_
            refine pS 126 (some 288) (bs [127]) ?_
            refine done_ (done_of HT_.out (by kernel_rfl)) ?_
            try go_wp2
            go_meet
            case rel => exact ⟨_, (false), sR, H', ⟨by first | omega | exact Nat.le_refl _⟩, ⟨by (with_reducible repeat (first | apply Kd.R_alloc | apply Kd.R_drewN | apply Kd.R_drew)); exact Kd.R_mono HO664.out (fun _ hk => ⟨hk.1.1.1.1.1.2, ⟨hk.1.1.1.2, hk.1.2⟩⟩)⟩, ⟨by (with_reducible repeat (first | apply Kd.R_alloc | apply Kd.R_drewN | apply Kd.R_drew)); exact Kd.R_mono HO674.out (fun _ hk => ⟨hk.1.1.1.1.1.1.2, ⟨hk.1.1.1.2, hk.1.2⟩⟩)⟩, ⟨by (with_reducible repeat (first | apply Kd.S_alloc | apply Kd.S_drewN | apply Kd.S_drew)); exact Kd.S_mono HO682.out (fun _ hk => ⟨hk.1.1.1.1.1.1.1.1.1.2, ⟨hk.1.1.1.1.1.1.1.2, ⟨hk.1.1.1.2, ⟨hk.1.2, hk.1.1.1.1.1.1.1.1.1.1.2⟩⟩⟩⟩)⟩, ⟨by (with_reducible repeat (first | apply Kd.R_alloc | apply Kd.R_drewN | apply Kd.R_drew)); exact Kd.R_mono HO694.out (fun _ hk => ⟨hk.1.1.1.1.1.1.2, ⟨hk.1.1.1.1.2, hk.1.2⟩⟩)⟩, ⟨by (with_reducible repeat (first | apply Kd.R_alloc | apply Kd.R_drewN | apply Kd.R_drew)); exact Kd.R_mono HO702.out (fun _ hk => ⟨hk.1.1.1.1.1.1.2, ⟨hk.1.1.1.1.2, hk.1.1.2⟩⟩)⟩, ⟨by (with_reducible repeat (first | apply Kd.S_alloc | apply Kd.S_drewN | apply Kd.S_drew)); exact Kd.S_mono HO658.out (fun _ hk => ⟨hk.1.1.1.1.1.1.1.1.1.1.1.2, ⟨hk.1.1.1.1.1.1.1.1.1.2, ⟨hk.1.1.1.1.1.1.1.2, ⟨hk.1.1.1.2, hk.1.2⟩⟩⟩⟩)⟩, ⟨bP BK661⟩, ⟨bB⟩⟩
        · replace c80 := Bool.eq_false_iff.mpr c80
          subst c80
          replace H := ifF H
          by_cases c112 : t675 = true
          · subst c112
            replace H := ifT H
            replace H := ifP H
            obtain ⟨c113, H⟩ := H
            subst c113
            by_cases c114 : t709 = true
            · subst c114
              replace H := ifT H
              have H' := am H
              clear H
              refine pU 109 (some 271) (bs [110, 17]) ?_
              refine pU 110 (some 272) (bs [111, 16]) ?_
              refine pS 111 (some 273) (bs [112, 15]) ?_
              refine pS 112 (some 274) (bs [113, 14]) ?_
              refine pS 113 (some 275) (bs [114, 13]) ?_
              refine pS 114 (some 276) (bs [115, 12]) ?_
              refine pS 115 (some 277) (bs [116, 11]) ?_
              refine pS 116 (some 278) (bs [117, 10]) ?_
              refine pS 117 (some 279) (bs [118, 9]) ?_
              refine pS 118 (some 280) (bs [119, 8]) ?_
              refine pS 119 (some 281) (bs [120, 7]) ?_
              refine pS 120 (some 282) (bs [121, 6]) ?_
              refine pS 121 (some 283) (bs [122, 5]) ?_
              refine pS 122 (some 284) (bs [123, 4]) ?_
              refine pS 123 (some 285) (bs [124, 3]) ?_
              refine pS 124 (some 286) (bs [125, 2]) ?_
              refine pS 125 (some 287) (bs [126, 1]) ?_
              refine pS 126 (some 288) (bs [127]) ?_
              refine done_ (done_of HT_.out (by kernel_rfl)) ?_
              try go_wp2
              go_meet
              case rel => exact ⟨_, (false), sR, H', ⟨by first | omega | exact Nat.le_refl _⟩, ⟨by (with_reducible repeat (first | apply Kd.R_alloc | apply Kd.R_drewN | apply Kd.R_drew)); exact Kd.R_mono HO664.out (fun _ hk => ⟨hk.1.1.1.1.1.2, ⟨hk.1.1.1.2, hk.1.2⟩⟩)⟩, ⟨by (with_reducible repeat (first | apply Kd.R_alloc | apply Kd.R_drewN | apply Kd.R_drew)); exact Kd.R_mono HO674.out (fun _ hk => ⟨hk.1.1.1.1.1.1.2, ⟨hk.1.1.1.2, hk.1.2⟩⟩)⟩, ⟨by (with_reducible repeat (first | apply Kd.S_alloc | apply Kd.S_drewN | apply Kd.S_drew)); exact Kd.S_mono HO682.out (fun _ hk => ⟨hk.1.1.1.1.1.1.1.1.1.2, ⟨hk.1.1.1.1.1.1.1.2, ⟨hk.1.1.1.2, ⟨hk.1.2, hk.1.1.1.1.1.1.1.1.1.1.2⟩⟩⟩⟩)⟩, ⟨by (with_reducible repeat (first | apply Kd.R_alloc | apply Kd.R_drewN | apply Kd.R_drew)); exact Kd.R_mono HO694.out (fun _ hk => ⟨hk.1.1.1.1.1.1.2, ⟨hk.1.1.1.1.2, hk.1.2⟩⟩)⟩, ⟨by (with_reducible repeat (first | apply Kd.R_alloc | apply Kd.R_drewN | apply Kd.R_drew)); exact Kd.R_mono HO702.out (fun _ hk => ⟨hk.1.1.1.1.1.1.2, ⟨hk.1.1.1.1.2, hk.1.1.2⟩⟩)⟩, ⟨by (with_reducible repeat (first | apply Kd.S_alloc | apply Kd.S_drewN | apply Kd.S_drew)); exact Kd.S_mono HO658.out (fun _ hk => ⟨hk.1.1.1.1.1.1.1.1.1.1.1.2, ⟨hk.1.1.1.1.1.1.1.1.1.2, ⟨hk.1.1.1.1.1.1.1.2, ⟨hk.1.1.1.2, hk.1.2⟩⟩⟩⟩)⟩, ⟨bP BK661⟩, ⟨bB⟩⟩
            · replace c114 := Bool.eq_false_iff.mpr c114
              subst c114
              replace H := ifF H
              have H' := am H
              clear H
              refine pU 109 (some 271) (bs [110, 17]) ?_
              refine pU 110 (some 272) (bs [111, 16]) ?_
              refine pS 111 (some 273) (bs [112, 15]) ?_
              refine pS 112 (some 274) (bs [113, 14]) ?_
              refine pS 113 (some 275) (bs [114, 13]) ?_
              refine pS 114 (some 276) (bs [115, 12]) ?_
              refine pS 115 (some 277) (bs [116, 11]) ?_
              refine pS 116 (some 278) (bs [117, 10]) ?_
              refine pS 117 (some 279) (bs [118, 9]) ?_
              refine pS 118 (some 280) (bs [119, 8]) ?_
              refine pS 119 (some 281) (bs [120, 7]) ?_
              refine pS 120 (some 282) (bs [121, 6]) ?_
              refine pS 121 (some 283) (bs [122, 5]) ?_
              refine pS 122 (some 284) (bs [123, 4]) ?_
              refine pU 123 (some 285) (bs [124, 3]) ?_
              refine pU 124 (some 286) (bs [125, 2]) ?_
              refine pS 125 (some 287) (bs [126, 1]) ?_
              refine pS 126 (some 288) (bs [127]) ?_
              refine done_ (done_of HT_.out (by kernel_rfl)) ?_
              try go_wp2
              go_meet
              case rel => exact ⟨_, (false), sR, H', ⟨by first | omega | exact Nat.le_refl _⟩, ⟨by (with_reducible repeat (first | apply Kd.R_alloc | apply Kd.R_drewN | apply Kd.R_drew)); exact Kd.R_mono HO664.out (fun _ hk => ⟨hk.1.1.1.1.1.2, ⟨hk.1.1.1.2, hk.1.2⟩⟩)⟩, ⟨by (with_reducible repeat (first | apply Kd.R_alloc | apply Kd.R_drewN | apply Kd.R_drew)); exact Kd.R_mono HO674.out (fun _ hk => ⟨hk.1.1.1.1.1.1.2, ⟨hk.1.1.1.2, hk.1.2⟩⟩)⟩, ⟨by (with_reducible repeat (first | apply Kd.S_alloc | apply Kd.S_drewN | apply Kd.S_drew)); exact Kd.S_mono HO682.out (fun _ hk => ⟨hk.1.1.1.1.1.1.1.1.1.2, ⟨hk.1.1.1.1.1.1.1.2, ⟨hk.1.1.1.2, ⟨hk.1.2, hk.1.1.1.1.1.1.1.1.1.1.2⟩⟩⟩⟩)⟩, ⟨by (with_reducible repeat (first | apply Kd.R_alloc | apply Kd.R_drewN | apply Kd.R_drew)); exact Kd.R_mono HO694.out (fun _ hk => ⟨hk.1.1.1.1.1.1.2, ⟨hk.1.1.1.1.2, hk.1.2⟩⟩)⟩, ⟨by (with_reducible repeat (first | apply Kd.R_alloc | apply Kd.R_drewN | apply Kd.R_drew)); exact Kd.R_mono HO702.out (fun _ hk => ⟨hk.1.1.1.1.1.1.2, ⟨hk.1.1.1.1.2, hk.1.1.2⟩⟩)⟩, ⟨by (with_reducible repeat (first | apply Kd.S_alloc | apply Kd.S_drewN | apply Kd.S_drew)); exact Kd.S_mono HO658.out (fun _ hk => ⟨hk.1.1.1.1.1.1.1.1.1.1.1.2, ⟨hk.1.1.1.1.1.1.1.1.1.2, ⟨hk.1.1.1.1.1.1.1.2, ⟨hk.1.1.1.2, hk.1.2⟩⟩⟩⟩)⟩, ⟨bP BK661⟩, ⟨bB⟩⟩
          · replace c112 := Bool.eq_false_iff.mpr c112
            subst c112
            replace H := ifF H
            replace H := ifN H
            obtain ⟨c143, H⟩ := H
            replace c143 := Bool.eq_false_iff.mpr c143
            subst c143
            have H' := am H
            clear H
            refine pU 109 (some 271) (bs [110, 17]) ?_
            refine pU 110 (some 272) (bs [111, 16]) ?_
            refine pS 111 (some 273) (bs [112, 15]) ?_
            refine pS 112 (some 274) (bs [113, 14]) ?_
            refine pS 113 (some 275) (bs [114, 13]) ?_
            refine pS 114 (some 276) (bs [115, 12]) ?_
            refine pS 115 (some 277) (bs [116, 11]) ?_
            refine pU 116 (some 278) (bs [117, 10]) ?_
            refine pU 117 (some 279) (bs [118, 9]) ?_
            refine pS 118 (some 280) (bs [119, 8]) ?_
            refine pS 119 (some 281) (bs [120, 7]) ?_
            refine pS 120 (some 282) (bs [121, 6]) ?_
            refine pS 121 (some 283) (bs [122, 5]) ?_
            refine pS 122 (some 284) (bs [123, 4]) ?_
            refine pU 123 (some 285) (bs [124, 3]) ?_
            refine pU 124 (some 286) (bs [125, 2]) ?_
            refine pS 125 (some 287) (bs [126, 1]) ?_
            refine pS 126 (some 288) (bs [127]) ?_
            refine done_ (done_of HT_.out (by kernel_rfl)) ?_
            try go_wp2
            go_meet
            case rel => exact ⟨_, (false), sR, H', ⟨by first | omega | exact Nat.le_refl _⟩, ⟨by (with_reducible repeat (first | apply Kd.R_alloc | apply Kd.R_drewN | apply Kd.R_drew)); exact Kd.R_mono HO664.out (fun _ hk => ⟨hk.1.1.1.1.1.2, ⟨hk.1.1.1.2, hk.1.2⟩⟩)⟩, ⟨by (with_reducible repeat (first | apply Kd.R_alloc | apply Kd.R_drewN | apply Kd.R_drew)); exact Kd.R_mono HO674.out (fun _ hk => ⟨hk.1.1.1.1.1.1.2, ⟨hk.1.1.1.2, hk.1.2⟩⟩)⟩, ⟨by (with_reducible repeat (first | apply Kd.S_alloc | apply Kd.S_drewN | apply Kd.S_drew)); exact Kd.S_mono HO682.out (fun _ hk => ⟨hk.1.1.1.1.1.1.1.1.1.2, ⟨hk.1.1.1.1.1.1.1.2, ⟨hk.1.1.1.2, ⟨hk.1.2, hk.1.1.1.1.1.1.1.1.1.1.2⟩⟩⟩⟩)⟩, ⟨by (with_reducible repeat (first | apply Kd.R_alloc | apply Kd.R_drewN | apply Kd.R_drew)); exact Kd.R_mono HO694.out (fun _ hk => ⟨hk.1.1.1.1.1.1.2, ⟨hk.1.1.1.1.2, hk.1.2⟩⟩)⟩, ⟨by (with_reducible repeat (first | apply Kd.R_alloc | apply Kd.R_drewN | apply Kd.R_drew)); exact Kd.R_mono HO702.out (fun _ hk => ⟨hk.1.1.1.1.1.1.2, ⟨hk.1.1.1.1.2, hk.1.1.2⟩⟩)⟩, ⟨by (with_reducible repeat (first | apply Kd.S_alloc | apply Kd.S_drewN | apply Kd.S_drew)); exact Kd.S_mono HO658.out (fun _ hk => ⟨hk.1.1.1.1.1.1.1.1.1.1.1.2, ⟨hk.1.1.1.1.1.1.1.1.1.2, ⟨hk.1.1.1.1.1.1.1.2, ⟨hk.1.1.1.2, hk.1.2⟩⟩⟩⟩)⟩, ⟨bP BK661⟩, ⟨bB⟩⟩
      · rw [if_neg c71] at H
        have c71b0 : (t708 == t710) = false := beq_eq_false_iff_ne.mpr c71
        have c71b1 : (t708 != t710) = true := bne_iff_ne.mpr c71
        exact absurd H (by simp)
    · rw [if_neg c55] at H
      have c55b0 : (t665 == t670) = false := beq_eq_false_iff_ne.mpr c55
      have c55b1 : (t665 != t670) = true := bne_iff_ne.mpr c55
      exact absurd H (by simp)
   case rest => as_aux_lemma =>
    clear HC20
    obtain ⟨kq, x288_19, rfl, HA, HJ19, HO_8, HO_14, HO_18, HO_26, HO_30, HO_662001, BK661, HB⟩ := hcut
    cases kq with
    | zero => exact absurd HA.out (by simp [laws_FnStatesStep.j0])
    | succ kj19 =>
     have H := HA.out
     clear HA
     simp only [laws_FnStatesStep.j0] at H
     replace H := ifN H
     obtain ⟨c158, H⟩ := H
     replace c158 := Bool.eq_false_iff.mpr c158
     subst c158
     have HC159 := am H
     clear H
     go_upto_if 289 with (fail)
     go_cut [] from 1 to 0 (fun wc => ∃ (kq : Nat), Aside0 (laws_FnStatesStep.j2 kq l1 t659 t660 t662 t666 t680 t683 t688 t692 t700 t708 t709 t655 t656 = some true) ∧ Aside0 (kq ≤ kj19) ∧ Aside0 (Kd.R (Kd.int .i64) 3 wc w.heap.size (fun k_ => some k_ ≠ (v693 : Value).ownBlock ∧ some k_ ≠ (v701 : Value).ownBlock) v663 t662) ∧ Aside0 (Kd.S (Kd.slice 3 (Kd.int .i64)) 29 wc w.heap.size (fun k_ => some k_ ≠ (v663 : Value).ownBlock ∧ some k_ ≠ (v693 : Value).ownBlock ∧ some k_ ≠ (v701 : Value).ownBlock ∧ some k_ ≠ ((.slice Ao24 t656.length co24) : Value).ownBlock) v681 t680) ∧ Aside0 (Kd.R (Kd.int .i64) 3 wc w.heap.size (fun k_ => some k_ ≠ (v663 : Value).ownBlock ∧ some k_ ≠ (v701 : Value).ownBlock) v693 t692) ∧ Aside0 (Kd.R (Kd.int .i64) 3 wc w.heap.size (fun k_ => some k_ ≠ (v663 : Value).ownBlock ∧ some k_ ≠ (v693 : Value).ownBlock) v701 t700) ∧ Aside0 (Kd.S (Kd.slice 3 (Kd.int .i64)) 29 wc w.heap.size (fun k_ => some k_ ≠ (v663 : Value).ownBlock ∧ some k_ ≠ (v681 : Value).ownBlock ∧ some k_ ≠ (v693 : Value).ownBlock ∧ some k_ ≠ (v701 : Value).ownBlock) (.slice Ao24 t656.length co24) t656) ∧ Aside0 (wc.heap[gb661]? = some (.cells #[.int .i64 t655, (.slice Ao24 t656.length co24)] 26 (0, 0))) ∧ Aside0 (Below w.heap.size w wc))
     case first => as_aux_lemma =>
      have H := HC159.out
      clear HC159
      by_cases c160 : t666 = true
      · subst c160
        replace H := ifT H
        by_cases c161 : (t662.length : Int) = (t656.length : Int)
        · rw [if_pos c161] at H
          have c161b0 : ((t662.length : Int) == (t656.length : Int)) = true := beq_iff_eq.mpr c161
          have c161b1 : ((t662.length : Int) != (t656.length : Int)) = false := bne_eq_false_iff_eq.mpr c161
          have c161b2 : (t662.length == t656.length) = true := by first | simpa using c161 | (simp at c161 ⊢; omega)
          clear c161
          (first | rw [c161b0] | (simp only [i64_w, i32_w]; rw [c161b0]) | skip)
          replace H := bnd H
          obtain ⟨t720, A162, H⟩ := H
          (try dsimp only at H)
          by_cases c163 : t720 = t665
          · rw [if_pos c163] at H
            have c163b0 : (t720 == t665) = true := beq_iff_eq.mpr c163
            have c163b1 : (t720 != t665) = false := bne_eq_false_iff_eq.mpr c163
            clear c163
            replace H := ifN H
            obtain ⟨c164, H⟩ := H
            have c164b0 := decide_eq_false c164
            clear c164
            have H' := am H
            clear H
            obtain ⟨Ao165, co165, eo165⟩ := Kd.R_slice HO_8.out
            subst eo165
            obtain ⟨hcz166_0, hcz166_1, hfz166_0, hfz166_1⟩ := cZ BK661
            go_wp2_with (first | (go_at_call 24; (with_reducible refine (laws_uSum.calls kj19 _ _ t662 t720 _ ?side1 (Kd.R_reads' HO_8.out).2.1 A162.out).mono ?_); (case side1 => exact cB (Kd.R_reads' HO_8.out).2.2); rintro e w' ⟨rfl, ⟨nd, rfl⟩⟩))
            go_loopg [308] kj19 (fun kq v308 w' => ∃ (x308_2 : Int), v308 = .int .i64 x308_2 ∧ Aside0 (laws_FnStatesStep.l0 kq l1 t659 t660 t662 true t672 t680 t683 t688 t692 t700 t708 t709 t662 (t662.length : Int) x308_2 t655 t656 = some true) ∧ Aside0 (kq ≤ kj19) ∧ Aside0 (Kd.R (Kd.int .i64) 3 w' w.heap.size (fun k_ => some k_ ≠ (v673 : Value).ownBlock ∧ some k_ ≠ (v693 : Value).ownBlock ∧ some k_ ≠ (v701 : Value).ownBlock) (.slice Ao165 t662.length co165) t662) ∧ Aside0 (Kd.R (Kd.int .i64) 3 w' w.heap.size (fun k_ => some k_ ≠ ((.slice Ao165 t662.length co165) : Value).ownBlock ∧ some k_ ≠ (v693 : Value).ownBlock ∧ some k_ ≠ (v701 : Value).ownBlock ∧ some k_ ≠ ((.slice Ao165 t662.length co165) : Value).ownBlock) v673 t672) ∧ Aside0 (Kd.S (Kd.slice 3 (Kd.int .i64)) 29 w' w.heap.size (fun k_ => some k_ ≠ ((.slice Ao165 t662.length co165) : Value).ownBlock ∧ some k_ ≠ (v673 : Value).ownBlock ∧ some k_ ≠ (v693 : Value).ownBlock ∧ some k_ ≠ (v701 : Value).ownBlock ∧ some k_ ≠ ((.slice Ao165 t662.length co165) : Value).ownBlock ∧ some k_ ≠ ((.slice Ao24 t656.length co24) : Value).ownBlock) v681 t680) ∧ Aside0 (Kd.R (Kd.int .i64) 3 w' w.heap.size (fun k_ => some k_ ≠ ((.slice Ao165 t662.length co165) : Value).ownBlock ∧ some k_ ≠ (v673 : Value).ownBlock ∧ some k_ ≠ (v701 : Value).ownBlock ∧ some k_ ≠ ((.slice Ao165 t662.length co165) : Value).ownBlock) v693 t692) ∧ Aside0 (Kd.R (Kd.int .i64) 3 w' w.heap.size (fun k_ => some k_ ≠ ((.slice Ao165 t662.length co165) : Value).ownBlock ∧ some k_ ≠ (v673 : Value).ownBlock ∧ some k_ ≠ (v693 : Value).ownBlock ∧ some k_ ≠ ((.slice Ao165 t662.length co165) : Value).ownBlock) v701 t700) ∧ Aside0 (Kd.R (Kd.int .i64) 3 w' w.heap.size (fun k_ => some k_ ≠ (v673 : Value).ownBlock ∧ some k_ ≠ (v693 : Value).ownBlock ∧ some k_ ≠ (v701 : Value).ownBlock) (.slice Ao165 t662.length co165) t662) ∧ Aside0 (Kd.S (Kd.slice 3 (Kd.int .i64)) 29 w' w.heap.size (fun k_ => some k_ ≠ ((.slice Ao165 t662.length co165) : Value).ownBlock ∧ some k_ ≠ (v673 : Value).ownBlock ∧ some k_ ≠ (v681 : Value).ownBlock ∧ some k_ ≠ (v693 : Value).ownBlock ∧ some k_ ≠ (v701 : Value).ownBlock ∧ some k_ ≠ ((.slice Ao165 t662.length co165) : Value).ownBlock) (.slice Ao24 t656.length co24) t656) ∧ Aside0 (w'.heap[gb661]? = some (.cells #[.int .i64 t655, (.slice Ao24 t656.length co24)] 26 (0, 0))) ∧ Aside0 (Below w.heap.size w w'))
            case atStart => exact ⟨(0), sR, H', ⟨Nat.le_refl _⟩, ⟨rP HO_8⟩, ⟨by (with_reducible repeat (first | apply Kd.R_alloc | apply Kd.R_drewN | apply Kd.R_drew)); exact Kd.R_mono HO_14.out (fun _ hk => ⟨hk.1, ⟨hk.2.1, ⟨hk.2.2, hk.1⟩⟩⟩)⟩, ⟨by (with_reducible repeat (first | apply Kd.S_alloc | apply Kd.S_drewN | apply Kd.S_drew)); exact Kd.S_mono HO_18.out (fun _ hk => ⟨hk.1, ⟨hk.2.1, ⟨hk.2.2.1, ⟨hk.2.2.2.1, ⟨hk.1, hk.2.2.2.2⟩⟩⟩⟩⟩)⟩, ⟨by (with_reducible repeat (first | apply Kd.R_alloc | apply Kd.R_drewN | apply Kd.R_drew)); exact Kd.R_mono HO_26.out (fun _ hk => ⟨hk.1, ⟨hk.2.1, ⟨hk.2.2, hk.1⟩⟩⟩)⟩, ⟨by (with_reducible repeat (first | apply Kd.R_alloc | apply Kd.R_drewN | apply Kd.R_drew)); exact Kd.R_mono HO_30.out (fun _ hk => ⟨hk.1, ⟨hk.2.1, ⟨hk.2.2, hk.1⟩⟩⟩)⟩, ⟨rP HO_8⟩, ⟨by (with_reducible repeat (first | apply Kd.S_alloc | apply Kd.S_drewN | apply Kd.S_drew)); exact Kd.S_mono HO_662001.out (fun _ hk => ⟨hk.1, ⟨hk.2.1, ⟨hk.2.2.1, ⟨hk.2.2.2.1, ⟨hk.2.2.2.2, hk.1⟩⟩⟩⟩⟩)⟩, ⟨bP BK661⟩, ⟨bB⟩⟩
            case round => as_aux_lemma =>
             clear H'
             obtain ⟨x308_2, rfl, HA, HK2, HO_8, HO_14, HO_18, HO_26, HO_30, HO_306, HO_662001, BK661, HB⟩ := hrel
             cases gk with
             | zero => exact absurd HA.out (by simp [laws_FnStatesStep.l0])
             | succ k2 =>
              have H := HA.out
              clear HA
              simp only [laws_FnStatesStep.l0] at H
              by_cases c167 : x308_2 < (t662.length : Int)
              · rw [if_pos c167] at H
                have c167b0 := decide_eq_true c167
                clear c167
                replace H := ifP H
                obtain ⟨c168, H⟩ := H
                have c168b0 := decide_eq_true c168
                clear c168
                replace H := ifP H
                obtain ⟨c169, H⟩ := H
                have c169b0 := decide_eq_true c169
                clear c169
                replace H := bnd H
                obtain ⟨⟨t722, t723⟩, A170, H⟩ := H
                (try dsimp only at H)
                replace H := ifN H
                obtain ⟨c171, H⟩ := H
                have c171b0 := decide_eq_false c171
                clear c171
                replace H := ifP H
                obtain ⟨c172, H⟩ := H
                subst c172
                replace H := ifN H
                obtain ⟨c173, H⟩ := H
                have c173b0 : ((decide (t722 > 0)) != (decide ((rd t662 x308_2) > 0))) = false := by simpa using c173
                (try (have c173b1 : decide ((decide (t722 > 0)) = (decide ((rd t662 x308_2) > 0))) = true := by simpa using c173))
                (try (have c173b2 : ((decide (t722 > 0)) == (decide ((rd t662 x308_2) > 0))) = true := by simpa using c173))
                clear c173
                by_cases c174 : (rd t662 x308_2) > 0
                · rw [if_pos c174] at H
                  have c174b0 : decide (0 < (rd t662 x308_2)) = true := decide_eq_true c174
                  have c173b9 : decide (0 < t722) = true := by simpa [c174b0] using c173b0
                  clear c174
                  replace H := bnd H
                  obtain ⟨t724, A175, H⟩ := H
                  (try dsimp only at H)
                  replace H := ifP H
                  obtain ⟨c176, H⟩ := H
                  subst c176
                  have H' := am H
                  clear H
                  have p721 : 0 ≤ (x308_2 : Int) := dT
                  have q721 : x308_2 < (t662.length : Int) := dT
                  obtain ⟨ad721, e721, hx721_0⟩ := Kd.at_int (Kd.R_reads' HO_306.out).2.2 x308_2 p721 q721
                  cases e721
                  replace p721 := eq_true p721
                  replace q721 := eq_true q721
                  obtain ⟨hcz177_0, hcz177_1, hfz177_0, hfz177_1⟩ := cZ BK661
                  go_wp2_with (first | ((with_reducible refine gate_callee (f := 25) rfl ?_); refine gL 318 Try.func25 #[.agg #[.int .i64 t655, .slice Ao24 t656.length co24], .int .i64 t659, .int .i64 x308_2, .int .i64 t660] ?_; (with_reducible refine (impl_CountWays.calls k2 t655 _ _ t656 t659 x308_2 t660 t722 true _ ?side1 (Kd.S_reads' HO_662001.out).2.1 A170.out).mono ?_); (case side1 => exact cB (Kd.S_reads' HO_662001.out).2.2); rintro e w178 ⟨rfl, hb⟩; refine ⟨_, rfl, ?_⟩; replace HO_8 := lR HO_8 hb; replace HO_14 := lR HO_14 hb; replace HO_18 := lS HO_18 hb; replace HO_26 := lR HO_26 hb; replace HO_30 := lR HO_30 hb; replace HO_306 := lR HO_306 hb; replace HO_662001 := lS HO_662001 hb; replace BK661 := kb BK661 hb; replace HB := sB hb; obtain ⟨Ao179, co179, eo179⟩ := Kd.R_slice HO_14.out; subst eo179) | (go_at_call 26; (with_reducible refine (laws_uHas.calls k2 _ _ t672 x308_2 true _ ?side1 (Kd.R_reads' HO_14.out).2.1 A175.out).mono ?_); (case side1 => exact cB (Kd.R_reads' HO_14.out).2.2); rintro e w' ⟨rfl, ⟨nd, rfl⟩⟩))
                  go_roundg k2
                  case measure => have := HJ19.out; have := HK2.out; omega
                  case rel => exact ⟨(wrap64 (x308_2 + 1)), sR, H', ⟨by have := HJ19.out; have := HK2.out; omega⟩, ⟨rP HO_8⟩, ⟨rP HO_14⟩, ⟨rP HO_18⟩, ⟨rP HO_26⟩, ⟨rP HO_30⟩, ⟨rP HO_306⟩, ⟨rP HO_662001⟩, ⟨bP BK661⟩, ⟨bB⟩⟩
                · rw [if_neg c174] at H
                  have c174b0 : decide (0 < (rd t662 x308_2)) = false := decide_eq_false c174
                  have c173b9 : decide (0 < t722) = false := by simpa [c174b0] using c173b0
                  clear c174
                  have H' := am H
                  clear H
                  have p721 : 0 ≤ (x308_2 : Int) := dT
                  have q721 : x308_2 < (t662.length : Int) := dT
                  obtain ⟨ad721, e721, hx721_0⟩ := Kd.at_int (Kd.R_reads' HO_306.out).2.2 x308_2 p721 q721
                  cases e721
                  replace p721 := eq_true p721
                  replace q721 := eq_true q721
                  obtain ⟨hcz180_0, hcz180_1, hfz180_0, hfz180_1⟩ := cZ BK661
                  go_wp2_with (first | ((with_reducible refine gate_callee (f := 25) rfl ?_); refine gL 318 Try.func25 #[.agg #[.int .i64 t655, .slice Ao24 t656.length co24], .int .i64 t659, .int .i64 x308_2, .int .i64 t660] ?_; (with_reducible refine (impl_CountWays.calls k2 t655 _ _ t656 t659 x308_2 t660 t722 true _ ?side1 (Kd.S_reads' HO_662001.out).2.1 A170.out).mono ?_); (case side1 => exact cB (Kd.S_reads' HO_662001.out).2.2); rintro e w181 ⟨rfl, hb⟩; refine ⟨_, rfl, ?_⟩; replace HO_8 := lR HO_8 hb; replace HO_14 := lR HO_14 hb; replace HO_18 := lS HO_18 hb; replace HO_26 := lR HO_26 hb; replace HO_30 := lR HO_30 hb; replace HO_306 := lR HO_306 hb; replace HO_662001 := lS HO_662001 hb; replace BK661 := kb BK661 hb; replace HB := sB hb))
                  go_roundg k2
                  case measure => have := HJ19.out; have := HK2.out; omega
                  case rel => exact ⟨(wrap64 (x308_2 + 1)), sR, H', ⟨by have := HJ19.out; have := HK2.out; omega⟩, ⟨rP HO_8⟩, ⟨rP HO_14⟩, ⟨rP HO_18⟩, ⟨rP HO_26⟩, ⟨rP HO_30⟩, ⟨rP HO_306⟩, ⟨rP HO_662001⟩, ⟨bP BK661⟩, ⟨bB⟩⟩
              · rw [if_neg c167] at H
                have c167b0 := decide_eq_false c167
                clear c167
                have H' := am H
                clear H
                go_wp2
                go_meet
                case rel => exact ⟨_, H', ⟨by have := HJ19.out; have := HK2.out; first | omega | exact Nat.le_refl _⟩, ⟨by (with_reducible repeat (first | apply Kd.R_alloc | apply Kd.R_drewN | apply Kd.R_drew)); exact Kd.R_mono HO_8.out (fun _ hk => ⟨hk.2.1, hk.2.2⟩)⟩, ⟨by (with_reducible repeat (first | apply Kd.S_alloc | apply Kd.S_drewN | apply Kd.S_drew)); exact Kd.S_mono HO_18.out (fun _ hk => ⟨hk.1, ⟨hk.2.2.1, ⟨hk.2.2.2.1, hk.2.2.2.2.2⟩⟩⟩)⟩, ⟨by (with_reducible repeat (first | apply Kd.R_alloc | apply Kd.R_drewN | apply Kd.R_drew)); exact Kd.R_mono HO_26.out (fun _ hk => ⟨hk.1, hk.2.2.1⟩)⟩, ⟨by (with_reducible repeat (first | apply Kd.R_alloc | apply Kd.R_drewN | apply Kd.R_drew)); exact Kd.R_mono HO_30.out (fun _ hk => ⟨hk.1, hk.2.2.1⟩)⟩, ⟨by (with_reducible repeat (first | apply Kd.S_alloc | apply Kd.S_drewN | apply Kd.S_drew)); exact Kd.S_mono HO_662001.out (fun _ hk => ⟨hk.1, ⟨hk.2.2.1, ⟨hk.2.2.2.1, hk.2.2.2.2.1⟩⟩⟩)⟩, ⟨bP BK661⟩, ⟨bB⟩⟩
          · rw [if_neg c163] at H
            have c163b0 : (t720 == t665) = false := beq_eq_false_iff_ne.mpr c163
            have c163b1 : (t720 != t665) = true := bne_iff_ne.mpr c163
            exact absurd H (by simp)
        · rw [if_neg c161] at H
          have c161b0 : ((t662.length : Int) == (t656.length : Int)) = false := beq_eq_false_iff_ne.mpr c161
          have c161b1 : ((t662.length : Int) != (t656.length : Int)) = true := bne_iff_ne.mpr c161
          have c161b2 : (t662.length == t656.length) = false := by first | simpa using c161 | (simp at c161 ⊢; omega)
          (first | rw [c161b0] | (simp only [i64_w, i32_w]; rw [c161b0]) | skip)
          exact absurd H (by simp)
      · replace c160 := Bool.eq_false_iff.mpr c160
        subst c160
        replace H := ifF H
        have H' := am H
        clear H
        go_wp2
        go_meet
        case rel => exact ⟨_, H', ⟨by have := HJ19.out; first | omega | exact Nat.le_refl _⟩, ⟨by (with_reducible repeat (first | apply Kd.R_alloc | apply Kd.R_drewN | apply Kd.R_drew)); exact Kd.R_mono HO_8.out (fun _ hk => ⟨hk.2.1, hk.2.2⟩)⟩, ⟨by (with_reducible repeat (first | apply Kd.S_alloc | apply Kd.S_drewN | apply Kd.S_drew)); exact Kd.S_mono HO_18.out (fun _ hk => ⟨hk.1, ⟨hk.2.2.1, ⟨hk.2.2.2.1, hk.2.2.2.2⟩⟩⟩)⟩, ⟨by (with_reducible repeat (first | apply Kd.R_alloc | apply Kd.R_drewN | apply Kd.R_drew)); exact Kd.R_mono HO_26.out (fun _ hk => ⟨hk.1, hk.2.2⟩)⟩, ⟨by (with_reducible repeat (first | apply Kd.R_alloc | apply Kd.R_drewN | apply Kd.R_drew)); exact Kd.R_mono HO_30.out (fun _ hk => ⟨hk.1, hk.2.2⟩)⟩, ⟨by (with_reducible repeat (first | apply Kd.S_alloc | apply Kd.S_drewN | apply Kd.S_drew)); exact Kd.S_mono HO_662001.out (fun _ hk => ⟨hk.1, ⟨hk.2.2.1, ⟨hk.2.2.2.1, hk.2.2.2.2⟩⟩⟩)⟩, ⟨bP BK661⟩, ⟨bB⟩⟩
     case rest => as_aux_lemma =>
      clear HC159
      obtain ⟨kq, HA, HJ158, HO_8, HO_18, HO_26, HO_30, HO_662001, BK661, HB⟩ := hcut
      cases kq with
      | zero => exact absurd HA.out (by simp [laws_FnStatesStep.j2])
      | succ kj158 =>
       have H := HA.out
       clear HA
       simp only [laws_FnStatesStep.j2] at H
       have HC182 := am H
       clear H
       go_upto_if 345 with (fail)
       go_cut [] from 1 to 0 (fun wc => ∃ (kq : Nat), Aside0 (laws_FnStatesStep.j6 kq l1 t659 t660 t662 t666 t708 t709 = some true) ∧ Aside0 (kq ≤ kj158) ∧ Aside0 (Kd.R (Kd.int .i64) 3 wc w.heap.size (fun _ => True) v663 t662) ∧ Aside0 (Kd.S (Kd.slice 3 (Kd.int .i64)) 29 wc w.heap.size (fun k_ => some k_ ≠ (v663 : Value).ownBlock) (.slice Ao24 t656.length co24) t656) ∧ Aside0 (wc.heap[gb661]? = some (.cells #[.int .i64 t655, (.slice Ao24 t656.length co24)] 26 (0, 0))) ∧ Aside0 (Below w.heap.size w wc))
       case first => as_aux_lemma =>
        have H := HC182.out
        clear HC182
        by_cases c183 : t683 = true
        · subst c183
          replace H := ifT H
          have H' := am H
          clear H
          obtain ⟨Ao184, co184, eo184⟩ := Kd.S_slice HO_18.out
          subst eo184
          go_wp2
          go_loopg [42, 348] kj158 (fun kq v42 v348 w' => ∃ (x42_3 : Int) (x348_3 : Int), v42 = .int .i64 x42_3 ∧ v348 = .int .i64 x348_3 ∧ Aside0 (laws_FnStatesStep.l1 kq l1 t659 t660 t662 t666 t680 t688 t692 t700 t708 t709 x42_3 t680 (t680.length : Int) x348_3 t655 t656 = some true) ∧ Aside0 (kq ≤ kj158) ∧ Aside0 (Kd.R (Kd.int .i64) 3 w' w.heap.size (fun k_ => some k_ ≠ (v693 : Value).ownBlock ∧ some k_ ≠ (v701 : Value).ownBlock) v663 t662) ∧ Aside0 (Kd.S (Kd.slice 3 (Kd.int .i64)) 29 w' w.heap.size (fun k_ => some k_ ≠ (v663 : Value).ownBlock ∧ some k_ ≠ (v693 : Value).ownBlock ∧ some k_ ≠ (v701 : Value).ownBlock ∧ some k_ ≠ ((.slice Ao24 t656.length co24) : Value).ownBlock) (.slice Ao184 t680.length co184) t680) ∧ Aside0 (Kd.R (Kd.int .i64) 3 w' w.heap.size (fun k_ => some k_ ≠ (v663 : Value).ownBlock ∧ some k_ ≠ (v701 : Value).ownBlock) v693 t692) ∧ Aside0 (Kd.R (Kd.int .i64) 3 w' w.heap.size (fun k_ => some k_ ≠ (v663 : Value).ownBlock ∧ some k_ ≠ (v693 : Value).ownBlock) v701 t700) ∧ Aside0 (Kd.S (Kd.slice 3 (Kd.int .i64)) 29 w' w.heap.size (fun k_ => some k_ ≠ (v663 : Value).ownBlock ∧ some k_ ≠ (v693 : Value).ownBlock ∧ some k_ ≠ (v701 : Value).ownBlock ∧ some k_ ≠ ((.slice Ao24 t656.length co24) : Value).ownBlock) (.slice Ao184 t680.length co184) t680) ∧ Aside0 (Kd.S (Kd.slice 3 (Kd.int .i64)) 29 w' w.heap.size (fun k_ => some k_ ≠ (v663 : Value).ownBlock ∧ some k_ ≠ ((.slice Ao184 t680.length co184) : Value).ownBlock ∧ some k_ ≠ (v693 : Value).ownBlock ∧ some k_ ≠ (v701 : Value).ownBlock ∧ some k_ ≠ ((.slice Ao184 t680.length co184) : Value).ownBlock) (.slice Ao24 t656.length co24) t656) ∧ Aside0 (w'.heap[gb661]? = some (.cells #[.int .i64 t655, (.slice Ao24 t656.length co24)] 26 (0, 0))) ∧ Aside0 (Below w.heap.size w w'))
          case atStart => exact ⟨(0), (0), sR, sR, H', ⟨Nat.le_refl _⟩, ⟨rP HO_8⟩, ⟨rP HO_18⟩, ⟨rP HO_26⟩, ⟨rP HO_30⟩, ⟨rP HO_18⟩, ⟨by (with_reducible repeat (first | apply Kd.S_alloc | apply Kd.S_drewN | apply Kd.S_drew)); exact Kd.S_mono HO_662001.out (fun _ hk => ⟨hk.1, ⟨hk.2.1, ⟨hk.2.2.1, ⟨hk.2.2.2, hk.2.1⟩⟩⟩⟩)⟩, ⟨bP BK661⟩, ⟨bB⟩⟩
          case round => as_aux_lemma =>
           clear H'
           obtain ⟨x42_3, x348_3, rfl, rfl, HA, HK3, HO_8, HO_18, HO_26, HO_30, HO_346, HO_662001, BK661, HB⟩ := hrel
           cases gk with
           | zero => exact absurd HA.out (by simp [laws_FnStatesStep.l1])
           | succ k3 =>
            have H := HA.out
            clear HA
            simp only [laws_FnStatesStep.l1] at H
            by_cases c185 : x348_3 < (t680.length : Int)
            · rw [if_pos c185] at H
              have c185b0 := decide_eq_true c185
              clear c185
              (first | rw [c185b0] | (simp only [i64_w, i32_w]; rw [c185b0]) | skip)
              replace H := ifP H
              obtain ⟨c186, H⟩ := H
              have c186b0 := decide_eq_true c186
              clear c186
              replace H := ifP H
              obtain ⟨c187, H⟩ := H
              have c187b0 := decide_eq_true c187
              clear c187
              replace H := ifN H
              obtain ⟨c188, H⟩ := H
              have c188b0 := decide_eq_false c188
              have c188b1 : decide ((rd_L2 t680 x348_3).length < 1) = false := decide_eq_false (by omega)
              clear c188
              replace H := bnd H
              obtain ⟨t726, A189, H⟩ := H
              (try dsimp only at H)
              replace H := ifP H
              obtain ⟨c190, H⟩ := H
              subst c190
              by_cases c191 : x348_3 > 0
              · rw [if_pos c191] at H
                have c191b0 : decide (0 < x348_3) = true := decide_eq_true c191
                clear c191
                obtain ⟨ji192, hji192⟩ : ∃ j_ : Int, (wrap64 (x348_3 - 1)) = j_ := ⟨_, rfl⟩
                replace H : (if 0 ≤ (ji192) then (if (ji192) < (t680.length : Int) then (if 0 < ((rd_L2 t680 (ji192)).length : Int) then (if 0 < ((rd_L2 t680 x348_3).length : Int) then (if (rd (rd_L2 t680 (ji192)) 0) ≥ (rd (rd_L2 t680 x348_3) 0) then (some false) else (laws_FnStatesStep.l2 k3 l1 t659 t660 t662 t666 t680 t688 t692 t700 t708 t709 (wrap64 (x42_3 + ((rd_L2 t680 x348_3).length : Int))) (rd_L2 t680 x348_3) t680 (t680.length : Int) x348_3 (rd_L2 t680 x348_3) ((rd_L2 t680 x348_3).length : Int) 0 t655 t656)) else (none)) else (none)) else (none)) else (none)) = some true := by first | (rw [hji192] at H; exact H) | (simp only [hji192] at H ⊢; exact H)
                (try rw [hji192] at A189)
                have hji192w : (IntKind.i64.wrap (x348_3 - 1)) = ji192 := (i64_w _).trans hji192
                replace H := ifP H
                obtain ⟨c193, H⟩ := H
                have c193b0 := decide_eq_true c193
                clear c193
                replace H := ifP H
                obtain ⟨c194, H⟩ := H
                have c194b0 := decide_eq_true c194
                clear c194
                replace H := ifP H
                obtain ⟨c195, H⟩ := H
                have c195b0 := decide_eq_true c195
                have c195b1 : decide (0 < (rd_L2 t680 (ji192)).length) = true := decide_eq_true (by omega)
                clear c195
                replace H := ifP H
                obtain ⟨c196, H⟩ := H
                have c196b0 := decide_eq_true c196
                have c196b1 : decide (0 < (rd_L2 t680 x348_3).length) = true := decide_eq_true (by omega)
                clear c196
                replace H := ifN H
                obtain ⟨c197, H⟩ := H
                have c197b0 : decide ((rd (rd_L2 t680 x348_3) 0) ≤ (rd (rd_L2 t680 (ji192)) 0)) = false := decide_eq_false c197
                clear c197
                have H' := am H
                clear H
                have p725 : 0 ≤ (x348_3 : Int) := dT
                have q725 : x348_3 < (t680.length : Int) := dT
                obtain ⟨ad725, A725_0, c725_0, e725, hx725_0, hl725_0, hi725_0⟩ := at_L2 (Kd.S_reads' HO_346.out).2.2 x348_3 p725 q725
                cases e725
                obtain ⟨ce725, hce725, hMe725, hcc725⟩ := Kd.S_get HO_346.out [] x348_3 p725 (by first | exact q725 | exact dT | (have e_ := (Kd.S_reads' HO_346.out).1; omega))
                obtain ⟨ve725_0, rfl, ge725_0⟩ := hMe725
                have hv725_0 := hcc725 0 _ rfl
                rw [Nat.add_zero, show ((Kd.slice 3 (Kd.int .i64))).sz = 1 from rfl, Nat.mul_one] at hv725_0
                replace hv725_0 := Option.some.inj (hv725_0.symm.trans hx725_0)
                rw [hv725_0] at ge725_0
                have HL725_0 := am (show Kd.R (Kd.int .i64) 3 _ _ _ _ (rd_L2 t680 x348_3) from ge725_0)
                clear hv725_0 ge725_0
                clear hcc725 hce725
                have HR725_0 := am hi725_0
                have HC725_0 := am hl725_0
                clear hi725_0 hl725_0
                replace p725 := eq_true p725
                replace q725 := eq_true q725
                try go_wp2
                replace HO_8 := am (Kd.R_drew HO_8.out)
                replace HO_18 := am (Kd.S_drew HO_18.out)
                replace HO_26 := am (Kd.R_drew HO_26.out)
                replace HO_30 := am (Kd.R_drew HO_30.out)
                replace HO_346 := am (Kd.S_drew HO_346.out)
                replace HO_662001 := am (Kd.S_drew HO_662001.out)
                replace HL725_0 := am (Kd.R_drew HL725_0.out)
                replace BK661 := am (blk_drew BK661.out)
                replace HR725_0 := am (Kd.C_drew HR725_0.out)
                replace HB := am (below_drew1 HB.out)
                have p727 : 0 ≤ ((ji192) : Int) := dT
                have q727 : (ji192) < (t680.length : Int) := dT
                obtain ⟨ad727, A727_0, c727_0, e727, hx727_0, hl727_0, hi727_0⟩ := at_L2 (Kd.S_reads' HO_18.out).2.2 (ji192) p727 q727
                obtain rfl : ad725 = ad727 := (by injection e727)
                obtain ⟨ce727, hce727, hMe727, hcc727⟩ := Kd.S_get HO_18.out [] (ji192) p727 (by first | exact q727 | exact dT | (have e_ := (Kd.S_reads' HO_18.out).1; omega))
                obtain ⟨ve727_0, rfl, ge727_0⟩ := hMe727
                have hv727_0 := hcc727 0 _ rfl
                rw [Nat.add_zero, show ((Kd.slice 3 (Kd.int .i64))).sz = 1 from rfl, Nat.mul_one] at hv727_0
                replace hv727_0 := Option.some.inj (hv727_0.symm.trans hx727_0)
                rw [hv727_0] at ge727_0
                have HL727_0 := am (show Kd.R (Kd.int .i64) 3 _ _ _ _ (rd_L2 t680 (ji192)) from ge727_0)
                clear hv727_0 ge727_0
                clear hcc727 hce727
                have HR727_0 := am hi727_0
                have HC727_0 := am hl727_0
                clear hi727_0 hl727_0
                replace p727 := eq_true p727
                replace q727 := eq_true q727
                have p728 : 0 ≤ (0 : Int) := (by omega)
                have q728 : 0 < ((rd_L2 t680 (ji192)).length : Int) := dT
                obtain ⟨ad728, e728, hx728_0⟩ := Kd.at_int (by repeat (first | (with_reducible exact HR727_0.out) | (with_reducible refine Kd.C_alloc ?_ _) | (with_reducible refine Kd.C_drewN ?_ _) | (with_reducible refine Kd.C_drew ?_) | exact HR727_0.out)) 0 p728 q728
                cases e728
                have qi728 : (0 < (rd_L2 t680 (ji192)).length) = True := eq_true (by omega)
                (try rw [show ((0 : Int)).toNat = 0 from rfl] at hx728_0)
                (try rw [Addr.add_zero'] at hx728_0)
                replace p728 := eq_true p728
                replace q728 := eq_true q728
                have p729 : 0 ≤ (0 : Int) := (by omega)
                have q729 : 0 < ((rd_L2 t680 x348_3).length : Int) := dT
                obtain ⟨ad729, e729, hx729_0⟩ := Kd.at_int (by repeat (first | (with_reducible exact HR725_0.out) | (with_reducible refine Kd.C_alloc ?_ _) | (with_reducible refine Kd.C_drewN ?_ _) | (with_reducible refine Kd.C_drew ?_) | exact HR725_0.out)) 0 p729 q729
                cases e729
                have qi729 : (0 < (rd_L2 t680 x348_3).length) = True := eq_true (by omega)
                (try rw [show ((0 : Int)).toNat = 0 from rfl] at hx729_0)
                (try rw [Addr.add_zero'] at hx729_0)
                replace p729 := eq_true p729
                replace q729 := eq_true q729
                refine start_ (n := 25) (S := fun w' => w'.cell? (ad725.add ((ji192)).toNat) = some (.slice (some ad728) (rd_L2 t680 (ji192)).length c727_0) ∧ w'.cell? ad728 = some (.int .i64 (rd (rd_L2 t680 (ji192)) 0)) ∧ w'.cell? ad729 = some (.int .i64 (rd (rd_L2 t680 x348_3) 0))) (ds := []) (bs [0, 25]) (by kernel_rfl) rfl rfl ⟨hx727_0, hx728_0, hx729_0⟩ (fun hHeld => ?_); refine with_tabW laws_FnStatesStep.tab35 laws_FnStatesStep.bits35 (fun HT_ HW_ => ?_)
                generalize wr.drew = w198 at HO_8 HO_18 HO_26 HO_30 HO_346 HO_662001 HL725_0 BK661 HR725_0 HB HL727_0 HR727_0 hx727_0 hHeld ⊢
                refine pS 0 (some 353) (bs [1, 24]) ?_
                refine pS 1 (some 354) (bs [2, 23]) ?_
                refine pS 2 (some 355) (bs [3, 22]) ?_
                refine pS 3 (some 356) (bs [4, 21]) ?_
                refine pS 4 (some 357) (bs [5, 20]) ?_
                refine oS 5 (some 358) (bs [6, 19]) (fun K hK => ?_)
                refine goes_ Try.func27 (by kernel_rfl) rfl #[.slice (some ad729) (rd_L2 t680 x348_3).length c725_0] (by rfl) rfl rfl aM ?_
                with_reducible refine (laws_uRises.calls k3 _ _ (rd_L2 t680 x348_3) true _ ?side1 HC725_0.out A189.out).mono ?_
                (case side1 => exact cB (by repeat (first | (with_reducible exact HR725_0.out) | (with_reducible refine Kd.C_alloc ?_ _) | (with_reducible refine Kd.C_drewN ?_ _) | (with_reducible refine Kd.C_drew ?_) | exact HR725_0.out)))
                rintro e w' ⟨rfl, ⟨nd, rfl⟩⟩
                refine ⟨_, rfl, ?_⟩
                refine hK.out _ _ ⟨hHeld.1, hHeld.2.1, hHeld.2.2⟩ (fun hHeld => ?_)
                clear hK K
                refine nS 358 ?_
                refine pS 6 (some 359) (bs [7, 18]) ?_
                refine pS 7 (some 360) (bs [8, 17]) ?_
                refine pS 8 (some 361) (bs [9, 16]) ?_
                refine pS 9 (some 362) (bs [10, 15]) ?_
                refine pS 10 (some 363) (bs [11, 14]) ?_
                refine pS 11 (some 364) (bs [12, 13]) ?_
                refine pS 12 (some 365) (bs [13, 12]) ?_
                refine pS 13 (some 366) (bs [14, 11]) ?_
                refine pS 14 (some 367) (bs [15, 10]) ?_
                refine pS 15 (some 368) (bs [16, 9]) ?_
                refine pS 19 (some 372) (bs [16, 3, 1, 5]) ?_
                refine pS 20 (some 373) (bs [16, 3, 2, 4]) ?_
                refine tS 16 (some 369) (bs [17, 2, 2, 4]) ?_
                refine pS 17 (some 370) (bs [18, 1, 2, 4]) ?_
                refine tS 18 (some 371) (bs [21, 4]) ?_
                refine tS 21 (some 374) (bs [22, 3]) ?_
                refine pS 22 (some 375) (bs [23, 2]) ?_
                refine pS 23 (some 376) (bs [24, 1]) ?_
                refine pS 24 (some 377) (bs [25]) ?_
                refine done_ (done_of HT_.out (by kernel_rfl)) ?_
                try go_wp2
                go_loopg [384] k3 (fun kq v384 w' => ∃ (x384_4 : Int), v384 = .int .i64 x384_4 ∧ Aside0 (laws_FnStatesStep.l2 kq l1 t659 t660 t662 t666 t680 t688 t692 t700 t708 t709 (wrap64 (x42_3 + ((rd_L2 t680 x348_3).length : Int))) (rd_L2 t680 x348_3) t680 (t680.length : Int) x348_3 (rd_L2 t680 x348_3) ((rd_L2 t680 x348_3).length : Int) x384_4 t655 t656 = some true) ∧ Aside0 (kq ≤ k3) ∧ Aside0 (Kd.R (Kd.int .i64) 3 w' w.heap.size (fun k_ => some k_ ≠ (v693 : Value).ownBlock ∧ some k_ ≠ (v701 : Value).ownBlock) v663 t662) ∧ Aside0 (Kd.S (Kd.slice 3 (Kd.int .i64)) 29 w' w.heap.size (fun k_ => some k_ ≠ (v663 : Value).ownBlock ∧ some k_ ≠ (v693 : Value).ownBlock ∧ some k_ ≠ (v701 : Value).ownBlock ∧ some k_ ≠ ((.slice Ao24 t656.length co24) : Value).ownBlock) (.slice (some ad725) t680.length co184) t680) ∧ Aside0 (Kd.R (Kd.int .i64) 3 w' w.heap.size (fun k_ => some k_ ≠ (v663 : Value).ownBlock ∧ some k_ ≠ (v701 : Value).ownBlock) v693 t692) ∧ Aside0 (Kd.R (Kd.int .i64) 3 w' w.heap.size (fun k_ => some k_ ≠ (v663 : Value).ownBlock ∧ some k_ ≠ (v693 : Value).ownBlock) v701 t700) ∧ Aside0 (Kd.S (Kd.slice 3 (Kd.int .i64)) 29 w' w.heap.size (fun k_ => some k_ ≠ (v663 : Value).ownBlock ∧ some k_ ≠ (v693 : Value).ownBlock ∧ some k_ ≠ (v701 : Value).ownBlock ∧ some k_ ≠ ((.slice Ao24 t656.length co24) : Value).ownBlock) (.slice (some ad725) t680.length co184) t680) ∧ Aside0 (Kd.S (Kd.slice 3 (Kd.int .i64)) 29 w' w.heap.size (fun k_ => some k_ ≠ (v663 : Value).ownBlock ∧ some k_ ≠ ((.slice (some ad725) t680.length co184) : Value).ownBlock ∧ some k_ ≠ (v693 : Value).ownBlock ∧ some k_ ≠ (v701 : Value).ownBlock ∧ some k_ ≠ ((.slice (some ad725) t680.length co184) : Value).ownBlock) (.slice Ao24 t656.length co24) t656) ∧ Aside0 (w'.heap[gb661]? = some (.cells #[.int .i64 t655, (.slice Ao24 t656.length co24)] 26 (0, 0))) ∧ Aside0 (Kd.C (Kd.int .i64) w' (some ad729) (rd_L2 t680 x348_3).length (rd_L2 t680 x348_3)) ∧ Aside0 (Below w.heap.size w w'))
                case atStart => exact ⟨(0), sR, H', ⟨Nat.le_refl _⟩, ⟨rP HO_8⟩, ⟨rP HO_18⟩, ⟨rP HO_26⟩, ⟨rP HO_30⟩, ⟨rP HO_346⟩, ⟨rP HO_662001⟩, ⟨bP BK661⟩, ⟨by repeat (first | (with_reducible exact HR725_0.out) | (with_reducible refine Kd.C_alloc ?_ _) | (with_reducible refine Kd.C_drewN ?_ _) | (with_reducible refine Kd.C_drew ?_) | exact HR725_0.out)⟩, ⟨bB⟩⟩
                case round => as_aux_lemma =>
                 clear H'
                 obtain ⟨x384_4, rfl, HA, HK4, HO_8, HO_18, HO_26, HO_30, HO_346, HO_662001, BK661, HR725_0, HB⟩ := hrel
                 cases gk with
                 | zero => exact absurd HA.out (by simp [laws_FnStatesStep.l2])
                 | succ k4 =>
                  have H := HA.out
                  clear HA
                  simp only [laws_FnStatesStep.l2] at H
                  by_cases c199 : x384_4 < ((rd_L2 t680 x348_3).length : Int)
                  · rw [if_pos c199] at H
                    have c199b0 := decide_eq_true c199
                    clear c199
                    replace H := ifP H
                    obtain ⟨c200, H⟩ := H
                    have c200b0 := decide_eq_true c200
                    clear c200
                    replace H := ifP H
                    obtain ⟨c201, H⟩ := H
                    have c201b0 := decide_eq_true c201
                    clear c201
                    replace H := bnd H
                    obtain ⟨⟨t731, t734⟩, A202, H⟩ := H
                    (try dsimp only at H)
                    replace H := ifP H
                    obtain ⟨c203, H⟩ := H
                    subst c203
                    replace H := ifP H
                    obtain ⟨c204, H⟩ := H
                    have c204b0 := decide_eq_true c204
                    have c204b1 : decide (0 < (rd_L2 t680 x348_3).length) = true := decide_eq_true (by omega)
                    clear c204
                    replace H := bnd H
                    obtain ⟨t736, A205, H⟩ := H
                    (try dsimp only at H)
                    replace H := ifP H
                    obtain ⟨c206, H⟩ := H
                    subst c206
                    replace H := bnd H
                    obtain ⟨t737, A207, H⟩ := H
                    (try dsimp only at H)
                    replace H := ifN H
                    obtain ⟨c208, H⟩ := H
                    have c208b0 : (t737 != ((t731.length : Int) == ((rd_L2 t680 x348_3).length : Int))) = false := by simpa using c208
                    (try (have c208b1 : decide (t737 = ((t731.length : Int) == ((rd_L2 t680 x348_3).length : Int))) = true := by simpa using c208))
                    (try (have c208b2 : (t737 == ((t731.length : Int) == ((rd_L2 t680 x348_3).length : Int))) = true := by simpa using c208))
                    clear c208
                    have H' := am H
                    clear H
                    have p730 : 0 ≤ (x384_4 : Int) := dT
                    have q730 : x384_4 < ((rd_L2 t680 x348_3).length : Int) := dT
                    obtain ⟨ad730, e730, hx730_0⟩ := Kd.at_int HR725_0.out x384_4 p730 q730
                    obtain rfl : ad729 = ad730 := (by injection e730)
                    replace p730 := eq_true p730
                    replace q730 := eq_true q730
                    obtain ⟨hcz209_0, hcz209_1, hfz209_0, hfz209_1⟩ := cZ BK661
                    go_wp2_with (first | ((with_reducible refine gate_callee (f := 8) rfl ?_); refine gL 391 Try.func8 #[.agg #[.int .i64 t655, .slice Ao24 t656.length co24], .int .i64 (rd (rd_L2 t680 x348_3) x384_4)] ?_; (with_reducible refine (impl_ReachedStates.calls k4 t655 _ _ t656 (rd (rd_L2 t680 x348_3) x384_4) t731 true _ ?side1 (Kd.S_reads' HO_662001.out).2.1 A202.out).mono ?_); (case side1 => exact cB (Kd.S_reads' HO_662001.out).2.2); rintro e w210 ⟨v732, rfl, ho0, hb⟩; refine ⟨_, rfl, ?_⟩; replace HO_18 := eS HO_18 ho0 hb; replace HO_346 := eS HO_346 ho0 hb; replace HO_662001 := eS HO_662001 ho0 hb; have HO733 := am (Kd.R_lower (Kd.R_new' (Kd.R_new' (Kd.R_new' ho0 (Kd.R_lt (rP HO_8))) (Kd.R_lt (rP HO_26))) (Kd.R_lt (rP HO_30))) (below_size bB)); replace HO_8 := eR HO_8 ho0 hb; replace HO_26 := eR HO_26 ho0 hb; replace HO_30 := eR HO_30 ho0 hb; replace BK661 := kb BK661 hb; replace HR725_0 := am (Kd.C_below (by repeat (first | (with_reducible exact HR725_0.out) | (with_reducible refine Kd.C_alloc ?_ _) | (with_reducible refine Kd.C_drewN ?_ _) | (with_reducible refine Kd.C_drew ?_) | exact HR725_0.out)) hb); replace HB := sB hb; have p735 : 0 ≤ (0 : Int) := (by omega); have q735 : 0 < ((rd_L2 t680 x348_3).length : Int) := dT; obtain ⟨ad735, e735, hx735_0⟩ := Kd.at_int HR725_0.out 0 p735 q735; obtain rfl : ad729 = ad735 := (by injection e735); have qi735 : (0 < (rd_L2 t680 x348_3).length) = True := eq_true (by omega); (try rw [show ((0 : Int)).toNat = 0 from rfl] at hx735_0); (try rw [Addr.add_zero'] at hx735_0); replace p735 := eq_true p735; replace q735 := eq_true q735; obtain ⟨Ao211, co211, eo211⟩ := Kd.R_slice HO733.out; subst eo211) | (go_at_call 26; (with_reducible refine (laws_uHas.calls k4 _ _ t731 (rd (rd_L2 t680 x348_3) 0) true _ ?side1 (Kd.R_reads' HO733.out).2.1 A205.out).mono ?_); (case side1 => exact cB (Kd.R_reads' HO733.out).2.2); rintro e w' ⟨rfl, ⟨nd, rfl⟩⟩; obtain ⟨Ao212, co212, eo212⟩ := Kd.R_slice HO_26.out; subst eo212) | (go_at_call 26; (with_reducible refine (laws_uHas.calls k4 _ _ t692 (rd (rd_L2 t680 x348_3) x384_4) t737 _ ?side1 (Kd.R_reads' HO_26.out).2.1 A207.out).mono ?_); (case side1 => exact cB (Kd.R_reads' HO_26.out).2.2); rintro e w' ⟨rfl, ⟨nd, rfl⟩⟩))
                    (first | go_roundg k4 | (try subst hji192; go_roundg k4))
                    case measure => have := HJ19.out; have := HJ158.out; have := HK3.out; have := HK4.out; omega
                    case rel => exact ⟨(wrap64 (x384_4 + 1)), sR, H', ⟨by have := HJ19.out; have := HJ158.out; have := HK3.out; have := HK4.out; omega⟩, ⟨by (with_reducible repeat (first | apply Kd.R_alloc | apply Kd.R_drewN | apply Kd.R_drew)); exact Kd.R_mono HO_8.out (fun _ hk => ⟨hk.1.1, hk.1.2⟩)⟩, ⟨by (with_reducible repeat (first | apply Kd.S_alloc | apply Kd.S_drewN | apply Kd.S_drew)); exact Kd.S_mono HO_18.out (fun _ hk => ⟨hk.1.1, ⟨hk.1.2.1, ⟨hk.1.2.2.1, hk.1.2.2.2⟩⟩⟩)⟩, ⟨by (with_reducible repeat (first | apply Kd.R_alloc | apply Kd.R_drewN | apply Kd.R_drew)); exact Kd.R_mono HO_26.out (fun _ hk => ⟨hk.1.1, hk.1.2⟩)⟩, ⟨by (with_reducible repeat (first | apply Kd.R_alloc | apply Kd.R_drewN | apply Kd.R_drew)); exact Kd.R_mono HO_30.out (fun _ hk => ⟨hk.1.1, hk.1.2⟩)⟩, ⟨by (with_reducible repeat (first | apply Kd.S_alloc | apply Kd.S_drewN | apply Kd.S_drew)); exact Kd.S_mono HO_346.out (fun _ hk => ⟨hk.1.1, ⟨hk.1.2.1, ⟨hk.1.2.2.1, hk.1.2.2.2⟩⟩⟩)⟩, ⟨by (with_reducible repeat (first | apply Kd.S_alloc | apply Kd.S_drewN | apply Kd.S_drew)); exact Kd.S_mono HO_662001.out (fun _ hk => ⟨hk.1.1, ⟨hk.1.2.1, ⟨hk.1.2.2.1, ⟨hk.1.2.2.2.1, hk.1.2.2.2.2⟩⟩⟩⟩)⟩, ⟨bP BK661⟩, ⟨by repeat (first | (with_reducible exact HR725_0.out) | (with_reducible refine Kd.C_alloc ?_ _) | (with_reducible refine Kd.C_drewN ?_ _) | (with_reducible refine Kd.C_drew ?_) | exact HR725_0.out)⟩, ⟨bB⟩⟩
                  · rw [if_neg c199] at H
                    have c199b0 := decide_eq_false c199
                    clear c199
                    have H' := am H
                    clear H
                    go_wp2
                    (first | go_roundg k4 | (try subst hji192; go_roundg k4))
                    case measure => have := HJ19.out; have := HJ158.out; have := HK3.out; have := HK4.out; omega
                    case rel => exact ⟨((wrap64 (x42_3 + ((rd_L2 t680 x348_3).length : Int)))), (wrap64 (x348_3 + 1)), sR, sR, H', ⟨by have := HJ19.out; have := HJ158.out; have := HK3.out; have := HK4.out; omega⟩, ⟨rP HO_8⟩, ⟨rP HO_18⟩, ⟨rP HO_26⟩, ⟨rP HO_30⟩, ⟨rP HO_346⟩, ⟨rP HO_662001⟩, ⟨bP BK661⟩, ⟨bB⟩⟩
              · rw [if_neg c191] at H
                have c191b0 : decide (0 < x348_3) = false := decide_eq_false c191
                clear c191
                have H' := am H
                clear H
                have p725 : 0 ≤ (x348_3 : Int) := dT
                have q725 : x348_3 < (t680.length : Int) := dT
                obtain ⟨ad725, A725_0, c725_0, e725, hx725_0, hl725_0, hi725_0⟩ := at_L2 (Kd.S_reads' HO_346.out).2.2 x348_3 p725 q725
                cases e725
                obtain ⟨ce725, hce725, hMe725, hcc725⟩ := Kd.S_get HO_346.out [] x348_3 p725 (by first | exact q725 | exact dT | (have e_ := (Kd.S_reads' HO_346.out).1; omega))
                obtain ⟨ve725_0, rfl, ge725_0⟩ := hMe725
                have hv725_0 := hcc725 0 _ rfl
                rw [Nat.add_zero, show ((Kd.slice 3 (Kd.int .i64))).sz = 1 from rfl, Nat.mul_one] at hv725_0
                replace hv725_0 := Option.some.inj (hv725_0.symm.trans hx725_0)
                rw [hv725_0] at ge725_0
                have HL725_0 := am (show Kd.R (Kd.int .i64) 3 _ _ _ _ (rd_L2 t680 x348_3) from ge725_0)
                clear hv725_0 ge725_0
                clear hcc725 hce725
                have HR725_0 := am hi725_0
                have HC725_0 := am hl725_0
                clear hi725_0 hl725_0
                replace p725 := eq_true p725
                replace q725 := eq_true q725
                try go_wp2
                replace HO_8 := am (Kd.R_drew HO_8.out)
                replace HO_18 := am (Kd.S_drew HO_18.out)
                replace HO_26 := am (Kd.R_drew HO_26.out)
                replace HO_30 := am (Kd.R_drew HO_30.out)
                replace HO_346 := am (Kd.S_drew HO_346.out)
                replace HO_662001 := am (Kd.S_drew HO_662001.out)
                replace HL725_0 := am (Kd.R_drew HL725_0.out)
                replace BK661 := am (blk_drew BK661.out)
                replace HR725_0 := am (Kd.C_drew HR725_0.out)
                replace HB := am (below_drew1 HB.out)
                refine start_ (n := 25) (S := fun w' => True) (ds := []) (bs [0, 25]) (by kernel_rfl) rfl rfl trivial (fun hHeld => ?_); refine with_tabW laws_FnStatesStep.tab35 laws_FnStatesStep.bits35 (fun HT_ HW_ => ?_)
                generalize wr.drew = w213 at HO_8 HO_18 HO_26 HO_30 HO_346 HO_662001 HL725_0 BK661 HR725_0 HB hHeld ⊢
                refine pS 0 (some 353) (bs [1, 24]) ?_
                refine pS 1 (some 354) (bs [2, 23]) ?_
                refine pS 2 (some 355) (bs [3, 22]) ?_
                refine pS 3 (some 356) (bs [4, 21]) ?_
                refine pS 4 (some 357) (bs [5, 20]) ?_
                refine oS 5 (some 358) (bs [6, 19]) (fun K hK => ?_)
                refine goes_ Try.func27 (by kernel_rfl) rfl #[.slice A725_0 (rd_L2 t680 x348_3).length c725_0] (by rfl) rfl rfl aM ?_
                with_reducible refine (laws_uRises.calls k3 _ _ (rd_L2 t680 x348_3) true _ ?side1 HC725_0.out A189.out).mono ?_
                (case side1 => exact cB (by repeat (first | (with_reducible exact HR725_0.out) | (with_reducible refine Kd.C_alloc ?_ _) | (with_reducible refine Kd.C_drewN ?_ _) | (with_reducible refine Kd.C_drew ?_) | exact HR725_0.out)))
                rintro e w' ⟨rfl, ⟨nd, rfl⟩⟩
                refine ⟨_, rfl, ?_⟩
                refine hK.out _ _ trivial (fun hHeld => ?_)
                clear hK K
                refine nS 358 ?_
                refine pS 6 (some 359) (bs [7, 18]) ?_
                refine pS 7 (some 360) (bs [8, 17]) ?_
                refine pS 8 (some 361) (bs [9, 16]) ?_
                refine pS 9 (some 362) (bs [10, 15]) ?_
                refine pS 10 (some 363) (bs [11, 14]) ?_
                refine pS 11 (some 364) (bs [12, 13]) ?_
                refine pU 12 (some 365) (bs [13, 12]) ?_
                refine pU 13 (some 366) (bs [14, 11]) ?_
                refine pU 14 (some 367) (bs [15, 10]) ?_
                refine pU 15 (some 368) (bs [16, 9]) ?_
                refine pU 16 (some 369) (bs [17, 8]) ?_
                refine pU 17 (some 370) (bs [18, 7]) ?_
                refine pU 18 (some 371) (bs [19, 6]) ?_
                refine pU 19 (some 372) (bs [20, 5]) ?_
                refine pU 20 (some 373) (bs [21, 4]) ?_
                refine pU 21 (some 374) (bs [22, 3]) ?_
                refine pU 22 (some 375) (bs [23, 2]) ?_
                refine pS 23 (some 376) (bs [24, 1]) ?_
                refine pS 24 (some 377) (bs [25]) ?_
                refine done_ (done_of HT_.out (by kernel_rfl)) ?_
                try go_wp2
                go_loopg [384] k3 (fun kq v384 w' => ∃ (x384_4 : Int), v384 = .int .i64 x384_4 ∧ Aside0 (laws_FnStatesStep.l2 kq l1 t659 t660 t662 t666 t680 t688 t692 t700 t708 t709 (wrap64 (x42_3 + ((rd_L2 t680 x348_3).length : Int))) (rd_L2 t680 x348_3) t680 (t680.length : Int) x348_3 (rd_L2 t680 x348_3) ((rd_L2 t680 x348_3).length : Int) x384_4 t655 t656 = some true) ∧ Aside0 (kq ≤ k3) ∧ Aside0 (Kd.R (Kd.int .i64) 3 w' w.heap.size (fun k_ => some k_ ≠ (v693 : Value).ownBlock ∧ some k_ ≠ (v701 : Value).ownBlock) v663 t662) ∧ Aside0 (Kd.S (Kd.slice 3 (Kd.int .i64)) 29 w' w.heap.size (fun k_ => some k_ ≠ (v663 : Value).ownBlock ∧ some k_ ≠ (v693 : Value).ownBlock ∧ some k_ ≠ (v701 : Value).ownBlock ∧ some k_ ≠ ((.slice Ao24 t656.length co24) : Value).ownBlock) (.slice (some ad725) t680.length co184) t680) ∧ Aside0 (Kd.R (Kd.int .i64) 3 w' w.heap.size (fun k_ => some k_ ≠ (v663 : Value).ownBlock ∧ some k_ ≠ (v701 : Value).ownBlock) v693 t692) ∧ Aside0 (Kd.R (Kd.int .i64) 3 w' w.heap.size (fun k_ => some k_ ≠ (v663 : Value).ownBlock ∧ some k_ ≠ (v693 : Value).ownBlock) v701 t700) ∧ Aside0 (Kd.S (Kd.slice 3 (Kd.int .i64)) 29 w' w.heap.size (fun k_ => some k_ ≠ (v663 : Value).ownBlock ∧ some k_ ≠ (v693 : Value).ownBlock ∧ some k_ ≠ (v701 : Value).ownBlock ∧ some k_ ≠ ((.slice Ao24 t656.length co24) : Value).ownBlock) (.slice (some ad725) t680.length co184) t680) ∧ Aside0 (Kd.S (Kd.slice 3 (Kd.int .i64)) 29 w' w.heap.size (fun k_ => some k_ ≠ (v663 : Value).ownBlock ∧ some k_ ≠ ((.slice (some ad725) t680.length co184) : Value).ownBlock ∧ some k_ ≠ (v693 : Value).ownBlock ∧ some k_ ≠ (v701 : Value).ownBlock ∧ some k_ ≠ ((.slice (some ad725) t680.length co184) : Value).ownBlock) (.slice Ao24 t656.length co24) t656) ∧ Aside0 (w'.heap[gb661]? = some (.cells #[.int .i64 t655, (.slice Ao24 t656.length co24)] 26 (0, 0))) ∧ Aside0 (Kd.C (Kd.int .i64) w' A725_0 (rd_L2 t680 x348_3).length (rd_L2 t680 x348_3)) ∧ Aside0 (Below w.heap.size w w'))
                case atStart => exact ⟨(0), sR, H', ⟨Nat.le_refl _⟩, ⟨rP HO_8⟩, ⟨rP HO_18⟩, ⟨rP HO_26⟩, ⟨rP HO_30⟩, ⟨rP HO_346⟩, ⟨rP HO_662001⟩, ⟨bP BK661⟩, ⟨by repeat (first | (with_reducible exact HR725_0.out) | (with_reducible refine Kd.C_alloc ?_ _) | (with_reducible refine Kd.C_drewN ?_ _) | (with_reducible refine Kd.C_drew ?_) | exact HR725_0.out)⟩, ⟨bB⟩⟩
                case round => as_aux_lemma =>
                 clear H'
                 obtain ⟨x384_4, rfl, HA, HK4, HO_8, HO_18, HO_26, HO_30, HO_346, HO_662001, BK661, HR725_0, HB⟩ := hrel
                 cases gk with
                 | zero => exact absurd HA.out (by simp [laws_FnStatesStep.l2])
                 | succ k4 =>
                  have H := HA.out
                  clear HA
                  simp only [laws_FnStatesStep.l2] at H
                  by_cases c214 : x384_4 < ((rd_L2 t680 x348_3).length : Int)
                  · rw [if_pos c214] at H
                    have c214b0 := decide_eq_true c214
                    clear c214
                    replace H := ifP H
                    obtain ⟨c215, H⟩ := H
                    have c215b0 := decide_eq_true c215
                    clear c215
                    replace H := ifP H
                    obtain ⟨c216, H⟩ := H
                    have c216b0 := decide_eq_true c216
                    clear c216
                    replace H := bnd H
                    obtain ⟨⟨t731, t734⟩, A217, H⟩ := H
                    (try dsimp only at H)
                    replace H := ifP H
                    obtain ⟨c218, H⟩ := H
                    subst c218
                    replace H := ifP H
                    obtain ⟨c219, H⟩ := H
                    have c219b0 := decide_eq_true c219
                    have c219b1 : decide (0 < (rd_L2 t680 x348_3).length) = true := decide_eq_true (by omega)
                    clear c219
                    replace H := bnd H
                    obtain ⟨t736, A220, H⟩ := H
                    (try dsimp only at H)
                    replace H := ifP H
                    obtain ⟨c221, H⟩ := H
                    subst c221
                    replace H := bnd H
                    obtain ⟨t737, A222, H⟩ := H
                    (try dsimp only at H)
                    replace H := ifN H
                    obtain ⟨c223, H⟩ := H
                    have c223b0 : (t737 != ((t731.length : Int) == ((rd_L2 t680 x348_3).length : Int))) = false := by simpa using c223
                    (try (have c223b1 : decide (t737 = ((t731.length : Int) == ((rd_L2 t680 x348_3).length : Int))) = true := by simpa using c223))
                    (try (have c223b2 : (t737 == ((t731.length : Int) == ((rd_L2 t680 x348_3).length : Int))) = true := by simpa using c223))
                    clear c223
                    have H' := am H
                    clear H
                    have p730 : 0 ≤ (x384_4 : Int) := dT
                    have q730 : x384_4 < ((rd_L2 t680 x348_3).length : Int) := dT
                    obtain ⟨ad730, e730, hx730_0⟩ := Kd.at_int HR725_0.out x384_4 p730 q730
                    cases e730
                    replace p730 := eq_true p730
                    replace q730 := eq_true q730
                    obtain ⟨hcz224_0, hcz224_1, hfz224_0, hfz224_1⟩ := cZ BK661
                    go_wp2_with (first | ((with_reducible refine gate_callee (f := 8) rfl ?_); refine gL 391 Try.func8 #[.agg #[.int .i64 t655, .slice Ao24 t656.length co24], .int .i64 (rd (rd_L2 t680 x348_3) x384_4)] ?_; (with_reducible refine (impl_ReachedStates.calls k4 t655 _ _ t656 (rd (rd_L2 t680 x348_3) x384_4) t731 true _ ?side1 (Kd.S_reads' HO_662001.out).2.1 A217.out).mono ?_); (case side1 => exact cB (Kd.S_reads' HO_662001.out).2.2); rintro e w225 ⟨v732, rfl, ho0, hb⟩; refine ⟨_, rfl, ?_⟩; replace HO_18 := eS HO_18 ho0 hb; replace HO_346 := eS HO_346 ho0 hb; replace HO_662001 := eS HO_662001 ho0 hb; have HO733 := am (Kd.R_lower (Kd.R_new' (Kd.R_new' (Kd.R_new' ho0 (Kd.R_lt (rP HO_8))) (Kd.R_lt (rP HO_26))) (Kd.R_lt (rP HO_30))) (below_size bB)); replace HO_8 := eR HO_8 ho0 hb; replace HO_26 := eR HO_26 ho0 hb; replace HO_30 := eR HO_30 ho0 hb; replace BK661 := kb BK661 hb; replace HR725_0 := am (Kd.C_below (by repeat (first | (with_reducible exact HR725_0.out) | (with_reducible refine Kd.C_alloc ?_ _) | (with_reducible refine Kd.C_drewN ?_ _) | (with_reducible refine Kd.C_drew ?_) | exact HR725_0.out)) hb); replace HB := sB hb; have p735 : 0 ≤ (0 : Int) := (by omega); have q735 : 0 < ((rd_L2 t680 x348_3).length : Int) := dT; obtain ⟨ad735, e735, hx735_0⟩ := Kd.at_int HR725_0.out 0 p735 q735; obtain rfl : ad730 = ad735 := (by injection e735); have qi735 : (0 < (rd_L2 t680 x348_3).length) = True := eq_true (by omega); (try rw [show ((0 : Int)).toNat = 0 from rfl] at hx735_0); (try rw [Addr.add_zero'] at hx735_0); replace p735 := eq_true p735; replace q735 := eq_true q735; obtain ⟨Ao226, co226, eo226⟩ := Kd.R_slice HO733.out; subst eo226) | (go_at_call 26; (with_reducible refine (laws_uHas.calls k4 _ _ t731 (rd (rd_L2 t680 x348_3) 0) true _ ?side1 (Kd.R_reads' HO733.out).2.1 A220.out).mono ?_); (case side1 => exact cB (Kd.R_reads' HO733.out).2.2); rintro e w' ⟨rfl, ⟨nd, rfl⟩⟩; obtain ⟨Ao227, co227, eo227⟩ := Kd.R_slice HO_26.out; subst eo227) | (go_at_call 26; (with_reducible refine (laws_uHas.calls k4 _ _ t692 (rd (rd_L2 t680 x348_3) x384_4) t737 _ ?side1 (Kd.R_reads' HO_26.out).2.1 A222.out).mono ?_); (case side1 => exact cB (Kd.R_reads' HO_26.out).2.2); rintro e w' ⟨rfl, ⟨nd, rfl⟩⟩))
                    (first | go_roundg k4 | (try subst hji192; go_roundg k4))
                    case measure => have := HJ19.out; have := HJ158.out; have := HK3.out; have := HK4.out; omega
                    case rel => exact ⟨(wrap64 (x384_4 + 1)), sR, H', ⟨by have := HJ19.out; have := HJ158.out; have := HK3.out; have := HK4.out; omega⟩, ⟨by (with_reducible repeat (first | apply Kd.R_alloc | apply Kd.R_drewN | apply Kd.R_drew)); exact Kd.R_mono HO_8.out (fun _ hk => ⟨hk.1.1, hk.1.2⟩)⟩, ⟨by (with_reducible repeat (first | apply Kd.S_alloc | apply Kd.S_drewN | apply Kd.S_drew)); exact Kd.S_mono HO_18.out (fun _ hk => ⟨hk.1.1, ⟨hk.1.2.1, ⟨hk.1.2.2.1, hk.1.2.2.2⟩⟩⟩)⟩, ⟨by (with_reducible repeat (first | apply Kd.R_alloc | apply Kd.R_drewN | apply Kd.R_drew)); exact Kd.R_mono HO_26.out (fun _ hk => ⟨hk.1.1, hk.1.2⟩)⟩, ⟨by (with_reducible repeat (first | apply Kd.R_alloc | apply Kd.R_drewN | apply Kd.R_drew)); exact Kd.R_mono HO_30.out (fun _ hk => ⟨hk.1.1, hk.1.2⟩)⟩, ⟨by (with_reducible repeat (first | apply Kd.S_alloc | apply Kd.S_drewN | apply Kd.S_drew)); exact Kd.S_mono HO_346.out (fun _ hk => ⟨hk.1.1, ⟨hk.1.2.1, ⟨hk.1.2.2.1, hk.1.2.2.2⟩⟩⟩)⟩, ⟨by (with_reducible repeat (first | apply Kd.S_alloc | apply Kd.S_drewN | apply Kd.S_drew)); exact Kd.S_mono HO_662001.out (fun _ hk => ⟨hk.1.1, ⟨hk.1.2.1, ⟨hk.1.2.2.1, ⟨hk.1.2.2.2.1, hk.1.2.2.2.2⟩⟩⟩⟩)⟩, ⟨bP BK661⟩, ⟨by repeat (first | (with_reducible exact HR725_0.out) | (with_reducible refine Kd.C_alloc ?_ _) | (with_reducible refine Kd.C_drewN ?_ _) | (with_reducible refine Kd.C_drew ?_) | exact HR725_0.out)⟩, ⟨bB⟩⟩
                  · rw [if_neg c214] at H
                    have c214b0 := decide_eq_false c214
                    clear c214
                    have H' := am H
                    clear H
                    go_wp2
                    (first | go_roundg k4 | (try subst hji192; go_roundg k4))
                    case measure => have := HJ19.out; have := HJ158.out; have := HK3.out; have := HK4.out; omega
                    case rel => exact ⟨((wrap64 (x42_3 + ((rd_L2 t680 x348_3).length : Int)))), (wrap64 (x348_3 + 1)), sR, sR, H', ⟨by have := HJ19.out; have := HJ158.out; have := HK3.out; have := HK4.out; omega⟩, ⟨rP HO_8⟩, ⟨rP HO_18⟩, ⟨rP HO_26⟩, ⟨rP HO_30⟩, ⟨rP HO_346⟩, ⟨rP HO_662001⟩, ⟨bP BK661⟩, ⟨bB⟩⟩
            · rw [if_neg c185] at H
              have c185b0 := decide_eq_false c185
              clear c185
              (first | rw [c185b0] | (simp only [i64_w, i32_w]; rw [c185b0]) | skip)
              by_cases c228 : x42_3 = (t656.length : Int)
              · rw [if_pos c228] at H
                have c228b0 : (x42_3 == (t656.length : Int)) = true := beq_iff_eq.mpr c228
                have c228b1 : (x42_3 != (t656.length : Int)) = false := bne_eq_false_iff_eq.mpr c228
                clear c228
                replace H := ifN H
                obtain ⟨c229, H⟩ := H
                have c229b0 : (t688 != ((t680.length : Int) == 1)) = false := by simpa using c229
                (try (have c229b1 : decide (t688 = ((t680.length : Int) == 1)) = true := by simpa using c229))
                (try (have c229b2 : (t688 == ((t680.length : Int) == 1)) = true := by simpa using c229))
                clear c229
                replace H := ifN H
                obtain ⟨c230, H⟩ := H
                have c230b0 := decide_eq_false c230
                have c230b1 : decide (t692.length < 1) = false := decide_eq_false (by omega)
                clear c230
                replace H := bnd H
                obtain ⟨t738, A231, H⟩ := H
                (try dsimp only at H)
                replace H := ifP H
                obtain ⟨c232, H⟩ := H
                subst c232
                replace H := bnd H
                obtain ⟨t739, A233, H⟩ := H
                (try dsimp only at H)
                replace H := ifP H
                obtain ⟨c234, H⟩ := H
                subst c234
                have H' := am H
                clear H
                obtain ⟨hcz235_0, hcz235_1, hfz235_0, hfz235_1⟩ := cZ BK661
                obtain ⟨Ao236, co236, eo236⟩ := Kd.R_slice HO_26.out
                subst eo236
                go_wp2_with (first | (go_at_call 27; (with_reducible refine (laws_uRises.calls k3 _ _ t692 true _ ?side1 (Kd.R_reads' HO_26.out).2.1 A231.out).mono ?_); (case side1 => exact cB (Kd.R_reads' HO_26.out).2.2); rintro e w' ⟨rfl, ⟨nd, rfl⟩⟩; obtain ⟨Ao237, co237, eo237⟩ := Kd.R_slice HO_30.out; subst eo237) | (go_at_call 27; (with_reducible refine (laws_uRises.calls k3 _ _ t700 true _ ?side1 (Kd.R_reads' HO_30.out).2.1 A233.out).mono ?_); (case side1 => exact cB (Kd.R_reads' HO_30.out).2.2); rintro e w' ⟨rfl, ⟨nd, rfl⟩⟩))
                go_loopg [446] k3 (fun kq v446 w' => ∃ (x446_4 : Int), v446 = .int .i64 x446_4 ∧ Aside0 (laws_FnStatesStep.l3 kq l1 t659 t660 t662 t666 t692 t708 t709 t700 (t700.length : Int) x446_4 t655 t656 = some true) ∧ Aside0 (kq ≤ k3) ∧ Aside0 (Kd.R (Kd.int .i64) 3 w' w.heap.size (fun k_ => some k_ ≠ ((.slice Ao236 t692.length co236) : Value).ownBlock ∧ some k_ ≠ ((.slice Ao237 t700.length co237) : Value).ownBlock) v663 t662) ∧ Aside0 (Kd.R (Kd.int .i64) 3 w' w.heap.size (fun k_ => some k_ ≠ (v663 : Value).ownBlock ∧ some k_ ≠ ((.slice Ao237 t700.length co237) : Value).ownBlock) (.slice Ao236 t692.length co236) t692) ∧ Aside0 (Kd.R (Kd.int .i64) 3 w' w.heap.size (fun k_ => some k_ ≠ (v663 : Value).ownBlock ∧ some k_ ≠ ((.slice Ao236 t692.length co236) : Value).ownBlock) (.slice Ao237 t700.length co237) t700) ∧ Aside0 (Kd.S (Kd.slice 3 (Kd.int .i64)) 29 w' w.heap.size (fun k_ => some k_ ≠ (v663 : Value).ownBlock ∧ some k_ ≠ ((.slice Ao236 t692.length co236) : Value).ownBlock ∧ some k_ ≠ ((.slice Ao237 t700.length co237) : Value).ownBlock) (.slice Ao24 t656.length co24) t656) ∧ Aside0 (w'.heap[gb661]? = some (.cells #[.int .i64 t655, (.slice Ao24 t656.length co24)] 26 (0, 0))) ∧ Aside0 (Below w.heap.size w w'))
                case atStart => exact ⟨(0), sR, H', ⟨Nat.le_refl _⟩, ⟨rP HO_8⟩, ⟨rP HO_26⟩, ⟨rP HO_30⟩, ⟨by (with_reducible repeat (first | apply Kd.S_alloc | apply Kd.S_drewN | apply Kd.S_drew)); exact Kd.S_mono HO_662001.out (fun _ hk => ⟨hk.1, ⟨hk.2.2.1, hk.2.2.2.1⟩⟩)⟩, ⟨bP BK661⟩, ⟨bB⟩⟩
                case round => as_aux_lemma =>
                 clear H'
                 obtain ⟨x446_4, rfl, HA, HK4, HO_8, HO_26, HO_444, HO_662001, BK661, HB⟩ := hrel
                 cases gk with
                 | zero => exact absurd HA.out (by simp [laws_FnStatesStep.l3])
                 | succ k4 =>
                  have H := HA.out
                  clear HA
                  simp only [laws_FnStatesStep.l3] at H
                  by_cases c238 : x446_4 < (t700.length : Int)
                  · rw [if_pos c238] at H
                    have c238b0 := decide_eq_true c238
                    clear c238
                    replace H := ifP H
                    obtain ⟨c239, H⟩ := H
                    have c239b0 := decide_eq_true c239
                    clear c239
                    replace H := ifP H
                    obtain ⟨c240, H⟩ := H
                    have c240b0 := decide_eq_true c240
                    clear c240
                    replace H := bnd H
                    obtain ⟨⟨t741, t742⟩, A241, H⟩ := H
                    (try dsimp only at H)
                    replace H := bnd H
                    obtain ⟨t743, A242, H⟩ := H
                    (try dsimp only at H)
                    replace H := ifP H
                    obtain ⟨c243, H⟩ := H
                    subst c243
                    replace H := ifP H
                    obtain ⟨c244, H⟩ := H
                    have c244b0 := decide_eq_true c244
                    clear c244
                    replace H := ifP H
                    obtain ⟨c245, H⟩ := H
                    have c245b0 := decide_eq_true c245
                    clear c245
                    replace H := ifP H
                    obtain ⟨c246, H⟩ := H
                    have c246b0 := decide_eq_true c246
                    clear c246
                    by_cases c247 : (rd (rd_L2 t656 (rd t700 x446_4)) (rd t700 x446_4)) = t655
                    · rw [if_pos c247] at H
                      have c247b0 : ((rd (rd_L2 t656 (rd t700 x446_4)) (rd t700 x446_4)) == t655) = true := beq_iff_eq.mpr c247
                      have c247b1 : ((rd (rd_L2 t656 (rd t700 x446_4)) (rd t700 x446_4)) != t655) = false := bne_eq_false_iff_eq.mpr c247
                      clear c247
                      replace H := ifP H
                      obtain ⟨c248, H⟩ := H
                      subst c248
                      by_cases c249 : t741 = 1
                      · rw [if_pos c249] at H
                        have c249b0 : (t741 == 1) = true := beq_iff_eq.mpr c249
                        have c249b1 : (t741 != 1) = false := bne_eq_false_iff_eq.mpr c249
                        clear c249
                        have H' := am H
                        clear H
                        have p740 : 0 ≤ (x446_4 : Int) := dT
                        have q740 : x446_4 < (t700.length : Int) := dT
                        obtain ⟨ad740, e740, hx740_0⟩ := Kd.at_int (Kd.R_reads' HO_444.out).2.2 x446_4 p740 q740
                        cases e740
                        replace p740 := eq_true p740
                        replace q740 := eq_true q740
                        obtain ⟨hcz250_0, hcz250_1, hfz250_0, hfz250_1⟩ := cZ BK661
                        try go_wp2_with (first | ((with_reducible refine gate_callee (f := 18) rfl ?_); refine gL 453 Try.func18 #[.agg #[.int .i64 t655, .slice Ao24 t656.length co24], .int .i64 (rd t700 x446_4)] ?_; (with_reducible refine (impl_PeriodOfState.calls k4 t655 _ _ t656 (rd t700 x446_4) t741 true _ ?side1 (Kd.S_reads' HO_662001.out).2.1 A241.out).mono ?_); (case side1 => exact cB (Kd.S_reads' HO_662001.out).2.2); rintro e w251 ⟨rfl, hb⟩; refine ⟨_, rfl, ?_⟩; replace HO_8 := lR HO_8 hb; replace HO_26 := lR HO_26 hb; replace HO_444 := lR HO_444 hb; replace HO_662001 := lS HO_662001 hb; replace BK661 := kb BK661 hb; replace HB := sB hb))
                        replace HO_8 := am (Kd.R_drew HO_8.out)
                        replace HO_26 := am (Kd.R_drew HO_26.out)
                        replace HO_444 := am (Kd.R_drew HO_444.out)
                        replace HO_662001 := am (Kd.S_drew HO_662001.out)
                        replace BK661 := am (blk_drew BK661.out)
                        replace HB := am (below_drew1 HB.out)
                        have p744 : 0 ≤ ((rd t700 x446_4) : Int) := dT
                        have q744 : (rd t700 x446_4) < (t656.length : Int) := dT
                        obtain ⟨ad744, A744_0, c744_0, e744, hx744_0, hl744_0, hi744_0⟩ := at_L2 (Kd.S_reads' HO_662001.out).2.2 (rd t700 x446_4) p744 q744
                        cases e744
                        obtain ⟨ce744, hce744, hMe744, hcc744⟩ := Kd.S_get HO_662001.out [] (rd t700 x446_4) p744 (by first | exact q744 | exact dT | (have e_ := (Kd.S_reads' HO_662001.out).1; omega))
                        obtain ⟨ve744_0, rfl, ge744_0⟩ := hMe744
                        have hv744_0 := hcc744 0 _ rfl
                        rw [Nat.add_zero, show ((Kd.slice 3 (Kd.int .i64))).sz = 1 from rfl, Nat.mul_one] at hv744_0
                        replace hv744_0 := Option.some.inj (hv744_0.symm.trans hx744_0)
                        rw [hv744_0] at ge744_0
                        have HL744_0 := am (show Kd.R (Kd.int .i64) 3 _ _ _ _ (rd_L2 t656 (rd t700 x446_4)) from ge744_0)
                        clear hv744_0 ge744_0
                        clear hcc744 hce744
                        have HR744_0 := am hi744_0
                        have HC744_0 := am hl744_0
                        clear hi744_0 hl744_0
                        replace p744 := eq_true p744
                        replace q744 := eq_true q744
                        have p745 : 0 ≤ ((rd t700 x446_4) : Int) := dT
                        have q745 : (rd t700 x446_4) < ((rd_L2 t656 (rd t700 x446_4)).length : Int) := dT
                        obtain ⟨ad745, e745, hx745_0⟩ := Kd.at_int (by repeat (first | (with_reducible exact HR744_0.out) | (with_reducible refine Kd.C_alloc ?_ _) | (with_reducible refine Kd.C_drewN ?_ _) | (with_reducible refine Kd.C_drew ?_) | exact HR744_0.out)) (rd t700 x446_4) p745 q745
                        cases e745
                        replace p745 := eq_true p745
                        replace q745 := eq_true q745
                        refine start_ (n := 25) (S := fun w' => w'.cell? ⟨gb661, 0, none⟩ = some (.int .i64 t655) ∧ w'.cell? ⟨gb661, 1, none⟩ = some (.slice (some ad744) t656.length co24) ∧ w'.cell? (ad744.add ((rd t700 x446_4)).toNat) = some (.slice (some ad745) (rd_L2 t656 (rd t700 x446_4)).length c744_0) ∧ w'.cell? (ad745.add ((rd t700 x446_4)).toNat) = some (.int .i64 (rd (rd_L2 t656 (rd t700 x446_4)) (rd t700 x446_4)))) (ds := []) (bs [0, 25]) (by kernel_rfl) rfl rfl ⟨(blk_cell BK661.out 0).trans rfl, (blk_cell BK661.out 1).trans rfl, hx744_0, hx745_0⟩ (fun hHeld => ?_); refine with_tabW laws_FnStatesStep.tab52 laws_FnStatesStep.bits52 (fun HT_ HW_ => ?_)
                        generalize w251.drew = w252 at HO_8 HO_26 HO_444 HO_662001 BK661 HB HL744_0 HR744_0 hx744_0 hHeld ⊢
                        refine pS 0 (some 456) (bs [1, 24]) ?_
                        refine pS 1 (some 457) (bs [2, 23]) ?_
                        refine oS 2 (some 458) (bs [3, 22]) (fun K hK => ?_)
                        refine goes_ Try.func26 (by kernel_rfl) rfl #[.slice Ao236 t692.length co236, .int .i64 (rd t700 x446_4)] (by rfl) rfl rfl aM ?_
                        with_reducible refine (laws_uHas.calls k4 _ _ t692 (rd t700 x446_4) true _ ?side1 (Kd.R_reads' HO_26.out).2.1 A242.out).mono ?_
                        (case side1 => exact cB (Kd.R_reads' HO_26.out).2.2)
                        rintro e w' ⟨rfl, ⟨nd, rfl⟩⟩
                        refine ⟨_, rfl, ?_⟩
                        refine hK.out _ _ ⟨(blk_cell BK661.out 0).trans rfl, (blk_cell BK661.out 1).trans rfl, hHeld.2.2.1, hHeld.2.2.2⟩ (fun hHeld => ?_)
                        clear hK K
                        refine nS 458 ?_
                        refine pS 3 (some 459) (bs [4, 21]) ?_
                        refine pS 4 (some 460) (bs [5, 20]) ?_
                        refine pS 5 (some 461) (bs [6, 19]) ?_
                        refine pS 7 (some 463) (bs [6, 1, 1, 17]) ?_
                        refine pS 10 (some 466) (bs [6, 1, 1, 2, 1, 14]) ?_
                        refine pS 13 (some 469) (bs [6, 1, 1, 2, 1, 2, 1, 11]) ?_
                        refine tS 6 (some 462) (bs [8, 2, 1, 2, 1, 11]) ?_
                        refine pS 8 (some 464) (bs [9, 1, 1, 2, 1, 11]) ?_
                        refine tS 9 (some 465) (bs [11, 2, 1, 11]) ?_
                        refine pS 11 (some 467) (bs [12, 1, 1, 11]) ?_
                        refine tS 12 (some 468) (bs [14, 11]) ?_
                        refine tS 14 (some 470) (bs [15, 10]) ?_
                        refine pS 15 (some 471) (bs [16, 9]) ?_
                        refine pS 16 (some 472) (bs [17, 8]) ?_
                        refine pS 17 (some 473) (bs [18, 7]) ?_
                        refine pS 18 (some 474) (bs [19, 6]) ?_
                        refine pS 19 (some 475) (bs [20, 5]) ?_
                        refine pS 20 (some 476) (bs [21, 4]) ?_
                        refine pS 21 (some 477) (bs [22, 3]) ?_
                        refine pS 22 (some 478) (bs [23, 2]) ?_
                        refine pS 23 (some 479) (bs [24, 1]) ?_
                        refine pS 24 (some 480) (bs [25]) ?_
                        refine done_ (done_of HT_.out (by kernel_rfl)) ?_
                        try go_wp2
                        (first | go_roundg k4 | (try subst hji192; go_roundg k4))
                        case measure => have := HJ19.out; have := HJ158.out; have := HK3.out; have := HK4.out; omega
                        case rel => exact ⟨(wrap64 (x446_4 + 1)), sR, H', ⟨by have := HJ19.out; have := HJ158.out; have := HK3.out; have := HK4.out; omega⟩, ⟨rP HO_8⟩, ⟨rP HO_26⟩, ⟨rP HO_444⟩, ⟨rP HO_662001⟩, ⟨bP BK661⟩, ⟨bB⟩⟩
                      · rw [if_neg c249] at H
                        have c249b0 : (t741 == 1) = false := beq_eq_false_iff_ne.mpr c249
                        have c249b1 : (t741 != 1) = true := bne_iff_ne.mpr c249
                        exact absurd H (by simp)
                    · rw [if_neg c247] at H
                      have c247b0 : ((rd (rd_L2 t656 (rd t700 x446_4)) (rd t700 x446_4)) == t655) = false := beq_eq_false_iff_ne.mpr c247
                      have c247b1 : ((rd (rd_L2 t656 (rd t700 x446_4)) (rd t700 x446_4)) != t655) = true := bne_iff_ne.mpr c247
                      exact absurd H (by simp)
                  · rw [if_neg c238] at H
                    have c238b0 := decide_eq_false c238
                    clear c238
                    have H' := am H
                    clear H
                    go_wp2
                    go_meet
                    case rel => exact ⟨_, H', ⟨by have := HJ19.out; have := HJ158.out; have := HK3.out; have := HK4.out; first | omega | exact Nat.le_refl _⟩, ⟨rF (Kd.R_mono HO_8.out (fun _ hk => trivial))⟩, ⟨sF (Kd.S_mono HO_662001.out (fun _ hk => hk.1))⟩, ⟨bP BK661⟩, ⟨bB⟩⟩
              · rw [if_neg c228] at H
                have c228b0 : (x42_3 == (t656.length : Int)) = false := beq_eq_false_iff_ne.mpr c228
                have c228b1 : (x42_3 != (t656.length : Int)) = true := bne_iff_ne.mpr c228
                exact absurd H (by simp)
        · replace c183 := Bool.eq_false_iff.mpr c183
          subst c183
          replace H := ifF H
          have H' := am H
          clear H
          go_wp2
          go_meet
          case rel => exact ⟨_, H', ⟨by have := HJ19.out; have := HJ158.out; first | omega | exact Nat.le_refl _⟩, ⟨rF (Kd.R_mono HO_8.out (fun _ hk => trivial))⟩, ⟨sF (Kd.S_mono HO_662001.out (fun _ hk => hk.1))⟩, ⟨bP BK661⟩, ⟨bB⟩⟩
       case rest => as_aux_lemma =>
        clear HC182
        obtain ⟨kq, HA, HJ181, HO_8, HO_662001, BK661, HB⟩ := hcut
        cases kq with
        | zero => exact absurd HA.out (by simp [laws_FnStatesStep.j6])
        | succ kj181 =>
         have H := HA.out
         clear HA
         simp only [laws_FnStatesStep.j6] at H
         have HC253 := am H
         clear H
         go_upto_region 55 with (fail)
         go_cut [502] from 1 to 0 (fun v502 wc => ∃ (kq : Nat) (x502_252 : Bool), v502 = .bool x502_252 ∧ Aside0 (laws_FnStatesStep.j7 kq l1 x502_252 = some true) ∧ Aside0 (kq ≤ kj181) ∧ Aside0 (Kd.S (Kd.slice 3 (Kd.int .i64)) 29 wc w.heap.size (fun _ => True) (.slice Ao24 t656.length co24) t656) ∧ Aside0 (wc.heap[gb661]? = some (.cells #[.int .i64 t655, (.slice Ao24 t656.length co24)] 26 (0, 0))) ∧ Aside0 (Below w.heap.size w wc))
         case first => as_aux_lemma =>
          have H := HC253.out
          clear HC253
          by_cases c254 : t709 = true
          · subst c254
            replace H := ifT H
            replace H := ifN H
            obtain ⟨c255, H⟩ := H
            have c255b0 := decide_eq_false c255
            clear c255
            (first | rw [c255b0] | (simp only [i64_w, i32_w]; rw [c255b0]) | skip)
            by_cases c256 : t666 = true
            · subst c256
              replace H := ifT H
              replace H := ifN H
              obtain ⟨c257, H⟩ := H
              have c257b0 : (t708 == 0) = false := beq_eq_false_iff_ne.mpr c257
              have c257b1 : (t708 != 0) = true := bne_iff_ne.mpr c257
              by_cases c258 : (Int.tmod t660 t708) = 0
              · rw [if_pos c258] at H
                have c258b0 : ((Int.tmod t660 t708) == 0) = true := beq_iff_eq.mpr c258
                have c258b1 : ((Int.tmod t660 t708) != 0) = false := bne_eq_false_iff_eq.mpr c258
                clear c258
                have H' := am H
                clear H
                go_wp2
                go_meet
                case rel => exact ⟨_, (false), sR, H', ⟨by have := HJ19.out; have := HJ158.out; have := HJ181.out; first | omega | exact Nat.le_refl _⟩, ⟨sF (Kd.S_mono HO_662001.out (fun _ hk => trivial))⟩, ⟨bP BK661⟩, ⟨bB⟩⟩
              · rw [if_neg c258] at H
                have c258b0 : ((Int.tmod t660 t708) == 0) = false := beq_eq_false_iff_ne.mpr c258
                have c258b1 : ((Int.tmod t660 t708) != 0) = true := bne_iff_ne.mpr c258
                replace H := ifP H
                obtain ⟨c259, H⟩ := H
                have c259b0 := decide_eq_true c259
                clear c259
                replace H := ifP H
                obtain ⟨c260, H⟩ := H
                have c260b0 := decide_eq_true c260
                clear c260
                by_cases c261 : (rd t662 t659) = 0
                · rw [if_pos c261] at H
                  have c261b0 : ((rd t662 t659) == 0) = true := beq_iff_eq.mpr c261
                  have c261b1 : ((rd t662 t659) != 0) = false := bne_eq_false_iff_eq.mpr c261
                  clear c261
                  have H' := am H
                  clear H
                  obtain ⟨Ao262, co262, eo262⟩ := Kd.R_slice HO_8.out
                  subst eo262
                  have p746 : 0 ≤ (t659 : Int) := dT
                  have q746 : t659 < (t662.length : Int) := dT
                  obtain ⟨ad746, e746, hx746_0⟩ := Kd.at_int (Kd.R_reads' HO_8.out).2.2 t659 p746 q746
                  cases e746
                  replace p746 := eq_true p746
                  replace q746 := eq_true q746
                  go_wp2
                  go_meet
                  case rel => exact ⟨_, (false), sR, H', ⟨by have := HJ19.out; have := HJ158.out; have := HJ181.out; first | omega | exact Nat.le_refl _⟩, ⟨sF (Kd.S_mono HO_662001.out (fun _ hk => trivial))⟩, ⟨bP BK661⟩, ⟨bB⟩⟩
                · rw [if_neg c261] at H
                  have c261b0 : ((rd t662 t659) == 0) = false := beq_eq_false_iff_ne.mpr c261
                  have c261b1 : ((rd t662 t659) != 0) = true := bne_iff_ne.mpr c261
                  exact absurd H (by simp)
            · replace c256 := Bool.eq_false_iff.mpr c256
              subst c256
              replace H := ifF H
              have H' := am H
              clear H
              go_wp2
              go_meet
              case rel => exact ⟨_, (false), sR, H', ⟨by have := HJ19.out; have := HJ158.out; have := HJ181.out; first | omega | exact Nat.le_refl _⟩, ⟨sF (Kd.S_mono HO_662001.out (fun _ hk => trivial))⟩, ⟨bP BK661⟩, ⟨bB⟩⟩
          · replace c254 := Bool.eq_false_iff.mpr c254
            subst c254
            replace H := ifF H
            have H' := am H
            clear H
            go_wp2
            go_meet
            case rel => exact ⟨_, (false), sR, H', ⟨by have := HJ19.out; have := HJ158.out; have := HJ181.out; first | omega | exact Nat.le_refl _⟩, ⟨sF (Kd.S_mono HO_662001.out (fun _ hk => trivial))⟩, ⟨bP BK661⟩, ⟨bB⟩⟩
         case rest => as_aux_lemma =>
          clear HC253
          obtain ⟨kq, x502_252, rfl, HA, HJ252, HO_662001, BK661, HB⟩ := hcut
          cases kq with
          | zero => exact absurd HA.out (by simp [laws_FnStatesStep.j7])
          | succ kj252 =>
           have H := HA.out
           clear HA
           simp only [laws_FnStatesStep.j7] at H
           replace H := ifN H
           obtain ⟨c263, H⟩ := H
           replace c263 := Bool.eq_false_iff.mpr c263
           subst c263
           replace H := bnd H
           obtain ⟨⟨t747, t748, t751⟩, A264, H⟩ := H
           (try dsimp only at H)
           replace H := bnd H
           obtain ⟨⟨t755, t756, t759⟩, A265, H⟩ := H
           (try dsimp only at H)
           replace H := bnd H
           obtain ⟨⟨t761, t762, t765⟩, A266, H⟩ := H
           (try dsimp only at H)
           replace H := bnd H
           obtain ⟨⟨t767, t768, t771, t772, t773⟩, A267, H⟩ := H
           (try dsimp only at H)
           replace H := bnd H
           obtain ⟨⟨t775, t776⟩, A268, H⟩ := H
           (try dsimp only at H)
           replace H := bnd H
           obtain ⟨⟨t777, t778⟩, A269, H⟩ := H
           (try dsimp only at H)
           replace H := ifN H
           obtain ⟨c270, H⟩ := H
           have c270b0 : (t759 != t765) = false := by simpa using c270
           (try (have c270b1 : decide (t759 = t765) = true := by simpa using c270))
           (try (have c270b2 : (t759 == t765) = true := by simpa using c270))
           clear c270
           replace H := bnd H
           obtain ⟨t779, A271, H⟩ := H
           (try dsimp only at H)
           replace H := ifP H
           obtain ⟨c272, H⟩ := H
           subst c272
           replace H := ifN H
           obtain ⟨c273, H⟩ := H
           have c273b0 : (t776 != t778) = false := by simpa using c273
           (try (have c273b1 : decide (t776 = t778) = true := by simpa using c273))
           (try (have c273b2 : (t776 == t778) = true := by simpa using c273))
           clear c273
           by_cases c274 : t775 = t777
           · rw [if_pos c274] at H
             have c274b0 : (t775 == t777) = true := beq_iff_eq.mpr c274
             have c274b1 : (t775 != t777) = false := bne_eq_false_iff_eq.mpr c274
             clear c274
             by_cases c275 : t759 = true
             · subst c275
               replace H := ifT H
               have H' := am H
               clear H
               go_wp2_with (first | ((with_reducible refine gate_callee (f := 28) rfl ?_); refine gL 505 Try.func28 #[.slice A1 l1.length c1] ?_; (with_reducible refine (spec_DrawRenameStates.calls kj252 _ _ l1 t747 t748 t751 _ ?side1 HC1.out A264.out).mono ?_); (case side1 => exact cH HR1); rintro e w276 ⟨v749, v752, rfl, ho0, ho1, hb⟩; refine ⟨_, rfl, ?_⟩; obtain ⟨bzw276_, hzow276_, hznw276_, hzbw276_⟩ := born_pair hb; have HO750 := am (Kd.S_lower (Kd.S_new' ho0 (Kd.S_lt (rP HO_662001))) (below_size bB)); replace HO_662001 := am (Kd.S_mono (ok' := fun k_ => (((True ∧ some k_ ≠ (v749 : Value).ownBlock) ∧ some k_ ≠ (v752 : Value).ownBlock) ∧ k_ < bzw276_)) (hzow276_ (rP HO_662001)) (fun k_ hk_ => ⟨⟨⟨hk_.1, fun e_ => Nat.not_le.2 hk_.2 (hzbw276_ _ (Kd.S_base ho0 k_ e_.symm))⟩, fun e_ => Nat.not_le.2 hk_.2 (hzbw276_ _ (Kd.R_base ho1 k_ e_.symm))⟩, hk_.2⟩)); have HO753 := am (Kd.R_lower ho1 (below_size bB)); replace BK661 := kb BK661 hb; replace HB := sB hb) | ((with_reducible refine gate_dst (N := 53) rfl ?_); (try (refine gate_guard (by rfl) ?_; dsimp only)); refine bE 53 #[.int .i64 0, .slice none 0 0] 26 ?_; intro gb754 hg w277 hbox hb; replace HO_662001 := lS HO_662001 hb; replace HO750 := lS HO750 hb; replace HO753 := lR HO753 hb; have BK754 := am (hbox); have GW754 := gW hg; have GE754 := gW hg; replace HB := sB hb; have NB661_754 := nK BK661 hg; have NB754_661 := mK BK661 hg; replace BK661 := kb BK661 hb; clear hb hbox hg; have hnb278 := NB754_661.out; have hnc278 := NB661_754.out; obtain ⟨hcz279_0, hcz279_1, hfz279_0, hfz279_1⟩ := cZ BK754; obtain ⟨Ao280, co280, eo280⟩ := Kd.S_slice HO750.out; subst eo280; obtain ⟨Ao281, co281, eo281⟩ := Kd.R_slice HO753.out; subst eo281) | ((with_reducible refine gate_callee (f := 29) rfl ?_); refine gL 511 Try.func29 #[.agg #[.int .i64 t747, .slice Ao280 t748.length co280], .slice Ao281 t751.length co281] ?_; (with_reducible refine (impl_RenameStates.calls kj252 t747 _ _ t748 _ _ t751 t755 t756 true _ ?side1 (Kd.S_reads' HO750.out).2.1 ?side3 (Kd.R_reads' HO753.out).2.1 A265.out).mono ?_); (case side1 => refine (Kd.S_reads' (e := 29) (base := w.heap.size) (ok := fun k_ => (some k_ ≠ (.slice Ao281 t751.length co281 : Value).ownBlock ∧ some k_ ≠ (.slice Ao24 t656.length co24 : Value).ownBlock)) (n := t748.length) (c := co280) ?_).2.2; exact (by (with_reducible repeat (first | apply Kd.S_alloc | apply Kd.S_drewN | apply Kd.S_drew)); exact (Kd.S_mono (Kd.S_far (p := ⟨gb754, 1, none⟩) (Kd.S_far (p := ⟨gb754, 0, none⟩) (Kd.S_types HO750.out BK754.out (by decide)) (fun _ hk => hk.2) (.int .i64 t747)) (fun _ hk => hk.2) (.slice Ao280 t748.length co280)) (fun _ h_ => h_.1)))); (case side3 => refine (Kd.R_reads' (e := 3) (base := w.heap.size) (ok := fun k_ => True) (n := t751.length) (c := co281) ?_).2.2; exact (by (with_reducible repeat (first | apply Kd.R_alloc | apply Kd.R_drewN | apply Kd.R_drew)); exact (Kd.R_mono (Kd.R_far (p := ⟨gb754, 1, none⟩) (Kd.R_far (p := ⟨gb754, 0, none⟩) (Kd.R_types HO753.out BK754.out (by decide)) (fun _ hk => hk.2) (.int .i64 t747)) (fun _ hk => hk.2) (.slice Ao280 t748.length co280)) (fun _ h_ => h_.1)))); rintro e w282 ⟨v757, rfl, ho0, hb⟩; refine ⟨_, rfl, ?_⟩; obtain ⟨bzw282_, hzow282_, hznw282_, hzbw282_⟩ := born_pair hb; have HO758 := am (Kd.S_lower (Kd.S_new' (Kd.S_new' (Kd.S_new' (hznw282_ ho0) (Kd.S_lt (by (with_reducible repeat (first | apply Kd.S_alloc | apply Kd.S_drewN | apply Kd.S_drew)); exact (Kd.S_mono (Kd.S_far (p := ⟨gb754, 1, none⟩) (Kd.S_far (p := ⟨gb754, 0, none⟩) (Kd.S_types HO_662001.out BK754.out (by decide)) (fun _ hk => hk.2) (.int .i64 t747)) (fun _ hk => hk.2) (.slice Ao280 t748.length co280)) (fun _ h_ => h_.1))))) (Kd.S_lt (by (with_reducible repeat (first | apply Kd.S_alloc | apply Kd.S_drewN | apply Kd.S_drew)); exact (Kd.S_mono (Kd.S_far (p := ⟨gb754, 1, none⟩) (Kd.S_far (p := ⟨gb754, 0, none⟩) (Kd.S_types HO750.out BK754.out (by decide)) (fun _ hk => hk.2) (.int .i64 t747)) (fun _ hk => hk.2) (.slice Ao280 t748.length co280)) (fun _ h_ => h_.1))))) (Kd.R_lt (by (with_reducible repeat (first | apply Kd.R_alloc | apply Kd.R_drewN | apply Kd.R_drew)); exact (Kd.R_mono (Kd.R_far (p := ⟨gb754, 1, none⟩) (Kd.R_far (p := ⟨gb754, 0, none⟩) (Kd.R_types HO753.out BK754.out (by decide)) (fun _ hk => hk.2) (.int .i64 t747)) (fun _ hk => hk.2) (.slice Ao280 t748.length co280)) (fun _ h_ => h_.1))))) (below_size bB)); replace HO_662001 := am (Kd.S_mono (ok' := fun k_ => (((((True ∧ some k_ ≠ (.slice Ao280 t748.length co280 : Value).ownBlock) ∧ some k_ ≠ (.slice Ao281 t751.length co281 : Value).ownBlock) ∧ k_ < bzw276_) ∧ some k_ ≠ (v757 : Value).ownBlock) ∧ k_ < bzw282_)) (hzow282_ (by (with_reducible repeat (first | apply Kd.S_alloc | apply Kd.S_drewN | apply Kd.S_drew)); exact (Kd.S_mono (Kd.S_far (p := ⟨gb754, 1, none⟩) (Kd.S_far (p := ⟨gb754, 0, none⟩) (Kd.S_types HO_662001.out BK754.out (by decide)) (fun _ hk => hk.2) (.int .i64 t747)) (fun _ hk => hk.2) (.slice Ao280 t748.length co280)) (fun _ h_ => h_.1)))) (fun k_ hk_ => ⟨⟨hk_.1, fun e_ => Nat.not_le.2 hk_.2 (hzbw282_ _ (Kd.S_base ho0 k_ e_.symm))⟩, hk_.2⟩)); replace HO750 := am (Kd.S_mono (ok' := fun k_ => (((some k_ ≠ (.slice Ao281 t751.length co281 : Value).ownBlock ∧ some k_ ≠ (.slice Ao24 t656.length co24 : Value).ownBlock) ∧ some k_ ≠ (v757 : Value).ownBlock) ∧ k_ < bzw282_)) (hzow282_ (by (with_reducible repeat (first | apply Kd.S_alloc | apply Kd.S_drewN | apply Kd.S_drew)); exact (Kd.S_mono (Kd.S_far (p := ⟨gb754, 1, none⟩) (Kd.S_far (p := ⟨gb754, 0, none⟩) (Kd.S_types HO750.out BK754.out (by decide)) (fun _ hk => hk.2) (.int .i64 t747)) (fun _ hk => hk.2) (.slice Ao280 t748.length co280)) (fun _ h_ => h_.1)))) (fun k_ hk_ => ⟨⟨hk_.1, fun e_ => Nat.not_le.2 hk_.2 (hzbw282_ _ (Kd.S_base ho0 k_ e_.symm))⟩, hk_.2⟩)); replace HO753 := am (Kd.R_below (by (with_reducible repeat (first | apply Kd.R_alloc | apply Kd.R_drewN | apply Kd.R_drew)); exact (Kd.R_mono (Kd.R_far (p := ⟨gb754, 1, none⟩) (Kd.R_far (p := ⟨gb754, 0, none⟩) (Kd.R_types HO753.out BK754.out (by decide)) (fun _ hk => hk.2) (.int .i64 t747)) (fun _ hk => hk.2) (.slice Ao280 t748.length co280)) (fun _ h_ => h_.1))) hb); replace BK661 := am (blk_below (g := gb661) (o := .cells #[.int .i64 t655, .slice Ao24 t656.length co24] 26 (0, 0)) (by (with_reducible repeat (first | refine blk_drewN ?_ _ | refine blk_drew ?_ | refine blk_alloc ?_ _)); refine blk_far ?_ NB661_754.out _; (with_reducible repeat (first | refine blk_drewN ?_ _ | refine blk_drew ?_ | refine blk_alloc ?_ _)); refine blk_far ?_ NB661_754.out _; (with_reducible repeat (first | refine blk_drewN ?_ _ | refine blk_drew ?_ | refine blk_alloc ?_ _)); exact BK661.out) hb); replace BK754 := am (blk_below (g := gb754) (o := .cells #[.int .i64 t747, .slice Ao280 t748.length co280] 26 (0, 0)) (by (with_reducible repeat (first | refine blk_drewN ?_ _ | refine blk_drew ?_ | refine blk_alloc ?_ _)); refine blk_put (cs := #[.int .i64 t747, .slice none 0 0]) ?_ 1 _ rfl; (with_reducible repeat (first | refine blk_drewN ?_ _ | refine blk_drew ?_ | refine blk_alloc ?_ _)); refine blk_put (cs := #[.int .i64 0, .slice none 0 0]) ?_ 0 _ rfl; (with_reducible repeat (first | refine blk_drewN ?_ _ | refine blk_drew ?_ | refine blk_alloc ?_ _)); exact BK754.out) hb); replace HB := sB hb) | ((with_reducible refine gate_dst (N := 55) rfl ?_); (try (refine gate_guard (by rfl) ?_; dsimp only)); refine bE 55 #[.int .i64 0, .slice none 0 0] 26 ?_; intro gb760 hg w283 hbox hb; replace HO_662001 := lS HO_662001 hb; replace HO750 := lS HO750 hb; replace HO753 := lR HO753 hb; replace HO758 := lS HO758 hb; have BK760 := am (hbox); have GW760 := gW hg; have GE760 := gW hg; replace HB := sB hb; have NB661_760 := nK BK661 hg; have NB760_661 := mK BK661 hg; replace BK661 := kb BK661 hb; have NB754_760 := nK BK754 hg; have NB760_754 := mK BK754 hg; replace BK754 := kb BK754 hb; clear hb hbox hg; have hnb284 := NB760_661.out; have hnc284 := NB661_760.out; have hnb285 := NB760_754.out; have hnc285 := NB754_760.out; obtain ⟨hcz286_0, hcz286_1, hfz286_0, hfz286_1⟩ := cZ BK760; obtain ⟨Ao287, co287, eo287⟩ := Kd.S_slice HO758.out; subst eo287; obtain ⟨hcz288_0, hcz288_1, hfz288_0, hfz288_1⟩ := cZ BK754) | ((with_reducible refine gate_callee (f := 30) rfl ?_); refine gL 517 Try.func30 #[.agg #[.int .i64 t747, .slice Ao280 t748.length co280], .slice Ao281 t751.length co281] ?_; (with_reducible refine (spec_RenameStates.calls kj252 t747 _ _ t748 _ _ t751 t761 t762 t765 _ ?side1 (Kd.S_reads' HO750.out).2.1 ?side3 (Kd.R_reads' HO753.out).2.1 A266.out).mono ?_); (case side1 => refine (Kd.S_reads' (e := 29) (base := w.heap.size) (ok := fun k_ => (((some k_ ≠ (.slice Ao281 t751.length co281 : Value).ownBlock ∧ some k_ ≠ (.slice Ao24 t656.length co24 : Value).ownBlock) ∧ some k_ ≠ (.slice Ao287 t756.length co287 : Value).ownBlock) ∧ k_ < bzw282_)) (n := t748.length) (c := co280) ?_).2.2; exact (by (with_reducible repeat (first | apply Kd.S_alloc | apply Kd.S_drewN | apply Kd.S_drew)); exact (Kd.S_mono (Kd.S_far (p := ⟨gb760, 1, none⟩) (Kd.S_far (p := ⟨gb760, 0, none⟩) (Kd.S_types HO750.out BK760.out (by decide)) (fun _ hk => hk.2) (.int .i64 t755)) (fun _ hk => hk.2) (.slice Ao287 t756.length co287)) (fun _ h_ => h_.1)))); (case side3 => refine (Kd.R_reads' (e := 3) (base := w.heap.size) (ok := fun k_ => True) (n := t751.length) (c := co281) ?_).2.2; exact (by (with_reducible repeat (first | apply Kd.R_alloc | apply Kd.R_drewN | apply Kd.R_drew)); exact (Kd.R_mono (Kd.R_far (p := ⟨gb760, 1, none⟩) (Kd.R_far (p := ⟨gb760, 0, none⟩) (Kd.R_types HO753.out BK760.out (by decide)) (fun _ hk => hk.2) (.int .i64 t755)) (fun _ hk => hk.2) (.slice Ao287 t756.length co287)) (fun _ h_ => h_.1)))); rintro e w289 ⟨v763, rfl, ho0, hb⟩; refine ⟨_, rfl, ?_⟩; obtain ⟨bzw289_, hzow289_, hznw289_, hzbw289_⟩ := born_pair hb; have HO764 := am (Kd.S_lower (Kd.S_new' (Kd.S_new' (Kd.S_new' (Kd.S_new' (hznw289_ ho0) (Kd.S_lt (by (with_reducible repeat (first | apply Kd.S_alloc | apply Kd.S_drewN | apply Kd.S_drew)); exact (Kd.S_mono (Kd.S_far (p := ⟨gb760, 1, none⟩) (Kd.S_far (p := ⟨gb760, 0, none⟩) (Kd.S_types HO_662001.out BK760.out (by decide)) (fun _ hk => hk.2) (.int .i64 t755)) (fun _ hk => hk.2) (.slice Ao287 t756.length co287)) (fun _ h_ => h_.1))))) (Kd.S_lt (by (with_reducible repeat (first | apply Kd.S_alloc | apply Kd.S_drewN | apply Kd.S_drew)); exact (Kd.S_mono (Kd.S_far (p := ⟨gb760, 1, none⟩) (Kd.S_far (p := ⟨gb760, 0, none⟩) (Kd.S_types HO750.out BK760.out (by decide)) (fun _ hk => hk.2) (.int .i64 t755)) (fun _ hk => hk.2) (.slice Ao287 t756.length co287)) (fun _ h_ => h_.1))))) (Kd.R_lt (by (with_reducible repeat (first | apply Kd.R_alloc | apply Kd.R_drewN | apply Kd.R_drew)); exact (Kd.R_mono (Kd.R_far (p := ⟨gb760, 1, none⟩) (Kd.R_far (p := ⟨gb760, 0, none⟩) (Kd.R_types HO753.out BK760.out (by decide)) (fun _ hk => hk.2) (.int .i64 t755)) (fun _ hk => hk.2) (.slice Ao287 t756.length co287)) (fun _ h_ => h_.1))))) (Kd.S_lt (by (with_reducible repeat (first | apply Kd.S_alloc | apply Kd.S_drewN | apply Kd.S_drew)); exact (Kd.S_mono (Kd.S_far (p := ⟨gb760, 1, none⟩) (Kd.S_far (p := ⟨gb760, 0, none⟩) (Kd.S_types HO758.out BK760.out (by decide)) (fun _ hk => hk.2) (.int .i64 t755)) (fun _ hk => hk.2) (.slice Ao287 t756.length co287)) (fun _ h_ => h_.1))))) (below_size bB)); replace HO_662001 := am (Kd.S_mono (ok' := fun k_ => (((((((True ∧ some k_ ≠ (.slice Ao280 t748.length co280 : Value).ownBlock) ∧ some k_ ≠ (.slice Ao281 t751.length co281 : Value).ownBlock) ∧ k_ < bzw276_) ∧ some k_ ≠ (.slice Ao287 t756.length co287 : Value).ownBlock) ∧ k_ < bzw282_) ∧ some k_ ≠ (v763 : Value).ownBlock) ∧ k_ < bzw289_)) (hzow289_ (by (with_reducible repeat (first | apply Kd.S_alloc | apply Kd.S_drewN | apply Kd.S_drew)); exact (Kd.S_mono (Kd.S_far (p := ⟨gb760, 1, none⟩) (Kd.S_far (p := ⟨gb760, 0, none⟩) (Kd.S_types HO_662001.out BK760.out (by decide)) (fun _ hk => hk.2) (.int .i64 t755)) (fun _ hk => hk.2) (.slice Ao287 t756.length co287)) (fun _ h_ => h_.1)))) (fun k_ hk_ => ⟨⟨hk_.1, fun e_ => Nat.not_le.2 hk_.2 (hzbw289_ _ (Kd.S_base ho0 k_ e_.symm))⟩, hk_.2⟩)); replace HO750 := am (Kd.S_mono (ok' := fun k_ => (((((some k_ ≠ (.slice Ao281 t751.length co281 : Value).ownBlock ∧ some k_ ≠ (.slice Ao24 t656.length co24 : Value).ownBlock) ∧ some k_ ≠ (.slice Ao287 t756.length co287 : Value).ownBlock) ∧ k_ < bzw282_) ∧ some k_ ≠ (v763 : Value).ownBlock) ∧ k_ < bzw289_)) (hzow289_ (by (with_reducible repeat (first | apply Kd.S_alloc | apply Kd.S_drewN | apply Kd.S_drew)); exact (Kd.S_mono (Kd.S_far (p := ⟨gb760, 1, none⟩) (Kd.S_far (p := ⟨gb760, 0, none⟩) (Kd.S_types HO750.out BK760.out (by decide)) (fun _ hk => hk.2) (.int .i64 t755)) (fun _ hk => hk.2) (.slice Ao287 t756.length co287)) (fun _ h_ => h_.1)))) (fun k_ hk_ => ⟨⟨hk_.1, fun e_ => Nat.not_le.2 hk_.2 (hzbw289_ _ (Kd.S_base ho0 k_ e_.symm))⟩, hk_.2⟩)); replace HO753 := am (Kd.R_below (by (with_reducible repeat (first | apply Kd.R_alloc | apply Kd.R_drewN | apply Kd.R_drew)); exact (Kd.R_mono (Kd.R_far (p := ⟨gb760, 1, none⟩) (Kd.R_far (p := ⟨gb760, 0, none⟩) (Kd.R_types HO753.out BK760.out (by decide)) (fun _ hk => hk.2) (.int .i64 t755)) (fun _ hk => hk.2) (.slice Ao287 t756.length co287)) (fun _ h_ => h_.1))) hb); replace HO758 := am (Kd.S_mono (ok' := fun k_ => ((((((True ∧ bzw282_ ≤ k_) ∧ some k_ ≠ (.slice Ao24 t656.length co24 : Value).ownBlock) ∧ some k_ ≠ (.slice Ao280 t748.length co280 : Value).ownBlock) ∧ some k_ ≠ (.slice Ao281 t751.length co281 : Value).ownBlock) ∧ some k_ ≠ (v763 : Value).ownBlock) ∧ k_ < bzw289_)) (hzow289_ (by (with_reducible repeat (first | apply Kd.S_alloc | apply Kd.S_drewN | apply Kd.S_drew)); exact (Kd.S_mono (Kd.S_far (p := ⟨gb760, 1, none⟩) (Kd.S_far (p := ⟨gb760, 0, none⟩) (Kd.S_types HO758.out BK760.out (by decide)) (fun _ hk => hk.2) (.int .i64 t755)) (fun _ hk => hk.2) (.slice Ao287 t756.length co287)) (fun _ h_ => h_.1)))) (fun k_ hk_ => ⟨⟨hk_.1, fun e_ => Nat.not_le.2 hk_.2 (hzbw289_ _ (Kd.S_base ho0 k_ e_.symm))⟩, hk_.2⟩)); replace BK661 := am (blk_below (g := gb661) (o := .cells #[.int .i64 t655, .slice Ao24 t656.length co24] 26 (0, 0)) (by (with_reducible repeat (first | refine blk_drewN ?_ _ | refine blk_drew ?_ | refine blk_alloc ?_ _)); refine blk_far ?_ NB661_760.out _; (with_reducible repeat (first | refine blk_drewN ?_ _ | refine blk_drew ?_ | refine blk_alloc ?_ _)); refine blk_far ?_ NB661_760.out _; (with_reducible repeat (first | refine blk_drewN ?_ _ | refine blk_drew ?_ | refine blk_alloc ?_ _)); exact BK661.out) hb); replace BK754 := am (blk_below (g := gb754) (o := .cells #[.int .i64 t747, .slice Ao280 t748.length co280] 26 (0, 0)) (by (with_reducible repeat (first | refine blk_drewN ?_ _ | refine blk_drew ?_ | refine blk_alloc ?_ _)); refine blk_far ?_ NB754_760.out _; (with_reducible repeat (first | refine blk_drewN ?_ _ | refine blk_drew ?_ | refine blk_alloc ?_ _)); refine blk_far ?_ NB754_760.out _; (with_reducible repeat (first | refine blk_drewN ?_ _ | refine blk_drew ?_ | refine blk_alloc ?_ _)); exact BK754.out) hb); replace BK760 := am (blk_below (g := gb760) (o := .cells #[.int .i64 t755, .slice Ao287 t756.length co287] 26 (0, 0)) (by (with_reducible repeat (first | refine blk_drewN ?_ _ | refine blk_drew ?_ | refine blk_alloc ?_ _)); refine blk_put (cs := #[.int .i64 t755, .slice none 0 0]) ?_ 1 _ rfl; (with_reducible repeat (first | refine blk_drewN ?_ _ | refine blk_drew ?_ | refine blk_alloc ?_ _)); refine blk_put (cs := #[.int .i64 0, .slice none 0 0]) ?_ 0 _ rfl; (with_reducible repeat (first | refine blk_drewN ?_ _ | refine blk_drew ?_ | refine blk_alloc ?_ _)); exact BK760.out) hb); replace HB := sB hb) | ((with_reducible refine gate_dst (N := 57) rfl ?_); (try (refine gate_guard (by rfl) ?_; dsimp only)); refine bE 57 #[.int .i64 0, .slice none 0 0] 26 ?_; intro gb766 hg w290 hbox hb; replace HO_662001 := lS HO_662001 hb; replace HO750 := lS HO750 hb; replace HO753 := lR HO753 hb; replace HO758 := lS HO758 hb; replace HO764 := lS HO764 hb; have BK766 := am (hbox); have GW766 := gW hg; have GE766 := gW hg; replace HB := sB hb; have NB661_766 := nK BK661 hg; have NB766_661 := mK BK661 hg; replace BK661 := kb BK661 hb; have NB754_766 := nK BK754 hg; have NB766_754 := mK BK754 hg; replace BK754 := kb BK754 hb; have NB760_766 := nK BK760 hg; have NB766_760 := mK BK760 hg; replace BK760 := kb BK760 hb; clear hb hbox hg; have hnb291 := NB766_661.out; have hnc291 := NB661_766.out; have hnb292 := NB766_754.out; have hnc292 := NB754_766.out; have hnb293 := NB766_760.out; have hnc293 := NB760_766.out; obtain ⟨hcz294_0, hcz294_1, hfz294_0, hfz294_1⟩ := cZ BK766; obtain ⟨Ao295, co295, eo295⟩ := Kd.S_slice HO764.out; subst eo295) | ((with_reducible refine gate_callee (f := 31) rfl ?_); refine gL 522 Try.func31 #[.slice A1 l1.length c1] ?_; (with_reducible refine (spec_DrawCountWays.calls kj252 _ _ l1 t767 t768 t771 t772 t773 _ ?side1 HC1.out A267.out).mono ?_); (case side1 => exact Kd.C_below HR1.out bB); rintro e w296 ⟨v769, rfl, ho0, hb⟩; refine ⟨_, rfl, ?_⟩; obtain ⟨bzw296_, hzow296_, hznw296_, hzbw296_⟩ := born_pair hb; have HO770 := am (Kd.S_lower (Kd.S_new' (Kd.S_new' (Kd.S_new' (Kd.S_new' (Kd.S_new' (hznw296_ ho0) (Kd.S_lt (by (with_reducible repeat (first | apply Kd.S_alloc | apply Kd.S_drewN | apply Kd.S_drew)); exact (Kd.S_mono (Kd.S_far (p := ⟨gb766, 1, none⟩) (Kd.S_far (p := ⟨gb766, 0, none⟩) (Kd.S_types HO_662001.out BK766.out (by decide)) (fun _ hk => hk.2) (.int .i64 t761)) (fun _ hk => hk.2) (.slice Ao295 t762.length co295)) (fun _ h_ => h_.1))))) (Kd.S_lt (by (with_reducible repeat (first | apply Kd.S_alloc | apply Kd.S_drewN | apply Kd.S_drew)); exact (Kd.S_mono (Kd.S_far (p := ⟨gb766, 1, none⟩) (Kd.S_far (p := ⟨gb766, 0, none⟩) (Kd.S_types HO750.out BK766.out (by decide)) (fun _ hk => hk.2) (.int .i64 t761)) (fun _ hk => hk.2) (.slice Ao295 t762.length co295)) (fun _ h_ => h_.1))))) (Kd.R_lt (by (with_reducible repeat (first | apply Kd.R_alloc | apply Kd.R_drewN | apply Kd.R_drew)); exact (Kd.R_mono (Kd.R_far (p := ⟨gb766, 1, none⟩) (Kd.R_far (p := ⟨gb766, 0, none⟩) (Kd.R_types HO753.out BK766.out (by decide)) (fun _ hk => hk.2) (.int .i64 t761)) (fun _ hk => hk.2) (.slice Ao295 t762.length co295)) (fun _ h_ => h_.1))))) (Kd.S_lt (by (with_reducible repeat (first | apply Kd.S_alloc | apply Kd.S_drewN | apply Kd.S_drew)); exact (Kd.S_mono (Kd.S_far (p := ⟨gb766, 1, none⟩) (Kd.S_far (p := ⟨gb766, 0, none⟩) (Kd.S_types HO758.out BK766.out (by decide)) (fun _ hk => hk.2) (.int .i64 t761)) (fun _ hk => hk.2) (.slice Ao295 t762.length co295)) (fun _ h_ => h_.1))))) (Kd.S_lt (by (with_reducible repeat (first | apply Kd.S_alloc | apply Kd.S_drewN | apply Kd.S_drew)); exact (Kd.S_mono (Kd.S_far (p := ⟨gb766, 1, none⟩) (Kd.S_far (p := ⟨gb766, 0, none⟩) (Kd.S_types HO764.out BK766.out (by decide)) (fun _ hk => hk.2) (.int .i64 t761)) (fun _ hk => hk.2) (.slice Ao295 t762.length co295)) (fun _ h_ => h_.1))))) (below_size bB)); replace HO_662001 := am (Kd.S_mono (ok' := fun k_ => (((((((((True ∧ some k_ ≠ (.slice Ao280 t748.length co280 : Value).ownBlock) ∧ some k_ ≠ (.slice Ao281 t751.length co281 : Value).ownBlock) ∧ k_ < bzw276_) ∧ some k_ ≠ (.slice Ao287 t756.length co287 : Value).ownBlock) ∧ k_ < bzw282_) ∧ some k_ ≠ (.slice Ao295 t762.length co295 : Value).ownBlock) ∧ k_ < bzw289_) ∧ some k_ ≠ (v769 : Value).ownBlock) ∧ k_ < bzw296_)) (hzow296_ (by (with_reducible repeat (first | apply Kd.S_alloc | apply Kd.S_drewN | apply Kd.S_drew)); exact (Kd.S_mono (Kd.S_far (p := ⟨gb766, 1, none⟩) (Kd.S_far (p := ⟨gb766, 0, none⟩) (Kd.S_types HO_662001.out BK766.out (by decide)) (fun _ hk => hk.2) (.int .i64 t761)) (fun _ hk => hk.2) (.slice Ao295 t762.length co295)) (fun _ h_ => h_.1)))) (fun k_ hk_ => ⟨⟨hk_.1, fun e_ => Nat.not_le.2 hk_.2 (hzbw296_ _ (Kd.S_base ho0 k_ e_.symm))⟩, hk_.2⟩)); replace HO750 := am (Kd.S_mono (ok' := fun k_ => (((((((some k_ ≠ (.slice Ao281 t751.length co281 : Value).ownBlock ∧ some k_ ≠ (.slice Ao24 t656.length co24 : Value).ownBlock) ∧ some k_ ≠ (.slice Ao287 t756.length co287 : Value).ownBlock) ∧ k_ < bzw282_) ∧ some k_ ≠ (.slice Ao295 t762.length co295 : Value).ownBlock) ∧ k_ < bzw289_) ∧ some k_ ≠ (v769 : Value).ownBlock) ∧ k_ < bzw296_)) (hzow296_ (by (with_reducible repeat (first | apply Kd.S_alloc | apply Kd.S_drewN | apply Kd.S_drew)); exact (Kd.S_mono (Kd.S_far (p := ⟨gb766, 1, none⟩) (Kd.S_far (p := ⟨gb766, 0, none⟩) (Kd.S_types HO750.out BK766.out (by decide)) (fun _ hk => hk.2) (.int .i64 t761)) (fun _ hk => hk.2) (.slice Ao295 t762.length co295)) (fun _ h_ => h_.1)))) (fun k_ hk_ => ⟨⟨hk_.1, fun e_ => Nat.not_le.2 hk_.2 (hzbw296_ _ (Kd.S_base ho0 k_ e_.symm))⟩, hk_.2⟩)); replace HO753 := am (Kd.R_below (by (with_reducible repeat (first | apply Kd.R_alloc | apply Kd.R_drewN | apply Kd.R_drew)); exact (Kd.R_mono (Kd.R_far (p := ⟨gb766, 1, none⟩) (Kd.R_far (p := ⟨gb766, 0, none⟩) (Kd.R_types HO753.out BK766.out (by decide)) (fun _ hk => hk.2) (.int .i64 t761)) (fun _ hk => hk.2) (.slice Ao295 t762.length co295)) (fun _ h_ => h_.1))) hb); replace HO758 := am (Kd.S_mono (ok' := fun k_ => ((((((((True ∧ bzw282_ ≤ k_) ∧ some k_ ≠ (.slice Ao24 t656.length co24 : Value).ownBlock) ∧ some k_ ≠ (.slice Ao280 t748.length co280 : Value).ownBlock) ∧ some k_ ≠ (.slice Ao281 t751.length co281 : Value).ownBlock) ∧ some k_ ≠ (.slice Ao295 t762.length co295 : Value).ownBlock) ∧ k_ < bzw289_) ∧ some k_ ≠ (v769 : Value).ownBlock) ∧ k_ < bzw296_)) (hzow296_ (by (with_reducible repeat (first | apply Kd.S_alloc | apply Kd.S_drewN | apply Kd.S_drew)); exact (Kd.S_mono (Kd.S_far (p := ⟨gb766, 1, none⟩) (Kd.S_far (p := ⟨gb766, 0, none⟩) (Kd.S_types HO758.out BK766.out (by decide)) (fun _ hk => hk.2) (.int .i64 t761)) (fun _ hk => hk.2) (.slice Ao295 t762.length co295)) (fun _ h_ => h_.1)))) (fun k_ hk_ => ⟨⟨hk_.1, fun e_ => Nat.not_le.2 hk_.2 (hzbw296_ _ (Kd.S_base ho0 k_ e_.symm))⟩, hk_.2⟩)); replace HO764 := am (Kd.S_mono (ok' := fun k_ => (((((((True ∧ bzw289_ ≤ k_) ∧ some k_ ≠ (.slice Ao24 t656.length co24 : Value).ownBlock) ∧ some k_ ≠ (.slice Ao280 t748.length co280 : Value).ownBlock) ∧ some k_ ≠ (.slice Ao281 t751.length co281 : Value).ownBlock) ∧ some k_ ≠ (.slice Ao287 t756.length co287 : Value).ownBlock) ∧ some k_ ≠ (v769 : Value).ownBlock) ∧ k_ < bzw296_)) (hzow296_ (by (with_reducible repeat (first | apply Kd.S_alloc | apply Kd.S_drewN | apply Kd.S_drew)); exact (Kd.S_mono (Kd.S_far (p := ⟨gb766, 1, none⟩) (Kd.S_far (p := ⟨gb766, 0, none⟩) (Kd.S_types HO764.out BK766.out (by decide)) (fun _ hk => hk.2) (.int .i64 t761)) (fun _ hk => hk.2) (.slice Ao295 t762.length co295)) (fun _ h_ => h_.1)))) (fun k_ hk_ => ⟨⟨hk_.1, fun e_ => Nat.not_le.2 hk_.2 (hzbw296_ _ (Kd.S_base ho0 k_ e_.symm))⟩, hk_.2⟩)); replace BK661 := am (blk_below (g := gb661) (o := .cells #[.int .i64 t655, .slice Ao24 t656.length co24] 26 (0, 0)) (by (with_reducible repeat (first | refine blk_drewN ?_ _ | refine blk_drew ?_ | refine blk_alloc ?_ _)); refine blk_far ?_ NB661_766.out _; (with_reducible repeat (first | refine blk_drewN ?_ _ | refine blk_drew ?_ | refine blk_alloc ?_ _)); refine blk_far ?_ NB661_766.out _; (with_reducible repeat (first | refine blk_drewN ?_ _ | refine blk_drew ?_ | refine blk_alloc ?_ _)); exact BK661.out) hb); replace BK754 := am (blk_below (g := gb754) (o := .cells #[.int .i64 t747, .slice Ao280 t748.length co280] 26 (0, 0)) (by (with_reducible repeat (first | refine blk_drewN ?_ _ | refine blk_drew ?_ | refine blk_alloc ?_ _)); refine blk_far ?_ NB754_766.out _; (with_reducible repeat (first | refine blk_drewN ?_ _ | refine blk_drew ?_ | refine blk_alloc ?_ _)); refine blk_far ?_ NB754_766.out _; (with_reducible repeat (first | refine blk_drewN ?_ _ | refine blk_drew ?_ | refine blk_alloc ?_ _)); exact BK754.out) hb); replace BK760 := am (blk_below (g := gb760) (o := .cells #[.int .i64 t755, .slice Ao287 t756.length co287] 26 (0, 0)) (by (with_reducible repeat (first | refine blk_drewN ?_ _ | refine blk_drew ?_ | refine blk_alloc ?_ _)); refine blk_far ?_ NB760_766.out _; (with_reducible repeat (first | refine blk_drewN ?_ _ | refine blk_drew ?_ | refine blk_alloc ?_ _)); refine blk_far ?_ NB760_766.out _; (with_reducible repeat (first | refine blk_drewN ?_ _ | refine blk_drew ?_ | refine blk_alloc ?_ _)); exact BK760.out) hb); replace BK766 := am (blk_below (g := gb766) (o := .cells #[.int .i64 t761, .slice Ao295 t762.length co295] 26 (0, 0)) (by (with_reducible repeat (first | refine blk_drewN ?_ _ | refine blk_drew ?_ | refine blk_alloc ?_ _)); refine blk_put (cs := #[.int .i64 t761, .slice none 0 0]) ?_ 1 _ rfl; (with_reducible repeat (first | refine blk_drewN ?_ _ | refine blk_drew ?_ | refine blk_alloc ?_ _)); refine blk_put (cs := #[.int .i64 0, .slice none 0 0]) ?_ 0 _ rfl; (with_reducible repeat (first | refine blk_drewN ?_ _ | refine blk_drew ?_ | refine blk_alloc ?_ _)); exact BK766.out) hb); replace HB := sB hb) | ((with_reducible refine gate_dst (N := 59) rfl ?_); (try (refine gate_guard (by rfl) ?_; dsimp only)); refine bE 59 #[.int .i64 0, .slice none 0 0] 26 ?_; intro gb774 hg w297 hbox hb; replace HO_662001 := lS HO_662001 hb; replace HO750 := lS HO750 hb; replace HO753 := lR HO753 hb; replace HO758 := lS HO758 hb; replace HO764 := lS HO764 hb; replace HO770 := lS HO770 hb; have BK774 := am (hbox); have GW774 := gW hg; have GE774 := gW hg; replace HB := sB hb; have NB661_774 := nK BK661 hg; have NB774_661 := mK BK661 hg; replace BK661 := kb BK661 hb; have NB754_774 := nK BK754 hg; have NB774_754 := mK BK754 hg; replace BK754 := kb BK754 hb; have NB760_774 := nK BK760 hg; have NB774_760 := mK BK760 hg; replace BK760 := kb BK760 hb; have NB766_774 := nK BK766 hg; have NB774_766 := mK BK766 hg; replace BK766 := kb BK766 hb; clear hb hbox hg; have hnb298 := NB774_661.out; have hnc298 := NB661_774.out; have hnb299 := NB774_754.out; have hnc299 := NB754_774.out; have hnb300 := NB774_760.out; have hnc300 := NB760_774.out; have hnb301 := NB774_766.out; have hnc301 := NB766_774.out; obtain ⟨hcz302_0, hcz302_1, hfz302_0, hfz302_1⟩ := cZ BK774; obtain ⟨Ao303, co303, eo303⟩ := Kd.S_slice HO770.out; subst eo303) | ((with_reducible refine gate_callee (f := 25) rfl ?_); refine gL 532 Try.func25 #[.agg #[.int .i64 t767, .slice Ao303 t768.length co303], .int .i64 t771, .int .i64 t772, .int .i64 t773] ?_; (with_reducible refine (impl_CountWays.calls kj252 t767 _ _ t768 t771 t772 t773 t775 t776 _ ?side1 (Kd.S_reads' HO770.out).2.1 A268.out).mono ?_); (case side1 => refine (Kd.S_reads' (e := 29) (base := w.heap.size) (ok := fun k_ => ((((((True ∧ bzw296_ ≤ k_) ∧ some k_ ≠ (.slice Ao24 t656.length co24 : Value).ownBlock) ∧ some k_ ≠ (.slice Ao280 t748.length co280 : Value).ownBlock) ∧ some k_ ≠ (.slice Ao281 t751.length co281 : Value).ownBlock) ∧ some k_ ≠ (.slice Ao287 t756.length co287 : Value).ownBlock) ∧ some k_ ≠ (.slice Ao295 t762.length co295 : Value).ownBlock)) (n := t768.length) (c := co303) ?_).2.2; exact (by (with_reducible repeat (first | apply Kd.S_alloc | apply Kd.S_drewN | apply Kd.S_drew)); exact (Kd.S_mono (Kd.S_far (p := ⟨gb774, 1, none⟩) (Kd.S_far (p := ⟨gb774, 0, none⟩) (Kd.S_types HO770.out BK774.out (by decide)) (fun _ hk => hk.2) (.int .i64 t767)) (fun _ hk => hk.2) (.slice Ao303 t768.length co303)) (fun _ h_ => h_.1)))); rintro e w304 ⟨rfl, hb⟩; refine ⟨_, rfl, ?_⟩; replace HO_662001 := am (Kd.S_below (by (with_reducible repeat (first | apply Kd.S_alloc | apply Kd.S_drewN | apply Kd.S_drew)); exact (Kd.S_mono (Kd.S_far (p := ⟨gb774, 1, none⟩) (Kd.S_far (p := ⟨gb774, 0, none⟩) (Kd.S_types HO_662001.out BK774.out (by decide)) (fun _ hk => hk.2) (.int .i64 t767)) (fun _ hk => hk.2) (.slice Ao303 t768.length co303)) (fun _ h_ => h_.1))) hb); replace HO750 := am (Kd.S_below (by (with_reducible repeat (first | apply Kd.S_alloc | apply Kd.S_drewN | apply Kd.S_drew)); exact (Kd.S_mono (Kd.S_far (p := ⟨gb774, 1, none⟩) (Kd.S_far (p := ⟨gb774, 0, none⟩) (Kd.S_types HO750.out BK774.out (by decide)) (fun _ hk => hk.2) (.int .i64 t767)) (fun _ hk => hk.2) (.slice Ao303 t768.length co303)) (fun _ h_ => h_.1))) hb); replace HO753 := am (Kd.R_below (by (with_reducible repeat (first | apply Kd.R_alloc | apply Kd.R_drewN | apply Kd.R_drew)); exact (Kd.R_mono (Kd.R_far (p := ⟨gb774, 1, none⟩) (Kd.R_far (p := ⟨gb774, 0, none⟩) (Kd.R_types HO753.out BK774.out (by decide)) (fun _ hk => hk.2) (.int .i64 t767)) (fun _ hk => hk.2) (.slice Ao303 t768.length co303)) (fun _ h_ => h_.1))) hb); replace HO758 := am (Kd.S_below (by (with_reducible repeat (first | apply Kd.S_alloc | apply Kd.S_drewN | apply Kd.S_drew)); exact (Kd.S_mono (Kd.S_far (p := ⟨gb774, 1, none⟩) (Kd.S_far (p := ⟨gb774, 0, none⟩) (Kd.S_types HO758.out BK774.out (by decide)) (fun _ hk => hk.2) (.int .i64 t767)) (fun _ hk => hk.2) (.slice Ao303 t768.length co303)) (fun _ h_ => h_.1))) hb); replace HO764 := am (Kd.S_below (by (with_reducible repeat (first | apply Kd.S_alloc | apply Kd.S_drewN | apply Kd.S_drew)); exact (Kd.S_mono (Kd.S_far (p := ⟨gb774, 1, none⟩) (Kd.S_far (p := ⟨gb774, 0, none⟩) (Kd.S_types HO764.out BK774.out (by decide)) (fun _ hk => hk.2) (.int .i64 t767)) (fun _ hk => hk.2) (.slice Ao303 t768.length co303)) (fun _ h_ => h_.1))) hb); replace HO770 := am (Kd.S_below (by (with_reducible repeat (first | apply Kd.S_alloc | apply Kd.S_drewN | apply Kd.S_drew)); exact (Kd.S_mono (Kd.S_far (p := ⟨gb774, 1, none⟩) (Kd.S_far (p := ⟨gb774, 0, none⟩) (Kd.S_types HO770.out BK774.out (by decide)) (fun _ hk => hk.2) (.int .i64 t767)) (fun _ hk => hk.2) (.slice Ao303 t768.length co303)) (fun _ h_ => h_.1))) hb); replace BK661 := am (blk_below (g := gb661) (o := .cells #[.int .i64 t655, .slice Ao24 t656.length co24] 26 (0, 0)) (by (with_reducible repeat (first | refine blk_drewN ?_ _ | refine blk_drew ?_ | refine blk_alloc ?_ _)); refine blk_far ?_ NB661_774.out _; (with_reducible repeat (first | refine blk_drewN ?_ _ | refine blk_drew ?_ | refine blk_alloc ?_ _)); refine blk_far ?_ NB661_774.out _; (with_reducible repeat (first | refine blk_drewN ?_ _ | refine blk_drew ?_ | refine blk_alloc ?_ _)); exact BK661.out) hb); replace BK754 := am (blk_below (g := gb754) (o := .cells #[.int .i64 t747, .slice Ao280 t748.length co280] 26 (0, 0)) (by (with_reducible repeat (first | refine blk_drewN ?_ _ | refine blk_drew ?_ | refine blk_alloc ?_ _)); refine blk_far ?_ NB754_774.out _; (with_reducible repeat (first | refine blk_drewN ?_ _ | refine blk_drew ?_ | refine blk_alloc ?_ _)); refine blk_far ?_ NB754_774.out _; (with_reducible repeat (first | refine blk_drewN ?_ _ | refine blk_drew ?_ | refine blk_alloc ?_ _)); exact BK754.out) hb); replace BK760 := am (blk_below (g := gb760) (o := .cells #[.int .i64 t755, .slice Ao287 t756.length co287] 26 (0, 0)) (by (with_reducible repeat (first | refine blk_drewN ?_ _ | refine blk_drew ?_ | refine blk_alloc ?_ _)); refine blk_far ?_ NB760_774.out _; (with_reducible repeat (first | refine blk_drewN ?_ _ | refine blk_drew ?_ | refine blk_alloc ?_ _)); refine blk_far ?_ NB760_774.out _; (with_reducible repeat (first | refine blk_drewN ?_ _ | refine blk_drew ?_ | refine blk_alloc ?_ _)); exact BK760.out) hb); replace BK766 := am (blk_below (g := gb766) (o := .cells #[.int .i64 t761, .slice Ao295 t762.length co295] 26 (0, 0)) (by (with_reducible repeat (first | refine blk_drewN ?_ _ | refine blk_drew ?_ | refine blk_alloc ?_ _)); refine blk_far ?_ NB766_774.out _; (with_reducible repeat (first | refine blk_drewN ?_ _ | refine blk_drew ?_ | refine blk_alloc ?_ _)); refine blk_far ?_ NB766_774.out _; (with_reducible repeat (first | refine blk_drewN ?_ _ | refine blk_drew ?_ | refine blk_alloc ?_ _)); exact BK766.out) hb); replace BK774 := am (blk_below (g := gb774) (o := .cells #[.int .i64 t767, .slice Ao303 t768.length co303] 26 (0, 0)) (by (with_reducible repeat (first | refine blk_drewN ?_ _ | refine blk_drew ?_ | refine blk_alloc ?_ _)); refine blk_put (cs := #[.int .i64 t767, .slice none 0 0]) ?_ 1 _ rfl; (with_reducible repeat (first | refine blk_drewN ?_ _ | refine blk_drew ?_ | refine blk_alloc ?_ _)); refine blk_put (cs := #[.int .i64 0, .slice none 0 0]) ?_ 0 _ rfl; (with_reducible repeat (first | refine blk_drewN ?_ _ | refine blk_drew ?_ | refine blk_alloc ?_ _)); exact BK774.out) hb); replace HB := sB hb; obtain ⟨hcz305_0, hcz305_1, hfz305_0, hfz305_1⟩ := cZ BK774) | ((with_reducible refine gate_callee (f := 32) rfl ?_); refine gL 540 Try.func32 #[.agg #[.int .i64 t767, .slice Ao303 t768.length co303], .int .i64 t771, .int .i64 t772, .int .i64 t773] ?_; (with_reducible refine (spec_CountWays.calls kj252 t767 _ _ t768 t771 t772 t773 t777 t778 _ ?side1 (Kd.S_reads' HO770.out).2.1 A269.out).mono ?_); (case side1 => exact cB (Kd.S_reads' HO770.out).2.2); rintro e w306 ⟨rfl, hb⟩; refine ⟨_, rfl, ?_⟩; replace HO_662001 := lS HO_662001 hb; replace HO750 := lS HO750 hb; replace HO753 := lR HO753 hb; replace HO758 := lS HO758 hb; replace HO764 := lS HO764 hb; replace HO770 := lS HO770 hb; replace BK661 := kb BK661 hb; replace BK754 := kb BK754 hb; replace BK760 := kb BK760 hb; replace BK766 := kb BK766 hb; replace BK774 := kb BK774 hb; replace HB := sB hb; obtain ⟨hcz307_0, hcz307_1, hfz307_0, hfz307_1⟩ := cZ BK760; obtain ⟨hcz308_0, hcz308_1, hfz308_0, hfz308_1⟩ := cZ BK766) | (go_at_call 33; (with_reducible refine (laws_uStates.calls kj252 t755 _ _ t756 t761 _ _ t762 true _ ?side1 (Kd.S_reads' HO758.out).2.1 ?side3 (Kd.S_reads' HO764.out).2.1 A271.out).mono ?_); (case side1 => exact cB (Kd.S_reads' HO758.out).2.2); (case side3 => exact cB (Kd.S_reads' HO764.out).2.2); rintro e w309 ⟨rfl, hb⟩; replace HO_662001 := lS HO_662001 hb; replace HO750 := lS HO750 hb; replace HO753 := lR HO753 hb; replace HO758 := lS HO758 hb; replace HO764 := lS HO764 hb; replace HO770 := lS HO770 hb; replace BK661 := kb BK661 hb; replace BK754 := kb BK754 hb; replace BK760 := kb BK760 hb; replace BK766 := kb BK766 hb; replace BK774 := kb BK774 hb; replace HB := sB hb; obtain ⟨hcz310_0, hcz310_1, hfz310_0, hfz310_1⟩ := cZ BK754))
               go_loopg [566] kj252 (fun kq v566 w' => ∃ (x566_5 : Int), v566 = .int .i64 x566_5 ∧ Aside0 (laws_FnStatesStep.l4 kq t751 (t748.length : Int) x566_5 t747 t748 t755 t756 = some true) ∧ Aside0 (kq ≤ kj252) ∧ Aside0 (Kd.R (Kd.int .i64) 3 w' w.heap.size (fun _ => True) (.slice Ao281 t751.length co281) t751) ∧ Aside0 (Kd.S (Kd.slice 3 (Kd.int .i64)) 29 w' w.heap.size (fun k_ => some k_ ≠ ((.slice Ao281 t751.length co281) : Value).ownBlock ∧ some k_ ≠ ((.slice Ao280 t748.length co280) : Value).ownBlock ∧ some k_ ≠ ((.slice Ao287 t756.length co287) : Value).ownBlock ∧ some k_ ≠ ((.slice Ao295 t762.length co295) : Value).ownBlock ∧ some k_ ≠ ((.slice Ao303 t768.length co303) : Value).ownBlock) (.slice Ao24 t656.length co24) t656) ∧ Aside0 (Kd.S (Kd.slice 3 (Kd.int .i64)) 29 w' w.heap.size (fun k_ => some k_ ≠ ((.slice Ao281 t751.length co281) : Value).ownBlock ∧ some k_ ≠ ((.slice Ao24 t656.length co24) : Value).ownBlock ∧ some k_ ≠ ((.slice Ao287 t756.length co287) : Value).ownBlock ∧ some k_ ≠ ((.slice Ao295 t762.length co295) : Value).ownBlock ∧ some k_ ≠ ((.slice Ao303 t768.length co303) : Value).ownBlock) (.slice Ao280 t748.length co280) t748) ∧ Aside0 (Kd.S (Kd.slice 3 (Kd.int .i64)) 29 w' w.heap.size (fun k_ => some k_ ≠ ((.slice Ao281 t751.length co281) : Value).ownBlock ∧ some k_ ≠ ((.slice Ao24 t656.length co24) : Value).ownBlock ∧ some k_ ≠ ((.slice Ao280 t748.length co280) : Value).ownBlock ∧ some k_ ≠ ((.slice Ao295 t762.length co295) : Value).ownBlock ∧ some k_ ≠ ((.slice Ao303 t768.length co303) : Value).ownBlock) (.slice Ao287 t756.length co287) t756) ∧ Aside0 (Kd.S (Kd.slice 3 (Kd.int .i64)) 29 w' w.heap.size (fun k_ => some k_ ≠ ((.slice Ao281 t751.length co281) : Value).ownBlock ∧ some k_ ≠ ((.slice Ao24 t656.length co24) : Value).ownBlock ∧ some k_ ≠ ((.slice Ao280 t748.length co280) : Value).ownBlock ∧ some k_ ≠ ((.slice Ao287 t756.length co287) : Value).ownBlock ∧ some k_ ≠ ((.slice Ao303 t768.length co303) : Value).ownBlock) (.slice Ao295 t762.length co295) t762) ∧ Aside0 (Kd.S (Kd.slice 3 (Kd.int .i64)) 29 w' w.heap.size (fun k_ => some k_ ≠ ((.slice Ao281 t751.length co281) : Value).ownBlock ∧ some k_ ≠ ((.slice Ao24 t656.length co24) : Value).ownBlock ∧ some k_ ≠ ((.slice Ao280 t748.length co280) : Value).ownBlock ∧ some k_ ≠ ((.slice Ao287 t756.length co287) : Value).ownBlock ∧ some k_ ≠ ((.slice Ao295 t762.length co295) : Value).ownBlock) (.slice Ao303 t768.length co303) t768) ∧ Aside0 (w'.heap[gb661]? = some (.cells #[.int .i64 t655, (.slice Ao24 t656.length co24)] 26 (0, 0))) ∧ Aside0 (w'.heap[gb754]? = some (.cells #[.int .i64 t747, (.slice Ao280 t748.length co280)] 26 (0, 0))) ∧ Aside0 (w'.heap[gb760]? = some (.cells #[.int .i64 t755, (.slice Ao287 t756.length co287)] 26 (0, 0))) ∧ Aside0 (w'.heap[gb766]? = some (.cells #[.int .i64 t761, (.slice Ao295 t762.length co295)] 26 (0, 0))) ∧ Aside0 (w'.heap[gb774]? = some (.cells #[.int .i64 t767, (.slice Ao303 t768.length co303)] 26 (0, 0))) ∧ Aside0 (Below w.heap.size w w'))
               case atStart => exact ⟨(0), sR, H', ⟨Nat.le_refl _⟩, ⟨rP HO753⟩, ⟨by (with_reducible repeat (first | apply Kd.S_alloc | apply Kd.S_drewN | apply Kd.S_drew)); exact Kd.S_mono HO_662001.out (fun _ hk => ⟨hk.1.1.1.1.1.1.1.2, ⟨hk.1.1.1.1.1.1.1.1.2, ⟨hk.1.1.1.1.1.2, ⟨hk.1.1.1.2, hk.1.2⟩⟩⟩⟩)⟩, ⟨by (with_reducible repeat (first | apply Kd.S_alloc | apply Kd.S_drewN | apply Kd.S_drew)); exact Kd.S_mono HO750.out (fun _ hk => ⟨hk.1.1.1.1.1.1.1, ⟨hk.1.1.1.1.1.1.2, ⟨hk.1.1.1.1.1.2, ⟨hk.1.1.1.2, hk.1.2⟩⟩⟩⟩)⟩, ⟨by (with_reducible repeat (first | apply Kd.S_alloc | apply Kd.S_drewN | apply Kd.S_drew)); exact Kd.S_mono HO758.out (fun _ hk => ⟨hk.1.1.1.1.2, ⟨hk.1.1.1.1.1.1.2, ⟨hk.1.1.1.1.1.2, ⟨hk.1.1.1.2, hk.1.2⟩⟩⟩⟩)⟩, ⟨by (with_reducible repeat (first | apply Kd.S_alloc | apply Kd.S_drewN | apply Kd.S_drew)); exact Kd.S_mono HO764.out (fun _ hk => ⟨hk.1.1.1.2, ⟨hk.1.1.1.1.1.2, ⟨hk.1.1.1.1.2, ⟨hk.1.1.2, hk.1.2⟩⟩⟩⟩)⟩, ⟨by (with_reducible repeat (first | apply Kd.S_alloc | apply Kd.S_drewN | apply Kd.S_drew)); exact Kd.S_mono HO770.out (fun _ hk => ⟨hk.1.1.2, ⟨hk.1.1.1.1.2, ⟨hk.1.1.1.2, ⟨hk.1.2, hk.2⟩⟩⟩⟩)⟩, ⟨bP BK661⟩, ⟨bP BK754⟩, ⟨bP BK760⟩, ⟨bP BK766⟩, ⟨bP BK774⟩, ⟨bB⟩⟩
               case round => as_aux_lemma =>
                clear H'
                obtain ⟨x566_5, rfl, HA, HK5, HO_54, HO_662001, HO_755001, HO_761001, HO_767001, HO_775001, BK661, BK754, BK760, BK766, BK774, HB⟩ := hrel
                cases gk with
                | zero => exact absurd HA.out (by simp [laws_FnStatesStep.l4])
                | succ k5 =>
                 have H := HA.out
                 clear HA
                 simp only [laws_FnStatesStep.l4] at H
                 by_cases c311 : x566_5 < (t748.length : Int)
                 · rw [if_pos c311] at H
                   have c311b0 := decide_eq_true c311
                   clear c311
                   have H' := am H
                   clear H
                   have hnb312 := NB754_661.out
                   have hnc312 := NB661_754.out
                   have hnb313 := NB754_760.out
                   have hnc313 := NB760_754.out
                   have hnb314 := NB754_766.out
                   have hnc314 := NB766_754.out
                   have hnb315 := NB754_774.out
                   have hnc315 := NB774_754.out
                   obtain ⟨hcz316_0, hcz316_1, hfz316_0, hfz316_1⟩ := cZ BK754
                   go_wp2
                   go_loopg [572] k5 (fun kq v572 w' => ∃ (x572_6 : Int), v572 = .int .i64 x572_6 ∧ Aside0 (laws_FnStatesStep.l5 kq t751 x566_5 (t748.length : Int) x566_5 (t748.length : Int) x572_6 t747 t748 t755 t756 = some true) ∧ Aside0 (kq ≤ k5) ∧ Aside0 (Kd.R (Kd.int .i64) 3 w' w.heap.size (fun _ => True) (.slice Ao281 t751.length co281) t751) ∧ Aside0 (Kd.S (Kd.slice 3 (Kd.int .i64)) 29 w' w.heap.size (fun k_ => some k_ ≠ ((.slice Ao281 t751.length co281) : Value).ownBlock ∧ some k_ ≠ ((.slice Ao280 t748.length co280) : Value).ownBlock ∧ some k_ ≠ ((.slice Ao287 t756.length co287) : Value).ownBlock ∧ some k_ ≠ ((.slice Ao295 t762.length co295) : Value).ownBlock ∧ some k_ ≠ ((.slice Ao303 t768.length co303) : Value).ownBlock) (.slice Ao24 t656.length co24) t656) ∧ Aside0 (Kd.S (Kd.slice 3 (Kd.int .i64)) 29 w' w.heap.size (fun k_ => some k_ ≠ ((.slice Ao281 t751.length co281) : Value).ownBlock ∧ some k_ ≠ ((.slice Ao24 t656.length co24) : Value).ownBlock ∧ some k_ ≠ ((.slice Ao287 t756.length co287) : Value).ownBlock ∧ some k_ ≠ ((.slice Ao295 t762.length co295) : Value).ownBlock ∧ some k_ ≠ ((.slice Ao303 t768.length co303) : Value).ownBlock) (.slice Ao280 t748.length co280) t748) ∧ Aside0 (Kd.S (Kd.slice 3 (Kd.int .i64)) 29 w' w.heap.size (fun k_ => some k_ ≠ ((.slice Ao281 t751.length co281) : Value).ownBlock ∧ some k_ ≠ ((.slice Ao24 t656.length co24) : Value).ownBlock ∧ some k_ ≠ ((.slice Ao280 t748.length co280) : Value).ownBlock ∧ some k_ ≠ ((.slice Ao295 t762.length co295) : Value).ownBlock ∧ some k_ ≠ ((.slice Ao303 t768.length co303) : Value).ownBlock) (.slice Ao287 t756.length co287) t756) ∧ Aside0 (Kd.S (Kd.slice 3 (Kd.int .i64)) 29 w' w.heap.size (fun k_ => some k_ ≠ ((.slice Ao281 t751.length co281) : Value).ownBlock ∧ some k_ ≠ ((.slice Ao24 t656.length co24) : Value).ownBlock ∧ some k_ ≠ ((.slice Ao280 t748.length co280) : Value).ownBlock ∧ some k_ ≠ ((.slice Ao287 t756.length co287) : Value).ownBlock ∧ some k_ ≠ ((.slice Ao303 t768.length co303) : Value).ownBlock) (.slice Ao295 t762.length co295) t762) ∧ Aside0 (Kd.S (Kd.slice 3 (Kd.int .i64)) 29 w' w.heap.size (fun k_ => some k_ ≠ ((.slice Ao281 t751.length co281) : Value).ownBlock ∧ some k_ ≠ ((.slice Ao24 t656.length co24) : Value).ownBlock ∧ some k_ ≠ ((.slice Ao280 t748.length co280) : Value).ownBlock ∧ some k_ ≠ ((.slice Ao287 t756.length co287) : Value).ownBlock ∧ some k_ ≠ ((.slice Ao295 t762.length co295) : Value).ownBlock) (.slice Ao303 t768.length co303) t768) ∧ Aside0 (w'.heap[gb661]? = some (.cells #[.int .i64 t655, (.slice Ao24 t656.length co24)] 26 (0, 0))) ∧ Aside0 (w'.heap[gb754]? = some (.cells #[.int .i64 t747, (.slice Ao280 t748.length co280)] 26 (0, 0))) ∧ Aside0 (w'.heap[gb760]? = some (.cells #[.int .i64 t755, (.slice Ao287 t756.length co287)] 26 (0, 0))) ∧ Aside0 (w'.heap[gb766]? = some (.cells #[.int .i64 t761, (.slice Ao295 t762.length co295)] 26 (0, 0))) ∧ Aside0 (w'.heap[gb774]? = some (.cells #[.int .i64 t767, (.slice Ao303 t768.length co303)] 26 (0, 0))) ∧ Aside0 (Below w.heap.size w w'))
                   case atStart => exact ⟨(0), sR, H', ⟨Nat.le_refl _⟩, ⟨rP HO_54⟩, ⟨rP HO_662001⟩, ⟨rP HO_755001⟩, ⟨rP HO_761001⟩, ⟨rP HO_767001⟩, ⟨rP HO_775001⟩, ⟨bP BK661⟩, ⟨bP BK754⟩, ⟨bP BK760⟩, ⟨bP BK766⟩, ⟨bP BK774⟩, ⟨bB⟩⟩
                   case round => as_aux_lemma =>
                    clear H'
                    obtain ⟨x572_6, rfl, HA, HK6, HO_54, HO_662001, HO_755001, HO_761001, HO_767001, HO_775001, BK661, BK754, BK760, BK766, BK774, HB⟩ := hrel
                    cases gk with
                    | zero => exact absurd HA.out (by simp [laws_FnStatesStep.l5])
                    | succ k6 =>
                     have H := HA.out
                     clear HA
                     simp only [laws_FnStatesStep.l5] at H
                     by_cases c317 : x572_6 < (t748.length : Int)
                     · rw [if_pos c317] at H
                       have c317b0 := decide_eq_true c317
                       clear c317
                       replace H := ifP H
                       obtain ⟨c318, H⟩ := H
                       have c318b0 := decide_eq_true c318
                       clear c318
                       replace H := ifP H
                       obtain ⟨c319, H⟩ := H
                       have c319b0 := decide_eq_true c319
                       clear c319
                       replace H := ifP H
                       obtain ⟨c320, H⟩ := H
                       have c320b0 := decide_eq_true c320
                       clear c320
                       replace H := ifP H
                       obtain ⟨c321, H⟩ := H
                       have c321b0 := decide_eq_true c321
                       clear c321
                       replace H := ifP H
                       obtain ⟨c322, H⟩ := H
                       have c322b0 := decide_eq_true c322
                       clear c322
                       replace H := ifP H
                       obtain ⟨c323, H⟩ := H
                       have c323b0 := decide_eq_true c323
                       clear c323
                       replace H := ifP H
                       obtain ⟨c324, H⟩ := H
                       have c324b0 := decide_eq_true c324
                       clear c324
                       replace H := ifP H
                       obtain ⟨c325, H⟩ := H
                       have c325b0 := decide_eq_true c325
                       clear c325
                       replace H := ifP H
                       obtain ⟨c326, H⟩ := H
                       have c326b0 := decide_eq_true c326
                       clear c326
                       replace H := ifP H
                       obtain ⟨c327, H⟩ := H
                       have c327b0 := decide_eq_true c327
                       clear c327
                       by_cases c328 : (rd (rd_L2 t756 (rd t751 x566_5)) (rd t751 x572_6)) = (rd (rd_L2 t748 x566_5) x572_6)
                       · rw [if_pos c328] at H
                         have c328b0 : ((rd (rd_L2 t756 (rd t751 x566_5)) (rd t751 x572_6)) == (rd (rd_L2 t748 x566_5) x572_6)) = true := beq_iff_eq.mpr c328
                         have c328b1 : ((rd (rd_L2 t756 (rd t751 x566_5)) (rd t751 x572_6)) != (rd (rd_L2 t748 x566_5) x572_6)) = false := bne_eq_false_iff_eq.mpr c328
                         clear c328
                         have H' := am H
                         clear H
                         try go_wp2
                         replace HO_54 := am (Kd.R_drew HO_54.out)
                         replace HO_662001 := am (Kd.S_drew HO_662001.out)
                         replace HO_755001 := am (Kd.S_drew HO_755001.out)
                         replace HO_761001 := am (Kd.S_drew HO_761001.out)
                         replace HO_767001 := am (Kd.S_drew HO_767001.out)
                         replace HO_775001 := am (Kd.S_drew HO_775001.out)
                         replace BK661 := am (blk_drew BK661.out)
                         replace BK754 := am (blk_drew BK754.out)
                         replace BK760 := am (blk_drew BK760.out)
                         replace BK766 := am (blk_drew BK766.out)
                         replace BK774 := am (blk_drew BK774.out)
                         replace HB := am (below_drew1 HB.out)
                         have p780 : 0 ≤ (x566_5 : Int) := dT
                         have q780 : x566_5 < (t751.length : Int) := dT
                         obtain ⟨ad780, e780, hx780_0⟩ := Kd.at_int (Kd.R_reads' HO_54.out).2.2 x566_5 p780 q780
                         cases e780
                         replace p780 := eq_true p780
                         replace q780 := eq_true q780
                         have p781 : 0 ≤ ((rd t751 x566_5) : Int) := dT
                         have q781 : (rd t751 x566_5) < (t756.length : Int) := dT
                         obtain ⟨ad781, A781_0, c781_0, e781, hx781_0, hl781_0, hi781_0⟩ := at_L2 (Kd.S_reads' HO_761001.out).2.2 (rd t751 x566_5) p781 q781
                         cases e781
                         obtain ⟨ce781, hce781, hMe781, hcc781⟩ := Kd.S_get HO_761001.out [] (rd t751 x566_5) p781 (by first | exact q781 | exact dT | (have e_ := (Kd.S_reads' HO_761001.out).1; omega))
                         obtain ⟨ve781_0, rfl, ge781_0⟩ := hMe781
                         have hv781_0 := hcc781 0 _ rfl
                         rw [Nat.add_zero, show ((Kd.slice 3 (Kd.int .i64))).sz = 1 from rfl, Nat.mul_one] at hv781_0
                         replace hv781_0 := Option.some.inj (hv781_0.symm.trans hx781_0)
                         rw [hv781_0] at ge781_0
                         have HL781_0 := am (show Kd.R (Kd.int .i64) 3 _ _ _ _ (rd_L2 t756 (rd t751 x566_5)) from ge781_0)
                         clear hv781_0 ge781_0
                         clear hcc781 hce781
                         have HR781_0 := am hi781_0
                         have HC781_0 := am hl781_0
                         clear hi781_0 hl781_0
                         replace p781 := eq_true p781
                         replace q781 := eq_true q781
                         have p782 : 0 ≤ (x572_6 : Int) := dT
                         have q782 : x572_6 < (t751.length : Int) := dT
                         obtain ⟨ad782, e782, hx782_0⟩ := Kd.at_int (Kd.R_reads' HO_54.out).2.2 x572_6 p782 q782
                         obtain rfl : ad780 = ad782 := (by injection e782)
                         replace p782 := eq_true p782
                         replace q782 := eq_true q782
                         have p783 : 0 ≤ ((rd t751 x572_6) : Int) := dT
                         have q783 : (rd t751 x572_6) < ((rd_L2 t756 (rd t751 x566_5)).length : Int) := dT
                         obtain ⟨ad783, e783, hx783_0⟩ := Kd.at_int (by repeat (first | (with_reducible exact HR781_0.out) | (with_reducible refine Kd.C_alloc ?_ _) | (with_reducible refine Kd.C_drewN ?_ _) | (with_reducible refine Kd.C_drew ?_) | exact HR781_0.out)) (rd t751 x572_6) p783 q783
                         cases e783
                         replace p783 := eq_true p783
                         replace q783 := eq_true q783
                         have p784 : 0 ≤ (x566_5 : Int) := dT
                         have q784 : x566_5 < (t748.length : Int) := dT
                         obtain ⟨ad784, A784_0, c784_0, e784, hx784_0, hl784_0, hi784_0⟩ := at_L2 (Kd.S_reads' HO_755001.out).2.2 x566_5 p784 q784
                         cases e784
                         obtain ⟨ce784, hce784, hMe784, hcc784⟩ := Kd.S_get HO_755001.out [] x566_5 p784 (by first | exact q784 | exact dT | (have e_ := (Kd.S_reads' HO_755001.out).1; omega))
                         obtain ⟨ve784_0, rfl, ge784_0⟩ := hMe784
                         have hv784_0 := hcc784 0 _ rfl
                         rw [Nat.add_zero, show ((Kd.slice 3 (Kd.int .i64))).sz = 1 from rfl, Nat.mul_one] at hv784_0
                         replace hv784_0 := Option.some.inj (hv784_0.symm.trans hx784_0)
                         rw [hv784_0] at ge784_0
                         have HL784_0 := am (show Kd.R (Kd.int .i64) 3 _ _ _ _ (rd_L2 t748 x566_5) from ge784_0)
                         clear hv784_0 ge784_0
                         clear hcc784 hce784
                         have HR784_0 := am hi784_0
                         have HC784_0 := am hl784_0
                         clear hi784_0 hl784_0
                         replace p784 := eq_true p784
                         replace q784 := eq_true q784
                         have p785 : 0 ≤ (x572_6 : Int) := dT
                         have q785 : x572_6 < ((rd_L2 t748 x566_5).length : Int) := dT
                         obtain ⟨ad785, e785, hx785_0⟩ := Kd.at_int (by repeat (first | (with_reducible exact HR784_0.out) | (with_reducible refine Kd.C_alloc ?_ _) | (with_reducible refine Kd.C_drewN ?_ _) | (with_reducible refine Kd.C_drew ?_) | exact HR784_0.out)) x572_6 p785 q785
                         cases e785
                         replace p785 := eq_true p785
                         replace q785 := eq_true q785
                         refine start_ (n := 23) (S := fun w' => w'.cell? ⟨gb760, 0, none⟩ = some (.int .i64 t755) ∧ w'.cell? ⟨gb760, 1, none⟩ = some (.slice (some ad781) t756.length co287) ∧ w'.cell? ⟨gb754, 0, none⟩ = some (.int .i64 t747) ∧ w'.cell? ⟨gb754, 1, none⟩ = some (.slice (some ad784) t748.length co280) ∧ w'.cell? (ad780.add (x566_5).toNat) = some (.int .i64 (rd t751 x566_5)) ∧ w'.cell? (ad781.add ((rd t751 x566_5)).toNat) = some (.slice (some ad783) (rd_L2 t756 (rd t751 x566_5)).length c781_0) ∧ w'.cell? (ad780.add (x572_6).toNat) = some (.int .i64 (rd t751 x572_6)) ∧ w'.cell? (ad783.add ((rd t751 x572_6)).toNat) = some (.int .i64 (rd (rd_L2 t756 (rd t751 x566_5)) (rd t751 x572_6))) ∧ w'.cell? (ad784.add (x566_5).toNat) = some (.slice (some ad785) (rd_L2 t748 x566_5).length c784_0) ∧ w'.cell? (ad785.add (x572_6).toNat) = some (.int .i64 (rd (rd_L2 t748 x566_5) x572_6))) (ds := []) (bs [0, 23]) (by kernel_rfl) rfl rfl ⟨(blk_cell BK760.out 0).trans rfl, (blk_cell BK760.out 1).trans rfl, (blk_cell BK754.out 0).trans rfl, (blk_cell BK754.out 1).trans rfl, hx780_0, hx781_0, hx782_0, hx783_0, hx784_0, hx785_0⟩ (fun hHeld => ?_); refine with_tabW laws_FnStatesStep.tab72 laws_FnStatesStep.bits72 (fun HT_ HW_ => ?_)
                         generalize wr.drew = w329 at HO_54 HO_662001 HO_755001 HO_761001 HO_767001 HO_775001 BK661 BK754 BK760 BK766 BK774 HB HL781_0 HL784_0 HR781_0 HR784_0 hx780_0 hx781_0 hx782_0 hx783_0 hx784_0 hx785_0 hHeld ⊢
                         refine pS 0 (some 575) (bs [1, 22]) ?_
                         refine pS 2 (some 577) (bs [1, 1, 1, 20]) ?_
                         refine pS 3 (some 578) (bs [1, 1, 2, 19]) ?_
                         refine pS 4 (some 579) (bs [1, 1, 3, 18]) ?_
                         refine pS 8 (some 583) (bs [1, 1, 3, 3, 1, 14]) ?_
                         refine pS 9 (some 584) (bs [1, 1, 3, 3, 2, 13]) ?_
                         refine pS 10 (some 585) (bs [1, 1, 3, 3, 3, 12]) ?_
                         refine pS 14 (some 589) (bs [1, 1, 3, 3, 3, 3, 1, 8]) ?_
                         refine pS 16 (some 591) (bs [1, 1, 3, 3, 3, 3, 1, 1, 1, 6]) ?_
                         refine pS 19 (some 594) (bs [1, 1, 3, 3, 3, 3, 1, 1, 1, 2, 1, 3]) ?_
                         refine tS 1 (some 576) (bs [5, 3, 3, 3, 1, 1, 1, 2, 1, 3]) ?_
                         refine tS 5 (some 580) (bs [6, 2, 3, 3, 1, 1, 1, 2, 1, 3]) ?_
                         refine pS 6 (some 581) (bs [7, 1, 3, 3, 1, 1, 1, 2, 1, 3]) ?_
                         refine tS 7 (some 582) (bs [11, 3, 1, 1, 1, 2, 1, 3]) ?_
                         refine tS 11 (some 586) (bs [12, 2, 1, 1, 1, 2, 1, 3]) ?_
                         refine pS 12 (some 587) (bs [13, 1, 1, 1, 1, 2, 1, 3]) ?_
                         refine tS 13 (some 588) (bs [15, 1, 1, 2, 1, 3]) ?_
                         refine tS 15 (some 590) (bs [17, 2, 1, 3]) ?_
                         refine pS 17 (some 592) (bs [18, 1, 1, 3]) ?_
                         refine tS 18 (some 593) (bs [20, 3]) ?_
                         refine pS 20 (some 595) (bs [21, 2]) ?_
                         refine tS 21 (some 596) (bs [22, 1]) ?_
                         refine pS 22 (some 597) (bs [23]) ?_
                         refine done_ (done_of HT_.out (by kernel_rfl)) ?_
                         try go_wp2
                         (first | go_roundg k6 | (try subst hji192; go_roundg k6))
                         case measure => have := HJ19.out; have := HJ158.out; have := HJ181.out; have := HJ252.out; have := HK5.out; have := HK6.out; omega
                         case rel => exact ⟨(wrap64 (x572_6 + 1)), sR, H', ⟨by have := HJ19.out; have := HJ158.out; have := HJ181.out; have := HJ252.out; have := HK5.out; have := HK6.out; omega⟩, ⟨rP HO_54⟩, ⟨rP HO_662001⟩, ⟨rP HO_755001⟩, ⟨rP HO_761001⟩, ⟨rP HO_767001⟩, ⟨rP HO_775001⟩, ⟨bP BK661⟩, ⟨bP BK754⟩, ⟨bP BK760⟩, ⟨bP BK766⟩, ⟨bP BK774⟩, ⟨bB⟩⟩
                       · rw [if_neg c328] at H
                         have c328b0 : ((rd (rd_L2 t756 (rd t751 x566_5)) (rd t751 x572_6)) == (rd (rd_L2 t748 x566_5) x572_6)) = false := beq_eq_false_iff_ne.mpr c328
                         have c328b1 : ((rd (rd_L2 t756 (rd t751 x566_5)) (rd t751 x572_6)) != (rd (rd_L2 t748 x566_5) x572_6)) = true := bne_iff_ne.mpr c328
                         exact absurd H (by simp)
                     · rw [if_neg c317] at H
                       have c317b0 := decide_eq_false c317
                       clear c317
                       have H' := am H
                       clear H
                       go_wp2
                       (first | go_roundg k6 | (try subst hji192; go_roundg k6))
                       case measure => have := HJ19.out; have := HJ158.out; have := HJ181.out; have := HJ252.out; have := HK5.out; have := HK6.out; omega
                       case rel => exact ⟨(wrap64 (x566_5 + 1)), sR, H', ⟨by have := HJ19.out; have := HJ158.out; have := HJ181.out; have := HJ252.out; have := HK5.out; have := HK6.out; omega⟩, ⟨rP HO_54⟩, ⟨rP HO_662001⟩, ⟨rP HO_755001⟩, ⟨rP HO_761001⟩, ⟨rP HO_767001⟩, ⟨rP HO_775001⟩, ⟨bP BK661⟩, ⟨bP BK754⟩, ⟨bP BK760⟩, ⟨bP BK766⟩, ⟨bP BK774⟩, ⟨bB⟩⟩
                 · rw [if_neg c311] at H
                   have c311b0 := decide_eq_false c311
                   clear c311
                   replace H := bnd H
                   obtain ⟨⟨t786, t787⟩, A330, H⟩ := H
                   (try dsimp only at H)
                   replace H := bnd H
                   obtain ⟨⟨t788, t789⟩, A331, H⟩ := H
                   (try dsimp only at H)
                   replace H := ifP H
                   obtain ⟨c332, H⟩ := H
                   subst c332
                   replace H := ifP H
                   obtain ⟨c333, H⟩ := H
                   subst c333
                   replace H := ifN H
                   obtain ⟨c334, H⟩ := H
                   have c334b0 : (t786 != t788) = false := by simpa using c334
                   (try (have c334b1 : decide (t786 = t788) = true := by simpa using c334))
                   (try (have c334b2 : (t786 == t788) = true := by simpa using c334))
                   clear c334
                   clear H
                   have hnb335 := NB754_661.out
                   have hnc335 := NB661_754.out
                   have hnb336 := NB754_760.out
                   have hnc336 := NB760_754.out
                   have hnb337 := NB754_766.out
                   have hnc337 := NB766_754.out
                   have hnb338 := NB754_774.out
                   have hnc338 := NB774_754.out
                   obtain ⟨hcz339_0, hcz339_1, hfz339_0, hfz339_1⟩ := cZ BK754
                   go_wp2_with (first | ((with_reducible refine gate_callee (f := 12) rfl ?_); refine gL 602 Try.func12 #[.agg #[.int .i64 t747, .slice Ao280 t748.length co280]] ?_; (with_reducible refine (impl_IsOneClass.calls k5 t747 _ _ t748 t786 true _ ?side1 (Kd.S_reads' HO_755001.out).2.1 A330.out).mono ?_); (case side1 => exact cB (Kd.S_reads' HO_755001.out).2.2); rintro e w340 ⟨rfl, hb⟩; refine ⟨_, rfl, ?_⟩; replace HO_54 := lR HO_54 hb; replace HO_662001 := lS HO_662001 hb; replace HO_755001 := lS HO_755001 hb; replace HO_761001 := lS HO_761001 hb; replace HO_767001 := lS HO_767001 hb; replace HO_775001 := lS HO_775001 hb; replace BK661 := kb BK661 hb; replace BK754 := kb BK754 hb; replace BK760 := kb BK760 hb; replace BK766 := kb BK766 hb; replace BK774 := kb BK774 hb; replace HB := sB hb; have hnb341 := NB760_661.out; have hnc341 := NB661_760.out; have hnb342 := NB760_766.out; have hnc342 := NB766_760.out; have hnb343 := NB760_774.out; have hnc343 := NB774_760.out; obtain ⟨hcz344_0, hcz344_1, hfz344_0, hfz344_1⟩ := cZ BK760) | ((with_reducible refine gate_callee (f := 12) rfl ?_); refine gL 607 Try.func12 #[.agg #[.int .i64 t755, .slice Ao287 t756.length co287]] ?_; (with_reducible refine (impl_IsOneClass.calls k5 t755 _ _ t756 t788 true _ ?side1 (Kd.S_reads' HO_761001.out).2.1 A331.out).mono ?_); (case side1 => exact cB (Kd.S_reads' HO_761001.out).2.2); rintro e w345 ⟨rfl, hb⟩; refine ⟨_, rfl, ?_⟩; replace HO_54 := lR HO_54 hb; replace HO_662001 := lS HO_662001 hb; replace HO_755001 := lS HO_755001 hb; replace HO_761001 := lS HO_761001 hb; replace HO_767001 := lS HO_767001 hb; replace HO_775001 := lS HO_775001 hb; replace BK661 := kb BK661 hb; replace BK754 := kb BK754 hb; replace BK760 := kb BK760 hb; replace BK766 := kb BK766 hb; replace BK774 := kb BK774 hb; replace HB := sB hb))
                   go_ret
                   exact ⟨eW, bB⟩
             · replace c275 := Bool.eq_false_iff.mpr c275
               subst c275
               replace H := ifF H
               clear H
               go_wp2_with (first | ((with_reducible refine gate_callee (f := 28) rfl ?_); refine gL 505 Try.func28 #[.slice A1 l1.length c1] ?_; (with_reducible refine (spec_DrawRenameStates.calls kj252 _ _ l1 t747 t748 t751 _ ?side1 HC1.out A264.out).mono ?_); (case side1 => exact cH HR1); rintro e w346 ⟨v749, v752, rfl, ho0, ho1, hb⟩; refine ⟨_, rfl, ?_⟩; obtain ⟨bzw346_, hzow346_, hznw346_, hzbw346_⟩ := born_pair hb; have HO750 := am (Kd.S_lower (Kd.S_new' ho0 (Kd.S_lt (rP HO_662001))) (below_size bB)); replace HO_662001 := am (Kd.S_mono (ok' := fun k_ => (((True ∧ some k_ ≠ (v749 : Value).ownBlock) ∧ some k_ ≠ (v752 : Value).ownBlock) ∧ k_ < bzw346_)) (hzow346_ (rP HO_662001)) (fun k_ hk_ => ⟨⟨⟨hk_.1, fun e_ => Nat.not_le.2 hk_.2 (hzbw346_ _ (Kd.S_base ho0 k_ e_.symm))⟩, fun e_ => Nat.not_le.2 hk_.2 (hzbw346_ _ (Kd.R_base ho1 k_ e_.symm))⟩, hk_.2⟩)); have HO753 := am (Kd.R_lower ho1 (below_size bB)); replace BK661 := kb BK661 hb; replace HB := sB hb) | ((with_reducible refine gate_dst (N := 53) rfl ?_); (try (refine gate_guard (by rfl) ?_; dsimp only)); refine bE 53 #[.int .i64 0, .slice none 0 0] 26 ?_; intro gb754 hg w347 hbox hb; replace HO_662001 := lS HO_662001 hb; replace HO750 := lS HO750 hb; replace HO753 := lR HO753 hb; have BK754 := am (hbox); have GW754 := gW hg; have GE754 := gW hg; replace HB := sB hb; have NB661_754 := nK BK661 hg; have NB754_661 := mK BK661 hg; replace BK661 := kb BK661 hb; clear hb hbox hg; have hnb348 := NB754_661.out; have hnc348 := NB661_754.out; obtain ⟨hcz349_0, hcz349_1, hfz349_0, hfz349_1⟩ := cZ BK754; obtain ⟨Ao350, co350, eo350⟩ := Kd.S_slice HO750.out; subst eo350; obtain ⟨Ao351, co351, eo351⟩ := Kd.R_slice HO753.out; subst eo351) | ((with_reducible refine gate_callee (f := 29) rfl ?_); refine gL 511 Try.func29 #[.agg #[.int .i64 t747, .slice Ao350 t748.length co350], .slice Ao351 t751.length co351] ?_; (with_reducible refine (impl_RenameStates.calls kj252 t747 _ _ t748 _ _ t751 t755 t756 false _ ?side1 (Kd.S_reads' HO750.out).2.1 ?side3 (Kd.R_reads' HO753.out).2.1 A265.out).mono ?_); (case side1 => refine (Kd.S_reads' (e := 29) (base := w.heap.size) (ok := fun k_ => (some k_ ≠ (.slice Ao351 t751.length co351 : Value).ownBlock ∧ some k_ ≠ (.slice Ao24 t656.length co24 : Value).ownBlock)) (n := t748.length) (c := co350) ?_).2.2; exact (by (with_reducible repeat (first | apply Kd.S_alloc | apply Kd.S_drewN | apply Kd.S_drew)); exact (Kd.S_mono (Kd.S_far (p := ⟨gb754, 1, none⟩) (Kd.S_far (p := ⟨gb754, 0, none⟩) (Kd.S_types HO750.out BK754.out (by decide)) (fun _ hk => hk.2) (.int .i64 t747)) (fun _ hk => hk.2) (.slice Ao350 t748.length co350)) (fun _ h_ => h_.1)))); (case side3 => refine (Kd.R_reads' (e := 3) (base := w.heap.size) (ok := fun k_ => True) (n := t751.length) (c := co351) ?_).2.2; exact (by (with_reducible repeat (first | apply Kd.R_alloc | apply Kd.R_drewN | apply Kd.R_drew)); exact (Kd.R_mono (Kd.R_far (p := ⟨gb754, 1, none⟩) (Kd.R_far (p := ⟨gb754, 0, none⟩) (Kd.R_types HO753.out BK754.out (by decide)) (fun _ hk => hk.2) (.int .i64 t747)) (fun _ hk => hk.2) (.slice Ao350 t748.length co350)) (fun _ h_ => h_.1)))); rintro e w352 ⟨v757, rfl, ho0, hb⟩; refine ⟨_, rfl, ?_⟩; obtain ⟨bzw352_, hzow352_, hznw352_, hzbw352_⟩ := born_pair hb; have HO758 := am (Kd.S_lower (Kd.S_new' (Kd.S_new' (Kd.S_new' (hznw352_ ho0) (Kd.S_lt (by (with_reducible repeat (first | apply Kd.S_alloc | apply Kd.S_drewN | apply Kd.S_drew)); exact (Kd.S_mono (Kd.S_far (p := ⟨gb754, 1, none⟩) (Kd.S_far (p := ⟨gb754, 0, none⟩) (Kd.S_types HO_662001.out BK754.out (by decide)) (fun _ hk => hk.2) (.int .i64 t747)) (fun _ hk => hk.2) (.slice Ao350 t748.length co350)) (fun _ h_ => h_.1))))) (Kd.S_lt (by (with_reducible repeat (first | apply Kd.S_alloc | apply Kd.S_drewN | apply Kd.S_drew)); exact (Kd.S_mono (Kd.S_far (p := ⟨gb754, 1, none⟩) (Kd.S_far (p := ⟨gb754, 0, none⟩) (Kd.S_types HO750.out BK754.out (by decide)) (fun _ hk => hk.2) (.int .i64 t747)) (fun _ hk => hk.2) (.slice Ao350 t748.length co350)) (fun _ h_ => h_.1))))) (Kd.R_lt (by (with_reducible repeat (first | apply Kd.R_alloc | apply Kd.R_drewN | apply Kd.R_drew)); exact (Kd.R_mono (Kd.R_far (p := ⟨gb754, 1, none⟩) (Kd.R_far (p := ⟨gb754, 0, none⟩) (Kd.R_types HO753.out BK754.out (by decide)) (fun _ hk => hk.2) (.int .i64 t747)) (fun _ hk => hk.2) (.slice Ao350 t748.length co350)) (fun _ h_ => h_.1))))) (below_size bB)); replace HO_662001 := am (Kd.S_mono (ok' := fun k_ => (((((True ∧ some k_ ≠ (.slice Ao350 t748.length co350 : Value).ownBlock) ∧ some k_ ≠ (.slice Ao351 t751.length co351 : Value).ownBlock) ∧ k_ < bzw346_) ∧ some k_ ≠ (v757 : Value).ownBlock) ∧ k_ < bzw352_)) (hzow352_ (by (with_reducible repeat (first | apply Kd.S_alloc | apply Kd.S_drewN | apply Kd.S_drew)); exact (Kd.S_mono (Kd.S_far (p := ⟨gb754, 1, none⟩) (Kd.S_far (p := ⟨gb754, 0, none⟩) (Kd.S_types HO_662001.out BK754.out (by decide)) (fun _ hk => hk.2) (.int .i64 t747)) (fun _ hk => hk.2) (.slice Ao350 t748.length co350)) (fun _ h_ => h_.1)))) (fun k_ hk_ => ⟨⟨hk_.1, fun e_ => Nat.not_le.2 hk_.2 (hzbw352_ _ (Kd.S_base ho0 k_ e_.symm))⟩, hk_.2⟩)); replace HO750 := am (Kd.S_mono (ok' := fun k_ => (((some k_ ≠ (.slice Ao351 t751.length co351 : Value).ownBlock ∧ some k_ ≠ (.slice Ao24 t656.length co24 : Value).ownBlock) ∧ some k_ ≠ (v757 : Value).ownBlock) ∧ k_ < bzw352_)) (hzow352_ (by (with_reducible repeat (first | apply Kd.S_alloc | apply Kd.S_drewN | apply Kd.S_drew)); exact (Kd.S_mono (Kd.S_far (p := ⟨gb754, 1, none⟩) (Kd.S_far (p := ⟨gb754, 0, none⟩) (Kd.S_types HO750.out BK754.out (by decide)) (fun _ hk => hk.2) (.int .i64 t747)) (fun _ hk => hk.2) (.slice Ao350 t748.length co350)) (fun _ h_ => h_.1)))) (fun k_ hk_ => ⟨⟨hk_.1, fun e_ => Nat.not_le.2 hk_.2 (hzbw352_ _ (Kd.S_base ho0 k_ e_.symm))⟩, hk_.2⟩)); replace HO753 := am (Kd.R_below (by (with_reducible repeat (first | apply Kd.R_alloc | apply Kd.R_drewN | apply Kd.R_drew)); exact (Kd.R_mono (Kd.R_far (p := ⟨gb754, 1, none⟩) (Kd.R_far (p := ⟨gb754, 0, none⟩) (Kd.R_types HO753.out BK754.out (by decide)) (fun _ hk => hk.2) (.int .i64 t747)) (fun _ hk => hk.2) (.slice Ao350 t748.length co350)) (fun _ h_ => h_.1))) hb); replace BK661 := am (blk_below (g := gb661) (o := .cells #[.int .i64 t655, .slice Ao24 t656.length co24] 26 (0, 0)) (by (with_reducible repeat (first | refine blk_drewN ?_ _ | refine blk_drew ?_ | refine blk_alloc ?_ _)); refine blk_far ?_ NB661_754.out _; (with_reducible repeat (first | refine blk_drewN ?_ _ | refine blk_drew ?_ | refine blk_alloc ?_ _)); refine blk_far ?_ NB661_754.out _; (with_reducible repeat (first | refine blk_drewN ?_ _ | refine blk_drew ?_ | refine blk_alloc ?_ _)); exact BK661.out) hb); replace BK754 := am (blk_below (g := gb754) (o := .cells #[.int .i64 t747, .slice Ao350 t748.length co350] 26 (0, 0)) (by (with_reducible repeat (first | refine blk_drewN ?_ _ | refine blk_drew ?_ | refine blk_alloc ?_ _)); refine blk_put (cs := #[.int .i64 t747, .slice none 0 0]) ?_ 1 _ rfl; (with_reducible repeat (first | refine blk_drewN ?_ _ | refine blk_drew ?_ | refine blk_alloc ?_ _)); refine blk_put (cs := #[.int .i64 0, .slice none 0 0]) ?_ 0 _ rfl; (with_reducible repeat (first | refine blk_drewN ?_ _ | refine blk_drew ?_ | refine blk_alloc ?_ _)); exact BK754.out) hb); replace HB := sB hb) | ((with_reducible refine gate_dst (N := 55) rfl ?_); (try (refine gate_guard (by rfl) ?_; dsimp only)); refine bE 55 #[.int .i64 0, .slice none 0 0] 26 ?_; intro gb760 hg w353 hbox hb; replace HO_662001 := lS HO_662001 hb; replace HO750 := lS HO750 hb; replace HO753 := lR HO753 hb; replace HO758 := lS HO758 hb; have BK760 := am (hbox); have GW760 := gW hg; have GE760 := gW hg; replace HB := sB hb; have NB661_760 := nK BK661 hg; have NB760_661 := mK BK661 hg; replace BK661 := kb BK661 hb; have NB754_760 := nK BK754 hg; have NB760_754 := mK BK754 hg; replace BK754 := kb BK754 hb; clear hb hbox hg; have hnb354 := NB760_661.out; have hnc354 := NB661_760.out; have hnb355 := NB760_754.out; have hnc355 := NB754_760.out; obtain ⟨hcz356_0, hcz356_1, hfz356_0, hfz356_1⟩ := cZ BK760; obtain ⟨Ao357, co357, eo357⟩ := Kd.S_slice HO758.out; subst eo357; obtain ⟨hcz358_0, hcz358_1, hfz358_0, hfz358_1⟩ := cZ BK754) | ((with_reducible refine gate_callee (f := 30) rfl ?_); refine gL 517 Try.func30 #[.agg #[.int .i64 t747, .slice Ao350 t748.length co350], .slice Ao351 t751.length co351] ?_; (with_reducible refine (spec_RenameStates.calls kj252 t747 _ _ t748 _ _ t751 t761 t762 t765 _ ?side1 (Kd.S_reads' HO750.out).2.1 ?side3 (Kd.R_reads' HO753.out).2.1 A266.out).mono ?_); (case side1 => refine (Kd.S_reads' (e := 29) (base := w.heap.size) (ok := fun k_ => (((some k_ ≠ (.slice Ao351 t751.length co351 : Value).ownBlock ∧ some k_ ≠ (.slice Ao24 t656.length co24 : Value).ownBlock) ∧ some k_ ≠ (.slice Ao357 t756.length co357 : Value).ownBlock) ∧ k_ < bzw352_)) (n := t748.length) (c := co350) ?_).2.2; exact (by (with_reducible repeat (first | apply Kd.S_alloc | apply Kd.S_drewN | apply Kd.S_drew)); exact (Kd.S_mono (Kd.S_far (p := ⟨gb760, 1, none⟩) (Kd.S_far (p := ⟨gb760, 0, none⟩) (Kd.S_types HO750.out BK760.out (by decide)) (fun _ hk => hk.2) (.int .i64 t755)) (fun _ hk => hk.2) (.slice Ao357 t756.length co357)) (fun _ h_ => h_.1)))); (case side3 => refine (Kd.R_reads' (e := 3) (base := w.heap.size) (ok := fun k_ => True) (n := t751.length) (c := co351) ?_).2.2; exact (by (with_reducible repeat (first | apply Kd.R_alloc | apply Kd.R_drewN | apply Kd.R_drew)); exact (Kd.R_mono (Kd.R_far (p := ⟨gb760, 1, none⟩) (Kd.R_far (p := ⟨gb760, 0, none⟩) (Kd.R_types HO753.out BK760.out (by decide)) (fun _ hk => hk.2) (.int .i64 t755)) (fun _ hk => hk.2) (.slice Ao357 t756.length co357)) (fun _ h_ => h_.1)))); rintro e w359 ⟨v763, rfl, ho0, hb⟩; refine ⟨_, rfl, ?_⟩; obtain ⟨bzw359_, hzow359_, hznw359_, hzbw359_⟩ := born_pair hb; have HO764 := am (Kd.S_lower (Kd.S_new' (Kd.S_new' (Kd.S_new' (Kd.S_new' (hznw359_ ho0) (Kd.S_lt (by (with_reducible repeat (first | apply Kd.S_alloc | apply Kd.S_drewN | apply Kd.S_drew)); exact (Kd.S_mono (Kd.S_far (p := ⟨gb760, 1, none⟩) (Kd.S_far (p := ⟨gb760, 0, none⟩) (Kd.S_types HO_662001.out BK760.out (by decide)) (fun _ hk => hk.2) (.int .i64 t755)) (fun _ hk => hk.2) (.slice Ao357 t756.length co357)) (fun _ h_ => h_.1))))) (Kd.S_lt (by (with_reducible repeat (first | apply Kd.S_alloc | apply Kd.S_drewN | apply Kd.S_drew)); exact (Kd.S_mono (Kd.S_far (p := ⟨gb760, 1, none⟩) (Kd.S_far (p := ⟨gb760, 0, none⟩) (Kd.S_types HO750.out BK760.out (by decide)) (fun _ hk => hk.2) (.int .i64 t755)) (fun _ hk => hk.2) (.slice Ao357 t756.length co357)) (fun _ h_ => h_.1))))) (Kd.R_lt (by (with_reducible repeat (first | apply Kd.R_alloc | apply Kd.R_drewN | apply Kd.R_drew)); exact (Kd.R_mono (Kd.R_far (p := ⟨gb760, 1, none⟩) (Kd.R_far (p := ⟨gb760, 0, none⟩) (Kd.R_types HO753.out BK760.out (by decide)) (fun _ hk => hk.2) (.int .i64 t755)) (fun _ hk => hk.2) (.slice Ao357 t756.length co357)) (fun _ h_ => h_.1))))) (Kd.S_lt (by (with_reducible repeat (first | apply Kd.S_alloc | apply Kd.S_drewN | apply Kd.S_drew)); exact (Kd.S_mono (Kd.S_far (p := ⟨gb760, 1, none⟩) (Kd.S_far (p := ⟨gb760, 0, none⟩) (Kd.S_types HO758.out BK760.out (by decide)) (fun _ hk => hk.2) (.int .i64 t755)) (fun _ hk => hk.2) (.slice Ao357 t756.length co357)) (fun _ h_ => h_.1))))) (below_size bB)); replace HO_662001 := am (Kd.S_mono (ok' := fun k_ => (((((((True ∧ some k_ ≠ (.slice Ao350 t748.length co350 : Value).ownBlock) ∧ some k_ ≠ (.slice Ao351 t751.length co351 : Value).ownBlock) ∧ k_ < bzw346_) ∧ some k_ ≠ (.slice Ao357 t756.length co357 : Value).ownBlock) ∧ k_ < bzw352_) ∧ some k_ ≠ (v763 : Value).ownBlock) ∧ k_ < bzw359_)) (hzow359_ (by (with_reducible repeat (first | apply Kd.S_alloc | apply Kd.S_drewN | apply Kd.S_drew)); exact (Kd.S_mono (Kd.S_far (p := ⟨gb760, 1, none⟩) (Kd.S_far (p := ⟨gb760, 0, none⟩) (Kd.S_types HO_662001.out BK760.out (by decide)) (fun _ hk => hk.2) (.int .i64 t755)) (fun _ hk => hk.2) (.slice Ao357 t756.length co357)) (fun _ h_ => h_.1)))) (fun k_ hk_ => ⟨⟨hk_.1, fun e_ => Nat.not_le.2 hk_.2 (hzbw359_ _ (Kd.S_base ho0 k_ e_.symm))⟩, hk_.2⟩)); replace HO750 := am (Kd.S_mono (ok' := fun k_ => (((((some k_ ≠ (.slice Ao351 t751.length co351 : Value).ownBlock ∧ some k_ ≠ (.slice Ao24 t656.length co24 : Value).ownBlock) ∧ some k_ ≠ (.slice Ao357 t756.length co357 : Value).ownBlock) ∧ k_ < bzw352_) ∧ some k_ ≠ (v763 : Value).ownBlock) ∧ k_ < bzw359_)) (hzow359_ (by (with_reducible repeat (first | apply Kd.S_alloc | apply Kd.S_drewN | apply Kd.S_drew)); exact (Kd.S_mono (Kd.S_far (p := ⟨gb760, 1, none⟩) (Kd.S_far (p := ⟨gb760, 0, none⟩) (Kd.S_types HO750.out BK760.out (by decide)) (fun _ hk => hk.2) (.int .i64 t755)) (fun _ hk => hk.2) (.slice Ao357 t756.length co357)) (fun _ h_ => h_.1)))) (fun k_ hk_ => ⟨⟨hk_.1, fun e_ => Nat.not_le.2 hk_.2 (hzbw359_ _ (Kd.S_base ho0 k_ e_.symm))⟩, hk_.2⟩)); replace HO753 := am (Kd.R_below (by (with_reducible repeat (first | apply Kd.R_alloc | apply Kd.R_drewN | apply Kd.R_drew)); exact (Kd.R_mono (Kd.R_far (p := ⟨gb760, 1, none⟩) (Kd.R_far (p := ⟨gb760, 0, none⟩) (Kd.R_types HO753.out BK760.out (by decide)) (fun _ hk => hk.2) (.int .i64 t755)) (fun _ hk => hk.2) (.slice Ao357 t756.length co357)) (fun _ h_ => h_.1))) hb); replace HO758 := am (Kd.S_mono (ok' := fun k_ => ((((((True ∧ bzw352_ ≤ k_) ∧ some k_ ≠ (.slice Ao24 t656.length co24 : Value).ownBlock) ∧ some k_ ≠ (.slice Ao350 t748.length co350 : Value).ownBlock) ∧ some k_ ≠ (.slice Ao351 t751.length co351 : Value).ownBlock) ∧ some k_ ≠ (v763 : Value).ownBlock) ∧ k_ < bzw359_)) (hzow359_ (by (with_reducible repeat (first | apply Kd.S_alloc | apply Kd.S_drewN | apply Kd.S_drew)); exact (Kd.S_mono (Kd.S_far (p := ⟨gb760, 1, none⟩) (Kd.S_far (p := ⟨gb760, 0, none⟩) (Kd.S_types HO758.out BK760.out (by decide)) (fun _ hk => hk.2) (.int .i64 t755)) (fun _ hk => hk.2) (.slice Ao357 t756.length co357)) (fun _ h_ => h_.1)))) (fun k_ hk_ => ⟨⟨hk_.1, fun e_ => Nat.not_le.2 hk_.2 (hzbw359_ _ (Kd.S_base ho0 k_ e_.symm))⟩, hk_.2⟩)); replace BK661 := am (blk_below (g := gb661) (o := .cells #[.int .i64 t655, .slice Ao24 t656.length co24] 26 (0, 0)) (by (with_reducible repeat (first | refine blk_drewN ?_ _ | refine blk_drew ?_ | refine blk_alloc ?_ _)); refine blk_far ?_ NB661_760.out _; (with_reducible repeat (first | refine blk_drewN ?_ _ | refine blk_drew ?_ | refine blk_alloc ?_ _)); refine blk_far ?_ NB661_760.out _; (with_reducible repeat (first | refine blk_drewN ?_ _ | refine blk_drew ?_ | refine blk_alloc ?_ _)); exact BK661.out) hb); replace BK754 := am (blk_below (g := gb754) (o := .cells #[.int .i64 t747, .slice Ao350 t748.length co350] 26 (0, 0)) (by (with_reducible repeat (first | refine blk_drewN ?_ _ | refine blk_drew ?_ | refine blk_alloc ?_ _)); refine blk_far ?_ NB754_760.out _; (with_reducible repeat (first | refine blk_drewN ?_ _ | refine blk_drew ?_ | refine blk_alloc ?_ _)); refine blk_far ?_ NB754_760.out _; (with_reducible repeat (first | refine blk_drewN ?_ _ | refine blk_drew ?_ | refine blk_alloc ?_ _)); exact BK754.out) hb); replace BK760 := am (blk_below (g := gb760) (o := .cells #[.int .i64 t755, .slice Ao357 t756.length co357] 26 (0, 0)) (by (with_reducible repeat (first | refine blk_drewN ?_ _ | refine blk_drew ?_ | refine blk_alloc ?_ _)); refine blk_put (cs := #[.int .i64 t755, .slice none 0 0]) ?_ 1 _ rfl; (with_reducible repeat (first | refine blk_drewN ?_ _ | refine blk_drew ?_ | refine blk_alloc ?_ _)); refine blk_put (cs := #[.int .i64 0, .slice none 0 0]) ?_ 0 _ rfl; (with_reducible repeat (first | refine blk_drewN ?_ _ | refine blk_drew ?_ | refine blk_alloc ?_ _)); exact BK760.out) hb); replace HB := sB hb) | ((with_reducible refine gate_dst (N := 57) rfl ?_); (try (refine gate_guard (by rfl) ?_; dsimp only)); refine bE 57 #[.int .i64 0, .slice none 0 0] 26 ?_; intro gb766 hg w360 hbox hb; replace HO_662001 := lS HO_662001 hb; replace HO750 := lS HO750 hb; replace HO753 := lR HO753 hb; replace HO758 := lS HO758 hb; replace HO764 := lS HO764 hb; have BK766 := am (hbox); have GW766 := gW hg; have GE766 := gW hg; replace HB := sB hb; have NB661_766 := nK BK661 hg; have NB766_661 := mK BK661 hg; replace BK661 := kb BK661 hb; have NB754_766 := nK BK754 hg; have NB766_754 := mK BK754 hg; replace BK754 := kb BK754 hb; have NB760_766 := nK BK760 hg; have NB766_760 := mK BK760 hg; replace BK760 := kb BK760 hb; clear hb hbox hg; have hnb361 := NB766_661.out; have hnc361 := NB661_766.out; have hnb362 := NB766_754.out; have hnc362 := NB754_766.out; have hnb363 := NB766_760.out; have hnc363 := NB760_766.out; obtain ⟨hcz364_0, hcz364_1, hfz364_0, hfz364_1⟩ := cZ BK766; obtain ⟨Ao365, co365, eo365⟩ := Kd.S_slice HO764.out; subst eo365) | ((with_reducible refine gate_callee (f := 31) rfl ?_); refine gL 522 Try.func31 #[.slice A1 l1.length c1] ?_; (with_reducible refine (spec_DrawCountWays.calls kj252 _ _ l1 t767 t768 t771 t772 t773 _ ?side1 HC1.out A267.out).mono ?_); (case side1 => exact Kd.C_below HR1.out bB); rintro e w366 ⟨v769, rfl, ho0, hb⟩; refine ⟨_, rfl, ?_⟩; obtain ⟨bzw366_, hzow366_, hznw366_, hzbw366_⟩ := born_pair hb; have HO770 := am (Kd.S_lower (Kd.S_new' (Kd.S_new' (Kd.S_new' (Kd.S_new' (Kd.S_new' (hznw366_ ho0) (Kd.S_lt (by (with_reducible repeat (first | apply Kd.S_alloc | apply Kd.S_drewN | apply Kd.S_drew)); exact (Kd.S_mono (Kd.S_far (p := ⟨gb766, 1, none⟩) (Kd.S_far (p := ⟨gb766, 0, none⟩) (Kd.S_types HO_662001.out BK766.out (by decide)) (fun _ hk => hk.2) (.int .i64 t761)) (fun _ hk => hk.2) (.slice Ao365 t762.length co365)) (fun _ h_ => h_.1))))) (Kd.S_lt (by (with_reducible repeat (first | apply Kd.S_alloc | apply Kd.S_drewN | apply Kd.S_drew)); exact (Kd.S_mono (Kd.S_far (p := ⟨gb766, 1, none⟩) (Kd.S_far (p := ⟨gb766, 0, none⟩) (Kd.S_types HO750.out BK766.out (by decide)) (fun _ hk => hk.2) (.int .i64 t761)) (fun _ hk => hk.2) (.slice Ao365 t762.length co365)) (fun _ h_ => h_.1))))) (Kd.R_lt (by (with_reducible repeat (first | apply Kd.R_alloc | apply Kd.R_drewN | apply Kd.R_drew)); exact (Kd.R_mono (Kd.R_far (p := ⟨gb766, 1, none⟩) (Kd.R_far (p := ⟨gb766, 0, none⟩) (Kd.R_types HO753.out BK766.out (by decide)) (fun _ hk => hk.2) (.int .i64 t761)) (fun _ hk => hk.2) (.slice Ao365 t762.length co365)) (fun _ h_ => h_.1))))) (Kd.S_lt (by (with_reducible repeat (first | apply Kd.S_alloc | apply Kd.S_drewN | apply Kd.S_drew)); exact (Kd.S_mono (Kd.S_far (p := ⟨gb766, 1, none⟩) (Kd.S_far (p := ⟨gb766, 0, none⟩) (Kd.S_types HO758.out BK766.out (by decide)) (fun _ hk => hk.2) (.int .i64 t761)) (fun _ hk => hk.2) (.slice Ao365 t762.length co365)) (fun _ h_ => h_.1))))) (Kd.S_lt (by (with_reducible repeat (first | apply Kd.S_alloc | apply Kd.S_drewN | apply Kd.S_drew)); exact (Kd.S_mono (Kd.S_far (p := ⟨gb766, 1, none⟩) (Kd.S_far (p := ⟨gb766, 0, none⟩) (Kd.S_types HO764.out BK766.out (by decide)) (fun _ hk => hk.2) (.int .i64 t761)) (fun _ hk => hk.2) (.slice Ao365 t762.length co365)) (fun _ h_ => h_.1))))) (below_size bB)); replace HO_662001 := am (Kd.S_mono (ok' := fun k_ => (((((((((True ∧ some k_ ≠ (.slice Ao350 t748.length co350 : Value).ownBlock) ∧ some k_ ≠ (.slice Ao351 t751.length co351 : Value).ownBlock) ∧ k_ < bzw346_) ∧ some k_ ≠ (.slice Ao357 t756.length co357 : Value).ownBlock) ∧ k_ < bzw352_) ∧ some k_ ≠ (.slice Ao365 t762.length co365 : Value).ownBlock) ∧ k_ < bzw359_) ∧ some k_ ≠ (v769 : Value).ownBlock) ∧ k_ < bzw366_)) (hzow366_ (by (with_reducible repeat (first | apply Kd.S_alloc | apply Kd.S_drewN | apply Kd.S_drew)); exact (Kd.S_mono (Kd.S_far (p := ⟨gb766, 1, none⟩) (Kd.S_far (p := ⟨gb766, 0, none⟩) (Kd.S_types HO_662001.out BK766.out (by decide)) (fun _ hk => hk.2) (.int .i64 t761)) (fun _ hk => hk.2) (.slice Ao365 t762.length co365)) (fun _ h_ => h_.1)))) (fun k_ hk_ => ⟨⟨hk_.1, fun e_ => Nat.not_le.2 hk_.2 (hzbw366_ _ (Kd.S_base ho0 k_ e_.symm))⟩, hk_.2⟩)); replace HO750 := am (Kd.S_mono (ok' := fun k_ => (((((((some k_ ≠ (.slice Ao351 t751.length co351 : Value).ownBlock ∧ some k_ ≠ (.slice Ao24 t656.length co24 : Value).ownBlock) ∧ some k_ ≠ (.slice Ao357 t756.length co357 : Value).ownBlock) ∧ k_ < bzw352_) ∧ some k_ ≠ (.slice Ao365 t762.length co365 : Value).ownBlock) ∧ k_ < bzw359_) ∧ some k_ ≠ (v769 : Value).ownBlock) ∧ k_ < bzw366_)) (hzow366_ (by (with_reducible repeat (first | apply Kd.S_alloc | apply Kd.S_drewN | apply Kd.S_drew)); exact (Kd.S_mono (Kd.S_far (p := ⟨gb766, 1, none⟩) (Kd.S_far (p := ⟨gb766, 0, none⟩) (Kd.S_types HO750.out BK766.out (by decide)) (fun _ hk => hk.2) (.int .i64 t761)) (fun _ hk => hk.2) (.slice Ao365 t762.length co365)) (fun _ h_ => h_.1)))) (fun k_ hk_ => ⟨⟨hk_.1, fun e_ => Nat.not_le.2 hk_.2 (hzbw366_ _ (Kd.S_base ho0 k_ e_.symm))⟩, hk_.2⟩)); replace HO753 := am (Kd.R_below (by (with_reducible repeat (first | apply Kd.R_alloc | apply Kd.R_drewN | apply Kd.R_drew)); exact (Kd.R_mono (Kd.R_far (p := ⟨gb766, 1, none⟩) (Kd.R_far (p := ⟨gb766, 0, none⟩) (Kd.R_types HO753.out BK766.out (by decide)) (fun _ hk => hk.2) (.int .i64 t761)) (fun _ hk => hk.2) (.slice Ao365 t762.length co365)) (fun _ h_ => h_.1))) hb); replace HO758 := am (Kd.S_mono (ok' := fun k_ => ((((((((True ∧ bzw352_ ≤ k_) ∧ some k_ ≠ (.slice Ao24 t656.length co24 : Value).ownBlock) ∧ some k_ ≠ (.slice Ao350 t748.length co350 : Value).ownBlock) ∧ some k_ ≠ (.slice Ao351 t751.length co351 : Value).ownBlock) ∧ some k_ ≠ (.slice Ao365 t762.length co365 : Value).ownBlock) ∧ k_ < bzw359_) ∧ some k_ ≠ (v769 : Value).ownBlock) ∧ k_ < bzw366_)) (hzow366_ (by (with_reducible repeat (first | apply Kd.S_alloc | apply Kd.S_drewN | apply Kd.S_drew)); exact (Kd.S_mono (Kd.S_far (p := ⟨gb766, 1, none⟩) (Kd.S_far (p := ⟨gb766, 0, none⟩) (Kd.S_types HO758.out BK766.out (by decide)) (fun _ hk => hk.2) (.int .i64 t761)) (fun _ hk => hk.2) (.slice Ao365 t762.length co365)) (fun _ h_ => h_.1)))) (fun k_ hk_ => ⟨⟨hk_.1, fun e_ => Nat.not_le.2 hk_.2 (hzbw366_ _ (Kd.S_base ho0 k_ e_.symm))⟩, hk_.2⟩)); replace HO764 := am (Kd.S_mono (ok' := fun k_ => (((((((True ∧ bzw359_ ≤ k_) ∧ some k_ ≠ (.slice Ao24 t656.length co24 : Value).ownBlock) ∧ some k_ ≠ (.slice Ao350 t748.length co350 : Value).ownBlock) ∧ some k_ ≠ (.slice Ao351 t751.length co351 : Value).ownBlock) ∧ some k_ ≠ (.slice Ao357 t756.length co357 : Value).ownBlock) ∧ some k_ ≠ (v769 : Value).ownBlock) ∧ k_ < bzw366_)) (hzow366_ (by (with_reducible repeat (first | apply Kd.S_alloc | apply Kd.S_drewN | apply Kd.S_drew)); exact (Kd.S_mono (Kd.S_far (p := ⟨gb766, 1, none⟩) (Kd.S_far (p := ⟨gb766, 0, none⟩) (Kd.S_types HO764.out BK766.out (by decide)) (fun _ hk => hk.2) (.int .i64 t761)) (fun _ hk => hk.2) (.slice Ao365 t762.length co365)) (fun _ h_ => h_.1)))) (fun k_ hk_ => ⟨⟨hk_.1, fun e_ => Nat.not_le.2 hk_.2 (hzbw366_ _ (Kd.S_base ho0 k_ e_.symm))⟩, hk_.2⟩)); replace BK661 := am (blk_below (g := gb661) (o := .cells #[.int .i64 t655, .slice Ao24 t656.length co24] 26 (0, 0)) (by (with_reducible repeat (first | refine blk_drewN ?_ _ | refine blk_drew ?_ | refine blk_alloc ?_ _)); refine blk_far ?_ NB661_766.out _; (with_reducible repeat (first | refine blk_drewN ?_ _ | refine blk_drew ?_ | refine blk_alloc ?_ _)); refine blk_far ?_ NB661_766.out _; (with_reducible repeat (first | refine blk_drewN ?_ _ | refine blk_drew ?_ | refine blk_alloc ?_ _)); exact BK661.out) hb); replace BK754 := am (blk_below (g := gb754) (o := .cells #[.int .i64 t747, .slice Ao350 t748.length co350] 26 (0, 0)) (by (with_reducible repeat (first | refine blk_drewN ?_ _ | refine blk_drew ?_ | refine blk_alloc ?_ _)); refine blk_far ?_ NB754_766.out _; (with_reducible repeat (first | refine blk_drewN ?_ _ | refine blk_drew ?_ | refine blk_alloc ?_ _)); refine blk_far ?_ NB754_766.out _; (with_reducible repeat (first | refine blk_drewN ?_ _ | refine blk_drew ?_ | refine blk_alloc ?_ _)); exact BK754.out) hb); replace BK760 := am (blk_below (g := gb760) (o := .cells #[.int .i64 t755, .slice Ao357 t756.length co357] 26 (0, 0)) (by (with_reducible repeat (first | refine blk_drewN ?_ _ | refine blk_drew ?_ | refine blk_alloc ?_ _)); refine blk_far ?_ NB760_766.out _; (with_reducible repeat (first | refine blk_drewN ?_ _ | refine blk_drew ?_ | refine blk_alloc ?_ _)); refine blk_far ?_ NB760_766.out _; (with_reducible repeat (first | refine blk_drewN ?_ _ | refine blk_drew ?_ | refine blk_alloc ?_ _)); exact BK760.out) hb); replace BK766 := am (blk_below (g := gb766) (o := .cells #[.int .i64 t761, .slice Ao365 t762.length co365] 26 (0, 0)) (by (with_reducible repeat (first | refine blk_drewN ?_ _ | refine blk_drew ?_ | refine blk_alloc ?_ _)); refine blk_put (cs := #[.int .i64 t761, .slice none 0 0]) ?_ 1 _ rfl; (with_reducible repeat (first | refine blk_drewN ?_ _ | refine blk_drew ?_ | refine blk_alloc ?_ _)); refine blk_put (cs := #[.int .i64 0, .slice none 0 0]) ?_ 0 _ rfl; (with_reducible repeat (first | refine blk_drewN ?_ _ | refine blk_drew ?_ | refine blk_alloc ?_ _)); exact BK766.out) hb); replace HB := sB hb) | ((with_reducible refine gate_dst (N := 59) rfl ?_); (try (refine gate_guard (by rfl) ?_; dsimp only)); refine bE 59 #[.int .i64 0, .slice none 0 0] 26 ?_; intro gb774 hg w367 hbox hb; replace HO_662001 := lS HO_662001 hb; replace HO750 := lS HO750 hb; replace HO753 := lR HO753 hb; replace HO758 := lS HO758 hb; replace HO764 := lS HO764 hb; replace HO770 := lS HO770 hb; have BK774 := am (hbox); have GW774 := gW hg; have GE774 := gW hg; replace HB := sB hb; have NB661_774 := nK BK661 hg; have NB774_661 := mK BK661 hg; replace BK661 := kb BK661 hb; have NB754_774 := nK BK754 hg; have NB774_754 := mK BK754 hg; replace BK754 := kb BK754 hb; have NB760_774 := nK BK760 hg; have NB774_760 := mK BK760 hg; replace BK760 := kb BK760 hb; have NB766_774 := nK BK766 hg; have NB774_766 := mK BK766 hg; replace BK766 := kb BK766 hb; clear hb hbox hg; have hnb368 := NB774_661.out; have hnc368 := NB661_774.out; have hnb369 := NB774_754.out; have hnc369 := NB754_774.out; have hnb370 := NB774_760.out; have hnc370 := NB760_774.out; have hnb371 := NB774_766.out; have hnc371 := NB766_774.out; obtain ⟨hcz372_0, hcz372_1, hfz372_0, hfz372_1⟩ := cZ BK774; obtain ⟨Ao373, co373, eo373⟩ := Kd.S_slice HO770.out; subst eo373) | ((with_reducible refine gate_callee (f := 25) rfl ?_); refine gL 532 Try.func25 #[.agg #[.int .i64 t767, .slice Ao373 t768.length co373], .int .i64 t771, .int .i64 t772, .int .i64 t773] ?_; (with_reducible refine (impl_CountWays.calls kj252 t767 _ _ t768 t771 t772 t773 t775 t776 _ ?side1 (Kd.S_reads' HO770.out).2.1 A268.out).mono ?_); (case side1 => refine (Kd.S_reads' (e := 29) (base := w.heap.size) (ok := fun k_ => ((((((True ∧ bzw366_ ≤ k_) ∧ some k_ ≠ (.slice Ao24 t656.length co24 : Value).ownBlock) ∧ some k_ ≠ (.slice Ao350 t748.length co350 : Value).ownBlock) ∧ some k_ ≠ (.slice Ao351 t751.length co351 : Value).ownBlock) ∧ some k_ ≠ (.slice Ao357 t756.length co357 : Value).ownBlock) ∧ some k_ ≠ (.slice Ao365 t762.length co365 : Value).ownBlock)) (n := t768.length) (c := co373) ?_).2.2; exact (by (with_reducible repeat (first | apply Kd.S_alloc | apply Kd.S_drewN | apply Kd.S_drew)); exact (Kd.S_mono (Kd.S_far (p := ⟨gb774, 1, none⟩) (Kd.S_far (p := ⟨gb774, 0, none⟩) (Kd.S_types HO770.out BK774.out (by decide)) (fun _ hk => hk.2) (.int .i64 t767)) (fun _ hk => hk.2) (.slice Ao373 t768.length co373)) (fun _ h_ => h_.1)))); rintro e w374 ⟨rfl, hb⟩; refine ⟨_, rfl, ?_⟩; replace HO_662001 := am (Kd.S_below (by (with_reducible repeat (first | apply Kd.S_alloc | apply Kd.S_drewN | apply Kd.S_drew)); exact (Kd.S_mono (Kd.S_far (p := ⟨gb774, 1, none⟩) (Kd.S_far (p := ⟨gb774, 0, none⟩) (Kd.S_types HO_662001.out BK774.out (by decide)) (fun _ hk => hk.2) (.int .i64 t767)) (fun _ hk => hk.2) (.slice Ao373 t768.length co373)) (fun _ h_ => h_.1))) hb); replace HO750 := am (Kd.S_below (by (with_reducible repeat (first | apply Kd.S_alloc | apply Kd.S_drewN | apply Kd.S_drew)); exact (Kd.S_mono (Kd.S_far (p := ⟨gb774, 1, none⟩) (Kd.S_far (p := ⟨gb774, 0, none⟩) (Kd.S_types HO750.out BK774.out (by decide)) (fun _ hk => hk.2) (.int .i64 t767)) (fun _ hk => hk.2) (.slice Ao373 t768.length co373)) (fun _ h_ => h_.1))) hb); replace HO753 := am (Kd.R_below (by (with_reducible repeat (first | apply Kd.R_alloc | apply Kd.R_drewN | apply Kd.R_drew)); exact (Kd.R_mono (Kd.R_far (p := ⟨gb774, 1, none⟩) (Kd.R_far (p := ⟨gb774, 0, none⟩) (Kd.R_types HO753.out BK774.out (by decide)) (fun _ hk => hk.2) (.int .i64 t767)) (fun _ hk => hk.2) (.slice Ao373 t768.length co373)) (fun _ h_ => h_.1))) hb); replace HO758 := am (Kd.S_below (by (with_reducible repeat (first | apply Kd.S_alloc | apply Kd.S_drewN | apply Kd.S_drew)); exact (Kd.S_mono (Kd.S_far (p := ⟨gb774, 1, none⟩) (Kd.S_far (p := ⟨gb774, 0, none⟩) (Kd.S_types HO758.out BK774.out (by decide)) (fun _ hk => hk.2) (.int .i64 t767)) (fun _ hk => hk.2) (.slice Ao373 t768.length co373)) (fun _ h_ => h_.1))) hb); replace HO764 := am (Kd.S_below (by (with_reducible repeat (first | apply Kd.S_alloc | apply Kd.S_drewN | apply Kd.S_drew)); exact (Kd.S_mono (Kd.S_far (p := ⟨gb774, 1, none⟩) (Kd.S_far (p := ⟨gb774, 0, none⟩) (Kd.S_types HO764.out BK774.out (by decide)) (fun _ hk => hk.2) (.int .i64 t767)) (fun _ hk => hk.2) (.slice Ao373 t768.length co373)) (fun _ h_ => h_.1))) hb); replace HO770 := am (Kd.S_below (by (with_reducible repeat (first | apply Kd.S_alloc | apply Kd.S_drewN | apply Kd.S_drew)); exact (Kd.S_mono (Kd.S_far (p := ⟨gb774, 1, none⟩) (Kd.S_far (p := ⟨gb774, 0, none⟩) (Kd.S_types HO770.out BK774.out (by decide)) (fun _ hk => hk.2) (.int .i64 t767)) (fun _ hk => hk.2) (.slice Ao373 t768.length co373)) (fun _ h_ => h_.1))) hb); replace BK661 := am (blk_below (g := gb661) (o := .cells #[.int .i64 t655, .slice Ao24 t656.length co24] 26 (0, 0)) (by (with_reducible repeat (first | refine blk_drewN ?_ _ | refine blk_drew ?_ | refine blk_alloc ?_ _)); refine blk_far ?_ NB661_774.out _; (with_reducible repeat (first | refine blk_drewN ?_ _ | refine blk_drew ?_ | refine blk_alloc ?_ _)); refine blk_far ?_ NB661_774.out _; (with_reducible repeat (first | refine blk_drewN ?_ _ | refine blk_drew ?_ | refine blk_alloc ?_ _)); exact BK661.out) hb); replace BK754 := am (blk_below (g := gb754) (o := .cells #[.int .i64 t747, .slice Ao350 t748.length co350] 26 (0, 0)) (by (with_reducible repeat (first | refine blk_drewN ?_ _ | refine blk_drew ?_ | refine blk_alloc ?_ _)); refine blk_far ?_ NB754_774.out _; (with_reducible repeat (first | refine blk_drewN ?_ _ | refine blk_drew ?_ | refine blk_alloc ?_ _)); refine blk_far ?_ NB754_774.out _; (with_reducible repeat (first | refine blk_drewN ?_ _ | refine blk_drew ?_ | refine blk_alloc ?_ _)); exact BK754.out) hb); replace BK760 := am (blk_below (g := gb760) (o := .cells #[.int .i64 t755, .slice Ao357 t756.length co357] 26 (0, 0)) (by (with_reducible repeat (first | refine blk_drewN ?_ _ | refine blk_drew ?_ | refine blk_alloc ?_ _)); refine blk_far ?_ NB760_774.out _; (with_reducible repeat (first | refine blk_drewN ?_ _ | refine blk_drew ?_ | refine blk_alloc ?_ _)); refine blk_far ?_ NB760_774.out _; (with_reducible repeat (first | refine blk_drewN ?_ _ | refine blk_drew ?_ | refine blk_alloc ?_ _)); exact BK760.out) hb); replace BK766 := am (blk_below (g := gb766) (o := .cells #[.int .i64 t761, .slice Ao365 t762.length co365] 26 (0, 0)) (by (with_reducible repeat (first | refine blk_drewN ?_ _ | refine blk_drew ?_ | refine blk_alloc ?_ _)); refine blk_far ?_ NB766_774.out _; (with_reducible repeat (first | refine blk_drewN ?_ _ | refine blk_drew ?_ | refine blk_alloc ?_ _)); refine blk_far ?_ NB766_774.out _; (with_reducible repeat (first | refine blk_drewN ?_ _ | refine blk_drew ?_ | refine blk_alloc ?_ _)); exact BK766.out) hb); replace BK774 := am (blk_below (g := gb774) (o := .cells #[.int .i64 t767, .slice Ao373 t768.length co373] 26 (0, 0)) (by (with_reducible repeat (first | refine blk_drewN ?_ _ | refine blk_drew ?_ | refine blk_alloc ?_ _)); refine blk_put (cs := #[.int .i64 t767, .slice none 0 0]) ?_ 1 _ rfl; (with_reducible repeat (first | refine blk_drewN ?_ _ | refine blk_drew ?_ | refine blk_alloc ?_ _)); refine blk_put (cs := #[.int .i64 0, .slice none 0 0]) ?_ 0 _ rfl; (with_reducible repeat (first | refine blk_drewN ?_ _ | refine blk_drew ?_ | refine blk_alloc ?_ _)); exact BK774.out) hb); replace HB := sB hb; obtain ⟨hcz375_0, hcz375_1, hfz375_0, hfz375_1⟩ := cZ BK774) | ((with_reducible refine gate_callee (f := 32) rfl ?_); refine gL 540 Try.func32 #[.agg #[.int .i64 t767, .slice Ao373 t768.length co373], .int .i64 t771, .int .i64 t772, .int .i64 t773] ?_; (with_reducible refine (spec_CountWays.calls kj252 t767 _ _ t768 t771 t772 t773 t777 t778 _ ?side1 (Kd.S_reads' HO770.out).2.1 A269.out).mono ?_); (case side1 => exact cB (Kd.S_reads' HO770.out).2.2); rintro e w376 ⟨rfl, hb⟩; refine ⟨_, rfl, ?_⟩; replace HO_662001 := lS HO_662001 hb; replace HO750 := lS HO750 hb; replace HO753 := lR HO753 hb; replace HO758 := lS HO758 hb; replace HO764 := lS HO764 hb; replace HO770 := lS HO770 hb; replace BK661 := kb BK661 hb; replace BK754 := kb BK754 hb; replace BK760 := kb BK760 hb; replace BK766 := kb BK766 hb; replace BK774 := kb BK774 hb; replace HB := sB hb; obtain ⟨hcz377_0, hcz377_1, hfz377_0, hfz377_1⟩ := cZ BK760; obtain ⟨hcz378_0, hcz378_1, hfz378_0, hfz378_1⟩ := cZ BK766) | (go_at_call 33; (with_reducible refine (laws_uStates.calls kj252 t755 _ _ t756 t761 _ _ t762 true _ ?side1 (Kd.S_reads' HO758.out).2.1 ?side3 (Kd.S_reads' HO764.out).2.1 A271.out).mono ?_); (case side1 => exact cB (Kd.S_reads' HO758.out).2.2); (case side3 => exact cB (Kd.S_reads' HO764.out).2.2); rintro e w379 ⟨rfl, hb⟩; replace HO_662001 := lS HO_662001 hb; replace HO750 := lS HO750 hb; replace HO753 := lR HO753 hb; replace HO758 := lS HO758 hb; replace HO764 := lS HO764 hb; replace HO770 := lS HO770 hb; replace BK661 := kb BK661 hb; replace BK754 := kb BK754 hb; replace BK760 := kb BK760 hb; replace BK766 := kb BK766 hb; replace BK774 := kb BK774 hb; replace HB := sB hb))
               go_ret
               exact ⟨eW, bB⟩
           · rw [if_neg c274] at H
             have c274b0 : (t775 == t777) = false := beq_eq_false_iff_ne.mpr c274
             have c274b1 : (t775 != t777) = true := bne_iff_ne.mpr c274
             exact absurd H (by simp)
def laws_FnStatesStep.Pure : Prop := ∀ (l0 : List Int) (l1 : List Int), l0.length ≤ maxLen → l0.length * 1 ≤ 140737488351232 → (∀ x ∈ l0, (Lit.int .u8 x).wf = true) → l1.length ≤ maxLen → l1.length * 1 ≤ 140737488351232 → (∀ x ∈ l1, (Lit.int .u8 x).wf = true) → ∃ k, laws_FnStatesStep.f k l0 l1 = some true
theorem laws_FnStatesStep.walk (P : laws_FnStatesStep.Pure) (a0 : Option Addr) (len0 cap0 : Nat) (z0 : List Int) (a1 : Option Addr) (len1 cap1 : Nat) (z1 : List Int) (w : World) (w0 : (a0 = none ∧ len0 = 0 ∧ cap0 = 0 ∧ z0 = []) ∨ ∃ x, a0 = some x ∧ len0 ≤ cap0 ∧ cap0 ≤ maxLen ∧ z0.length = cap0 ∧ (∀ i, i < z0.length → w.cell? (x.add i) = some (.int .u8 (z0.getD i 0))) ∧ ∀ n ∈ z0, (Lit.int .u8 n).wf = true) (y0 : len0 * 1 ≤ 140737488351232) (w1 : (a1 = none ∧ len1 = 0 ∧ cap1 = 0 ∧ z1 = []) ∨ ∃ x, a1 = some x ∧ len1 ≤ cap1 ∧ cap1 ≤ maxLen ∧ z1.length = cap1 ∧ (∀ i, i < z1.length → w.cell? (x.add i) = some (.int .u8 (z1.getD i 0))) ∧ ∀ n ∈ z1, (Lit.int .u8 n).wf = true) (y1 : len1 * 1 ≤ 140737488351232) :
 Calls Try.prog 3 #[.slice a0 len0 cap0, .slice a1 len1 cap1] w fun e w' => e = .returned (.bool true) ∧ Below w.heap.size w w' := by
 obtain ⟨l0, rfl, hr0, hm0, hw0, hc0⟩ := ReadsInt.ofRowC w0
 obtain ⟨l1, rfl, hr1, hm1, hw1, hc1⟩ := ReadsInt.ofRowC w1
 obtain ⟨k, h⟩ := P l0 l1 hm0 y0 hw0 hm1 y1 hw1
 refine (laws_FnStatesStep.calls k _ _ l0 _ _ l1 true w (Kd.C_of_reads (d := (0 : Int)) (h1 := fun _ => rfl) hr0) hc0 (Kd.C_of_reads (d := (0 : Int)) (h1 := fun _ => rfl) hr1) hc1 h).mono ?_
 rintro e w' ⟨rfl, hd⟩
 exact ⟨rfl, hd⟩
end Go.Proofs.Ytkkjnmnjbmfpaaa.PFnStatesStep
