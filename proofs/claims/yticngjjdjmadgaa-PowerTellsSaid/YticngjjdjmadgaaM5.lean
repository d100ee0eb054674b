/- Part 5 of the proof. -/
import Derived.Below
import Derived.Deep.Draws
import Derived.Deep.AppendLies
import Derived.Maps.AppendAt
import Derived.OwnWalk
import Derived.Laws.BytesArg
import Derived.Laws.MakeOwn
import Derived.Laws.OwnMore
import Derived.Deep.OwnRows
import Derived.Tactics
import Derived.Lib.ConvBytes
import Derived.Laws.Slices
import Derived.WalkKit
import Derived.KernelRfl
import Derived.RowKit3
import Derived.Deep.LoopGhost
import Derived.Deep.QuietTactic
import Derived.BigQuiet
import Derived.WideLaws
import Derived.Deep.DeepCutAuto
import Derived.Deep.CutBlock
import Derived.Deep.RegionHeld3
import Derived.Laws.Rows
import Derived.Lib.AppendStr
import Derived.ArgAppend
import Derived.Laws.IdiomCopy
import Derived.RowKit
import Derived.OrdersHeld
import Derived.Laws.BitsLemmas
import Derived.Test.YticngjjdjmadgaaProg
import Derived.Laws.StructEq
import Derived.Laws.Tables
import Derived.Orders
import Derived.Laws.Cells
import Derived.Great.BuildSlice
import Derived.Laws.CopyRow
import Derived.Test.YticngjjdjmadgaaM4
set_option linter.unusedVariables false
set_option linter.unusedSimpArgs false
section
set_option linter.unusedVariables false
namespace Go.Proofs.Yticngjjdjmadgaa.PU
open Go Go.RowKit Go.Proofs.YticngjjdjmadgaaW.PrintWords Go.Proofs.YticngjjdjmadgaaW.PrintMore Go.Proofs.Yticngjjdjmadgaa.PL
def whole_made.f (k : Nat) (a0 : Bool) (l1 : List Int) : Option (Bool × List Int) := if 0 ≤ (l1.length : Int) then (if ((l1.length : Int) : Int).toNat ≤ 70368744177664 then ((nat_Trim.f k (splice (List.replicate ((l1.length : Int) : Int).toNat 0) 0 l1)).bind fun t112 => (if a0 = true then (if (t112.length : Int) > 0 then (some (true, t112)) else (some (false, t112))) else (some (false, t112)))) else (none)) else (none)
def whole_Trim.f (k : Nat) (a0_0 : Bool) (l0_1 : List Int) : Option (Bool × List Int) := (whole_made.f k a0_0 l0_1).bind fun bt117 => (some (bt117.1, bt117.2))
def rat_Of.f (k : Nat) (a0_0 : Bool) (l0_1 : List Int) (l1 : List Int) : Option (Bool × List Int × List Int × Int) := (whole_Trim.f k a0_0 l0_1).bind fun bt281 => ((nat_Trim.f k l1).bind fun t285 => (if (t285.length : Int) = 0 then (some (false, ([] : List Int), ([] : List Int), 3)) else ((quo_Gcd.f k bt281.2 t285).bind fun t288 => ((quo_Rem.f k bt281.2 t288).bind fun bt291 => ((quo_Rem.f k t285 t288).bind fun bt298 => (if (bt291.1.length : Int) > 64 then (some (false, ([] : List Int), ([] : List Int), 2)) else (if (bt298.1.length : Int) > 64 then (some (false, ([] : List Int), ([] : List Int), 2)) else (some (bt281.1, bt291.1, bt298.1, 0)))))))))
def rat_Good.j0 : Nat → List Int → List Int → Bool → Option (Bool)
  | 0, _, _, _ => none
  | k + 1, x3, x4, x42 => if x42 = true then (some false) else ((quo_Gcd.f k x3 x4).bind fun t315 => ((nat_Of.f k 1).bind fun t318 => ((nat_Cmp.f k t315 t318).bind fun t321 => (some (t321 == 0)))))
def rat_Good.f (k : Nat) (a0_0 : Bool) (l0_1 : List Int) (l0_2 : List Int) : Option (Bool) := (rat_trimmed.f l0_1).bind fun t313 => (if t313 = true then ((rat_trimmed.f l0_2).bind fun t314 => (if t314 = true then (if (l0_2.length : Int) = 0 then (rat_Good.j0 k l0_1 l0_2 true) else (if (l0_2.length : Int) > 64 then (rat_Good.j0 k l0_1 l0_2 true) else (if (l0_1.length : Int) > 64 then (rat_Good.j0 k l0_1 l0_2 true) else (if a0_0 = true then (if (l0_1.length : Int) = 0 then (rat_Good.j0 k l0_1 l0_2 true) else (rat_Good.j0 k l0_1 l0_2 false)) else (rat_Good.j0 k l0_1 l0_2 false))))) else (rat_Good.j0 k l0_1 l0_2 true))) else (rat_Good.j0 k l0_1 l0_2 true))
def whole_Mul.f (k : Nat) (a0_0 : Bool) (l0_1 : List Int) (a1_0 : Bool) (l1_1 : List Int) : Option (Bool × List Int) := (mul_Of.f k l0_1 l1_1).bind fun t373 => ((whole_made.f k (a0_0 != a1_0) t373).bind fun bt376 => (some (bt376.1, bt376.2)))
def rat_cross.f (k : Nat) (a0_0 : Bool) (l0_1 : List Int) (l0_2 : List Int) (a1_0 : Bool) (l1_1 : List Int) (l1_2 : List Int) : Option (Bool × List Int) := (whole_Mul.f k a0_0 l0_1 false l1_2).bind fun bt383 => (some (bt383.1, bt383.2))
def rat_Div.j0 : Nat → Bool → Bool → List Int → List Int → Bool → List Int → List Int → Option (Bool × List Int × List Int × Int)
  | 0, _, _, _, _, _, _, _ => none
  | k + 1, x14, x471000, x471001, x471002, x472000, x472001, x472002 => if x14 = true then (some (false, ([] : List Int), ([] : List Int), 1)) else ((rat_cross.f k x471000 x471001 x471002 x472000 x472001 x472002).bind fun bt475 => ((mul_Of.f k x471002 x472001).bind fun t480 => ((rat_Of.f k (bt475.1 != x472000) bt475.2 t480).bind fun bt483 => (some (bt483.1, bt483.2.1, bt483.2.2.1, bt483.2.2.2)))))
def rat_Div.f (k : Nat) (a0_0 : Bool) (l0_1 : List Int) (l0_2 : List Int) (a1_0 : Bool) (l1_1 : List Int) (l1_2 : List Int) : Option (Bool × List Int × List Int × Int) := (rat_Good.f k a0_0 l0_1 l0_2).bind fun t473 => (if t473 = true then ((rat_Good.f k a1_0 l1_1 l1_2).bind fun t474 => (rat_Div.j0 k (!t474) a0_0 l0_1 l0_2 a1_0 l1_1 l1_2)) else (rat_Div.j0 k true a0_0 l0_1 l0_2 a1_0 l1_1 l1_2))
def whole_Of.f (k : Nat) (a0 : Int) : Option (Bool × List Int) := if a0 < 0 then ((nat_Of.f k (IntKind.u64.wrap (-(IntKind.u64.wrap (a0))))).bind fun t528 => ((whole_made.f k true t528).bind fun bt531 => (some (bt531.1, bt531.2)))) else ((nat_Of.f k (IntKind.u64.wrap (a0))).bind fun t535 => ((whole_made.f k false t535).bind fun bt538 => (some (bt538.1, bt538.2))))
def rat_Whole.f (k : Nat) (a0 : Int) : Option (Bool × List Int × List Int) := (whole_Of.f k a0).bind fun bt543 => ((nat_Of.f k 1).bind fun t547 => (some (bt543.1, bt543.2, t547)))
def steelyardref07_Limit.f (a0_0 : Bool) (l0_1 : List Int) (l0_2 : List Int) : Option (Bool × List Int × List Int × Int) := if (l0_1.length : Int) > 64 then (some (false, ([] : List Int), ([] : List Int), 2)) else (if (l0_2.length : Int) > 64 then (some (false, ([] : List Int), ([] : List Int), 2)) else (some (a0_0, l0_1, l0_2, 0)))
def steelyardref06_Make.f (k : Nat) (a0 : Bool) (l1 : List Int) : Option (Bool × List Int) := (steelyardref01_Trim.f k l1).bind fun t571 => (if a0 = true then (if (t571.length : Int) > 0 then (some (true, t571)) else (some (false, t571))) else (some (false, t571)))
def steelyardref06_Trim.f (k : Nat) (a0_0 : Bool) (l0_1 : List Int) : Option (Bool × List Int) := (steelyardref06_Make.f k a0_0 l0_1).bind fun bt656 => (some (bt656.1, bt656.2))
def steelyardref07_Wide.f (k : Nat) (a0_0 : Bool) (l0_1 : List Int) (l1 : List Int) : Option (Bool × List Int × List Int) := (steelyardref06_Trim.f k a0_0 l0_1).bind fun bt662 => ((steelyardref03_Gcd.f k bt662.2 l1).bind fun t667 => ((steelyardref03_Rem.f k bt662.2 t667).bind fun bt670 => ((steelyardref06_Make.f k bt662.1 bt670.1).bind fun bt677 => ((steelyardref03_Rem.f k l1 t667).bind fun bt681 => (some (bt677.1, bt677.2, bt681.1))))))
def steelyardref07_Of.f (k : Nat) (a0_0 : Bool) (l0_1 : List Int) (l1 : List Int) : Option (Bool × List Int × List Int × Int) := (steelyardref01_Bits.f k l1).bind fun t690 => (if t690 = 0 then (some (false, ([] : List Int), ([] : List Int), 3)) else ((steelyardref07_Wide.f k a0_0 l0_1 l1).bind fun bt691 => ((steelyardref07_Limit.f bt691.1 bt691.2.1 bt691.2.2).bind fun bt698 => (some (bt698.1, bt698.2.1, bt698.2.2.1, bt698.2.2.2)))))
def steelyardref07_Good.f (k : Nat) (a0_0 : Bool) (l0_1 : List Int) (l0_2 : List Int) : Option (Bool) := (steelyardref07_trimmed.f l0_1).bind fun t708 => (if t708 = true then ((steelyardref07_trimmed.f l0_2).bind fun t709 => (if t709 = true then (if (l0_2.length : Int) = 0 then (some false) else (if a0_0 = true then (if (l0_1.length : Int) = 0 then (some false) else (if (l0_1.length : Int) > 64 then (some false) else (if (l0_2.length : Int) > 64 then (some false) else ((steelyardref03_Gcd.f k l0_1 l0_2).bind fun t710 => (if (t710.length : Int) = 1 then (if 0 < (t710.length : Int) then (some ((rd t710 0) == 1)) else (none)) else (some false)))))) else (if (l0_1.length : Int) > 64 then (some false) else (if (l0_2.length : Int) > 64 then (some false) else ((steelyardref03_Gcd.f k l0_1 l0_2).bind fun t714 => (if (t714.length : Int) = 1 then (if 0 < (t714.length : Int) then (some ((rd t714 0) == 1)) else (none)) else (some false))))))) else (some false))) else (some false))
def steelyardref06_Mul.f (k : Nat) (a0_0 : Bool) (l0_1 : List Int) (a1_0 : Bool) (l1_1 : List Int) : Option (Bool × List Int) := (steelyardref06_Trim.f k a0_0 l0_1).bind fun bt752 => ((steelyardref06_Trim.f k a1_0 l1_1).bind fun bt756 => ((steelyardref02_Of.f k l0_1 l1_1).bind fun t760 => ((steelyardref06_Make.f k (bt752.1 != bt756.1) t760).bind fun bt763 => (some (bt763.1, bt763.2)))))
def steelyardref07_Times.f (k : Nat) (a0_0 : Bool) (l0_1 : List Int) (l0_2 : List Int) (a1_0 : Bool) (l1_1 : List Int) (l1_2 : List Int) : Option (Bool × List Int × List Int) := (steelyardref06_Mul.f k a0_0 l0_1 a1_0 l1_1).bind fun bt862 => ((steelyardref02_Of.f k l0_2 l1_2).bind fun t866 => ((steelyardref07_Wide.f k bt862.1 bt862.2 t866).bind fun bt869 => (some (bt869.1, bt869.2.1, bt869.2.2))))
def steelyardref07_Div.j0 : Nat → Bool → Bool → List Int → List Int → Bool → List Int → List Int → Option (Bool × List Int × List Int × Int)
  | 0, _, _, _, _, _, _, _ => none
  | k + 1, x12, x897000, x897001, x897002, x898000, x898001, x898002 => if x12 = true then (some (false, ([] : List Int), ([] : List Int), 1)) else (if (x898001.length : Int) = 0 then (some (false, ([] : List Int), ([] : List Int), 3)) else ((steelyardref06_Make.f k x898000 x898002).bind fun bt901 => ((steelyardref07_Times.f k x897000 x897001 x897002 bt901.1 bt901.2 x898001).bind fun bt905 => ((steelyardref07_Limit.f bt905.1 bt905.2.1 bt905.2.2).bind fun bt912 => (some (bt912.1, bt912.2.1, bt912.2.2.1, bt912.2.2.2))))))
def steelyardref07_Div.f (k : Nat) (a0_0 : Bool) (l0_1 : List Int) (l0_2 : List Int) (a1_0 : Bool) (l1_1 : List Int) (l1_2 : List Int) : Option (Bool × List Int × List Int × Int) := (steelyardref07_Good.f k a0_0 l0_1 l0_2).bind fun t899 => (if t899 = true then ((steelyardref07_Good.f k a1_0 l1_1 l1_2).bind fun t900 => (steelyardref07_Div.j0 k (!t900) a0_0 l0_1 l0_2 a1_0 l1_1 l1_2)) else (steelyardref07_Div.j0 k true a0_0 l0_1 l0_2 a1_0 l1_1 l1_2))
def steelyardref06_Of.f (k : Nat) (a0 : Int) : Option (Bool × List Int) := if a0 < 0 then ((steelyardref01_Of.f k (IntKind.u64.wrap ((IntKind.u64.wrap (wrap64 (-(wrap64 (a0 + 1))))) + 1))).bind fun t965 => ((steelyardref06_Make.f k true t965).bind fun bt968 => (some (bt968.1, bt968.2)))) else ((steelyardref01_Of.f k (IntKind.u64.wrap (a0))).bind fun t972 => ((steelyardref06_Make.f k false t972).bind fun bt975 => (some (bt975.1, bt975.2))))
def steelyardref07_Whole.f (k : Nat) (a0 : Int) : Option (Bool × List Int × List Int) := (steelyardref06_Of.f k a0).bind fun bt980 => (some (bt980.1, bt980.2, (([1] : List Int))))
def steelyardkeep_Int.f (k : Nat) (a0_0 : Bool) (l0_1 : List Int) (a1_0 : Bool) (l1_1 : List Int) : Option (Bool) := if (a0_0 == a1_0) = true then ((steelyardkeep_Nat.f k l0_1 l1_1).bind fun t1005 => (some t1005)) else (some false)
def steelyardkeep_Rat.f (k : Nat) (a0_0 : Bool) (l0_1 : List Int) (l0_2 : List Int) (a1_0 : Bool) (l1_1 : List Int) (l1_2 : List Int) : Option (Bool) := (steelyardkeep_Int.f k a0_0 l0_1 a1_0 l1_1).bind fun t1008 => (if t1008 = true then ((steelyardkeep_Nat.f k l0_2 l1_2).bind fun t1009 => (some t1009)) else (some false))
def steelyardkeep_OwnInt.f (a0_0 : Bool) (l0_1 : List Int) : Option (Bool × List Int) := (steelyardkeep_OwnNat.f l0_1).bind fun t1018 => (some (a0_0, t1018))
def steelyardkeep_OwnRat.f (a0_0 : Bool) (l0_1 : List Int) (l0_2 : List Int) : Option (Bool × List Int × List Int) := (steelyardkeep_OwnInt.f a0_0 l0_1).bind fun bt1023 => ((steelyardkeep_OwnNat.f l0_2).bind fun t1027 => (some (bt1023.1, bt1023.2, t1027)))
def power_turned.f (k : Nat) (a0_0 : Bool) (l0_1 : List Int) (l0_2 : List Int) : Option (Bool × List Int × List Int × Int) := (rat_Whole.f k 1).bind fun bt1032 => ((rat_Div.f k bt1032.1 bt1032.2.1 bt1032.2.2 a0_0 l0_1 l0_2).bind fun bt1039 => (some (bt1039.1, bt1039.2.1, bt1039.2.2.1, bt1039.2.2.2)))
def power_Of.f : Nat → Bool → List Int → List Int → Int → Option (Bool × List Int × List Int × Int)
  | 0, _, _, _, _ => none
  | k + 1, a0_0, l0_1, l0_2, a1 => (rat_Good.f k a0_0 l0_1 l0_2).bind fun t1067 => (if t1067 = true then ((power_within.f a1 128).bind fun t1068 => (if t1068 = true then (if a1 = 0 then ((rat_Whole.f k 1).bind fun bt1069 => (some (bt1069.1, bt1069.2.1, bt1069.2.2, 0))) else (if a1 < 0 then ((power_turned.f k a0_0 l0_1 l0_2).bind fun bt1076 => (if bt1076.2.2.2 = 0 then ((power_Of.f k bt1076.1 bt1076.2.1 bt1076.2.2.1 (wrap64 (-a1))).bind fun bt1085 => (some (bt1085.1, bt1085.2.1, bt1085.2.2.1, bt1085.2.2.2))) else (some (false, ([] : List Int), ([] : List Int), bt1076.2.2.2)))) else ((mul_Pow.f k l0_1 a1).bind fun bt1093 => ((mul_Pow.f k l0_2 a1).bind fun bt1097 => (if bt1093.2 = true then (if bt1097.2 = true then (if 0 ≤ (bt1097.1.length : Int) then (if ((bt1097.1.length : Int) : Int).toNat ≤ 70368744177664 then ((some (splice (List.replicate ((bt1097.1.length : Int) : Int).toNat 0) 0 bt1097.1 : List Int)).bind fun y1104 => (if a0_0 = true then ((rat_Of.f k ((Int.tmod a1 2) == 1) bt1093.1 y1104).bind fun bt1105 => (some (bt1105.1, bt1105.2.1, bt1105.2.2.1, bt1105.2.2.2))) else ((rat_Of.f k false bt1093.1 y1104).bind fun bt1113 => (some (bt1113.1, bt1113.2.1, bt1113.2.2.1, bt1113.2.2.2))))) else (none)) else (none)) else (some (false, ([] : List Int), ([] : List Int), 2))) else (some (false, ([] : List Int), ([] : List Int), 2))))))) else (some (false, ([] : List Int), ([] : List Int), 2)))) else (some (false, ([] : List Int), ([] : List Int), 1)))
def power_Scale.f (k : Nat) (a0_0 : Bool) (l0_1 : List Int) (l0_2 : List Int) (a1 : Int) : Option (Bool × List Int × List Int × Int) := (rat_Good.f k a0_0 l0_1 l0_2).bind fun t1123 => (if t1123 = true then ((power_within.f a1 600).bind fun t1124 => (if t1124 = true then ((nat_Of.f k 10).bind fun t1125 => ((mul_Pow.f k t1125 (mx a1 (wrap64 (-a1)))).bind fun bt1128 => (if a1 < 0 then ((mul_Of.f k l0_2 bt1128.1).bind fun t1132 => ((rat_Of.f k a0_0 l0_1 t1132).bind fun bt1135 => (some (bt1135.1, bt1135.2.1, bt1135.2.2.1, bt1135.2.2.2)))) else ((mul_Of.f k l0_1 bt1128.1).bind fun t1143 => ((rat_Of.f k a0_0 t1143 l0_2).bind fun bt1146 => (some (bt1146.1, bt1146.2.1, bt1146.2.2.1, bt1146.2.2.2))))))) else (some (false, ([] : List Int), ([] : List Int), 2)))) else (some (false, ([] : List Int), ([] : List Int), 1)))
def steelyardref08_wide.l0 : Nat → Int → List Int → List Int → Int → Bool → List Int → List Int → Option (Bool × List Int × List Int)
  | 0, _, _, _, _, _, _, _ => none
  | k + 1, x1, x5, x6, x7, x1155000, x1155001, x1155002 => if x7 < x1 then ((steelyardref02_Of.f k x5 x1155001).bind fun t1162 => ((steelyardref02_Of.f k x6 x1155002).bind fun t1165 => (steelyardref08_wide.l0 k x1 t1162 t1165 (wrap64 (x7 + 1)) x1155000 x1155001 x1155002))) else (if x1155000 = true then ((steelyardref06_Make.f k ((Int.tmod x1 2) == 1) x5).bind fun bt1168 => (some (bt1168.1, bt1168.2, x6))) else ((steelyardref06_Make.f k false x5).bind fun bt1172 => (some (bt1172.1, bt1172.2, x6))))
def steelyardref08_wide.f (k : Nat) (a0_0 : Bool) (l0_1 : List Int) (l0_2 : List Int) (a1 : Int) : Option (Bool × List Int × List Int) := steelyardref08_wide.l0 k a1 (([1] : List Int)) (([1] : List Int)) 0 a0_0 l0_1 l0_2
def steelyardref08_turned.f (k : Nat) (a0_0 : Bool) (l0_1 : List Int) (l0_2 : List Int) : Option (Bool × List Int × List Int) := (steelyardref06_Make.f k a0_0 l0_2).bind fun bt1178 => (some (bt1178.1, bt1178.2, l0_1))
def steelyardref08_Of.j0 : Nat → Int → Bool → Bool → List Int → List Int → Option (Bool × List Int × List Int × Int)
  | 0, _, _, _, _, _ => none
  | k + 1, x1, x10, x1183000, x1183001, x1183002 => if x10 = true then (some (false, ([] : List Int), ([] : List Int), 2)) else (if x1 = 0 then ((steelyardref07_Whole.f k 1).bind fun bt1185 => (some (bt1185.1, bt1185.2.1, bt1185.2.2, 0))) else (if x1 > 0 then ((steelyardref08_wide.f k x1183000 x1183001 x1183002 x1).bind fun bt1192 => ((steelyardref07_Limit.f bt1192.1 bt1192.2.1 bt1192.2.2).bind fun bt1199 => (some (bt1199.1, bt1199.2.1, bt1199.2.2.1, bt1199.2.2.2)))) else (if (x1183001.length : Int) = 0 then (some (false, ([] : List Int), ([] : List Int), 3)) else ((steelyardref08_wide.f k x1183000 x1183001 x1183002 (wrap64 (-x1))).bind fun bt1207 => ((steelyardref08_turned.f k bt1207.1 bt1207.2.1 bt1207.2.2).bind fun bt1214 => ((steelyardref07_Limit.f bt1214.1 bt1214.2.1 bt1214.2.2).bind fun bt1221 => (some (bt1221.1, bt1221.2.1, bt1221.2.2.1, bt1221.2.2.2))))))))
def steelyardref08_Of.f (k : Nat) (a0_0 : Bool) (l0_1 : List Int) (l0_2 : List Int) (a1 : Int) : Option (Bool × List Int × List Int × Int) := (steelyardref07_Good.f k a0_0 l0_1 l0_2).bind fun t1184 => (if t1184 = true then (if a1 > 128 then (steelyardref08_Of.j0 k a1 true a0_0 l0_1 l0_2) else (steelyardref08_Of.j0 k a1 (decide (a1 < (-128))) a0_0 l0_1 l0_2)) else (some (false, ([] : List Int), ([] : List Int), 1)))
def steelyardref08_Scale.j0 : Nat → Int → Bool → Bool → List Int → List Int → Option (Bool × List Int × List Int × Int)
  | 0, _, _, _, _, _ => none
  | k + 1, x1, x10, x1236000, x1236001, x1236002 => if x10 = true then (some (false, ([] : List Int), ([] : List Int), 2)) else (if x1 ≥ 0 then ((steelyardref05_Ten.f k x1).bind fun t1238 => ((steelyardref06_Make.f k false t1238).bind fun bt1241 => ((steelyardref06_Mul.f k x1236000 x1236001 bt1241.1 bt1241.2).bind fun bt1245 => ((steelyardref07_Of.f k bt1245.1 bt1245.2 x1236002).bind fun bt1249 => (some (bt1249.1, bt1249.2.1, bt1249.2.2.1, bt1249.2.2.2)))))) else ((steelyardref05_Ten.f k (wrap64 (-x1))).bind fun t1257 => ((steelyardref02_Of.f k x1236002 t1257).bind fun t1260 => ((steelyardref07_Of.f k x1236000 x1236001 t1260).bind fun bt1263 => (some (bt1263.1, bt1263.2.1, bt1263.2.2.1, bt1263.2.2.2))))))
def steelyardref08_Scale.f (k : Nat) (a0_0 : Bool) (l0_1 : List Int) (l0_2 : List Int) (a1 : Int) : Option (Bool × List Int × List Int × Int) := (steelyardref07_Good.f k a0_0 l0_1 l0_2).bind fun t1237 => (if t1237 = true then (if a1 > 600 then (steelyardref08_Scale.j0 k a1 true a0_0 l0_1 l0_2) else (steelyardref08_Scale.j0 k a1 (decide (a1 < (-600))) a0_0 l0_1 l0_2)) else (some (false, ([] : List Int), ([] : List Int), 1)))
def steelyardlaw07_Long.f (a0_0 : Bool) (l0_1 : List Int) (l0_2 : List Int) : Option (Bool) := if (l0_1.length : Int) > 70 then (some true) else (if (l0_2.length : Int) > 70 then (some true) else (some false))
def steelyardlaw07_By.f (k : Nat) (a0 : Int) (a1 : Int) : Option (Bool × List Int × List Int) := (steelyardref07_Whole.f k a0).bind fun bt794 => ((steelyardref07_Whole.f k a1).bind fun bt801 => ((steelyardref07_Div.f k bt794.1 bt794.2.1 bt794.2.2 bt801.1 bt801.2.1 bt801.2.2).bind fun bt808 => (some (bt808.1, bt808.2.1, bt808.2.2.1))))
def steelyardlaw08_wakes.f (k : Nat)  : Option (Bool) := (steelyardlaw07_By.f k 2 3).bind fun bt1052 => ((power_Of.f k bt1052.1 bt1052.2.1 bt1052.2.2 (-2)).bind fun bt1059 => ((rat_Whole.f k 0).bind fun bt1068 => ((power_Of.f k bt1068.1 bt1068.2.1 bt1068.2.2 (-1)).bind fun bt1075 => ((rat_Whole.f k 0).bind fun bt1084 => ((power_Of.f k bt1084.1 bt1084.2.1 bt1084.2.2 0).bind fun bt1091 => ((rat_Whole.f k 2).bind fun bt1100 => ((power_Of.f k bt1100.1 bt1100.2.1 bt1100.2.2 129).bind fun bt1107 => ((steelyardlaw07_By.f k 5 2).bind fun bt1116 => ((power_Scale.f k bt1116.1 bt1116.2.1 bt1116.2.2 (-3)).bind fun bt1123 => (if bt1059.2.2.2 = 0 then ((steelyardlaw07_By.f k 9 4).bind fun bt1132 => ((steelyardkeep_Rat.f k bt1059.1 bt1059.2.1 bt1059.2.2.1 bt1132.1 bt1132.2.1 bt1132.2.2).bind fun t1139 => (if t1139 = true then (if bt1075.2.2.2 = 3 then (if bt1091.2.2.2 = 0 then ((rat_Whole.f k 1).bind fun bt1140 => ((steelyardkeep_Rat.f k bt1091.1 bt1091.2.1 bt1091.2.2.1 bt1140.1 bt1140.2.1 bt1140.2.2).bind fun t1147 => (if t1147 = true then (if bt1107.2.2.2 = 2 then (if bt1123.2.2.2 = 0 then ((steelyardlaw07_By.f k 1 400).bind fun bt1148 => ((steelyardkeep_Rat.f k bt1123.1 bt1123.2.1 bt1123.2.2.1 bt1148.1 bt1148.2.1 bt1148.2.2).bind fun t1155 => (some t1155))) else (some false)) else (some false)) else (some false)))) else (some false)) else (some false)) else (some false)))) else (some false)))))))))))
end Go.Proofs.Yticngjjdjmadgaa.PU
end
section
set_option linter.unusedVariables false
set_option linter.unusedSimpArgs false
namespace Go.Proofs.Yticngjjdjmadgaa.PU
section
open Go.Proofs.Yticngjjdjmadgaa.PL
open Go.RowKit Go.Proofs.YticngjjdjmadgaaW.PrintWords Go.Proofs.YticngjjdjmadgaaW.PrintLast Go.Proofs.YticngjjdjmadgaaW.PrintMore
attribute [local go_sem] max2_int min2_int max_two min_two max_three min_three max_four min_four   -- for this text's walks alone
set_option maxHeartbeats 8000000 in
set_option maxRecDepth 100000 in
theorem steelyardref06_Make.calls (k : Nat) (a0 : Bool) (A1 : Option Addr) (c1 : Nat) (l1 : List Int) (r1 : Bool) (r2 : List Int) (w : World) (hr1 : Kd.C (Kd.int .u32) w A1 l1.length l1) (hc1 : l1.length ≤ c1) (h : steelyardref06_Make.f k a0 l1 = some (r1, r2)) :
    Calls Try.prog 58 #[.bool a0, .slice A1 l1.length c1] w fun e w' => ∃ v1_ : Value, e = .returned (.agg #[.bool r1, v1_]) ∧ Kd.R (Kd.int .u32) 49 w' w.heap.size (fun _ => True) v1_ r2 ∧ Below w.heap.size w w' := by
  have hu25 := Try.underlying25
  have HR1 := Aside0.mk hr1
  have HC1 := Aside0.mk hc1
  clear hr1 hc1
  have HB := Aside0.mk (Below.refl w.heap.size w)
  have H : ((steelyardref01_Trim.f k l1).bind fun t571 => (if a0 = true then (if (t571.length : Int) > 0 then (some (true, t571)) else (some (false, t571))) else (some (false, t571)))) = some (r1, r2) := h
  clear h
  replace H := Option.bind_eq_some_iff.mp H
  obtain ⟨t571, A30, H⟩ := H
  replace H : (if a0 = true then (if (t571.length : Int) > 0 then (some (true, t571)) else (some (false, t571))) else (some (false, t571))) = some (r1, r2) := H
  have A3 := Aside0.mk A30
  clear A30
  by_cases c4 : a0 = true
  · subst c4
    have H1 : (if (t571.length : Int) > 0 then (some (true, t571)) else (some (false, t571))) = some (r1, r2) := by rw [if_pos rfl] at H; exact H
    clear H
    have H := H1
    clear H1
    by_cases c5 : (t571.length : Int) > 0
    · rw [if_pos c5] at H
      have c5b0 : decide (0 < (t571.length : Int)) = true := decide_eq_true c5
      have c5b1 : decide (0 < t571.length) = true := decide_eq_true (by omega)
      clear c5
      simp only [Option.some.injEq, Prod.mk.injEq] at H
      obtain ⟨rfl, rfl⟩ := H
      go_enter Try.func58, Try.ntmps58
      go_wp2_with (first | ((with_reducible refine gate_dst (N := 4) rfl ?_); (try (refine gate_guard (by rfl) ?_; dsimp only)); refine box_event ?hg (N := 4) ?hd (cs := #[.bool false, .slice none 0 0]) (t := 25) ?hr ?_; (case hd => rfl); (case hg => rfl); (case hr => first | (go_simp; done) | (go_simp; rfl)); intro gb570 hg w6 hbox hb; have n0_ := Aside0.mk (below_step (by repeat (first | (with_reducible first | exact HB.out | apply below_alloc | apply pw_below_drewN | apply below_drew1) | exact HB.out)) hb); have n1_ := Aside0.mk (hbox); have n2_ := Aside0.mk ((by rw [hg]; exact (below_size (by repeat (first | (with_reducible first | exact HB.out | apply below_alloc | apply pw_below_drewN | apply below_drew1) | exact HB.out))) : w.heap.size ≤ gb570)); have n3_ := Aside0.mk ((by rw [hg]; exact (below_size (by repeat (first | (with_reducible first | exact HB.out | apply below_alloc | apply pw_below_drewN | apply below_drew1) | exact HB.out))) : w.heap.size ≤ gb570)); clear HB; have HB := n0_; have BK570 := n1_; have GW570 := n2_; have GE570 := n3_; clear n0_ n1_ n2_ n3_; clear hb hbox hg) | ((with_reducible refine gate_callee (f := 79) rfl ?_); refine goesL_ (some 7) rfl rfl Try.func79 (by kernel_rfl) rfl #[.slice A1 l1.length c1] rfl (by (try simp only [List.map_toArray, List.map_cons, List.map_nil]); first | done | rfl | (simp only [List.length_drop, List.length_take]; rfl)) ?_; (with_reducible refine (steelyardref01_Trim.calls k _ _ l1 t571 _ ?side1 ?side2 A3.out).mono ?_); (case side1 => repeat (first | exact (Kd.C_below HR1.out HB.out) | (with_reducible refine Kd.C_alloc ?_ _) | (with_reducible refine Kd.C_drewN ?_ _) | (with_reducible refine Kd.C_drew ?_))); (case side2 => exact HC1.out); rintro e w7 ⟨v572, rfl, ho0, hb⟩; refine ⟨_, rfl, ?_⟩; have n0_ := Aside0.mk (Kd.R_lower ho0 (below_size (by repeat (first | (with_reducible first | exact HB.out | apply below_alloc | apply pw_below_drewN | apply below_drew1 | refine below_set ?_ GE570.out) | exact HB.out)))); have n1_ := Aside0.mk (blk_below (g := gb570) (o := .cells #[.bool false, .slice none 0 0] 25 (0, 0)) (by (with_reducible repeat (first | refine blk_drewN ?_ _ | refine blk_drew ?_ | refine blk_alloc ?_ _)); exact BK570.out) hb); have n2_ := Aside0.mk (below_step (by repeat (first | (with_reducible first | exact HB.out | apply below_alloc | apply pw_below_drewN | apply below_drew1 | refine below_set ?_ GE570.out) | exact HB.out)) hb); clear BK570; clear HB; have HO573 := n0_; have BK570 := n1_; have HB := n2_; clear n0_ n1_ n2_; (try clear hb); (try clear hb2); (try clear hk); (try clear hi); (try clear ho0); obtain ⟨Ao8, co8, eo8⟩ := Kd.R_slice HO573.out; subst eo8; have hcz9_0 : w7.cell? ⟨gb570, 0, none⟩ = some (.bool false) := (blk_cell BK570.out 0).trans rfl; have hcz9_1 : w7.cell? ⟨gb570, 1, none⟩ = some (.slice none 0 0) := (blk_cell BK570.out 1).trans rfl; have hfz9_0 := blk_frozen BK570.out 0; have hfz9_1 := blk_frozen BK570.out 1))
      refine bodyPost_ret (results_cell_row rfl _ _ gb570 25 #[.bool true, .slice Ao8 t571.length co8] (0, 0) _ rfl (by (with_reducible repeat (first | refine blk_drewN ?_ _ | refine blk_drew ?_ | refine blk_alloc ?_ _)); refine blk_put (cs := #[.bool true, .slice none 0 0]) ?_ 1 _ rfl; (with_reducible repeat (first | refine blk_drewN ?_ _ | refine blk_drew ?_ | refine blk_alloc ?_ _)); refine blk_put (cs := #[.bool false, .slice none 0 0]) ?_ 0 _ rfl; (with_reducible repeat (first | refine blk_drewN ?_ _ | refine blk_drew ?_ | refine blk_alloc ?_ _)); exact BK570.out) Try.underlying25 rfl (by kernel_rfl)) rfl ?_
      exact ⟨_, by first | rfl | (simp [errW_none, errW_some] <;> rfl) | (simp [*, errW_none, errW_some] <;> rfl), by (with_reducible repeat (first | apply Kd.R_alloc | apply Kd.R_drewN | apply Kd.R_drew)); exact Kd.R_mono (Kd.R_far (p := ⟨gb570, 1, none⟩) (Kd.R_far (p := ⟨gb570, 0, none⟩) (Kd.R_types HO573.out BK570.out (by decide)) (fun _ hk => hk.2) (.bool true)) (fun _ hk => hk.2) (.slice Ao8 t571.length co8)) (fun _ hk => trivial), by repeat (first | (with_reducible first | exact HB.out | apply below_alloc | apply pw_below_drewN | apply below_drew1 | refine below_set ?_ GE570.out) | exact HB.out)⟩
    · rw [if_neg c5] at H
      have c5b0 : decide (0 < (t571.length : Int)) = false := decide_eq_false c5
      have c5b1 : decide (0 < t571.length) = false := decide_eq_false (by omega)
      clear c5
      simp only [Option.some.injEq, Prod.mk.injEq] at H
      obtain ⟨rfl, rfl⟩ := H
      go_enter Try.func58, Try.ntmps58
      go_wp2_with (first | ((with_reducible refine gate_dst (N := 4) rfl ?_); (try (refine gate_guard (by rfl) ?_; dsimp only)); refine box_event ?hg (N := 4) ?hd (cs := #[.bool false, .slice none 0 0]) (t := 25) ?hr ?_; (case hd => rfl); (case hg => rfl); (case hr => first | (go_simp; done) | (go_simp; rfl)); intro gb570 hg w10 hbox hb; have n0_ := Aside0.mk (below_step (by repeat (first | (with_reducible first | exact HB.out | apply below_alloc | apply pw_below_drewN | apply below_drew1) | exact HB.out)) hb); have n1_ := Aside0.mk (hbox); have n2_ := Aside0.mk ((by rw [hg]; exact (below_size (by repeat (first | (with_reducible first | exact HB.out | apply below_alloc | apply pw_below_drewN | apply below_drew1) | exact HB.out))) : w.heap.size ≤ gb570)); have n3_ := Aside0.mk ((by rw [hg]; exact (below_size (by repeat (first | (with_reducible first | exact HB.out | apply below_alloc | apply pw_below_drewN | apply below_drew1) | exact HB.out))) : w.heap.size ≤ gb570)); clear HB; have HB := n0_; have BK570 := n1_; have GW570 := n2_; have GE570 := n3_; clear n0_ n1_ n2_ n3_; clear hb hbox hg) | ((with_reducible refine gate_callee (f := 79) rfl ?_); refine goesL_ (some 7) rfl rfl Try.func79 (by kernel_rfl) rfl #[.slice A1 l1.length c1] rfl (by (try simp only [List.map_toArray, List.map_cons, List.map_nil]); first | done | rfl | (simp only [List.length_drop, List.length_take]; rfl)) ?_; (with_reducible refine (steelyardref01_Trim.calls k _ _ l1 t571 _ ?side1 ?side2 A3.out).mono ?_); (case side1 => repeat (first | exact (Kd.C_below HR1.out HB.out) | (with_reducible refine Kd.C_alloc ?_ _) | (with_reducible refine Kd.C_drewN ?_ _) | (with_reducible refine Kd.C_drew ?_))); (case side2 => exact HC1.out); rintro e w11 ⟨v572, rfl, ho0, hb⟩; refine ⟨_, rfl, ?_⟩; have n0_ := Aside0.mk (Kd.R_lower ho0 (below_size (by repeat (first | (with_reducible first | exact HB.out | apply below_alloc | apply pw_below_drewN | apply below_drew1 | refine below_set ?_ GE570.out) | exact HB.out)))); have n1_ := Aside0.mk (blk_below (g := gb570) (o := .cells #[.bool false, .slice none 0 0] 25 (0, 0)) (by (with_reducible repeat (first | refine blk_drewN ?_ _ | refine blk_drew ?_ | refine blk_alloc ?_ _)); exact BK570.out) hb); have n2_ := Aside0.mk (below_step (by repeat (first | (with_reducible first | exact HB.out | apply below_alloc | apply pw_below_drewN | apply below_drew1 | refine below_set ?_ GE570.out) | exact HB.out)) hb); clear BK570; clear HB; have HO573 := n0_; have BK570 := n1_; have HB := n2_; clear n0_ n1_ n2_; (try clear hb); (try clear hb2); (try clear hk); (try clear hi); (try clear ho0); obtain ⟨Ao12, co12, eo12⟩ := Kd.R_slice HO573.out; subst eo12; have hcz13_0 : w11.cell? ⟨gb570, 0, none⟩ = some (.bool false) := (blk_cell BK570.out 0).trans rfl; have hcz13_1 : w11.cell? ⟨gb570, 1, none⟩ = some (.slice none 0 0) := (blk_cell BK570.out 1).trans rfl; have hfz13_0 := blk_frozen BK570.out 0; have hfz13_1 := blk_frozen BK570.out 1))
      refine bodyPost_ret (results_cell_row rfl _ _ gb570 25 #[.bool false, .slice Ao12 t571.length co12] (0, 0) _ rfl (by (with_reducible repeat (first | refine blk_drewN ?_ _ | refine blk_drew ?_ | refine blk_alloc ?_ _)); refine blk_put (cs := #[.bool false, .slice none 0 0]) ?_ 1 _ rfl; (with_reducible repeat (first | refine blk_drewN ?_ _ | refine blk_drew ?_ | refine blk_alloc ?_ _)); refine blk_put (cs := #[.bool false, .slice none 0 0]) ?_ 0 _ rfl; (with_reducible repeat (first | refine blk_drewN ?_ _ | refine blk_drew ?_ | refine blk_alloc ?_ _)); exact BK570.out) Try.underlying25 rfl (by kernel_rfl)) rfl ?_
      exact ⟨_, by first | rfl | (simp [errW_none, errW_some] <;> rfl) | (simp [*, errW_none, errW_some] <;> rfl), by (with_reducible repeat (first | apply Kd.R_alloc | apply Kd.R_drewN | apply Kd.R_drew)); exact Kd.R_mono (Kd.R_far (p := ⟨gb570, 1, none⟩) (Kd.R_far (p := ⟨gb570, 0, none⟩) (Kd.R_types HO573.out BK570.out (by decide)) (fun _ hk => hk.2) (.bool false)) (fun _ hk => hk.2) (.slice Ao12 t571.length co12)) (fun _ hk => trivial), by repeat (first | (with_reducible first | exact HB.out | apply below_alloc | apply pw_below_drewN | apply below_drew1 | refine below_set ?_ GE570.out) | exact HB.out)⟩
  · replace c4 := Bool.eq_false_iff.mpr c4
    subst c4
    have H1 : (some (false, t571)) = some (r1, r2) := by rw [if_neg (show ¬ (false = true) by decide)] at H; exact H
    clear H
    have H := H1
    clear H1
    simp only [Option.some.injEq, Prod.mk.injEq] at H
    obtain ⟨rfl, rfl⟩ := H
    go_enter Try.func58, Try.ntmps58
    go_wp2_with (first | ((with_reducible refine gate_dst (N := 4) rfl ?_); (try (refine gate_guard (by rfl) ?_; dsimp only)); refine box_event ?hg (N := 4) ?hd (cs := #[.bool false, .slice none 0 0]) (t := 25) ?hr ?_; (case hd => rfl); (case hg => rfl); (case hr => first | (go_simp; done) | (go_simp; rfl)); intro gb570 hg w14 hbox hb; have n0_ := Aside0.mk (below_step (by repeat (first | (with_reducible first | exact HB.out | apply below_alloc | apply pw_below_drewN | apply below_drew1) | exact HB.out)) hb); have n1_ := Aside0.mk (hbox); have n2_ := Aside0.mk ((by rw [hg]; exact (below_size (by repeat (first | (with_reducible first | exact HB.out | apply below_alloc | apply pw_below_drewN | apply below_drew1) | exact HB.out))) : w.heap.size ≤ gb570)); have n3_ := Aside0.mk ((by rw [hg]; exact (below_size (by repeat (first | (with_reducible first | exact HB.out | apply below_alloc | apply pw_below_drewN | apply below_drew1) | exact HB.out))) : w.heap.size ≤ gb570)); clear HB; have HB := n0_; have BK570 := n1_; have GW570 := n2_; have GE570 := n3_; clear n0_ n1_ n2_ n3_; clear hb hbox hg) | ((with_reducible refine gate_callee (f := 79) rfl ?_); refine goesL_ (some 7) rfl rfl Try.func79 (by kernel_rfl) rfl #[.slice A1 l1.length c1] rfl (by (try simp only [List.map_toArray, List.map_cons, List.map_nil]); first | done | rfl | (simp only [List.length_drop, List.length_take]; rfl)) ?_; (with_reducible refine (steelyardref01_Trim.calls k _ _ l1 t571 _ ?side1 ?side2 A3.out).mono ?_); (case side1 => repeat (first | exact (Kd.C_below HR1.out HB.out) | (with_reducible refine Kd.C_alloc ?_ _) | (with_reducible refine Kd.C_drewN ?_ _) | (with_reducible refine Kd.C_drew ?_))); (case side2 => exact HC1.out); rintro e w15 ⟨v572, rfl, ho0, hb⟩; refine ⟨_, rfl, ?_⟩; have n0_ := Aside0.mk (Kd.R_lower ho0 (below_size (by repeat (first | (with_reducible first | exact HB.out | apply below_alloc | apply pw_below_drewN | apply below_drew1 | refine below_set ?_ GE570.out) | exact HB.out)))); have n1_ := Aside0.mk (blk_below (g := gb570) (o := .cells #[.bool false, .slice none 0 0] 25 (0, 0)) (by (with_reducible repeat (first | refine blk_drewN ?_ _ | refine blk_drew ?_ | refine blk_alloc ?_ _)); exact BK570.out) hb); have n2_ := Aside0.mk (below_step (by repeat (first | (with_reducible first | exact HB.out | apply below_alloc | apply pw_below_drewN | apply below_drew1 | refine below_set ?_ GE570.out) | exact HB.out)) hb); clear BK570; clear HB; have HO573 := n0_; have BK570 := n1_; have HB := n2_; clear n0_ n1_ n2_; (try clear hb); (try clear hb2); (try clear hk); (try clear hi); (try clear ho0); obtain ⟨Ao16, co16, eo16⟩ := Kd.R_slice HO573.out; subst eo16; have hcz17_0 : w15.cell? ⟨gb570, 0, none⟩ = some (.bool false) := (blk_cell BK570.out 0).trans rfl; have hcz17_1 : w15.cell? ⟨gb570, 1, none⟩ = some (.slice none 0 0) := (blk_cell BK570.out 1).trans rfl; have hfz17_0 := blk_frozen BK570.out 0; have hfz17_1 := blk_frozen BK570.out 1))
    refine bodyPost_ret (results_cell_row rfl _ _ gb570 25 #[.bool false, .slice Ao16 t571.length co16] (0, 0) _ rfl (by (with_reducible repeat (first | refine blk_drewN ?_ _ | refine blk_drew ?_ | refine blk_alloc ?_ _)); refine blk_put (cs := #[.bool false, .slice none 0 0]) ?_ 1 _ rfl; (with_reducible repeat (first | refine blk_drewN ?_ _ | refine blk_drew ?_ | refine blk_alloc ?_ _)); refine blk_put (cs := #[.bool false, .slice none 0 0]) ?_ 0 _ rfl; (with_reducible repeat (first | refine blk_drewN ?_ _ | refine blk_drew ?_ | refine blk_alloc ?_ _)); exact BK570.out) Try.underlying25 rfl (by kernel_rfl)) rfl ?_
    exact ⟨_, by first | rfl | (simp [errW_none, errW_some] <;> rfl) | (simp [*, errW_none, errW_some] <;> rfl), by (with_reducible repeat (first | apply Kd.R_alloc | apply Kd.R_drewN | apply Kd.R_drew)); exact Kd.R_mono (Kd.R_far (p := ⟨gb570, 1, none⟩) (Kd.R_far (p := ⟨gb570, 0, none⟩) (Kd.R_types HO573.out BK570.out (by decide)) (fun _ hk => hk.2) (.bool false)) (fun _ hk => hk.2) (.slice Ao16 t571.length co16)) (fun _ hk => trivial), by repeat (first | (with_reducible first | exact HB.out | apply below_alloc | apply pw_below_drewN | apply below_drew1 | refine below_set ?_ GE570.out) | exact HB.out)⟩

end
section
open Go.Proofs.Yticngjjdjmadgaa.PL
open Go.RowKit Go.Proofs.YticngjjdjmadgaaW.PrintWords Go.Proofs.YticngjjdjmadgaaW.PrintLast Go.Proofs.YticngjjdjmadgaaW.PrintMore
attribute [local go_sem] max2_int min2_int max_two min_two max_three min_three max_four min_four   -- for this text's walks alone
def steelyardref08_wide.T5 : Bool × List (List Nat × List Nat) := (true, [([], []), ([], []), ([1], [1]), ([2], [2]), ([0, 3], [0, 3]), ([], []), ([], []), ([6], [6]), ([5, 7, 4], [5, 7]), ([4, 8, 0, 1, 2, 3, 4], [0, 4]), ([8, 9, 0, 1, 2, 3, 4, 5, 6, 7, 8, 9], [5, 8])])
def steelyardref08_wide.B5 : List Nat := [0, 0, 2, 6, 15, 0, 0, 64, 255, 511, 1023]
theorem steelyardref08_wide.tab5 : rtab .any (opsOf Try.f55 5) = steelyardref08_wide.T5 := by kernel_rfl
theorem steelyardref08_wide.bits5 : waitsOk steelyardref08_wide.T5.2 steelyardref08_wide.B5 = true := by kernel_rfl
set_option maxHeartbeats 8000000 in
set_option maxRecDepth 100000 in
theorem steelyardref08_wide.calls (k : Nat) (a0_0 : Bool) (A0_1 : Option Addr) (c0_1 : Nat) (l0_1 : List Int) (A0_2 : Option Addr) (c0_2 : Nat) (l0_2 : List Int) (a1 : Int) (r1 : Bool) (r2 : List Int) (r3 : List Int) (w : World) (hr0_1 : Kd.C (Kd.int .u32) w A0_1 l0_1.length l0_1) (hc0_1 : l0_1.length ≤ c0_1) (hr0_2 : Kd.C (Kd.int .u32) w A0_2 l0_2.length l0_2) (hc0_2 : l0_2.length ≤ c0_2) (h : steelyardref08_wide.f k a0_0 l0_1 l0_2 a1 = some (r1, r2, r3)) :
    Calls Try.prog 55 #[.agg #[.bool a0_0, .slice A0_1 l0_1.length c0_1, .slice A0_2 l0_2.length c0_2], .int .i64 a1] w fun e w' => ∃ v1_ v2_ : Value, e = .returned (.agg #[.bool r1, v1_, v2_]) ∧ Kd.R (Kd.int .u32) 49 w' w.heap.size (fun k_ => some k_ ≠ (v2_ : Value).ownBlock) v1_ r2 ∧ Kd.R (Kd.int .u32) 49 w' w.heap.size (fun k_ => some k_ ≠ (v1_ : Value).ownBlock) v2_ r3 ∧ Below w.heap.size w w' := by
  have hu27 := Try.underlying27
  have HR0_1 := Aside0.mk hr0_1
  have HC0_1 := Aside0.mk hc0_1
  clear hr0_1 hc0_1
  have HR0_2 := Aside0.mk hr0_2
  have HC0_2 := Aside0.mk hc0_2
  clear hr0_2 hc0_2
  have HB := Aside0.mk (Below.refl w.heap.size w)
  have H : (steelyardref08_wide.l0 k a1 (([1] : List Int)) (([1] : List Int)) 0 a0_0 l0_1 l0_2) = some (r1, r2, r3) := h
  clear h
  obtain ⟨y1156, hy1156⟩ : ∃ y_ : List Int, y_ = (([1] : List Int)) := ⟨_, rfl⟩
  replace H : (steelyardref08_wide.l0 k a1 y1156 (([1] : List Int)) 0 a0_0 l0_1 l0_2) = some (r1, r2, r3) := by first | (rw [hy1156]; with_reducible exact H) | (have H2_ := (Option.bind_some _ _).symm.trans H; rw [hy1156]; with_reducible exact H2_) | (have H2_ := (Option.bind_some _ _).symm.trans H; with_reducible exact H2_) | with_reducible exact H | (rw [hy1156]; exact H) | exact H
  have Ny1156 := Aside0.mk hy1156
  clear hy1156
  obtain ⟨y1159, hy1159⟩ : ∃ y_ : List Int, y_ = (([1] : List Int)) := ⟨_, rfl⟩
  replace H : (steelyardref08_wide.l0 k a1 y1156 y1159 0 a0_0 l0_1 l0_2) = some (r1, r2, r3) := by first | (rw [hy1159]; with_reducible exact H) | (have H2_ := (Option.bind_some _ _).symm.trans H; rw [hy1159]; with_reducible exact H2_) | (have H2_ := (Option.bind_some _ _).symm.trans H; with_reducible exact H2_) | with_reducible exact H | (rw [hy1159]; exact H) | exact H
  have Ny1159 := Aside0.mk hy1159
  clear hy1159
  have H' := Aside0.mk H
  clear H
  go_enter Try.func55, Try.ntmps55
  go_wp2_with (first | ((with_reducible refine gate_dst (N := 2) rfl ?_); refine box_event ?hg (N := 2) ?hd (cs := #[.bool a0_0, .slice A0_1 l0_1.length c0_1, .slice A0_2 l0_2.length c0_2]) (t := 27) ?hr ?_; (case hd => rfl); (case hg => rfl); (case hr => first | (go_simp; done) | (go_simp; rfl)); intro gb1154 hg w3 hbox hb; have n0_ := Aside0.mk (below_step (by repeat (first | (with_reducible first | exact HB.out | apply below_alloc | apply pw_below_drewN | apply below_drew1) | exact HB.out)) hb); have n1_ := Aside0.mk (hbox); have n2_ := Aside0.mk ((by rw [hg]; exact (below_size (by repeat (first | (with_reducible first | exact HB.out | apply below_alloc | apply pw_below_drewN | apply below_drew1) | exact HB.out))) : w.heap.size ≤ gb1154)); have n3_ := Aside0.mk ((by rw [hg]; exact (below_size (by repeat (first | (with_reducible first | exact HB.out | apply below_alloc | apply pw_below_drewN | apply below_drew1) | exact HB.out))) : w.heap.size ≤ gb1154)); clear HB; have HB := n0_; have BK1154 := n1_; have GW1154 := n2_; have GE1154 := n3_; clear n0_ n1_ n2_ n3_; clear hb hbox hg) | ((with_reducible refine gate_dst (N := 4) rfl ?_); refine box_event ?hg (N := 4) ?hd (cs := #[.bool false, .slice none 0 0, .slice none 0 0]) (t := 27) ?hr ?_; (case hd => rfl); (case hg => rfl); (case hr => first | (go_simp; done) | (go_simp; rfl)); intro gb1155 hg w4 hbox hb; have n0_ := Aside0.mk (blk_below (g := gb1154) (o := .cells #[.bool a0_0, .slice A0_1 l0_1.length c0_1, .slice A0_2 l0_2.length c0_2] 27 (0, 0)) (by (with_reducible repeat (first | refine blk_drewN ?_ _ | refine blk_drew ?_ | refine blk_alloc ?_ _)); exact BK1154.out) hb); have n1_ := Aside0.mk (below_step (by repeat (first | (with_reducible first | exact HB.out | apply below_alloc | apply pw_below_drewN | apply below_drew1 | refine below_set ?_ GE1154.out) | exact HB.out)) hb); have n2_ := Aside0.mk (hbox); have n3_ := Aside0.mk ((by rw [hg]; exact (below_size (by repeat (first | (with_reducible first | exact HB.out | apply below_alloc | apply pw_below_drewN | apply below_drew1 | refine below_set ?_ GE1154.out) | exact HB.out))) : w.heap.size ≤ gb1155)); have n4_ := Aside0.mk ((by rw [hg]; exact (below_size (by repeat (first | (with_reducible first | exact HB.out | apply below_alloc | apply pw_below_drewN | apply below_drew1 | refine below_set ?_ GE1154.out) | exact HB.out))) : w.heap.size ≤ gb1155)); have n5_ := Aside0.mk ((by rw [hg]; exact Nat.ne_of_lt (blk_lt (g := gb1154) (o := .cells #[.bool a0_0, .slice A0_1 l0_1.length c0_1, .slice A0_2 l0_2.length c0_2] 27 (0, 0)) (by (with_reducible repeat (first | refine blk_drewN ?_ _ | refine blk_drew ?_ | refine blk_alloc ?_ _)); exact BK1154.out)) : gb1154 ≠ gb1155)); have n6_ := Aside0.mk ((by rw [hg]; exact Nat.ne_of_gt (blk_lt (g := gb1154) (o := .cells #[.bool a0_0, .slice A0_1 l0_1.length c0_1, .slice A0_2 l0_2.length c0_2] 27 (0, 0)) (by (with_reducible repeat (first | refine blk_drewN ?_ _ | refine blk_drew ?_ | refine blk_alloc ?_ _)); exact BK1154.out)) : gb1155 ≠ gb1154)); clear BK1154; clear HB; have BK1154 := n0_; have HB := n1_; have BK1155 := n2_; have GW1155 := n3_; have GE1155 := n4_; have NB1154_1155 := n5_; have NB1155_1154 := n6_; clear n0_ n1_ n2_ n3_ n4_ n5_ n6_; clear hb hbox hg) | ((with_reducible refine gate_dst (N := 8) rfl ?_); refine Kd.R_lit (Kd.int .u32) _ 49 ?hg (N := 8) ?hd (xs := ([1] : List Int)) (inner := [.int .u32 1]) (ok := fun _ => True) (okp := fun _ => True) ?hr ?hp (fun _ hk => hk) trivial (Below.refl _ _) (Nat.le_refl _) (by simp) ?_; (case hd => rfl); (case hg => rfl); (case hr => first | (go_simp; done) | (go_simp; rfl)); (case hp => exact (Reps.one (show Kd.M (Kd.int .u32) _ _ _ 1 [.int .u32 1] from rfl) (Reps.none _ _))); intro v1157 w5 ho6 hb hg_ hnew_; clear hg_ hnew_; (first | rw [← Ny1156.out] at ho6 | (simp only [Int.reduceToNat] at ho6; rw [← Ny1156.out] at ho6)); have n0_ := Aside0.mk (Kd.R_lower ho6 (below_size (by repeat (first | (with_reducible first | exact HB.out | apply below_alloc | apply pw_below_drewN | apply below_drew1 | refine below_set ?_ GE1154.out | refine below_set ?_ GE1155.out) | exact HB.out)))); have n1_ := Aside0.mk (blk_below (g := gb1154) (o := .cells #[.bool a0_0, .slice A0_1 l0_1.length c0_1, .slice A0_2 l0_2.length c0_2] 27 (0, 0)) (by (with_reducible repeat (first | refine blk_drewN ?_ _ | refine blk_drew ?_ | refine blk_alloc ?_ _)); exact BK1154.out) hb); have n2_ := Aside0.mk (blk_below (g := gb1155) (o := .cells #[.bool false, .slice none 0 0, .slice none 0 0] 27 (0, 0)) (by (with_reducible repeat (first | refine blk_drewN ?_ _ | refine blk_drew ?_ | refine blk_alloc ?_ _)); exact BK1155.out) hb); have n3_ := Aside0.mk (below_step (by repeat (first | (with_reducible first | exact HB.out | apply below_alloc | apply pw_below_drewN | apply below_drew1 | refine below_set ?_ GE1154.out | refine below_set ?_ GE1155.out) | exact HB.out)) hb); clear BK1154; clear BK1155; clear HB; have HO1158 := n0_; have BK1154 := n1_; have BK1155 := n2_; have HB := n3_; clear n0_ n1_ n2_ n3_; clear hb ho6) | ((with_reducible refine gate_dst (N := 9) rfl ?_); refine Kd.R_lit (Kd.int .u32) _ 49 ?hg (N := 9) ?hd (xs := ([1] : List Int)) (inner := [.int .u32 1]) (ok := fun _ => True) (okp := fun _ => True) ?hr ?hp (fun _ hk => hk) trivial (Below.refl _ _) (Nat.le_refl _) (by simp) ?_; (case hd => rfl); (case hg => rfl); (case hr => first | (go_simp; done) | (go_simp; rfl)); (case hp => exact (Reps.one (show Kd.M (Kd.int .u32) _ _ _ 1 [.int .u32 1] from rfl) (Reps.none _ _))); intro v1160 w7 ho8 hb hg_ hnew_; clear hg_ hnew_; (first | rw [← Ny1159.out] at ho8 | (simp only [Int.reduceToNat] at ho8; rw [← Ny1159.out] at ho8)); have n0_ := Aside0.mk (Kd.R_elder' (by (with_reducible repeat (first | apply Kd.R_alloc | apply Kd.R_drewN | apply Kd.R_drew)); exact HO1158.out) (Kd.R_base ho8) hb); have n1_ := Aside0.mk (Kd.R_lower (Kd.R_new' ho8 (Kd.R_lt (by (with_reducible repeat (first | apply Kd.R_alloc | apply Kd.R_drewN | apply Kd.R_drew)); exact HO1158.out))) (below_size (by repeat (first | (with_reducible first | exact HB.out | apply below_alloc | apply pw_below_drewN | apply below_drew1 | refine below_set ?_ GE1154.out | refine below_set ?_ GE1155.out) | exact HB.out)))); have n2_ := Aside0.mk (blk_below (g := gb1154) (o := .cells #[.bool a0_0, .slice A0_1 l0_1.length c0_1, .slice A0_2 l0_2.length c0_2] 27 (0, 0)) (by (with_reducible repeat (first | refine blk_drewN ?_ _ | refine blk_drew ?_ | refine blk_alloc ?_ _)); exact BK1154.out) hb); have n3_ := Aside0.mk (blk_below (g := gb1155) (o := .cells #[.bool false, .slice none 0 0, .slice none 0 0] 27 (0, 0)) (by (with_reducible repeat (first | refine blk_drewN ?_ _ | refine blk_drew ?_ | refine blk_alloc ?_ _)); exact BK1155.out) hb); have n4_ := Aside0.mk (below_step (by repeat (first | (with_reducible first | exact HB.out | apply below_alloc | apply pw_below_drewN | apply below_drew1 | refine below_set ?_ GE1154.out | refine below_set ?_ GE1155.out) | exact HB.out)) hb); clear HO1158; clear BK1154; clear BK1155; clear HB; have HO1158 := n0_; have HO1161 := n1_; have BK1154 := n2_; have BK1155 := n3_; have HB := n4_; clear n0_ n1_ n2_ n3_ n4_; clear hb ho8))
  go_loopg [5, 6, 7] k (fun kq v5 v6 v7 w' => ∃ (x5_1 : List Int) (x6_1 : List Int) (x7_1 : Int), v7 = .int .i64 x7_1 ∧ Aside0 (steelyardref08_wide.l0 kq a1 x5_1 x6_1 x7_1 a0_0 l0_1 l0_2 = some (r1, r2, r3)) ∧ Aside0 (kq ≤ k) ∧ Aside0 (Kd.R (Kd.int .u32) 49 w' w.heap.size (fun k_ => some k_ ≠ (v6 : Value).ownBlock) v5 x5_1) ∧ Aside0 (Kd.R (Kd.int .u32) 49 w' w.heap.size (fun k_ => some k_ ≠ (v5 : Value).ownBlock) v6 x6_1) ∧ Aside0 (w'.heap[gb1154]? = some (.cells #[.bool a0_0, (.slice A0_1 l0_1.length c0_1), (.slice A0_2 l0_2.length c0_2)] 27 (0, 0))) ∧ Aside0 (w'.heap[gb1155]? = some (.cells #[.bool false, (.slice none 0 0), (.slice none 0 0)] 27 (0, 0))) ∧ Aside0 (Below w.heap.size w w'))
  case atStart => exact ⟨(y1156), (y1159), (0), (by first | rfl | (simp; done) | (simp [*]; done)), H', ⟨Nat.le_refl _⟩, ⟨by (with_reducible repeat (first | apply Kd.R_alloc | apply Kd.R_drewN | apply Kd.R_drew)); exact Kd.R_mono HO1158.out (fun _ hk => hk.2)⟩, ⟨by (with_reducible repeat (first | apply Kd.R_alloc | apply Kd.R_drewN | apply Kd.R_drew)); exact Kd.R_mono HO1161.out (fun _ hk => hk.2)⟩, ⟨by (with_reducible repeat (first | refine blk_drewN ?_ _ | refine blk_drew ?_ | refine blk_alloc ?_ _)); exact BK1154.out⟩, ⟨by (with_reducible repeat (first | refine blk_drewN ?_ _ | refine blk_drew ?_ | refine blk_alloc ?_ _)); exact BK1155.out⟩, ⟨by repeat (first | (with_reducible first | exact HB.out | apply below_alloc | apply pw_below_drewN | apply below_drew1 | refine below_set ?_ GE1154.out | refine below_set ?_ GE1155.out) | exact HB.out)⟩⟩
  case round =>
    clear H'
    try clear p2
    try clear c5
    obtain ⟨x5_1, x6_1, x7_1, rfl, HA, HK1, HO_5, HO_6, BK1154, BK1155, HB⟩ := hrel
    cases gk with
    | zero => exact absurd HA.out (by simp [steelyardref08_wide.l0])
    | succ k1 =>
      have H := HA.out
      clear HA
      simp only [steelyardref08_wide.l0] at H
      by_cases c9 : x7_1 < a1
      · rw [if_pos c9] at H
        have c9b0 : decide (x7_1 < a1) = true := decide_eq_true c9
        clear c9
        replace H := Option.bind_eq_some_iff.mp H
        obtain ⟨t1162, A100, H⟩ := H
        replace H : ((steelyardref02_Of.f k1 x6_1 l0_2).bind fun t1165 => (steelyardref08_wide.l0 k1 a1 t1162 t1165 (wrap64 (x7_1 + 1)) a0_0 l0_1 l0_2)) = some (r1, r2, r3) := H
        have A10 := Aside0.mk A100
        clear A100
        replace H := Option.bind_eq_some_iff.mp H
        obtain ⟨t1165, A110, H⟩ := H
        replace H : (steelyardref08_wide.l0 k1 a1 t1162 t1165 (wrap64 (x7_1 + 1)) a0_0 l0_1 l0_2) = some (r1, r2, r3) := H
        have A11 := Aside0.mk A110
        clear A110
        have H' := Aside0.mk H
        clear H
        try go_wp2
        have n0_ := Aside0.mk (Kd.R_drew HO_5.out)
        have n1_ := Aside0.mk (Kd.R_drew HO_6.out)
        have n2_ := Aside0.mk (blk_drew BK1154.out)
        have n3_ := Aside0.mk (blk_drew BK1155.out)
        have n4_ := Aside0.mk (below_drew1 HB.out)
        clear HO_5
        clear HO_6
        clear BK1154
        clear BK1155
        clear HB
        have HO_5 := n0_
        have HO_6 := n1_
        have BK1154 := n2_
        have BK1155 := n3_
        have HB := n4_
        clear n0_ n1_ n2_ n3_ n4_
        obtain ⟨Ao13, co13, eo13⟩ := Kd.R_slice HO_5.out
        (first | subst eo13 | (injection eo13 with f1_ f2_ f3_; have f4_ := f1_.symm; have f5_ := f3_.symm; clear f1_ f2_ f3_; subst f4_; subst f5_))
        refine start_ (n := 11) (S := fun w' => w'.cell? ⟨gb1154, 0, none⟩ = some (.bool a0_0) ∧ w'.cell? ⟨gb1154, 1, none⟩ = some (.slice A0_1 l0_1.length c0_1) ∧ w'.cell? ⟨gb1154, 2, none⟩ = some (.slice A0_2 l0_2.length c0_2)) (ds := []) #[false, false, false, false, false, false, false, false, false, false, false] (by kernel_rfl) rfl rfl ⟨(blk_cell BK1154.out 0).trans rfl, (blk_cell BK1154.out 1).trans rfl, (blk_cell BK1154.out 2).trans rfl⟩ (fun hHeld => ?_); refine with_tabW steelyardref08_wide.tab5 steelyardref08_wide.bits5 (fun HT_ HW_ => ?_)
        generalize wr.drew = w12 at HO_5 HO_6 BK1154 BK1155 HB hHeld ⊢
        refine pure_ (i := 0) (N := some 15) (v := ?_) (a' := ?_) #[true, false, false, false, false, false, false, false, false, false, false] rfl rfl (any_of HT_.out (by kernel_rfl)) (fun _ _ _ h => h) (Or.inl ⟨by rfl, ?_⟩) ?_ ?_
        rotate_left
        · intro w'
          go_simp
          with_reducible rfl
        rotate_left
        · simp only [Act.put, List.setIfInBounds_toArray, List.set_cons_zero, List.set_cons_succ, i64_w, i32_w]
          rfl
        refine pure_ (i := 1) (N := some 16) (v := ?_) (a' := ?_) #[true, true, false, false, false, false, false, false, false, false, false] rfl rfl (any_of HT_.out (by kernel_rfl)) (fun _ _ _ h => h) (Or.inl ⟨by rfl, ?_⟩) ?_ ?_
        rotate_left
        · intro w'
          go_simp
          with_reducible rfl
        rotate_left
        · simp only [Act.put, List.setIfInBounds_toArray, List.set_cons_zero, List.set_cons_succ, i64_w, i32_w]
          rfl
        refine pure_ (i := 2) (N := some 17) (v := ?_) (a' := ?_) #[true, true, true, false, false, false, false, false, false, false, false] rfl rfl (any_of HT_.out (by kernel_rfl)) (fun _ _ _ h => h) (Or.inl ⟨by rfl, ?_⟩) ?_ ?_
        rotate_left
        · intro w'
          go_simp
          with_reducible rfl
        rotate_left
        · simp only [Act.put, List.setIfInBounds_toArray, List.set_cons_zero, List.set_cons_succ, i64_w, i32_w]
          rfl
        refine pure_ (i := 5) (N := some 20) (v := ?_) (a' := ?_) #[true, true, true, false, false, true, false, false, false, false, false] rfl rfl (any_of HT_.out (by kernel_rfl)) (fun _ _ _ h => h) (Or.inl ⟨by rfl, ?_⟩) ?_ ?_
        rotate_left
        · intro w'
          go_simp
          with_reducible rfl
        rotate_left
        · simp only [Act.put, List.setIfInBounds_toArray, List.set_cons_zero, List.set_cons_succ, i64_w, i32_w]
          rfl
        refine pure_ (i := 6) (N := some 21) (v := ?_) (a' := ?_) #[true, true, true, false, false, true, true, false, false, false, false] rfl rfl (any_of HT_.out (by kernel_rfl)) (fun _ _ _ h => h) (Or.inl ⟨by rfl, ?_⟩) ?_ ?_
        rotate_left
        · intro w'
          go_simp
          with_reducible rfl
        rotate_left
        · simp only [Act.put, List.setIfInBounds_toArray, List.set_cons_zero, List.set_cons_succ, i64_w, i32_w]
          rfl
        refine take_ (i := 3) (N := some 18) (v := ?_) (a' := ?_) #[true, true, true, true, false, true, true, false, false, false, false] rfl rfl (take_ofW HT_.out HW_.out (by kernel_rfl)) (fun _ _ _ h => h) (Or.inl ⟨by rfl, ?_⟩) hHeld ?_ ?_
        rotate_left
        · rintro w' ⟨s0, s1, s2⟩
          go_simp
          with_reducible rfl
        rotate_left
        · simp only [Act.put, List.setIfInBounds_toArray, List.set_cons_zero, List.set_cons_succ, i64_w, i32_w]
          rfl
        refine take_ (i := 7) (N := some 22) (v := ?_) (a' := ?_) #[true, true, true, true, false, true, true, true, false, false, false] rfl rfl (take_ofW HT_.out HW_.out (by kernel_rfl)) (fun _ _ _ h => h) (Or.inl ⟨by rfl, ?_⟩) hHeld ?_ ?_
        rotate_left
        · rintro w' ⟨s0, s1, s2⟩
          go_simp
          with_reducible rfl
        rotate_left
        · simp only [Act.put, List.setIfInBounds_toArray, List.set_cons_zero, List.set_cons_succ, i64_w, i32_w]
          rfl
        refine one_ (i := 4) (N := some 19) #[true, true, true, true, true, true, true, true, false, false, false] rfl rfl (one_of HT_.out (by kernel_rfl)) (by decide) (fun K hK => ?_)
        refine goes_ Try.func33 (by kernel_rfl) rfl #[.slice Ao13 x5_1.length co13, .slice A0_1 l0_1.length c0_1] (by rfl) rfl rfl (by (try simp only [List.map_toArray, List.map_cons, List.map_nil]); first | done | rfl | (simp only [List.length_drop, List.length_take]; rfl)) ?_
        with_reducible refine (steelyardref02_Of.calls k1 _ _ x5_1 _ _ l0_1 t1162 _ ?side1 ?side2 ?side3 ?side4 A10.out).mono ?_
        (case side1 => repeat (first | exact (Kd.R_reads' HO_5.out).2.2 | (with_reducible refine Kd.C_alloc ?_ _) | (with_reducible refine Kd.C_drewN ?_ _) | (with_reducible refine Kd.C_drew ?_)))
        (case side2 => exact (Kd.R_reads' HO_5.out).2.1)
        (case side3 => repeat (first | exact (Kd.C_below HR0_1.out HB.out) | (with_reducible refine Kd.C_alloc ?_ _) | (with_reducible refine Kd.C_drewN ?_ _) | (with_reducible refine Kd.C_drew ?_)))
        (case side4 => exact HC0_1.out)
        rintro e w14 ⟨v1163, rfl, ho0, hb⟩
        refine ⟨_, rfl, ?_⟩
        have n0_ := Aside0.mk (Kd.R_elder' (by (with_reducible repeat (first | apply Kd.R_alloc | apply Kd.R_drewN | apply Kd.R_drew)); exact HO_5.out) (Kd.R_base ho0) hb)
        have n1_ := Aside0.mk (Kd.R_elder' (by (with_reducible repeat (first | apply Kd.R_alloc | apply Kd.R_drewN | apply Kd.R_drew)); exact HO_6.out) (Kd.R_base ho0) hb)
        have n2_ := Aside0.mk (Kd.R_lower (Kd.R_new' (Kd.R_new' ho0 (Kd.R_lt (by (with_reducible repeat (first | apply Kd.R_alloc | apply Kd.R_drewN | apply Kd.R_drew)); exact HO_5.out))) (Kd.R_lt (by (with_reducible repeat (first | apply Kd.R_alloc | apply Kd.R_drewN | apply Kd.R_drew)); exact HO_6.out))) (below_size (by repeat (first | (with_reducible first | exact HB.out | apply below_alloc | apply pw_below_drewN | apply below_drew1 | refine below_set ?_ GE1154.out | refine below_set ?_ GE1155.out) | exact HB.out))))
        have n3_ := Aside0.mk (blk_below (g := gb1154) (o := .cells #[.bool a0_0, .slice A0_1 l0_1.length c0_1, .slice A0_2 l0_2.length c0_2] 27 (0, 0)) (by (with_reducible repeat (first | refine blk_drewN ?_ _ | refine blk_drew ?_ | refine blk_alloc ?_ _)); exact BK1154.out) hb)
        have n4_ := Aside0.mk (blk_below (g := gb1155) (o := .cells #[.bool false, .slice none 0 0, .slice none 0 0] 27 (0, 0)) (by (with_reducible repeat (first | refine blk_drewN ?_ _ | refine blk_drew ?_ | refine blk_alloc ?_ _)); exact BK1155.out) hb)
        have n5_ := Aside0.mk (below_step (by repeat (first | (with_reducible first | exact HB.out | apply below_alloc | apply pw_below_drewN | apply below_drew1 | refine below_set ?_ GE1154.out | refine below_set ?_ GE1155.out) | exact HB.out)) hb)
        clear HO_5
        clear HO_6
        clear BK1154
        clear BK1155
        clear HB
        have HO_5 := n0_
        have HO_6 := n1_
        have HO1164 := n2_
        have BK1154 := n3_
        have BK1155 := n4_
        have HB := n5_
        clear n0_ n1_ n2_ n3_ n4_ n5_
        (try clear hb)
        (try clear hb2)
        (try clear hk)
        (try clear hi)
        (try clear ho0)
        obtain ⟨Ao15, co15, eo15⟩ := Kd.R_slice HO_6.out
        (first | subst eo15 | (injection eo15 with f1_ f2_ f3_; have f4_ := f1_.symm; have f5_ := f3_.symm; clear f1_ f2_ f3_; subst f4_; subst f5_))
        refine hK.out _ _ ⟨(blk_cell BK1154.out 0).trans rfl, (blk_cell BK1154.out 1).trans rfl, (blk_cell BK1154.out 2).trans rfl⟩ (fun hHeld => ?_)
        clear hK K
        refine norm_ (a' := ?_) ?_ ?_
        rotate_left
        · show Act.put _ (some 19) _ = _
          simp only [Act.put, List.setIfInBounds_toArray, List.set_cons_zero, List.set_cons_succ, i64_w, i32_w]
          rfl
        refine one_ (i := 8) (N := some 23) #[true, true, true, true, true, true, true, true, true, false, false] rfl rfl (one_of HT_.out (by kernel_rfl)) (by decide) (fun K hK => ?_)
        refine goes_ Try.func33 (by kernel_rfl) rfl #[.slice Ao15 x6_1.length co15, .slice A0_2 l0_2.length c0_2] (by rfl) rfl rfl (by (try simp only [List.map_toArray, List.map_cons, List.map_nil]); first | done | rfl | (simp only [List.length_drop, List.length_take]; rfl)) ?_
        with_reducible refine (steelyardref02_Of.calls k1 _ _ x6_1 _ _ l0_2 t1165 _ ?side1 ?side2 ?side3 ?side4 A11.out).mono ?_
        (case side1 => repeat (first | exact (Kd.R_reads' HO_6.out).2.2 | (with_reducible refine Kd.C_alloc ?_ _) | (with_reducible refine Kd.C_drewN ?_ _) | (with_reducible refine Kd.C_drew ?_)))
        (case side2 => exact (Kd.R_reads' HO_6.out).2.1)
        (case side3 => repeat (first | exact (Kd.C_below HR0_2.out HB.out) | (with_reducible refine Kd.C_alloc ?_ _) | (with_reducible refine Kd.C_drewN ?_ _) | (with_reducible refine Kd.C_drew ?_)))
        (case side4 => exact HC0_2.out)
        rintro e w16 ⟨v1166, rfl, ho0, hb⟩
        refine ⟨_, rfl, ?_⟩
        have n0_ := Aside0.mk (Kd.R_elder' (by (with_reducible repeat (first | apply Kd.R_alloc | apply Kd.R_drewN | apply Kd.R_drew)); exact HO_5.out) (Kd.R_base ho0) hb)
        have n1_ := Aside0.mk (Kd.R_elder' (by (with_reducible repeat (first | apply Kd.R_alloc | apply Kd.R_drewN | apply Kd.R_drew)); exact HO_6.out) (Kd.R_base ho0) hb)
        have n2_ := Aside0.mk (Kd.R_elder' (by (with_reducible repeat (first | apply Kd.R_alloc | apply Kd.R_drewN | apply Kd.R_drew)); exact HO1164.out) (Kd.R_base ho0) hb)
        have n3_ := Aside0.mk (Kd.R_lower (Kd.R_new' (Kd.R_new' (Kd.R_new' ho0 (Kd.R_lt (by (with_reducible repeat (first | apply Kd.R_alloc | apply Kd.R_drewN | apply Kd.R_drew)); exact HO_5.out))) (Kd.R_lt (by (with_reducible repeat (first | apply Kd.R_alloc | apply Kd.R_drewN | apply Kd.R_drew)); exact HO_6.out))) (Kd.R_lt (by (with_reducible repeat (first | apply Kd.R_alloc | apply Kd.R_drewN | apply Kd.R_drew)); exact HO1164.out))) (below_size (by repeat (first | (with_reducible first | exact HB.out | apply below_alloc | apply pw_below_drewN | apply below_drew1 | refine below_set ?_ GE1154.out | refine below_set ?_ GE1155.out) | exact HB.out))))
        have n4_ := Aside0.mk (blk_below (g := gb1154) (o := .cells #[.bool a0_0, .slice A0_1 l0_1.length c0_1, .slice A0_2 l0_2.length c0_2] 27 (0, 0)) (by (with_reducible repeat (first | refine blk_drewN ?_ _ | refine blk_drew ?_ | refine blk_alloc ?_ _)); exact BK1154.out) hb)
        have n5_ := Aside0.mk (blk_below (g := gb1155) (o := .cells #[.bool false, .slice none 0 0, .slice none 0 0] 27 (0, 0)) (by (with_reducible repeat (first | refine blk_drewN ?_ _ | refine blk_drew ?_ | refine blk_alloc ?_ _)); exact BK1155.out) hb)
        have n6_ := Aside0.mk (below_step (by repeat (first | (with_reducible first | exact HB.out | apply below_alloc | apply pw_below_drewN | apply below_drew1 | refine below_set ?_ GE1154.out | refine below_set ?_ GE1155.out) | exact HB.out)) hb)
        clear HO_5
        clear HO_6
        clear HO1164
        clear BK1154
        clear BK1155
        clear HB
        have HO_5 := n0_
        have HO_6 := n1_
        have HO1164 := n2_
        have HO1167 := n3_
        have BK1154 := n4_
        have BK1155 := n5_
        have HB := n6_
        clear n0_ n1_ n2_ n3_ n4_ n5_ n6_
        (try clear hb)
        (try clear hb2)
        (try clear hk)
        (try clear hi)
        (try clear ho0)
        refine hK.out _ _ ⟨(blk_cell BK1154.out 0).trans rfl, (blk_cell BK1154.out 1).trans rfl, (blk_cell BK1154.out 2).trans rfl⟩ (fun hHeld => ?_)
        clear hK K
        refine norm_ (a' := ?_) ?_ ?_
        rotate_left
        · show Act.put _ (some 23) _ = _
          simp only [Act.put, List.setIfInBounds_toArray, List.set_cons_zero, List.set_cons_succ, i64_w, i32_w]
          rfl
        refine pure_ (i := 9) (N := some 5) (v := ?_) (a' := ?_) #[true, true, true, true, true, true, true, true, true, true, false] rfl rfl (any_of HT_.out (by kernel_rfl)) (fun _ _ _ h => h) (Or.inl ⟨by rfl, ?_⟩) ?_ ?_
        rotate_left
        · intro w'
          go_simp
          with_reducible rfl
        rotate_left
        · simp only [Act.put, List.setIfInBounds_toArray, List.set_cons_zero, List.set_cons_succ, i64_w, i32_w]
          rfl
        refine pure_ (i := 10) (N := some 6) (v := ?_) (a' := ?_) #[true, true, true, true, true, true, true, true, true, true, true] rfl rfl (any_of HT_.out (by kernel_rfl)) (fun _ _ _ h => h) (Or.inl ⟨by rfl, ?_⟩) ?_ ?_
        rotate_left
        · intro w'
          go_simp
          with_reducible rfl
        rotate_left
        · simp only [Act.put, List.setIfInBounds_toArray, List.set_cons_zero, List.set_cons_succ, i64_w, i32_w]
          rfl
        refine done_ (done_of HT_.out (by kernel_rfl)) ?_
        try go_wp2
        go_roundg k1
        case measure => have := HK1.out; omega
        case rel => exact ⟨(t1162), (t1165), (wrap64 (x7_1 + 1)), (by first | rfl | (simp; done) | (simp [*]; done)), H', ⟨by have := HK1.out; omega⟩, ⟨by (with_reducible repeat (first | apply Kd.R_alloc | apply Kd.R_drewN | apply Kd.R_drew)); exact Kd.R_mono HO1164.out (fun _ hk => hk.2)⟩, ⟨by (with_reducible repeat (first | apply Kd.R_alloc | apply Kd.R_drewN | apply Kd.R_drew)); exact Kd.R_mono HO1167.out (fun _ hk => hk.2)⟩, ⟨by (with_reducible repeat (first | refine blk_drewN ?_ _ | refine blk_drew ?_ | refine blk_alloc ?_ _)); exact BK1154.out⟩, ⟨by (with_reducible repeat (first | refine blk_drewN ?_ _ | refine blk_drew ?_ | refine blk_alloc ?_ _)); exact BK1155.out⟩, ⟨by repeat (first | (with_reducible first | exact HB.out | apply below_alloc | apply pw_below_drewN | apply below_drew1 | refine below_set ?_ GE1154.out | refine below_set ?_ GE1155.out) | exact HB.out)⟩⟩
      · rw [if_neg c9] at H
        have c9b0 : decide (x7_1 < a1) = false := decide_eq_false c9
        clear c9
        by_cases c17 : a0_0 = true
        · subst c17
          have H1 : ((steelyardref06_Make.f k1 ((Int.tmod a1 2) == 1) x5_1).bind fun bt1168 => (some (bt1168.1, bt1168.2, x6_1))) = some (r1, r2, r3) := by rw [if_pos rfl] at H; exact H
          clear H
          have H := H1
          clear H1
          replace H := Option.bind_eq_some_iff.mp H
          obtain ⟨⟨t1168, t1169⟩, A180, H⟩ := H
          replace H : (some (t1168, t1169, x6_1)) = some (r1, r2, r3) := H
          have A18 := Aside0.mk A180
          clear A180
          simp only [Option.some.injEq, Prod.mk.injEq] at H
          obtain ⟨rfl, rfl, rfl⟩ := H
          have hnb19 := NB1154_1155.out
          have hnc19 := NB1155_1154.out
          have hcz20_0 : wr.cell? ⟨gb1154, 0, none⟩ = some (.bool true) := (blk_cell BK1154.out 0).trans rfl
          have hcz20_1 : wr.cell? ⟨gb1154, 1, none⟩ = some (.slice A0_1 l0_1.length c0_1) := (blk_cell BK1154.out 1).trans rfl
          have hcz20_2 : wr.cell? ⟨gb1154, 2, none⟩ = some (.slice A0_2 l0_2.length c0_2) := (blk_cell BK1154.out 2).trans rfl
          have hfz20_0 := blk_frozen BK1154.out 0
          have hfz20_1 := blk_frozen BK1154.out 1
          have hfz20_2 := blk_frozen BK1154.out 2
          obtain ⟨Ao21, co21, eo21⟩ := Kd.R_slice HO_5.out
          subst eo21
          go_wp2_with (first | ((with_reducible refine gate_callee (f := 58) rfl ?_); refine goesL_ (some 33) rfl rfl Try.func58 (by kernel_rfl) rfl #[.bool ((Int.tmod a1 2) == 1), .slice Ao21 x5_1.length co21] rfl (by (try simp only [List.map_toArray, List.map_cons, List.map_nil]); first | done | rfl | (simp only [List.length_drop, List.length_take]; rfl)) ?_; (with_reducible refine (steelyardref06_Make.calls k1 ((Int.tmod a1 2) == 1) _ _ x5_1 t1168 t1169 _ ?side1 ?side2 A18.out).mono ?_); (case side1 => repeat (first | exact (Kd.R_reads' HO_5.out).2.2 | (with_reducible refine Kd.C_alloc ?_ _) | (with_reducible refine Kd.C_drewN ?_ _) | (with_reducible refine Kd.C_drew ?_))); (case side2 => exact (Kd.R_reads' HO_5.out).2.1); rintro e w22 ⟨v1170, rfl, ho0, hb⟩; refine ⟨_, rfl, ?_⟩; have n0_ := Aside0.mk (Kd.R_elder' (by (with_reducible repeat (first | apply Kd.R_alloc | apply Kd.R_drewN | apply Kd.R_drew)); exact HO_5.out) (Kd.R_base ho0) hb); have n1_ := Aside0.mk (Kd.R_elder' (by (with_reducible repeat (first | apply Kd.R_alloc | apply Kd.R_drewN | apply Kd.R_drew)); exact HO_6.out) (Kd.R_base ho0) hb); have n2_ := Aside0.mk (Kd.R_lower (Kd.R_new' (Kd.R_new' ho0 (Kd.R_lt (by (with_reducible repeat (first | apply Kd.R_alloc | apply Kd.R_drewN | apply Kd.R_drew)); exact HO_5.out))) (Kd.R_lt (by (with_reducible repeat (first | apply Kd.R_alloc | apply Kd.R_drewN | apply Kd.R_drew)); exact HO_6.out))) (below_size (by repeat (first | (with_reducible first | exact HB.out | apply below_alloc | apply pw_below_drewN | apply below_drew1 | refine below_set ?_ GE1154.out | refine below_set ?_ GE1155.out) | exact HB.out)))); have n3_ := Aside0.mk (blk_below (g := gb1154) (o := .cells #[.bool true, .slice A0_1 l0_1.length c0_1, .slice A0_2 l0_2.length c0_2] 27 (0, 0)) (by (with_reducible repeat (first | refine blk_drewN ?_ _ | refine blk_drew ?_ | refine blk_alloc ?_ _)); exact BK1154.out) hb); have n4_ := Aside0.mk (blk_below (g := gb1155) (o := .cells #[.bool false, .slice none 0 0, .slice none 0 0] 27 (0, 0)) (by (with_reducible repeat (first | refine blk_drewN ?_ _ | refine blk_drew ?_ | refine blk_alloc ?_ _)); exact BK1155.out) hb); have n5_ := Aside0.mk (below_step (by repeat (first | (with_reducible first | exact HB.out | apply below_alloc | apply pw_below_drewN | apply below_drew1 | refine below_set ?_ GE1154.out | refine below_set ?_ GE1155.out) | exact HB.out)) hb); clear HO_5; clear HO_6; clear BK1154; clear BK1155; clear HB; have HO_5 := n0_; have HO_6 := n1_; have HO1171 := n2_; have BK1154 := n3_; have BK1155 := n4_; have HB := n5_; clear n0_ n1_ n2_ n3_ n4_ n5_; (try clear hb); (try clear hb2); (try clear hk); (try clear hi); (try clear ho0); obtain ⟨Ao23, co23, eo23⟩ := Kd.R_slice HO_6.out; subst eo23; obtain ⟨Ao24, co24, eo24⟩ := Kd.R_slice HO1171.out; subst eo24; have hcz25_0 : w22.cell? ⟨gb1155, 0, none⟩ = some (.bool false) := (blk_cell BK1155.out 0).trans rfl; have hcz25_1 : w22.cell? ⟨gb1155, 1, none⟩ = some (.slice none 0 0) := (blk_cell BK1155.out 1).trans rfl; have hcz25_2 : w22.cell? ⟨gb1155, 2, none⟩ = some (.slice none 0 0) := (blk_cell BK1155.out 2).trans rfl; have hfz25_0 := blk_frozen BK1155.out 0; have hfz25_1 := blk_frozen BK1155.out 1; have hfz25_2 := blk_frozen BK1155.out 2))
          refine bodyPost_ret (results_cell_row rfl _ _ gb1155 27 #[.bool t1168, .slice Ao24 t1169.length co24, .slice Ao23 x6_1.length co23] (0, 0) _ rfl (by (with_reducible repeat (first | refine blk_drewN ?_ _ | refine blk_drew ?_ | refine blk_alloc ?_ _)); refine blk_put (cs := #[.bool t1168, .slice Ao24 t1169.length co24, .slice none 0 0]) ?_ 2 _ rfl; (with_reducible repeat (first | refine blk_drewN ?_ _ | refine blk_drew ?_ | refine blk_alloc ?_ _)); refine blk_put (cs := #[.bool t1168, .slice none 0 0, .slice none 0 0]) ?_ 1 _ rfl; (with_reducible repeat (first | refine blk_drewN ?_ _ | refine blk_drew ?_ | refine blk_alloc ?_ _)); refine blk_put (cs := #[.bool false, .slice none 0 0, .slice none 0 0]) ?_ 0 _ rfl; (with_reducible repeat (first | refine blk_drewN ?_ _ | refine blk_drew ?_ | refine blk_alloc ?_ _)); exact BK1155.out) Try.underlying27 rfl (by kernel_rfl)) rfl ?_
          exact ⟨_, _, by first | rfl | (simp [errW_none, errW_some] <;> rfl) | (simp [*, errW_none, errW_some] <;> rfl), by (with_reducible repeat (first | apply Kd.R_alloc | apply Kd.R_drewN | apply Kd.R_drew)); exact Kd.R_mono (Kd.R_far (p := ⟨gb1155, 2, none⟩) (Kd.R_far (p := ⟨gb1155, 1, none⟩) (Kd.R_far (p := ⟨gb1155, 0, none⟩) (Kd.R_types HO1171.out BK1155.out (by decide)) (fun _ hk => hk.2) (.bool t1168)) (fun _ hk => hk.2) (.slice Ao24 t1169.length co24)) (fun _ hk => hk.2) (.slice Ao23 x6_1.length co23)) (fun _ hk => hk.1.2), by (with_reducible repeat (first | apply Kd.R_alloc | apply Kd.R_drewN | apply Kd.R_drew)); exact Kd.R_mono (Kd.R_far (p := ⟨gb1155, 2, none⟩) (Kd.R_far (p := ⟨gb1155, 1, none⟩) (Kd.R_far (p := ⟨gb1155, 0, none⟩) (Kd.R_types HO_6.out BK1155.out (by decide)) (fun _ hk => hk.2) (.bool t1168)) (fun _ hk => hk.2) (.slice Ao24 t1169.length co24)) (fun _ hk => hk.2) (.slice Ao23 x6_1.length co23)) (fun _ hk => hk.1.2), by repeat (first | (with_reducible first | exact HB.out | apply below_alloc | apply pw_below_drewN | apply below_drew1 | refine below_set ?_ GE1154.out | refine below_set ?_ GE1155.out) | exact HB.out)⟩
        · replace c17 := Bool.eq_false_iff.mpr c17
          subst c17
          have H1 : ((steelyardref06_Make.f k1 false x5_1).bind fun bt1172 => (some (bt1172.1, bt1172.2, x6_1))) = some (r1, r2, r3) := by rw [if_neg (show ¬ (false = true) by decide)] at H; exact H
          clear H
          have H := H1
          clear H1
          replace H := Option.bind_eq_some_iff.mp H
          obtain ⟨⟨t1172, t1173⟩, A260, H⟩ := H
          replace H : (some (t1172, t1173, x6_1)) = some (r1, r2, r3) := H
          have A26 := Aside0.mk A260
          clear A260
          simp only [Option.some.injEq, Prod.mk.injEq] at H
          obtain ⟨rfl, rfl, rfl⟩ := H
          have hnb27 := NB1154_1155.out
          have hnc27 := NB1155_1154.out
          have hcz28_0 : wr.cell? ⟨gb1154, 0, none⟩ = some (.bool false) := (blk_cell BK1154.out 0).trans rfl
          have hcz28_1 : wr.cell? ⟨gb1154, 1, none⟩ = some (.slice A0_1 l0_1.length c0_1) := (blk_cell BK1154.out 1).trans rfl
          have hcz28_2 : wr.cell? ⟨gb1154, 2, none⟩ = some (.slice A0_2 l0_2.length c0_2) := (blk_cell BK1154.out 2).trans rfl
          have hfz28_0 := blk_frozen BK1154.out 0
          have hfz28_1 := blk_frozen BK1154.out 1
          have hfz28_2 := blk_frozen BK1154.out 2
          obtain ⟨Ao29, co29, eo29⟩ := Kd.R_slice HO_5.out
          subst eo29
          go_wp2_with (first | ((with_reducible refine gate_callee (f := 58) rfl ?_); refine goesL_ (some 33) rfl rfl Try.func58 (by kernel_rfl) rfl #[.bool false, .slice Ao29 x5_1.length co29] rfl (by (try simp only [List.map_toArray, List.map_cons, List.map_nil]); first | done | rfl | (simp only [List.length_drop, List.length_take]; rfl)) ?_; (with_reducible refine (steelyardref06_Make.calls k1 false _ _ x5_1 t1172 t1173 _ ?side1 ?side2 A26.out).mono ?_); (case side1 => repeat (first | exact (Kd.R_reads' HO_5.out).2.2 | (with_reducible refine Kd.C_alloc ?_ _) | (with_reducible refine Kd.C_drewN ?_ _) | (with_reducible refine Kd.C_drew ?_))); (case side2 => exact (Kd.R_reads' HO_5.out).2.1); rintro e w30 ⟨v1174, rfl, ho0, hb⟩; refine ⟨_, rfl, ?_⟩; have n0_ := Aside0.mk (Kd.R_elder' (by (with_reducible repeat (first | apply Kd.R_alloc | apply Kd.R_drewN | apply Kd.R_drew)); exact HO_5.out) (Kd.R_base ho0) hb); have n1_ := Aside0.mk (Kd.R_elder' (by (with_reducible repeat (first | apply Kd.R_alloc | apply Kd.R_drewN | apply Kd.R_drew)); exact HO_6.out) (Kd.R_base ho0) hb); have n2_ := Aside0.mk (Kd.R_lower (Kd.R_new' (Kd.R_new' ho0 (Kd.R_lt (by (with_reducible repeat (first | apply Kd.R_alloc | apply Kd.R_drewN | apply Kd.R_drew)); exact HO_5.out))) (Kd.R_lt (by (with_reducible repeat (first | apply Kd.R_alloc | apply Kd.R_drewN | apply Kd.R_drew)); exact HO_6.out))) (below_size (by repeat (first | (with_reducible first | exact HB.out | apply below_alloc | apply pw_below_drewN | apply below_drew1 | refine below_set ?_ GE1154.out | refine below_set ?_ GE1155.out) | exact HB.out)))); have n3_ := Aside0.mk (blk_below (g := gb1154) (o := .cells #[.bool false, .slice A0_1 l0_1.length c0_1, .slice A0_2 l0_2.length c0_2] 27 (0, 0)) (by (with_reducible repeat (first | refine blk_drewN ?_ _ | refine blk_drew ?_ | refine blk_alloc ?_ _)); exact BK1154.out) hb); have n4_ := Aside0.mk (blk_below (g := gb1155) (o := .cells #[.bool false, .slice none 0 0, .slice none 0 0] 27 (0, 0)) (by (with_reducible repeat (first | refine blk_drewN ?_ _ | refine blk_drew ?_ | refine blk_alloc ?_ _)); exact BK1155.out) hb); have n5_ := Aside0.mk (below_step (by repeat (first | (with_reducible first | exact HB.out | apply below_alloc | apply pw_below_drewN | apply below_drew1 | refine below_set ?_ GE1154.out | refine below_set ?_ GE1155.out) | exact HB.out)) hb); clear HO_5; clear HO_6; clear BK1154; clear BK1155; clear HB; have HO_5 := n0_; have HO_6 := n1_; have HO1175 := n2_; have BK1154 := n3_; have BK1155 := n4_; have HB := n5_; clear n0_ n1_ n2_ n3_ n4_ n5_; (try clear hb); (try clear hb2); (try clear hk); (try clear hi); (try clear ho0); obtain ⟨Ao31, co31, eo31⟩ := Kd.R_slice HO_6.out; subst eo31; obtain ⟨Ao32, co32, eo32⟩ := Kd.R_slice HO1175.out; subst eo32; have hcz33_0 : w30.cell? ⟨gb1155, 0, none⟩ = some (.bool false) := (blk_cell BK1155.out 0).trans rfl; have hcz33_1 : w30.cell? ⟨gb1155, 1, none⟩ = some (.slice none 0 0) := (blk_cell BK1155.out 1).trans rfl; have hcz33_2 : w30.cell? ⟨gb1155, 2, none⟩ = some (.slice none 0 0) := (blk_cell BK1155.out 2).trans rfl; have hfz33_0 := blk_frozen BK1155.out 0; have hfz33_1 := blk_frozen BK1155.out 1; have hfz33_2 := blk_frozen BK1155.out 2))
          refine bodyPost_ret (results_cell_row rfl _ _ gb1155 27 #[.bool t1172, .slice Ao32 t1173.length co32, .slice Ao31 x6_1.length co31] (0, 0) _ rfl (by (with_reducible repeat (first | refine blk_drewN ?_ _ | refine blk_drew ?_ | refine blk_alloc ?_ _)); refine blk_put (cs := #[.bool t1172, .slice Ao32 t1173.length co32, .slice none 0 0]) ?_ 2 _ rfl; (with_reducible repeat (first | refine blk_drewN ?_ _ | refine blk_drew ?_ | refine blk_alloc ?_ _)); refine blk_put (cs := #[.bool t1172, .slice none 0 0, .slice none 0 0]) ?_ 1 _ rfl; (with_reducible repeat (first | refine blk_drewN ?_ _ | refine blk_drew ?_ | refine blk_alloc ?_ _)); refine blk_put (cs := #[.bool false, .slice none 0 0, .slice none 0 0]) ?_ 0 _ rfl; (with_reducible repeat (first | refine blk_drewN ?_ _ | refine blk_drew ?_ | refine blk_alloc ?_ _)); exact BK1155.out) Try.underlying27 rfl (by kernel_rfl)) rfl ?_
          exact ⟨_, _, by first | rfl | (simp [errW_none, errW_some] <;> rfl) | (simp [*, errW_none, errW_some] <;> rfl), by (with_reducible repeat (first | apply Kd.R_alloc | apply Kd.R_drewN | apply Kd.R_drew)); exact Kd.R_mono (Kd.R_far (p := ⟨gb1155, 2, none⟩) (Kd.R_far (p := ⟨gb1155, 1, none⟩) (Kd.R_far (p := ⟨gb1155, 0, none⟩) (Kd.R_types HO1175.out BK1155.out (by decide)) (fun _ hk => hk.2) (.bool t1172)) (fun _ hk => hk.2) (.slice Ao32 t1173.length co32)) (fun _ hk => hk.2) (.slice Ao31 x6_1.length co31)) (fun _ hk => hk.1.2), by (with_reducible repeat (first | apply Kd.R_alloc | apply Kd.R_drewN | apply Kd.R_drew)); exact Kd.R_mono (Kd.R_far (p := ⟨gb1155, 2, none⟩) (Kd.R_far (p := ⟨gb1155, 1, none⟩) (Kd.R_far (p := ⟨gb1155, 0, none⟩) (Kd.R_types HO_6.out BK1155.out (by decide)) (fun _ hk => hk.2) (.bool t1172)) (fun _ hk => hk.2) (.slice Ao32 t1173.length co32)) (fun _ hk => hk.2) (.slice Ao31 x6_1.length co31)) (fun _ hk => hk.1.2), by repeat (first | (with_reducible first | exact HB.out | apply below_alloc | apply pw_below_drewN | apply below_drew1 | refine below_set ?_ GE1154.out | refine below_set ?_ GE1155.out) | exact HB.out)⟩

end
end Go.Proofs.Yticngjjdjmadgaa.PU
end
section
set_option linter.unusedVariables false
set_option linter.unusedSimpArgs false
namespace Go.Proofs.Yticngjjdjmadgaa.PL
open Go Go.RowKit Go.Proofs.YticngjjdjmadgaaW.PrintWords Go.Proofs.Yticngjjdjmadgaa.Den Go.Proofs.Yticngjjdjmadgaa.PU
theorem E2 {α : Type} {p q : α → Prop} {a : α} (h : p a) (k : q a) : ∃ x, p x ∧ q x := ⟨a, h, k⟩
def nat_Trim.R (us : List U) (u : U) : Prop := ∃ (k : Nat) (l0 : List Int) (r : List Int), us = [.l l0] ∧ nat_Trim.f k l0 = some r ∧ u = .l r
theorem nat_Trim.I {k : Nat} {l0 : List Int} {r : List Int} (h : nat_Trim.f k l0 = some r) : nat_Trim.R [.l l0] (.l r) := ⟨_, _, _, rfl, h, rfl⟩
theorem nat_Trim.J {k : Nat} {l0 : List Int} {r : List Int} (h : nat_Trim.f k l0 = some r) {us : List U} (hus : us = [.l l0]) : nat_Trim.R us (.l r) := ⟨_, _, _, hus, h, rfl⟩
theorem nat_Trim.E {β : Type} {k : Nat} {l0 : List Int} {g : List Int → Option β} {z : β} {Q : Prop} (h : (nat_Trim.f k l0).bind g = some z) (c : ∀ (r : List Int), nat_Trim.f k l0 = some r → g r = some z → Q) : Q := by
  obtain ⟨p, h1, h2⟩ := Option.bind_eq_some_iff.1 h
  exact c p h1 h2
theorem nat_Trim.sound : SoundF Try.prog 65 nat_Trim.R := by
  rintro _ _ ⟨k, l0, r, rfl, h, rfl⟩
  refine ⟨⟨Try.f65, bodyOf Try.f65, Try.func65, by kernel_rfl, by kernel_rfl⟩, fun W S cs hcs => ?_⟩
  obtain _ | ⟨v0, cs⟩ := cs
  · exact hcs.elim
  obtain ⟨h0, hcs⟩ := hcs
  obtain _ | ⟨_, cs⟩ := cs
  case cons => exact hcs.elim
  obtain ⟨A0, c0, rfl, hc0, hr0⟩ := h0
  exact (nat_Trim.calls k A0 c0 l0 r W (Kd.F_now hr0) hc0 h).mono fun e W' ⟨v0_, he, qv0_, hb⟩ => ⟨_, he, (rep_R qv0_), hb⟩
def quo_Gcd.R (us : List U) (u : U) : Prop := ∃ (k : Nat) (l0 : List Int) (l1 : List Int) (r : List Int), us = [.l l0, .l l1] ∧ quo_Gcd.f k l0 l1 = some r ∧ u = .l r
theorem quo_Gcd.I {k : Nat} {l0 : List Int} {l1 : List Int} {r : List Int} (h : quo_Gcd.f k l0 l1 = some r) : quo_Gcd.R [.l l0, .l l1] (.l r) := ⟨_, _, _, _, rfl, h, rfl⟩
theorem quo_Gcd.J {k : Nat} {l0 : List Int} {l1 : List Int} {r : List Int} (h : quo_Gcd.f k l0 l1 = some r) {us : List U} (hus : us = [.l l0, .l l1]) : quo_Gcd.R us (.l r) := ⟨_, _, _, _, hus, h, rfl⟩
theorem quo_Gcd.E {β : Type} {k : Nat} {l0 : List Int} {l1 : List Int} {g : List Int → Option β} {z : β} {Q : Prop} (h : (quo_Gcd.f k l0 l1).bind g = some z) (c : ∀ (r : List Int), quo_Gcd.f k l0 l1 = some r → g r = some z → Q) : Q := by
  obtain ⟨p, h1, h2⟩ := Option.bind_eq_some_iff.1 h
  exact c p h1 h2
theorem quo_Gcd.sound : SoundF Try.prog 66 quo_Gcd.R := by
  rintro _ _ ⟨k, l0, l1, r, rfl, h, rfl⟩
  refine ⟨⟨Try.f66, bodyOf Try.f66, Try.func66, by kernel_rfl, by kernel_rfl⟩, fun W S cs hcs => ?_⟩
  obtain _ | ⟨v0, cs⟩ := cs
  · exact hcs.elim
  obtain ⟨h0, hcs⟩ := hcs
  obtain _ | ⟨v1, cs⟩ := cs
  · exact hcs.elim
  obtain ⟨h1, hcs⟩ := hcs
  obtain _ | ⟨_, cs⟩ := cs
  case cons => exact hcs.elim
  obtain ⟨A0, c0, rfl, hc0, hr0⟩ := h0
  obtain ⟨A1, c1, rfl, hc1, hr1⟩ := h1
  exact (quo_Gcd.calls k A0 c0 l0 A1 c1 l1 r W (Kd.F_now hr0) hc0 (Kd.F_now hr1) hc1 h).mono fun e W' ⟨v0_, he, qv0_, hb⟩ => ⟨_, he, (rep_R qv0_), hb⟩
def quo_Rem.R (us : List U) (u : U) : Prop := ∃ (k : Nat) (l0 : List Int) (l1 : List Int) (r1 : List Int) (r2 : List Int) (r3 : Bool), us = [.l l0, .l l1] ∧ quo_Rem.f k l0 l1 = some (r1, r2, r3) ∧ u = .tup [.l r1, .l r2, .v (.bool r3)]
theorem quo_Rem.I {k : Nat} {l0 : List Int} {l1 : List Int} {r1 : List Int} {r2 : List Int} {r3 : Bool} (h : quo_Rem.f k l0 l1 = some (r1, r2, r3)) : quo_Rem.R [.l l0, .l l1] (.tup [.l r1, .l r2, .v (.bool r3)]) := ⟨_, _, _, _, _, _, rfl, h, rfl⟩
theorem quo_Rem.J {k : Nat} {l0 : List Int} {l1 : List Int} {r1 : List Int} {r2 : List Int} {r3 : Bool} (h : quo_Rem.f k l0 l1 = some (r1, r2, r3)) {us : List U} (hus : us = [.l l0, .l l1]) : quo_Rem.R us (.tup [.l r1, .l r2, .v (.bool r3)]) := ⟨_, _, _, _, _, _, hus, h, rfl⟩
theorem quo_Rem.E {β : Type} {k : Nat} {l0 : List Int} {l1 : List Int} {g : List Int × List Int × Bool → Option β} {z : β} {Q : Prop} (h : (quo_Rem.f k l0 l1).bind g = some z) (c : ∀ (r1 : List Int) (r2 : List Int) (r3 : Bool), quo_Rem.f k l0 l1 = some (r1, r2, r3) → g (r1, r2, r3) = some z → Q) : Q := by
  obtain ⟨p, h1, h2⟩ := Option.bind_eq_some_iff.1 h
  exact c p.1 p.2.1 p.2.2 h1 h2
theorem quo_Rem.sound : SoundF Try.prog 67 quo_Rem.R := by
  rintro _ _ ⟨k, l0, l1, r1, r2, r3, rfl, h, rfl⟩
  refine ⟨⟨Try.f67, bodyOf Try.f67, Try.func67, by kernel_rfl, by kernel_rfl⟩, fun W S cs hcs => ?_⟩
  obtain _ | ⟨v0, cs⟩ := cs
  · exact hcs.elim
  obtain ⟨h0, hcs⟩ := hcs
  obtain _ | ⟨v1, cs⟩ := cs
  · exact hcs.elim
  obtain ⟨h1, hcs⟩ := hcs
  obtain _ | ⟨_, cs⟩ := cs
  case cons => exact hcs.elim
  obtain ⟨A0, c0, rfl, hc0, hr0⟩ := h0
  obtain ⟨A1, c1, rfl, hc1, hr1⟩ := h1
  exact (quo_Rem.calls k A0 c0 l0 A1 c1 l1 r1 r2 r3 W (Kd.F_now hr0) hc0 (Kd.F_now hr1) hc1 h).mono fun e W' ⟨v0_, v1_, he, qv0_, qv1_, hb⟩ => ⟨_, he, ⟨[v0_, v1_, .bool r3], rfl, ⟨(rep_R qv0_), (rep_R qv1_), rfl, trivial⟩⟩, hb⟩
def nat_Of.R (us : List U) (u : U) : Prop := ∃ (k : Nat) (a0 : Int) (r : List Int), us = [.v (.int .u64 a0)] ∧ nat_Of.f k a0 = some r ∧ u = .l r
theorem nat_Of.I {k : Nat} {a0 : Int} {r : List Int} (h : nat_Of.f k a0 = some r) : nat_Of.R [.v (.int .u64 a0)] (.l r) := ⟨_, _, _, rfl, h, rfl⟩
theorem nat_Of.J {k : Nat} {a0 : Int} {r : List Int} (h : nat_Of.f k a0 = some r) {us : List U} (hus : us = [.v (.int .u64 a0)]) : nat_Of.R us (.l r) := ⟨_, _, _, hus, h, rfl⟩
theorem nat_Of.E {β : Type} {k : Nat} {a0 : Int} {g : List Int → Option β} {z : β} {Q : Prop} (h : (nat_Of.f k a0).bind g = some z) (c : ∀ (r : List Int), nat_Of.f k a0 = some r → g r = some z → Q) : Q := by
  obtain ⟨p, h1, h2⟩ := Option.bind_eq_some_iff.1 h
  exact c p h1 h2
theorem nat_Of.sound : SoundF Try.prog 52 nat_Of.R := by
  rintro _ _ ⟨k, a0, r, rfl, h, rfl⟩
  refine ⟨⟨Try.f52, bodyOf Try.f52, Try.func52, by kernel_rfl, by kernel_rfl⟩, fun W S cs hcs => ?_⟩
  obtain _ | ⟨v0, cs⟩ := cs
  · exact hcs.elim
  obtain ⟨h0, hcs⟩ := hcs
  obtain _ | ⟨_, cs⟩ := cs
  case cons => exact hcs.elim
  obtain rfl := h0
  exact (nat_Of.calls k a0 r W h).mono fun e W' ⟨v0_, he, qv0_, hb⟩ => ⟨_, he, (rep_R qv0_), hb⟩
def rat_trimmed.R (us : List U) (u : U) : Prop := ∃ (l0 : List Int) (r : Bool), us = [.l l0] ∧ rat_trimmed.f l0 = some r ∧ u = .v (.bool r)
theorem rat_trimmed.I {l0 : List Int} {r : Bool} (h : rat_trimmed.f l0 = some r) : rat_trimmed.R [.l l0] (.v (.bool r)) := ⟨_, _, rfl, h, rfl⟩
theorem rat_trimmed.J {l0 : List Int} {r : Bool} (h : rat_trimmed.f l0 = some r) {us : List U} (hus : us = [.l l0]) : rat_trimmed.R us (.v (.bool r)) := ⟨_, _, hus, h, rfl⟩
theorem rat_trimmed.E {β : Type} {l0 : List Int} {g : Bool → Option β} {z : β} {Q : Prop} (h : (rat_trimmed.f l0).bind g = some z) (c : ∀ (r : Bool), rat_trimmed.f l0 = some r → g r = some z → Q) : Q := by
  obtain ⟨p, h1, h2⟩ := Option.bind_eq_some_iff.1 h
  exact c p h1 h2
theorem rat_trimmed.sound : SoundF Try.prog 70 rat_trimmed.R := by
  rintro _ _ ⟨l0, r, rfl, h, rfl⟩
  refine ⟨⟨Try.f70, bodyOf Try.f70, Try.func70, by kernel_rfl, by kernel_rfl⟩, fun W S cs hcs => ?_⟩
  obtain _ | ⟨v0, cs⟩ := cs
  · exact hcs.elim
  obtain ⟨h0, hcs⟩ := hcs
  obtain _ | ⟨_, cs⟩ := cs
  case cons => exact hcs.elim
  obtain ⟨A0, c0, rfl, hc0, hr0⟩ := h0
  exact (rat_trimmed.calls A0 c0 l0 r W (Kd.F_now hr0) hc0 h).mono fun e W' ⟨he, hd⟩ => ⟨_, he, rfl, below_drawn hd⟩
def nat_Cmp.R (us : List U) (u : U) : Prop := ∃ (k : Nat) (l0 : List Int) (l1 : List Int) (r : Int), us = [.l l0, .l l1] ∧ nat_Cmp.f k l0 l1 = some r ∧ u = .v (.int .i64 r)
theorem nat_Cmp.I {k : Nat} {l0 : List Int} {l1 : List Int} {r : Int} (h : nat_Cmp.f k l0 l1 = some r) : nat_Cmp.R [.l l0, .l l1] (.v (.int .i64 r)) := ⟨_, _, _, _, rfl, h, rfl⟩
theorem nat_Cmp.J {k : Nat} {l0 : List Int} {l1 : List Int} {r : Int} (h : nat_Cmp.f k l0 l1 = some r) {us : List U} (hus : us = [.l l0, .l l1]) : nat_Cmp.R us (.v (.int .i64 r)) := ⟨_, _, _, _, hus, h, rfl⟩
theorem nat_Cmp.E {β : Type} {k : Nat} {l0 : List Int} {l1 : List Int} {g : Int → Option β} {z : β} {Q : Prop} (h : (nat_Cmp.f k l0 l1).bind g = some z) (c : ∀ (r : Int), nat_Cmp.f k l0 l1 = some r → g r = some z → Q) : Q := by
  obtain ⟨p, h1, h2⟩ := Option.bind_eq_some_iff.1 h
  exact c p h1 h2
theorem nat_Cmp.sound : SoundF Try.prog 71 nat_Cmp.R := by
  rintro _ _ ⟨k, l0, l1, r, rfl, h, rfl⟩
  refine ⟨⟨Try.f71, bodyOf Try.f71, Try.func71, by kernel_rfl, by kernel_rfl⟩, fun W S cs hcs => ?_⟩
  obtain _ | ⟨v0, cs⟩ := cs
  · exact hcs.elim
  obtain ⟨h0, hcs⟩ := hcs
  obtain _ | ⟨v1, cs⟩ := cs
  · exact hcs.elim
  obtain ⟨h1, hcs⟩ := hcs
  obtain _ | ⟨_, cs⟩ := cs
  case cons => exact hcs.elim
  obtain ⟨A0, c0, rfl, hc0, hr0⟩ := h0
  obtain ⟨A1, c1, rfl, hc1, hr1⟩ := h1
  exact (nat_Cmp.calls k A0 c0 l0 A1 c1 l1 r W (Kd.F_now hr0) hc0 (Kd.F_now hr1) hc1 h).mono fun e W' ⟨he, hd⟩ => ⟨_, he, rfl, below_drawn hd⟩
def power_within.R (us : List U) (u : U) : Prop := ∃ (a0 : Int) (a1 : Int) (r : Bool), us = [.v (.int .i64 a0), .v (.int .i64 a1)] ∧ power_within.f a0 a1 = some r ∧ u = .v (.bool r)
theorem power_within.I {a0 : Int} {a1 : Int} {r : Bool} (h : power_within.f a0 a1 = some r) : power_within.R [.v (.int .i64 a0), .v (.int .i64 a1)] (.v (.bool r)) := ⟨_, _, _, rfl, h, rfl⟩
theorem power_within.J {a0 : Int} {a1 : Int} {r : Bool} (h : power_within.f a0 a1 = some r) {us : List U} (hus : us = [.v (.int .i64 a0), .v (.int .i64 a1)]) : power_within.R us (.v (.bool r)) := ⟨_, _, _, hus, h, rfl⟩
theorem power_within.E {β : Type} {a0 : Int} {a1 : Int} {g : Bool → Option β} {z : β} {Q : Prop} (h : (power_within.f a0 a1).bind g = some z) (c : ∀ (r : Bool), power_within.f a0 a1 = some r → g r = some z → Q) : Q := by
  obtain ⟨p, h1, h2⟩ := Option.bind_eq_some_iff.1 h
  exact c p h1 h2
theorem power_within.sound : SoundF Try.prog 49 power_within.R := by
  rintro _ _ ⟨a0, a1, r, rfl, h, rfl⟩
  refine ⟨⟨Try.f49, bodyOf Try.f49, Try.func49, by kernel_rfl, by kernel_rfl⟩, fun W S cs hcs => ?_⟩
  obtain _ | ⟨v0, cs⟩ := cs
  · exact hcs.elim
  obtain ⟨h0, hcs⟩ := hcs
  obtain _ | ⟨v1, cs⟩ := cs
  · exact hcs.elim
  obtain ⟨h1, hcs⟩ := hcs
  obtain _ | ⟨_, cs⟩ := cs
  case cons => exact hcs.elim
  obtain rfl := h0
  obtain rfl := h1
  exact (power_within.calls a0 a1 r W h).mono fun e W' ⟨he, hd⟩ => ⟨_, he, rfl, below_drawn hd⟩
def mul_Of.R (us : List U) (u : U) : Prop := ∃ (k : Nat) (l0 : List Int) (l1 : List Int) (r : List Int), us = [.l l0, .l l1] ∧ mul_Of.f k l0 l1 = some r ∧ u = .l r
theorem mul_Of.I {k : Nat} {l0 : List Int} {l1 : List Int} {r : List Int} (h : mul_Of.f k l0 l1 = some r) : mul_Of.R [.l l0, .l l1] (.l r) := ⟨_, _, _, _, rfl, h, rfl⟩
theorem mul_Of.J {k : Nat} {l0 : List Int} {l1 : List Int} {r : List Int} (h : mul_Of.f k l0 l1 = some r) {us : List U} (hus : us = [.l l0, .l l1]) : mul_Of.R us (.l r) := ⟨_, _, _, _, hus, h, rfl⟩
theorem mul_Of.E {β : Type} {k : Nat} {l0 : List Int} {l1 : List Int} {g : List Int → Option β} {z : β} {Q : Prop} (h : (mul_Of.f k l0 l1).bind g = some z) (c : ∀ (r : List Int), mul_Of.f k l0 l1 = some r → g r = some z → Q) : Q := by
  obtain ⟨p, h1, h2⟩ := Option.bind_eq_some_iff.1 h
  exact c p h1 h2
theorem mul_Of.sound : SoundF Try.prog 53 mul_Of.R := by
  rintro _ _ ⟨k, l0, l1, r, rfl, h, rfl⟩
  refine ⟨⟨Try.f53, bodyOf Try.f53, Try.func53, by kernel_rfl, by kernel_rfl⟩, fun W S cs hcs => ?_⟩
  obtain _ | ⟨v0, cs⟩ := cs
  · exact hcs.elim
  obtain ⟨h0, hcs⟩ := hcs
  obtain _ | ⟨v1, cs⟩ := cs
  · exact hcs.elim
  obtain ⟨h1, hcs⟩ := hcs
  obtain _ | ⟨_, cs⟩ := cs
  case cons => exact hcs.elim
  obtain ⟨A0, c0, rfl, hc0, hr0⟩ := h0
  obtain ⟨A1, c1, rfl, hc1, hr1⟩ := h1
  exact (mul_Of.calls k A0 c0 l0 A1 c1 l1 r W (Kd.F_now hr0) hc0 (Kd.F_now hr1) hc1 h).mono fun e W' ⟨v0_, he, qv0_, hb⟩ => ⟨_, he, (rep_R qv0_), hb⟩
def mul_Pow.R (us : List U) (u : U) : Prop := ∃ (k : Nat) (l0 : List Int) (a1 : Int) (r1 : List Int) (r2 : Bool), us = [.l l0, .v (.int .i64 a1)] ∧ mul_Pow.f k l0 a1 = some (r1, r2) ∧ u = .tup [.l r1, .v (.bool r2)]
theorem mul_Pow.I {k : Nat} {l0 : List Int} {a1 : Int} {r1 : List Int} {r2 : Bool} (h : mul_Pow.f k l0 a1 = some (r1, r2)) : mul_Pow.R [.l l0, .v (.int .i64 a1)] (.tup [.l r1, .v (.bool r2)]) := ⟨_, _, _, _, _, rfl, h, rfl⟩
theorem mul_Pow.J {k : Nat} {l0 : List Int} {a1 : Int} {r1 : List Int} {r2 : Bool} (h : mul_Pow.f k l0 a1 = some (r1, r2)) {us : List U} (hus : us = [.l l0, .v (.int .i64 a1)]) : mul_Pow.R us (.tup [.l r1, .v (.bool r2)]) := ⟨_, _, _, _, _, hus, h, rfl⟩
theorem mul_Pow.E {β : Type} {k : Nat} {l0 : List Int} {a1 : Int} {g : List Int × Bool → Option β} {z : β} {Q : Prop} (h : (mul_Pow.f k l0 a1).bind g = some z) (c : ∀ (r1 : List Int) (r2 : Bool), mul_Pow.f k l0 a1 = some (r1, r2) → g (r1, r2) = some z → Q) : Q := by
  obtain ⟨p, h1, h2⟩ := Option.bind_eq_some_iff.1 h
  exact c p.1 p.2 h1 h2
theorem mul_Pow.sound : SoundF Try.prog 51 mul_Pow.R := by
  rintro _ _ ⟨k, l0, a1, r1, r2, rfl, h, rfl⟩
  refine ⟨⟨Try.f51, bodyOf Try.f51, Try.func51, by kernel_rfl, by kernel_rfl⟩, fun W S cs hcs => ?_⟩
  obtain _ | ⟨v0, cs⟩ := cs
  · exact hcs.elim
  obtain ⟨h0, hcs⟩ := hcs
  obtain _ | ⟨v1, cs⟩ := cs
  · exact hcs.elim
  obtain ⟨h1, hcs⟩ := hcs
  obtain _ | ⟨_, cs⟩ := cs
  case cons => exact hcs.elim
  obtain ⟨A0, c0, rfl, hc0, hr0⟩ := h0
  obtain rfl := h1
  exact (mul_Pow.calls k A0 c0 l0 a1 r1 r2 W (Kd.F_now hr0) hc0 h).mono fun e W' ⟨v0_, he, qv0_, hb⟩ => ⟨_, he, ⟨[v0_, .bool r2], rfl, ⟨(rep_R qv0_), rfl, trivial⟩⟩, hb⟩
def steelyardkeep_Nat.R (us : List U) (u : U) : Prop := ∃ (k : Nat) (l0 : List Int) (l1 : List Int) (r : Bool), us = [.l l0, .l l1] ∧ steelyardkeep_Nat.f k l0 l1 = some r ∧ u = .v (.bool r)
theorem steelyardkeep_Nat.I {k : Nat} {l0 : List Int} {l1 : List Int} {r : Bool} (h : steelyardkeep_Nat.f k l0 l1 = some r) : steelyardkeep_Nat.R [.l l0, .l l1] (.v (.bool r)) := ⟨_, _, _, _, rfl, h, rfl⟩
theorem steelyardkeep_Nat.J {k : Nat} {l0 : List Int} {l1 : List Int} {r : Bool} (h : steelyardkeep_Nat.f k l0 l1 = some r) {us : List U} (hus : us = [.l l0, .l l1]) : steelyardkeep_Nat.R us (.v (.bool r)) := ⟨_, _, _, _, hus, h, rfl⟩
theorem steelyardkeep_Nat.E {β : Type} {k : Nat} {l0 : List Int} {l1 : List Int} {g : Bool → Option β} {z : β} {Q : Prop} (h : (steelyardkeep_Nat.f k l0 l1).bind g = some z) (c : ∀ (r : Bool), steelyardkeep_Nat.f k l0 l1 = some r → g r = some z → Q) : Q := by
  obtain ⟨p, h1, h2⟩ := Option.bind_eq_some_iff.1 h
  exact c p h1 h2
theorem steelyardkeep_Nat.sound : SoundF Try.prog 61 steelyardkeep_Nat.R := by
  rintro _ _ ⟨k, l0, l1, r, rfl, h, rfl⟩
  refine ⟨⟨Try.f61, bodyOf Try.f61, Try.func61, by kernel_rfl, by kernel_rfl⟩, fun W S cs hcs => ?_⟩
  obtain _ | ⟨v0, cs⟩ := cs
  · exact hcs.elim
  obtain ⟨h0, hcs⟩ := hcs
  obtain _ | ⟨v1, cs⟩ := cs
  · exact hcs.elim
  obtain ⟨h1, hcs⟩ := hcs
  obtain _ | ⟨_, cs⟩ := cs
  case cons => exact hcs.elim
  obtain ⟨A0, c0, rfl, hc0, hr0⟩ := h0
  obtain ⟨A1, c1, rfl, hc1, hr1⟩ := h1
  exact (steelyardkeep_Nat.calls k A0 c0 l0 A1 c1 l1 r W (Kd.F_now hr0) hc0 (Kd.F_now hr1) hc1 h).mono fun e W' ⟨he, hd⟩ => ⟨_, he, rfl, below_drawn hd⟩
def steelyardref07_trimmed.R (us : List U) (u : U) : Prop := ∃ (l0 : List Int) (r : Bool), us = [.l l0] ∧ steelyardref07_trimmed.f l0 = some r ∧ u = .v (.bool r)
theorem steelyardref07_trimmed.I {l0 : List Int} {r : Bool} (h : steelyardref07_trimmed.f l0 = some r) : steelyardref07_trimmed.R [.l l0] (.v (.bool r)) := ⟨_, _, rfl, h, rfl⟩
theorem steelyardref07_trimmed.J {l0 : List Int} {r : Bool} (h : steelyardref07_trimmed.f l0 = some r) {us : List U} (hus : us = [.l l0]) : steelyardref07_trimmed.R us (.v (.bool r)) := ⟨_, _, hus, h, rfl⟩
theorem steelyardref07_trimmed.E {β : Type} {l0 : List Int} {g : Bool → Option β} {z : β} {Q : Prop} (h : (steelyardref07_trimmed.f l0).bind g = some z) (c : ∀ (r : Bool), steelyardref07_trimmed.f l0 = some r → g r = some z → Q) : Q := by
  obtain ⟨p, h1, h2⟩ := Option.bind_eq_some_iff.1 h
  exact c p h1 h2
theorem steelyardref07_trimmed.sound : SoundF Try.prog 62 steelyardref07_trimmed.R := by
  rintro _ _ ⟨l0, r, rfl, h, rfl⟩
  refine ⟨⟨Try.f62, bodyOf Try.f62, Try.func62, by kernel_rfl, by kernel_rfl⟩, fun W S cs hcs => ?_⟩
  obtain _ | ⟨v0, cs⟩ := cs
  · exact hcs.elim
  obtain ⟨h0, hcs⟩ := hcs
  obtain _ | ⟨_, cs⟩ := cs
  case cons => exact hcs.elim
  obtain ⟨A0, c0, rfl, hc0, hr0⟩ := h0
  exact (steelyardref07_trimmed.calls A0 c0 l0 r W (Kd.F_now hr0) hc0 h).mono fun e W' ⟨he, hd⟩ => ⟨_, he, rfl, below_drawn hd⟩
def steelyardref03_Gcd.R (us : List U) (u : U) : Prop := ∃ (k : Nat) (l0 : List Int) (l1 : List Int) (r : List Int), us = [.l l0, .l l1] ∧ steelyardref03_Gcd.f k l0 l1 = some r ∧ u = .l r
theorem steelyardref03_Gcd.I {k : Nat} {l0 : List Int} {l1 : List Int} {r : List Int} (h : steelyardref03_Gcd.f k l0 l1 = some r) : steelyardref03_Gcd.R [.l l0, .l l1] (.l r) := ⟨_, _, _, _, rfl, h, rfl⟩
theorem steelyardref03_Gcd.J {k : Nat} {l0 : List Int} {l1 : List Int} {r : List Int} (h : steelyardref03_Gcd.f k l0 l1 = some r) {us : List U} (hus : us = [.l l0, .l l1]) : steelyardref03_Gcd.R us (.l r) := ⟨_, _, _, _, hus, h, rfl⟩
theorem steelyardref03_Gcd.E {β : Type} {k : Nat} {l0 : List Int} {l1 : List Int} {g : List Int → Option β} {z : β} {Q : Prop} (h : (steelyardref03_Gcd.f k l0 l1).bind g = some z) (c : ∀ (r : List Int), steelyardref03_Gcd.f k l0 l1 = some r → g r = some z → Q) : Q := by
  obtain ⟨p, h1, h2⟩ := Option.bind_eq_some_iff.1 h
  exact c p h1 h2
theorem steelyardref03_Gcd.sound : SoundF Try.prog 63 steelyardref03_Gcd.R := by
  rintro _ _ ⟨k, l0, l1, r, rfl, h, rfl⟩
  refine ⟨⟨Try.f63, bodyOf Try.f63, Try.func63, by kernel_rfl, by kernel_rfl⟩, fun W S cs hcs => ?_⟩
  obtain _ | ⟨v0, cs⟩ := cs
  · exact hcs.elim
  obtain ⟨h0, hcs⟩ := hcs
  obtain _ | ⟨v1, cs⟩ := cs
  · exact hcs.elim
  obtain ⟨h1, hcs⟩ := hcs
  obtain _ | ⟨_, cs⟩ := cs
  case cons => exact hcs.elim
  obtain ⟨A0, c0, rfl, hc0, hr0⟩ := h0
  obtain ⟨A1, c1, rfl, hc1, hr1⟩ := h1
  exact (steelyardref03_Gcd.calls k A0 c0 l0 A1 c1 l1 r W (Kd.F_now hr0) hc0 (Kd.F_now hr1) hc1 h).mono fun e W' ⟨v0_, he, qv0_, hb⟩ => ⟨_, he, (rep_R qv0_), hb⟩
def steelyardref01_Trim.R (us : List U) (u : U) : Prop := ∃ (k : Nat) (l0 : List Int) (r : List Int), us = [.l l0] ∧ steelyardref01_Trim.f k l0 = some r ∧ u = .l r
theorem steelyardref01_Trim.I {k : Nat} {l0 : List Int} {r : List Int} (h : steelyardref01_Trim.f k l0 = some r) : steelyardref01_Trim.R [.l l0] (.l r) := ⟨_, _, _, rfl, h, rfl⟩
theorem steelyardref01_Trim.J {k : Nat} {l0 : List Int} {r : List Int} (h : steelyardref01_Trim.f k l0 = some r) {us : List U} (hus : us = [.l l0]) : steelyardref01_Trim.R us (.l r) := ⟨_, _, _, hus, h, rfl⟩
theorem steelyardref01_Trim.E {β : Type} {k : Nat} {l0 : List Int} {g : List Int → Option β} {z : β} {Q : Prop} (h : (steelyardref01_Trim.f k l0).bind g = some z) (c : ∀ (r : List Int), steelyardref01_Trim.f k l0 = some r → g r = some z → Q) : Q := by
  obtain ⟨p, h1, h2⟩ := Option.bind_eq_some_iff.1 h
  exact c p h1 h2
theorem steelyardref01_Trim.sound : SoundF Try.prog 79 steelyardref01_Trim.R := by
  rintro _ _ ⟨k, l0, r, rfl, h, rfl⟩
  refine ⟨⟨Try.f79, bodyOf Try.f79, Try.func79, by kernel_rfl, by kernel_rfl⟩, fun W S cs hcs => ?_⟩
  obtain _ | ⟨v0, cs⟩ := cs
  · exact hcs.elim
  obtain ⟨h0, hcs⟩ := hcs
  obtain _ | ⟨_, cs⟩ := cs
  case cons => exact hcs.elim
  obtain ⟨A0, c0, rfl, hc0, hr0⟩ := h0
  exact (steelyardref01_Trim.calls k A0 c0 l0 r W (Kd.F_now hr0) hc0 h).mono fun e W' ⟨v0_, he, qv0_, hb⟩ => ⟨_, he, (rep_R qv0_), hb⟩
def steelyardref02_Of.R (us : List U) (u : U) : Prop := ∃ (k : Nat) (l0 : List Int) (l1 : List Int) (r : List Int), us = [.l l0, .l l1] ∧ steelyardref02_Of.f k l0 l1 = some r ∧ u = .l r
theorem steelyardref02_Of.I {k : Nat} {l0 : List Int} {l1 : List Int} {r : List Int} (h : steelyardref02_Of.f k l0 l1 = some r) : steelyardref02_Of.R [.l l0, .l l1] (.l r) := ⟨_, _, _, _, rfl, h, rfl⟩
theorem steelyardref02_Of.J {k : Nat} {l0 : List Int} {l1 : List Int} {r : List Int} (h : steelyardref02_Of.f k l0 l1 = some r) {us : List U} (hus : us = [.l l0, .l l1]) : steelyardref02_Of.R us (.l r) := ⟨_, _, _, _, hus, h, rfl⟩
theorem steelyardref02_Of.E {β : Type} {k : Nat} {l0 : List Int} {l1 : List Int} {g : List Int → Option β} {z : β} {Q : Prop} (h : (steelyardref02_Of.f k l0 l1).bind g = some z) (c : ∀ (r : List Int), steelyardref02_Of.f k l0 l1 = some r → g r = some z → Q) : Q := by
  obtain ⟨p, h1, h2⟩ := Option.bind_eq_some_iff.1 h
  exact c p h1 h2
theorem steelyardref02_Of.sound : SoundF Try.prog 33 steelyardref02_Of.R := by
  rintro _ _ ⟨k, l0, l1, r, rfl, h, rfl⟩
  refine ⟨⟨Try.f33, bodyOf Try.f33, Try.func33, by kernel_rfl, by kernel_rfl⟩, fun W S cs hcs => ?_⟩
  obtain _ | ⟨v0, cs⟩ := cs
  · exact hcs.elim
  obtain ⟨h0, hcs⟩ := hcs
  obtain _ | ⟨v1, cs⟩ := cs
  · exact hcs.elim
  obtain ⟨h1, hcs⟩ := hcs
  obtain _ | ⟨_, cs⟩ := cs
  case cons => exact hcs.elim
  obtain ⟨A0, c0, rfl, hc0, hr0⟩ := h0
  obtain ⟨A1, c1, rfl, hc1, hr1⟩ := h1
  exact (steelyardref02_Of.calls k A0 c0 l0 A1 c1 l1 r W (Kd.F_now hr0) hc0 (Kd.F_now hr1) hc1 h).mono fun e W' ⟨v0_, he, qv0_, hb⟩ => ⟨_, he, (rep_R qv0_), hb⟩
def steelyardref03_Rem.R (us : List U) (u : U) : Prop := ∃ (k : Nat) (l0 : List Int) (l1 : List Int) (r1 : List Int) (r2 : List Int) (r3 : Bool), us = [.l l0, .l l1] ∧ steelyardref03_Rem.f k l0 l1 = some (r1, r2, r3) ∧ u = .agg [.l r1, .l r2, .v (.bool r3)]
theorem steelyardref03_Rem.I {k : Nat} {l0 : List Int} {l1 : List Int} {r1 : List Int} {r2 : List Int} {r3 : Bool} (h : steelyardref03_Rem.f k l0 l1 = some (r1, r2, r3)) : steelyardref03_Rem.R [.l l0, .l l1] (.agg [.l r1, .l r2, .v (.bool r3)]) := ⟨_, _, _, _, _, _, rfl, h, rfl⟩
theorem steelyardref03_Rem.J {k : Nat} {l0 : List Int} {l1 : List Int} {r1 : List Int} {r2 : List Int} {r3 : Bool} (h : steelyardref03_Rem.f k l0 l1 = some (r1, r2, r3)) {us : List U} (hus : us = [.l l0, .l l1]) : steelyardref03_Rem.R us (.agg [.l r1, .l r2, .v (.bool r3)]) := ⟨_, _, _, _, _, _, hus, h, rfl⟩
theorem steelyardref03_Rem.E {β : Type} {k : Nat} {l0 : List Int} {l1 : List Int} {g : List Int × List Int × Bool → Option β} {z : β} {Q : Prop} (h : (steelyardref03_Rem.f k l0 l1).bind g = some z) (c : ∀ (r1 : List Int) (r2 : List Int) (r3 : Bool), steelyardref03_Rem.f k l0 l1 = some (r1, r2, r3) → g (r1, r2, r3) = some z → Q) : Q := by
  obtain ⟨p, h1, h2⟩ := Option.bind_eq_some_iff.1 h
  exact c p.1 p.2.1 p.2.2 h1 h2
theorem steelyardref03_Rem.sound : SoundF Try.prog 91 steelyardref03_Rem.R := by
  rintro _ _ ⟨k, l0, l1, r1, r2, r3, rfl, h, rfl⟩
  refine ⟨⟨Try.f91, bodyOf Try.f91, Try.func91, by kernel_rfl, by kernel_rfl⟩, fun W S cs hcs => ?_⟩
  obtain _ | ⟨v0, cs⟩ := cs
  · exact hcs.elim
  obtain ⟨h0, hcs⟩ := hcs
  obtain _ | ⟨v1, cs⟩ := cs
  · exact hcs.elim
  obtain ⟨h1, hcs⟩ := hcs
  obtain _ | ⟨_, cs⟩ := cs
  case cons => exact hcs.elim
  obtain ⟨A0, c0, rfl, hc0, hr0⟩ := h0
  obtain ⟨A1, c1, rfl, hc1, hr1⟩ := h1
  exact (steelyardref03_Rem.calls k A0 c0 l0 A1 c1 l1 r1 r2 r3 W (Kd.F_now hr0) hc0 (Kd.F_now hr1) hc1 h).mono fun e W' ⟨v0_, v1_, he, qv0_, qv1_, hb⟩ => ⟨_, he, ⟨[v0_, v1_, .bool r3], rfl, ⟨(rep_R qv0_), (rep_R qv1_), rfl, trivial⟩, by intro v hv; simp only [List.mem_cons, List.not_mem_nil, or_false] at hv; (rcases hv with rfl | rfl | rfl; exact one_R qv0_; exact one_R qv1_; exact rfl)⟩, hb⟩
def steelyardref01_Of.R (us : List U) (u : U) : Prop := ∃ (k : Nat) (a0 : Int) (r : List Int), us = [.v (.int .u64 a0)] ∧ steelyardref01_Of.f k a0 = some r ∧ u = .l r
theorem steelyardref01_Of.I {k : Nat} {a0 : Int} {r : List Int} (h : steelyardref01_Of.f k a0 = some r) : steelyardref01_Of.R [.v (.int .u64 a0)] (.l r) := ⟨_, _, _, rfl, h, rfl⟩
theorem steelyardref01_Of.J {k : Nat} {a0 : Int} {r : List Int} (h : steelyardref01_Of.f k a0 = some r) {us : List U} (hus : us = [.v (.int .u64 a0)]) : steelyardref01_Of.R us (.l r) := ⟨_, _, _, hus, h, rfl⟩
theorem steelyardref01_Of.E {β : Type} {k : Nat} {a0 : Int} {g : List Int → Option β} {z : β} {Q : Prop} (h : (steelyardref01_Of.f k a0).bind g = some z) (c : ∀ (r : List Int), steelyardref01_Of.f k a0 = some r → g r = some z → Q) : Q := by
  obtain ⟨p, h1, h2⟩ := Option.bind_eq_some_iff.1 h
  exact c p h1 h2
theorem steelyardref01_Of.sound : SoundF Try.prog 107 steelyardref01_Of.R := by
  rintro _ _ ⟨k, a0, r, rfl, h, rfl⟩
  refine ⟨⟨Try.f107, bodyOf Try.f107, Try.func107, by kernel_rfl, by kernel_rfl⟩, fun W S cs hcs => ?_⟩
  obtain _ | ⟨v0, cs⟩ := cs
  · exact hcs.elim
  obtain ⟨h0, hcs⟩ := hcs
  obtain _ | ⟨_, cs⟩ := cs
  case cons => exact hcs.elim
  obtain rfl := h0
  exact (steelyardref01_Of.calls k a0 r W h).mono fun e W' ⟨v0_, he, qv0_, hb⟩ => ⟨_, he, (rep_R qv0_), hb⟩
def steelyardref08_wide.R (us : List U) (u : U) : Prop := ∃ (k : Nat) (a0_0 : Bool) (l0_1 : List Int) (l0_2 : List Int) (a1 : Int) (r1 : Bool) (r2 : List Int) (r3 : List Int), us = [.agg [.v (.bool a0_0), .l l0_1, .l l0_2], .v (.int .i64 a1)] ∧ steelyardref08_wide.f k a0_0 l0_1 l0_2 a1 = some (r1, r2, r3) ∧ u = .agg [.v (.bool r1), .l r2, .l r3]
theorem steelyardref08_wide.I {k : Nat} {a0_0 : Bool} {l0_1 : List Int} {l0_2 : List Int} {a1 : Int} {r1 : Bool} {r2 : List Int} {r3 : List Int} (h : steelyardref08_wide.f k a0_0 l0_1 l0_2 a1 = some (r1, r2, r3)) : steelyardref08_wide.R [.agg [.v (.bool a0_0), .l l0_1, .l l0_2], .v (.int .i64 a1)] (.agg [.v (.bool r1), .l r2, .l r3]) := ⟨_, _, _, _, _, _, _, _, rfl, h, rfl⟩
theorem steelyardref08_wide.J {k : Nat} {a0_0 : Bool} {l0_1 : List Int} {l0_2 : List Int} {a1 : Int} {r1 : Bool} {r2 : List Int} {r3 : List Int} (h : steelyardref08_wide.f k a0_0 l0_1 l0_2 a1 = some (r1, r2, r3)) {us : List U} (hus : us = [.agg [.v (.bool a0_0), .l l0_1, .l l0_2], .v (.int .i64 a1)]) : steelyardref08_wide.R us (.agg [.v (.bool r1), .l r2, .l r3]) := ⟨_, _, _, _, _, _, _, _, hus, h, rfl⟩
theorem steelyardref08_wide.E {β : Type} {k : Nat} {a0_0 : Bool} {l0_1 : List Int} {l0_2 : List Int} {a1 : Int} {g : Bool × List Int × List Int → Option β} {z : β} {Q : Prop} (h : (steelyardref08_wide.f k a0_0 l0_1 l0_2 a1).bind g = some z) (c : ∀ (r1 : Bool) (r2 : List Int) (r3 : List Int), steelyardref08_wide.f k a0_0 l0_1 l0_2 a1 = some (r1, r2, r3) → g (r1, r2, r3) = some z → Q) : Q := by
  obtain ⟨p, h1, h2⟩ := Option.bind_eq_some_iff.1 h
  exact c p.1 p.2.1 p.2.2 h1 h2
theorem steelyardref08_wide.sound : SoundF Try.prog 55 steelyardref08_wide.R := by
  rintro _ _ ⟨k, a0_0, l0_1, l0_2, a1, r1, r2, r3, rfl, h, rfl⟩
  refine ⟨⟨Try.f55, bodyOf Try.f55, Try.func55, by kernel_rfl, by kernel_rfl⟩, fun W S cs hcs => ?_⟩
  obtain _ | ⟨v0, cs⟩ := cs
  · exact hcs.elim
  obtain ⟨h0, hcs⟩ := hcs
  obtain _ | ⟨v1, cs⟩ := cs
  · exact hcs.elim
  obtain ⟨h1, hcs⟩ := hcs
  obtain _ | ⟨_, cs⟩ := cs
  case cons => exact hcs.elim
  obtain ⟨xs0, rfl, hx0, _⟩ := h0
  obtain _ | ⟨w0_0, xs0⟩ := xs0
  · exact hx0.elim
  obtain ⟨g0_0, hx0⟩ := hx0
  obtain rfl := g0_0
  obtain _ | ⟨w0_1, xs0⟩ := xs0
  · exact hx0.elim
  obtain ⟨g0_1, hx0⟩ := hx0
  obtain ⟨A0_1, c0_1, rfl, hc0_1, hr0_1⟩ := g0_1
  obtain _ | ⟨w0_2, xs0⟩ := xs0
  · exact hx0.elim
  obtain ⟨g0_2, hx0⟩ := hx0
  obtain ⟨A0_2, c0_2, rfl, hc0_2, hr0_2⟩ := g0_2
  obtain _ | ⟨_, xs0⟩ := xs0
  case cons => exact hx0.elim
  obtain rfl := h1
  exact (steelyardref08_wide.calls k a0_0 A0_1 c0_1 l0_1 A0_2 c0_2 l0_2 a1 r1 r2 r3 W (Kd.F_now hr0_1) hc0_1 (Kd.F_now hr0_2) hc0_2 h).mono fun e W' ⟨v1_, v2_, he, qv1_, qv2_, hb⟩ => ⟨_, he, ⟨[.bool r1, v1_, v2_], rfl, ⟨rfl, (rep_R qv1_), (rep_R qv2_), trivial⟩, by intro v hv; simp only [List.mem_cons, List.not_mem_nil, or_false] at hv; (rcases hv with rfl | rfl | rfl; exact rfl; exact one_R qv1_; exact one_R qv2_)⟩, hb⟩
def steelyardref01_Bits.R (us : List U) (u : U) : Prop := ∃ (k : Nat) (l0 : List Int) (r : Int), us = [.l l0] ∧ steelyardref01_Bits.f k l0 = some r ∧ u = .v (.int .i64 r)
theorem steelyardref01_Bits.I {k : Nat} {l0 : List Int} {r : Int} (h : steelyardref01_Bits.f k l0 = some r) : steelyardref01_Bits.R [.l l0] (.v (.int .i64 r)) := ⟨_, _, _, rfl, h, rfl⟩
theorem steelyardref01_Bits.J {k : Nat} {l0 : List Int} {r : Int} (h : steelyardref01_Bits.f k l0 = some r) {us : List U} (hus : us = [.l l0]) : steelyardref01_Bits.R us (.v (.int .i64 r)) := ⟨_, _, _, hus, h, rfl⟩
theorem steelyardref01_Bits.E {β : Type} {k : Nat} {l0 : List Int} {g : Int → Option β} {z : β} {Q : Prop} (h : (steelyardref01_Bits.f k l0).bind g = some z) (c : ∀ (r : Int), steelyardref01_Bits.f k l0 = some r → g r = some z → Q) : Q := by
  obtain ⟨p, h1, h2⟩ := Option.bind_eq_some_iff.1 h
  exact c p h1 h2
theorem steelyardref01_Bits.sound : SoundF Try.prog 68 steelyardref01_Bits.R := by
  rintro _ _ ⟨k, l0, r, rfl, h, rfl⟩
  refine ⟨⟨Try.f68, bodyOf Try.f68, Try.func68, by kernel_rfl, by kernel_rfl⟩, fun W S cs hcs => ?_⟩
  obtain _ | ⟨v0, cs⟩ := cs
  · exact hcs.elim
  obtain ⟨h0, hcs⟩ := hcs
  obtain _ | ⟨_, cs⟩ := cs
  case cons => exact hcs.elim
  obtain ⟨A0, c0, rfl, hc0, hr0⟩ := h0
  exact (steelyardref01_Bits.calls k A0 c0 l0 r W (Kd.F_now hr0) hc0 h).mono fun e W' ⟨he, hd⟩ => ⟨_, he, rfl, below_drawn hd⟩
def steelyardref05_Ten.R (us : List U) (u : U) : Prop := ∃ (k : Nat) (a0 : Int) (r : List Int), us = [.v (.int .i64 a0)] ∧ steelyardref05_Ten.f k a0 = some r ∧ u = .l r
theorem steelyardref05_Ten.I {k : Nat} {a0 : Int} {r : List Int} (h : steelyardref05_Ten.f k a0 = some r) : steelyardref05_Ten.R [.v (.int .i64 a0)] (.l r) := ⟨_, _, _, rfl, h, rfl⟩
theorem steelyardref05_Ten.J {k : Nat} {a0 : Int} {r : List Int} (h : steelyardref05_Ten.f k a0 = some r) {us : List U} (hus : us = [.v (.int .i64 a0)]) : steelyardref05_Ten.R us (.l r) := ⟨_, _, _, hus, h, rfl⟩
theorem steelyardref05_Ten.E {β : Type} {k : Nat} {a0 : Int} {g : List Int → Option β} {z : β} {Q : Prop} (h : (steelyardref05_Ten.f k a0).bind g = some z) (c : ∀ (r : List Int), steelyardref05_Ten.f k a0 = some r → g r = some z → Q) : Q := by
  obtain ⟨p, h1, h2⟩ := Option.bind_eq_some_iff.1 h
  exact c p h1 h2
theorem steelyardref05_Ten.sound : SoundF Try.prog 59 steelyardref05_Ten.R := by
  rintro _ _ ⟨k, a0, r, rfl, h, rfl⟩
  refine ⟨⟨Try.f59, bodyOf Try.f59, Try.func59, by kernel_rfl, by kernel_rfl⟩, fun W S cs hcs => ?_⟩
  obtain _ | ⟨v0, cs⟩ := cs
  · exact hcs.elim
  obtain ⟨h0, hcs⟩ := hcs
  obtain _ | ⟨_, cs⟩ := cs
  case cons => exact hcs.elim
  obtain rfl := h0
  exact (steelyardref05_Ten.calls k a0 r W h).mono fun e W' ⟨v0_, he, qv0_, hb⟩ => ⟨_, he, (rep_R qv0_), hb⟩
def steelyardkeep_OwnNat.R (us : List U) (u : U) : Prop := ∃ (l0 : List Int) (r : List Int), us = [.l l0] ∧ steelyardkeep_OwnNat.f l0 = some r ∧ u = .l r
theorem steelyardkeep_OwnNat.I {l0 : List Int} {r : List Int} (h : steelyardkeep_OwnNat.f l0 = some r) : steelyardkeep_OwnNat.R [.l l0] (.l r) := ⟨_, _, rfl, h, rfl⟩
theorem steelyardkeep_OwnNat.J {l0 : List Int} {r : List Int} (h : steelyardkeep_OwnNat.f l0 = some r) {us : List U} (hus : us = [.l l0]) : steelyardkeep_OwnNat.R us (.l r) := ⟨_, _, hus, h, rfl⟩
theorem steelyardkeep_OwnNat.E {β : Type} {l0 : List Int} {g : List Int → Option β} {z : β} {Q : Prop} (h : (steelyardkeep_OwnNat.f l0).bind g = some z) (c : ∀ (r : List Int), steelyardkeep_OwnNat.f l0 = some r → g r = some z → Q) : Q := by
  obtain ⟨p, h1, h2⟩ := Option.bind_eq_some_iff.1 h
  exact c p h1 h2
theorem steelyardkeep_OwnNat.sound : SoundF Try.prog 26 steelyardkeep_OwnNat.R := by
  rintro _ _ ⟨l0, r, rfl, h, rfl⟩
  refine ⟨⟨Try.f26, bodyOf Try.f26, Try.func26, by kernel_rfl, by kernel_rfl⟩, fun W S cs hcs => ?_⟩
  obtain _ | ⟨v0, cs⟩ := cs
  · exact hcs.elim
  obtain ⟨h0, hcs⟩ := hcs
  obtain _ | ⟨_, cs⟩ := cs
  case cons => exact hcs.elim
  obtain ⟨A0, c0, rfl, hc0, hr0⟩ := h0
  exact (steelyardkeep_OwnNat.calls A0 c0 l0 r W (Kd.F_now hr0) hc0 h).mono fun e W' ⟨v0_, he, qv0_, hb⟩ => ⟨_, he, (rep_R qv0_), hb⟩
end Go.Proofs.Yticngjjdjmadgaa.PL
end
section
set_option linter.unusedVariables false
set_option linter.unusedSimpArgs false
namespace Go.Proofs.Yticngjjdjmadgaa.PU
open Go Go.RowKit Go.Proofs.YticngjjdjmadgaaW.PrintWords Go.Proofs.YticngjjdjmadgaaW.PrintMore Go.Proofs.Yticngjjdjmadgaa.Den Go.Proofs.Yticngjjdjmadgaa.PL
def whole_made.R (us : List U) (u : U) : Prop := ∃ (k : Nat) (a0 : Bool) (l1 : List Int) (r1 : Bool) (r2 : List Int), us = [.v (.bool a0), .l l1] ∧ whole_made.f k a0 l1 = some (r1, r2) ∧ u = .agg [.v (.bool r1), .l r2]
theorem whole_made.I {k : Nat} {a0 : Bool} {l1 : List Int} {r1 : Bool} {r2 : List Int} (h : whole_made.f k a0 l1 = some (r1, r2)) : whole_made.R [.v (.bool a0), .l l1] (.agg [.v (.bool r1), .l r2]) := ⟨_, _, _, _, _, rfl, h, rfl⟩
theorem whole_made.J {k : Nat} {a0 : Bool} {l1 : List Int} {r1 : Bool} {r2 : List Int} (h : whole_made.f k a0 l1 = some (r1, r2)) {us : List U} (hus : us = [.v (.bool a0), .l l1]) : whole_made.R us (.agg [.v (.bool r1), .l r2]) := ⟨_, _, _, _, _, hus, h, rfl⟩
theorem whole_made.E {β : Type} {k : Nat} {a0 : Bool} {l1 : List Int} {g : Bool × List Int → Option β} {z : β} {Q : Prop} (h : (whole_made.f k a0 l1).bind g = some z) (c : ∀ (r1 : Bool) (r2 : List Int), whole_made.f k a0 l1 = some (r1, r2) → g (r1, r2) = some z → Q) : Q := by
  obtain ⟨p, h1, h2⟩ := Option.bind_eq_some_iff.1 h
  exact c p.1 p.2 h1 h2
set_option maxHeartbeats 4000000 in
set_option maxRecDepth 100000 in
theorem whole_made.body {D : Dat} {C : Orc} (hD : D = real) (h65 : ∀ us u, nat_Trim.R us u → C 65 us u) {us : List U} {u : U} (hR : whole_made.R us u) {Q : Prop} (hQ : body tys D C Try.f92 us u = Q) : Q := by
  obtain ⟨k, a0, l1, r1, r2, rfl, h, hu⟩ := hR
  obtain ⟨len, add, sub, mul, rem, neg, conv, max, eq, ne, lt, le, nth, zeros, copy, cpd, bor⟩ := D
  simp only [real, Dat.mk.injEq] at hD
  obtain ⟨elen, eadd, esub, emul, erem, eneg, econv, emax, eeq, ene, elt, ele, enth, ezeros, ecopy, ecpd, ebor⟩ := hD
  have hE := And.intro elen (And.intro eadd (And.intro esub (And.intro emul (And.intro erem (And.intro eneg (And.intro econv (And.intro ebor (And.intro emax (And.intro eeq (And.intro ene (And.intro elt ele)))))))))))
  obtain ⟨zz, hzz, hzc⟩ := zrow elen ezeros ecopy
  cases a0 <;>
  unfold whole_made.f at h <;>
  (repeat' first
    | (simp (maxSteps := 2000000) only [↓reduceIte, Bool.false_eq_true, Bool.not_true, Bool.not_false, reduceCtorEq, b00, b01, b10, b11, n00, n01, n10, n11] at h; done)
    | (simp (maxSteps := 2000000) only [↓reduceIte, Bool.false_eq_true, Bool.not_true, Bool.not_false, Option.bind_some, splice_self, b00, b01, b10, b11, n00, n01, n10, n11] at h)
    | (with_reducible refine nat_Trim.E h ?_; clear h; rintro _ _ h)
    | (simp (maxSteps := 2000000) only [↓reduceIte, Bool.false_eq_true, Bool.not_true, Bool.not_false, reduceCtorEq, decide_eq_true_eq, bne_iff_ne, ne_eq, beq_iff_eq, Option.bind_some, splice_self, b00, b01, b10, b11, n00, n01, n10, n11] at h)
    | (with_reducible refine iteE h ?_ ?_ <;> clear h <;> intro _ h)
    | (split at h)) <;>
  (injection h with h) <;>
  (try simp only [Prod.mk.injEq] at h) <;>
  (obtain ⟨rfl, rfl⟩ := h) <;>
  (rw [← hQ]; clear hQ) <;>
  (cbv) <;>
  (repeat first
    | (rw [hzc])
    | ((rw [hzz]); rotate_left; (· first | assumption | omega); cbv)
    | ((with_reducible refine E2 (h65 _ _ (nat_Trim.I ‹_›)) ?_); cbv)
    | ((with_reducible apply E2); (· with_reducible apply h65; simp only [hE, w64, mxE]; exact nat_Trim.I ‹_›); cbv)
    | ((with_reducible refine E2 (h65 _ _ (nat_Trim.J ‹nat_Trim.f _ _ = some _› ?_)) ?_); (· simp only [hE, w64, mxE]; try rfl); cbv)
    | ((with_reducible refine t1 ?_ ?_); (· (simp only [hE, w64, decide_eq_true_eq, decide_eq_false_iff_not]; first | assumption | omega)); intro hb_; (try simp only [hb_]); cbv)
    | ((with_reducible refine t2 ?_ ?_); (· (simp only [hE, w64, decide_eq_true_eq, decide_eq_false_iff_not]; first | assumption | omega)); intro hb_; (try simp only [hb_]); cbv)
    | ((with_reducible refine t3 ?_ ?_); (· (simp only [hE, w64, decide_eq_true_eq, decide_eq_false_iff_not]; first | assumption | omega)); intro hb_; (try simp only [hb_]); cbv)
    | ((with_reducible refine t4 ?_ ?_); (· (simp only [hE, w64, decide_eq_true_eq, decide_eq_false_iff_not]; first | assumption | omega)); intro hb_; (try simp only [hb_]); cbv)
    | (rw [hu]; done)
    | (rw [hu]; simp only [hE, w64]; done)
    | (rw [hu]; simp only [hE, w64]; rfl)
    | (rw [hu]; simp only [hE, w64, Option.some.injEq, U.agg.injEq, U.tup.injEq, U.v.injEq, List.cons.injEq, Value.bool.injEq, and_true, true_and, decide_eq_true_eq, decide_eq_false_iff_not]; first | assumption | omega))
theorem whole_made.sound : SoundF Try.prog 92 whole_made.R :=
  Den.sound (l := [(65, nat_Trim.R)]) (orc_cons nat_Trim.sound (orc_nil)) Try.func92 (by kernel_rfl) (by kernel_rfl) (by decide +kernel) fun _ _ hR => whole_made.body rfl (fun _ _ h => (.inl ⟨rfl, h⟩)) hR rfl
end Go.Proofs.Yticngjjdjmadgaa.PU
end
section
set_option linter.unusedVariables false
set_option linter.unusedSimpArgs false
namespace Go.Proofs.Yticngjjdjmadgaa.PU
open Go Go.RowKit Go.Proofs.YticngjjdjmadgaaW.PrintWords Go.Proofs.YticngjjdjmadgaaW.PrintMore Go.Proofs.Yticngjjdjmadgaa.Den Go.Proofs.Yticngjjdjmadgaa.PL
def whole_Trim.R (us : List U) (u : U) : Prop := ∃ (k : Nat) (a0_0 : Bool) (l0_1 : List Int) (r1 : Bool) (r2 : List Int), us = [.agg [.v (.bool a0_0), .l l0_1]] ∧ whole_Trim.f k a0_0 l0_1 = some (r1, r2) ∧ u = .agg [.v (.bool r1), .l r2]
theorem whole_Trim.I {k : Nat} {a0_0 : Bool} {l0_1 : List Int} {r1 : Bool} {r2 : List Int} (h : whole_Trim.f k a0_0 l0_1 = some (r1, r2)) : whole_Trim.R [.agg [.v (.bool a0_0), .l l0_1]] (.agg [.v (.bool r1), .l r2]) := ⟨_, _, _, _, _, rfl, h, rfl⟩
theorem whole_Trim.J {k : Nat} {a0_0 : Bool} {l0_1 : List Int} {r1 : Bool} {r2 : List Int} (h : whole_Trim.f k a0_0 l0_1 = some (r1, r2)) {us : List U} (hus : us = [.agg [.v (.bool a0_0), .l l0_1]]) : whole_Trim.R us (.agg [.v (.bool r1), .l r2]) := ⟨_, _, _, _, _, hus, h, rfl⟩
theorem whole_Trim.E {β : Type} {k : Nat} {a0_0 : Bool} {l0_1 : List Int} {g : Bool × List Int → Option β} {z : β} {Q : Prop} (h : (whole_Trim.f k a0_0 l0_1).bind g = some z) (c : ∀ (r1 : Bool) (r2 : List Int), whole_Trim.f k a0_0 l0_1 = some (r1, r2) → g (r1, r2) = some z → Q) : Q := by
  obtain ⟨p, h1, h2⟩ := Option.bind_eq_some_iff.1 h
  exact c p.1 p.2 h1 h2
set_option maxHeartbeats 4000000 in
set_option maxRecDepth 100000 in
theorem whole_Trim.body {D : Dat} {C : Orc} (hD : D = real) (h92 : ∀ us u, whole_made.R us u → C 92 us u) {us : List U} {u : U} (hR : whole_Trim.R us u) {Q : Prop} (hQ : body tys D C Try.f64 us u = Q) : Q := by
  obtain ⟨k, a0_0, l0_1, r1, r2, rfl, h, hu⟩ := hR
  obtain ⟨len, add, sub, mul, rem, neg, conv, max, eq, ne, lt, le, nth, zeros, copy, cpd, bor⟩ := D
  simp only [real, Dat.mk.injEq] at hD
  obtain ⟨elen, eadd, esub, emul, erem, eneg, econv, emax, eeq, ene, elt, ele, enth, ezeros, ecopy, ecpd, ebor⟩ := hD
  have hE := And.intro elen (And.intro eadd (And.intro esub (And.intro emul (And.intro erem (And.intro eneg (And.intro econv (And.intro ebor (And.intro emax (And.intro eeq (And.intro ene (And.intro elt ele)))))))))))
  cases a0_0 <;>
  unfold whole_Trim.f at h <;>
  (repeat' first
    | (simp (maxSteps := 2000000) only [↓reduceIte, Bool.false_eq_true, Bool.not_true, Bool.not_false, reduceCtorEq, b00, b01, b10, b11, n00, n01, n10, n11] at h; done)
    | (simp (maxSteps := 2000000) only [↓reduceIte, Bool.false_eq_true, Bool.not_true, Bool.not_false, Option.bind_some, splice_self, b00, b01, b10, b11, n00, n01, n10, n11] at h)
    | (with_reducible refine whole_made.E h ?_; clear h; rintro _ _ _ h)
    | (simp (maxSteps := 2000000) only [↓reduceIte, Bool.false_eq_true, Bool.not_true, Bool.not_false, reduceCtorEq, decide_eq_true_eq, bne_iff_ne, ne_eq, beq_iff_eq, Option.bind_some, splice_self, b00, b01, b10, b11, n00, n01, n10, n11] at h)
    | (with_reducible refine iteE h ?_ ?_ <;> clear h <;> intro _ h)
    | (split at h)) <;>
  (injection h with h) <;>
  (try simp only [Prod.mk.injEq] at h) <;>
  (obtain ⟨rfl, rfl⟩ := h) <;>
  (rw [← hQ]; clear hQ) <;>
  (cbv) <;>
  (repeat first
    | ((with_reducible refine E2 (h92 _ _ (whole_made.I ‹_›)) ?_); cbv)
    | ((with_reducible apply E2); (· with_reducible apply h92; simp only [hE, w64, mxE]; exact whole_made.I ‹_›); cbv)
    | ((with_reducible refine E2 (h92 _ _ (whole_made.J ‹whole_made.f _ _ _ = some _› ?_)) ?_); (· simp only [hE, w64, mxE]; try rfl); cbv)
    | (rw [hu]; done)
    | (rw [hu]; simp only [hE, w64]; done)
    | (rw [hu]; simp only [hE, w64]; rfl)
    | (rw [hu]; simp only [hE, w64, Option.some.injEq, U.agg.injEq, U.tup.injEq, U.v.injEq, List.cons.injEq, Value.bool.injEq, and_true, true_and, decide_eq_true_eq, decide_eq_false_iff_not]; first | assumption | omega))
theorem whole_Trim.sound : SoundF Try.prog 64 whole_Trim.R :=
  Den.sound (l := [(92, whole_made.R)]) (orc_cons whole_made.sound (orc_nil)) Try.func64 (by kernel_rfl) (by kernel_rfl) (by decide +kernel) fun _ _ hR => whole_Trim.body rfl (fun _ _ h => (.inl ⟨rfl, h⟩)) hR rfl
end Go.Proofs.Yticngjjdjmadgaa.PU
end
section
set_option linter.unusedVariables false
set_option linter.unusedSimpArgs false
namespace Go.Proofs.Yticngjjdjmadgaa.PU
open Go Go.RowKit Go.Proofs.YticngjjdjmadgaaW.PrintWords Go.Proofs.YticngjjdjmadgaaW.PrintMore Go.Proofs.Yticngjjdjmadgaa.Den Go.Proofs.Yticngjjdjmadgaa.PL
def rat_Of.R (us : List U) (u : U) : Prop := ∃ (k : Nat) (a0_0 : Bool) (l0_1 : List Int) (l1 : List Int) (r1 : Bool) (r2 : List Int) (r3 : List Int) (r4 : Int), us = [.agg [.v (.bool a0_0), .l l0_1], .l l1] ∧ rat_Of.f k a0_0 l0_1 l1 = some (r1, r2, r3, r4) ∧ u = .tup [.agg [.v (.bool r1), .l r2, .l r3], .v (.int .i64 r4)]
theorem rat_Of.I {k : Nat} {a0_0 : Bool} {l0_1 : List Int} {l1 : List Int} {r1 : Bool} {r2 : List Int} {r3 : List Int} {r4 : Int} (h : rat_Of.f k a0_0 l0_1 l1 = some (r1, r2, r3, r4)) : rat_Of.R [.agg [.v (.bool a0_0), .l l0_1], .l l1] (.tup [.agg [.v (.bool r1), .l r2, .l r3], .v (.int .i64 r4)]) := ⟨_, _, _, _, _, _, _, _, rfl, h, rfl⟩
theorem rat_Of.J {k : Nat} {a0_0 : Bool} {l0_1 : List Int} {l1 : List Int} {r1 : Bool} {r2 : List Int} {r3 : List Int} {r4 : Int} (h : rat_Of.f k a0_0 l0_1 l1 = some (r1, r2, r3, r4)) {us : List U} (hus : us = [.agg [.v (.bool a0_0), .l l0_1], .l l1]) : rat_Of.R us (.tup [.agg [.v (.bool r1), .l r2, .l r3], .v (.int .i64 r4)]) := ⟨_, _, _, _, _, _, _, _, hus, h, rfl⟩
theorem rat_Of.E {β : Type} {k : Nat} {a0_0 : Bool} {l0_1 : List Int} {l1 : List Int} {g : Bool × List Int × List Int × Int → Option β} {z : β} {Q : Prop} (h : (rat_Of.f k a0_0 l0_1 l1).bind g = some z) (c : ∀ (r1 : Bool) (r2 : List Int) (r3 : List Int) (r4 : Int), rat_Of.f k a0_0 l0_1 l1 = some (r1, r2, r3, r4) → g (r1, r2, r3, r4) = some z → Q) : Q := by
  obtain ⟨p, h1, h2⟩ := Option.bind_eq_some_iff.1 h
  exact c p.1 p.2.1 p.2.2.1 p.2.2.2 h1 h2
set_option maxHeartbeats 4000000 in
set_option maxRecDepth 100000 in
theorem rat_Of.body {D : Dat} {C : Orc} (hD : D = real) (h64 : ∀ us u, whole_Trim.R us u → C 64 us u) (h65 : ∀ us u, nat_Trim.R us u → C 65 us u) (h66 : ∀ us u, quo_Gcd.R us u → C 66 us u) (h67 : ∀ us u, quo_Rem.R us u → C 67 us u) {us : List U} {u : U} (hR : rat_Of.R us u) {Q : Prop} (hQ : body tys D C Try.f24 us u = Q) : Q := by
  obtain ⟨k, a0_0, l0_1, l1, r1, r2, r3, r4, rfl, h, hu⟩ := hR
  obtain ⟨len, add, sub, mul, rem, neg, conv, max, eq, ne, lt, le, nth, zeros, copy, cpd, bor⟩ := D
  simp only [real, Dat.mk.injEq] at hD
  obtain ⟨elen, eadd, esub, emul, erem, eneg, econv, emax, eeq, ene, elt, ele, enth, ezeros, ecopy, ecpd, ebor⟩ := hD
  have hE := And.intro elen (And.intro eadd (And.intro esub (And.intro emul (And.intro erem (And.intro eneg (And.intro econv (And.intro ebor (And.intro emax (And.intro eeq (And.intro ene (And.intro elt ele)))))))))))
  cases a0_0 <;>
  unfold rat_Of.f at h <;>
  (repeat' first
    | (simp (maxSteps := 2000000) only [↓reduceIte, Bool.false_eq_true, Bool.not_true, Bool.not_false, reduceCtorEq, b00, b01, b10, b11, n00, n01, n10, n11] at h; done)
    | (simp (maxSteps := 2000000) only [↓reduceIte, Bool.false_eq_true, Bool.not_true, Bool.not_false, Option.bind_some, splice_self, b00, b01, b10, b11, n00, n01, n10, n11] at h)
    | (with_reducible refine whole_Trim.E h ?_; clear h; rintro _ _ _ h)
    | (with_reducible refine nat_Trim.E h ?_; clear h; rintro _ _ h)
    | (with_reducible refine quo_Gcd.E h ?_; clear h; rintro _ _ h)
    | (rw [‹quo_Rem.f _ _ _ = some _›] at h; simp only [Option.bind_some] at h)
    | (with_reducible refine quo_Rem.E h ?_; clear h; rintro _ _ _ _ h)
    | (simp (maxSteps := 2000000) only [↓reduceIte, Bool.false_eq_true, Bool.not_true, Bool.not_false, reduceCtorEq, decide_eq_true_eq, bne_iff_ne, ne_eq, beq_iff_eq, Option.bind_some, splice_self, b00, b01, b10, b11, n00, n01, n10, n11] at h)
    | (with_reducible refine iteE h ?_ ?_ <;> clear h <;> intro _ h)
    | (split at h)) <;>
  (injection h with h) <;>
  (try simp only [Prod.mk.injEq] at h) <;>
  (obtain ⟨rfl, rfl, rfl, rfl⟩ := h) <;>
  (rw [← hQ]; clear hQ) <;>
  (cbv) <;>
  (repeat first
    | ((with_reducible refine E2 (h64 _ _ (whole_Trim.I ‹_›)) ?_); cbv)
    | ((with_reducible apply E2); (· with_reducible apply h64; simp only [hE, w64, mxE]; exact whole_Trim.I ‹_›); cbv)
    | ((with_reducible refine E2 (h64 _ _ (whole_Trim.J ‹whole_Trim.f _ _ _ = some _› ?_)) ?_); (· simp only [hE, w64, mxE]; try rfl); cbv)
    | ((with_reducible refine E2 (h65 _ _ (nat_Trim.I ‹_›)) ?_); cbv)
    | ((with_reducible apply E2); (· with_reducible apply h65; simp only [hE, w64, mxE]; exact nat_Trim.I ‹_›); cbv)
    | ((with_reducible refine E2 (h65 _ _ (nat_Trim.J ‹nat_Trim.f _ _ = some _› ?_)) ?_); (· simp only [hE, w64, mxE]; try rfl); cbv)
    | ((with_reducible refine E2 (h66 _ _ (quo_Gcd.I ‹_›)) ?_); cbv)
    | ((with_reducible apply E2); (· with_reducible apply h66; simp only [hE, w64, mxE]; exact quo_Gcd.I ‹_›); cbv)
    | ((with_reducible refine E2 (h66 _ _ (quo_Gcd.J ‹quo_Gcd.f _ _ _ = some _› ?_)) ?_); (· simp only [hE, w64, mxE]; try rfl); cbv)
    | ((with_reducible refine E2 (h67 _ _ (quo_Rem.I ‹_›)) ?_); cbv)
    | ((with_reducible apply E2); (· with_reducible apply h67; simp only [hE, w64, mxE]; exact quo_Rem.I ‹_›); cbv)
    | ((with_reducible refine E2 (h67 _ _ (quo_Rem.J ‹quo_Rem.f _ _ _ = some _› ?_)) ?_); (· simp only [hE, w64, mxE]; try rfl); cbv)
    | ((with_reducible refine t1 ?_ ?_); (· (simp only [hE, w64, decide_eq_true_eq, decide_eq_false_iff_not]; first | assumption | omega)); intro hb_; (try simp only [hb_]); cbv)
    | ((with_reducible refine t2 ?_ ?_); (· (simp only [hE, w64, decide_eq_true_eq, decide_eq_false_iff_not]; first | assumption | omega)); intro hb_; (try simp only [hb_]); cbv)
    | ((with_reducible refine t3 ?_ ?_); (· (simp only [hE, w64, decide_eq_true_eq, decide_eq_false_iff_not]; first | assumption | omega)); intro hb_; (try simp only [hb_]); cbv)
    | ((with_reducible refine t4 ?_ ?_); (· (simp only [hE, w64, decide_eq_true_eq, decide_eq_false_iff_not]; first | assumption | omega)); intro hb_; (try simp only [hb_]); cbv)
    | (rw [hu]; done)
    | (rw [hu]; simp only [hE, w64]; done)
    | (rw [hu]; simp only [hE, w64]; rfl)
    | (rw [hu]; simp only [hE, w64, Option.some.injEq, U.agg.injEq, U.tup.injEq, U.v.injEq, List.cons.injEq, Value.bool.injEq, and_true, true_and, decide_eq_true_eq, decide_eq_false_iff_not]; first | assumption | omega))
theorem rat_Of.sound : SoundF Try.prog 24 rat_Of.R :=
  Den.sound (l := [(64, whole_Trim.R), (65, nat_Trim.R), (66, quo_Gcd.R), (67, quo_Rem.R)]) (orc_cons whole_Trim.sound (orc_cons nat_Trim.sound (orc_cons quo_Gcd.sound (orc_cons quo_Rem.sound (orc_nil))))) Try.func24 (by kernel_rfl) (by kernel_rfl) (by decide +kernel) fun _ _ hR => rat_Of.body rfl (fun _ _ h => (.inl ⟨rfl, h⟩)) (fun _ _ h => (.inr (.inl ⟨rfl, h⟩))) (fun _ _ h => (.inr (.inr (.inl ⟨rfl, h⟩)))) (fun _ _ h => (.inr (.inr (.inr (.inl ⟨rfl, h⟩))))) hR rfl
end Go.Proofs.Yticngjjdjmadgaa.PU
end
section
set_option linter.unusedVariables false
set_option linter.unusedSimpArgs false
namespace Go.Proofs.Yticngjjdjmadgaa.PU
open Go Go.RowKit Go.Proofs.YticngjjdjmadgaaW.PrintWords Go.Proofs.YticngjjdjmadgaaW.PrintMore Go.Proofs.Yticngjjdjmadgaa.Den Go.Proofs.Yticngjjdjmadgaa.PL
def rat_Good.R (us : List U) (u : U) : Prop := ∃ (k : Nat) (a0_0 : Bool) (l0_1 : List Int) (l0_2 : List Int) (r : Bool), us = [.agg [.v (.bool a0_0), .l l0_1, .l l0_2]] ∧ rat_Good.f k a0_0 l0_1 l0_2 = some r ∧ u = .v (.bool r)
theorem rat_Good.I {k : Nat} {a0_0 : Bool} {l0_1 : List Int} {l0_2 : List Int} {r : Bool} (h : rat_Good.f k a0_0 l0_1 l0_2 = some r) : rat_Good.R [.agg [.v (.bool a0_0), .l l0_1, .l l0_2]] (.v (.bool r)) := ⟨_, _, _, _, _, rfl, h, rfl⟩
theorem rat_Good.J {k : Nat} {a0_0 : Bool} {l0_1 : List Int} {l0_2 : List Int} {r : Bool} (h : rat_Good.f k a0_0 l0_1 l0_2 = some r) {us : List U} (hus : us = [.agg [.v (.bool a0_0), .l l0_1, .l l0_2]]) : rat_Good.R us (.v (.bool r)) := ⟨_, _, _, _, _, hus, h, rfl⟩
theorem rat_Good.E {β : Type} {k : Nat} {a0_0 : Bool} {l0_1 : List Int} {l0_2 : List Int} {g : Bool → Option β} {z : β} {Q : Prop} (h : (rat_Good.f k a0_0 l0_1 l0_2).bind g = some z) (c : ∀ (r : Bool), rat_Good.f k a0_0 l0_1 l0_2 = some r → g r = some z → Q) : Q := by
  obtain ⟨p, h1, h2⟩ := Option.bind_eq_some_iff.1 h
  exact c p h1 h2
set_option maxHeartbeats 4000000 in
set_option maxRecDepth 100000 in
theorem rat_Good.body {D : Dat} {C : Orc} (hD : D = real) (h52 : ∀ us u, nat_Of.R us u → C 52 us u) (h66 : ∀ us u, quo_Gcd.R us u → C 66 us u) (h70 : ∀ us u, rat_trimmed.R us u → C 70 us u) (h71 : ∀ us u, nat_Cmp.R us u → C 71 us u) {us : List U} {u : U} (hR : rat_Good.R us u) {Q : Prop} (hQ : body tys D C Try.f28 us u = Q) : Q := by
  obtain ⟨k, a0_0, l0_1, l0_2, r, rfl, h, hu⟩ := hR
  obtain ⟨len, add, sub, mul, rem, neg, conv, max, eq, ne, lt, le, nth, zeros, copy, cpd, bor⟩ := D
  simp only [real, Dat.mk.injEq] at hD
  obtain ⟨elen, eadd, esub, emul, erem, eneg, econv, emax, eeq, ene, elt, ele, enth, ezeros, ecopy, ecpd, ebor⟩ := hD
  have hE := And.intro elen (And.intro eadd (And.intro esub (And.intro emul (And.intro erem (And.intro eneg (And.intro econv (And.intro ebor (And.intro emax (And.intro eeq (And.intro ene (And.intro elt ele)))))))))))
  cases a0_0 <;>
  unfold rat_Good.f at h <;>
  (repeat' first
    | (simp (maxSteps := 2000000) only [↓reduceIte, Bool.false_eq_true, Bool.not_true, Bool.not_false, reduceCtorEq, b00, b01, b10, b11, n00, n01, n10, n11] at h; done)
    | (simp (maxSteps := 2000000) only [↓reduceIte, Bool.false_eq_true, Bool.not_true, Bool.not_false, Option.bind_some, splice_self, b00, b01, b10, b11, n00, n01, n10, n11] at h)
    | (with_reducible refine nat_Of.E h ?_; clear h; rintro _ _ h)
    | (with_reducible refine quo_Gcd.E h ?_; clear h; rintro _ _ h)
    | (rw [‹rat_trimmed.f _ = some _›] at h; simp only [Option.bind_some] at h)
    | (with_reducible refine rat_trimmed.E h ?_; clear h; rintro (_ | _) _ h)
    | (with_reducible refine nat_Cmp.E h ?_; clear h; rintro _ _ h)
    | (unfold rat_Good.j0 at h)
    | (simp (maxSteps := 2000000) only [↓reduceIte, Bool.false_eq_true, Bool.not_true, Bool.not_false, reduceCtorEq, decide_eq_true_eq, bne_iff_ne, ne_eq, beq_iff_eq, Option.bind_some, splice_self, b00, b01, b10, b11, n00, n01, n10, n11] at h)
    | (with_reducible refine iteE h ?_ ?_ <;> clear h <;> intro _ h)
    | (split at h)) <;>
  (injection h with h) <;>
  (try simp only [Prod.mk.injEq] at h) <;>
  (subst h) <;>
  (rw [← hQ]; clear hQ) <;>
  (cbv) <;>
  (repeat first
    | ((with_reducible refine E2 (h52 _ _ (nat_Of.I ‹_›)) ?_); cbv)
    | ((with_reducible apply E2); (· with_reducible apply h52; simp only [hE, w64, mxE]; exact nat_Of.I ‹_›); cbv)
    | ((with_reducible refine E2 (h52 _ _ (nat_Of.J ‹nat_Of.f _ _ = some _› ?_)) ?_); (· simp only [hE, w64, mxE]; try rfl); cbv)
    | ((with_reducible refine E2 (h66 _ _ (quo_Gcd.I ‹_›)) ?_); cbv)
    | ((with_reducible apply E2); (· with_reducible apply h66; simp only [hE, w64, mxE]; exact quo_Gcd.I ‹_›); cbv)
    | ((with_reducible refine E2 (h66 _ _ (quo_Gcd.J ‹quo_Gcd.f _ _ _ = some _› ?_)) ?_); (· simp only [hE, w64, mxE]; try rfl); cbv)
    | ((with_reducible refine E2 (h70 _ _ (rat_trimmed.I ‹_›)) ?_); cbv)
    | ((with_reducible apply E2); (· with_reducible apply h70; simp only [hE, w64, mxE]; exact rat_trimmed.I ‹_›); cbv)
    | ((with_reducible refine E2 (h70 _ _ (rat_trimmed.J ‹rat_trimmed.f _ = some _› ?_)) ?_); (· simp only [hE, w64, mxE]; try rfl); cbv)
    | ((with_reducible refine E2 (h71 _ _ (nat_Cmp.I ‹_›)) ?_); cbv)
    | ((with_reducible apply E2); (· with_reducible apply h71; simp only [hE, w64, mxE]; exact nat_Cmp.I ‹_›); cbv)
    | ((with_reducible refine E2 (h71 _ _ (nat_Cmp.J ‹nat_Cmp.f _ _ _ = some _› ?_)) ?_); (· simp only [hE, w64, mxE]; try rfl); cbv)
    | ((with_reducible refine t1 ?_ ?_); (· (simp only [hE, w64, decide_eq_true_eq, decide_eq_false_iff_not]; first | assumption | omega)); intro hb_; (try simp only [hb_]); cbv)
    | ((with_reducible refine t2 ?_ ?_); (· (simp only [hE, w64, decide_eq_true_eq, decide_eq_false_iff_not]; first | assumption | omega)); intro hb_; (try simp only [hb_]); cbv)
    | ((with_reducible refine t3 ?_ ?_); (· (simp only [hE, w64, decide_eq_true_eq, decide_eq_false_iff_not]; first | assumption | omega)); intro hb_; (try simp only [hb_]); cbv)
    | ((with_reducible refine t4 ?_ ?_); (· (simp only [hE, w64, decide_eq_true_eq, decide_eq_false_iff_not]; first | assumption | omega)); intro hb_; (try simp only [hb_]); cbv)
    | (rw [hu]; done)
    | (rw [hu]; simp only [hE, w64]; done)
    | (rw [hu]; simp only [hE, w64]; rfl)
    | (rw [hu]; simp only [hE, w64, Option.some.injEq, U.agg.injEq, U.tup.injEq, U.v.injEq, List.cons.injEq, Value.bool.injEq, and_true, true_and, decide_eq_true_eq, decide_eq_false_iff_not]; first | assumption | omega))
theorem rat_Good.sound : SoundF Try.prog 28 rat_Good.R :=
  Den.sound (l := [(52, nat_Of.R), (66, quo_Gcd.R), (70, rat_trimmed.R), (71, nat_Cmp.R)]) (orc_cons nat_Of.sound (orc_cons quo_Gcd.sound (orc_cons rat_trimmed.sound (orc_cons nat_Cmp.sound (orc_nil))))) Try.func28 (by kernel_rfl) (by kernel_rfl) (by decide +kernel) fun _ _ hR => rat_Good.body rfl (fun _ _ h => (.inl ⟨rfl, h⟩)) (fun _ _ h => (.inr (.inl ⟨rfl, h⟩))) (fun _ _ h => (.inr (.inr (.inl ⟨rfl, h⟩)))) (fun _ _ h => (.inr (.inr (.inr (.inl ⟨rfl, h⟩))))) hR rfl
end Go.Proofs.Yticngjjdjmadgaa.PU
end
section
set_option linter.unusedVariables false
set_option linter.unusedSimpArgs false
namespace Go.Proofs.Yticngjjdjmadgaa.PU
open Go Go.RowKit Go.Proofs.YticngjjdjmadgaaW.PrintWords Go.Proofs.YticngjjdjmadgaaW.PrintMore Go.Proofs.Yticngjjdjmadgaa.Den Go.Proofs.Yticngjjdjmadgaa.PL
def whole_Mul.R (us : List U) (u : U) : Prop := ∃ (k : Nat) (a0_0 : Bool) (l0_1 : List Int) (a1_0 : Bool) (l1_1 : List Int) (r1 : Bool) (r2 : List Int), us = [.agg [.v (.bool a0_0), .l l0_1], .agg [.v (.bool a1_0), .l l1_1]] ∧ whole_Mul.f k a0_0 l0_1 a1_0 l1_1 = some (r1, r2) ∧ u = .agg [.v (.bool r1), .l r2]
theorem whole_Mul.I {k : Nat} {a0_0 : Bool} {l0_1 : List Int} {a1_0 : Bool} {l1_1 : List Int} {r1 : Bool} {r2 : List Int} (h : whole_Mul.f k a0_0 l0_1 a1_0 l1_1 = some (r1, r2)) : whole_Mul.R [.agg [.v (.bool a0_0), .l l0_1], .agg [.v (.bool a1_0), .l l1_1]] (.agg [.v (.bool r1), .l r2]) := ⟨_, _, _, _, _, _, _, rfl, h, rfl⟩
theorem whole_Mul.J {k : Nat} {a0_0 : Bool} {l0_1 : List Int} {a1_0 : Bool} {l1_1 : List Int} {r1 : Bool} {r2 : List Int} (h : whole_Mul.f k a0_0 l0_1 a1_0 l1_1 = some (r1, r2)) {us : List U} (hus : us = [.agg [.v (.bool a0_0), .l l0_1], .agg [.v (.bool a1_0), .l l1_1]]) : whole_Mul.R us (.agg [.v (.bool r1), .l r2]) := ⟨_, _, _, _, _, _, _, hus, h, rfl⟩
theorem whole_Mul.E {β : Type} {k : Nat} {a0_0 : Bool} {l0_1 : List Int} {a1_0 : Bool} {l1_1 : List Int} {g : Bool × List Int → Option β} {z : β} {Q : Prop} (h : (whole_Mul.f k a0_0 l0_1 a1_0 l1_1).bind g = some z) (c : ∀ (r1 : Bool) (r2 : List Int), whole_Mul.f k a0_0 l0_1 a1_0 l1_1 = some (r1, r2) → g (r1, r2) = some z → Q) : Q := by
  obtain ⟨p, h1, h2⟩ := Option.bind_eq_some_iff.1 h
  exact c p.1 p.2 h1 h2
set_option maxHeartbeats 4000000 in
set_option maxRecDepth 100000 in
theorem whole_Mul.body {D : Dat} {C : Orc} (hD : D = real) (h53 : ∀ us u, mul_Of.R us u → C 53 us u) (h92 : ∀ us u, whole_made.R us u → C 92 us u) {us : List U} {u : U} (hR : whole_Mul.R us u) {Q : Prop} (hQ : body tys D C Try.f80 us u = Q) : Q := by
  obtain ⟨k, a0_0, l0_1, a1_0, l1_1, r1, r2, rfl, h, hu⟩ := hR
  obtain ⟨len, add, sub, mul, rem, neg, conv, max, eq, ne, lt, le, nth, zeros, copy, cpd, bor⟩ := D
  simp only [real, Dat.mk.injEq] at hD
  obtain ⟨elen, eadd, esub, emul, erem, eneg, econv, emax, eeq, ene, elt, ele, enth, ezeros, ecopy, ecpd, ebor⟩ := hD
  have hE := And.intro elen (And.intro eadd (And.intro esub (And.intro emul (And.intro erem (And.intro eneg (And.intro econv (And.intro ebor (And.intro emax (And.intro eeq (And.intro ene (And.intro elt ele)))))))))))
  cases a0_0 <;>
  cases a1_0 <;>
  unfold whole_Mul.f at h <;>
  (repeat' first
    | (simp (maxSteps := 2000000) only [↓reduceIte, Bool.false_eq_true, Bool.not_true, Bool.not_false, reduceCtorEq, b00, b01, b10, b11, n00, n01, n10, n11] at h; done)
    | (simp (maxSteps := 2000000) only [↓reduceIte, Bool.false_eq_true, Bool.not_true, Bool.not_false, Option.bind_some, splice_self, b00, b01, b10, b11, n00, n01, n10, n11] at h)
    | (with_reducible refine mul_Of.E h ?_; clear h; rintro _ _ h)
    | (with_reducible refine whole_made.E h ?_; clear h; rintro _ _ _ h)
    | (simp (maxSteps := 2000000) only [↓reduceIte, Bool.false_eq_true, Bool.not_true, Bool.not_false, reduceCtorEq, decide_eq_true_eq, bne_iff_ne, ne_eq, beq_iff_eq, Option.bind_some, splice_self, b00, b01, b10, b11, n00, n01, n10, n11] at h)
    | (with_reducible refine iteE h ?_ ?_ <;> clear h <;> intro _ h)
    | (split at h)) <;>
  (injection h with h) <;>
  (try simp only [Prod.mk.injEq] at h) <;>
  (obtain ⟨rfl, rfl⟩ := h) <;>
  (rw [← hQ]; clear hQ) <;>
  (cbv) <;>
  (repeat first
    | ((with_reducible refine E2 (h53 _ _ (mul_Of.I ‹_›)) ?_); cbv)
    | ((with_reducible apply E2); (· with_reducible apply h53; simp only [hE, w64, mxE]; exact mul_Of.I ‹_›); cbv)
    | ((with_reducible refine E2 (h53 _ _ (mul_Of.J ‹mul_Of.f _ _ _ = some _› ?_)) ?_); (· simp only [hE, w64, mxE]; try rfl); cbv)
    | ((with_reducible refine E2 (h92 _ _ (whole_made.I ‹_›)) ?_); cbv)
    | ((with_reducible apply E2); (· with_reducible apply h92; simp only [hE, w64, mxE]; exact whole_made.I ‹_›); cbv)
    | ((with_reducible refine E2 (h92 _ _ (whole_made.J ‹whole_made.f _ _ _ = some _› ?_)) ?_); (· simp only [hE, w64, mxE]; try rfl); cbv)
    | (rw [hu]; done)
    | (rw [hu]; simp only [hE, w64]; done)
    | (rw [hu]; simp only [hE, w64]; rfl)
    | (rw [hu]; simp only [hE, w64, Option.some.injEq, U.agg.injEq, U.tup.injEq, U.v.injEq, List.cons.injEq, Value.bool.injEq, and_true, true_and, decide_eq_true_eq, decide_eq_false_iff_not]; first | assumption | omega))
theorem whole_Mul.sound : SoundF Try.prog 80 whole_Mul.R :=
  Den.sound (l := [(53, mul_Of.R), (92, whole_made.R)]) (orc_cons mul_Of.sound (orc_cons whole_made.sound (orc_nil))) Try.func80 (by kernel_rfl) (by kernel_rfl) (by decide +kernel) fun _ _ hR => whole_Mul.body rfl (fun _ _ h => (.inl ⟨rfl, h⟩)) (fun _ _ h => (.inr (.inl ⟨rfl, h⟩))) hR rfl
end Go.Proofs.Yticngjjdjmadgaa.PU
end
section
set_option linter.unusedVariables false
set_option linter.unusedSimpArgs false
namespace Go.Proofs.Yticngjjdjmadgaa.PU
open Go Go.RowKit Go.Proofs.YticngjjdjmadgaaW.PrintWords Go.Proofs.YticngjjdjmadgaaW.PrintMore Go.Proofs.Yticngjjdjmadgaa.Den Go.Proofs.Yticngjjdjmadgaa.PL
def rat_cross.R (us : List U) (u : U) : Prop := ∃ (k : Nat) (a0_0 : Bool) (l0_1 : List Int) (l0_2 : List Int) (a1_0 : Bool) (l1_1 : List Int) (l1_2 : List Int) (r1 : Bool) (r2 : List Int), us = [.agg [.v (.bool a0_0), .l l0_1, .l l0_2], .agg [.v (.bool a1_0), .l l1_1, .l l1_2]] ∧ rat_cross.f k a0_0 l0_1 l0_2 a1_0 l1_1 l1_2 = some (r1, r2) ∧ u = .agg [.v (.bool r1), .l r2]
theorem rat_cross.I {k : Nat} {a0_0 : Bool} {l0_1 : List Int} {l0_2 : List Int} {a1_0 : Bool} {l1_1 : List Int} {l1_2 : List Int} {r1 : Bool} {r2 : List Int} (h : rat_cross.f k a0_0 l0_1 l0_2 a1_0 l1_1 l1_2 = some (r1, r2)) : rat_cross.R [.agg [.v (.bool a0_0), .l l0_1, .l l0_2], .agg [.v (.bool a1_0), .l l1_1, .l l1_2]] (.agg [.v (.bool r1), .l r2]) := ⟨_, _, _, _, _, _, _, _, _, rfl, h, rfl⟩
theorem rat_cross.J {k : Nat} {a0_0 : Bool} {l0_1 : List Int} {l0_2 : List Int} {a1_0 : Bool} {l1_1 : List Int} {l1_2 : List Int} {r1 : Bool} {r2 : List Int} (h : rat_cross.f k a0_0 l0_1 l0_2 a1_0 l1_1 l1_2 = some (r1, r2)) {us : List U} (hus : us = [.agg [.v (.bool a0_0), .l l0_1, .l l0_2], .agg [.v (.bool a1_0), .l l1_1, .l l1_2]]) : rat_cross.R us (.agg [.v (.bool r1), .l r2]) := ⟨_, _, _, _, _, _, _, _, _, hus, h, rfl⟩
theorem rat_cross.E {β : Type} {k : Nat} {a0_0 : Bool} {l0_1 : List Int} {l0_2 : List Int} {a1_0 : Bool} {l1_1 : List Int} {l1_2 : List Int} {g : Bool × List Int → Option β} {z : β} {Q : Prop} (h : (rat_cross.f k a0_0 l0_1 l0_2 a1_0 l1_1 l1_2).bind g = some z) (c : ∀ (r1 : Bool) (r2 : List Int), rat_cross.f k a0_0 l0_1 l0_2 a1_0 l1_1 l1_2 = some (r1, r2) → g (r1, r2) = some z → Q) : Q := by
  obtain ⟨p, h1, h2⟩ := Option.bind_eq_some_iff.1 h
  exact c p.1 p.2 h1 h2
set_option maxHeartbeats 4000000 in
set_option maxRecDepth 100000 in
theorem rat_cross.body {D : Dat} {C : Orc} (hD : D = real) (h80 : ∀ us u, whole_Mul.R us u → C 80 us u) {us : List U} {u : U} (hR : rat_cross.R us u) {Q : Prop} (hQ : body tys D C Try.f73 us u = Q) : Q := by
  obtain ⟨k, a0_0, l0_1, l0_2, a1_0, l1_1, l1_2, r1, r2, rfl, h, hu⟩ := hR
  obtain ⟨len, add, sub, mul, rem, neg, conv, max, eq, ne, lt, le, nth, zeros, copy, cpd, bor⟩ := D
  simp only [real, Dat.mk.injEq] at hD
  obtain ⟨elen, eadd, esub, emul, erem, eneg, econv, emax, eeq, ene, elt, ele, enth, ezeros, ecopy, ecpd, ebor⟩ := hD
  have hE := And.intro elen (And.intro eadd (And.intro esub (And.intro emul (And.intro erem (And.intro eneg (And.intro econv (And.intro ebor (And.intro emax (And.intro eeq (And.intro ene (And.intro elt ele)))))))))))
  cases a0_0 <;>
  cases a1_0 <;>
  unfold rat_cross.f at h <;>
  (repeat' first
    | (simp (maxSteps := 2000000) only [↓reduceIte, Bool.false_eq_true, Bool.not_true, Bool.not_false, reduceCtorEq, b00, b01, b10, b11, n00, n01, n10, n11] at h; done)
    | (simp (maxSteps := 2000000) only [↓reduceIte, Bool.false_eq_true, Bool.not_true, Bool.not_false, Option.bind_some, splice_self, b00, b01, b10, b11, n00, n01, n10, n11] at h)
    | (with_reducible refine whole_Mul.E h ?_; clear h; rintro _ _ _ h)
    | (simp (maxSteps := 2000000) only [↓reduceIte, Bool.false_eq_true, Bool.not_true, Bool.not_false, reduceCtorEq, decide_eq_true_eq, bne_iff_ne, ne_eq, beq_iff_eq, Option.bind_some, splice_self, b00, b01, b10, b11, n00, n01, n10, n11] at h)
    | (with_reducible refine iteE h ?_ ?_ <;> clear h <;> intro _ h)
    | (split at h)) <;>
  (injection h with h) <;>
  (try simp only [Prod.mk.injEq] at h) <;>
  (obtain ⟨rfl, rfl⟩ := h) <;>
  (rw [← hQ]; clear hQ) <;>
  (cbv) <;>
  (repeat first
    | ((with_reducible refine E2 (h80 _ _ (whole_Mul.I ‹_›)) ?_); cbv)
    | ((with_reducible apply E2); (· with_reducible apply h80; simp only [hE, w64, mxE]; exact whole_Mul.I ‹_›); cbv)
    | ((with_reducible refine E2 (h80 _ _ (whole_Mul.J ‹whole_Mul.f _ _ _ _ _ = some _› ?_)) ?_); (· simp only [hE, w64, mxE]; try rfl); cbv)
    | (rw [hu]; done)
    | (rw [hu]; simp only [hE, w64]; done)
    | (rw [hu]; simp only [hE, w64]; rfl)
    | (rw [hu]; simp only [hE, w64, Option.some.injEq, U.agg.injEq, U.tup.injEq, U.v.injEq, List.cons.injEq, Value.bool.injEq, and_true, true_and, decide_eq_true_eq, decide_eq_false_iff_not]; first | assumption | omega))
theorem rat_cross.sound : SoundF Try.prog 73 rat_cross.R :=
  Den.sound (l := [(80, whole_Mul.R)]) (orc_cons whole_Mul.sound (orc_nil)) Try.func73 (by kernel_rfl) (by kernel_rfl) (by decide +kernel) fun _ _ hR => rat_cross.body rfl (fun _ _ h => (.inl ⟨rfl, h⟩)) hR rfl
end Go.Proofs.Yticngjjdjmadgaa.PU
end
section
set_option linter.unusedVariables false
set_option linter.unusedSimpArgs false
namespace Go.Proofs.Yticngjjdjmadgaa.PU
open Go Go.RowKit Go.Proofs.YticngjjdjmadgaaW.PrintWords Go.Proofs.YticngjjdjmadgaaW.PrintMore Go.Proofs.Yticngjjdjmadgaa.Den Go.Proofs.Yticngjjdjmadgaa.PL
def rat_Div.R (us : List U) (u : U) : Prop := ∃ (k : Nat) (a0_0 : Bool) (l0_1 : List Int) (l0_2 : List Int) (a1_0 : Bool) (l1_1 : List Int) (l1_2 : List Int) (r1 : Bool) (r2 : List Int) (r3 : List Int) (r4 : Int), us = [.agg [.v (.bool a0_0), .l l0_1, .l l0_2], .agg [.v (.bool a1_0), .l l1_1, .l l1_2]] ∧ rat_Div.f k a0_0 l0_1 l0_2 a1_0 l1_1 l1_2 = some (r1, r2, r3, r4) ∧ u = .tup [.agg [.v (.bool r1), .l r2, .l r3], .v (.int .i64 r4)]
theorem rat_Div.I {k : Nat} {a0_0 : Bool} {l0_1 : List Int} {l0_2 : List Int} {a1_0 : Bool} {l1_1 : List Int} {l1_2 : List Int} {r1 : Bool} {r2 : List Int} {r3 : List Int} {r4 : Int} (h : rat_Div.f k a0_0 l0_1 l0_2 a1_0 l1_1 l1_2 = some (r1, r2, r3, r4)) : rat_Div.R [.agg [.v (.bool a0_0), .l l0_1, .l l0_2], .agg [.v (.bool a1_0), .l l1_1, .l l1_2]] (.tup [.agg [.v (.bool r1), .l r2, .l r3], .v (.int .i64 r4)]) := ⟨_, _, _, _, _, _, _, _, _, _, _, rfl, h, rfl⟩
theorem rat_Div.J {k : Nat} {a0_0 : Bool} {l0_1 : List Int} {l0_2 : List Int} {a1_0 : Bool} {l1_1 : List Int} {l1_2 : List Int} {r1 : Bool} {r2 : List Int} {r3 : List Int} {r4 : Int} (h : rat_Div.f k a0_0 l0_1 l0_2 a1_0 l1_1 l1_2 = some (r1, r2, r3, r4)) {us : List U} (hus : us = [.agg [.v (.bool a0_0), .l l0_1, .l l0_2], .agg [.v (.bool a1_0), .l l1_1, .l l1_2]]) : rat_Div.R us (.tup [.agg [.v (.bool r1), .l r2, .l r3], .v (.int .i64 r4)]) := ⟨_, _, _, _, _, _, _, _, _, _, _, hus, h, rfl⟩
theorem rat_Div.E {β : Type} {k : Nat} {a0_0 : Bool} {l0_1 : List Int} {l0_2 : List Int} {a1_0 : Bool} {l1_1 : List Int} {l1_2 : List Int} {g : Bool × List Int × List Int × Int → Option β} {z : β} {Q : Prop} (h : (rat_Div.f k a0_0 l0_1 l0_2 a1_0 l1_1 l1_2).bind g = some z) (c : ∀ (r1 : Bool) (r2 : List Int) (r3 : List Int) (r4 : Int), rat_Div.f k a0_0 l0_1 l0_2 a1_0 l1_1 l1_2 = some (r1, r2, r3, r4) → g (r1, r2, r3, r4) = some z → Q) : Q := by
  obtain ⟨p, h1, h2⟩ := Option.bind_eq_some_iff.1 h
  exact c p.1 p.2.1 p.2.2.1 p.2.2.2 h1 h2
set_option maxHeartbeats 4000000 in
set_option maxRecDepth 100000 in
theorem rat_Div.body {D : Dat} {C : Orc} (hD : D = real) (h24 : ∀ us u, rat_Of.R us u → C 24 us u) (h28 : ∀ us u, rat_Good.R us u → C 28 us u) (h53 : ∀ us u, mul_Of.R us u → C 53 us u) (h73 : ∀ us u, rat_cross.R us u → C 73 us u) {us : List U} {u : U} (hR : rat_Div.R us u) {Q : Prop} (hQ : body tys D C Try.f30 us u = Q) : Q := by
  obtain ⟨k, a0_0, l0_1, l0_2, a1_0, l1_1, l1_2, r1, r2, r3, r4, rfl, h, hu⟩ := hR
  obtain ⟨len, add, sub, mul, rem, neg, conv, max, eq, ne, lt, le, nth, zeros, copy, cpd, bor⟩ := D
  simp only [real, Dat.mk.injEq] at hD
  obtain ⟨elen, eadd, esub, emul, erem, eneg, econv, emax, eeq, ene, elt, ele, enth, ezeros, ecopy, ecpd, ebor⟩ := hD
  have hE := And.intro elen (And.intro eadd (And.intro esub (And.intro emul (And.intro erem (And.intro eneg (And.intro econv (And.intro ebor (And.intro emax (And.intro eeq (And.intro ene (And.intro elt ele)))))))))))
  cases a0_0 <;>
  cases a1_0 <;>
  unfold rat_Div.f at h <;>
  (repeat' first
    | (simp (maxSteps := 2000000) only [↓reduceIte, Bool.false_eq_true, Bool.not_true, Bool.not_false, reduceCtorEq, b00, b01, b10, b11, n00, n01, n10, n11] at h; done)
    | (simp (maxSteps := 2000000) only [↓reduceIte, Bool.false_eq_true, Bool.not_true, Bool.not_false, Option.bind_some, splice_self, b00, b01, b10, b11, n00, n01, n10, n11] at h)
    | (with_reducible refine rat_Of.E h ?_; clear h; rintro _ _ _ _ _ h)
    | (rw [‹rat_Good.f _ _ _ _ = some _›] at h; simp only [Option.bind_some] at h)
    | (with_reducible refine rat_Good.E h ?_; clear h; rintro (_ | _) _ h)
    | (with_reducible refine mul_Of.E h ?_; clear h; rintro _ _ h)
    | (with_reducible refine rat_cross.E h ?_; clear h; rintro (_ | _) _ _ h)
    | (unfold rat_Div.j0 at h)
    | (simp (maxSteps := 2000000) only [↓reduceIte, Bool.false_eq_true, Bool.not_true, Bool.not_false, reduceCtorEq, decide_eq_true_eq, bne_iff_ne, ne_eq, beq_iff_eq, Option.bind_some, splice_self, b00, b01, b10, b11, n00, n01, n10, n11] at h)
    | (with_reducible refine iteE h ?_ ?_ <;> clear h <;> intro _ h)
    | (split at h)) <;>
  (injection h with h) <;>
  (try simp only [Prod.mk.injEq] at h) <;>
  (obtain ⟨rfl, rfl, rfl, rfl⟩ := h) <;>
  (rw [← hQ]; clear hQ) <;>
  (cbv) <;>
  (repeat first
    | ((with_reducible refine E2 (h24 _ _ (rat_Of.I ‹_›)) ?_); cbv)
    | ((with_reducible apply E2); (· with_reducible apply h24; simp only [hE, w64, mxE]; exact rat_Of.I ‹_›); cbv)
    | ((with_reducible refine E2 (h24 _ _ (rat_Of.J ‹rat_Of.f _ _ _ _ = some _› ?_)) ?_); (· simp only [hE, w64, mxE]; try rfl); cbv)
    | ((with_reducible refine E2 (h28 _ _ (rat_Good.I ‹_›)) ?_); cbv)
    | ((with_reducible apply E2); (· with_reducible apply h28; simp only [hE, w64, mxE]; exact rat_Good.I ‹_›); cbv)
    | ((with_reducible refine E2 (h28 _ _ (rat_Good.J ‹rat_Good.f _ _ _ _ = some _› ?_)) ?_); (· simp only [hE, w64, mxE]; try rfl); cbv)
    | ((with_reducible refine E2 (h53 _ _ (mul_Of.I ‹_›)) ?_); cbv)
    | ((with_reducible apply E2); (· with_reducible apply h53; simp only [hE, w64, mxE]; exact mul_Of.I ‹_›); cbv)
    | ((with_reducible refine E2 (h53 _ _ (mul_Of.J ‹mul_Of.f _ _ _ = some _› ?_)) ?_); (· simp only [hE, w64, mxE]; try rfl); cbv)
    | ((with_reducible refine E2 (h73 _ _ (rat_cross.I ‹_›)) ?_); cbv)
    | ((with_reducible apply E2); (· with_reducible apply h73; simp only [hE, w64, mxE]; exact rat_cross.I ‹_›); cbv)
    | ((with_reducible refine E2 (h73 _ _ (rat_cross.J ‹rat_cross.f _ _ _ _ _ _ _ = some _› ?_)) ?_); (· simp only [hE, w64, mxE]; try rfl); cbv)
    | ((with_reducible refine t1 ?_ ?_); (· (simp only [hE, w64, decide_eq_true_eq, decide_eq_false_iff_not]; first | assumption | omega)); intro hb_; (try simp only [hb_]); cbv)
    | ((with_reducible refine t2 ?_ ?_); (· (simp only [hE, w64, decide_eq_true_eq, decide_eq_false_iff_not]; first | assumption | omega)); intro hb_; (try simp only [hb_]); cbv)
    | ((with_reducible refine t3 ?_ ?_); (· (simp only [hE, w64, decide_eq_true_eq, decide_eq_false_iff_not]; first | assumption | omega)); intro hb_; (try simp only [hb_]); cbv)
    | ((with_reducible refine t4 ?_ ?_); (· (simp only [hE, w64, decide_eq_true_eq, decide_eq_false_iff_not]; first | assumption | omega)); intro hb_; (try simp only [hb_]); cbv)
    | (rw [hu]; done)
    | (rw [hu]; simp only [hE, w64]; done)
    | (rw [hu]; simp only [hE, w64]; rfl)
    | (rw [hu]; simp only [hE, w64, Option.some.injEq, U.agg.injEq, U.tup.injEq, U.v.injEq, List.cons.injEq, Value.bool.injEq, and_true, true_and, decide_eq_true_eq, decide_eq_false_iff_not]; first | assumption | omega))
theorem rat_Div.sound : SoundF Try.prog 30 rat_Div.R :=
  Den.sound (l := [(24, rat_Of.R), (28, rat_Good.R), (53, mul_Of.R), (73, rat_cross.R)]) (orc_cons rat_Of.sound (orc_cons rat_Good.sound (orc_cons mul_Of.sound (orc_cons rat_cross.sound (orc_nil))))) Try.func30 (by kernel_rfl) (by kernel_rfl) (by decide +kernel) fun _ _ hR => rat_Div.body rfl (fun _ _ h => (.inl ⟨rfl, h⟩)) (fun _ _ h => (.inr (.inl ⟨rfl, h⟩))) (fun _ _ h => (.inr (.inr (.inl ⟨rfl, h⟩)))) (fun _ _ h => (.inr (.inr (.inr (.inl ⟨rfl, h⟩))))) hR rfl
end Go.Proofs.Yticngjjdjmadgaa.PU
end
section
set_option linter.unusedVariables false
set_option linter.unusedSimpArgs false
namespace Go.Proofs.Yticngjjdjmadgaa.PU
open Go Go.RowKit Go.Proofs.YticngjjdjmadgaaW.PrintWords Go.Proofs.YticngjjdjmadgaaW.PrintMore Go.Proofs.Yticngjjdjmadgaa.Den Go.Proofs.Yticngjjdjmadgaa.PL
def whole_Of.R (us : List U) (u : U) : Prop := ∃ (k : Nat) (a0 : Int) (r1 : Bool) (r2 : List Int), us = [.v (.int .i64 a0)] ∧ whole_Of.f k a0 = some (r1, r2) ∧ u = .agg [.v (.bool r1), .l r2]
theorem whole_Of.I {k : Nat} {a0 : Int} {r1 : Bool} {r2 : List Int} (h : whole_Of.f k a0 = some (r1, r2)) : whole_Of.R [.v (.int .i64 a0)] (.agg [.v (.bool r1), .l r2]) := ⟨_, _, _, _, rfl, h, rfl⟩
theorem whole_Of.J {k : Nat} {a0 : Int} {r1 : Bool} {r2 : List Int} (h : whole_Of.f k a0 = some (r1, r2)) {us : List U} (hus : us = [.v (.int .i64 a0)]) : whole_Of.R us (.agg [.v (.bool r1), .l r2]) := ⟨_, _, _, _, hus, h, rfl⟩
theorem whole_Of.E {β : Type} {k : Nat} {a0 : Int} {g : Bool × List Int → Option β} {z : β} {Q : Prop} (h : (whole_Of.f k a0).bind g = some z) (c : ∀ (r1 : Bool) (r2 : List Int), whole_Of.f k a0 = some (r1, r2) → g (r1, r2) = some z → Q) : Q := by
  obtain ⟨p, h1, h2⟩ := Option.bind_eq_some_iff.1 h
  exact c p.1 p.2 h1 h2
set_option maxHeartbeats 4000000 in
set_option maxRecDepth 100000 in
theorem whole_Of.body {D : Dat} {C : Orc} (hD : D = real) (h52 : ∀ us u, nat_Of.R us u → C 52 us u) (h92 : ∀ us u, whole_made.R us u → C 92 us u) {us : List U} {u : U} (hR : whole_Of.R us u) {Q : Prop} (hQ : body tys D C Try.f74 us u = Q) : Q := by
  obtain ⟨k, a0, r1, r2, rfl, h, hu⟩ := hR
  obtain ⟨len, add, sub, mul, rem, neg, conv, max, eq, ne, lt, le, nth, zeros, copy, cpd, bor⟩ := D
  simp only [real, Dat.mk.injEq] at hD
  obtain ⟨elen, eadd, esub, emul, erem, eneg, econv, emax, eeq, ene, elt, ele, enth, ezeros, ecopy, ecpd, ebor⟩ := hD
  have hE := And.intro elen (And.intro eadd (And.intro esub (And.intro emul (And.intro erem (And.intro eneg (And.intro econv (And.intro ebor (And.intro emax (And.intro eeq (And.intro ene (And.intro elt ele)))))))))))
  unfold whole_Of.f at h <;>
  (repeat' first
    | (simp (maxSteps := 2000000) only [↓reduceIte, Bool.false_eq_true, Bool.not_true, Bool.not_false, reduceCtorEq, b00, b01, b10, b11, n00, n01, n10, n11] at h; done)
    | (simp (maxSteps := 2000000) only [↓reduceIte, Bool.false_eq_true, Bool.not_true, Bool.not_false, Option.bind_some, splice_self, b00, b01, b10, b11, n00, n01, n10, n11] at h)
    | (rw [‹nat_Of.f _ _ = some _›] at h; simp only [Option.bind_some] at h)
    | (with_reducible refine nat_Of.E h ?_; clear h; rintro _ _ h)
    | (rw [‹whole_made.f _ _ _ = some _›] at h; simp only [Option.bind_some] at h)
    | (with_reducible refine whole_made.E h ?_; clear h; rintro _ _ _ h)
    | (simp (maxSteps := 2000000) only [↓reduceIte, Bool.false_eq_true, Bool.not_true, Bool.not_false, reduceCtorEq, decide_eq_true_eq, bne_iff_ne, ne_eq, beq_iff_eq, Option.bind_some, splice_self, b00, b01, b10, b11, n00, n01, n10, n11] at h)
    | (with_reducible refine iteE h ?_ ?_ <;> clear h <;> intro _ h)
    | (split at h)) <;>
  (injection h with h) <;>
  (try simp only [Prod.mk.injEq] at h) <;>
  (obtain ⟨rfl, rfl⟩ := h) <;>
  (rw [← hQ]; clear hQ) <;>
  (cbv) <;>
  (repeat first
    | ((with_reducible refine E2 (h52 _ _ (nat_Of.I ‹_›)) ?_); cbv)
    | ((with_reducible apply E2); (· with_reducible apply h52; simp only [hE, w64, mxE]; exact nat_Of.I ‹_›); cbv)
    | ((with_reducible refine E2 (h52 _ _ (nat_Of.J ‹nat_Of.f _ _ = some _› ?_)) ?_); (· simp only [hE, w64, mxE]; try rfl); cbv)
    | ((with_reducible refine E2 (h92 _ _ (whole_made.I ‹_›)) ?_); cbv)
    | ((with_reducible apply E2); (· with_reducible apply h92; simp only [hE, w64, mxE]; exact whole_made.I ‹_›); cbv)
    | ((with_reducible refine E2 (h92 _ _ (whole_made.J ‹whole_made.f _ _ _ = some _› ?_)) ?_); (· simp only [hE, w64, mxE]; try rfl); cbv)
    | ((with_reducible refine t1 ?_ ?_); (· (simp only [hE, w64, decide_eq_true_eq, decide_eq_false_iff_not]; first | assumption | omega)); intro hb_; (try simp only [hb_]); cbv)
    | ((with_reducible refine t2 ?_ ?_); (· (simp only [hE, w64, decide_eq_true_eq, decide_eq_false_iff_not]; first | assumption | omega)); intro hb_; (try simp only [hb_]); cbv)
    | ((with_reducible refine t3 ?_ ?_); (· (simp only [hE, w64, decide_eq_true_eq, decide_eq_false_iff_not]; first | assumption | omega)); intro hb_; (try simp only [hb_]); cbv)
    | ((with_reducible refine t4 ?_ ?_); (· (simp only [hE, w64, decide_eq_true_eq, decide_eq_false_iff_not]; first | assumption | omega)); intro hb_; (try simp only [hb_]); cbv)
    | (rw [hu]; done)
    | (rw [hu]; simp only [hE, w64]; done)
    | (rw [hu]; simp only [hE, w64]; rfl)
    | (rw [hu]; simp only [hE, w64, Option.some.injEq, U.agg.injEq, U.tup.injEq, U.v.injEq, List.cons.injEq, Value.bool.injEq, and_true, true_and, decide_eq_true_eq, decide_eq_false_iff_not]; first | assumption | omega))
theorem whole_Of.sound : SoundF Try.prog 74 whole_Of.R :=
  Den.sound (l := [(52, nat_Of.R), (92, whole_made.R)]) (orc_cons nat_Of.sound (orc_cons whole_made.sound (orc_nil))) Try.func74 (by kernel_rfl) (by kernel_rfl) (by decide +kernel) fun _ _ hR => whole_Of.body rfl (fun _ _ h => (.inl ⟨rfl, h⟩)) (fun _ _ h => (.inr (.inl ⟨rfl, h⟩))) hR rfl
end Go.Proofs.Yticngjjdjmadgaa.PU
end
section
set_option linter.unusedVariables false
set_option linter.unusedSimpArgs false
namespace Go.Proofs.Yticngjjdjmadgaa.PU
open Go Go.RowKit Go.Proofs.YticngjjdjmadgaaW.PrintWords Go.Proofs.YticngjjdjmadgaaW.PrintMore Go.Proofs.Yticngjjdjmadgaa.Den Go.Proofs.Yticngjjdjmadgaa.PL
def rat_Whole.R (us : List U) (u : U) : Prop := ∃ (k : Nat) (a0 : Int) (r1 : Bool) (r2 : List Int) (r3 : List Int), us = [.v (.int .i64 a0)] ∧ rat_Whole.f k a0 = some (r1, r2, r3) ∧ u = .agg [.v (.bool r1), .l r2, .l r3]
theorem rat_Whole.I {k : Nat} {a0 : Int} {r1 : Bool} {r2 : List Int} {r3 : List Int} (h : rat_Whole.f k a0 = some (r1, r2, r3)) : rat_Whole.R [.v (.int .i64 a0)] (.agg [.v (.bool r1), .l r2, .l r3]) := ⟨_, _, _, _, _, rfl, h, rfl⟩
theorem rat_Whole.J {k : Nat} {a0 : Int} {r1 : Bool} {r2 : List Int} {r3 : List Int} (h : rat_Whole.f k a0 = some (r1, r2, r3)) {us : List U} (hus : us = [.v (.int .i64 a0)]) : rat_Whole.R us (.agg [.v (.bool r1), .l r2, .l r3]) := ⟨_, _, _, _, _, hus, h, rfl⟩
theorem rat_Whole.E {β : Type} {k : Nat} {a0 : Int} {g : Bool × List Int × List Int → Option β} {z : β} {Q : Prop} (h : (rat_Whole.f k a0).bind g = some z) (c : ∀ (r1 : Bool) (r2 : List Int) (r3 : List Int), rat_Whole.f k a0 = some (r1, r2, r3) → g (r1, r2, r3) = some z → Q) : Q := by
  obtain ⟨p, h1, h2⟩ := Option.bind_eq_some_iff.1 h
  exact c p.1 p.2.1 p.2.2 h1 h2
set_option maxHeartbeats 4000000 in
set_option maxRecDepth 100000 in
theorem rat_Whole.body {D : Dat} {C : Orc} (hD : D = real) (h52 : ∀ us u, nat_Of.R us u → C 52 us u) (h74 : ∀ us u, whole_Of.R us u → C 74 us u) {us : List U} {u : U} (hR : rat_Whole.R us u) {Q : Prop} (hQ : body tys D C Try.f31 us u = Q) : Q := by
  obtain ⟨k, a0, r1, r2, r3, rfl, h, hu⟩ := hR
  obtain ⟨len, add, sub, mul, rem, neg, conv, max, eq, ne, lt, le, nth, zeros, copy, cpd, bor⟩ := D
  simp only [real, Dat.mk.injEq] at hD
  obtain ⟨elen, eadd, esub, emul, erem, eneg, econv, emax, eeq, ene, elt, ele, enth, ezeros, ecopy, ecpd, ebor⟩ := hD
  have hE := And.intro elen (And.intro eadd (And.intro esub (And.intro emul (And.intro erem (And.intro eneg (And.intro econv (And.intro ebor (And.intro emax (And.intro eeq (And.intro ene (And.intro elt ele)))))))))))
  unfold rat_Whole.f at h <;>
  (repeat' first
    | (simp (maxSteps := 2000000) only [↓reduceIte, Bool.false_eq_true, Bool.not_true, Bool.not_false, reduceCtorEq, b00, b01, b10, b11, n00, n01, n10, n11] at h; done)
    | (simp (maxSteps := 2000000) only [↓reduceIte, Bool.false_eq_true, Bool.not_true, Bool.not_false, Option.bind_some, splice_self, b00, b01, b10, b11, n00, n01, n10, n11] at h)
    | (with_reducible refine nat_Of.E h ?_; clear h; rintro _ _ h)
    | (with_reducible refine whole_Of.E h ?_; clear h; rintro _ _ _ h)
    | (simp (maxSteps := 2000000) only [↓reduceIte, Bool.false_eq_true, Bool.not_true, Bool.not_false, reduceCtorEq, decide_eq_true_eq, bne_iff_ne, ne_eq, beq_iff_eq, Option.bind_some, splice_self, b00, b01, b10, b11, n00, n01, n10, n11] at h)
    | (with_reducible refine iteE h ?_ ?_ <;> clear h <;> intro _ h)
    | (split at h)) <;>
  (injection h with h) <;>
  (try simp only [Prod.mk.injEq] at h) <;>
  (obtain ⟨rfl, rfl, rfl⟩ := h) <;>
  (rw [← hQ]; clear hQ) <;>
  (cbv) <;>
  (repeat first
    | ((with_reducible refine E2 (h52 _ _ (nat_Of.I ‹_›)) ?_); cbv)
    | ((with_reducible apply E2); (· with_reducible apply h52; simp only [hE, w64, mxE]; exact nat_Of.I ‹_›); cbv)
    | ((with_reducible refine E2 (h52 _ _ (nat_Of.J ‹nat_Of.f _ _ = some _› ?_)) ?_); (· simp only [hE, w64, mxE]; try rfl); cbv)
    | ((with_reducible refine E2 (h74 _ _ (whole_Of.I ‹_›)) ?_); cbv)
    | ((with_reducible apply E2); (· with_reducible apply h74; simp only [hE, w64, mxE]; exact whole_Of.I ‹_›); cbv)
    | ((with_reducible refine E2 (h74 _ _ (whole_Of.J ‹whole_Of.f _ _ = some _› ?_)) ?_); (· simp only [hE, w64, mxE]; try rfl); cbv)
    | (rw [hu]; done)
    | (rw [hu]; simp only [hE, w64]; done)
    | (rw [hu]; simp only [hE, w64]; rfl)
    | (rw [hu]; simp only [hE, w64, Option.some.injEq, U.agg.injEq, U.tup.injEq, U.v.injEq, List.cons.injEq, Value.bool.injEq, and_true, true_and, decide_eq_true_eq, decide_eq_false_iff_not]; first | assumption | omega))
theorem rat_Whole.sound : SoundF Try.prog 31 rat_Whole.R :=
  Den.sound (l := [(52, nat_Of.R), (74, whole_Of.R)]) (orc_cons nat_Of.sound (orc_cons whole_Of.sound (orc_nil))) Try.func31 (by kernel_rfl) (by kernel_rfl) (by decide +kernel) fun _ _ hR => rat_Whole.body rfl (fun _ _ h => (.inl ⟨rfl, h⟩)) (fun _ _ h => (.inr (.inl ⟨rfl, h⟩))) hR rfl
end Go.Proofs.Yticngjjdjmadgaa.PU
end
section
set_option linter.unusedVariables false
set_option linter.unusedSimpArgs false
namespace Go.Proofs.Yticngjjdjmadgaa.PU
open Go Go.RowKit Go.Proofs.YticngjjdjmadgaaW.PrintWords Go.Proofs.YticngjjdjmadgaaW.PrintMore Go.Proofs.Yticngjjdjmadgaa.Den Go.Proofs.Yticngjjdjmadgaa.PL
def steelyardkeep_Int.R (us : List U) (u : U) : Prop := ∃ (k : Nat) (a0_0 : Bool) (l0_1 : List Int) (a1_0 : Bool) (l1_1 : List Int) (r : Bool), us = [.agg [.v (.bool a0_0), .l l0_1], .agg [.v (.bool a1_0), .l l1_1]] ∧ steelyardkeep_Int.f k a0_0 l0_1 a1_0 l1_1 = some r ∧ u = .v (.bool r)
theorem steelyardkeep_Int.I {k : Nat} {a0_0 : Bool} {l0_1 : List Int} {a1_0 : Bool} {l1_1 : List Int} {r : Bool} (h : steelyardkeep_Int.f k a0_0 l0_1 a1_0 l1_1 = some r) : steelyardkeep_Int.R [.agg [.v (.bool a0_0), .l l0_1], .agg [.v (.bool a1_0), .l l1_1]] (.v (.bool r)) := ⟨_, _, _, _, _, _, rfl, h, rfl⟩
theorem steelyardkeep_Int.J {k : Nat} {a0_0 : Bool} {l0_1 : List Int} {a1_0 : Bool} {l1_1 : List Int} {r : Bool} (h : steelyardkeep_Int.f k a0_0 l0_1 a1_0 l1_1 = some r) {us : List U} (hus : us = [.agg [.v (.bool a0_0), .l l0_1], .agg [.v (.bool a1_0), .l l1_1]]) : steelyardkeep_Int.R us (.v (.bool r)) := ⟨_, _, _, _, _, _, hus, h, rfl⟩
theorem steelyardkeep_Int.E {β : Type} {k : Nat} {a0_0 : Bool} {l0_1 : List Int} {a1_0 : Bool} {l1_1 : List Int} {g : Bool → Option β} {z : β} {Q : Prop} (h : (steelyardkeep_Int.f k a0_0 l0_1 a1_0 l1_1).bind g = some z) (c : ∀ (r : Bool), steelyardkeep_Int.f k a0_0 l0_1 a1_0 l1_1 = some r → g r = some z → Q) : Q := by
  obtain ⟨p, h1, h2⟩ := Option.bind_eq_some_iff.1 h
  exact c p h1 h2
set_option maxHeartbeats 4000000 in
set_option maxRecDepth 100000 in
theorem steelyardkeep_Int.body {D : Dat} {C : Orc} (hD : D = real) (h61 : ∀ us u, steelyardkeep_Nat.R us u → C 61 us u) {us : List U} {u : U} (hR : steelyardkeep_Int.R us u) {Q : Prop} (hQ : body tys D C Try.f60 us u = Q) : Q := by
  obtain ⟨k, a0_0, l0_1, a1_0, l1_1, r, rfl, h, hu⟩ := hR
  obtain ⟨len, add, sub, mul, rem, neg, conv, max, eq, ne, lt, le, nth, zeros, copy, cpd, bor⟩ := D
  simp only [real, Dat.mk.injEq] at hD
  obtain ⟨elen, eadd, esub, emul, erem, eneg, econv, emax, eeq, ene, elt, ele, enth, ezeros, ecopy, ecpd, ebor⟩ := hD
  have hE := And.intro elen (And.intro eadd (And.intro esub (And.intro emul (And.intro erem (And.intro eneg (And.intro econv (And.intro ebor (And.intro emax (And.intro eeq (And.intro ene (And.intro elt ele)))))))))))
  cases a0_0 <;>
  cases a1_0 <;>
  unfold steelyardkeep_Int.f at h <;>
  (repeat' first
    | (simp (maxSteps := 2000000) only [↓reduceIte, Bool.false_eq_true, Bool.not_true, Bool.not_false, reduceCtorEq, b00, b01, b10, b11, n00, n01, n10, n11] at h; done)
    | (simp (maxSteps := 2000000) only [↓reduceIte, Bool.false_eq_true, Bool.not_true, Bool.not_false, Option.bind_some, splice_self, b00, b01, b10, b11, n00, n01, n10, n11] at h)
    | (with_reducible refine steelyardkeep_Nat.E h ?_; clear h; rintro _ _ h)
    | (simp (maxSteps := 2000000) only [↓reduceIte, Bool.false_eq_true, Bool.not_true, Bool.not_false, reduceCtorEq, decide_eq_true_eq, bne_iff_ne, ne_eq, beq_iff_eq, Option.bind_some, splice_self, b00, b01, b10, b11, n00, n01, n10, n11] at h)
    | (with_reducible refine iteE h ?_ ?_ <;> clear h <;> intro _ h)
    | (split at h)) <;>
  (injection h with h) <;>
  (try simp only [Prod.mk.injEq] at h) <;>
  (subst h) <;>
  (rw [← hQ]; clear hQ) <;>
  (cbv) <;>
  (repeat first
    | ((with_reducible refine E2 (h61 _ _ (steelyardkeep_Nat.I ‹_›)) ?_); cbv)
    | ((with_reducible apply E2); (· with_reducible apply h61; simp only [hE, w64, mxE]; exact steelyardkeep_Nat.I ‹_›); cbv)
    | ((with_reducible refine E2 (h61 _ _ (steelyardkeep_Nat.J ‹steelyardkeep_Nat.f _ _ _ = some _› ?_)) ?_); (· simp only [hE, w64, mxE]; try rfl); cbv)
    | ((with_reducible refine t1 ?_ ?_); (· (simp only [hE, w64, decide_eq_true_eq, decide_eq_false_iff_not]; first | assumption | omega)); intro hb_; (try simp only [hb_]); cbv)
    | ((with_reducible refine t2 ?_ ?_); (· (simp only [hE, w64, decide_eq_true_eq, decide_eq_false_iff_not]; first | assumption | omega)); intro hb_; (try simp only [hb_]); cbv)
    | ((with_reducible refine t3 ?_ ?_); (· (simp only [hE, w64, decide_eq_true_eq, decide_eq_false_iff_not]; first | assumption | omega)); intro hb_; (try simp only [hb_]); cbv)
    | ((with_reducible refine t4 ?_ ?_); (· (simp only [hE, w64, decide_eq_true_eq, decide_eq_false_iff_not]; first | assumption | omega)); intro hb_; (try simp only [hb_]); cbv)
    | (rw [hu]; done)
    | (rw [hu]; simp only [hE, w64]; done)
    | (rw [hu]; simp only [hE, w64]; rfl)
    | (rw [hu]; simp only [hE, w64, Option.some.injEq, U.agg.injEq, U.tup.injEq, U.v.injEq, List.cons.injEq, Value.bool.injEq, and_true, true_and, decide_eq_true_eq, decide_eq_false_iff_not]; first | assumption | omega))
theorem steelyardkeep_Int.sound : SoundF Try.prog 60 steelyardkeep_Int.R :=
  Den.sound (l := [(61, steelyardkeep_Nat.R)]) (orc_cons steelyardkeep_Nat.sound (orc_nil)) Try.func60 (by kernel_rfl) (by kernel_rfl) (by decide +kernel) fun _ _ hR => steelyardkeep_Int.body rfl (fun _ _ h => (.inl ⟨rfl, h⟩)) hR rfl
end Go.Proofs.Yticngjjdjmadgaa.PU
end
section
set_option linter.unusedVariables false
set_option linter.unusedSimpArgs false
namespace Go.Proofs.Yticngjjdjmadgaa.PU
open Go Go.RowKit Go.Proofs.YticngjjdjmadgaaW.PrintWords Go.Proofs.YticngjjdjmadgaaW.PrintMore Go.Proofs.Yticngjjdjmadgaa.Den Go.Proofs.Yticngjjdjmadgaa.PL
def steelyardkeep_Rat.R (us : List U) (u : U) : Prop := ∃ (k : Nat) (a0_0 : Bool) (l0_1 : List Int) (l0_2 : List Int) (a1_0 : Bool) (l1_1 : List Int) (l1_2 : List Int) (r : Bool), us = [.agg [.v (.bool a0_0), .l l0_1, .l l0_2], .agg [.v (.bool a1_0), .l l1_1, .l l1_2]] ∧ steelyardkeep_Rat.f k a0_0 l0_1 l0_2 a1_0 l1_1 l1_2 = some r ∧ u = .v (.bool r)
theorem steelyardkeep_Rat.I {k : Nat} {a0_0 : Bool} {l0_1 : List Int} {l0_2 : List Int} {a1_0 : Bool} {l1_1 : List Int} {l1_2 : List Int} {r : Bool} (h : steelyardkeep_Rat.f k a0_0 l0_1 l0_2 a1_0 l1_1 l1_2 = some r) : steelyardkeep_Rat.R [.agg [.v (.bool a0_0), .l l0_1, .l l0_2], .agg [.v (.bool a1_0), .l l1_1, .l l1_2]] (.v (.bool r)) := ⟨_, _, _, _, _, _, _, _, rfl, h, rfl⟩
theorem steelyardkeep_Rat.J {k : Nat} {a0_0 : Bool} {l0_1 : List Int} {l0_2 : List Int} {a1_0 : Bool} {l1_1 : List Int} {l1_2 : List Int} {r : Bool} (h : steelyardkeep_Rat.f k a0_0 l0_1 l0_2 a1_0 l1_1 l1_2 = some r) {us : List U} (hus : us = [.agg [.v (.bool a0_0), .l l0_1, .l l0_2], .agg [.v (.bool a1_0), .l l1_1, .l l1_2]]) : steelyardkeep_Rat.R us (.v (.bool r)) := ⟨_, _, _, _, _, _, _, _, hus, h, rfl⟩
theorem steelyardkeep_Rat.E {β : Type} {k : Nat} {a0_0 : Bool} {l0_1 : List Int} {l0_2 : List Int} {a1_0 : Bool} {l1_1 : List Int} {l1_2 : List Int} {g : Bool → Option β} {z : β} {Q : Prop} (h : (steelyardkeep_Rat.f k a0_0 l0_1 l0_2 a1_0 l1_1 l1_2).bind g = some z) (c : ∀ (r : Bool), steelyardkeep_Rat.f k a0_0 l0_1 l0_2 a1_0 l1_1 l1_2 = some r → g r = some z → Q) : Q := by
  obtain ⟨p, h1, h2⟩ := Option.bind_eq_some_iff.1 h
  exact c p h1 h2
set_option maxHeartbeats 4000000 in
set_option maxRecDepth 100000 in
theorem steelyardkeep_Rat.body {D : Dat} {C : Orc} (hD : D = real) (h60 : ∀ us u, steelyardkeep_Int.R us u → C 60 us u) (h61 : ∀ us u, steelyardkeep_Nat.R us u → C 61 us u) {us : List U} {u : U} (hR : steelyardkeep_Rat.R us u) {Q : Prop} (hQ : body tys D C Try.f21 us u = Q) : Q := by
  obtain ⟨k, a0_0, l0_1, l0_2, a1_0, l1_1, l1_2, r, rfl, h, hu⟩ := hR
  obtain ⟨len, add, sub, mul, rem, neg, conv, max, eq, ne, lt, le, nth, zeros, copy, cpd, bor⟩ := D
  simp only [real, Dat.mk.injEq] at hD
  obtain ⟨elen, eadd, esub, emul, erem, eneg, econv, emax, eeq, ene, elt, ele, enth, ezeros, ecopy, ecpd, ebor⟩ := hD
  have hE := And.intro elen (And.intro eadd (And.intro esub (And.intro emul (And.intro erem (And.intro eneg (And.intro econv (And.intro ebor (And.intro emax (And.intro eeq (And.intro ene (And.intro elt ele)))))))))))
  cases a0_0 <;>
  cases a1_0 <;>
  unfold steelyardkeep_Rat.f at h <;>
  (repeat' first
    | (simp (maxSteps := 2000000) only [↓reduceIte, Bool.false_eq_true, Bool.not_true, Bool.not_false, reduceCtorEq, b00, b01, b10, b11, n00, n01, n10, n11] at h; done)
    | (simp (maxSteps := 2000000) only [↓reduceIte, Bool.false_eq_true, Bool.not_true, Bool.not_false, Option.bind_some, splice_self, b00, b01, b10, b11, n00, n01, n10, n11] at h)
    | (with_reducible refine steelyardkeep_Int.E h ?_; clear h; rintro (_ | _) _ h)
    | (with_reducible refine steelyardkeep_Nat.E h ?_; clear h; rintro _ _ h)
    | (simp (maxSteps := 2000000) only [↓reduceIte, Bool.false_eq_true, Bool.not_true, Bool.not_false, reduceCtorEq, decide_eq_true_eq, bne_iff_ne, ne_eq, beq_iff_eq, Option.bind_some, splice_self, b00, b01, b10, b11, n00, n01, n10, n11] at h)
    | (with_reducible refine iteE h ?_ ?_ <;> clear h <;> intro _ h)
    | (split at h)) <;>
  (injection h with h) <;>
  (try simp only [Prod.mk.injEq] at h) <;>
  (subst h) <;>
  (rw [← hQ]; clear hQ) <;>
  (cbv) <;>
  (repeat first
    | ((with_reducible refine E2 (h60 _ _ (steelyardkeep_Int.I ‹_›)) ?_); cbv)
    | ((with_reducible apply E2); (· with_reducible apply h60; simp only [hE, w64, mxE]; exact steelyardkeep_Int.I ‹_›); cbv)
    | ((with_reducible refine E2 (h60 _ _ (steelyardkeep_Int.J ‹steelyardkeep_Int.f _ _ _ _ _ = some _› ?_)) ?_); (· simp only [hE, w64, mxE]; try rfl); cbv)
    | ((with_reducible refine E2 (h61 _ _ (steelyardkeep_Nat.I ‹_›)) ?_); cbv)
    | ((with_reducible apply E2); (· with_reducible apply h61; simp only [hE, w64, mxE]; exact steelyardkeep_Nat.I ‹_›); cbv)
    | ((with_reducible refine E2 (h61 _ _ (steelyardkeep_Nat.J ‹steelyardkeep_Nat.f _ _ _ = some _› ?_)) ?_); (· simp only [hE, w64, mxE]; try rfl); cbv)
    | ((with_reducible refine t1 ?_ ?_); (· (simp only [hE, w64, decide_eq_true_eq, decide_eq_false_iff_not]; first | assumption | omega)); intro hb_; (try simp only [hb_]); cbv)
    | ((with_reducible refine t2 ?_ ?_); (· (simp only [hE, w64, decide_eq_true_eq, decide_eq_false_iff_not]; first | assumption | omega)); intro hb_; (try simp only [hb_]); cbv)
    | ((with_reducible refine t3 ?_ ?_); (· (simp only [hE, w64, decide_eq_true_eq, decide_eq_false_iff_not]; first | assumption | omega)); intro hb_; (try simp only [hb_]); cbv)
    | ((with_reducible refine t4 ?_ ?_); (· (simp only [hE, w64, decide_eq_true_eq, decide_eq_false_iff_not]; first | assumption | omega)); intro hb_; (try simp only [hb_]); cbv)
    | (rw [hu]; done)
    | (rw [hu]; simp only [hE, w64]; done)
    | (rw [hu]; simp only [hE, w64]; rfl)
    | (rw [hu]; simp only [hE, w64, Option.some.injEq, U.agg.injEq, U.tup.injEq, U.v.injEq, List.cons.injEq, Value.bool.injEq, and_true, true_and, decide_eq_true_eq, decide_eq_false_iff_not]; first | assumption | omega))
theorem steelyardkeep_Rat.sound : SoundF Try.prog 21 steelyardkeep_Rat.R :=
  Den.sound (l := [(60, steelyardkeep_Int.R), (61, steelyardkeep_Nat.R)]) (orc_cons steelyardkeep_Int.sound (orc_cons steelyardkeep_Nat.sound (orc_nil))) Try.func21 (by kernel_rfl) (by kernel_rfl) (by decide +kernel) fun _ _ hR => steelyardkeep_Rat.body rfl (fun _ _ h => (.inl ⟨rfl, h⟩)) (fun _ _ h => (.inr (.inl ⟨rfl, h⟩))) hR rfl
end Go.Proofs.Yticngjjdjmadgaa.PU
end
section
set_option linter.unusedVariables false
set_option linter.unusedSimpArgs false
namespace Go.Proofs.Yticngjjdjmadgaa.PU
open Go Go.RowKit Go.Proofs.YticngjjdjmadgaaW.PrintWords Go.Proofs.YticngjjdjmadgaaW.PrintMore Go.Proofs.Yticngjjdjmadgaa.Den Go.Proofs.Yticngjjdjmadgaa.PL
def steelyardref07_Good.R (us : List U) (u : U) : Prop := ∃ (k : Nat) (a0_0 : Bool) (l0_1 : List Int) (l0_2 : List Int) (r : Bool), us = [.agg [.v (.bool a0_0), .l l0_1, .l l0_2]] ∧ steelyardref07_Good.f k a0_0 l0_1 l0_2 = some r ∧ u = .v (.bool r)
theorem steelyardref07_Good.I {k : Nat} {a0_0 : Bool} {l0_1 : List Int} {l0_2 : List Int} {r : Bool} (h : steelyardref07_Good.f k a0_0 l0_1 l0_2 = some r) : steelyardref07_Good.R [.agg [.v (.bool a0_0), .l l0_1, .l l0_2]] (.v (.bool r)) := ⟨_, _, _, _, _, rfl, h, rfl⟩
theorem steelyardref07_Good.J {k : Nat} {a0_0 : Bool} {l0_1 : List Int} {l0_2 : List Int} {r : Bool} (h : steelyardref07_Good.f k a0_0 l0_1 l0_2 = some r) {us : List U} (hus : us = [.agg [.v (.bool a0_0), .l l0_1, .l l0_2]]) : steelyardref07_Good.R us (.v (.bool r)) := ⟨_, _, _, _, _, hus, h, rfl⟩
theorem steelyardref07_Good.E {β : Type} {k : Nat} {a0_0 : Bool} {l0_1 : List Int} {l0_2 : List Int} {g : Bool → Option β} {z : β} {Q : Prop} (h : (steelyardref07_Good.f k a0_0 l0_1 l0_2).bind g = some z) (c : ∀ (r : Bool), steelyardref07_Good.f k a0_0 l0_1 l0_2 = some r → g r = some z → Q) : Q := by
  obtain ⟨p, h1, h2⟩ := Option.bind_eq_some_iff.1 h
  exact c p h1 h2
set_option maxHeartbeats 4000000 in
set_option maxRecDepth 100000 in
theorem steelyardref07_Good.body {D : Dat} {C : Orc} (hD : D = real) (h62 : ∀ us u, steelyardref07_trimmed.R us u → C 62 us u) (h63 : ∀ us u, steelyardref03_Gcd.R us u → C 63 us u) {us : List U} {u : U} (hR : steelyardref07_Good.R us u) {Q : Prop} (hQ : body tys D C Try.f22 us u = Q) : Q := by
  obtain ⟨k, a0_0, l0_1, l0_2, r, rfl, h, hu⟩ := hR
  obtain ⟨len, add, sub, mul, rem, neg, conv, max, eq, ne, lt, le, nth, zeros, copy, cpd, bor⟩ := D
  simp only [real, Dat.mk.injEq] at hD
  obtain ⟨elen, eadd, esub, emul, erem, eneg, econv, emax, eeq, ene, elt, ele, enth, ezeros, ecopy, ecpd, ebor⟩ := hD
  have hE := And.intro elen (And.intro eadd (And.intro esub (And.intro emul (And.intro erem (And.intro eneg (And.intro econv (And.intro ebor (And.intro emax (And.intro eeq (And.intro ene (And.intro elt ele)))))))))))
  obtain ⟨nv, hnv⟩ : ∃ nv : List Int → Int → Int, nv = rd := ⟨rd, rfl⟩
  cases a0_0 <;>
  unfold steelyardref07_Good.f at h <;>
  (repeat' first
    | (simp (maxSteps := 2000000) only [↓reduceIte, Bool.false_eq_true, Bool.not_true, Bool.not_false, reduceCtorEq, b00, b01, b10, b11, n00, n01, n10, n11] at h; done)
    | (simp (maxSteps := 2000000) only [↓reduceIte, Bool.false_eq_true, Bool.not_true, Bool.not_false, Option.bind_some, splice_self, b00, b01, b10, b11, n00, n01, n10, n11] at h)
    | (rw [‹steelyardref07_trimmed.f _ = some _›] at h; simp only [Option.bind_some] at h)
    | (with_reducible refine steelyardref07_trimmed.E h ?_; clear h; rintro (_ | _) _ h)
    | (rw [‹steelyardref03_Gcd.f _ _ _ = some _›] at h; simp only [Option.bind_some] at h)
    | (with_reducible refine steelyardref03_Gcd.E h ?_; clear h; rintro _ _ h)
    | (simp (maxSteps := 2000000) only [↓reduceIte, Bool.false_eq_true, Bool.not_true, Bool.not_false, reduceCtorEq, decide_eq_true_eq, bne_iff_ne, ne_eq, beq_iff_eq, Option.bind_some, splice_self, b00, b01, b10, b11, n00, n01, n10, n11] at h)
    | (with_reducible refine iteE h ?_ ?_ <;> clear h <;> intro _ h)
    | (split at h)) <;>
  (injection h with h) <;>
  (try simp only [Prod.mk.injEq] at h) <;>
  (subst h) <;>
  (rw [← hQ]; clear hQ) <;>
  (cbv) <;>
  (repeat first
    | ((rw [nthE enth hnv]); rotate_left; (· omega); (· omega); cbv)
    | ((with_reducible refine E2 (h62 _ _ (steelyardref07_trimmed.I ‹_›)) ?_); cbv)
    | ((with_reducible apply E2); (· with_reducible apply h62; simp only [hE, w64, mxE]; exact steelyardref07_trimmed.I ‹_›); cbv)
    | ((with_reducible refine E2 (h62 _ _ (steelyardref07_trimmed.J ‹steelyardref07_trimmed.f _ = some _› ?_)) ?_); (· simp only [hE, w64, mxE]; try rfl); cbv)
    | ((with_reducible refine E2 (h63 _ _ (steelyardref03_Gcd.I ‹_›)) ?_); cbv)
    | ((with_reducible apply E2); (· with_reducible apply h63; simp only [hE, w64, mxE]; exact steelyardref03_Gcd.I ‹_›); cbv)
    | ((with_reducible refine E2 (h63 _ _ (steelyardref03_Gcd.J ‹steelyardref03_Gcd.f _ _ _ = some _› ?_)) ?_); (· simp only [hE, w64, mxE]; try rfl); cbv)
    | ((with_reducible refine t1 ?_ ?_); (· (simp only [hE, w64, decide_eq_true_eq, decide_eq_false_iff_not]; first | assumption | omega)); intro hb_; (try simp only [hb_]); cbv)
    | ((with_reducible refine t2 ?_ ?_); (· (simp only [hE, w64, decide_eq_true_eq, decide_eq_false_iff_not]; first | assumption | omega)); intro hb_; (try simp only [hb_]); cbv)
    | ((with_reducible refine t3 ?_ ?_); (· (simp only [hE, w64, decide_eq_true_eq, decide_eq_false_iff_not]; first | assumption | omega)); intro hb_; (try simp only [hb_]); cbv)
    | ((with_reducible refine t4 ?_ ?_); (· (simp only [hE, w64, decide_eq_true_eq, decide_eq_false_iff_not]; first | assumption | omega)); intro hb_; (try simp only [hb_]); cbv)
    | (rw [hu]; done)
    | (rw [hu]; simp only [hnv, hE, w64]; done)
    | (rw [hu]; simp only [hnv, hE, w64]; rfl)
    | (rw [hu]; simp only [hE, w64, Option.some.injEq, U.agg.injEq, U.tup.injEq, U.v.injEq, List.cons.injEq, Value.bool.injEq, and_true, true_and, decide_eq_true_eq, decide_eq_false_iff_not]; first | assumption | omega))
theorem steelyardref07_Good.sound : SoundF Try.prog 22 steelyardref07_Good.R :=
  Den.sound (l := [(62, steelyardref07_trimmed.R), (63, steelyardref03_Gcd.R)]) (orc_cons steelyardref07_trimmed.sound (orc_cons steelyardref03_Gcd.sound (orc_nil))) Try.func22 (by kernel_rfl) (by kernel_rfl) (by decide +kernel) fun _ _ hR => steelyardref07_Good.body rfl (fun _ _ h => (.inl ⟨rfl, h⟩)) (fun _ _ h => (.inr (.inl ⟨rfl, h⟩))) hR rfl
end Go.Proofs.Yticngjjdjmadgaa.PU
end
section
set_option linter.unusedVariables false
namespace Go.Proofs.Yticngjjdjmadgaa.PU
open Go Go.RowKit Go.Proofs.YticngjjdjmadgaaW.PrintWords Go.Proofs.YticngjjdjmadgaaW.PrintMore Go.Proofs.Yticngjjdjmadgaa.PL
theorem whole_made.mono : ∀ a0 a1 k, LeO (whole_made.f k a0 a1) (whole_made.f (k + 1) a0 a1) := by
  intro a0 a1 k
  unfold whole_made.f
  repeat' first
      | (with_reducible exact nat_Trim.mono _ _)
      | (with_reducible exact LeO.refl _)
      | (with_reducible exact LeO.none _)
      | (with_reducible refine LeO.ite ?_ ?_)
      | (with_reducible refine LeO.bind ?_ (fun _ => ?_))
      | exact nat_Trim.mono _ _
      | exact LeO.none _
      | refine LeO.ite ?_ ?_
      | refine LeO.bind ?_ (fun _ => ?_)
theorem whole_Trim.mono : ∀ a0 a1 k, LeO (whole_Trim.f k a0 a1) (whole_Trim.f (k + 1) a0 a1) := by
  intro a0 a1 k
  unfold whole_Trim.f
  repeat' first
      | (with_reducible exact whole_made.mono _ _ _)
      | (with_reducible exact LeO.refl _)
      | (with_reducible exact LeO.none _)
      | (with_reducible refine LeO.ite ?_ ?_)
      | (with_reducible refine LeO.bind ?_ (fun _ => ?_))
      | exact whole_made.mono _ _ _
      | exact LeO.none _
      | refine LeO.ite ?_ ?_
      | refine LeO.bind ?_ (fun _ => ?_)
theorem rat_Of.mono : ∀ a0 a1 a2 k, LeO (rat_Of.f k a0 a1 a2) (rat_Of.f (k + 1) a0 a1 a2) := by
  intro a0 a1 a2 k
  unfold rat_Of.f
  repeat' first
      | (with_reducible exact nat_Trim.mono _ _)
      | (with_reducible exact quo_Gcd.mono _ _ _)
      | (with_reducible exact quo_Rem.mono _ _ _)
      | (with_reducible exact whole_Trim.mono _ _ _)
      | (with_reducible exact LeO.refl _)
      | (with_reducible exact LeO.none _)
      | (with_reducible refine LeO.ite ?_ ?_)
      | (with_reducible refine LeO.bind ?_ (fun _ => ?_))
      | exact nat_Trim.mono _ _
      | exact quo_Gcd.mono _ _ _
      | exact quo_Rem.mono _ _ _
      | exact whole_Trim.mono _ _ _
      | exact LeO.none _
      | refine LeO.ite ?_ ?_
      | refine LeO.bind ?_ (fun _ => ?_)
theorem rat_Good.mono_l : ∀ k, (∀ y0 y1 y2, LeO (rat_Good.j0 k y0 y1 y2) (rat_Good.j0 (k + 1) y0 y1 y2))
  | 0 => fun _ _ _ r h => by simp [rat_Good.j0] at h
  | k + 1 => by
    have ih0 := rat_Good.mono_l k
    · intro y0 y1 y2
      unfold rat_Good.j0
      repeat' first
      | (with_reducible exact ih0 _ _ _)
      | (with_reducible exact nat_Cmp.mono _ _ _)
      | (with_reducible exact nat_Of.mono _ _)
      | (with_reducible exact quo_Gcd.mono _ _ _)
      | (with_reducible exact LeO.refl _)
      | (with_reducible exact LeO.none _)
      | (with_reducible refine LeO.ite ?_ ?_)
      | (with_reducible refine LeO.bind ?_ (fun _ => ?_))
      | exact ih0 _ _ _
      | exact nat_Cmp.mono _ _ _
      | exact nat_Of.mono _ _
      | exact quo_Gcd.mono _ _ _
      | exact LeO.none _
      | refine LeO.ite ?_ ?_
      | refine LeO.bind ?_ (fun _ => ?_)
theorem rat_Good.mono : ∀ a0 a1 a2 k, LeO (rat_Good.f k a0 a1 a2) (rat_Good.f (k + 1) a0 a1 a2) := by
  intro a0 a1 a2 k
  have ih0 := rat_Good.mono_l k
  unfold rat_Good.f
  repeat' first
      | (with_reducible exact ih0 _ _ _)
      | (with_reducible exact nat_Cmp.mono _ _ _)
      | (with_reducible exact nat_Of.mono _ _)
      | (with_reducible exact quo_Gcd.mono _ _ _)
      | (with_reducible exact LeO.refl _)
      | (with_reducible exact LeO.none _)
      | (with_reducible refine LeO.ite ?_ ?_)
      | (with_reducible refine LeO.bind ?_ (fun _ => ?_))
      | exact ih0 _ _ _
      | exact nat_Cmp.mono _ _ _
      | exact nat_Of.mono _ _
      | exact quo_Gcd.mono _ _ _
      | exact LeO.none _
      | refine LeO.ite ?_ ?_
      | refine LeO.bind ?_ (fun _ => ?_)
theorem whole_Of.mono : ∀ a0 k, LeO (whole_Of.f k a0) (whole_Of.f (k + 1) a0) := by
  intro a0 k
  unfold whole_Of.f
  repeat' first
      | (with_reducible exact nat_Of.mono _ _)
      | (with_reducible exact whole_made.mono _ _ _)
      | (with_reducible exact LeO.refl _)
      | (with_reducible exact LeO.none _)
      | (with_reducible refine LeO.ite ?_ ?_)
      | (with_reducible refine LeO.bind ?_ (fun _ => ?_))
      | exact nat_Of.mono _ _
      | exact whole_made.mono _ _ _
      | exact LeO.none _
      | refine LeO.ite ?_ ?_
      | refine LeO.bind ?_ (fun _ => ?_)
theorem rat_Whole.mono : ∀ a0 k, LeO (rat_Whole.f k a0) (rat_Whole.f (k + 1) a0) := by
  intro a0 k
  unfold rat_Whole.f
  repeat' first
      | (with_reducible exact nat_Of.mono _ _)
      | (with_reducible exact whole_Of.mono _ _)
      | (with_reducible exact LeO.refl _)
      | (with_reducible exact LeO.none _)
      | (with_reducible refine LeO.ite ?_ ?_)
      | (with_reducible refine LeO.bind ?_ (fun _ => ?_))
      | exact nat_Of.mono _ _
      | exact whole_Of.mono _ _
      | exact LeO.none _
      | refine LeO.ite ?_ ?_
      | refine LeO.bind ?_ (fun _ => ?_)
theorem whole_Mul.mono : ∀ a0 a1 a2 a3 k, LeO (whole_Mul.f k a0 a1 a2 a3) (whole_Mul.f (k + 1) a0 a1 a2 a3) := by
  intro a0 a1 a2 a3 k
  unfold whole_Mul.f
  repeat' first
      | (with_reducible exact mul_Of.mono _ _ _)
      | (with_reducible exact whole_made.mono _ _ _)
      | (with_reducible exact LeO.refl _)
      | (with_reducible exact LeO.none _)
      | (with_reducible refine LeO.ite ?_ ?_)
      | (with_reducible refine LeO.bind ?_ (fun _ => ?_))
      | exact mul_Of.mono _ _ _
      | exact whole_made.mono _ _ _
      | exact LeO.none _
      | refine LeO.ite ?_ ?_
      | refine LeO.bind ?_ (fun _ => ?_)
theorem rat_cross.mono : ∀ a0 a1 a2 a3 a4 a5 k, LeO (rat_cross.f k a0 a1 a2 a3 a4 a5) (rat_cross.f (k + 1) a0 a1 a2 a3 a4 a5) := by
  intro a0 a1 a2 a3 a4 a5 k
  unfold rat_cross.f
  repeat' first
      | (with_reducible exact whole_Mul.mono _ _ _ _ _)
      | (with_reducible exact LeO.refl _)
      | (with_reducible exact LeO.none _)
      | (with_reducible refine LeO.ite ?_ ?_)
      | (with_reducible refine LeO.bind ?_ (fun _ => ?_))
      | exact whole_Mul.mono _ _ _ _ _
      | exact LeO.none _
      | refine LeO.ite ?_ ?_
      | refine LeO.bind ?_ (fun _ => ?_)
theorem rat_Div.mono_l : ∀ k, (∀ y0 y1 y2 y3 y4 y5 y6, LeO (rat_Div.j0 k y0 y1 y2 y3 y4 y5 y6) (rat_Div.j0 (k + 1) y0 y1 y2 y3 y4 y5 y6))
  | 0 => fun _ _ _ _ _ _ _ r h => by simp [rat_Div.j0] at h
  | k + 1 => by
    have ih0 := rat_Div.mono_l k
    · intro y0 y1 y2 y3 y4 y5 y6
      unfold rat_Div.j0
      repeat' first
      | (with_reducible exact ih0 _ _ _ _ _ _ _)
      | (with_reducible exact mul_Of.mono _ _ _)
      | (with_reducible exact rat_Good.mono _ _ _ _)
      | (with_reducible exact rat_Of.mono _ _ _ _)
      | (with_reducible exact rat_cross.mono _ _ _ _ _ _ _)
      | (with_reducible exact LeO.refl _)
      | (with_reducible exact LeO.none _)
      | (with_reducible refine LeO.ite ?_ ?_)
      | (with_reducible refine LeO.bind ?_ (fun _ => ?_))
      | exact ih0 _ _ _ _ _ _ _
      | exact mul_Of.mono _ _ _
      | exact rat_Good.mono _ _ _ _
      | exact rat_Of.mono _ _ _ _
      | exact rat_cross.mono _ _ _ _ _ _ _
      | exact LeO.none _
      | refine LeO.ite ?_ ?_
      | refine LeO.bind ?_ (fun _ => ?_)
theorem rat_Div.mono : ∀ a0 a1 a2 a3 a4 a5 k, LeO (rat_Div.f k a0 a1 a2 a3 a4 a5) (rat_Div.f (k + 1) a0 a1 a2 a3 a4 a5) := by
  intro a0 a1 a2 a3 a4 a5 k
  have ih0 := rat_Div.mono_l k
  unfold rat_Div.f
  repeat' first
      | (with_reducible exact ih0 _ _ _ _ _ _ _)
      | (with_reducible exact mul_Of.mono _ _ _)
      | (with_reducible exact rat_Good.mono _ _ _ _)
      | (with_reducible exact rat_Of.mono _ _ _ _)
      | (with_reducible exact rat_cross.mono _ _ _ _ _ _ _)
      | (with_reducible exact LeO.refl _)
      | (with_reducible exact LeO.none _)
      | (with_reducible refine LeO.ite ?_ ?_)
      | (with_reducible refine LeO.bind ?_ (fun _ => ?_))
      | exact ih0 _ _ _ _ _ _ _
      | exact mul_Of.mono _ _ _
      | exact rat_Good.mono _ _ _ _
      | exact rat_Of.mono _ _ _ _
      | exact rat_cross.mono _ _ _ _ _ _ _
      | exact LeO.none _
      | refine LeO.ite ?_ ?_
      | refine LeO.bind ?_ (fun _ => ?_)
theorem power_turned.mono : ∀ a0 a1 a2 k, LeO (power_turned.f k a0 a1 a2) (power_turned.f (k + 1) a0 a1 a2) := by
  intro a0 a1 a2 k
  unfold power_turned.f
  repeat' first
      | (with_reducible exact rat_Div.mono _ _ _ _ _ _ _)
      | (with_reducible exact rat_Whole.mono _ _)
      | (with_reducible exact LeO.refl _)
      | (with_reducible exact LeO.none _)
      | (with_reducible refine LeO.ite ?_ ?_)
      | (with_reducible refine LeO.bind ?_ (fun _ => ?_))
      | exact rat_Div.mono _ _ _ _ _ _ _
      | exact rat_Whole.mono _ _
      | exact LeO.none _
      | refine LeO.ite ?_ ?_
      | refine LeO.bind ?_ (fun _ => ?_)
theorem power_Of.mono_l : ∀ k, (∀ y0 y1 y2 y3, LeO (power_Of.f k y0 y1 y2 y3) (power_Of.f (k + 1) y0 y1 y2 y3))
  | 0 => fun _ _ _ _ r h => by simp [power_Of.f] at h
  | k + 1 => by
    have ih0 := power_Of.mono_l k
    · intro y0 y1 y2 y3
      unfold power_Of.f
      repeat' first
      | (with_reducible exact ih0 _ _ _ _)
      | (with_reducible exact mul_Pow.mono _ _ _)
      | (with_reducible exact power_turned.mono _ _ _ _)
      | (with_reducible exact rat_Good.mono _ _ _ _)
      | (with_reducible exact rat_Of.mono _ _ _ _)
      | (with_reducible exact rat_Whole.mono _ _)
      | (with_reducible exact LeO.refl _)
      | (with_reducible exact LeO.none _)
      | (with_reducible refine LeO.ite ?_ ?_)
      | (with_reducible refine LeO.bind ?_ (fun _ => ?_))
      | exact ih0 _ _ _ _
      | exact mul_Pow.mono _ _ _
      | exact power_turned.mono _ _ _ _
      | exact rat_Good.mono _ _ _ _
      | exact rat_Of.mono _ _ _ _
      | exact rat_Whole.mono _ _
      | exact LeO.none _
      | refine LeO.ite ?_ ?_
      | refine LeO.bind ?_ (fun _ => ?_)
theorem power_Of.mono : ∀ a0 a1 a2 a3 k, LeO (power_Of.f k a0 a1 a2 a3) (power_Of.f (k + 1) a0 a1 a2 a3) := by
  intro a0 a1 a2 a3 k
  have ih0 := power_Of.mono_l k
  exact ih0 a0 a1 a2 a3
theorem steelyardkeep_Int.mono : ∀ a0 a1 a2 a3 k, LeO (steelyardkeep_Int.f k a0 a1 a2 a3) (steelyardkeep_Int.f (k + 1) a0 a1 a2 a3) := by
  intro a0 a1 a2 a3 k
  unfold steelyardkeep_Int.f
  repeat' first
      | (with_reducible exact steelyardkeep_Nat.mono _ _ _)
      | (with_reducible exact LeO.refl _)
      | (with_reducible exact LeO.none _)
      | (with_reducible refine LeO.ite ?_ ?_)
      | (with_reducible refine LeO.bind ?_ (fun _ => ?_))
      | exact steelyardkeep_Nat.mono _ _ _
      | exact LeO.none _
      | refine LeO.ite ?_ ?_
      | refine LeO.bind ?_ (fun _ => ?_)
theorem steelyardkeep_Rat.mono : ∀ a0 a1 a2 a3 a4 a5 k, LeO (steelyardkeep_Rat.f k a0 a1 a2 a3 a4 a5) (steelyardkeep_Rat.f (k + 1) a0 a1 a2 a3 a4 a5) := by
  intro a0 a1 a2 a3 a4 a5 k
  unfold steelyardkeep_Rat.f
  repeat' first
      | (with_reducible exact steelyardkeep_Int.mono _ _ _ _ _)
      | (with_reducible exact steelyardkeep_Nat.mono _ _ _)
      | (with_reducible exact LeO.refl _)
      | (with_reducible exact LeO.none _)
      | (with_reducible refine LeO.ite ?_ ?_)
      | (with_reducible refine LeO.bind ?_ (fun _ => ?_))
      | exact steelyardkeep_Int.mono _ _ _ _ _
      | exact steelyardkeep_Nat.mono _ _ _
      | exact LeO.none _
      | refine LeO.ite ?_ ?_
      | refine LeO.bind ?_ (fun _ => ?_)
theorem steelyardref07_Good.mono : ∀ a0 a1 a2 k, LeO (steelyardref07_Good.f k a0 a1 a2) (steelyardref07_Good.f (k + 1) a0 a1 a2) := by
  intro a0 a1 a2 k
  unfold steelyardref07_Good.f
  repeat' first
      | (with_reducible exact steelyardref03_Gcd.mono _ _ _)
      | (with_reducible exact LeO.refl _)
      | (with_reducible exact LeO.none _)
      | (with_reducible refine LeO.ite ?_ ?_)
      | (with_reducible refine LeO.bind ?_ (fun _ => ?_))
      | exact steelyardref03_Gcd.mono _ _ _
      | exact LeO.none _
      | refine LeO.ite ?_ ?_
      | refine LeO.bind ?_ (fun _ => ?_)
theorem power_Scale.mono : ∀ a0 a1 a2 a3 k, LeO (power_Scale.f k a0 a1 a2 a3) (power_Scale.f (k + 1) a0 a1 a2 a3) := by
  intro a0 a1 a2 a3 k
  unfold power_Scale.f
  repeat' first
      | (with_reducible exact mul_Of.mono _ _ _)
      | (with_reducible exact mul_Pow.mono _ _ _)
      | (with_reducible exact nat_Of.mono _ _)
      | (with_reducible exact rat_Good.mono _ _ _ _)
      | (with_reducible exact rat_Of.mono _ _ _ _)
      | (with_reducible exact LeO.refl _)
      | (with_reducible exact LeO.none _)
      | (with_reducible refine LeO.ite ?_ ?_)
      | (with_reducible refine LeO.bind ?_ (fun _ => ?_))
      | exact mul_Of.mono _ _ _
      | exact mul_Pow.mono _ _ _
      | exact nat_Of.mono _ _
      | exact rat_Good.mono _ _ _ _
      | exact rat_Of.mono _ _ _ _
      | exact LeO.none _
      | refine LeO.ite ?_ ?_
      | refine LeO.bind ?_ (fun _ => ?_)
theorem steelyardref06_Make.mono : ∀ a0 a1 k, LeO (steelyardref06_Make.f k a0 a1) (steelyardref06_Make.f (k + 1) a0 a1) := by
  intro a0 a1 k
  unfold steelyardref06_Make.f
  repeat' first
      | (with_reducible exact steelyardref01_Trim.mono _ _)
      | (with_reducible exact LeO.refl _)
      | (with_reducible exact LeO.none _)
      | (with_reducible refine LeO.ite ?_ ?_)
      | (with_reducible refine LeO.bind ?_ (fun _ => ?_))
      | exact steelyardref01_Trim.mono _ _
      | exact LeO.none _
      | refine LeO.ite ?_ ?_
      | refine LeO.bind ?_ (fun _ => ?_)
theorem steelyardref06_Trim.mono : ∀ a0 a1 k, LeO (steelyardref06_Trim.f k a0 a1) (steelyardref06_Trim.f (k + 1) a0 a1) := by
  intro a0 a1 k
  unfold steelyardref06_Trim.f
  repeat' first
      | (with_reducible exact steelyardref06_Make.mono _ _ _)
      | (with_reducible exact LeO.refl _)
      | (with_reducible exact LeO.none _)
      | (with_reducible refine LeO.ite ?_ ?_)
      | (with_reducible refine LeO.bind ?_ (fun _ => ?_))
      | exact steelyardref06_Make.mono _ _ _
      | exact LeO.none _
      | refine LeO.ite ?_ ?_
      | refine LeO.bind ?_ (fun _ => ?_)
theorem steelyardref06_Mul.mono : ∀ a0 a1 a2 a3 k, LeO (steelyardref06_Mul.f k a0 a1 a2 a3) (steelyardref06_Mul.f (k + 1) a0 a1 a2 a3) := by
  intro a0 a1 a2 a3 k
  unfold steelyardref06_Mul.f
  repeat' first
      | (with_reducible exact steelyardref02_Of.mono _ _ _)
      | (with_reducible exact steelyardref06_Make.mono _ _ _)
      | (with_reducible exact steelyardref06_Trim.mono _ _ _)
      | (with_reducible exact LeO.refl _)
      | (with_reducible exact LeO.none _)
      | (with_reducible refine LeO.ite ?_ ?_)
      | (with_reducible refine LeO.bind ?_ (fun _ => ?_))
      | exact steelyardref02_Of.mono _ _ _
      | exact steelyardref06_Make.mono _ _ _
      | exact steelyardref06_Trim.mono _ _ _
      | exact LeO.none _
      | refine LeO.ite ?_ ?_
      | refine LeO.bind ?_ (fun _ => ?_)
theorem steelyardref07_Wide.mono : ∀ a0 a1 a2 k, LeO (steelyardref07_Wide.f k a0 a1 a2) (steelyardref07_Wide.f (k + 1) a0 a1 a2) := by
  intro a0 a1 a2 k
  unfold steelyardref07_Wide.f
  repeat' first
      | (with_reducible exact steelyardref03_Gcd.mono _ _ _)
      | (with_reducible exact steelyardref03_Rem.mono _ _ _)
      | (with_reducible exact steelyardref06_Make.mono _ _ _)
      | (with_reducible exact steelyardref06_Trim.mono _ _ _)
      | (with_reducible exact LeO.refl _)
      | (with_reducible exact LeO.none _)
      | (with_reducible refine LeO.ite ?_ ?_)
      | (with_reducible refine LeO.bind ?_ (fun _ => ?_))
      | exact steelyardref03_Gcd.mono _ _ _
      | exact steelyardref03_Rem.mono _ _ _
      | exact steelyardref06_Make.mono _ _ _
      | exact steelyardref06_Trim.mono _ _ _
      | exact LeO.none _
      | refine LeO.ite ?_ ?_
      | refine LeO.bind ?_ (fun _ => ?_)
theorem steelyardref07_Times.mono : ∀ a0 a1 a2 a3 a4 a5 k, LeO (steelyardref07_Times.f k a0 a1 a2 a3 a4 a5) (steelyardref07_Times.f (k + 1) a0 a1 a2 a3 a4 a5) := by
  intro a0 a1 a2 a3 a4 a5 k
  unfold steelyardref07_Times.f
  repeat' first
      | (with_reducible exact steelyardref02_Of.mono _ _ _)
      | (with_reducible exact steelyardref06_Mul.mono _ _ _ _ _)
      | (with_reducible exact steelyardref07_Wide.mono _ _ _ _)
      | (with_reducible exact LeO.refl _)
      | (with_reducible exact LeO.none _)
      | (with_reducible refine LeO.ite ?_ ?_)
      | (with_reducible refine LeO.bind ?_ (fun _ => ?_))
      | exact steelyardref02_Of.mono _ _ _
      | exact steelyardref06_Mul.mono _ _ _ _ _
      | exact steelyardref07_Wide.mono _ _ _ _
      | exact LeO.none _
      | refine LeO.ite ?_ ?_
      | refine LeO.bind ?_ (fun _ => ?_)
theorem steelyardref07_Div.mono_l : ∀ k, (∀ y0 y1 y2 y3 y4 y5 y6, LeO (steelyardref07_Div.j0 k y0 y1 y2 y3 y4 y5 y6) (steelyardref07_Div.j0 (k + 1) y0 y1 y2 y3 y4 y5 y6))
  | 0 => fun _ _ _ _ _ _ _ r h => by simp [steelyardref07_Div.j0] at h
  | k + 1 => by
    have ih0 := steelyardref07_Div.mono_l k
    · intro y0 y1 y2 y3 y4 y5 y6
      unfold steelyardref07_Div.j0
      repeat' first
      | (with_reducible exact ih0 _ _ _ _ _ _ _)
      | (with_reducible exact steelyardref06_Make.mono _ _ _)
      | (with_reducible exact steelyardref07_Good.mono _ _ _ _)
      | (with_reducible exact steelyardref07_Times.mono _ _ _ _ _ _ _)
      | (with_reducible exact LeO.refl _)
      | (with_reducible exact LeO.none _)
      | (with_reducible refine LeO.ite ?_ ?_)
      | (with_reducible refine LeO.bind ?_ (fun _ => ?_))
      | exact ih0 _ _ _ _ _ _ _
      | exact steelyardref06_Make.mono _ _ _
      | exact steelyardref07_Good.mono _ _ _ _
      | exact steelyardref07_Times.mono _ _ _ _ _ _ _
      | exact LeO.none _
      | refine LeO.ite ?_ ?_
      | refine LeO.bind ?_ (fun _ => ?_)
theorem steelyardref07_Div.mono : ∀ a0 a1 a2 a3 a4 a5 k, LeO (steelyardref07_Div.f k a0 a1 a2 a3 a4 a5) (steelyardref07_Div.f (k + 1) a0 a1 a2 a3 a4 a5) := by
  intro a0 a1 a2 a3 a4 a5 k
  have ih0 := steelyardref07_Div.mono_l k
  unfold steelyardref07_Div.f
  repeat' first
      | (with_reducible exact ih0 _ _ _ _ _ _ _)
      | (with_reducible exact steelyardref06_Make.mono _ _ _)
      | (with_reducible exact steelyardref07_Good.mono _ _ _ _)
      | (with_reducible exact steelyardref07_Times.mono _ _ _ _ _ _ _)
      | (with_reducible exact LeO.refl _)
      | (with_reducible exact LeO.none _)
      | (with_reducible refine LeO.ite ?_ ?_)
      | (with_reducible refine LeO.bind ?_ (fun _ => ?_))
      | exact ih0 _ _ _ _ _ _ _
      | exact steelyardref06_Make.mono _ _ _
      | exact steelyardref07_Good.mono _ _ _ _
      | exact steelyardref07_Times.mono _ _ _ _ _ _ _
      | exact LeO.none _
      | refine LeO.ite ?_ ?_
      | refine LeO.bind ?_ (fun _ => ?_)
theorem steelyardref06_Of.mono : ∀ a0 k, LeO (steelyardref06_Of.f k a0) (steelyardref06_Of.f (k + 1) a0) := by
  intro a0 k
  unfold steelyardref06_Of.f
  repeat' first
      | (with_reducible exact steelyardref01_Of.mono _ _)
      | (with_reducible exact steelyardref06_Make.mono _ _ _)
      | (with_reducible exact LeO.refl _)
      | (with_reducible exact LeO.none _)
      | (with_reducible refine LeO.ite ?_ ?_)
      | (with_reducible refine LeO.bind ?_ (fun _ => ?_))
      | exact steelyardref01_Of.mono _ _
      | exact steelyardref06_Make.mono _ _ _
      | exact LeO.none _
      | refine LeO.ite ?_ ?_
      | refine LeO.bind ?_ (fun _ => ?_)
theorem steelyardref07_Whole.mono : ∀ a0 k, LeO (steelyardref07_Whole.f k a0) (steelyardref07_Whole.f (k + 1) a0) := by
  intro a0 k
  unfold steelyardref07_Whole.f
  repeat' first
      | (with_reducible exact steelyardref06_Of.mono _ _)
      | (with_reducible exact LeO.refl _)
      | (with_reducible exact LeO.none _)
      | (with_reducible refine LeO.ite ?_ ?_)
      | (with_reducible refine LeO.bind ?_ (fun _ => ?_))
      | exact steelyardref06_Of.mono _ _
      | exact LeO.none _
      | refine LeO.ite ?_ ?_
      | refine LeO.bind ?_ (fun _ => ?_)
theorem steelyardlaw07_By.mono : ∀ a0 a1 k, LeO (steelyardlaw07_By.f k a0 a1) (steelyardlaw07_By.f (k + 1) a0 a1) := by
  intro a0 a1 k
  unfold steelyardlaw07_By.f
  repeat' first
      | (with_reducible exact steelyardref07_Div.mono _ _ _ _ _ _ _)
      | (with_reducible exact steelyardref07_Whole.mono _ _)
      | (with_reducible exact LeO.refl _)
      | (with_reducible exact LeO.none _)
      | (with_reducible refine LeO.ite ?_ ?_)
      | (with_reducible refine LeO.bind ?_ (fun _ => ?_))
      | exact steelyardref07_Div.mono _ _ _ _ _ _ _
      | exact steelyardref07_Whole.mono _ _
      | exact LeO.none _
      | refine LeO.ite ?_ ?_
      | refine LeO.bind ?_ (fun _ => ?_)
theorem steelyardlaw08_wakes.mono : ∀ k, LeO (steelyardlaw08_wakes.f k ) (steelyardlaw08_wakes.f (k + 1) ) := by
  intro  k
  unfold steelyardlaw08_wakes.f
  repeat' first
      | (with_reducible exact power_Of.mono _ _ _ _ _)
      | (with_reducible exact power_Scale.mono _ _ _ _ _)
      | (with_reducible exact rat_Whole.mono _ _)
      | (with_reducible exact steelyardkeep_Rat.mono _ _ _ _ _ _ _)
      | (with_reducible exact steelyardlaw07_By.mono _ _ _)
      | (with_reducible exact LeO.refl _)
      | (with_reducible exact LeO.none _)
      | (with_reducible refine LeO.ite ?_ ?_)
      | (with_reducible refine LeO.bind ?_ (fun _ => ?_))
      | exact power_Of.mono _ _ _ _ _
      | exact power_Scale.mono _ _ _ _ _
      | exact rat_Whole.mono _ _
      | exact steelyardkeep_Rat.mono _ _ _ _ _ _ _
      | exact steelyardlaw07_By.mono _ _ _
      | exact LeO.none _
      | refine LeO.ite ?_ ?_
      | refine LeO.bind ?_ (fun _ => ?_)
end Go.Proofs.Yticngjjdjmadgaa.PU
end
section
set_option linter.unusedVariables false
set_option linter.unusedSimpArgs false
namespace Go.Proofs.Yticngjjdjmadgaa.PU
open Go Go.RowKit Go.Proofs.YticngjjdjmadgaaW.PrintWords Go.Proofs.YticngjjdjmadgaaW.PrintMore Go.Proofs.Yticngjjdjmadgaa.Den Go.Proofs.Yticngjjdjmadgaa.PL
def power_turned.R (us : List U) (u : U) : Prop := ∃ (k : Nat) (a0_0 : Bool) (l0_1 : List Int) (l0_2 : List Int) (r1 : Bool) (r2 : List Int) (r3 : List Int) (r4 : Int), us = [.agg [.v (.bool a0_0), .l l0_1, .l l0_2]] ∧ power_turned.f k a0_0 l0_1 l0_2 = some (r1, r2, r3, r4) ∧ u = .tup [.agg [.v (.bool r1), .l r2, .l r3], .v (.int .i64 r4)]
theorem power_turned.I {k : Nat} {a0_0 : Bool} {l0_1 : List Int} {l0_2 : List Int} {r1 : Bool} {r2 : List Int} {r3 : List Int} {r4 : Int} (h : power_turned.f k a0_0 l0_1 l0_2 = some (r1, r2, r3, r4)) : power_turned.R [.agg [.v (.bool a0_0), .l l0_1, .l l0_2]] (.tup [.agg [.v (.bool r1), .l r2, .l r3], .v (.int .i64 r4)]) := ⟨_, _, _, _, _, _, _, _, rfl, h, rfl⟩
theorem power_turned.J {k : Nat} {a0_0 : Bool} {l0_1 : List Int} {l0_2 : List Int} {r1 : Bool} {r2 : List Int} {r3 : List Int} {r4 : Int} (h : power_turned.f k a0_0 l0_1 l0_2 = some (r1, r2, r3, r4)) {us : List U} (hus : us = [.agg [.v (.bool a0_0), .l l0_1, .l l0_2]]) : power_turned.R us (.tup [.agg [.v (.bool r1), .l r2, .l r3], .v (.int .i64 r4)]) := ⟨_, _, _, _, _, _, _, _, hus, h, rfl⟩
theorem power_turned.E {β : Type} {k : Nat} {a0_0 : Bool} {l0_1 : List Int} {l0_2 : List Int} {g : Bool × List Int × List Int × Int → Option β} {z : β} {Q : Prop} (h : (power_turned.f k a0_0 l0_1 l0_2).bind g = some z) (c : ∀ (r1 : Bool) (r2 : List Int) (r3 : List Int) (r4 : Int), power_turned.f k a0_0 l0_1 l0_2 = some (r1, r2, r3, r4) → g (r1, r2, r3, r4) = some z → Q) : Q := by
  obtain ⟨p, h1, h2⟩ := Option.bind_eq_some_iff.1 h
  exact c p.1 p.2.1 p.2.2.1 p.2.2.2 h1 h2
set_option maxHeartbeats 4000000 in
set_option maxRecDepth 100000 in
theorem power_turned.body {D : Dat} {C : Orc} (hD : D = real) (h30 : ∀ us u, rat_Div.R us u → C 30 us u) (h31 : ∀ us u, rat_Whole.R us u → C 31 us u) {us : List U} {u : U} (hR : power_turned.R us u) {Q : Prop} (hQ : body tys D C Try.f50 us u = Q) : Q := by
  obtain ⟨k, a0_0, l0_1, l0_2, r1, r2, r3, r4, rfl, h, hu⟩ := hR
  obtain ⟨len, add, sub, mul, rem, neg, conv, max, eq, ne, lt, le, nth, zeros, copy, cpd, bor⟩ := D
  simp only [real, Dat.mk.injEq] at hD
  obtain ⟨elen, eadd, esub, emul, erem, eneg, econv, emax, eeq, ene, elt, ele, enth, ezeros, ecopy, ecpd, ebor⟩ := hD
  have hE := And.intro elen (And.intro eadd (And.intro esub (And.intro emul (And.intro erem (And.intro eneg (And.intro econv (And.intro ebor (And.intro emax (And.intro eeq (And.intro ene (And.intro elt ele)))))))))))
  cases a0_0 <;>
  unfold power_turned.f at h <;>
  (repeat' first
    | (simp (maxSteps := 2000000) only [↓reduceIte, Bool.false_eq_true, Bool.not_true, Bool.not_false, reduceCtorEq, b00, b01, b10, b11, n00, n01, n10, n11] at h; done)
    | (simp (maxSteps := 2000000) only [↓reduceIte, Bool.false_eq_true, Bool.not_true, Bool.not_false, Option.bind_some, splice_self, b00, b01, b10, b11, n00, n01, n10, n11] at h)
    | (with_reducible refine rat_Div.E h ?_; clear h; rintro _ _ _ _ _ h)
    | (with_reducible refine rat_Whole.E h ?_; clear h; rintro _ _ _ _ h)
    | (simp (maxSteps := 2000000) only [↓reduceIte, Bool.false_eq_true, Bool.not_true, Bool.not_false, reduceCtorEq, decide_eq_true_eq, bne_iff_ne, ne_eq, beq_iff_eq, Option.bind_some, splice_self, b00, b01, b10, b11, n00, n01, n10, n11] at h)
    | (with_reducible refine iteE h ?_ ?_ <;> clear h <;> intro _ h)
    | (split at h)) <;>
  (injection h with h) <;>
  (try simp only [Prod.mk.injEq] at h) <;>
  (obtain ⟨rfl, rfl, rfl, rfl⟩ := h) <;>
  (rw [← hQ]; clear hQ) <;>
  (cbv) <;>
  (repeat first
    | ((with_reducible refine E2 (h30 _ _ (rat_Div.I ‹_›)) ?_); cbv)
    | ((with_reducible apply E2); (· with_reducible apply h30; simp only [hE, w64, mxE]; exact rat_Div.I ‹_›); cbv)
    | ((with_reducible refine E2 (h30 _ _ (rat_Div.J ‹rat_Div.f _ _ _ _ _ _ _ = some _› ?_)) ?_); (· simp only [hE, w64, mxE]; try rfl); cbv)
    | ((with_reducible refine E2 (h31 _ _ (rat_Whole.I ‹_›)) ?_); cbv)
    | ((with_reducible apply E2); (· with_reducible apply h31; simp only [hE, w64, mxE]; exact rat_Whole.I ‹_›); cbv)
    | ((with_reducible refine E2 (h31 _ _ (rat_Whole.J ‹rat_Whole.f _ _ = some _› ?_)) ?_); (· simp only [hE, w64, mxE]; try rfl); cbv)
    | (rw [hu]; done)
    | (rw [hu]; simp only [hE, w64]; done)
    | (rw [hu]; simp only [hE, w64]; rfl)
    | (rw [hu]; simp only [hE, w64, Option.some.injEq, U.agg.injEq, U.tup.injEq, U.v.injEq, List.cons.injEq, Value.bool.injEq, and_true, true_and, decide_eq_true_eq, decide_eq_false_iff_not]; first | assumption | omega))
theorem power_turned.sound : SoundF Try.prog 50 power_turned.R :=
  Den.sound (l := [(30, rat_Div.R), (31, rat_Whole.R)]) (orc_cons rat_Div.sound (orc_cons rat_Whole.sound (orc_nil))) Try.func50 (by kernel_rfl) (by kernel_rfl) (by decide +kernel) fun _ _ hR => power_turned.body rfl (fun _ _ h => (.inl ⟨rfl, h⟩)) (fun _ _ h => (.inr (.inl ⟨rfl, h⟩))) hR rfl
end Go.Proofs.Yticngjjdjmadgaa.PU
end
section
set_option linter.unusedVariables false
set_option linter.unusedSimpArgs false
namespace Go.Proofs.Yticngjjdjmadgaa.PU
open Go Go.RowKit Go.Proofs.YticngjjdjmadgaaW.PrintWords Go.Proofs.YticngjjdjmadgaaW.PrintMore Go.Proofs.Yticngjjdjmadgaa.Den Go.Proofs.Yticngjjdjmadgaa.PL
def power_Of.Rk (k : Nat) (us : List U) (u : U) : Prop := ∃ (a0_0 : Bool) (l0_1 : List Int) (l0_2 : List Int) (a1 : Int) (r1 : Bool) (r2 : List Int) (r3 : List Int) (r4 : Int), us = [.agg [.v (.bool a0_0), .l l0_1, .l l0_2], .v (.int .i64 a1)] ∧ power_Of.f k a0_0 l0_1 l0_2 a1 = some (r1, r2, r3, r4) ∧ u = .tup [.agg [.v (.bool r1), .l r2, .l r3], .v (.int .i64 r4)]
theorem power_Of.K {k : Nat} {a0_0 : Bool} {l0_1 : List Int} {l0_2 : List Int} {a1 : Int} {r1 : Bool} {r2 : List Int} {r3 : List Int} {r4 : Int} (h : power_Of.f k a0_0 l0_1 l0_2 a1 = some (r1, r2, r3, r4)) : power_Of.Rk k [.agg [.v (.bool a0_0), .l l0_1, .l l0_2], .v (.int .i64 a1)] (.tup [.agg [.v (.bool r1), .l r2, .l r3], .v (.int .i64 r4)]) := ⟨_, _, _, _, _, _, _, _, rfl, h, rfl⟩
theorem power_Of.L {k : Nat} {a0_0 : Bool} {l0_1 : List Int} {l0_2 : List Int} {a1 : Int} {r1 : Bool} {r2 : List Int} {r3 : List Int} {r4 : Int} (h : power_Of.f k a0_0 l0_1 l0_2 a1 = some (r1, r2, r3, r4)) {us : List U} (hus : us = [.agg [.v (.bool a0_0), .l l0_1, .l l0_2], .v (.int .i64 a1)]) : power_Of.Rk k us (.tup [.agg [.v (.bool r1), .l r2, .l r3], .v (.int .i64 r4)]) := ⟨_, _, _, _, _, _, _, _, hus, h, rfl⟩
def power_Of.R (us : List U) (u : U) : Prop := ∃ (k : Nat) (a0_0 : Bool) (l0_1 : List Int) (l0_2 : List Int) (a1 : Int) (r1 : Bool) (r2 : List Int) (r3 : List Int) (r4 : Int), us = [.agg [.v (.bool a0_0), .l l0_1, .l l0_2], .v (.int .i64 a1)] ∧ power_Of.f k a0_0 l0_1 l0_2 a1 = some (r1, r2, r3, r4) ∧ u = .tup [.agg [.v (.bool r1), .l r2, .l r3], .v (.int .i64 r4)]
theorem power_Of.I {k : Nat} {a0_0 : Bool} {l0_1 : List Int} {l0_2 : List Int} {a1 : Int} {r1 : Bool} {r2 : List Int} {r3 : List Int} {r4 : Int} (h : power_Of.f k a0_0 l0_1 l0_2 a1 = some (r1, r2, r3, r4)) : power_Of.R [.agg [.v (.bool a0_0), .l l0_1, .l l0_2], .v (.int .i64 a1)] (.tup [.agg [.v (.bool r1), .l r2, .l r3], .v (.int .i64 r4)]) := ⟨_, _, _, _, _, _, _, _, _, rfl, h, rfl⟩
theorem power_Of.J {k : Nat} {a0_0 : Bool} {l0_1 : List Int} {l0_2 : List Int} {a1 : Int} {r1 : Bool} {r2 : List Int} {r3 : List Int} {r4 : Int} (h : power_Of.f k a0_0 l0_1 l0_2 a1 = some (r1, r2, r3, r4)) {us : List U} (hus : us = [.agg [.v (.bool a0_0), .l l0_1, .l l0_2], .v (.int .i64 a1)]) : power_Of.R us (.tup [.agg [.v (.bool r1), .l r2, .l r3], .v (.int .i64 r4)]) := ⟨_, _, _, _, _, _, _, _, _, hus, h, rfl⟩
theorem power_Of.E {β : Type} {k : Nat} {a0_0 : Bool} {l0_1 : List Int} {l0_2 : List Int} {a1 : Int} {g : Bool × List Int × List Int × Int → Option β} {z : β} {Q : Prop} (h : (power_Of.f k a0_0 l0_1 l0_2 a1).bind g = some z) (c : ∀ (r1 : Bool) (r2 : List Int) (r3 : List Int) (r4 : Int), power_Of.f k a0_0 l0_1 l0_2 a1 = some (r1, r2, r3, r4) → g (r1, r2, r3, r4) = some z → Q) : Q := by
  obtain ⟨p, h1, h2⟩ := Option.bind_eq_some_iff.1 h
  exact c p.1 p.2.1 p.2.2.1 p.2.2.2 h1 h2
set_option maxHeartbeats 4000000 in
set_option maxRecDepth 100000 in
theorem power_Of.body {D : Dat} {C : Orc} (hD : D = real) {k : Nat} (h17 : ∀ us u, power_Of.Rk k us u → C 17 us u) (h24 : ∀ us u, rat_Of.R us u → C 24 us u) (h28 : ∀ us u, rat_Good.R us u → C 28 us u) (h31 : ∀ us u, rat_Whole.R us u → C 31 us u) (h49 : ∀ us u, power_within.R us u → C 49 us u) (h50 : ∀ us u, power_turned.R us u → C 50 us u) (h51 : ∀ us u, mul_Pow.R us u → C 51 us u) {us : List U} {u : U} (hR : power_Of.Rk (k + 1) us u) {Q : Prop} (hQ : body tys D C Try.f17 us u = Q) : Q := by
  obtain ⟨a0_0, l0_1, l0_2, a1, r1, r2, r3, r4, rfl, h, hu⟩ := hR
  obtain ⟨len, add, sub, mul, rem, neg, conv, max, eq, ne, lt, le, nth, zeros, copy, cpd, bor⟩ := D
  simp only [real, Dat.mk.injEq] at hD
  obtain ⟨elen, eadd, esub, emul, erem, eneg, econv, emax, eeq, ene, elt, ele, enth, ezeros, ecopy, ecpd, ebor⟩ := hD
  have hE := And.intro elen (And.intro eadd (And.intro esub (And.intro emul (And.intro erem (And.intro eneg (And.intro econv (And.intro ebor (And.intro emax (And.intro eeq (And.intro ene (And.intro elt ele)))))))))))
  obtain ⟨zz, hzz, hzc⟩ := zrow elen ezeros ecopy
  cases a0_0 <;>
  unfold power_Of.f at h <;>
  (repeat' first
    | (simp (maxSteps := 2000000) only [↓reduceIte, Bool.false_eq_true, Bool.not_true, Bool.not_false, reduceCtorEq, b00, b01, b10, b11, n00, n01, n10, n11] at h; done)
    | (simp (maxSteps := 2000000) only [↓reduceIte, Bool.false_eq_true, Bool.not_true, Bool.not_false, Option.bind_some, splice_self, b00, b01, b10, b11, n00, n01, n10, n11] at h)
    | (rw [‹rat_Of.f _ _ _ _ = some _›] at h; simp only [Option.bind_some] at h)
    | (with_reducible refine rat_Of.E h ?_; clear h; rintro _ _ _ _ _ h)
    | (with_reducible refine rat_Good.E h ?_; clear h; rintro (_ | _) _ h)
    | (with_reducible refine rat_Whole.E h ?_; clear h; rintro _ _ _ _ h)
    | (with_reducible refine power_within.E h ?_; clear h; rintro (_ | _) _ h)
    | (with_reducible refine power_turned.E h ?_; clear h; rintro _ _ _ _ _ h)
    | (rw [‹mul_Pow.f _ _ _ = some _›] at h; simp only [Option.bind_some] at h)
    | (with_reducible refine mul_Pow.E h ?_; clear h; rintro _ (_ | _) _ h)
    | (with_reducible refine power_Of.E h ?_; clear h; rintro _ _ _ _ _ h)
    | (simp (maxSteps := 2000000) only [↓reduceIte, Bool.false_eq_true, Bool.not_true, Bool.not_false, reduceCtorEq, decide_eq_true_eq, bne_iff_ne, ne_eq, beq_iff_eq, Option.bind_some, splice_self, b00, b01, b10, b11, n00, n01, n10, n11] at h)
    | (with_reducible refine iteE h ?_ ?_ <;> clear h <;> intro _ h)
    | (split at h)) <;>
  (injection h with h) <;>
  (try simp only [Prod.mk.injEq] at h) <;>
  (obtain ⟨rfl, rfl, rfl, rfl⟩ := h) <;>
  (rw [← hQ]; clear hQ) <;>
  (cbv) <;>
  (repeat first
    | (rw [hzc])
    | ((rw [hzz]); rotate_left; (· first | assumption | omega); cbv)
    | ((with_reducible refine E2 (h17 _ _ (power_Of.K ‹_›)) ?_); cbv)
    | ((with_reducible refine E2 (h17 _ _ (power_Of.L ‹power_Of.f _ _ _ _ _ = some _› ?_)) ?_); (· simp only [hE, w64, mxE]; try rfl); cbv)
    | ((with_reducible refine E2 (h24 _ _ (rat_Of.I ‹_›)) ?_); cbv)
    | ((with_reducible apply E2); (· with_reducible apply h24; simp only [hE, w64, mxE]; exact rat_Of.I ‹_›); cbv)
    | ((with_reducible refine E2 (h24 _ _ (rat_Of.J ‹rat_Of.f _ _ _ _ = some _› ?_)) ?_); (· simp only [hE, w64, mxE]; try rfl); cbv)
    | ((with_reducible refine E2 (h28 _ _ (rat_Good.I ‹_›)) ?_); cbv)
    | ((with_reducible apply E2); (· with_reducible apply h28; simp only [hE, w64, mxE]; exact rat_Good.I ‹_›); cbv)
    | ((with_reducible refine E2 (h28 _ _ (rat_Good.J ‹rat_Good.f _ _ _ _ = some _› ?_)) ?_); (· simp only [hE, w64, mxE]; try rfl); cbv)
    | ((with_reducible refine E2 (h31 _ _ (rat_Whole.I ‹_›)) ?_); cbv)
    | ((with_reducible apply E2); (· with_reducible apply h31; simp only [hE, w64, mxE]; exact rat_Whole.I ‹_›); cbv)
    | ((with_reducible refine E2 (h31 _ _ (rat_Whole.J ‹rat_Whole.f _ _ = some _› ?_)) ?_); (· simp only [hE, w64, mxE]; try rfl); cbv)
    | ((with_reducible refine E2 (h49 _ _ (power_within.I ‹_›)) ?_); cbv)
    | ((with_reducible apply E2); (· with_reducible apply h49; simp only [hE, w64, mxE]; exact power_within.I ‹_›); cbv)
    | ((with_reducible refine E2 (h49 _ _ (power_within.J ‹power_within.f _ _ = some _› ?_)) ?_); (· simp only [hE, w64, mxE]; try rfl); cbv)
    | ((with_reducible refine E2 (h50 _ _ (power_turned.I ‹_›)) ?_); cbv)
    | ((with_reducible apply E2); (· with_reducible apply h50; simp only [hE, w64, mxE]; exact power_turned.I ‹_›); cbv)
    | ((with_reducible refine E2 (h50 _ _ (power_turned.J ‹power_turned.f _ _ _ _ = some _› ?_)) ?_); (· simp only [hE, w64, mxE]; try rfl); cbv)
    | ((with_reducible refine E2 (h51 _ _ (mul_Pow.I ‹_›)) ?_); cbv)
    | ((with_reducible apply E2); (· with_reducible apply h51; simp only [hE, w64, mxE]; exact mul_Pow.I ‹_›); cbv)
    | ((with_reducible refine E2 (h51 _ _ (mul_Pow.J ‹mul_Pow.f _ _ _ = some _› ?_)) ?_); (· simp only [hE, w64, mxE]; try rfl); cbv)
    | ((with_reducible refine t1 ?_ ?_); (· (simp only [hE, w64, decide_eq_true_eq, decide_eq_false_iff_not]; first | assumption | omega)); intro hb_; (try simp only [hb_]); cbv)
    | ((with_reducible refine t2 ?_ ?_); (· (simp only [hE, w64, decide_eq_true_eq, decide_eq_false_iff_not]; first | assumption | omega)); intro hb_; (try simp only [hb_]); cbv)
    | ((with_reducible refine t3 ?_ ?_); (· (simp only [hE, w64, decide_eq_true_eq, decide_eq_false_iff_not]; first | assumption | omega)); intro hb_; (try simp only [hb_]); cbv)
    | ((with_reducible refine t4 ?_ ?_); (· (simp only [hE, w64, decide_eq_true_eq, decide_eq_false_iff_not]; first | assumption | omega)); intro hb_; (try simp only [hb_]); cbv)
    | (rw [hu]; done)
    | (rw [hu]; simp only [hE, w64]; done)
    | (rw [hu]; simp only [hE, w64]; rfl)
    | (rw [hu]; simp only [hE, w64, Option.some.injEq, U.agg.injEq, U.tup.injEq, U.v.injEq, List.cons.injEq, Value.bool.injEq, and_true, true_and, decide_eq_true_eq, decide_eq_false_iff_not]; first | assumption | omega))
theorem power_Of.soundk : ∀ k, SoundF Try.prog 17 (power_Of.Rk k)
  | 0 => fun us u ⟨_, _, _, _, _, _, _, _, _, h, _⟩ => absurd h (by simp [power_Of.f])
  | k + 1 => by
    have ih := power_Of.soundk k
    exact Den.sound (l := [(17, power_Of.Rk k), (24, rat_Of.R), (28, rat_Good.R), (31, rat_Whole.R), (49, power_within.R), (50, power_turned.R), (51, mul_Pow.R)]) (orc_cons ih (orc_cons rat_Of.sound (orc_cons rat_Good.sound (orc_cons rat_Whole.sound (orc_cons power_within.sound (orc_cons power_turned.sound (orc_cons mul_Pow.sound (orc_nil)))))))) Try.func17 (by kernel_rfl) (by kernel_rfl) (by decide +kernel) fun _ _ hR => power_Of.body rfl (fun _ _ h => (.inl ⟨rfl, h⟩)) (fun _ _ h => (.inr (.inl ⟨rfl, h⟩))) (fun _ _ h => (.inr (.inr (.inl ⟨rfl, h⟩)))) (fun _ _ h => (.inr (.inr (.inr (.inl ⟨rfl, h⟩))))) (fun _ _ h => (.inr (.inr (.inr (.inr (.inl ⟨rfl, h⟩)))))) (fun _ _ h => (.inr (.inr (.inr (.inr (.inr (.inl ⟨rfl, h⟩))))))) (fun _ _ h => (.inr (.inr (.inr (.inr (.inr (.inr (.inl ⟨rfl, h⟩)))))))) hR rfl
theorem power_Of.sound : SoundF Try.prog 17 power_Of.R := fun us u ⟨k, _, _, _, _, _, _, _, _, h1, h2, h3⟩ => power_Of.soundk k us u ⟨_, _, _, _, _, _, _, _, h1, h2, h3⟩
end Go.Proofs.Yticngjjdjmadgaa.PU
end
section
set_option linter.unusedVariables false
set_option linter.unusedSimpArgs false
namespace Go.Proofs.Yticngjjdjmadgaa.PU
open Go Go.RowKit Go.Proofs.YticngjjdjmadgaaW.PrintWords Go.Proofs.YticngjjdjmadgaaW.PrintMore Go.Proofs.Yticngjjdjmadgaa.Den Go.Proofs.Yticngjjdjmadgaa.PL
def power_Scale.R (us : List U) (u : U) : Prop := ∃ (k : Nat) (a0_0 : Bool) (l0_1 : List Int) (l0_2 : List Int) (a1 : Int) (r1 : Bool) (r2 : List Int) (r3 : List Int) (r4 : Int), us = [.agg [.v (.bool a0_0), .l l0_1, .l l0_2], .v (.int .i64 a1)] ∧ power_Scale.f k a0_0 l0_1 l0_2 a1 = some (r1, r2, r3, r4) ∧ u = .tup [.agg [.v (.bool r1), .l r2, .l r3], .v (.int .i64 r4)]
theorem power_Scale.I {k : Nat} {a0_0 : Bool} {l0_1 : List Int} {l0_2 : List Int} {a1 : Int} {r1 : Bool} {r2 : List Int} {r3 : List Int} {r4 : Int} (h : power_Scale.f k a0_0 l0_1 l0_2 a1 = some (r1, r2, r3, r4)) : power_Scale.R [.agg [.v (.bool a0_0), .l l0_1, .l l0_2], .v (.int .i64 a1)] (.tup [.agg [.v (.bool r1), .l r2, .l r3], .v (.int .i64 r4)]) := ⟨_, _, _, _, _, _, _, _, _, rfl, h, rfl⟩
theorem power_Scale.J {k : Nat} {a0_0 : Bool} {l0_1 : List Int} {l0_2 : List Int} {a1 : Int} {r1 : Bool} {r2 : List Int} {r3 : List Int} {r4 : Int} (h : power_Scale.f k a0_0 l0_1 l0_2 a1 = some (r1, r2, r3, r4)) {us : List U} (hus : us = [.agg [.v (.bool a0_0), .l l0_1, .l l0_2], .v (.int .i64 a1)]) : power_Scale.R us (.tup [.agg [.v (.bool r1), .l r2, .l r3], .v (.int .i64 r4)]) := ⟨_, _, _, _, _, _, _, _, _, hus, h, rfl⟩
theorem power_Scale.E {β : Type} {k : Nat} {a0_0 : Bool} {l0_1 : List Int} {l0_2 : List Int} {a1 : Int} {g : Bool × List Int × List Int × Int → Option β} {z : β} {Q : Prop} (h : (power_Scale.f k a0_0 l0_1 l0_2 a1).bind g = some z) (c : ∀ (r1 : Bool) (r2 : List Int) (r3 : List Int) (r4 : Int), power_Scale.f k a0_0 l0_1 l0_2 a1 = some (r1, r2, r3, r4) → g (r1, r2, r3, r4) = some z → Q) : Q := by
  obtain ⟨p, h1, h2⟩ := Option.bind_eq_some_iff.1 h
  exact c p.1 p.2.1 p.2.2.1 p.2.2.2 h1 h2
set_option maxHeartbeats 4000000 in
set_option maxRecDepth 100000 in
theorem power_Scale.body {D : Dat} {C : Orc} (hD : D = real) (h24 : ∀ us u, rat_Of.R us u → C 24 us u) (h28 : ∀ us u, rat_Good.R us u → C 28 us u) (h49 : ∀ us u, power_within.R us u → C 49 us u) (h51 : ∀ us u, mul_Pow.R us u → C 51 us u) (h52 : ∀ us u, nat_Of.R us u → C 52 us u) (h53 : ∀ us u, mul_Of.R us u → C 53 us u) {us : List U} {u : U} (hR : power_Scale.R us u) {Q : Prop} (hQ : body tys D C Try.f18 us u = Q) : Q := by
  obtain ⟨k, a0_0, l0_1, l0_2, a1, r1, r2, r3, r4, rfl, h, hu⟩ := hR
  obtain ⟨len, add, sub, mul, rem, neg, conv, max, eq, ne, lt, le, nth, zeros, copy, cpd, bor⟩ := D
  simp only [real, Dat.mk.injEq] at hD
  obtain ⟨elen, eadd, esub, emul, erem, eneg, econv, emax, eeq, ene, elt, ele, enth, ezeros, ecopy, ecpd, ebor⟩ := hD
  have hE := And.intro elen (And.intro eadd (And.intro esub (And.intro emul (And.intro erem (And.intro eneg (And.intro econv (And.intro ebor (And.intro emax (And.intro eeq (And.intro ene (And.intro elt ele)))))))))))
  cases a0_0 <;>
  unfold power_Scale.f at h <;>
  (repeat' first
    | (simp (maxSteps := 2000000) only [↓reduceIte, Bool.false_eq_true, Bool.not_true, Bool.not_false, reduceCtorEq, b00, b01, b10, b11, n00, n01, n10, n11] at h; done)
    | (simp (maxSteps := 2000000) only [↓reduceIte, Bool.false_eq_true, Bool.not_true, Bool.not_false, Option.bind_some, splice_self, b00, b01, b10, b11, n00, n01, n10, n11] at h)
    | (rw [‹rat_Of.f _ _ _ _ = some _›] at h; simp only [Option.bind_some] at h)
    | (with_reducible refine rat_Of.E h ?_; clear h; rintro _ _ _ _ _ h)
    | (with_reducible refine rat_Good.E h ?_; clear h; rintro (_ | _) _ h)
    | (with_reducible refine power_within.E h ?_; clear h; rintro (_ | _) _ h)
    | (with_reducible refine mul_Pow.E h ?_; clear h; rintro _ _ _ h)
    | (with_reducible refine nat_Of.E h ?_; clear h; rintro _ _ h)
    | (rw [‹mul_Of.f _ _ _ = some _›] at h; simp only [Option.bind_some] at h)
    | (with_reducible refine mul_Of.E h ?_; clear h; rintro _ _ h)
    | (simp (maxSteps := 2000000) only [↓reduceIte, Bool.false_eq_true, Bool.not_true, Bool.not_false, reduceCtorEq, decide_eq_true_eq, bne_iff_ne, ne_eq, beq_iff_eq, Option.bind_some, splice_self, b00, b01, b10, b11, n00, n01, n10, n11] at h)
    | (with_reducible refine iteE h ?_ ?_ <;> clear h <;> intro _ h)
    | (split at h)) <;>
  (injection h with h) <;>
  (try simp only [Prod.mk.injEq] at h) <;>
  (obtain ⟨rfl, rfl, rfl, rfl⟩ := h) <;>
  (rw [← hQ]; clear hQ) <;>
  (cbv) <;>
  (repeat first
    | ((with_reducible refine E2 (h24 _ _ (rat_Of.I ‹_›)) ?_); cbv)
    | ((with_reducible apply E2); (· with_reducible apply h24; simp only [hE, w64, mxE]; exact rat_Of.I ‹_›); cbv)
    | ((with_reducible refine E2 (h24 _ _ (rat_Of.J ‹rat_Of.f _ _ _ _ = some _› ?_)) ?_); (· simp only [hE, w64, mxE]; try rfl); cbv)
    | ((with_reducible refine E2 (h28 _ _ (rat_Good.I ‹_›)) ?_); cbv)
    | ((with_reducible apply E2); (· with_reducible apply h28; simp only [hE, w64, mxE]; exact rat_Good.I ‹_›); cbv)
    | ((with_reducible refine E2 (h28 _ _ (rat_Good.J ‹rat_Good.f _ _ _ _ = some _› ?_)) ?_); (· simp only [hE, w64, mxE]; try rfl); cbv)
    | ((with_reducible refine E2 (h49 _ _ (power_within.I ‹_›)) ?_); cbv)
    | ((with_reducible apply E2); (· with_reducible apply h49; simp only [hE, w64, mxE]; exact power_within.I ‹_›); cbv)
    | ((with_reducible refine E2 (h49 _ _ (power_within.J ‹power_within.f _ _ = some _› ?_)) ?_); (· simp only [hE, w64, mxE]; try rfl); cbv)
    | ((with_reducible refine E2 (h51 _ _ (mul_Pow.I ‹_›)) ?_); cbv)
    | ((with_reducible apply E2); (· with_reducible apply h51; simp only [hE, w64, mxE]; exact mul_Pow.I ‹_›); cbv)
    | ((with_reducible refine E2 (h51 _ _ (mul_Pow.J ‹mul_Pow.f _ _ _ = some _› ?_)) ?_); (· simp only [hE, w64, mxE]; try rfl); cbv)
    | ((with_reducible refine E2 (h52 _ _ (nat_Of.I ‹_›)) ?_); cbv)
    | ((with_reducible apply E2); (· with_reducible apply h52; simp only [hE, w64, mxE]; exact nat_Of.I ‹_›); cbv)
    | ((with_reducible refine E2 (h52 _ _ (nat_Of.J ‹nat_Of.f _ _ = some _› ?_)) ?_); (· simp only [hE, w64, mxE]; try rfl); cbv)
    | ((with_reducible refine E2 (h53 _ _ (mul_Of.I ‹_›)) ?_); cbv)
    | ((with_reducible apply E2); (· with_reducible apply h53; simp only [hE, w64, mxE]; exact mul_Of.I ‹_›); cbv)
    | ((with_reducible refine E2 (h53 _ _ (mul_Of.J ‹mul_Of.f _ _ _ = some _› ?_)) ?_); (· simp only [hE, w64, mxE]; try rfl); cbv)
    | ((with_reducible refine t1 ?_ ?_); (· (simp only [hE, w64, decide_eq_true_eq, decide_eq_false_iff_not]; first | assumption | omega)); intro hb_; (try simp only [hb_]); cbv)
    | ((with_reducible refine t2 ?_ ?_); (· (simp only [hE, w64, decide_eq_true_eq, decide_eq_false_iff_not]; first | assumption | omega)); intro hb_; (try simp only [hb_]); cbv)
    | ((with_reducible refine t3 ?_ ?_); (· (simp only [hE, w64, decide_eq_true_eq, decide_eq_false_iff_not]; first | assumption | omega)); intro hb_; (try simp only [hb_]); cbv)
    | ((with_reducible refine t4 ?_ ?_); (· (simp only [hE, w64, decide_eq_true_eq, decide_eq_false_iff_not]; first | assumption | omega)); intro hb_; (try simp only [hb_]); cbv)
    | (rw [hu]; done)
    | (rw [hu]; simp only [hE, w64]; done)
    | (rw [hu]; simp only [hE, w64]; rfl)
    | (rw [hu]; simp only [hE, w64, Option.some.injEq, U.agg.injEq, U.tup.injEq, U.v.injEq, List.cons.injEq, Value.bool.injEq, and_true, true_and, decide_eq_true_eq, decide_eq_false_iff_not]; first | assumption | omega))
theorem power_Scale.sound : SoundF Try.prog 18 power_Scale.R :=
  Den.sound (l := [(24, rat_Of.R), (28, rat_Good.R), (49, power_within.R), (51, mul_Pow.R), (52, nat_Of.R), (53, mul_Of.R)]) (orc_cons rat_Of.sound (orc_cons rat_Good.sound (orc_cons power_within.sound (orc_cons mul_Pow.sound (orc_cons nat_Of.sound (orc_cons mul_Of.sound (orc_nil))))))) Try.func18 (by kernel_rfl) (by kernel_rfl) (by decide +kernel) fun _ _ hR => power_Scale.body rfl (fun _ _ h => (.inl ⟨rfl, h⟩)) (fun _ _ h => (.inr (.inl ⟨rfl, h⟩))) (fun _ _ h => (.inr (.inr (.inl ⟨rfl, h⟩)))) (fun _ _ h => (.inr (.inr (.inr (.inl ⟨rfl, h⟩))))) (fun _ _ h => (.inr (.inr (.inr (.inr (.inl ⟨rfl, h⟩)))))) (fun _ _ h => (.inr (.inr (.inr (.inr (.inr (.inl ⟨rfl, h⟩))))))) hR rfl
end Go.Proofs.Yticngjjdjmadgaa.PU
end
section
set_option linter.unusedVariables false
set_option linter.unusedSimpArgs false
namespace Go.Proofs.Yticngjjdjmadgaa.PU
open Go Go.RowKit Go.Proofs.YticngjjdjmadgaaW.PrintWords Go.Proofs.YticngjjdjmadgaaW.PrintMore Go.Proofs.Yticngjjdjmadgaa.Den Go.Proofs.Yticngjjdjmadgaa.PL
def steelyardref07_Limit.R (us : List U) (u : U) : Prop := ∃ (a0_0 : Bool) (l0_1 : List Int) (l0_2 : List Int) (r1 : Bool) (r2 : List Int) (r3 : List Int) (r4 : Int), us = [.agg [.v (.bool a0_0), .l l0_1, .l l0_2]] ∧ steelyardref07_Limit.f a0_0 l0_1 l0_2 = some (r1, r2, r3, r4) ∧ u = .agg [.v (.bool r1), .l r2, .l r3, .v (.int .i64 r4)]
theorem steelyardref07_Limit.I {a0_0 : Bool} {l0_1 : List Int} {l0_2 : List Int} {r1 : Bool} {r2 : List Int} {r3 : List Int} {r4 : Int} (h : steelyardref07_Limit.f a0_0 l0_1 l0_2 = some (r1, r2, r3, r4)) : steelyardref07_Limit.R [.agg [.v (.bool a0_0), .l l0_1, .l l0_2]] (.agg [.v (.bool r1), .l r2, .l r3, .v (.int .i64 r4)]) := ⟨_, _, _, _, _, _, _, rfl, h, rfl⟩
theorem steelyardref07_Limit.J {a0_0 : Bool} {l0_1 : List Int} {l0_2 : List Int} {r1 : Bool} {r2 : List Int} {r3 : List Int} {r4 : Int} (h : steelyardref07_Limit.f a0_0 l0_1 l0_2 = some (r1, r2, r3, r4)) {us : List U} (hus : us = [.agg [.v (.bool a0_0), .l l0_1, .l l0_2]]) : steelyardref07_Limit.R us (.agg [.v (.bool r1), .l r2, .l r3, .v (.int .i64 r4)]) := ⟨_, _, _, _, _, _, _, hus, h, rfl⟩
theorem steelyardref07_Limit.E {β : Type} {a0_0 : Bool} {l0_1 : List Int} {l0_2 : List Int} {g : Bool × List Int × List Int × Int → Option β} {z : β} {Q : Prop} (h : (steelyardref07_Limit.f a0_0 l0_1 l0_2).bind g = some z) (c : ∀ (r1 : Bool) (r2 : List Int) (r3 : List Int) (r4 : Int), steelyardref07_Limit.f a0_0 l0_1 l0_2 = some (r1, r2, r3, r4) → g (r1, r2, r3, r4) = some z → Q) : Q := by
  obtain ⟨p, h1, h2⟩ := Option.bind_eq_some_iff.1 h
  exact c p.1 p.2.1 p.2.2.1 p.2.2.2 h1 h2
set_option maxHeartbeats 4000000 in
set_option maxRecDepth 100000 in
theorem steelyardref07_Limit.body {D : Dat} {C : Orc} (hD : D = real)  {us : List U} {u : U} (hR : steelyardref07_Limit.R us u) {Q : Prop} (hQ : body tys D C Try.f54 us u = Q) : Q := by
  obtain ⟨a0_0, l0_1, l0_2, r1, r2, r3, r4, rfl, h, hu⟩ := hR
  obtain ⟨len, add, sub, mul, rem, neg, conv, max, eq, ne, lt, le, nth, zeros, copy, cpd, bor⟩ := D
  simp only [real, Dat.mk.injEq] at hD
  obtain ⟨elen, eadd, esub, emul, erem, eneg, econv, emax, eeq, ene, elt, ele, enth, ezeros, ecopy, ecpd, ebor⟩ := hD
  have hE := And.intro elen (And.intro eadd (And.intro esub (And.intro emul (And.intro erem (And.intro eneg (And.intro econv (And.intro ebor (And.intro emax (And.intro eeq (And.intro ene (And.intro elt ele)))))))))))
  cases a0_0 <;>
  unfold steelyardref07_Limit.f at h <;>
  (repeat' first
    | (simp (maxSteps := 2000000) only [↓reduceIte, Bool.false_eq_true, Bool.not_true, Bool.not_false, reduceCtorEq, b00, b01, b10, b11, n00, n01, n10, n11] at h; done)
    | (simp (maxSteps := 2000000) only [↓reduceIte, Bool.false_eq_true, Bool.not_true, Bool.not_false, Option.bind_some, splice_self, b00, b01, b10, b11, n00, n01, n10, n11] at h)
    | (simp (maxSteps := 2000000) only [↓reduceIte, Bool.false_eq_true, Bool.not_true, Bool.not_false, reduceCtorEq, decide_eq_true_eq, bne_iff_ne, ne_eq, beq_iff_eq, Option.bind_some, splice_self, b00, b01, b10, b11, n00, n01, n10, n11] at h)
    | (with_reducible refine iteE h ?_ ?_ <;> clear h <;> intro _ h)
    | (split at h)) <;>
  (injection h with h) <;>
  (try simp only [Prod.mk.injEq] at h) <;>
  (obtain ⟨rfl, rfl, rfl, rfl⟩ := h) <;>
  (rw [← hQ]; clear hQ) <;>
  (cbv) <;>
  (repeat first
    | ((with_reducible refine t1 ?_ ?_); (· (simp only [hE, w64, decide_eq_true_eq, decide_eq_false_iff_not]; first | assumption | omega)); intro hb_; (try simp only [hb_]); cbv)
    | ((with_reducible refine t2 ?_ ?_); (· (simp only [hE, w64, decide_eq_true_eq, decide_eq_false_iff_not]; first | assumption | omega)); intro hb_; (try simp only [hb_]); cbv)
    | ((with_reducible refine t3 ?_ ?_); (· (simp only [hE, w64, decide_eq_true_eq, decide_eq_false_iff_not]; first | assumption | omega)); intro hb_; (try simp only [hb_]); cbv)
    | ((with_reducible refine t4 ?_ ?_); (· (simp only [hE, w64, decide_eq_true_eq, decide_eq_false_iff_not]; first | assumption | omega)); intro hb_; (try simp only [hb_]); cbv)
    | (rw [hu]; done)
    | (rw [hu]; simp only [hE, w64]; done)
    | (rw [hu]; simp only [hE, w64]; rfl)
    | (rw [hu]; simp only [hE, w64, Option.some.injEq, U.agg.injEq, U.tup.injEq, U.v.injEq, List.cons.injEq, Value.bool.injEq, and_true, true_and, decide_eq_true_eq, decide_eq_false_iff_not]; first | assumption | omega))
theorem steelyardref07_Limit.sound : SoundF Try.prog 54 steelyardref07_Limit.R :=
  Den.sound (l := []) (orc_nil) Try.func54 (by kernel_rfl) (by kernel_rfl) (by decide +kernel) fun _ _ hR => steelyardref07_Limit.body rfl  hR rfl
end Go.Proofs.Yticngjjdjmadgaa.PU
end
section
set_option linter.unusedVariables false
set_option linter.unusedSimpArgs false
namespace Go.Proofs.Yticngjjdjmadgaa.PU
open Go Go.RowKit Go.Proofs.YticngjjdjmadgaaW.PrintWords Go.Proofs.YticngjjdjmadgaaW.PrintMore Go.Proofs.Yticngjjdjmadgaa.Den Go.Proofs.Yticngjjdjmadgaa.PL
def steelyardref06_Make.R (us : List U) (u : U) : Prop := ∃ (k : Nat) (a0 : Bool) (l1 : List Int) (r1 : Bool) (r2 : List Int), us = [.v (.bool a0), .l l1] ∧ steelyardref06_Make.f k a0 l1 = some (r1, r2) ∧ u = .agg [.v (.bool r1), .l r2]
theorem steelyardref06_Make.I {k : Nat} {a0 : Bool} {l1 : List Int} {r1 : Bool} {r2 : List Int} (h : steelyardref06_Make.f k a0 l1 = some (r1, r2)) : steelyardref06_Make.R [.v (.bool a0), .l l1] (.agg [.v (.bool r1), .l r2]) := ⟨_, _, _, _, _, rfl, h, rfl⟩
theorem steelyardref06_Make.J {k : Nat} {a0 : Bool} {l1 : List Int} {r1 : Bool} {r2 : List Int} (h : steelyardref06_Make.f k a0 l1 = some (r1, r2)) {us : List U} (hus : us = [.v (.bool a0), .l l1]) : steelyardref06_Make.R us (.agg [.v (.bool r1), .l r2]) := ⟨_, _, _, _, _, hus, h, rfl⟩
theorem steelyardref06_Make.E {β : Type} {k : Nat} {a0 : Bool} {l1 : List Int} {g : Bool × List Int → Option β} {z : β} {Q : Prop} (h : (steelyardref06_Make.f k a0 l1).bind g = some z) (c : ∀ (r1 : Bool) (r2 : List Int), steelyardref06_Make.f k a0 l1 = some (r1, r2) → g (r1, r2) = some z → Q) : Q := by
  obtain ⟨p, h1, h2⟩ := Option.bind_eq_some_iff.1 h
  exact c p.1 p.2 h1 h2
set_option maxHeartbeats 4000000 in
set_option maxRecDepth 100000 in
theorem steelyardref06_Make.body {D : Dat} {C : Orc} (hD : D = real) (h79 : ∀ us u, steelyardref01_Trim.R us u → C 79 us u) {us : List U} {u : U} (hR : steelyardref06_Make.R us u) {Q : Prop} (hQ : body tys D C Try.f58 us u = Q) : Q := by
  obtain ⟨k, a0, l1, r1, r2, rfl, h, hu⟩ := hR
  obtain ⟨len, add, sub, mul, rem, neg, conv, max, eq, ne, lt, le, nth, zeros, copy, cpd, bor⟩ := D
  simp only [real, Dat.mk.injEq] at hD
  obtain ⟨elen, eadd, esub, emul, erem, eneg, econv, emax, eeq, ene, elt, ele, enth, ezeros, ecopy, ecpd, ebor⟩ := hD
  have hE := And.intro elen (And.intro eadd (And.intro esub (And.intro emul (And.intro erem (And.intro eneg (And.intro econv (And.intro ebor (And.intro emax (And.intro eeq (And.intro ene (And.intro elt ele)))))))))))
  cases a0 <;>
  unfold steelyardref06_Make.f at h <;>
  (repeat' first
    | (simp (maxSteps := 2000000) only [↓reduceIte, Bool.false_eq_true, Bool.not_true, Bool.not_false, reduceCtorEq, b00, b01, b10, b11, n00, n01, n10, n11] at h; done)
    | (simp (maxSteps := 2000000) only [↓reduceIte, Bool.false_eq_true, Bool.not_true, Bool.not_false, Option.bind_some, splice_self, b00, b01, b10, b11, n00, n01, n10, n11] at h)
    | (with_reducible refine steelyardref01_Trim.E h ?_; clear h; rintro _ _ h)
    | (simp (maxSteps := 2000000) only [↓reduceIte, Bool.false_eq_true, Bool.not_true, Bool.not_false, reduceCtorEq, decide_eq_true_eq, bne_iff_ne, ne_eq, beq_iff_eq, Option.bind_some, splice_self, b00, b01, b10, b11, n00, n01, n10, n11] at h)
    | (with_reducible refine iteE h ?_ ?_ <;> clear h <;> intro _ h)
    | (split at h)) <;>
  (injection h with h) <;>
  (try simp only [Prod.mk.injEq] at h) <;>
  (obtain ⟨rfl, rfl⟩ := h) <;>
  (rw [← hQ]; clear hQ) <;>
  (cbv) <;>
  (repeat first
    | ((with_reducible refine E2 (h79 _ _ (steelyardref01_Trim.I ‹_›)) ?_); cbv)
    | ((with_reducible apply E2); (· with_reducible apply h79; simp only [hE, w64, mxE]; exact steelyardref01_Trim.I ‹_›); cbv)
    | ((with_reducible refine E2 (h79 _ _ (steelyardref01_Trim.J ‹steelyardref01_Trim.f _ _ = some _› ?_)) ?_); (· simp only [hE, w64, mxE]; try rfl); cbv)
    | ((with_reducible refine t1 ?_ ?_); (· (simp only [hE, w64, decide_eq_true_eq, decide_eq_false_iff_not]; first | assumption | omega)); intro hb_; (try simp only [hb_]); cbv)
    | ((with_reducible refine t2 ?_ ?_); (· (simp only [hE, w64, decide_eq_true_eq, decide_eq_false_iff_not]; first | assumption | omega)); intro hb_; (try simp only [hb_]); cbv)
    | ((with_reducible refine t3 ?_ ?_); (· (simp only [hE, w64, decide_eq_true_eq, decide_eq_false_iff_not]; first | assumption | omega)); intro hb_; (try simp only [hb_]); cbv)
    | ((with_reducible refine t4 ?_ ?_); (· (simp only [hE, w64, decide_eq_true_eq, decide_eq_false_iff_not]; first | assumption | omega)); intro hb_; (try simp only [hb_]); cbv)
    | (rw [hu]; done)
    | (rw [hu]; simp only [hE, w64]; done)
    | (rw [hu]; simp only [hE, w64]; rfl)
    | (rw [hu]; simp only [hE, w64, Option.some.injEq, U.agg.injEq, U.tup.injEq, U.v.injEq, List.cons.injEq, Value.bool.injEq, and_true, true_and, decide_eq_true_eq, decide_eq_false_iff_not]; first | assumption | omega))
theorem steelyardref06_Make.sound : SoundF Try.prog 58 steelyardref06_Make.R :=
  Den.sound (l := [(79, steelyardref01_Trim.R)]) (orc_cons steelyardref01_Trim.sound (orc_nil)) Try.func58 (by kernel_rfl) (by kernel_rfl) (by decide +kernel) fun _ _ hR => steelyardref06_Make.body rfl (fun _ _ h => (.inl ⟨rfl, h⟩)) hR rfl
end Go.Proofs.Yticngjjdjmadgaa.PU
end
section
set_option linter.unusedVariables false
set_option linter.unusedSimpArgs false
namespace Go.Proofs.Yticngjjdjmadgaa.PU
open Go Go.RowKit Go.Proofs.YticngjjdjmadgaaW.PrintWords Go.Proofs.YticngjjdjmadgaaW.PrintMore Go.Proofs.Yticngjjdjmadgaa.Den Go.Proofs.Yticngjjdjmadgaa.PL
def steelyardref06_Trim.R (us : List U) (u : U) : Prop := ∃ (k : Nat) (a0_0 : Bool) (l0_1 : List Int) (r1 : Bool) (r2 : List Int), us = [.agg [.v (.bool a0_0), .l l0_1]] ∧ steelyardref06_Trim.f k a0_0 l0_1 = some (r1, r2) ∧ u = .agg [.v (.bool r1), .l r2]
theorem steelyardref06_Trim.I {k : Nat} {a0_0 : Bool} {l0_1 : List Int} {r1 : Bool} {r2 : List Int} (h : steelyardref06_Trim.f k a0_0 l0_1 = some (r1, r2)) : steelyardref06_Trim.R [.agg [.v (.bool a0_0), .l l0_1]] (.agg [.v (.bool r1), .l r2]) := ⟨_, _, _, _, _, rfl, h, rfl⟩
theorem steelyardref06_Trim.J {k : Nat} {a0_0 : Bool} {l0_1 : List Int} {r1 : Bool} {r2 : List Int} (h : steelyardref06_Trim.f k a0_0 l0_1 = some (r1, r2)) {us : List U} (hus : us = [.agg [.v (.bool a0_0), .l l0_1]]) : steelyardref06_Trim.R us (.agg [.v (.bool r1), .l r2]) := ⟨_, _, _, _, _, hus, h, rfl⟩
theorem steelyardref06_Trim.E {β : Type} {k : Nat} {a0_0 : Bool} {l0_1 : List Int} {g : Bool × List Int → Option β} {z : β} {Q : Prop} (h : (steelyardref06_Trim.f k a0_0 l0_1).bind g = some z) (c : ∀ (r1 : Bool) (r2 : List Int), steelyardref06_Trim.f k a0_0 l0_1 = some (r1, r2) → g (r1, r2) = some z → Q) : Q := by
  obtain ⟨p, h1, h2⟩ := Option.bind_eq_some_iff.1 h
  exact c p.1 p.2 h1 h2
set_option maxHeartbeats 4000000 in
set_option maxRecDepth 100000 in
theorem steelyardref06_Trim.body {D : Dat} {C : Orc} (hD : D = real) (h58 : ∀ us u, steelyardref06_Make.R us u → C 58 us u) {us : List U} {u : U} (hR : steelyardref06_Trim.R us u) {Q : Prop} (hQ : body tys D C Try.f90 us u = Q) : Q := by
  obtain ⟨k, a0_0, l0_1, r1, r2, rfl, h, hu⟩ := hR
  obtain ⟨len, add, sub, mul, rem, neg, conv, max, eq, ne, lt, le, nth, zeros, copy, cpd, bor⟩ := D
  simp only [real, Dat.mk.injEq] at hD
  obtain ⟨elen, eadd, esub, emul, erem, eneg, econv, emax, eeq, ene, elt, ele, enth, ezeros, ecopy, ecpd, ebor⟩ := hD
  have hE := And.intro elen (And.intro eadd (And.intro esub (And.intro emul (And.intro erem (And.intro eneg (And.intro econv (And.intro ebor (And.intro emax (And.intro eeq (And.intro ene (And.intro elt ele)))))))))))
  cases a0_0 <;>
  unfold steelyardref06_Trim.f at h <;>
  (repeat' first
    | (simp (maxSteps := 2000000) only [↓reduceIte, Bool.false_eq_true, Bool.not_true, Bool.not_false, reduceCtorEq, b00, b01, b10, b11, n00, n01, n10, n11] at h; done)
    | (simp (maxSteps := 2000000) only [↓reduceIte, Bool.false_eq_true, Bool.not_true, Bool.not_false, Option.bind_some, splice_self, b00, b01, b10, b11, n00, n01, n10, n11] at h)
    | (with_reducible refine steelyardref06_Make.E h ?_; clear h; rintro _ _ _ h)
    | (simp (maxSteps := 2000000) only [↓reduceIte, Bool.false_eq_true, Bool.not_true, Bool.not_false, reduceCtorEq, decide_eq_true_eq, bne_iff_ne, ne_eq, beq_iff_eq, Option.bind_some, splice_self, b00, b01, b10, b11, n00, n01, n10, n11] at h)
    | (with_reducible refine iteE h ?_ ?_ <;> clear h <;> intro _ h)
    | (split at h)) <;>
  (injection h with h) <;>
  (try simp only [Prod.mk.injEq] at h) <;>
  (obtain ⟨rfl, rfl⟩ := h) <;>
  (rw [← hQ]; clear hQ) <;>
  (cbv) <;>
  (repeat first
    | ((with_reducible refine E2 (h58 _ _ (steelyardref06_Make.I ‹_›)) ?_); cbv)
    | ((with_reducible apply E2); (· with_reducible apply h58; simp only [hE, w64, mxE]; exact steelyardref06_Make.I ‹_›); cbv)
    | ((with_reducible refine E2 (h58 _ _ (steelyardref06_Make.J ‹steelyardref06_Make.f _ _ _ = some _› ?_)) ?_); (· simp only [hE, w64, mxE]; try rfl); cbv)
    | (rw [hu]; done)
    | (rw [hu]; simp only [hE, w64]; done)
    | (rw [hu]; simp only [hE, w64]; rfl)
    | (rw [hu]; simp only [hE, w64, Option.some.injEq, U.agg.injEq, U.tup.injEq, U.v.injEq, List.cons.injEq, Value.bool.injEq, and_true, true_and, decide_eq_true_eq, decide_eq_false_iff_not]; first | assumption | omega))
theorem steelyardref06_Trim.sound : SoundF Try.prog 90 steelyardref06_Trim.R :=
  Den.sound (l := [(58, steelyardref06_Make.R)]) (orc_cons steelyardref06_Make.sound (orc_nil)) Try.func90 (by kernel_rfl) (by kernel_rfl) (by decide +kernel) fun _ _ hR => steelyardref06_Trim.body rfl (fun _ _ h => (.inl ⟨rfl, h⟩)) hR rfl
end Go.Proofs.Yticngjjdjmadgaa.PU
end
section
set_option linter.unusedVariables false
set_option linter.unusedSimpArgs false
namespace Go.Proofs.Yticngjjdjmadgaa.PU
open Go Go.RowKit Go.Proofs.YticngjjdjmadgaaW.PrintWords Go.Proofs.YticngjjdjmadgaaW.PrintMore Go.Proofs.Yticngjjdjmadgaa.Den Go.Proofs.Yticngjjdjmadgaa.PL
def steelyardref06_Mul.R (us : List U) (u : U) : Prop := ∃ (k : Nat) (a0_0 : Bool) (l0_1 : List Int) (a1_0 : Bool) (l1_1 : List Int) (r1 : Bool) (r2 : List Int), us = [.agg [.v (.bool a0_0), .l l0_1], .agg [.v (.bool a1_0), .l l1_1]] ∧ steelyardref06_Mul.f k a0_0 l0_1 a1_0 l1_1 = some (r1, r2) ∧ u = .agg [.v (.bool r1), .l r2]
theorem steelyardref06_Mul.I {k : Nat} {a0_0 : Bool} {l0_1 : List Int} {a1_0 : Bool} {l1_1 : List Int} {r1 : Bool} {r2 : List Int} (h : steelyardref06_Mul.f k a0_0 l0_1 a1_0 l1_1 = some (r1, r2)) : steelyardref06_Mul.R [.agg [.v (.bool a0_0), .l l0_1], .agg [.v (.bool a1_0), .l l1_1]] (.agg [.v (.bool r1), .l r2]) := ⟨_, _, _, _, _, _, _, rfl, h, rfl⟩
theorem steelyardref06_Mul.J {k : Nat} {a0_0 : Bool} {l0_1 : List Int} {a1_0 : Bool} {l1_1 : List Int} {r1 : Bool} {r2 : List Int} (h : steelyardref06_Mul.f k a0_0 l0_1 a1_0 l1_1 = some (r1, r2)) {us : List U} (hus : us = [.agg [.v (.bool a0_0), .l l0_1], .agg [.v (.bool a1_0), .l l1_1]]) : steelyardref06_Mul.R us (.agg [.v (.bool r1), .l r2]) := ⟨_, _, _, _, _, _, _, hus, h, rfl⟩
theorem steelyardref06_Mul.E {β : Type} {k : Nat} {a0_0 : Bool} {l0_1 : List Int} {a1_0 : Bool} {l1_1 : List Int} {g : Bool × List Int → Option β} {z : β} {Q : Prop} (h : (steelyardref06_Mul.f k a0_0 l0_1 a1_0 l1_1).bind g = some z) (c : ∀ (r1 : Bool) (r2 : List Int), steelyardref06_Mul.f k a0_0 l0_1 a1_0 l1_1 = some (r1, r2) → g (r1, r2) = some z → Q) : Q := by
  obtain ⟨p, h1, h2⟩ := Option.bind_eq_some_iff.1 h
  exact c p.1 p.2 h1 h2
set_option maxHeartbeats 4000000 in
set_option maxRecDepth 100000 in
theorem steelyardref06_Mul.body {D : Dat} {C : Orc} (hD : D = real) (h33 : ∀ us u, steelyardref02_Of.R us u → C 33 us u) (h58 : ∀ us u, steelyardref06_Make.R us u → C 58 us u) (h90 : ∀ us u, steelyardref06_Trim.R us u → C 90 us u) {us : List U} {u : U} (hR : steelyardref06_Mul.R us u) {Q : Prop} (hQ : body tys D C Try.f57 us u = Q) : Q := by
  obtain ⟨k, a0_0, l0_1, a1_0, l1_1, r1, r2, rfl, h, hu⟩ := hR
  obtain ⟨len, add, sub, mul, rem, neg, conv, max, eq, ne, lt, le, nth, zeros, copy, cpd, bor⟩ := D
  simp only [real, Dat.mk.injEq] at hD
  obtain ⟨elen, eadd, esub, emul, erem, eneg, econv, emax, eeq, ene, elt, ele, enth, ezeros, ecopy, ecpd, ebor⟩ := hD
  have hE := And.intro elen (And.intro eadd (And.intro esub (And.intro emul (And.intro erem (And.intro eneg (And.intro econv (And.intro ebor (And.intro emax (And.intro eeq (And.intro ene (And.intro elt ele)))))))))))
  cases a0_0 <;>
  cases a1_0 <;>
  unfold steelyardref06_Mul.f at h <;>
  (repeat' first
    | (simp (maxSteps := 2000000) only [↓reduceIte, Bool.false_eq_true, Bool.not_true, Bool.not_false, reduceCtorEq, b00, b01, b10, b11, n00, n01, n10, n11] at h; done)
    | (simp (maxSteps := 2000000) only [↓reduceIte, Bool.false_eq_true, Bool.not_true, Bool.not_false, Option.bind_some, splice_self, b00, b01, b10, b11, n00, n01, n10, n11] at h)
    | (with_reducible refine steelyardref02_Of.E h ?_; clear h; rintro _ _ h)
    | (with_reducible refine steelyardref06_Make.E h ?_; clear h; rintro _ _ _ h)
    | (rw [‹steelyardref06_Trim.f _ _ _ = some _›] at h; simp only [Option.bind_some] at h)
    | (with_reducible refine steelyardref06_Trim.E h ?_; clear h; rintro (_ | _) _ _ h)
    | (simp (maxSteps := 2000000) only [↓reduceIte, Bool.false_eq_true, Bool.not_true, Bool.not_false, reduceCtorEq, decide_eq_true_eq, bne_iff_ne, ne_eq, beq_iff_eq, Option.bind_some, splice_self, b00, b01, b10, b11, n00, n01, n10, n11] at h)
    | (with_reducible refine iteE h ?_ ?_ <;> clear h <;> intro _ h)
    | (split at h)) <;>
  (injection h with h) <;>
  (try simp only [Prod.mk.injEq] at h) <;>
  (obtain ⟨rfl, rfl⟩ := h) <;>
  (rw [← hQ]; clear hQ) <;>
  (cbv) <;>
  (repeat first
    | ((with_reducible refine E2 (h33 _ _ (steelyardref02_Of.I ‹_›)) ?_); cbv)
    | ((with_reducible apply E2); (· with_reducible apply h33; simp only [hE, w64, mxE]; exact steelyardref02_Of.I ‹_›); cbv)
    | ((with_reducible refine E2 (h33 _ _ (steelyardref02_Of.J ‹steelyardref02_Of.f _ _ _ = some _› ?_)) ?_); (· simp only [hE, w64, mxE]; try rfl); cbv)
    | ((with_reducible refine E2 (h58 _ _ (steelyardref06_Make.I ‹_›)) ?_); cbv)
    | ((with_reducible apply E2); (· with_reducible apply h58; simp only [hE, w64, mxE]; exact steelyardref06_Make.I ‹_›); cbv)
    | ((with_reducible refine E2 (h58 _ _ (steelyardref06_Make.J ‹steelyardref06_Make.f _ _ _ = some _› ?_)) ?_); (· simp only [hE, w64, mxE]; try rfl); cbv)
    | ((with_reducible refine E2 (h90 _ _ (steelyardref06_Trim.I ‹_›)) ?_); cbv)
    | ((with_reducible apply E2); (· with_reducible apply h90; simp only [hE, w64, mxE]; exact steelyardref06_Trim.I ‹_›); cbv)
    | ((with_reducible refine E2 (h90 _ _ (steelyardref06_Trim.J ‹steelyardref06_Trim.f _ _ _ = some _› ?_)) ?_); (· simp only [hE, w64, mxE]; try rfl); cbv)
    | (rw [hu]; done)
    | (rw [hu]; simp only [hE, w64]; done)
    | (rw [hu]; simp only [hE, w64]; rfl)
    | (rw [hu]; simp only [hE, w64, Option.some.injEq, U.agg.injEq, U.tup.injEq, U.v.injEq, List.cons.injEq, Value.bool.injEq, and_true, true_and, decide_eq_true_eq, decide_eq_false_iff_not]; first | assumption | omega))
theorem steelyardref06_Mul.sound : SoundF Try.prog 57 steelyardref06_Mul.R :=
  Den.sound (l := [(33, steelyardref02_Of.R), (58, steelyardref06_Make.R), (90, steelyardref06_Trim.R)]) (orc_cons steelyardref02_Of.sound (orc_cons steelyardref06_Make.sound (orc_cons steelyardref06_Trim.sound (orc_nil)))) Try.func57 (by kernel_rfl) (by kernel_rfl) (by decide +kernel) fun _ _ hR => steelyardref06_Mul.body rfl (fun _ _ h => (.inl ⟨rfl, h⟩)) (fun _ _ h => (.inr (.inl ⟨rfl, h⟩))) (fun _ _ h => (.inr (.inr (.inl ⟨rfl, h⟩)))) hR rfl
end Go.Proofs.Yticngjjdjmadgaa.PU
end
section
set_option linter.unusedVariables false
set_option linter.unusedSimpArgs false
namespace Go.Proofs.Yticngjjdjmadgaa.PU
open Go Go.RowKit Go.Proofs.YticngjjdjmadgaaW.PrintWords Go.Proofs.YticngjjdjmadgaaW.PrintMore Go.Proofs.Yticngjjdjmadgaa.Den Go.Proofs.Yticngjjdjmadgaa.PL
def steelyardref07_Wide.R (us : List U) (u : U) : Prop := ∃ (k : Nat) (a0_0 : Bool) (l0_1 : List Int) (l1 : List Int) (r1 : Bool) (r2 : List Int) (r3 : List Int), us = [.agg [.v (.bool a0_0), .l l0_1], .l l1] ∧ steelyardref07_Wide.f k a0_0 l0_1 l1 = some (r1, r2, r3) ∧ u = .agg [.v (.bool r1), .l r2, .l r3]
theorem steelyardref07_Wide.I {k : Nat} {a0_0 : Bool} {l0_1 : List Int} {l1 : List Int} {r1 : Bool} {r2 : List Int} {r3 : List Int} (h : steelyardref07_Wide.f k a0_0 l0_1 l1 = some (r1, r2, r3)) : steelyardref07_Wide.R [.agg [.v (.bool a0_0), .l l0_1], .l l1] (.agg [.v (.bool r1), .l r2, .l r3]) := ⟨_, _, _, _, _, _, _, rfl, h, rfl⟩
theorem steelyardref07_Wide.J {k : Nat} {a0_0 : Bool} {l0_1 : List Int} {l1 : List Int} {r1 : Bool} {r2 : List Int} {r3 : List Int} (h : steelyardref07_Wide.f k a0_0 l0_1 l1 = some (r1, r2, r3)) {us : List U} (hus : us = [.agg [.v (.bool a0_0), .l l0_1], .l l1]) : steelyardref07_Wide.R us (.agg [.v (.bool r1), .l r2, .l r3]) := ⟨_, _, _, _, _, _, _, hus, h, rfl⟩
theorem steelyardref07_Wide.E {β : Type} {k : Nat} {a0_0 : Bool} {l0_1 : List Int} {l1 : List Int} {g : Bool × List Int × List Int → Option β} {z : β} {Q : Prop} (h : (steelyardref07_Wide.f k a0_0 l0_1 l1).bind g = some z) (c : ∀ (r1 : Bool) (r2 : List Int) (r3 : List Int), steelyardref07_Wide.f k a0_0 l0_1 l1 = some (r1, r2, r3) → g (r1, r2, r3) = some z → Q) : Q := by
  obtain ⟨p, h1, h2⟩ := Option.bind_eq_some_iff.1 h
  exact c p.1 p.2.1 p.2.2 h1 h2
set_option maxHeartbeats 4000000 in
set_option maxRecDepth 100000 in
theorem steelyardref07_Wide.body {D : Dat} {C : Orc} (hD : D = real) (h58 : ∀ us u, steelyardref06_Make.R us u → C 58 us u) (h63 : ∀ us u, steelyardref03_Gcd.R us u → C 63 us u) (h90 : ∀ us u, steelyardref06_Trim.R us u → C 90 us u) (h91 : ∀ us u, steelyardref03_Rem.R us u → C 91 us u) {us : List U} {u : U} (hR : steelyardref07_Wide.R us u) {Q : Prop} (hQ : body tys D C Try.f69 us u = Q) : Q := by
  obtain ⟨k, a0_0, l0_1, l1, r1, r2, r3, rfl, h, hu⟩ := hR
  obtain ⟨len, add, sub, mul, rem, neg, conv, max, eq, ne, lt, le, nth, zeros, copy, cpd, bor⟩ := D
  simp only [real, Dat.mk.injEq] at hD
  obtain ⟨elen, eadd, esub, emul, erem, eneg, econv, emax, eeq, ene, elt, ele, enth, ezeros, ecopy, ecpd, ebor⟩ := hD
  have hE := And.intro elen (And.intro eadd (And.intro esub (And.intro emul (And.intro erem (And.intro eneg (And.intro econv (And.intro ebor (And.intro emax (And.intro eeq (And.intro ene (And.intro elt ele)))))))))))
  cases a0_0 <;>
  unfold steelyardref07_Wide.f at h <;>
  (repeat' first
    | (simp (maxSteps := 2000000) only [↓reduceIte, Bool.false_eq_true, Bool.not_true, Bool.not_false, reduceCtorEq, b00, b01, b10, b11, n00, n01, n10, n11] at h; done)
    | (simp (maxSteps := 2000000) only [↓reduceIte, Bool.false_eq_true, Bool.not_true, Bool.not_false, Option.bind_some, splice_self, b00, b01, b10, b11, n00, n01, n10, n11] at h)
    | (with_reducible refine steelyardref06_Make.E h ?_; clear h; rintro _ _ _ h)
    | (with_reducible refine steelyardref03_Gcd.E h ?_; clear h; rintro _ _ h)
    | (with_reducible refine steelyardref06_Trim.E h ?_; clear h; rintro _ _ _ h)
    | (rw [‹steelyardref03_Rem.f _ _ _ = some _›] at h; simp only [Option.bind_some] at h)
    | (with_reducible refine steelyardref03_Rem.E h ?_; clear h; rintro _ _ _ _ h)
    | (simp (maxSteps := 2000000) only [↓reduceIte, Bool.false_eq_true, Bool.not_true, Bool.not_false, reduceCtorEq, decide_eq_true_eq, bne_iff_ne, ne_eq, beq_iff_eq, Option.bind_some, splice_self, b00, b01, b10, b11, n00, n01, n10, n11] at h)
    | (with_reducible refine iteE h ?_ ?_ <;> clear h <;> intro _ h)
    | (split at h)) <;>
  (injection h with h) <;>
  (try simp only [Prod.mk.injEq] at h) <;>
  (obtain ⟨rfl, rfl, rfl⟩ := h) <;>
  (rw [← hQ]; clear hQ) <;>
  (cbv) <;>
  (repeat first
    | ((with_reducible refine E2 (h58 _ _ (steelyardref06_Make.I ‹_›)) ?_); cbv)
    | ((with_reducible apply E2); (· with_reducible apply h58; simp only [hE, w64, mxE]; exact steelyardref06_Make.I ‹_›); cbv)
    | ((with_reducible refine E2 (h58 _ _ (steelyardref06_Make.J ‹steelyardref06_Make.f _ _ _ = some _› ?_)) ?_); (· simp only [hE, w64, mxE]; try rfl); cbv)
    | ((with_reducible refine E2 (h63 _ _ (steelyardref03_Gcd.I ‹_›)) ?_); cbv)
    | ((with_reducible apply E2); (· with_reducible apply h63; simp only [hE, w64, mxE]; exact steelyardref03_Gcd.I ‹_›); cbv)
    | ((with_reducible refine E2 (h63 _ _ (steelyardref03_Gcd.J ‹steelyardref03_Gcd.f _ _ _ = some _› ?_)) ?_); (· simp only [hE, w64, mxE]; try rfl); cbv)
    | ((with_reducible refine E2 (h90 _ _ (steelyardref06_Trim.I ‹_›)) ?_); cbv)
    | ((with_reducible apply E2); (· with_reducible apply h90; simp only [hE, w64, mxE]; exact steelyardref06_Trim.I ‹_›); cbv)
    | ((with_reducible refine E2 (h90 _ _ (steelyardref06_Trim.J ‹steelyardref06_Trim.f _ _ _ = some _› ?_)) ?_); (· simp only [hE, w64, mxE]; try rfl); cbv)
    | ((with_reducible refine E2 (h91 _ _ (steelyardref03_Rem.I ‹_›)) ?_); cbv)
    | ((with_reducible apply E2); (· with_reducible apply h91; simp only [hE, w64, mxE]; exact steelyardref03_Rem.I ‹_›); cbv)
    | ((with_reducible refine E2 (h91 _ _ (steelyardref03_Rem.J ‹steelyardref03_Rem.f _ _ _ = some _› ?_)) ?_); (· simp only [hE, w64, mxE]; try rfl); cbv)
    | (rw [hu]; done)
    | (rw [hu]; simp only [hE, w64]; done)
    | (rw [hu]; simp only [hE, w64]; rfl)
    | (rw [hu]; simp only [hE, w64, Option.some.injEq, U.agg.injEq, U.tup.injEq, U.v.injEq, List.cons.injEq, Value.bool.injEq, and_true, true_and, decide_eq_true_eq, decide_eq_false_iff_not]; first | assumption | omega))
theorem steelyardref07_Wide.sound : SoundF Try.prog 69 steelyardref07_Wide.R :=
  Den.sound (l := [(58, steelyardref06_Make.R), (63, steelyardref03_Gcd.R), (90, steelyardref06_Trim.R), (91, steelyardref03_Rem.R)]) (orc_cons steelyardref06_Make.sound (orc_cons steelyardref03_Gcd.sound (orc_cons steelyardref06_Trim.sound (orc_cons steelyardref03_Rem.sound (orc_nil))))) Try.func69 (by kernel_rfl) (by kernel_rfl) (by decide +kernel) fun _ _ hR => steelyardref07_Wide.body rfl (fun _ _ h => (.inl ⟨rfl, h⟩)) (fun _ _ h => (.inr (.inl ⟨rfl, h⟩))) (fun _ _ h => (.inr (.inr (.inl ⟨rfl, h⟩)))) (fun _ _ h => (.inr (.inr (.inr (.inl ⟨rfl, h⟩))))) hR rfl
end Go.Proofs.Yticngjjdjmadgaa.PU
end
section
set_option linter.unusedVariables false
set_option linter.unusedSimpArgs false
namespace Go.Proofs.Yticngjjdjmadgaa.PU
open Go Go.RowKit Go.Proofs.YticngjjdjmadgaaW.PrintWords Go.Proofs.YticngjjdjmadgaaW.PrintMore Go.Proofs.Yticngjjdjmadgaa.Den Go.Proofs.Yticngjjdjmadgaa.PL
def steelyardref07_Times.R (us : List U) (u : U) : Prop := ∃ (k : Nat) (a0_0 : Bool) (l0_1 : List Int) (l0_2 : List Int) (a1_0 : Bool) (l1_1 : List Int) (l1_2 : List Int) (r1 : Bool) (r2 : List Int) (r3 : List Int), us = [.agg [.v (.bool a0_0), .l l0_1, .l l0_2], .agg [.v (.bool a1_0), .l l1_1, .l l1_2]] ∧ steelyardref07_Times.f k a0_0 l0_1 l0_2 a1_0 l1_1 l1_2 = some (r1, r2, r3) ∧ u = .agg [.v (.bool r1), .l r2, .l r3]
theorem steelyardref07_Times.I {k : Nat} {a0_0 : Bool} {l0_1 : List Int} {l0_2 : List Int} {a1_0 : Bool} {l1_1 : List Int} {l1_2 : List Int} {r1 : Bool} {r2 : List Int} {r3 : List Int} (h : steelyardref07_Times.f k a0_0 l0_1 l0_2 a1_0 l1_1 l1_2 = some (r1, r2, r3)) : steelyardref07_Times.R [.agg [.v (.bool a0_0), .l l0_1, .l l0_2], .agg [.v (.bool a1_0), .l l1_1, .l l1_2]] (.agg [.v (.bool r1), .l r2, .l r3]) := ⟨_, _, _, _, _, _, _, _, _, _, rfl, h, rfl⟩
theorem steelyardref07_Times.J {k : Nat} {a0_0 : Bool} {l0_1 : List Int} {l0_2 : List Int} {a1_0 : Bool} {l1_1 : List Int} {l1_2 : List Int} {r1 : Bool} {r2 : List Int} {r3 : List Int} (h : steelyardref07_Times.f k a0_0 l0_1 l0_2 a1_0 l1_1 l1_2 = some (r1, r2, r3)) {us : List U} (hus : us = [.agg [.v (.bool a0_0), .l l0_1, .l l0_2], .agg [.v (.bool a1_0), .l l1_1, .l l1_2]]) : steelyardref07_Times.R us (.agg [.v (.bool r1), .l r2, .l r3]) := ⟨_, _, _, _, _, _, _, _, _, _, hus, h, rfl⟩
theorem steelyardref07_Times.E {β : Type} {k : Nat} {a0_0 : Bool} {l0_1 : List Int} {l0_2 : List Int} {a1_0 : Bool} {l1_1 : List Int} {l1_2 : List Int} {g : Bool × List Int × List Int → Option β} {z : β} {Q : Prop} (h : (steelyardref07_Times.f k a0_0 l0_1 l0_2 a1_0 l1_1 l1_2).bind g = some z) (c : ∀ (r1 : Bool) (r2 : List Int) (r3 : List Int), steelyardref07_Times.f k a0_0 l0_1 l0_2 a1_0 l1_1 l1_2 = some (r1, r2, r3) → g (r1, r2, r3) = some z → Q) : Q := by
  obtain ⟨p, h1, h2⟩ := Option.bind_eq_some_iff.1 h
  exact c p.1 p.2.1 p.2.2 h1 h2
set_option maxHeartbeats 4000000 in
set_option maxRecDepth 100000 in
theorem steelyardref07_Times.body {D : Dat} {C : Orc} (hD : D = real) (h33 : ∀ us u, steelyardref02_Of.R us u → C 33 us u) (h57 : ∀ us u, steelyardref06_Mul.R us u → C 57 us u) (h69 : ∀ us u, steelyardref07_Wide.R us u → C 69 us u) {us : List U} {u : U} (hR : steelyardref07_Times.R us u) {Q : Prop} (hQ : body tys D C Try.f82 us u = Q) : Q := by
  obtain ⟨k, a0_0, l0_1, l0_2, a1_0, l1_1, l1_2, r1, r2, r3, rfl, h, hu⟩ := hR
  obtain ⟨len, add, sub, mul, rem, neg, conv, max, eq, ne, lt, le, nth, zeros, copy, cpd, bor⟩ := D
  simp only [real, Dat.mk.injEq] at hD
  obtain ⟨elen, eadd, esub, emul, erem, eneg, econv, emax, eeq, ene, elt, ele, enth, ezeros, ecopy, ecpd, ebor⟩ := hD
  have hE := And.intro elen (And.intro eadd (And.intro esub (And.intro emul (And.intro erem (And.intro eneg (And.intro econv (And.intro ebor (And.intro emax (And.intro eeq (And.intro ene (And.intro elt ele)))))))))))
  cases a0_0 <;>
  cases a1_0 <;>
  unfold steelyardref07_Times.f at h <;>
  (repeat' first
    | (simp (maxSteps := 2000000) only [↓reduceIte, Bool.false_eq_true, Bool.not_true, Bool.not_false, reduceCtorEq, b00, b01, b10, b11, n00, n01, n10, n11] at h; done)
    | (simp (maxSteps := 2000000) only [↓reduceIte, Bool.false_eq_true, Bool.not_true, Bool.not_false, Option.bind_some, splice_self, b00, b01, b10, b11, n00, n01, n10, n11] at h)
    | (with_reducible refine steelyardref02_Of.E h ?_; clear h; rintro _ _ h)
    | (with_reducible refine steelyardref06_Mul.E h ?_; clear h; rintro _ _ _ h)
    | (with_reducible refine steelyardref07_Wide.E h ?_; clear h; rintro _ _ _ _ h)
    | (simp (maxSteps := 2000000) only [↓reduceIte, Bool.false_eq_true, Bool.not_true, Bool.not_false, reduceCtorEq, decide_eq_true_eq, bne_iff_ne, ne_eq, beq_iff_eq, Option.bind_some, splice_self, b00, b01, b10, b11, n00, n01, n10, n11] at h)
    | (with_reducible refine iteE h ?_ ?_ <;> clear h <;> intro _ h)
    | (split at h)) <;>
  (injection h with h) <;>
  (try simp only [Prod.mk.injEq] at h) <;>
  (obtain ⟨rfl, rfl, rfl⟩ := h) <;>
  (rw [← hQ]; clear hQ) <;>
  (cbv) <;>
  (repeat first
    | ((with_reducible refine E2 (h33 _ _ (steelyardref02_Of.I ‹_›)) ?_); cbv)
    | ((with_reducible apply E2); (· with_reducible apply h33; simp only [hE, w64, mxE]; exact steelyardref02_Of.I ‹_›); cbv)
    | ((with_reducible refine E2 (h33 _ _ (steelyardref02_Of.J ‹steelyardref02_Of.f _ _ _ = some _› ?_)) ?_); (· simp only [hE, w64, mxE]; try rfl); cbv)
    | ((with_reducible refine E2 (h57 _ _ (steelyardref06_Mul.I ‹_›)) ?_); cbv)
    | ((with_reducible apply E2); (· with_reducible apply h57; simp only [hE, w64, mxE]; exact steelyardref06_Mul.I ‹_›); cbv)
    | ((with_reducible refine E2 (h57 _ _ (steelyardref06_Mul.J ‹steelyardref06_Mul.f _ _ _ _ _ = some _› ?_)) ?_); (· simp only [hE, w64, mxE]; try rfl); cbv)
    | ((with_reducible refine E2 (h69 _ _ (steelyardref07_Wide.I ‹_›)) ?_); cbv)
    | ((with_reducible apply E2); (· with_reducible apply h69; simp only [hE, w64, mxE]; exact steelyardref07_Wide.I ‹_›); cbv)
    | ((with_reducible refine E2 (h69 _ _ (steelyardref07_Wide.J ‹steelyardref07_Wide.f _ _ _ _ = some _› ?_)) ?_); (· simp only [hE, w64, mxE]; try rfl); cbv)
    | (rw [hu]; done)
    | (rw [hu]; simp only [hE, w64]; done)
    | (rw [hu]; simp only [hE, w64]; rfl)
    | (rw [hu]; simp only [hE, w64, Option.some.injEq, U.agg.injEq, U.tup.injEq, U.v.injEq, List.cons.injEq, Value.bool.injEq, and_true, true_and, decide_eq_true_eq, decide_eq_false_iff_not]; first | assumption | omega))
theorem steelyardref07_Times.sound : SoundF Try.prog 82 steelyardref07_Times.R :=
  Den.sound (l := [(33, steelyardref02_Of.R), (57, steelyardref06_Mul.R), (69, steelyardref07_Wide.R)]) (orc_cons steelyardref02_Of.sound (orc_cons steelyardref06_Mul.sound (orc_cons steelyardref07_Wide.sound (orc_nil)))) Try.func82 (by kernel_rfl) (by kernel_rfl) (by decide +kernel) fun _ _ hR => steelyardref07_Times.body rfl (fun _ _ h => (.inl ⟨rfl, h⟩)) (fun _ _ h => (.inr (.inl ⟨rfl, h⟩))) (fun _ _ h => (.inr (.inr (.inl ⟨rfl, h⟩)))) hR rfl
end Go.Proofs.Yticngjjdjmadgaa.PU
end
section
set_option linter.unusedVariables false
set_option linter.unusedSimpArgs false
namespace Go.Proofs.Yticngjjdjmadgaa.PU
open Go Go.RowKit Go.Proofs.YticngjjdjmadgaaW.PrintWords Go.Proofs.YticngjjdjmadgaaW.PrintMore Go.Proofs.Yticngjjdjmadgaa.Den Go.Proofs.Yticngjjdjmadgaa.PL
def steelyardref07_Div.R (us : List U) (u : U) : Prop := ∃ (k : Nat) (a0_0 : Bool) (l0_1 : List Int) (l0_2 : List Int) (a1_0 : Bool) (l1_1 : List Int) (l1_2 : List Int) (r1 : Bool) (r2 : List Int) (r3 : List Int) (r4 : Int), us = [.agg [.v (.bool a0_0), .l l0_1, .l l0_2], .agg [.v (.bool a1_0), .l l1_1, .l l1_2]] ∧ steelyardref07_Div.f k a0_0 l0_1 l0_2 a1_0 l1_1 l1_2 = some (r1, r2, r3, r4) ∧ u = .agg [.v (.bool r1), .l r2, .l r3, .v (.int .i64 r4)]
theorem steelyardref07_Div.I {k : Nat} {a0_0 : Bool} {l0_1 : List Int} {l0_2 : List Int} {a1_0 : Bool} {l1_1 : List Int} {l1_2 : List Int} {r1 : Bool} {r2 : List Int} {r3 : List Int} {r4 : Int} (h : steelyardref07_Div.f k a0_0 l0_1 l0_2 a1_0 l1_1 l1_2 = some (r1, r2, r3, r4)) : steelyardref07_Div.R [.agg [.v (.bool a0_0), .l l0_1, .l l0_2], .agg [.v (.bool a1_0), .l l1_1, .l l1_2]] (.agg [.v (.bool r1), .l r2, .l r3, .v (.int .i64 r4)]) := ⟨_, _, _, _, _, _, _, _, _, _, _, rfl, h, rfl⟩
theorem steelyardref07_Div.J {k : Nat} {a0_0 : Bool} {l0_1 : List Int} {l0_2 : List Int} {a1_0 : Bool} {l1_1 : List Int} {l1_2 : List Int} {r1 : Bool} {r2 : List Int} {r3 : List Int} {r4 : Int} (h : steelyardref07_Div.f k a0_0 l0_1 l0_2 a1_0 l1_1 l1_2 = some (r1, r2, r3, r4)) {us : List U} (hus : us = [.agg [.v (.bool a0_0), .l l0_1, .l l0_2], .agg [.v (.bool a1_0), .l l1_1, .l l1_2]]) : steelyardref07_Div.R us (.agg [.v (.bool r1), .l r2, .l r3, .v (.int .i64 r4)]) := ⟨_, _, _, _, _, _, _, _, _, _, _, hus, h, rfl⟩
theorem steelyardref07_Div.E {β : Type} {k : Nat} {a0_0 : Bool} {l0_1 : List Int} {l0_2 : List Int} {a1_0 : Bool} {l1_1 : List Int} {l1_2 : List Int} {g : Bool × List Int × List Int × Int → Option β} {z : β} {Q : Prop} (h : (steelyardref07_Div.f k a0_0 l0_1 l0_2 a1_0 l1_1 l1_2).bind g = some z) (c : ∀ (r1 : Bool) (r2 : List Int) (r3 : List Int) (r4 : Int), steelyardref07_Div.f k a0_0 l0_1 l0_2 a1_0 l1_1 l1_2 = some (r1, r2, r3, r4) → g (r1, r2, r3, r4) = some z → Q) : Q := by
  obtain ⟨p, h1, h2⟩ := Option.bind_eq_some_iff.1 h
  exact c p.1 p.2.1 p.2.2.1 p.2.2.2 h1 h2
set_option maxHeartbeats 4000000 in
set_option maxRecDepth 100000 in
theorem steelyardref07_Div.body {D : Dat} {C : Orc} (hD : D = real) (h22 : ∀ us u, steelyardref07_Good.R us u → C 22 us u) (h54 : ∀ us u, steelyardref07_Limit.R us u → C 54 us u) (h58 : ∀ us u, steelyardref06_Make.R us u → C 58 us u) (h82 : ∀ us u, steelyardref07_Times.R us u → C 82 us u) {us : List U} {u : U} (hR : steelyardref07_Div.R us u) {Q : Prop} (hQ : body tys D C Try.f39 us u = Q) : Q := by
  obtain ⟨k, a0_0, l0_1, l0_2, a1_0, l1_1, l1_2, r1, r2, r3, r4, rfl, h, hu⟩ := hR
  obtain ⟨len, add, sub, mul, rem, neg, conv, max, eq, ne, lt, le, nth, zeros, copy, cpd, bor⟩ := D
  simp only [real, Dat.mk.injEq] at hD
  obtain ⟨elen, eadd, esub, emul, erem, eneg, econv, emax, eeq, ene, elt, ele, enth, ezeros, ecopy, ecpd, ebor⟩ := hD
  have hE := And.intro elen (And.intro eadd (And.intro esub (And.intro emul (And.intro erem (And.intro eneg (And.intro econv (And.intro ebor (And.intro emax (And.intro eeq (And.intro ene (And.intro elt ele)))))))))))
  cases a0_0 <;>
  cases a1_0 <;>
  unfold steelyardref07_Div.f at h <;>
  (repeat' first
    | (simp (maxSteps := 2000000) only [↓reduceIte, Bool.false_eq_true, Bool.not_true, Bool.not_false, reduceCtorEq, b00, b01, b10, b11, n00, n01, n10, n11] at h; done)
    | (simp (maxSteps := 2000000) only [↓reduceIte, Bool.false_eq_true, Bool.not_true, Bool.not_false, Option.bind_some, splice_self, b00, b01, b10, b11, n00, n01, n10, n11] at h)
    | (rw [‹steelyardref07_Good.f _ _ _ _ = some _›] at h; simp only [Option.bind_some] at h)
    | (with_reducible refine steelyardref07_Good.E h ?_; clear h; rintro (_ | _) _ h)
    | (with_reducible refine steelyardref07_Limit.E h ?_; clear h; rintro _ _ _ _ _ h)
    | (with_reducible refine steelyardref06_Make.E h ?_; clear h; rintro _ _ _ h)
    | (with_reducible refine steelyardref07_Times.E h ?_; clear h; rintro _ _ _ _ h)
    | (unfold steelyardref07_Div.j0 at h)
    | (simp (maxSteps := 2000000) only [↓reduceIte, Bool.false_eq_true, Bool.not_true, Bool.not_false, reduceCtorEq, decide_eq_true_eq, bne_iff_ne, ne_eq, beq_iff_eq, Option.bind_some, splice_self, b00, b01, b10, b11, n00, n01, n10, n11] at h)
    | (with_reducible refine iteE h ?_ ?_ <;> clear h <;> intro _ h)
    | (split at h)) <;>
  (injection h with h) <;>
  (try simp only [Prod.mk.injEq] at h) <;>
  (obtain ⟨rfl, rfl, rfl, rfl⟩ := h) <;>
  (rw [← hQ]; clear hQ) <;>
  (cbv) <;>
  (repeat first
    | ((with_reducible refine E2 (h22 _ _ (steelyardref07_Good.I ‹_›)) ?_); cbv)
    | ((with_reducible apply E2); (· with_reducible apply h22; simp only [hE, w64, mxE]; exact steelyardref07_Good.I ‹_›); cbv)
    | ((with_reducible refine E2 (h22 _ _ (steelyardref07_Good.J ‹steelyardref07_Good.f _ _ _ _ = some _› ?_)) ?_); (· simp only [hE, w64, mxE]; try rfl); cbv)
    | ((with_reducible refine E2 (h54 _ _ (steelyardref07_Limit.I ‹_›)) ?_); cbv)
    | ((with_reducible apply E2); (· with_reducible apply h54; simp only [hE, w64, mxE]; exact steelyardref07_Limit.I ‹_›); cbv)
    | ((with_reducible refine E2 (h54 _ _ (steelyardref07_Limit.J ‹steelyardref07_Limit.f _ _ _ = some _› ?_)) ?_); (· simp only [hE, w64, mxE]; try rfl); cbv)
    | ((with_reducible refine E2 (h58 _ _ (steelyardref06_Make.I ‹_›)) ?_); cbv)
    | ((with_reducible apply E2); (· with_reducible apply h58; simp only [hE, w64, mxE]; exact steelyardref06_Make.I ‹_›); cbv)
    | ((with_reducible refine E2 (h58 _ _ (steelyardref06_Make.J ‹steelyardref06_Make.f _ _ _ = some _› ?_)) ?_); (· simp only [hE, w64, mxE]; try rfl); cbv)
    | ((with_reducible refine E2 (h82 _ _ (steelyardref07_Times.I ‹_›)) ?_); cbv)
    | ((with_reducible apply E2); (· with_reducible apply h82; simp only [hE, w64, mxE]; exact steelyardref07_Times.I ‹_›); cbv)
    | ((with_reducible refine E2 (h82 _ _ (steelyardref07_Times.J ‹steelyardref07_Times.f _ _ _ _ _ _ _ = some _› ?_)) ?_); (· simp only [hE, w64, mxE]; try rfl); cbv)
    | ((with_reducible refine t1 ?_ ?_); (· (simp only [hE, w64, decide_eq_true_eq, decide_eq_false_iff_not]; first | assumption | omega)); intro hb_; (try simp only [hb_]); cbv)
    | ((with_reducible refine t2 ?_ ?_); (· (simp only [hE, w64, decide_eq_true_eq, decide_eq_false_iff_not]; first | assumption | omega)); intro hb_; (try simp only [hb_]); cbv)
    | ((with_reducible refine t3 ?_ ?_); (· (simp only [hE, w64, decide_eq_true_eq, decide_eq_false_iff_not]; first | assumption | omega)); intro hb_; (try simp only [hb_]); cbv)
    | ((with_reducible refine t4 ?_ ?_); (· (simp only [hE, w64, decide_eq_true_eq, decide_eq_false_iff_not]; first | assumption | omega)); intro hb_; (try simp only [hb_]); cbv)
    | (rw [hu]; done)
    | (rw [hu]; simp only [hE, w64]; done)
    | (rw [hu]; simp only [hE, w64]; rfl)
    | (rw [hu]; simp only [hE, w64, Option.some.injEq, U.agg.injEq, U.tup.injEq, U.v.injEq, List.cons.injEq, Value.bool.injEq, and_true, true_and, decide_eq_true_eq, decide_eq_false_iff_not]; first | assumption | omega))
theorem steelyardref07_Div.sound : SoundF Try.prog 39 steelyardref07_Div.R :=
  Den.sound (l := [(22, steelyardref07_Good.R), (54, steelyardref07_Limit.R), (58, steelyardref06_Make.R), (82, steelyardref07_Times.R)]) (orc_cons steelyardref07_Good.sound (orc_cons steelyardref07_Limit.sound (orc_cons steelyardref06_Make.sound (orc_cons steelyardref07_Times.sound (orc_nil))))) Try.func39 (by kernel_rfl) (by kernel_rfl) (by decide +kernel) fun _ _ hR => steelyardref07_Div.body rfl (fun _ _ h => (.inl ⟨rfl, h⟩)) (fun _ _ h => (.inr (.inl ⟨rfl, h⟩))) (fun _ _ h => (.inr (.inr (.inl ⟨rfl, h⟩)))) (fun _ _ h => (.inr (.inr (.inr (.inl ⟨rfl, h⟩))))) hR rfl
end Go.Proofs.Yticngjjdjmadgaa.PU
end
section
set_option linter.unusedVariables false
set_option linter.unusedSimpArgs false
namespace Go.Proofs.Yticngjjdjmadgaa.PU
open Go Go.RowKit Go.Proofs.YticngjjdjmadgaaW.PrintWords Go.Proofs.YticngjjdjmadgaaW.PrintMore Go.Proofs.Yticngjjdjmadgaa.Den Go.Proofs.Yticngjjdjmadgaa.PL
def steelyardref06_Of.R (us : List U) (u : U) : Prop := ∃ (k : Nat) (a0 : Int) (r1 : Bool) (r2 : List Int), us = [.v (.int .i64 a0)] ∧ steelyardref06_Of.f k a0 = some (r1, r2) ∧ u = .agg [.v (.bool r1), .l r2]
theorem steelyardref06_Of.I {k : Nat} {a0 : Int} {r1 : Bool} {r2 : List Int} (h : steelyardref06_Of.f k a0 = some (r1, r2)) : steelyardref06_Of.R [.v (.int .i64 a0)] (.agg [.v (.bool r1), .l r2]) := ⟨_, _, _, _, rfl, h, rfl⟩
theorem steelyardref06_Of.J {k : Nat} {a0 : Int} {r1 : Bool} {r2 : List Int} (h : steelyardref06_Of.f k a0 = some (r1, r2)) {us : List U} (hus : us = [.v (.int .i64 a0)]) : steelyardref06_Of.R us (.agg [.v (.bool r1), .l r2]) := ⟨_, _, _, _, hus, h, rfl⟩
theorem steelyardref06_Of.E {β : Type} {k : Nat} {a0 : Int} {g : Bool × List Int → Option β} {z : β} {Q : Prop} (h : (steelyardref06_Of.f k a0).bind g = some z) (c : ∀ (r1 : Bool) (r2 : List Int), steelyardref06_Of.f k a0 = some (r1, r2) → g (r1, r2) = some z → Q) : Q := by
  obtain ⟨p, h1, h2⟩ := Option.bind_eq_some_iff.1 h
  exact c p.1 p.2 h1 h2
set_option maxHeartbeats 4000000 in
set_option maxRecDepth 100000 in
theorem steelyardref06_Of.body {D : Dat} {C : Orc} (hD : D = real) (h58 : ∀ us u, steelyardref06_Make.R us u → C 58 us u) (h107 : ∀ us u, steelyardref01_Of.R us u → C 107 us u) {us : List U} {u : U} (hR : steelyardref06_Of.R us u) {Q : Prop} (hQ : body tys D C Try.f87 us u = Q) : Q := by
  obtain ⟨k, a0, r1, r2, rfl, h, hu⟩ := hR
  obtain ⟨len, add, sub, mul, rem, neg, conv, max, eq, ne, lt, le, nth, zeros, copy, cpd, bor⟩ := D
  simp only [real, Dat.mk.injEq] at hD
  obtain ⟨elen, eadd, esub, emul, erem, eneg, econv, emax, eeq, ene, elt, ele, enth, ezeros, ecopy, ecpd, ebor⟩ := hD
  have hE := And.intro elen (And.intro eadd (And.intro esub (And.intro emul (And.intro erem (And.intro eneg (And.intro econv (And.intro ebor (And.intro emax (And.intro eeq (And.intro ene (And.intro elt ele)))))))))))
  unfold steelyardref06_Of.f at h <;>
  (repeat' first
    | (simp (maxSteps := 2000000) only [↓reduceIte, Bool.false_eq_true, Bool.not_true, Bool.not_false, reduceCtorEq, b00, b01, b10, b11, n00, n01, n10, n11] at h; done)
    | (simp (maxSteps := 2000000) only [↓reduceIte, Bool.false_eq_true, Bool.not_true, Bool.not_false, Option.bind_some, splice_self, b00, b01, b10, b11, n00, n01, n10, n11] at h)
    | (rw [‹steelyardref06_Make.f _ _ _ = some _›] at h; simp only [Option.bind_some] at h)
    | (with_reducible refine steelyardref06_Make.E h ?_; clear h; rintro _ _ _ h)
    | (rw [‹steelyardref01_Of.f _ _ = some _›] at h; simp only [Option.bind_some] at h)
    | (with_reducible refine steelyardref01_Of.E h ?_; clear h; rintro _ _ h)
    | (simp (maxSteps := 2000000) only [↓reduceIte, Bool.false_eq_true, Bool.not_true, Bool.not_false, reduceCtorEq, decide_eq_true_eq, bne_iff_ne, ne_eq, beq_iff_eq, Option.bind_some, splice_self, b00, b01, b10, b11, n00, n01, n10, n11] at h)
    | (with_reducible refine iteE h ?_ ?_ <;> clear h <;> intro _ h)
    | (split at h)) <;>
  (injection h with h) <;>
  (try simp only [Prod.mk.injEq] at h) <;>
  (obtain ⟨rfl, rfl⟩ := h) <;>
  (rw [← hQ]; clear hQ) <;>
  (cbv) <;>
  (repeat first
    | ((with_reducible refine E2 (h58 _ _ (steelyardref06_Make.I ‹_›)) ?_); cbv)
    | ((with_reducible apply E2); (· with_reducible apply h58; simp only [hE, w64, mxE]; exact steelyardref06_Make.I ‹_›); cbv)
    | ((with_reducible refine E2 (h58 _ _ (steelyardref06_Make.J ‹steelyardref06_Make.f _ _ _ = some _› ?_)) ?_); (· simp only [hE, w64, mxE]; try rfl); cbv)
    | ((with_reducible refine E2 (h107 _ _ (steelyardref01_Of.I ‹_›)) ?_); cbv)
    | ((with_reducible apply E2); (· with_reducible apply h107; simp only [hE, w64, mxE]; exact steelyardref01_Of.I ‹_›); cbv)
    | ((with_reducible refine E2 (h107 _ _ (steelyardref01_Of.J ‹steelyardref01_Of.f _ _ = some _› ?_)) ?_); (· simp only [hE, w64, mxE]; try rfl); cbv)
    | ((with_reducible refine t1 ?_ ?_); (· (simp only [hE, w64, decide_eq_true_eq, decide_eq_false_iff_not]; first | assumption | omega)); intro hb_; (try simp only [hb_]); cbv)
    | ((with_reducible refine t2 ?_ ?_); (· (simp only [hE, w64, decide_eq_true_eq, decide_eq_false_iff_not]; first | assumption | omega)); intro hb_; (try simp only [hb_]); cbv)
    | ((with_reducible refine t3 ?_ ?_); (· (simp only [hE, w64, decide_eq_true_eq, decide_eq_false_iff_not]; first | assumption | omega)); intro hb_; (try simp only [hb_]); cbv)
    | ((with_reducible refine t4 ?_ ?_); (· (simp only [hE, w64, decide_eq_true_eq, decide_eq_false_iff_not]; first | assumption | omega)); intro hb_; (try simp only [hb_]); cbv)
    | (rw [hu]; done)
    | (rw [hu]; simp only [hE, w64]; done)
    | (rw [hu]; simp only [hE, w64]; rfl)
    | (rw [hu]; simp only [hE, w64, Option.some.injEq, U.agg.injEq, U.tup.injEq, U.v.injEq, List.cons.injEq, Value.bool.injEq, and_true, true_and, decide_eq_true_eq, decide_eq_false_iff_not]; first | assumption | omega))
theorem steelyardref06_Of.sound : SoundF Try.prog 87 steelyardref06_Of.R :=
  Den.sound (l := [(58, steelyardref06_Make.R), (107, steelyardref01_Of.R)]) (orc_cons steelyardref06_Make.sound (orc_cons steelyardref01_Of.sound (orc_nil))) Try.func87 (by kernel_rfl) (by kernel_rfl) (by decide +kernel) fun _ _ hR => steelyardref06_Of.body rfl (fun _ _ h => (.inl ⟨rfl, h⟩)) (fun _ _ h => (.inr (.inl ⟨rfl, h⟩))) hR rfl
end Go.Proofs.Yticngjjdjmadgaa.PU
end
section
set_option linter.unusedVariables false
set_option linter.unusedSimpArgs false
namespace Go.Proofs.Yticngjjdjmadgaa.PU
open Go Go.RowKit Go.Proofs.YticngjjdjmadgaaW.PrintWords Go.Proofs.YticngjjdjmadgaaW.PrintMore Go.Proofs.Yticngjjdjmadgaa.Den Go.Proofs.Yticngjjdjmadgaa.PL
def steelyardref07_Whole.R (us : List U) (u : U) : Prop := ∃ (k : Nat) (a0 : Int) (r1 : Bool) (r2 : List Int) (r3 : List Int), us = [.v (.int .i64 a0)] ∧ steelyardref07_Whole.f k a0 = some (r1, r2, r3) ∧ u = .agg [.v (.bool r1), .l r2, .l r3]
theorem steelyardref07_Whole.I {k : Nat} {a0 : Int} {r1 : Bool} {r2 : List Int} {r3 : List Int} (h : steelyardref07_Whole.f k a0 = some (r1, r2, r3)) : steelyardref07_Whole.R [.v (.int .i64 a0)] (.agg [.v (.bool r1), .l r2, .l r3]) := ⟨_, _, _, _, _, rfl, h, rfl⟩
theorem steelyardref07_Whole.J {k : Nat} {a0 : Int} {r1 : Bool} {r2 : List Int} {r3 : List Int} (h : steelyardref07_Whole.f k a0 = some (r1, r2, r3)) {us : List U} (hus : us = [.v (.int .i64 a0)]) : steelyardref07_Whole.R us (.agg [.v (.bool r1), .l r2, .l r3]) := ⟨_, _, _, _, _, hus, h, rfl⟩
theorem steelyardref07_Whole.E {β : Type} {k : Nat} {a0 : Int} {g : Bool × List Int × List Int → Option β} {z : β} {Q : Prop} (h : (steelyardref07_Whole.f k a0).bind g = some z) (c : ∀ (r1 : Bool) (r2 : List Int) (r3 : List Int), steelyardref07_Whole.f k a0 = some (r1, r2, r3) → g (r1, r2, r3) = some z → Q) : Q := by
  obtain ⟨p, h1, h2⟩ := Option.bind_eq_some_iff.1 h
  exact c p.1 p.2.1 p.2.2 h1 h2
set_option maxHeartbeats 4000000 in
set_option maxRecDepth 100000 in
theorem steelyardref07_Whole.body {D : Dat} {C : Orc} (hD : D = real) (h87 : ∀ us u, steelyardref06_Of.R us u → C 87 us u) {us : List U} {u : U} (hR : steelyardref07_Whole.R us u) {Q : Prop} (hQ : body tys D C Try.f47 us u = Q) : Q := by
  obtain ⟨k, a0, r1, r2, r3, rfl, h, hu⟩ := hR
  obtain ⟨len, add, sub, mul, rem, neg, conv, max, eq, ne, lt, le, nth, zeros, copy, cpd, bor⟩ := D
  simp only [real, Dat.mk.injEq] at hD
  obtain ⟨elen, eadd, esub, emul, erem, eneg, econv, emax, eeq, ene, elt, ele, enth, ezeros, ecopy, ecpd, ebor⟩ := hD
  have hE := And.intro elen (And.intro eadd (And.intro esub (And.intro emul (And.intro erem (And.intro eneg (And.intro econv (And.intro ebor (And.intro emax (And.intro eeq (And.intro ene (And.intro elt ele)))))))))))
  unfold steelyardref07_Whole.f at h <;>
  (repeat' first
    | (simp (maxSteps := 2000000) only [↓reduceIte, Bool.false_eq_true, Bool.not_true, Bool.not_false, reduceCtorEq, b00, b01, b10, b11, n00, n01, n10, n11] at h; done)
    | (simp (maxSteps := 2000000) only [↓reduceIte, Bool.false_eq_true, Bool.not_true, Bool.not_false, Option.bind_some, splice_self, b00, b01, b10, b11, n00, n01, n10, n11] at h)
    | (with_reducible refine steelyardref06_Of.E h ?_; clear h; rintro _ _ _ h)
    | (simp (maxSteps := 2000000) only [↓reduceIte, Bool.false_eq_true, Bool.not_true, Bool.not_false, reduceCtorEq, decide_eq_true_eq, bne_iff_ne, ne_eq, beq_iff_eq, Option.bind_some, splice_self, b00, b01, b10, b11, n00, n01, n10, n11] at h)
    | (with_reducible refine iteE h ?_ ?_ <;> clear h <;> intro _ h)
    | (split at h)) <;>
  (injection h with h) <;>
  (try simp only [Prod.mk.injEq] at h) <;>
  (obtain ⟨rfl, rfl, rfl⟩ := h) <;>
  (rw [← hQ]; clear hQ) <;>
  (cbv) <;>
  (repeat first
    | ((with_reducible refine E2 (h87 _ _ (steelyardref06_Of.I ‹_›)) ?_); cbv)
    | ((with_reducible apply E2); (· with_reducible apply h87; simp only [hE, w64, mxE]; exact steelyardref06_Of.I ‹_›); cbv)
    | ((with_reducible refine E2 (h87 _ _ (steelyardref06_Of.J ‹steelyardref06_Of.f _ _ = some _› ?_)) ?_); (· simp only [hE, w64, mxE]; try rfl); cbv)
    | (rw [hu]; done)
    | (rw [hu]; simp only [hE, w64]; done)
    | (rw [hu]; simp only [hE, w64]; rfl)
    | (rw [hu]; simp only [hE, w64, Option.some.injEq, U.agg.injEq, U.tup.injEq, U.v.injEq, List.cons.injEq, Value.bool.injEq, and_true, true_and, decide_eq_true_eq, decide_eq_false_iff_not]; first | assumption | omega))
theorem steelyardref07_Whole.sound : SoundF Try.prog 47 steelyardref07_Whole.R :=
  Den.sound (l := [(87, steelyardref06_Of.R)]) (orc_cons steelyardref06_Of.sound (orc_nil)) Try.func47 (by kernel_rfl) (by kernel_rfl) (by decide +kernel) fun _ _ hR => steelyardref07_Whole.body rfl (fun _ _ h => (.inl ⟨rfl, h⟩)) hR rfl
end Go.Proofs.Yticngjjdjmadgaa.PU
end
section
set_option linter.unusedVariables false
set_option linter.unusedSimpArgs false
namespace Go.Proofs.Yticngjjdjmadgaa.PU
open Go Go.RowKit Go.Proofs.YticngjjdjmadgaaW.PrintWords Go.Proofs.YticngjjdjmadgaaW.PrintMore Go.Proofs.Yticngjjdjmadgaa.Den Go.Proofs.Yticngjjdjmadgaa.PL
def steelyardlaw07_By.R (us : List U) (u : U) : Prop := ∃ (k : Nat) (a0 : Int) (a1 : Int) (r1 : Bool) (r2 : List Int) (r3 : List Int), us = [.v (.int .i64 a0), .v (.int .i64 a1)] ∧ steelyardlaw07_By.f k a0 a1 = some (r1, r2, r3) ∧ u = .agg [.v (.bool r1), .l r2, .l r3]
theorem steelyardlaw07_By.I {k : Nat} {a0 : Int} {a1 : Int} {r1 : Bool} {r2 : List Int} {r3 : List Int} (h : steelyardlaw07_By.f k a0 a1 = some (r1, r2, r3)) : steelyardlaw07_By.R [.v (.int .i64 a0), .v (.int .i64 a1)] (.agg [.v (.bool r1), .l r2, .l r3]) := ⟨_, _, _, _, _, _, rfl, h, rfl⟩
theorem steelyardlaw07_By.J {k : Nat} {a0 : Int} {a1 : Int} {r1 : Bool} {r2 : List Int} {r3 : List Int} (h : steelyardlaw07_By.f k a0 a1 = some (r1, r2, r3)) {us : List U} (hus : us = [.v (.int .i64 a0), .v (.int .i64 a1)]) : steelyardlaw07_By.R us (.agg [.v (.bool r1), .l r2, .l r3]) := ⟨_, _, _, _, _, _, hus, h, rfl⟩
theorem steelyardlaw07_By.E {β : Type} {k : Nat} {a0 : Int} {a1 : Int} {g : Bool × List Int × List Int → Option β} {z : β} {Q : Prop} (h : (steelyardlaw07_By.f k a0 a1).bind g = some z) (c : ∀ (r1 : Bool) (r2 : List Int) (r3 : List Int), steelyardlaw07_By.f k a0 a1 = some (r1, r2, r3) → g (r1, r2, r3) = some z → Q) : Q := by
  obtain ⟨p, h1, h2⟩ := Option.bind_eq_some_iff.1 h
  exact c p.1 p.2.1 p.2.2 h1 h2
set_option maxHeartbeats 4000000 in
set_option maxRecDepth 100000 in
theorem steelyardlaw07_By.body {D : Dat} {C : Orc} (hD : D = real) (h39 : ∀ us u, steelyardref07_Div.R us u → C 39 us u) (h47 : ∀ us u, steelyardref07_Whole.R us u → C 47 us u) {us : List U} {u : U} (hR : steelyardlaw07_By.R us u) {Q : Prop} (hQ : body tys D C Try.f48 us u = Q) : Q := by
  obtain ⟨k, a0, a1, r1, r2, r3, rfl, h, hu⟩ := hR
  obtain ⟨len, add, sub, mul, rem, neg, conv, max, eq, ne, lt, le, nth, zeros, copy, cpd, bor⟩ := D
  simp only [real, Dat.mk.injEq] at hD
  obtain ⟨elen, eadd, esub, emul, erem, eneg, econv, emax, eeq, ene, elt, ele, enth, ezeros, ecopy, ecpd, ebor⟩ := hD
  have hE := And.intro elen (And.intro eadd (And.intro esub (And.intro emul (And.intro erem (And.intro eneg (And.intro econv (And.intro ebor (And.intro emax (And.intro eeq (And.intro ene (And.intro elt ele)))))))))))
  unfold steelyardlaw07_By.f at h <;>
  (repeat' first
    | (simp (maxSteps := 2000000) only [↓reduceIte, Bool.false_eq_true, Bool.not_true, Bool.not_false, reduceCtorEq, b00, b01, b10, b11, n00, n01, n10, n11] at h; done)
    | (simp (maxSteps := 2000000) only [↓reduceIte, Bool.false_eq_true, Bool.not_true, Bool.not_false, Option.bind_some, splice_self, b00, b01, b10, b11, n00, n01, n10, n11] at h)
    | (with_reducible refine steelyardref07_Div.E h ?_; clear h; rintro _ _ _ _ _ h)
    | (rw [‹steelyardref07_Whole.f _ _ = some _›] at h; simp only [Option.bind_some] at h)
    | (with_reducible refine steelyardref07_Whole.E h ?_; clear h; rintro _ _ _ _ h)
    | (simp (maxSteps := 2000000) only [↓reduceIte, Bool.false_eq_true, Bool.not_true, Bool.not_false, reduceCtorEq, decide_eq_true_eq, bne_iff_ne, ne_eq, beq_iff_eq, Option.bind_some, splice_self, b00, b01, b10, b11, n00, n01, n10, n11] at h)
    | (with_reducible refine iteE h ?_ ?_ <;> clear h <;> intro _ h)
    | (split at h)) <;>
  (injection h with h) <;>
  (try simp only [Prod.mk.injEq] at h) <;>
  (obtain ⟨rfl, rfl, rfl⟩ := h) <;>
  (rw [← hQ]; clear hQ) <;>
  (cbv) <;>
  (repeat first
    | ((with_reducible refine E2 (h39 _ _ (steelyardref07_Div.I ‹_›)) ?_); cbv)
    | ((with_reducible apply E2); (· with_reducible apply h39; simp only [hE, w64, mxE]; exact steelyardref07_Div.I ‹_›); cbv)
    | ((with_reducible refine E2 (h39 _ _ (steelyardref07_Div.J ‹steelyardref07_Div.f _ _ _ _ _ _ _ = some _› ?_)) ?_); (· simp only [hE, w64, mxE]; try rfl); cbv)
    | ((with_reducible refine E2 (h47 _ _ (steelyardref07_Whole.I ‹_›)) ?_); cbv)
    | ((with_reducible apply E2); (· with_reducible apply h47; simp only [hE, w64, mxE]; exact steelyardref07_Whole.I ‹_›); cbv)
    | ((with_reducible refine E2 (h47 _ _ (steelyardref07_Whole.J ‹steelyardref07_Whole.f _ _ = some _› ?_)) ?_); (· simp only [hE, w64, mxE]; try rfl); cbv)
    | (rw [hu]; done)
    | (rw [hu]; simp only [hE, w64]; done)
    | (rw [hu]; simp only [hE, w64]; rfl)
    | (rw [hu]; simp only [hE, w64, Option.some.injEq, U.agg.injEq, U.tup.injEq, U.v.injEq, List.cons.injEq, Value.bool.injEq, and_true, true_and, decide_eq_true_eq, decide_eq_false_iff_not]; first | assumption | omega))
theorem steelyardlaw07_By.sound : SoundF Try.prog 48 steelyardlaw07_By.R :=
  Den.sound (l := [(39, steelyardref07_Div.R), (47, steelyardref07_Whole.R)]) (orc_cons steelyardref07_Div.sound (orc_cons steelyardref07_Whole.sound (orc_nil))) Try.func48 (by kernel_rfl) (by kernel_rfl) (by decide +kernel) fun _ _ hR => steelyardlaw07_By.body rfl (fun _ _ h => (.inl ⟨rfl, h⟩)) (fun _ _ h => (.inr (.inl ⟨rfl, h⟩))) hR rfl
end Go.Proofs.Yticngjjdjmadgaa.PU
end
