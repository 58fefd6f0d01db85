/- What the functions compute, as plain functions of data. No condition. -/
import Derived.Test.YtcecjcpbehnihaaGreatDoorDIa
set_option linter.all false
namespace Go.DI
open Go Go.RowKit
set_option linter.unusedVariables false
def tab_deBruijn64tab : List Int := [0, 1, 56, 2, 57, 49, 28, 3, 61, 58, 42, 50, 38, 29, 17, 4, 62, 47, 59, 36, 45, 43, 51, 22, 53, 39, 33, 30, 24, 18, 12, 5, 63, 55, 48, 27, 60, 41, 37, 16, 46, 35, 44, 21, 52, 32, 23, 11, 54, 26, 40, 15, 34, 20, 31, 10, 25, 14, 19, 9, 13, 8, 7, 6]

def dendronlaw03_few.f (a0_0 : Bool) (l0_1 : List Int) (l0_2 : List Int) : Option (Bool × List Int × List Int) := if (l0_1.length : Int) > 8 then (if 8 ≤ (l0_1.length : Int) then (if (l0_2.length : Int) > 8 then (if 8 ≤ (l0_2.length : Int) then (some (a0_0, (l0_1.take 8), (l0_2.take 8))) else none) else (some (a0_0, (l0_1.take 8), l0_2))) else none) else (if (l0_2.length : Int) > 8 then (if 8 ≤ (l0_2.length : Int) then (some (a0_0, l0_1, (l0_2.take 8))) else none) else (some (a0_0, l0_1, l0_2)))

def dendronref01_Small.l0 : Nat → Int → List Int → Option (List Int)
  | 0, _, _ => none
  | k + 1, x0, x3 => if x0 > 0 then (if x3.length < 17592186044416 then (dendronref01_Small.l0 k (wrap64 (Int.tdiv x0 10000)) (x3 ++ [(Int.tmod x0 10000)])) else none) else (some x3)
def dendronref01_Small.f (k : Nat) (a0 : Int) : Option (List Int) := dendronref01_Small.l0 k a0 ([] : List Int)

def dendronref01_Trim.l0 : Nat → List Int → Int → Option (List Int)
  | 0, _, _ => none
  | k + 1, x0, x3 => if x3 > 0 then (if 0 ≤ (wrap64 (x3 - 1)) then (if (wrap64 (x3 - 1)) < (x0.length : Int) then (if (rd x0 (wrap64 (x3 - 1))) = 0 then (dendronref01_Trim.l0 k x0 (wrap64 (x3 - 1))) else (if 0 ≤ x3 then (if x3 ≤ (x0.length : Int) then (some (x0.take ((x3 : Int).toNat))) else none) else none)) else none) else none) else (if 0 ≤ x3 then (if x3 ≤ (x0.length : Int) then (some (x0.take ((x3 : Int).toNat))) else none) else none)
def dendronref01_Trim.f (k : Nat) (l0 : List Int) : Option (List Int) := dendronref01_Trim.l0 k l0 (l0.length : Int)

mutual
def dendronref01_Times.l0 : Nat → List Int → List Int → List Int → Int → Option (List Int)
  | 0, _, _, _, _ => none
  | k + 1, x0, x1, x5, x6 => if x6 < (x0.length : Int) then (dendronref01_Times.l1 k x0 x1 x5 x6 0 0) else ((dendronref01_Trim.f k x5).bind fun v5 => (some v5))
def dendronref01_Times.l1 : Nat → List Int → List Int → List Int → Int → Int → Int → Option (List Int)
  | 0, _, _, _, _, _, _ => none
  | k + 1, x0, x1, x5, x6, x7, x8 => if x8 < (x1.length : Int) then (if 0 ≤ (wrap64 (x6 + x8)) then (if (wrap64 (x6 + x8)) < (x5.length : Int) then (if 0 ≤ x6 then (if x6 < (x0.length : Int) then (if 0 ≤ x8 then (dendronref01_Times.l1 k x0 x1 (x5.set (((wrap64 (x6 + x8)) : Int).toNat) (Int.tmod (wrap64 ((wrap64 (x7 + (rd x5 (wrap64 (x6 + x8))))) + (wrap64 ((rd x0 x6) * (rd x1 x8))))) 10000)) x6 (wrap64 (Int.tdiv (wrap64 ((wrap64 (x7 + (rd x5 (wrap64 (x6 + x8))))) + (wrap64 ((rd x0 x6) * (rd x1 x8))))) 10000)) (wrap64 (x8 + 1))) else none) else none) else none) else none) else none) else (if 0 ≤ (wrap64 (x6 + (x1.length : Int))) then (if (wrap64 (x6 + (x1.length : Int))) < (x5.length : Int) then (dendronref01_Times.l0 k x0 x1 (x5.set (((wrap64 (x6 + (x1.length : Int))) : Int).toNat) x7) (wrap64 (x6 + 1))) else none) else none)
end
def dendronref01_Times.f (k : Nat) (l0 : List Int) (l1 : List Int) : Option (List Int) := if 0 ≤ (wrap64 ((l0.length : Int) + (l1.length : Int))) then (if ((wrap64 ((l0.length : Int) + (l1.length : Int))) : Int).toNat ≤ 35184372088832 then (dendronref01_Times.l0 k l0 l1 (List.replicate (((wrap64 ((l0.length : Int) + (l1.length : Int))) : Int).toNat) 0 : List Int) 0) else none) else none

def dendronref01_digit.f (l0 : List Int) (a1 : Int) : Option (Int) := if a1 < (l0.length : Int) then (if 0 ≤ a1 then (some (rd l0 a1)) else none) else (some 0)

def dendronref01_Plus.l0 : Nat → List Int → List Int → List Int → Int → Int → Option (List Int)
  | 0, _, _, _, _, _ => none
  | k + 1, x0, x1, x5, x6, x7 => if x7 < (x0.length : Int) then ((dendronref01_digit.f x0 x7).bind fun v17 => ((dendronref01_digit.f x1 x7).bind fun v21 => (if x5.length < 17592186044416 then (dendronref01_Plus.l0 k x0 x1 (x5 ++ [(Int.tmod (wrap64 ((wrap64 (x6 + v17)) + v21)) 10000)]) (wrap64 (Int.tdiv (wrap64 ((wrap64 (x6 + v17)) + v21)) 10000)) (wrap64 (x7 + 1))) else none))) else (if x7 < (x1.length : Int) then ((dendronref01_digit.f x0 x7).bind fun v17 => ((dendronref01_digit.f x1 x7).bind fun v21 => (if x5.length < 17592186044416 then (dendronref01_Plus.l0 k x0 x1 (x5 ++ [(Int.tmod (wrap64 ((wrap64 (x6 + v17)) + v21)) 10000)]) (wrap64 (Int.tdiv (wrap64 ((wrap64 (x6 + v17)) + v21)) 10000)) (wrap64 (x7 + 1))) else none))) else (if x6 > 0 then ((dendronref01_digit.f x0 x7).bind fun v17 => ((dendronref01_digit.f x1 x7).bind fun v21 => (if x5.length < 17592186044416 then (dendronref01_Plus.l0 k x0 x1 (x5 ++ [(Int.tmod (wrap64 ((wrap64 (x6 + v17)) + v21)) 10000)]) (wrap64 (Int.tdiv (wrap64 ((wrap64 (x6 + v17)) + v21)) 10000)) (wrap64 (x7 + 1))) else none))) else (some x5)))
def dendronref01_Plus.f (k : Nat) (l0 : List Int) (l1 : List Int) : Option (List Int) := dendronref01_Plus.l0 k l0 l1 ([] : List Int) 0 0

def dendronref01_From.l0 : Nat → List Int → List Int → List Int → Int → Option (List Int)
  | 0, _, _, _, _ => none
  | k + 1, x0, x3, x4, x5 => if x5 ≥ 0 then ((dendronref01_Times.f k x3 x4).bind fun v4 => (if x5 < (x0.length : Int) then ((dendronref01_Small.f k (wrap64 ((Go.bits .and .u64 (rd x0 x5) 4294967295)))).bind fun v11 => ((dendronref01_Plus.f k v4 v11).bind fun v12 => (dendronref01_From.l0 k x0 v12 x4 (wrap64 (x5 - 1))))) else none)) else (some x3)
def dendronref01_From.f (k : Nat) (l0 : List Int) : Option (List Int) := (dendronref01_Small.f k 4294967296).bind fun v2 => (dendronref01_From.l0 k l0 ([] : List Int) v2 (wrap64 ((l0.length : Int) - 1)))

def dendronref02_Make.f (a0 : Bool) (l1 : List Int) : Option (Bool × List Int) := if a0 = true then (some ((decide ((l1.length : Int) > 0)), l1)) else (some (false, l1))

def dendronref02_From.f (k : Nat) (a0_0 : Bool) (l0_1 : List Int) : Option (Bool × List Int) := (dendronref01_From.f k l0_1).bind fun v6 => ((dendronref02_Make.f a0_0 v6).bind fun v7 => (some (v7.1, v7.2)))

def dendronref02_Small.f (k : Nat) (a0 : Int) : Option (Bool × List Int) := if a0 < 0 then ((dendronref01_Small.f k (wrap64 (0 - (wrap64 (a0 + 1))))).bind fun v6 => ((dendronref01_Small.f k 1).bind fun v7 => ((dendronref01_Plus.f k v6 v7).bind fun v8 => ((dendronref02_Make.f true v8).bind fun v9 => (some (v9.1, v9.2)))))) else ((dendronref01_Small.f k a0).bind fun v4 => ((dendronref02_Make.f false v4).bind fun v5 => (some (v5.1, v5.2))))

def dendronref03_Small.f (k : Nat) (a0 : Int) (a1 : Int) : Option (Bool × List Int × List Int) := (dendronref02_Small.f k a0).bind fun v2 => ((dendronref01_Small.f k a1).bind fun v4 => (some (v2.1, v2.2, v4)))

def dendronref03_From.f (k : Nat) (a0_0 : Bool) (l0_1 : List Int) (l0_2 : List Int) : Option (Bool × List Int × List Int) := (dendronref01_From.f k l0_2).bind fun v4 => (if (v4.length : Int) = 0 then ((dendronref03_Small.f k 0 1).bind fun v9 => (some (v9.1, v9.2.1, v9.2.2))) else ((dendronref02_From.f k a0_0 l0_1).bind fun v11 => (some (v11.1, v11.2, v4))))

def dendronref01_Order.l0 : Nat → List Int → List Int → Int → Option (Int)
  | 0, _, _, _ => none
  | k + 1, x0, x1, x5 => if x5 ≥ 0 then (if x5 < (x0.length : Int) then (if x5 < (x1.length : Int) then (if (rd x0 x5) < (rd x1 x5) then (some (-1)) else (if (rd x0 x5) > (rd x1 x5) then (some 1) else (dendronref01_Order.l0 k x0 x1 (wrap64 (x5 - 1))))) else none) else none) else (some 0)
def dendronref01_Order.f (k : Nat) (l0 : List Int) (l1 : List Int) : Option (Int) := if (l0.length : Int) ≠ (l1.length : Int) then (if (l0.length : Int) < (l1.length : Int) then (some (-1)) else (some 1)) else (dendronref01_Order.l0 k l0 l1 (wrap64 ((l0.length : Int) - 1)))

def dendronref02_Order.f (k : Nat) (a0_0 : Bool) (l0_1 : List Int) (a1_0 : Bool) (l1_1 : List Int) : Option (Int) := if a0_0 = true then (if a1_0 = true then (if a0_0 = true then (if a0_0 = true then ((dendronref01_Order.f k l1_1 l0_1).bind fun v23 => (some v23)) else ((dendronref01_Order.f k l0_1 l1_1).bind fun v23 => (some v23))) else (if a1_0 = true then (some 1) else (if a0_0 = true then ((dendronref01_Order.f k l1_1 l0_1).bind fun v23 => (some v23)) else ((dendronref01_Order.f k l0_1 l1_1).bind fun v23 => (some v23))))) else (some (-1))) else (if a0_0 = true then (if a0_0 = true then ((dendronref01_Order.f k l1_1 l0_1).bind fun v23 => (some v23)) else ((dendronref01_Order.f k l0_1 l1_1).bind fun v23 => (some v23))) else (if a1_0 = true then (some 1) else (if a0_0 = true then ((dendronref01_Order.f k l1_1 l0_1).bind fun v23 => (some v23)) else ((dendronref01_Order.f k l0_1 l1_1).bind fun v23 => (some v23)))))

def dendronref02_Times.f (k : Nat) (a0_0 : Bool) (l0_1 : List Int) (a1_0 : Bool) (l1_1 : List Int) : Option (Bool × List Int) := (dendronref01_Times.f k l0_1 l1_1).bind fun v12 => ((dendronref02_Make.f (!(a0_0 == a1_0)) v12).bind fun v13 => (some (v13.1, v13.2)))

def dendronref03_den.f (a0_0 : Bool) (l0_1 : List Int) (l0_2 : List Int) : Option (Bool × List Int) := (dendronref02_Make.f false l0_2).bind fun v4 => (some (v4.1, v4.2))

def dendronref03_Order.f (k : Nat) (a0_0 : Bool) (l0_1 : List Int) (l0_2 : List Int) (a1_0 : Bool) (l1_1 : List Int) (l1_2 : List Int) : Option (Int) := (dendronref03_den.f a1_0 l1_1 l1_2).bind fun v6 => ((dendronref02_Times.f k a0_0 l0_1 v6.1 v6.2).bind fun v7 => ((dendronref03_den.f a0_0 l0_1 l0_2).bind fun v11 => ((dendronref02_Times.f k a1_0 l1_1 v11.1 v11.2).bind fun v12 => ((dendronref02_Order.f k v7.1 v7.2 v12.1 v12.2).bind fun v13 => (some v13)))))

def dendronref01_Minus.l0 : Nat → List Int → List Int → List Int → Int → Int → Option (List Int)
  | 0, _, _, _, _, _ => none
  | k + 1, x0, x1, x5, x6, x7 => if x7 < (x0.length : Int) then (if 0 ≤ x7 then ((dendronref01_digit.f x1 x7).bind fun v10 => (if (wrap64 ((wrap64 ((rd x0 x7) - v10)) - x6)) < 0 then (if x5.length < 17592186044416 then (dendronref01_Minus.l0 k x0 x1 (x5 ++ [(wrap64 ((wrap64 ((wrap64 ((rd x0 x7) - v10)) - x6)) + 10000))]) 1 (wrap64 (x7 + 1))) else none) else (if x5.length < 17592186044416 then (dendronref01_Minus.l0 k x0 x1 (x5 ++ [(wrap64 ((wrap64 ((rd x0 x7) - v10)) - x6))]) 0 (wrap64 (x7 + 1))) else none))) else none) else ((dendronref01_Trim.f k x5).bind fun v5 => (some v5))
def dendronref01_Minus.f (k : Nat) (l0 : List Int) (l1 : List Int) : Option (List Int) := dendronref01_Minus.l0 k l0 l1 ([] : List Int) 0 0

mutual
def dendronref01_Over.l0 : Nat → List Int → List Int → List Int → List Int → Int → Option (List Int × List Int)
  | 0, _, _, _, _, _ => none
  | k + 1, x0, x1, x6, x7, x8 => if x8 ≥ 0 then (if x8 < (x0.length : Int) then (if ([(rd x0 x8)] : List Int).length + x7.length < 17592186044417 then ((dendronref01_Trim.f k (([(rd x0 x8)] : List Int) ++ x7)).bind fun v16 => (dendronref01_Over.l1 k x0 x1 x6 v16 x8 0 10000)) else none) else none) else ((dendronref01_Trim.f k x6).bind fun v3 => (some (v3, x7)))
def dendronref01_Over.l1 : Nat → List Int → List Int → List Int → List Int → Int → Int → Int → Option (List Int × List Int)
  | 0, _, _, _, _, _, _, _ => none
  | k + 1, x0, x1, x6, x7, x8, x10, x11 => if (wrap64 (x11 - x10)) > 1 then ((dendronref01_Small.f k (wrap64 (Int.tdiv (wrap64 (x10 + x11)) 2))).bind fun v11 => ((dendronref01_Times.f k x1 v11).bind fun v12 => ((dendronref01_Order.f k v12 x7).bind fun v14 => (if v14 ≤ 0 then (dendronref01_Over.l1 k x0 x1 x6 x7 x8 (wrap64 (Int.tdiv (wrap64 (x10 + x11)) 2)) x11) else (dendronref01_Over.l1 k x0 x1 x6 x7 x8 x10 (wrap64 (Int.tdiv (wrap64 (x10 + x11)) 2))))))) else (if 0 ≤ x8 then (if x8 < (x6.length : Int) then ((dendronref01_Small.f k x10).bind fun v12 => ((dendronref01_Times.f k x1 v12).bind fun v13 => ((dendronref01_Minus.f k x7 v13).bind fun v14 => (dendronref01_Over.l0 k x0 x1 (x6.set ((x8 : Int).toNat) x10) v14 (wrap64 (x8 - 1)))))) else none) else none)
end
def dendronref01_Over.f (k : Nat) (l0 : List Int) (l1 : List Int) : Option (List Int × List Int) := if ((l0.length : Int) : Int).toNat ≤ 35184372088832 then (dendronref01_Over.l0 k l0 l1 (List.replicate (((l0.length : Int) : Int).toNat) 0 : List Int) ([] : List Int) (wrap64 ((l0.length : Int) - 1))) else none

def dendronref01_Gcd.l0 : Nat → List Int → List Int → Option (List Int)
  | 0, _, _ => none
  | k + 1, x0, x1 => if (x1.length : Int) > 0 then ((dendronref01_Over.f k x0 x1).bind fun v5 => (dendronref01_Gcd.l0 k x1 v5.2)) else (some x0)
def dendronref01_Gcd.f (k : Nat) (l0 : List Int) (l1 : List Int) : Option (List Int) := dendronref01_Gcd.l0 k l0 l1

def dendronref01_Right.l0 : Nat → List Int → Int → Option (Bool)
  | 0, _, _ => none
  | k + 1, x0, x3 => if x3 < (x0.length : Int) then (if 0 ≤ x3 then (if (rd x0 x3) > 4294967295 then (some false) else (dendronref01_Right.l0 k x0 (wrap64 (x3 + 1)))) else none) else (if (x0.length : Int) = 0 then (some true) else (if 0 ≤ (wrap64 ((x0.length : Int) - 1)) then (if (wrap64 ((x0.length : Int) - 1)) < (x0.length : Int) then (some ((rd x0 (wrap64 ((x0.length : Int) - 1))) != 0)) else none) else none))
def dendronref01_Right.f (k : Nat) (l0 : List Int) : Option (Bool) := dendronref01_Right.l0 k l0 0

def dendronref03_Right.f (k : Nat) (a0_0 : Bool) (l0_1 : List Int) (l0_2 : List Int) : Option (Bool) := (dendronref01_Right.f k l0_1).bind fun v5 => (if v5 = true then ((dendronref01_Right.f k l0_2).bind fun v10 => (if v10 = true then (if (l0_2.length : Int) = 0 then (some false) else (if (l0_1.length : Int) = 0 then (if a0_0 = true then (some false) else ((dendronref01_From.f k l0_1).bind fun v34 => ((dendronref01_From.f k l0_2).bind fun v37 => ((dendronref01_Gcd.f k v34 v37).bind fun v38 => ((dendronref01_Small.f k 1).bind fun v41 => ((dendronref01_Order.f k v38 v41).bind fun v42 => (some (v42 == 0)))))))) else ((dendronref01_From.f k l0_1).bind fun v34 => ((dendronref01_From.f k l0_2).bind fun v37 => ((dendronref01_Gcd.f k v34 v37).bind fun v38 => ((dendronref01_Small.f k 1).bind fun v41 => ((dendronref01_Order.f k v38 v41).bind fun v42 => (some (v42 == 0))))))))) else (some false))) else (some false))

def dendronref03_Is.f (k : Nat) (a0_0 : Bool) (l0_1 : List Int) (l0_2 : List Int) (a1_0 : Bool) (l1_1 : List Int) (l1_2 : List Int) : Option (Bool) := (dendronref03_Right.f k a0_0 l0_1 l0_2).bind fun v4 => (if v4 = true then ((dendronref03_From.f k a0_0 l0_1 l0_2).bind fun v7 => ((dendronref03_Order.f k v7.1 v7.2.1 v7.2.2 a1_0 l1_1 l1_2).bind fun v9 => (some (v9 == 0)))) else (some false))

def nat_trim.l0 : Nat → List Int → Int → Option (List Int)
  | 0, _, _ => none
  | k + 1, x0, x3 => if x3 > 0 then (if 0 ≤ (wrap64 (x3 - 1)) then (if (wrap64 (x3 - 1)) < (x0.length : Int) then (if (rd x0 (wrap64 (x3 - 1))) = 0 then (nat_trim.l0 k x0 (wrap64 (x3 - 1))) else (if x3 = 0 then (some ([] : List Int)) else (if 0 ≤ x3 then (if x3 ≤ (x0.length : Int) then (some (x0.take ((x3 : Int).toNat))) else none) else none))) else none) else none) else (if x3 = 0 then (some ([] : List Int)) else (if 0 ≤ x3 then (if x3 ≤ (x0.length : Int) then (some (x0.take ((x3 : Int).toNat))) else none) else none))
def nat_trim.f (k : Nat) (l0 : List Int) : Option (List Int) := nat_trim.l0 k l0 (l0.length : Int)

def nat_Clean.l0 : Nat → List Int → List Int → Int → Int → Option (List Int)
  | 0, _, _, _, _ => none
  | k + 1, x3, x9, x10, x11 => if x11 < x10 then (if 0 ≤ x11 then (if x11 < (x9.length : Int) then (if x11 < (x3.length : Int) then (nat_Clean.l0 k (x3.set ((x11 : Int).toNat) (Go.bits .and .u64 (rd x9 x11) 4294967295)) x9 x10 (wrap64 (x11 + 1))) else none) else none) else none) else ((nat_trim.f k x3).bind fun v2 => (some v2))
def nat_Clean.f (k : Nat) (l0 : List Int) : Option (List Int) := if ((l0.length : Int) : Int).toNat ≤ 35184372088832 then (nat_Clean.l0 k (List.replicate (((l0.length : Int) : Int).toNat) 0 : List Int) l0 (l0.length : Int) 0) else none

def whole_sign.f (a0 : Bool) (l1 : List Int) : Option (Bool × List Int) := if a0 = true then (some ((decide ((l1.length : Int) > 0)), l1)) else (some (false, l1))

def whole_Clean.f (k : Nat) (a0_0 : Bool) (l0_1 : List Int) : Option (Bool × List Int) := (nat_Clean.f k l0_1).bind fun v6 => ((whole_sign.f a0_0 v6).bind fun v7 => (some (v7.1, v7.2)))

def whole_Sign.f (k : Nat) (a0_0 : Bool) (l0_1 : List Int) : Option (Int) := (whole_Clean.f k a0_0 l0_1).bind fun v3 => (if v3.1 = true then (some (-1)) else (if (v3.2.length : Int) = 0 then (some 0) else (some 1)))

def whole_Neg.f (k : Nat) (a0_0 : Bool) (l0_1 : List Int) : Option (Bool × List Int) := (whole_Clean.f k a0_0 l0_1).bind fun v3 => ((whole_sign.f (!v3.1) v3.2).bind fun v10 => (some (v10.1, v10.2)))

def nat_Of.f (k : Nat) (a0 : Int) : Option (List Int) := (nat_trim.f k ([(Go.bits .and .u64 a0 4294967295), (a0 / 4294967296)] : List Int)).bind fun v6 => (some v6)

def nat_order.l0 : Nat → List Int → List Int → Int → Option (Int)
  | 0, _, _, _ => none
  | k + 1, x0, x1, x5 => if x5 ≥ 0 then (if x5 < (x0.length : Int) then (if x5 < (x1.length : Int) then (if (rd x0 x5) < (rd x1 x5) then (some (-1)) else (if (rd x0 x5) > (rd x1 x5) then (some 1) else (nat_order.l0 k x0 x1 (wrap64 (x5 - 1))))) else none) else none) else (some 0)
def nat_order.f (k : Nat) (l0 : List Int) (l1 : List Int) : Option (Int) := if (l0.length : Int) < (l1.length : Int) then (some (-1)) else (if (l0.length : Int) > (l1.length : Int) then (some 1) else (nat_order.l0 k l0 l1 (wrap64 ((l0.length : Int) - 1))))

def nat_To.f (k : Nat) (l0 : List Int) : Option (Int × Bool) := (nat_Clean.f k l0).bind fun v3 => (if (v3.length : Int) = 0 then (some (0, true)) else (if (v3.length : Int) = 1 then (if 0 < (v3.length : Int) then (some ((rd v3 0), true)) else none) else (if (v3.length : Int) = 2 then (if 1 < (v3.length : Int) then (if 0 < (v3.length : Int) then (some ((Go.bits .or .u64 (IntKind.u64.wrap ((rd v3 1) * 4294967296)) (rd v3 0)), true)) else none) else none) else (some (0, false)))))

def nat_euclid.l0 : Nat → Int → Int → Option (List Int)
  | 0, _, _ => none
  | k + 1, x5, x7 => if x7 ≠ 0 then (if x7 = 0 then none else (nat_euclid.l0 k x7 (Int.tmod x5 x7))) else ((nat_Of.f k x5).bind fun v3 => (some v3))
def nat_euclid.f (k : Nat) (l0 : List Int) (l1 : List Int) : Option (List Int) := (nat_To.f k l0).bind fun v2 => ((nat_To.f k l1).bind fun v9 => (nat_euclid.l0 k v2.1 v9.1))

def bits_TrailingZeros64.f (a0 : Int) : Option (Int) := if a0 = 0 then (some 64) else (if 0 ≤ ((IntKind.u64.wrap ((Go.bits .and .u64 a0 (IntKind.u64.wrap (0 - a0))) * 285870213051353865)) / 288230376151711744) then (if ((IntKind.u64.wrap ((Go.bits .and .u64 a0 (IntKind.u64.wrap (0 - a0))) * 285870213051353865)) / 288230376151711744) < 64 then (some (wrap64 ((rd tab_deBruijn64tab ((IntKind.u64.wrap ((Go.bits .and .u64 a0 (IntKind.u64.wrap (0 - a0))) * 285870213051353865)) / 288230376151711744))))) else none) else none)

def nat_zeros.l0 : Nat → Int → List Int → Int → Int → Option (Int)
  | 0, _, _, _, _ => none
  | k + 1, x3, x6, x7, x8 => if x8 < x7 then (if 0 ≤ x8 then (if x8 < (x6.length : Int) then (if (rd x6 x8) ≠ 0 then ((bits_TrailingZeros64.f (rd x6 x8)).bind fun v11 => (some (wrap64 ((wrap64 (32 * x8)) + v11)))) else (nat_zeros.l0 k (wrap64 (x3 + 32)) x6 x7 (wrap64 (x8 + 1)))) else none) else none) else (some x3)
def nat_zeros.f (k : Nat) (l0 : List Int) : Option (Int) := nat_zeros.l0 k 0 l0 (l0.length : Int) 0

def nat_limb.f (l0 : List Int) (a1 : Int) : Option (Int) := if a1 < (l0.length : Int) then (if 0 ≤ a1 then (some (rd l0 a1)) else none) else (some 0)

def nat_shr.l0 : Nat → List Int → Int → Int → List Int → Int → Int → Option (List Int)
  | 0, _, _, _, _, _, _ => none
  | k + 1, x0, x5, x6, x7, x23, x24 => if x24 < x23 then ((nat_limb.f x0 (wrap64 ((wrap64 (x24 + x5)) + 1))).bind fun v10 => (if 0 ≤ (wrap64 (x24 + x5)) then (if (wrap64 (x24 + x5)) < (x0.length : Int) then (if 0 ≤ x6 then (if 0 ≤ x24 then (if x24 < (x7.length : Int) then (nat_shr.l0 k x0 x5 x6 (x7.set ((x24 : Int).toNat) (Go.bits .and .u64 (shr .u64 (Go.bits .or .u64 (IntKind.u64.wrap (v10 * 4294967296)) (rd x0 (wrap64 (x24 + x5)))) x6) 4294967295)) x23 (wrap64 (x24 + 1))) else none) else none) else none) else none) else none)) else ((nat_trim.f k x7).bind fun v2 => (some v2))
def nat_shr.f (k : Nat) (l0 : List Int) (a1 : Int) : Option (List Int) := if (wrap64 (Int.tdiv a1 32)) ≥ (l0.length : Int) then (some ([] : List Int)) else (if 0 ≤ (wrap64 ((l0.length : Int) - (wrap64 (Int.tdiv a1 32)))) then (if ((wrap64 ((l0.length : Int) - (wrap64 (Int.tdiv a1 32)))) : Int).toNat ≤ 35184372088832 then (nat_shr.l0 k l0 (wrap64 (Int.tdiv a1 32)) (Int.tmod a1 32) (List.replicate (((wrap64 ((l0.length : Int) - (wrap64 (Int.tdiv a1 32)))) : Int).toNat) 0 : List Int) ((List.replicate (((wrap64 ((l0.length : Int) - (wrap64 (Int.tdiv a1 32)))) : Int).toNat) 0 : List Int).length : Int) 0) else none) else none)

def nat_trimM.l0 : Nat → List Int → Int → Option (List Int)
  | 0, _, _ => none
  | k + 1, x0, x3 => if x3 > 0 then (if 0 ≤ (wrap64 (x3 - 1)) then (if (wrap64 (x3 - 1)) < (x0.length : Int) then (if (rd x0 (wrap64 (x3 - 1))) = 0 then (nat_trimM.l0 k x0 (wrap64 (x3 - 1))) else (if x3 = 0 then (some ([] : List Int)) else (if 0 ≤ x3 then (if x3 ≤ (x0.length : Int) then (some (x0.take ((x3 : Int).toNat))) else none) else none))) else none) else none) else (if x3 = 0 then (some ([] : List Int)) else (if 0 ≤ x3 then (if x3 ≤ (x0.length : Int) then (some (x0.take ((x3 : Int).toNat))) else none) else none))
def nat_trimM.f (k : Nat) (l0 : List Int) : Option (List Int) := nat_trimM.l0 k l0 (l0.length : Int)

def nat_shl.l0 : Nat → Int → Int → List Int → List Int → Int → Int → Option (List Int)
  | 0, _, _, _, _, _, _ => none
  | k + 1, x5, x6, x7, x20, x21, x22 => if x22 < x21 then (if 0 ≤ x22 then (if x22 < (x20.length : Int) then (if 0 ≤ x6 then (if 0 ≤ (wrap64 (x22 + x5)) then (if (wrap64 (x22 + x5)) < (x7.length : Int) then (if 0 ≤ (wrap64 ((wrap64 (x22 + x5)) + 1)) then (if (wrap64 ((wrap64 (x22 + x5)) + 1)) < ((x7.set (((wrap64 (x22 + x5)) : Int).toNat) (Go.bits .or .u64 (rd x7 (wrap64 (x22 + x5))) (Go.bits .and .u64 (shl .u64 (rd x20 x22) x6) 4294967295))).length : Int) then (nat_shl.l0 k x5 x6 ((x7.set (((wrap64 (x22 + x5)) : Int).toNat) (Go.bits .or .u64 (rd x7 (wrap64 (x22 + x5))) (Go.bits .and .u64 (shl .u64 (rd x20 x22) x6) 4294967295))).set (((wrap64 ((wrap64 (x22 + x5)) + 1)) : Int).toNat) ((shl .u64 (rd x20 x22) x6) / 4294967296)) x20 x21 (wrap64 (x22 + 1))) else none) else none) else none) else none) else none) else none) else none) else ((nat_trimM.f k x7).bind fun v2 => (some v2))
def nat_shl.f (k : Nat) (l0 : List Int) (a1 : Int) : Option (List Int) := if 0 ≤ (wrap64 ((wrap64 ((l0.length : Int) + (wrap64 (Int.tdiv a1 32)))) + 1)) then (if ((wrap64 ((wrap64 ((l0.length : Int) + (wrap64 (Int.tdiv a1 32)))) + 1)) : Int).toNat ≤ 35184372088832 then (nat_shl.l0 k (wrap64 (Int.tdiv a1 32)) (Int.tmod a1 32) (List.replicate (((wrap64 ((wrap64 ((l0.length : Int) + (wrap64 (Int.tdiv a1 32)))) + 1)) : Int).toNat) 0 : List Int) l0 (l0.length : Int) 0) else none) else none

def nat_small.l0 : Nat → List Int → Int → List Int → Int → Int → Option (List Int × Int)
  | 0, _, _, _, _, _ => none
  | k + 1, x0, x1, x6, x7, x8 => if x8 ≥ 0 then (if x8 < (x0.length : Int) then (if x1 = 0 then none else (if x8 < (x6.length : Int) then (nat_small.l0 k x0 x1 (x6.set ((x8 : Int).toNat) (IntKind.u64.wrap (Int.tdiv (Go.bits .or .u64 (IntKind.u64.wrap (x7 * 4294967296)) (rd x0 x8)) x1))) (Int.tmod (Go.bits .or .u64 (IntKind.u64.wrap (x7 * 4294967296)) (rd x0 x8)) x1) (wrap64 (x8 - 1))) else none)) else none) else ((nat_trim.f k x6).bind fun v3 => (some (v3, x7)))
def nat_small.f (k : Nat) (l0 : List Int) (a1 : Int) : Option (List Int × Int) := if ((l0.length : Int) : Int).toNat ≤ 35184372088832 then (nat_small.l0 k l0 a1 (List.replicate (((l0.length : Int) : Int).toNat) 0 : List Int) 0 (wrap64 ((l0.length : Int) - 1))) else none

def cst_len8 : ByteArray := (⟨#[0, 1, 2, 2, 3, 3, 3, 3, 4, 4, 4, 4, 4, 4, 4, 4, 5, 5, 5, 5, 5, 5, 5, 5, 5, 5, 5, 5, 5, 5, 5, 5, 6, 6, 6, 6, 6, 6, 6, 6, 6, 6, 6, 6, 6, 6, 6, 6, 6, 6, 6, 6, 6, 6, 6, 6, 6, 6, 6, 6, 6, 6, 6, 6, 7, 7, 7, 7, 7, 7, 7, 7, 7, 7, 7, 7, 7, 7, 7, 7, 7, 7, 7, 7, 7, 7, 7, 7, 7, 7, 7, 7, 7, 7, 7, 7, 7, 7, 7, 7, 7, 7, 7, 7, 7, 7, 7, 7, 7, 7, 7, 7, 7, 7, 7, 7, 7, 7, 7, 7, 7, 7, 7, 7, 7, 7, 7, 7, 8, 8, 8, 8, 8, 8, 8, 8, 8, 8, 8, 8, 8, 8, 8, 8, 8, 8, 8, 8, 8, 8, 8, 8, 8, 8, 8, 8, 8, 8, 8, 8, 8, 8, 8, 8, 8, 8, 8, 8, 8, 8, 8, 8, 8, 8, 8, 8, 8, 8, 8, 8, 8, 8, 8, 8, 8, 8, 8, 8, 8, 8, 8, 8, 8, 8, 8, 8, 8, 8, 8, 8, 8, 8, 8, 8, 8, 8, 8, 8, 8, 8, 8, 8, 8, 8, 8, 8, 8, 8, 8, 8, 8, 8, 8, 8, 8, 8, 8, 8, 8, 8, 8, 8, 8, 8, 8, 8, 8, 8, 8, 8, 8, 8, 8, 8, 8, 8, 8, 8, 8, 8, 8, 8, 8, 8, 8, 8]⟩ : ByteArray)

def bits_Len32.f (a0 : Int) : Option (Int) := if a0 ≥ 65536 then (if (a0 / 65536) ≥ 256 then (if 0 ≤ (IntKind.u8.wrap (((a0 / 65536) / 256))) then (if (IntKind.u8.wrap (((a0 / 65536) / 256))) < (cst_len8.size : Int) then (some (wrap64 ((wrap64 (16 + 8)) + (wrap64 ((bt cst_len8 (IntKind.u8.wrap (((a0 / 65536) / 256))))))))) else none) else none) else (if 0 ≤ (IntKind.u8.wrap ((a0 / 65536))) then (if (IntKind.u8.wrap ((a0 / 65536))) < (cst_len8.size : Int) then (some (wrap64 (16 + (wrap64 ((bt cst_len8 (IntKind.u8.wrap ((a0 / 65536))))))))) else none) else none)) else (if a0 ≥ 256 then (if 0 ≤ (IntKind.u8.wrap ((a0 / 256))) then (if (IntKind.u8.wrap ((a0 / 256))) < (cst_len8.size : Int) then (some (wrap64 ((wrap64 (0 + 8)) + (wrap64 ((bt cst_len8 (IntKind.u8.wrap ((a0 / 256))))))))) else none) else none) else (if 0 ≤ (IntKind.u8.wrap (a0)) then (if (IntKind.u8.wrap (a0)) < (cst_len8.size : Int) then (some (wrap64 (0 + (wrap64 ((bt cst_len8 (IntKind.u8.wrap (a0)))))))) else none) else none))

def bits_LeadingZeros32.f (a0 : Int) : Option (Int) := (bits_Len32.f a0).bind fun v2 => (some (wrap64 (32 - v2)))

def nat_take.l0 : Nat → List Int → List Int → Int → Int → Int → Int → Int → Option (Bool × List Int)
  | 0, _, _, _, _, _, _, _ => none
  | k + 1, x0, x1, x2, x7, x8, x12, x13 => if x13 < x12 then ((nat_limb.f x1 x13).bind fun v7 => (if 0 ≤ x13 then (if x13 < (x0.length : Int) then (nat_take.l0 k (x0.set ((x13 : Int).toNat) (Go.bits .and .u64 (IntKind.u64.wrap ((IntKind.u64.wrap ((IntKind.u64.wrap (4294967296 + (rd x0 x13))) - (Go.bits .and .u64 (IntKind.u64.wrap (x7 + (IntKind.u64.wrap (x2 * v7)))) 4294967295))) - x8)) 4294967295)) x1 x2 ((IntKind.u64.wrap (x7 + (IntKind.u64.wrap (x2 * v7)))) / 4294967296) (IntKind.u64.wrap (1 - ((IntKind.u64.wrap ((IntKind.u64.wrap ((IntKind.u64.wrap (4294967296 + (rd x0 x13))) - (Go.bits .and .u64 (IntKind.u64.wrap (x7 + (IntKind.u64.wrap (x2 * v7)))) 4294967295))) - x8)) / 4294967296))) x12 (wrap64 (x13 + 1))) else none) else none)) else (some ((x8 == 1), x0))
def nat_take.f (k : Nat) (l0 : List Int) (l1 : List Int) (a2 : Int) : Option (Bool × List Int) := nat_take.l0 k l0 l1 a2 0 0 (l0.length : Int) 0

def nat_give.l0 : Nat → List Int → List Int → Int → Int → Int → Option (List Int)
  | 0, _, _, _, _, _ => none
  | k + 1, x0, x1, x4, x7, x8 => if x8 < x7 then (if 0 ≤ x8 then (if x8 < (x0.length : Int) then ((nat_limb.f x1 x8).bind fun v10 => (nat_give.l0 k (x0.set ((x8 : Int).toNat) (Go.bits .and .u64 (IntKind.u64.wrap (x4 + (IntKind.u64.wrap ((rd x0 x8) + v10)))) 4294967295)) x1 ((IntKind.u64.wrap (x4 + (IntKind.u64.wrap ((rd x0 x8) + v10)))) / 4294967296) x7 (wrap64 (x8 + 1)))) else none) else none) else (some x0)
def nat_give.f (k : Nat) (l0 : List Int) (l1 : List Int) : Option (List Int) := nat_give.l0 k l0 l1 0 (l0.length : Int) 0

def nat_digit.l0 : Nat → List Int → List Int → Int → Int → Int → Option (Int × List Int)
  | 0, _, _, _, _, _ => none
  | k + 1, x0, x1, x5, x7, x8 => if x7 ≥ 4294967296 then (if 0 ≤ (wrap64 (x5 - 1)) then (if (wrap64 (x5 - 1)) < (x1.length : Int) then (if (IntKind.u64.wrap (x8 + (rd x1 (wrap64 (x5 - 1))))) ≥ 4294967296 then ((nat_take.f k x0 x1 (IntKind.u64.wrap (x7 - 1))).bind fun (v36_0, v36_1) => (if v36_1.length = x0.length then (if v36_0 = true then (if v36_1.length = x0.length then ((nat_give.f k v36_1 x1).bind fun v42 => (if v42.length = v36_1.length then (some ((IntKind.u64.wrap ((IntKind.u64.wrap (x7 - 1)) - 1)), v42)) else none)) else none) else (if v36_1.length = x0.length then (some ((IntKind.u64.wrap (x7 - 1)), v36_1)) else none)) else none)) else (nat_digit.l0 k x0 x1 x5 (IntKind.u64.wrap (x7 - 1)) (IntKind.u64.wrap (x8 + (rd x1 (wrap64 (x5 - 1))))))) else none) else none) else (if 0 ≤ (wrap64 (x5 - 2)) then (if (wrap64 (x5 - 2)) < (x1.length : Int) then (if (wrap64 (x5 - 2)) < (x0.length : Int) then (if (IntKind.u64.wrap (x7 * (rd x1 (wrap64 (x5 - 2))))) > (Go.bits .or .u64 (IntKind.u64.wrap (x8 * 4294967296)) (rd x0 (wrap64 (x5 - 2)))) then (if 0 ≤ (wrap64 (x5 - 1)) then (if (wrap64 (x5 - 1)) < (x1.length : Int) then (if (IntKind.u64.wrap (x8 + (rd x1 (wrap64 (x5 - 1))))) ≥ 4294967296 then ((nat_take.f k x0 x1 (IntKind.u64.wrap (x7 - 1))).bind fun (v36_0, v36_1) => (if v36_1.length = x0.length then (if v36_0 = true then (if v36_1.length = x0.length then ((nat_give.f k v36_1 x1).bind fun v42 => (if v42.length = v36_1.length then (some ((IntKind.u64.wrap ((IntKind.u64.wrap (x7 - 1)) - 1)), v42)) else none)) else none) else (if v36_1.length = x0.length then (some ((IntKind.u64.wrap (x7 - 1)), v36_1)) else none)) else none)) else (nat_digit.l0 k x0 x1 x5 (IntKind.u64.wrap (x7 - 1)) (IntKind.u64.wrap (x8 + (rd x1 (wrap64 (x5 - 1))))))) else none) else none) else ((nat_take.f k x0 x1 x7).bind fun (v23_0, v23_1) => (if v23_1.length = x0.length then (if v23_0 = true then (if v23_1.length = x0.length then ((nat_give.f k v23_1 x1).bind fun v29 => (if v29.length = v23_1.length then (some ((IntKind.u64.wrap (x7 - 1)), v29)) else none)) else none) else (if v23_1.length = x0.length then (some (x7, v23_1)) else none)) else none))) else none) else none) else none)
def nat_digit.f (k : Nat) (l0 : List Int) (l1 : List Int) : Option (Int × List Int) := if (l1.length : Int) < (l0.length : Int) then (if 0 ≤ (wrap64 ((l1.length : Int) - 1)) then (if (wrap64 ((l1.length : Int) - 1)) < (l0.length : Int) then (if (wrap64 ((l1.length : Int) - 1)) < (l1.length : Int) then (if (rd l1 (wrap64 ((l1.length : Int) - 1))) = 0 then none else (nat_digit.l0 k l0 l1 (l1.length : Int) (IntKind.u64.wrap (Int.tdiv (Go.bits .or .u64 (IntKind.u64.wrap ((rd l0 (l1.length : Int)) * 4294967296)) (rd l0 (wrap64 ((l1.length : Int) - 1)))) (rd l1 (wrap64 ((l1.length : Int) - 1))))) (Int.tmod (Go.bits .or .u64 (IntKind.u64.wrap ((rd l0 (l1.length : Int)) * 4294967296)) (rd l0 (wrap64 ((l1.length : Int) - 1)))) (rd l1 (wrap64 ((l1.length : Int) - 1)))))) else none) else none) else none) else none

def nat_long.l0 : Nat → Int → List Int → List Int → Int → List Int → Int → Option (List Int × List Int)
  | 0, _, _, _, _, _, _ => none
  | k + 1, x6, x7, x8, x9, x10, x11 => if x11 ≥ 0 then (if x11 < (wrap64 ((wrap64 (x11 + x9)) + 1)) then (if (wrap64 ((wrap64 (x11 + x9)) + 1)) ≤ (x8.length : Int) then ((nat_digit.f k ((x8.drop ((x11 : Int).toNat)).take (((wrap64 ((wrap64 (x11 + x9)) + 1)) : Int).toNat - (x11 : Int).toNat)) x7).bind fun v12 => (if v12.2.length = ((x8.drop ((x11 : Int).toNat)).take (((wrap64 ((wrap64 (x11 + x9)) + 1)) : Int).toNat - (x11 : Int).toNat)).length then (if x11 < (x10.length : Int) then (nat_long.l0 k x6 x7 (x8.take ((x11 : Int).toNat) ++ v12.2 ++ x8.drop (((wrap64 ((wrap64 (x11 + x9)) + 1)) : Int).toNat)) x9 (x10.set ((x11 : Int).toNat) v12.1) (wrap64 (x11 - 1))) else none) else none)) else none) else none) else ((nat_trim.f k x10).bind fun v3 => ((nat_trim.f k x8).bind fun v5 => ((nat_shr.f k v5 x6).bind fun v7 => (some (v3, v7)))))
def nat_long.f (k : Nat) (l0 : List Int) (l1 : List Int) : Option (List Int × List Int) := if 0 ≤ (wrap64 ((l1.length : Int) - 1)) then (if (wrap64 ((l1.length : Int) - 1)) < (l1.length : Int) then ((bits_LeadingZeros32.f (IntKind.u32.wrap ((rd l1 (wrap64 ((l1.length : Int) - 1)))))).bind fun v9 => ((nat_shl.f k l1 v9).bind fun v13 => ((nat_shl.f k l0 v9).bind fun v17 => (if v17.length + ([0, 0] : List Int).length < 17592186044417 then (if 0 ≤ (wrap64 ((l0.length : Int) + 1)) then (if (wrap64 ((l0.length : Int) + 1)) ≤ ((v17 ++ ([0, 0] : List Int)).length : Int) then (if 0 ≤ (wrap64 ((((v17 ++ ([0, 0] : List Int)).take (((wrap64 ((l0.length : Int) + 1)) : Int).toNat)).length : Int) - (v13.length : Int))) then (if ((wrap64 ((((v17 ++ ([0, 0] : List Int)).take (((wrap64 ((l0.length : Int) + 1)) : Int).toNat)).length : Int) - (v13.length : Int))) : Int).toNat ≤ 35184372088832 then (nat_long.l0 k v9 v13 ((v17 ++ ([0, 0] : List Int)).take (((wrap64 ((l0.length : Int) + 1)) : Int).toNat)) (v13.length : Int) (List.replicate (((wrap64 ((((v17 ++ ([0, 0] : List Int)).take (((wrap64 ((l0.length : Int) + 1)) : Int).toNat)).length : Int) - (v13.length : Int))) : Int).toNat) 0 : List Int) (wrap64 (((List.replicate (((wrap64 ((((v17 ++ ([0, 0] : List Int)).take (((wrap64 ((l0.length : Int) + 1)) : Int).toNat)).length : Int) - (v13.length : Int))) : Int).toNat) 0 : List Int).length : Int) - 1))) else none) else none) else none) else none) else none)))) else none) else none

def nat_DivMod.f (k : Nat) (l0 : List Int) (l1 : List Int) : Option (List Int × List Int × Int) := (nat_Clean.f k l0).bind fun v4 => ((nat_Clean.f k l1).bind fun v6 => (if (v6.length : Int) = 0 then (some (([] : List Int), ([] : List Int), 2)) else ((nat_order.f k v4 v6).bind fun v15 => (if v15 < 0 then (some (([] : List Int), v4, 0)) else (if (v6.length : Int) = 1 then (if 0 < (v6.length : Int) then ((nat_small.f k v4 (rd v6 0)).bind fun v26 => ((nat_Of.f k v26.2).bind fun v34 => (some (v26.1, v34, 0)))) else none) else ((nat_long.f k v4 v6).bind fun v24 => (some (v24.1, v24.2, 0))))))))

def nat_rest.f (k : Nat) (l0 : List Int) (l1 : List Int) : Option (List Int × List Int) := (nat_DivMod.f k l0 l1).bind fun v4 => (some (v4.1, v4.2.1))

def nat_minus.l0 : Nat → List Int → List Int → List Int → Int → Int → Int → Option (List Int)
  | 0, _, _, _, _, _, _ => none
  | k + 1, x0, x1, x5, x6, x13, x14 => if x14 < x13 then (if 0 ≤ x14 then (if x14 < (x0.length : Int) then ((nat_limb.f x1 x14).bind fun v10 => (if x14 < (x5.length : Int) then (nat_minus.l0 k x0 x1 (x5.set ((x14 : Int).toNat) (Go.bits .and .u64 (IntKind.u64.wrap ((IntKind.u64.wrap ((IntKind.u64.wrap (4294967296 + (rd x0 x14))) - v10)) - x6)) 4294967295)) (IntKind.u64.wrap (1 - ((IntKind.u64.wrap ((IntKind.u64.wrap ((IntKind.u64.wrap (4294967296 + (rd x0 x14))) - v10)) - x6)) / 4294967296))) x13 (wrap64 (x14 + 1))) else none)) else none) else none) else ((nat_trim.f k x5).bind fun v2 => (some v2))
def nat_minus.f (k : Nat) (l0 : List Int) (l1 : List Int) : Option (List Int) := if ((l0.length : Int) : Int).toNat ≤ 35184372088832 then (nat_minus.l0 k l0 l1 (List.replicate (((l0.length : Int) : Int).toNat) 0 : List Int) 0 ((List.replicate (((l0.length : Int) : Int).toNat) 0 : List Int).length : Int) 0) else none

def nat_Gcd.l0 : Nat → List Int → List Int → Int → Int → Option (List Int)
  | 0, _, _, _, _ => none
  | k + 1, x0, x1, x5, x6 => (nat_order.f k x0 x1).bind fun v2 => (if v2 = 0 then ((nat_shl.f k x0 (mn x5 x6)).bind fun v11 => (some v11)) else (if v2 < 0 then (if (x1.length : Int) > (wrap64 ((x0.length : Int) + 1)) then ((nat_rest.f k x1 x0).bind fun v22 => (if (v22.2.length : Int) = 0 then ((nat_shl.f k x0 (mn x5 x6)).bind fun v34 => (some v34)) else ((nat_zeros.f k v22.2).bind fun v32 => ((nat_shr.f k v22.2 v32).bind fun v33 => (nat_Gcd.l0 k v33 x0 x5 x6))))) else ((nat_minus.f k x1 x0).bind fun v22 => ((nat_zeros.f k v22).bind fun v26 => ((nat_shr.f k v22 v26).bind fun v27 => (nat_Gcd.l0 k v27 x0 x5 x6))))) else (if (x0.length : Int) > (wrap64 ((x1.length : Int) + 1)) then ((nat_rest.f k x0 x1).bind fun v18 => (if (v18.2.length : Int) = 0 then ((nat_shl.f k x1 (mn x5 x6)).bind fun v30 => (some v30)) else ((nat_zeros.f k v18.2).bind fun v28 => ((nat_shr.f k v18.2 v28).bind fun v29 => (nat_Gcd.l0 k v29 x1 x5 x6))))) else ((nat_minus.f k x0 x1).bind fun v18 => ((nat_zeros.f k v18).bind fun v22 => ((nat_shr.f k v18 v22).bind fun v23 => (nat_Gcd.l0 k v23 x1 x5 x6)))))))
def nat_Gcd.f (k : Nat) (l0 : List Int) (l1 : List Int) : Option (List Int) := (nat_Clean.f k l0).bind fun v2 => ((nat_Clean.f k l1).bind fun v4 => (if (v2.length : Int) = 0 then (some v4) else (if (v4.length : Int) = 0 then (some v2) else (if (v2.length : Int) ≤ 2 then (if (v4.length : Int) ≤ 2 then ((nat_euclid.f k v2 v4).bind fun v25 => (some v25)) else ((nat_zeros.f k v2).bind fun v24 => ((nat_zeros.f k v4).bind fun v26 => ((nat_shr.f k v2 v24).bind fun v31 => ((nat_shr.f k v4 v26).bind fun v34 => (nat_Gcd.l0 k v31 v34 v24 v26)))))) else ((nat_zeros.f k v2).bind fun v24 => ((nat_zeros.f k v4).bind fun v26 => ((nat_shr.f k v2 v24).bind fun v31 => ((nat_shr.f k v4 v26).bind fun v34 => (nat_Gcd.l0 k v31 v34 v24 v26)))))))))

def ratio_form.f (k : Nat) (a0_0 : Bool) (l0_1 : List Int) (l1 : List Int) : Option (Bool × List Int × List Int) := if (l0_1.length : Int) = 0 then ((nat_Of.f k 1).bind fun v6 => (some (false, ([] : List Int), v6))) else ((nat_Gcd.f k l0_1 l1).bind fun v9 => (if (v9.length : Int) = 1 then (if 0 < (v9.length : Int) then (if (rd v9 0) = 1 then (some (a0_0, l0_1, l1)) else ((nat_DivMod.f k l0_1 v9).bind fun v23 => ((nat_DivMod.f k l1 v9).bind fun v33 => (some (a0_0, v23.1, v33.1))))) else none) else ((nat_DivMod.f k l0_1 v9).bind fun v23 => ((nat_DivMod.f k l1 v9).bind fun v33 => (some (a0_0, v23.1, v33.1))))))

def ratio_Make.f (k : Nat) (a0_0 : Bool) (l0_1 : List Int) (a1_0 : Bool) (l1_1 : List Int) : Option (Bool × List Int × List Int × Int) := (whole_Clean.f k a0_0 l0_1).bind fun v5 => ((whole_Clean.f k a1_0 l1_1).bind fun v7 => ((whole_Sign.f k v7.1 v7.2).bind fun v11 => (if v11 = 0 then (some (false, ([] : List Int), ([] : List Int), 2)) else (if v7.1 = true then ((whole_Neg.f k v5.1 v5.2).bind fun v16 => ((ratio_form.f k v16.1 v16.2 v7.2).bind fun v21 => (some (v21.1, v21.2.1, v21.2.2, 0)))) else ((ratio_form.f k v5.1 v5.2 v7.2).bind fun v18 => (some (v18.1, v18.2.1, v18.2.2, 0)))))))

def ratio_Zero.f (k : Nat) : Option (Bool × List Int × List Int) := (nat_Of.f k 1).bind fun v1 => (some (false, ([] : List Int), v1))

def ratio_Clean.f (k : Nat) (a0_0 : Bool) (l0_1 : List Int) (l0_2 : List Int) : Option (Bool × List Int × List Int) := (nat_Clean.f k l0_2).bind fun v4 => (if (v4.length : Int) = 0 then ((ratio_Zero.f k).bind fun v9 => (some (v9.1, v9.2.1, v9.2.2))) else ((whole_Clean.f k a0_0 l0_1).bind fun v11 => ((ratio_form.f k v11.1 v11.2 v4).bind fun v13 => (some (v13.1, v13.2.1, v13.2.2)))))

def whole_Of.f (k : Nat) (a0 : Int) : Option (Bool × List Int) := if a0 < 0 then ((nat_Of.f k (IntKind.u64.wrap (0 - (IntKind.u64.wrap (a0))))).bind fun v6 => ((whole_sign.f true v6).bind fun v7 => (some (v7.1, v7.2)))) else ((nat_Of.f k (IntKind.u64.wrap (a0))).bind fun v5 => ((whole_sign.f false v5).bind fun v6 => (some (v6.1, v6.2))))

def ratio_Frac.f (k : Nat) (a0 : Int) (a1 : Int) : Option (Bool × List Int × List Int) := (whole_Of.f k a0).bind fun v2 => ((whole_Of.f k a1).bind fun v4 => ((ratio_Make.f k v2.1 v2.2 v4.1 v4.2).bind fun v5 => ((ratio_Clean.f k v5.1 v5.2.1 v5.2.2.1).bind fun v13 => (some (v13.1, v13.2.1, v13.2.2)))))

def ratio_Of.f (k : Nat) (a0 : Int) : Option (Bool × List Int × List Int) := (whole_Of.f k a0).bind fun v2 => ((nat_Of.f k 1).bind fun v3 => (some (v2.1, v2.2, v3)))

def ratio_One.f (k : Nat) : Option (Bool × List Int × List Int) := (ratio_Of.f k 1).bind fun v1 => (some (v1.1, v1.2.1, v1.2.2))

def ratio_Int.f (k : Nat) (a0_0 : Bool) (l0_1 : List Int) : Option (Bool × List Int × List Int) := (whole_Clean.f k a0_0 l0_1).bind fun v3 => ((nat_Of.f k 1).bind fun v4 => (some (v3.1, v3.2, v4)))

def nat_Add.l0 : Nat → List Int → List Int → List Int → Int → Int → Int → Option (List Int)
  | 0, _, _, _, _, _, _ => none
  | k + 1, x0, x1, x5, x6, x20, x21 => if x21 < x20 then ((nat_limb.f x0 x21).bind fun v6 => ((nat_limb.f x1 x21).bind fun v9 => (if 0 ≤ x21 then (if x21 < (x5.length : Int) then (nat_Add.l0 k x0 x1 (x5.set ((x21 : Int).toNat) (Go.bits .and .u64 (IntKind.u64.wrap (x6 + (IntKind.u64.wrap (v6 + v9)))) 4294967295)) ((IntKind.u64.wrap (x6 + (IntKind.u64.wrap (v6 + v9)))) / 4294967296) x20 (wrap64 (x21 + 1))) else none) else none))) else ((nat_trim.f k x5).bind fun v2 => (some v2))
def nat_Add.f (k : Nat) (l0 : List Int) (l1 : List Int) : Option (List Int) := (nat_Clean.f k l0).bind fun v2 => ((nat_Clean.f k l1).bind fun v4 => (if 0 ≤ (wrap64 ((mx (v2.length : Int) (v4.length : Int)) + 1)) then (if ((wrap64 ((mx (v2.length : Int) (v4.length : Int)) + 1)) : Int).toNat ≤ 35184372088832 then (nat_Add.l0 k v2 v4 (List.replicate (((wrap64 ((mx (v2.length : Int) (v4.length : Int)) + 1)) : Int).toNat) 0 : List Int) 0 ((List.replicate (((wrap64 ((mx (v2.length : Int) (v4.length : Int)) + 1)) : Int).toNat) 0 : List Int).length : Int) 0) else none) else none))

def nat_Sub.f (k : Nat) (l0 : List Int) (l1 : List Int) : Option (List Int × Int) := (nat_Clean.f k l0).bind fun v3 => ((nat_Clean.f k l1).bind fun v5 => ((nat_order.f k v3 v5).bind fun v10 => (if v10 < 0 then (some (([] : List Int), 3)) else ((nat_minus.f k v3 v5).bind fun v14 => (some (v14, 0))))))

def whole_DivMod.f (k : Nat) (a0_0 : Bool) (l0_1 : List Int) (a1_0 : Bool) (l1_1 : List Int) : Option (Bool × List Int × Bool × List Int × Int) := (whole_Clean.f k a0_0 l0_1).bind fun v6 => ((whole_Clean.f k a1_0 l1_1).bind fun v8 => ((nat_DivMod.f k v6.2 v8.2).bind fun v15 => (if v15.2.2 ≠ 0 then (some (false, ([] : List Int), false, ([] : List Int), v15.2.2)) else (if v6.1 ≠ v8.1 then (if (v15.2.1.length : Int) > 0 then ((nat_Of.f k 1).bind fun v36 => ((nat_Add.f k v15.1 v36).bind fun v37 => ((nat_Sub.f k v8.2 v15.2.1).bind fun v42 => ((whole_sign.f (!(v6.1 == v8.1)) v37).bind fun v53 => ((whole_sign.f v8.1 v42.1).bind fun v57 => (some (v53.1, v53.2, v57.1, v57.2, 0))))))) else ((whole_sign.f (!(v6.1 == v8.1)) v15.1).bind fun v41 => ((whole_sign.f v8.1 v15.2.1).bind fun v45 => (some (v41.1, v41.2, v45.1, v45.2, 0))))) else ((whole_sign.f (!(v6.1 == v8.1)) v15.1).bind fun v41 => ((whole_sign.f v8.1 v15.2.1).bind fun v45 => (some (v41.1, v41.2, v45.1, v45.2, 0))))))))

def ratio_den.f (a0_0 : Bool) (l0_1 : List Int) (l0_2 : List Int) : Option (Bool × List Int) := some (false, l0_2)

def ratio_Floor.f (k : Nat) (a0_0 : Bool) (l0_1 : List Int) (l0_2 : List Int) : Option (Bool × List Int) := (ratio_Clean.f k a0_0 l0_1 l0_2).bind fun v3 => ((ratio_den.f v3.1 v3.2.1 v3.2.2).bind fun v8 => ((whole_DivMod.f k v3.1 v3.2.1 v8.1 v8.2).bind fun v9 => (some (v9.1, v9.2.1))))

def ratio_Neg.f (k : Nat) (a0_0 : Bool) (l0_1 : List Int) (l0_2 : List Int) : Option (Bool × List Int × List Int) := (ratio_Clean.f k a0_0 l0_1 l0_2).bind fun v3 => ((whole_Neg.f k v3.1 v3.2.1).bind fun v7 => (some (v7.1, v7.2, v3.2.2)))

def ratio_Ceil.f (k : Nat) (a0_0 : Bool) (l0_1 : List Int) (l0_2 : List Int) : Option (Bool × List Int) := (ratio_Neg.f k a0_0 l0_1 l0_2).bind fun v3 => ((ratio_Floor.f k v3.1 v3.2.1 v3.2.2).bind fun v4 => ((whole_Neg.f k v4.1 v4.2).bind fun v5 => (some (v5.1, v5.2))))

def nat_Cmp.f (k : Nat) (l0 : List Int) (l1 : List Int) : Option (Int) := (nat_Clean.f k l0).bind fun v2 => ((nat_Clean.f k l1).bind fun v4 => ((nat_order.f k v2 v4).bind fun v5 => (some v5)))

def whole_Cmp.f (k : Nat) (a0_0 : Bool) (l0_1 : List Int) (a1_0 : Bool) (l1_1 : List Int) : Option (Int) := (whole_Clean.f k a0_0 l0_1).bind fun v4 => ((whole_Clean.f k a1_0 l1_1).bind fun v6 => (if v4.1 ≠ v6.1 then (if v4.1 = true then (some (-1)) else (if v4.1 ≠ v6.1 then (some 1) else (if v4.1 = true then ((nat_Cmp.f k v6.2 v4.2).bind fun v32 => (some v32)) else ((nat_Cmp.f k v4.2 v6.2).bind fun v32 => (some v32))))) else (if v4.1 ≠ v6.1 then (some 1) else (if v4.1 = true then ((nat_Cmp.f k v6.2 v4.2).bind fun v32 => (some v32)) else ((nat_Cmp.f k v4.2 v6.2).bind fun v32 => (some v32))))))

mutual
def nat_Mul.l0 : Nat → List Int → List Int → List Int → Int → Int → Option (List Int)
  | 0, _, _, _, _, _ => none
  | k + 1, x1, x5, x21, x22, x23 => if x23 < x22 then (if 0 ≤ x23 then (if x23 < (x21.length : Int) then (nat_Mul.l1 k x1 x5 x23 (rd x21 x23) 0 x21 x22 x23 x1 (x1.length : Int) 0) else none) else none) else ((nat_trim.f k x5).bind fun v2 => (some v2))
def nat_Mul.l1 : Nat → List Int → List Int → Int → Int → Int → List Int → Int → Int → List Int → Int → Int → Option (List Int)
  | 0, _, _, _, _, _, _, _, _, _, _, _ => none
  | k + 1, x1, x5, x6, x7, x8, x21, x22, x23, x28, x29, x30 => if x30 < x29 then (if 0 ≤ x30 then (if x30 < (x28.length : Int) then (if 0 ≤ (wrap64 (x6 + x30)) then (if (wrap64 (x6 + x30)) < (x5.length : Int) then (nat_Mul.l1 k x1 (x5.set (((wrap64 (x6 + x30)) : Int).toNat) (Go.bits .and .u64 (IntKind.u64.wrap (x8 + (IntKind.u64.wrap ((rd x5 (wrap64 (x6 + x30))) + (IntKind.u64.wrap (x7 * (rd x28 x30))))))) 4294967295)) x6 x7 ((IntKind.u64.wrap (x8 + (IntKind.u64.wrap ((rd x5 (wrap64 (x6 + x30))) + (IntKind.u64.wrap (x7 * (rd x28 x30))))))) / 4294967296) x21 x22 x23 x28 x29 (wrap64 (x30 + 1))) else none) else none) else none) else none) else (if 0 ≤ (wrap64 (x6 + (x1.length : Int))) then (if (wrap64 (x6 + (x1.length : Int))) < (x5.length : Int) then (nat_Mul.l0 k x1 (x5.set (((wrap64 (x6 + (x1.length : Int))) : Int).toNat) x8) x21 x22 (wrap64 (x23 + 1))) else none) else none)
end
def nat_Mul.f (k : Nat) (l0 : List Int) (l1 : List Int) : Option (List Int) := (nat_Clean.f k l0).bind fun v2 => ((nat_Clean.f k l1).bind fun v4 => (if 0 ≤ (wrap64 ((v2.length : Int) + (v4.length : Int))) then (if ((wrap64 ((v2.length : Int) + (v4.length : Int))) : Int).toNat ≤ 35184372088832 then (nat_Mul.l0 k v4 (List.replicate (((wrap64 ((v2.length : Int) + (v4.length : Int))) : Int).toNat) 0 : List Int) v2 (v2.length : Int) 0) else none) else none))

def whole_Mul.f (k : Nat) (a0_0 : Bool) (l0_1 : List Int) (a1_0 : Bool) (l1_1 : List Int) : Option (Bool × List Int) := (whole_Clean.f k a0_0 l0_1).bind fun v4 => ((whole_Clean.f k a1_0 l1_1).bind fun v6 => ((nat_Mul.f k v4.2 v6.2).bind fun v18 => ((whole_sign.f (!(v4.1 == v6.1)) v18).bind fun v19 => (some (v19.1, v19.2)))))

def ratio_Cmp.f (k : Nat) (a0_0 : Bool) (l0_1 : List Int) (l0_2 : List Int) (a1_0 : Bool) (l1_1 : List Int) (l1_2 : List Int) : Option (Int) := (ratio_Clean.f k a0_0 l0_1 l0_2).bind fun v4 => ((ratio_Clean.f k a1_0 l1_1 l1_2).bind fun v6 => ((ratio_den.f v6.1 v6.2.1 v6.2.2).bind fun v12 => ((whole_Mul.f k v4.1 v4.2.1 v12.1 v12.2).bind fun v13 => ((ratio_den.f v4.1 v4.2.1 v4.2.2).bind fun v17 => ((whole_Mul.f k v6.1 v6.2.1 v17.1 v17.2).bind fun v18 => ((whole_Cmp.f k v13.1 v13.2 v18.1 v18.2).bind fun v19 => (some v19)))))))

def whole_Add.f (k : Nat) (a0_0 : Bool) (l0_1 : List Int) (a1_0 : Bool) (l1_1 : List Int) : Option (Bool × List Int) := (whole_Clean.f k a0_0 l0_1).bind fun v4 => ((whole_Clean.f k a1_0 l1_1).bind fun v6 => (if v4.1 = v6.1 then ((nat_Add.f k v4.2 v6.2).bind fun v20 => ((whole_sign.f v4.1 v20).bind fun v21 => (some (v21.1, v21.2)))) else ((nat_Cmp.f k v4.2 v6.2).bind fun v18 => (if v18 < 0 then ((nat_Sub.f k v6.2 v4.2).bind fun v28 => ((whole_sign.f v6.1 v28.1).bind fun v37 => (some (v37.1, v37.2)))) else ((nat_Sub.f k v4.2 v6.2).bind fun v24 => ((whole_sign.f v4.1 v24.1).bind fun v33 => (some (v33.1, v33.2))))))))

def ratio_Add.f (k : Nat) (a0_0 : Bool) (l0_1 : List Int) (l0_2 : List Int) (a1_0 : Bool) (l1_1 : List Int) (l1_2 : List Int) : Option (Bool × List Int × List Int) := (ratio_Clean.f k a0_0 l0_1 l0_2).bind fun v4 => ((ratio_Clean.f k a1_0 l1_1 l1_2).bind fun v6 => ((ratio_den.f v6.1 v6.2.1 v6.2.2).bind fun v12 => ((whole_Mul.f k v4.1 v4.2.1 v12.1 v12.2).bind fun v13 => ((ratio_den.f v4.1 v4.2.1 v4.2.2).bind fun v17 => ((whole_Mul.f k v6.1 v6.2.1 v17.1 v17.2).bind fun v18 => ((whole_Add.f k v13.1 v13.2 v18.1 v18.2).bind fun v19 => ((nat_Mul.f k v4.2.2 v6.2.2).bind fun v24 => ((ratio_form.f k v19.1 v19.2 v24).bind fun v25 => (some (v25.1, v25.2.1, v25.2.2))))))))))

def ratio_Sub.f (k : Nat) (a0_0 : Bool) (l0_1 : List Int) (l0_2 : List Int) (a1_0 : Bool) (l1_1 : List Int) (l1_2 : List Int) : Option (Bool × List Int × List Int) := (ratio_Neg.f k a1_0 l1_1 l1_2).bind fun v5 => ((ratio_Add.f k a0_0 l0_1 l0_2 v5.1 v5.2.1 v5.2.2).bind fun v6 => (some (v6.1, v6.2.1, v6.2.2)))

def ratio_Sign.f (k : Nat) (a0_0 : Bool) (l0_1 : List Int) (l0_2 : List Int) : Option (Int) := (ratio_Clean.f k a0_0 l0_1 l0_2).bind fun v3 => ((whole_Sign.f k v3.1 v3.2.1).bind fun v5 => (some v5))

def ratio_Mul.f (k : Nat) (a0_0 : Bool) (l0_1 : List Int) (l0_2 : List Int) (a1_0 : Bool) (l1_1 : List Int) (l1_2 : List Int) : Option (Bool × List Int × List Int) := (ratio_Clean.f k a0_0 l0_1 l0_2).bind fun v4 => ((ratio_Clean.f k a1_0 l1_1 l1_2).bind fun v6 => ((whole_Mul.f k v4.1 v4.2.1 v6.1 v6.2.1).bind fun v13 => ((nat_Mul.f k v4.2.2 v6.2.2).bind fun v18 => ((ratio_form.f k v13.1 v13.2 v18).bind fun v19 => (some (v19.1, v19.2.1, v19.2.2))))))

def ratio_Inv.f (k : Nat) (a0_0 : Bool) (l0_1 : List Int) (l0_2 : List Int) : Option (Bool × List Int × List Int × Int) := (ratio_Clean.f k a0_0 l0_1 l0_2).bind fun v4 => ((ratio_den.f v4.1 v4.2.1 v4.2.2).bind fun v7 => ((ratio_Make.f k v7.1 v7.2 v4.1 v4.2.1).bind fun v10 => (some (v10.1, v10.2.1, v10.2.2.1, v10.2.2.2))))

def ratio_Div.f (k : Nat) (a0_0 : Bool) (l0_1 : List Int) (l0_2 : List Int) (a1_0 : Bool) (l1_1 : List Int) (l1_2 : List Int) : Option (Bool × List Int × List Int × Int) := (ratio_Inv.f k a1_0 l1_1 l1_2).bind fun v5 => (if v5.2.2.2 ≠ 0 then (some (false, ([] : List Int), ([] : List Int), v5.2.2.2)) else ((ratio_Mul.f k a0_0 l0_1 l0_2 v5.1 v5.2.1 v5.2.2.1).bind fun v16 => (some (v16.1, v16.2.1, v16.2.2, 0))))

def ratio_over.f (k : Nat) (a0_0 : Bool) (l0_1 : List Int) (l0_2 : List Int) (a1_0 : Bool) (l1_1 : List Int) (l1_2 : List Int) : Option (Bool × List Int × List Int) := (ratio_Div.f k a0_0 l0_1 l0_2 a1_0 l1_1 l1_2).bind fun v5 => (some (v5.1, v5.2.1, v5.2.2.1))

def ratio_unfold.l0 : Nat → (List (Bool × List Int × List Int)) → Int → Bool → List Int → List Int → Bool → Option (Bool × List Int × List Int)
  | 0, _, _, _, _, _, _ => none
  | k + 1, x0, x5, b3_0, b3_1, b3_2, b4_0 => if x5 ≥ 0 then (if x5 < (x0.length : Int) then ((ratio_One.f k).bind fun v6 => ((ratio_over.f k v6.1 v6.2.1 v6.2.2 b3_0 b3_1 b3_2).bind fun v8 => ((ratio_Add.f k ((gt (false, [], []) x0 x5).1) ((gt (false, [], []) x0 x5).2.1) ((gt (false, [], []) x0 x5).2.2) v8.1 v8.2.1 v8.2.2).bind fun v9 => (ratio_unfold.l0 k x0 (wrap64 (x5 - 1)) v9.1 v9.2.1 v9.2.2 b4_0)))) else none) else (some (b3_0, b3_1, b3_2))
def ratio_unfold.f (k : Nat) (l0 : List (Bool × List Int × List Int)) (a1_0 : Bool) (l1_1 : List Int) (l1_2 : List Int) : Option (Bool × List Int × List Int) := ratio_unfold.l0 k l0 (wrap64 ((l0.length : Int) - 1)) a1_0 l1_1 l1_2 false

mutual
def ratio_Simplest.l0 : Nat → (List (Bool × List Int × List Int)) → Bool → List Int → List Int → Bool → List Int → List Int → Bool → Option (Bool × List Int × List Int × Int)
  | 0, _, _, _, _, _, _, _, _ => none
  | k + 1, x8, b2_0, b2_1, b2_2, b3_0, b3_1, b3_2, b4_0 => (ratio_Ceil.f k b2_0 b2_1 b2_2).bind fun v1 => ((ratio_Int.f k v1.1 v1.2).bind fun v2 => ((ratio_Cmp.f k v2.1 v2.2.1 v2.2.2 b3_0 b3_1 b3_2).bind fun v7 => (if v7 ≤ 0 then ((ratio_unfold.f k x8 v2.1 v2.2.1 v2.2.2).bind fun v11 => (some (v11.1, v11.2.1, v11.2.2, 0))) else ((ratio_Floor.f k b2_0 b2_1 b2_2).bind fun v10 => ((ratio_Int.f k v10.1 v10.2).bind fun v11 => (if x8.length < 2513169434916 then ((ratio_One.f k).bind fun v19 => ((ratio_Sub.f k b3_0 b3_1 b3_2 v11.1 v11.2.1 v11.2.2).bind fun v22 => ((ratio_over.f k v19.1 v19.2.1 v19.2.2 v22.1 v22.2.1 v22.2.2).bind fun v23 => ((ratio_One.f k).bind fun v24 => ((ratio_Sub.f k b2_0 b2_1 b2_2 v11.1 v11.2.1 v11.2.2).bind fun v27 => ((ratio_over.f k v24.1 v24.2.1 v24.2.2 v27.1 v27.2.1 v27.2.2).bind fun v28 => (ratio_Simplest.l0 k (x8 ++ [(v11.1, v11.2.1, v11.2.2)]) v23.1 v23.2.1 v23.2.2 v28.1 v28.2.1 v28.2.2 b4_0))))))) else none))))))
def ratio_Simplest.f : Nat → Bool → List Int → List Int → Bool → List Int → List Int → Option (Bool × List Int × List Int × Int)
  | 0, _, _, _, _, _, _ => none
  | k + 1, a0_0, l0_1, l0_2, a1_0, l1_1, l1_2 => (ratio_Clean.f k a0_0 l0_1 l0_2).bind fun v5 => ((ratio_Clean.f k a1_0 l1_1 l1_2).bind fun v7 => ((ratio_Cmp.f k v5.1 v5.2.1 v5.2.2 v7.1 v7.2.1 v7.2.2).bind fun v12 => (if v12 > 0 then (some (false, ([] : List Int), ([] : List Int), 8)) else ((ratio_Sign.f k v5.1 v5.2.1 v5.2.2).bind fun v16 => (if v16 ≤ 0 then ((ratio_Sign.f k v7.1 v7.2.1 v7.2.2).bind fun v20 => (if v20 ≥ 0 then ((ratio_Zero.f k).bind fun v24 => (some (v24.1, v24.2.1, v24.2.2, 0))) else ((ratio_Sign.f k v7.1 v7.2.1 v7.2.2).bind fun v25 => (if v25 < 0 then ((ratio_Neg.f k v7.1 v7.2.1 v7.2.2).bind fun v29 => ((ratio_Neg.f k v5.1 v5.2.1 v5.2.2).bind fun v31 => ((ratio_Simplest.f k v29.1 v29.2.1 v29.2.2 v31.1 v31.2.1 v31.2.2).bind fun v32 => ((ratio_Neg.f k v32.1 v32.2.1 v32.2.2.1).bind fun v40 => (some (v40.1, v40.2.1, v40.2.2, 0)))))) else (ratio_Simplest.l0 k ([] : List (Bool × List Int × List Int)) v5.1 v5.2.1 v5.2.2 v7.1 v7.2.1 v7.2.2 false))))) else ((ratio_Sign.f k v7.1 v7.2.1 v7.2.2).bind fun v25 => (if v25 < 0 then ((ratio_Neg.f k v7.1 v7.2.1 v7.2.2).bind fun v29 => ((ratio_Neg.f k v5.1 v5.2.1 v5.2.2).bind fun v31 => ((ratio_Simplest.f k v29.1 v29.2.1 v29.2.2 v31.1 v31.2.1 v31.2.2).bind fun v32 => ((ratio_Neg.f k v32.1 v32.2.1 v32.2.2.1).bind fun v40 => (some (v40.1, v40.2.1, v40.2.2, 0)))))) else (ratio_Simplest.l0 k ([] : List (Bool × List Int × List Int)) v5.1 v5.2.1 v5.2.2 v7.1 v7.2.1 v7.2.2 false))))))))
end

def ratio_Same.f (k : Nat) (a0_0 : Bool) (l0_1 : List Int) (l0_2 : List Int) (a1_0 : Bool) (l1_1 : List Int) (l1_2 : List Int) : Option (Bool) := (ratio_Cmp.f k a0_0 l0_1 l0_2 a1_0 l1_1 l1_2).bind fun v5 => (some (v5 == 0))

def ratio_middle.f (k : Nat) (a0_0 : Bool) (l0_1 : List Int) (l0_2 : List Int) (a1_0 : Bool) (l1_1 : List Int) (l1_2 : List Int) : Option (Bool × List Int × List Int) := (whole_Add.f k a0_0 l0_1 a1_0 l1_1).bind fun v7 => ((nat_Add.f k l0_2 l1_2).bind fun v12 => ((ratio_form.f k v7.1 v7.2 v12).bind fun v13 => (some (v13.1, v13.2.1, v13.2.2))))

def ratio_Near.l0 : Nat → List Int → Bool → List Int → List Int → Bool → Bool → List Int → List Int → Bool → List Int → List Int → Option (Bool × List Int × List Int × Int)
  | 0, _, _, _, _, _, _, _, _, _, _, _ => none
  | k + 1, x8, b2_0, b2_1, b2_2, b4_0, b6_0, b6_1, b6_2, b7_0, b7_1, b7_2 => (nat_Add.f k b6_2 b7_2).bind fun v4 => ((nat_Cmp.f k v4 x8).bind fun v6 => (if v6 ≤ 0 then ((ratio_middle.f k b6_0 b6_1 b6_2 b7_0 b7_1 b7_2).bind fun v10 => ((ratio_Cmp.f k v10.1 v10.2.1 v10.2.2 b2_0 b2_1 b2_2).bind fun v15 => (if v15 = 0 then (some (v10.1, v10.2.1, v10.2.2, 0)) else (if v15 < 0 then (ratio_Near.l0 k x8 b2_0 b2_1 b2_2 b4_0 v10.1 v10.2.1 v10.2.2 b7_0 b7_1 b7_2) else (ratio_Near.l0 k x8 b2_0 b2_1 b2_2 b4_0 b6_0 b6_1 b6_2 v10.1 v10.2.1 v10.2.2))))) else ((ratio_Sub.f k b2_0 b2_1 b2_2 b6_0 b6_1 b6_2).bind fun v10 => ((ratio_Sub.f k b7_0 b7_1 b7_2 b2_0 b2_1 b2_2).bind fun v13 => ((ratio_Cmp.f k v10.1 v10.2.1 v10.2.2 v13.1 v13.2.1 v13.2.2).bind fun v14 => (if v14 < 0 then (some (b6_0, b6_1, b6_2, 0)) else (if v14 = 0 then ((nat_Cmp.f k b6_2 b7_2).bind fun v26 => (if v26 ≤ 0 then (some (b6_0, b6_1, b6_2, 0)) else (some (b7_0, b7_1, b7_2, 0)))) else (some (b7_0, b7_1, b7_2, 0)))))))))
def ratio_Near.f (k : Nat) (a0_0 : Bool) (l0_1 : List Int) (l0_2 : List Int) (a1 : Int) : Option (Bool × List Int × List Int × Int) := if a1 < 1 then (some (false, ([] : List Int), ([] : List Int), 8)) else (if a1 > 4096 then (some (false, ([] : List Int), ([] : List Int), 8)) else ((ratio_Clean.f k a0_0 l0_1 l0_2).bind fun v10 => ((ratio_Floor.f k v10.1 v10.2.1 v10.2.2).bind fun v13 => ((ratio_Int.f k v13.1 v13.2).bind fun v14 => ((ratio_One.f k).bind fun v18 => ((ratio_Add.f k v14.1 v14.2.1 v14.2.2 v18.1 v18.2.1 v18.2.2).bind fun v19 => ((ratio_Same.f k v14.1 v14.2.1 v14.2.2 v10.1 v10.2.1 v10.2.2).bind fun v24 => (if v24 = true then (some (v14.1, v14.2.1, v14.2.2, 0)) else ((nat_Of.f k (IntKind.u64.wrap (a1))).bind fun v27 => (ratio_Near.l0 k v27 v10.1 v10.2.1 v10.2.2 false v14.1 v14.2.1 v14.2.2 v19.1 v19.2.1 v19.2.2))))))))))

def stringslite_HasPrefix.f (a0 : ByteArray) (a1 : ByteArray) : Option (Bool) := if (a0.size : Int) ≥ (a1.size : Int) then (if 0 ≤ (a1.size : Int) then (some ((a0.extract 0 (((a1.size : Int) : Int).toNat)).toList == a1.toList)) else none) else (some false)

def strings_HasPrefix.f (a0 : ByteArray) (a1 : ByteArray) : Option (Bool) := (stringslite_HasPrefix.f a0 a1).bind fun v3 => (some v3)

def ratio_ten.l0 : Nat → List Int → Int → Int → Option (List Int)
  | 0, _, _, _ => none
  | k + 1, x3, x5, x6 => if x6 < x5 then ((nat_Of.f k 10).bind fun v2 => ((nat_Mul.f k x3 v2).bind fun v3 => (ratio_ten.l0 k v3 x5 (wrap64 (x6 + 1))))) else (some x3)
def ratio_ten.f (k : Nat) (a0 : Int) : Option (List Int) := (nat_Of.f k 1).bind fun v1 => (ratio_ten.l0 k v1 a0 0)

def fIdx (s : ByteArray) (c : UInt8) : Int :=
  match (List.range s.size).find? fun i => s[i]! == c with
  | some i => i
  | none => -1
def stringslite_IndexByte.f (s : ByteArray) (c : Int) : Option Int := some (fIdx s c.toNat.toUInt8)

def bytealg_Cutover.f (a0 : Int) : Option (Int) := some (wrap64 (Int.tdiv (wrap64 (a0 + 16)) 8))

mutual
def bytealg_hashStr_string_.l0 : Nat → ByteArray → Int → Int → Option (Int × Int)
  | 0, _, _, _ => none
  | k + 1, x0, x4, x5 => if x5 < (x0.size : Int) then (if 0 ≤ x5 then (bytealg_hashStr_string_.l0 k x0 (IntKind.u32.wrap ((IntKind.u32.wrap (x4 * 16777619)) + (IntKind.u32.wrap ((bt x0 x5))))) (wrap64 (x5 + 1))) else none) else (bytealg_hashStr_string_.l1 k x4 1 16777619 (x0.size : Int))
def bytealg_hashStr_string_.l1 : Nat → Int → Int → Int → Int → Option (Int × Int)
  | 0, _, _, _, _ => none
  | k + 1, x4, x6, x7, x8 => if x8 > 0 then (if (Go.bits .and .i64 x8 1) ≠ 0 then (bytealg_hashStr_string_.l1 k x4 (IntKind.u32.wrap (x6 * x7)) (IntKind.u32.wrap (x7 * x7)) (x8 / 2)) else (bytealg_hashStr_string_.l1 k x4 x6 (IntKind.u32.wrap (x7 * x7)) (x8 / 2))) else (some (x4, x6))
end
def bytealg_hashStr_string_.f (k : Nat) (a0 : ByteArray) : Option (Int × Int) := bytealg_hashStr_string_.l0 k a0 0 0

mutual
def bytealg_IndexRabinKarp_string_.l0 : Nat → ByteArray → ByteArray → Int → Int → Int → Int → Int → Option (Int)
  | 0, _, _, _, _, _, _, _ => none
  | k + 1, x0, x1, x5, x6, x7, x8, x9 => if x9 < x7 then (if 0 ≤ x9 then (if x9 < (x0.size : Int) then (bytealg_IndexRabinKarp_string_.l0 k x0 x1 x5 x6 x7 (IntKind.u32.wrap ((IntKind.u32.wrap (x8 * 16777619)) + (IntKind.u32.wrap ((bt x0 x9))))) (wrap64 (x9 + 1))) else none) else none) else (if x8 = x5 then (if 0 ≤ x7 then (if x7 ≤ (x0.size : Int) then (if (x0.extract 0 ((x7 : Int).toNat)) = x1 then (some 0) else (bytealg_IndexRabinKarp_string_.l1 k x0 x1 x5 x6 x7 x8 x7)) else none) else none) else (bytealg_IndexRabinKarp_string_.l1 k x0 x1 x5 x6 x7 x8 x7))
def bytealg_IndexRabinKarp_string_.l1 : Nat → ByteArray → ByteArray → Int → Int → Int → Int → Int → Option (Int)
  | 0, _, _, _, _, _, _, _ => none
  | k + 1, x0, x1, x5, x6, x7, x8, x10 => if x10 < (x0.size : Int) then (if 0 ≤ x10 then (if 0 ≤ (wrap64 (x10 - x7)) then (if (wrap64 (x10 - x7)) < (x0.size : Int) then (if (IntKind.u32.wrap ((IntKind.u32.wrap ((IntKind.u32.wrap (x8 * 16777619)) + (IntKind.u32.wrap ((bt x0 x10))))) - (IntKind.u32.wrap (x6 * (IntKind.u32.wrap ((bt x0 (wrap64 (x10 - x7))))))))) = x5 then (if 0 ≤ (wrap64 ((wrap64 (x10 + 1)) - x7)) then (if (wrap64 ((wrap64 (x10 + 1)) - x7)) ≤ (wrap64 (x10 + 1)) then (if (wrap64 (x10 + 1)) ≤ (x0.size : Int) then (if (x0.extract (((wrap64 ((wrap64 (x10 + 1)) - x7)) : Int).toNat) (((wrap64 (x10 + 1)) : Int).toNat)) = x1 then (some (wrap64 ((wrap64 (x10 + 1)) - x7))) else (bytealg_IndexRabinKarp_string_.l1 k x0 x1 x5 x6 x7 (IntKind.u32.wrap ((IntKind.u32.wrap ((IntKind.u32.wrap (x8 * 16777619)) + (IntKind.u32.wrap ((bt x0 x10))))) - (IntKind.u32.wrap (x6 * (IntKind.u32.wrap ((bt x0 (wrap64 (x10 - x7))))))))) (wrap64 (x10 + 1)))) else none) else none) else none) else (bytealg_IndexRabinKarp_string_.l1 k x0 x1 x5 x6 x7 (IntKind.u32.wrap ((IntKind.u32.wrap ((IntKind.u32.wrap (x8 * 16777619)) + (IntKind.u32.wrap ((bt x0 x10))))) - (IntKind.u32.wrap (x6 * (IntKind.u32.wrap ((bt x0 (wrap64 (x10 - x7))))))))) (wrap64 (x10 + 1)))) else none) else none) else none) else (some (-1))
end
def bytealg_IndexRabinKarp_string_.f (k : Nat) (a0 : ByteArray) (a1 : ByteArray) : Option (Int) := (bytealg_hashStr_string_.f k a1).bind fun v2 => (bytealg_IndexRabinKarp_string_.l0 k a0 a1 v2.1 v2.2 (a1.size : Int) 0 0)

def stringslite_Index.f (k : Nat) (a0 : ByteArray) (a1 : ByteArray) : Option (Int) := if (a1.size : Int) = 0 then (some 0) else (if a1 = a0 then (some 0) else (if (a1.size : Int) = 1 then (if 0 < (a1.size : Int) then ((stringslite_IndexByte.f a0 (bt a1 0)).bind fun v18 => (some v18)) else none) else (if (a1.size : Int) ≥ (a0.size : Int) then (some (-1)) else (none))))

def stringslite_Cut.f (k : Nat) (a0 : ByteArray) (a1 : ByteArray) : Option (ByteArray × ByteArray × Bool) := (stringslite_Index.f k a0 a1).bind fun v5 => (if v5 ≥ 0 then (if v5 ≤ (a0.size : Int) then (if 0 ≤ (wrap64 (v5 + (a1.size : Int))) then (if (wrap64 (v5 + (a1.size : Int))) ≤ (a0.size : Int) then (some ((a0.extract 0 ((v5 : Int).toNat)), (a0.extract (((wrap64 (v5 + (a1.size : Int))) : Int).toNat) a0.size), true)) else none) else none) else none) else (some (a0, ByteArray.empty, false)))

def strings_Cut.f (k : Nat) (a0 : ByteArray) (a1 : ByteArray) : Option (ByteArray × ByteArray × Bool) := (stringslite_Cut.f k a0 a1).bind fun v5 => (some (v5.1, v5.2.1, v5.2.2))

def nat_plus.l0 : Nat → List Int → Int → List Int → Int → Int → Option (List Int)
  | 0, _, _, _, _, _ => none
  | k + 1, x0, x1, x5, x12, x13 => if x13 < x12 then ((nat_limb.f x0 x13).bind fun v6 => (if 0 ≤ x13 then (if x13 < (x5.length : Int) then (nat_plus.l0 k x0 ((IntKind.u64.wrap (x1 + (IntKind.u64.wrap (v6 * 1000000000)))) / 4294967296) (x5.set ((x13 : Int).toNat) (Go.bits .and .u64 (IntKind.u64.wrap (x1 + (IntKind.u64.wrap (v6 * 1000000000)))) 4294967295)) x12 (wrap64 (x13 + 1))) else none) else none)) else ((nat_trim.f k x5).bind fun v2 => (some v2))
def nat_plus.f (k : Nat) (l0 : List Int) (a1 : Int) : Option (List Int) := if 0 ≤ (wrap64 ((l0.length : Int) + 1)) then (if ((wrap64 ((l0.length : Int) + 1)) : Int).toNat ≤ 35184372088832 then (nat_plus.l0 k l0 a1 (List.replicate (((wrap64 ((l0.length : Int) + 1)) : Int).toNat) 0 : List Int) ((List.replicate (((wrap64 ((l0.length : Int) + 1)) : Int).toNat) 0 : List Int).length : Int) 0) else none) else none

mutual
def nat_Parse.l0 : Nat → ByteArray → ByteArray → Nat → Option (List Int × Int)
  | 0, _, _, _ => none
  | k + 1, x0, b14_s, b14_p => if b14_p < b14_s.size then (if ((Utf8.decode b14_s b14_p).1 : Int) < 48 then (some (([] : List Int), 4)) else (if ((Utf8.decode b14_s b14_p).1 : Int) > 57 then (some (([] : List Int), 4)) else (nat_Parse.l0 k x0 b14_s (b14_p + (Utf8.decode b14_s b14_p).2)))) else (if (x0.size : Int) > 10000 then (some (([] : List Int), 5)) else (nat_Parse.l1 k x0 ([] : List Int)))
def nat_Parse.l1 : Nat → ByteArray → List Int → Option (List Int × Int)
  | 0, _, _ => none
  | k + 1, x0, x6 => if (x0.size : Int) > 0 then (if (Int.tmod (x0.size : Int) 9) = 0 then (if 9 ≤ (x0.size : Int) then (if (x0.extract 0 9).size ≤ lim then (nat_Parse.l2 k x0 x6 9 0 (toBytes (x0.extract 0 9)) ((toBytes (x0.extract 0 9)).length : Int) 0) else none) else none) else (if 0 ≤ (Int.tmod (x0.size : Int) 9) then (if (Int.tmod (x0.size : Int) 9) ≤ (x0.size : Int) then (if (x0.extract 0 (((Int.tmod (x0.size : Int) 9) : Int).toNat)).size ≤ lim then (nat_Parse.l2 k x0 x6 (Int.tmod (x0.size : Int) 9) 0 (toBytes (x0.extract 0 (((Int.tmod (x0.size : Int) 9) : Int).toNat))) ((toBytes (x0.extract 0 (((Int.tmod (x0.size : Int) 9) : Int).toNat))).length : Int) 0) else none) else none) else none)) else (some (x6, 0))
def nat_Parse.l2 : Nat → ByteArray → List Int → Int → Int → List Int → Int → Int → Option (List Int × Int)
  | 0, _, _, _, _, _, _, _ => none
  | k + 1, x0, x6, x7, x8, x38, x39, x40 => if x40 < x39 then (if 0 ≤ x40 then (if x40 < (x38.length : Int) then (nat_Parse.l2 k x0 x6 x7 (IntKind.u64.wrap ((IntKind.u64.wrap (10 * x8)) + (IntKind.u64.wrap ((IntKind.u8.wrap ((rd x38 x40) - 48)))))) x38 x39 (wrap64 (x40 + 1))) else none) else none) else ((nat_plus.f k x6 x8).bind fun v3 => (if 0 ≤ x7 then (if x7 ≤ (x0.size : Int) then (nat_Parse.l1 k (x0.extract ((x7 : Int).toNat) x0.size) v3) else none) else none))
end
def nat_Parse.f (k : Nat) (a0 : ByteArray) : Option (List Int × Int) := if a0 = ByteArray.empty then (some (([] : List Int), 4)) else (nat_Parse.l0 k a0 a0 0)

def ratio_plain.f (k : Nat) (a0 : ByteArray) : Option (Bool × List Int × List Int × Int) := (strings_Cut.f k a0 (⟨#[47]⟩ : ByteArray)).bind fun v3 => (if v3.2.2 = true then ((nat_Parse.f k v3.1).bind fun v13 => (if v13.2 ≠ 0 then (some (false, ([] : List Int), ([] : List Int), v13.2)) else ((nat_Parse.f k v3.2.1).bind fun v22 => (if v22.2 ≠ 0 then (some (false, ([] : List Int), ([] : List Int), v22.2)) else (if (v22.1.length : Int) = 0 then (some (false, ([] : List Int), ([] : List Int), 2)) else ((ratio_form.f k false v13.1 v22.1).bind fun v36 => (some (v36.1, v36.2.1, v36.2.2, 0)))))))) else ((strings_Cut.f k a0 (⟨#[46]⟩ : ByteArray)).bind fun v13 => (if v13.2.2 = true then ((nat_Parse.f k v13.1).bind fun v22 => (if v22.2 ≠ 0 then (some (false, ([] : List Int), ([] : List Int), v22.2)) else ((nat_Parse.f k v13.2.1).bind fun v33 => (if v33.2 ≠ 0 then (some (false, ([] : List Int), ([] : List Int), v33.2)) else ((ratio_ten.f k (v13.2.1.size : Int)).bind fun v43 => ((nat_Mul.f k v22.1 v43).bind fun v47 => ((nat_Add.f k v47 v33.1).bind fun v49 => ((ratio_form.f k false v49 v43).bind fun v52 => (some (v52.1, v52.2.1, v52.2.2, 0)))))))))) else ((nat_Parse.f k v13.1).bind fun v22 => (if v22.2 ≠ 0 then (some (false, ([] : List Int), ([] : List Int), v22.2)) else ((nat_Of.f k 1).bind fun v34 => ((ratio_form.f k false v22.1 v34).bind fun v35 => (some (v35.1, v35.2.1, v35.2.2, 0)))))))))

def ratio_Parse.f (k : Nat) (a0 : ByteArray) : Option (Bool × List Int × List Int × Int) := (strings_HasPrefix.f a0 (⟨#[45]⟩ : ByteArray)).bind fun v3 => (if v3 = true then (if 1 ≤ (a0.size : Int) then ((ratio_plain.f k (a0.extract 1 a0.size)).bind fun v10 => (if v10.2.2.2 ≠ 0 then (some (false, ([] : List Int), ([] : List Int), v10.2.2.2)) else ((ratio_Neg.f k v10.1 v10.2.1 v10.2.2.1).bind fun v21 => (some (v21.1, v21.2.1, v21.2.2, 0))))) else none) else ((ratio_plain.f k a0).bind fun v7 => (if v7.2.2.2 ≠ 0 then (some (false, ([] : List Int), ([] : List Int), v7.2.2.2)) else (some (v7.1, v7.2.1, v7.2.2.1, 0)))))

def nat_Bit.f (k : Nat) (l0 : List Int) (a1 : Int) : Option (Int) := (nat_Clean.f k l0).bind fun v2 => (if a1 < 0 then (some 0) else (if (wrap64 (Int.tdiv a1 32)) ≥ (v2.length : Int) then (some 0) else (if 0 ≤ (wrap64 (Int.tdiv a1 32)) then (if (wrap64 (Int.tdiv a1 32)) < (v2.length : Int) then (if 0 ≤ (Int.tmod a1 32) then (some (wrap64 ((Go.bits .and .u64 (shr .u64 (rd v2 (wrap64 (Int.tdiv a1 32))) (Int.tmod a1 32)) 1)))) else none) else none) else none)))

def nat_Even.f (k : Nat) (l0 : List Int) : Option (Bool) := (nat_Bit.f k l0 0).bind fun v2 => (some (v2 == 0))

def ratio_Round.f (k : Nat) (a0_0 : Bool) (l0_1 : List Int) (l0_2 : List Int) : Option (Bool × List Int) := (ratio_Floor.f k a0_0 l0_1 l0_2).bind fun v3 => ((ratio_Int.f k v3.1 v3.2).bind fun v8 => ((ratio_Sub.f k a0_0 l0_1 l0_2 v8.1 v8.2.1 v8.2.2).bind fun v9 => ((ratio_Frac.f k 1 2).bind fun v10 => ((ratio_Cmp.f k v9.1 v9.2.1 v9.2.2 v10.1 v10.2.1 v10.2.2).bind fun v11 => (if v11 < 0 then (some (v3.1, v3.2)) else (if v11 = 0 then ((nat_Even.f k v3.2).bind fun v21 => (if v21 = true then (some (v3.1, v3.2)) else ((whole_Of.f k 1).bind fun v25 => ((whole_Add.f k v3.1 v3.2 v25.1 v25.2).bind fun v26 => (some (v26.1, v26.2)))))) else ((whole_Of.f k 1).bind fun v25 => ((whole_Add.f k v3.1 v3.2 v25.1 v25.2).bind fun v26 => (some (v26.1, v26.2))))))))))

def nat_nine.l0 : Nat → Int → List Int → Int → Option (List Int)
  | 0, _, _, _ => none
  | k + 1, x0, x3, x4 => if x4 ≥ 0 then (if x4 < (x3.length : Int) then (nat_nine.l0 k (IntKind.u64.wrap (Int.tdiv x0 10)) (x3.set ((x4 : Int).toNat) (IntKind.u8.wrap ((IntKind.u64.wrap (48 + (Int.tmod x0 10)))))) (wrap64 (x4 - 1))) else none) else (some x3)
def nat_nine.f (k : Nat) (a0 : Int) : Option (List Int) := nat_nine.l0 k a0 (List.replicate 9 0 : List Int) 8

mutual
def nat_Print.l0 : Nat → List Int → List Int → Option (ByteArray)
  | 0, _, _ => none
  | k + 1, x0, x3 => if (x0.length : Int) > 0 then ((nat_small.f k x0 1000000000).bind fun v5 => (if x3.length < 17592186044416 then (nat_Print.l0 k v5.1 (x3 ++ [v5.2])) else none)) else (nat_Print.l1 k x3 ([] : List Int) (wrap64 ((x3.length : Int) - 1)))
def nat_Print.l1 : Nat → List Int → List Int → Int → Option (ByteArray)
  | 0, _, _, _ => none
  | k + 1, x3, x5, x6 => if x6 ≥ 0 then (if x6 < (x3.length : Int) then ((nat_nine.f k (rd x3 x6)).bind fun v7 => (if x5.length + v7.length < 140737488355329 then (nat_Print.l1 k x3 (x5 ++ v7) (wrap64 (x6 - 1))) else none)) else none) else (nat_Print.l2 k x5 0)
def nat_Print.l2 : Nat → List Int → Int → Option (ByteArray)
  | 0, _, _ => none
  | k + 1, x5, x7 => if 0 ≤ x7 then (if x7 < (x5.length : Int) then (if (rd x5 x7) = 48 then (nat_Print.l2 k x5 (wrap64 (x7 + 1))) else (if bytesOk (x5.drop ((x7 : Int).toNat)) = true then (some (ofBytes (x5.drop ((x7 : Int).toNat)))) else none)) else none) else none
end
def nat_Print.f (k : Nat) (l0 : List Int) : Option (ByteArray) := (nat_Clean.f k l0).bind fun v2 => (if (v2.length : Int) = 0 then (some (⟨#[48]⟩ : ByteArray)) else (nat_Print.l0 k v2 ([] : List Int)))

def repL (l : List UInt8) : Nat → List UInt8
  | 0 => []
  | n + 1 => l ++ repL l n
def strings_Repeat.f (s : ByteArray) (c : Int) : Option ByteArray := if 0 ≤ c then (if c ≤ 9223372036854775807 ∧ s.size * c.toNat ≤ 140737488355328 then some ⟨(repL s.data.toList c.toNat).toArray⟩ else none) else none

def ratio_Decimal.f (k : Nat) (a0_0 : Bool) (l0_1 : List Int) (l0_2 : List Int) (a1 : Int) : Option (ByteArray × Int) := if a1 < 0 then (some (ByteArray.empty, 8)) else (if a1 > 10000 then (some (ByteArray.empty, 8)) else ((ratio_ten.f k a1).bind fun v11 => ((ratio_Int.f k false v11).bind fun v13 => ((ratio_Mul.f k a0_0 l0_1 l0_2 v13.1 v13.2.1 v13.2.2).bind fun v14 => ((ratio_Round.f k v14.1 v14.2.1 v14.2.2).bind fun v15 => ((nat_Print.f k v15.2).bind fun v20 => (if (wrap64 ((wrap64 (a1 + 1)) - (v20.size : Int))) > 0 then ((strings_Repeat.f (⟨#[48]⟩ : ByteArray) (wrap64 ((wrap64 (a1 + 1)) - (v20.size : Int)))).bind fun v31 => (if v31.size + v20.size ≤ 9223372036854775807 then (if a1 > 0 then (if 0 ≤ (wrap64 (((v31 ++ v20).size : Int) - a1)) then (if (wrap64 (((v31 ++ v20).size : Int) - a1)) ≤ ((v31 ++ v20).size : Int) then (if ((v31 ++ v20).extract 0 (((wrap64 (((v31 ++ v20).size : Int) - a1)) : Int).toNat)).size + (⟨#[46]⟩ : ByteArray).size ≤ 9223372036854775807 then (if (((v31 ++ v20).extract 0 (((wrap64 (((v31 ++ v20).size : Int) - a1)) : Int).toNat)) ++ (⟨#[46]⟩ : ByteArray)).size + ((v31 ++ v20).extract (((wrap64 (((v31 ++ v20).size : Int) - a1)) : Int).toNat) (v31 ++ v20).size).size ≤ 9223372036854775807 then (if v15.1 = true then (if (⟨#[45]⟩ : ByteArray).size + ((((v31 ++ v20).extract 0 (((wrap64 (((v31 ++ v20).size : Int) - a1)) : Int).toNat)) ++ (⟨#[46]⟩ : ByteArray)) ++ ((v31 ++ v20).extract (((wrap64 (((v31 ++ v20).size : Int) - a1)) : Int).toNat) (v31 ++ v20).size)).size ≤ 9223372036854775807 then (some (((⟨#[45]⟩ : ByteArray) ++ ((((v31 ++ v20).extract 0 (((wrap64 (((v31 ++ v20).size : Int) - a1)) : Int).toNat)) ++ (⟨#[46]⟩ : ByteArray)) ++ ((v31 ++ v20).extract (((wrap64 (((v31 ++ v20).size : Int) - a1)) : Int).toNat) (v31 ++ v20).size))), 0)) else none) else (some (((((v31 ++ v20).extract 0 (((wrap64 (((v31 ++ v20).size : Int) - a1)) : Int).toNat)) ++ (⟨#[46]⟩ : ByteArray)) ++ ((v31 ++ v20).extract (((wrap64 (((v31 ++ v20).size : Int) - a1)) : Int).toNat) (v31 ++ v20).size)), 0))) else none) else none) else none) else none) else (if v15.1 = true then (if (⟨#[45]⟩ : ByteArray).size + (v31 ++ v20).size ≤ 9223372036854775807 then (some (((⟨#[45]⟩ : ByteArray) ++ (v31 ++ v20)), 0)) else none) else (some ((v31 ++ v20), 0)))) else none)) else (if a1 > 0 then (if 0 ≤ (wrap64 ((v20.size : Int) - a1)) then (if (wrap64 ((v20.size : Int) - a1)) ≤ (v20.size : Int) then (if (v20.extract 0 (((wrap64 ((v20.size : Int) - a1)) : Int).toNat)).size + (⟨#[46]⟩ : ByteArray).size ≤ 9223372036854775807 then (if ((v20.extract 0 (((wrap64 ((v20.size : Int) - a1)) : Int).toNat)) ++ (⟨#[46]⟩ : ByteArray)).size + (v20.extract (((wrap64 ((v20.size : Int) - a1)) : Int).toNat) v20.size).size ≤ 9223372036854775807 then (if v15.1 = true then (if (⟨#[45]⟩ : ByteArray).size + (((v20.extract 0 (((wrap64 ((v20.size : Int) - a1)) : Int).toNat)) ++ (⟨#[46]⟩ : ByteArray)) ++ (v20.extract (((wrap64 ((v20.size : Int) - a1)) : Int).toNat) v20.size)).size ≤ 9223372036854775807 then (some (((⟨#[45]⟩ : ByteArray) ++ (((v20.extract 0 (((wrap64 ((v20.size : Int) - a1)) : Int).toNat)) ++ (⟨#[46]⟩ : ByteArray)) ++ (v20.extract (((wrap64 ((v20.size : Int) - a1)) : Int).toNat) v20.size))), 0)) else none) else (some ((((v20.extract 0 (((wrap64 ((v20.size : Int) - a1)) : Int).toNat)) ++ (⟨#[46]⟩ : ByteArray)) ++ (v20.extract (((wrap64 ((v20.size : Int) - a1)) : Int).toNat) v20.size)), 0))) else none) else none) else none) else none) else (if v15.1 = true then (if (⟨#[45]⟩ : ByteArray).size + v20.size ≤ 9223372036854775807 then (some (((⟨#[45]⟩ : ByteArray) ++ v20), 0)) else none) else (some (v20, 0)))))))))))

def whole_Print.f (k : Nat) (a0_0 : Bool) (l0_1 : List Int) : Option (ByteArray) := (whole_Clean.f k a0_0 l0_1).bind fun v3 => (if v3.1 = true then ((nat_Print.f k v3.2).bind fun v9 => (if (⟨#[45]⟩ : ByteArray).size + v9.size ≤ 9223372036854775807 then (some ((⟨#[45]⟩ : ByteArray) ++ v9)) else none)) else ((nat_Print.f k v3.2).bind fun v9 => (some v9)))

def ratio_Print.f (k : Nat) (a0_0 : Bool) (l0_1 : List Int) (l0_2 : List Int) : Option (ByteArray) := (ratio_Clean.f k a0_0 l0_1 l0_2).bind fun v3 => ((whole_Print.f k v3.1 v3.2.1).bind fun v7 => ((nat_Of.f k 1).bind fun v11 => ((nat_Cmp.f k v3.2.2 v11).bind fun v12 => (if v12 = 0 then (some v7) else (if v7.size + (⟨#[47]⟩ : ByteArray).size ≤ 9223372036854775807 then ((nat_Print.f k v3.2.2).bind fun v18 => (if (v7 ++ (⟨#[47]⟩ : ByteArray)).size + v18.size ≤ 9223372036854775807 then (some ((v7 ++ (⟨#[47]⟩ : ByteArray)) ++ v18)) else none)) else none)))))

def dendronlaw03_awake.f (k : Nat) : Option (Bool) := (ratio_Parse.f k (⟨#[45, 49, 46, 53, 48]⟩ : ByteArray)).bind fun v1 => ((ratio_Frac.f k 3 10).bind fun v8 => ((ratio_Frac.f k 1 2).bind fun v9 => ((ratio_Simplest.f k v8.1 v8.2.1 v8.2.2 v9.1 v9.2.1 v9.2.2).bind fun v10 => ((ratio_Frac.f k 22 7).bind fun v17 => ((ratio_Near.f k v17.1 v17.2.1 v17.2.2 3).bind fun v18 => ((ratio_Frac.f k 1 8).bind fun v25 => ((ratio_Decimal.f k v25.1 v25.2.1 v25.2.2 2).bind fun v26 => (if v1.2.2.2 = 0 then (if v10.2.2.2 = 0 then (if v18.2.2.2 = 0 then (if v26.2 = 0 then ((ratio_Print.f k v1.1 v1.2.1 v1.2.2.1).bind fun v48 => (if v48 = (⟨#[45, 51, 47, 50]⟩ : ByteArray) then ((ratio_Print.f k v10.1 v10.2.1 v10.2.2.1).bind fun v53 => (if v53 = (⟨#[49, 47, 50]⟩ : ByteArray) then ((ratio_Print.f k v18.1 v18.2.1 v18.2.2.1).bind fun v58 => (if v58 = (⟨#[51]⟩ : ByteArray) then (some (v26.1.toList == (⟨#[48, 46, 49, 50]⟩ : ByteArray).toList)) else (some false))) else (some false))) else (some false))) else (some false)) else (some false)) else (some false)) else (some false)))))))))

def dendronref02_Minus.f (a0_0 : Bool) (l0_1 : List Int) : Option (Bool × List Int) := (dendronref02_Make.f (!a0_0) l0_1).bind fun v7 => (some (v7.1, v7.2))

def dendronref02_Plus.f (k : Nat) (a0_0 : Bool) (l0_1 : List Int) (a1_0 : Bool) (l1_1 : List Int) : Option (Bool × List Int) := if a0_0 = a1_0 then ((dendronref01_Plus.f k l0_1 l1_1).bind fun v14 => ((dendronref02_Make.f a0_0 v14).bind fun v15 => (some (v15.1, v15.2)))) else ((dendronref01_Order.f k l0_1 l1_1).bind fun v12 => (if v12 < 0 then ((dendronref01_Minus.f k l1_1 l0_1).bind fun v20 => ((dendronref02_Make.f a1_0 v20).bind fun v21 => (some (v21.1, v21.2)))) else ((dendronref01_Minus.f k l0_1 l1_1).bind fun v20 => ((dendronref02_Make.f a0_0 v20).bind fun v21 => (some (v21.1, v21.2))))))

def dendronref02_Over.f (k : Nat) (a0_0 : Bool) (l0_1 : List Int) (a1_0 : Bool) (l1_1 : List Int) : Option (Bool × List Int × Bool × List Int) := (dendronref01_Over.f k l0_1 l1_1).bind fun v8 => ((dendronref02_Make.f (!(a0_0 == a1_0)) v8.1).bind fun v20 => (if a0_0 ≠ a1_0 then (if (v8.2.length : Int) > 0 then ((dendronref02_Small.f k (-1)).bind fun v34 => ((dendronref02_Plus.f k v20.1 v20.2 v34.1 v34.2).bind fun v35 => ((dendronref02_Times.f k v35.1 v35.2 a1_0 l1_1).bind fun v41 => ((dendronref02_Minus.f v41.1 v41.2).bind fun v42 => ((dendronref02_Plus.f k a0_0 l0_1 v42.1 v42.2).bind fun v43 => (some (v35.1, v35.2, v43.1, v43.2))))))) else ((dendronref02_Times.f k v20.1 v20.2 a1_0 l1_1).bind fun v37 => ((dendronref02_Minus.f v37.1 v37.2).bind fun v38 => ((dendronref02_Plus.f k a0_0 l0_1 v38.1 v38.2).bind fun v39 => (some (v20.1, v20.2, v39.1, v39.2)))))) else ((dendronref02_Times.f k v20.1 v20.2 a1_0 l1_1).bind fun v37 => ((dendronref02_Minus.f v37.1 v37.2).bind fun v38 => ((dendronref02_Plus.f k a0_0 l0_1 v38.1 v38.2).bind fun v39 => (some (v20.1, v20.2, v39.1, v39.2)))))))

def dendronref03_Floor.f (k : Nat) (a0_0 : Bool) (l0_1 : List Int) (l0_2 : List Int) : Option (Bool × List Int) := (dendronref03_den.f a0_0 l0_1 l0_2).bind fun v5 => ((dendronref02_Over.f k a0_0 l0_1 v5.1 v5.2).bind fun v6 => (some (v6.1, v6.2.1)))

def dendronref02_Is.f (k : Nat) (a0_0 : Bool) (l0_1 : List Int) (a1_0 : Bool) (l1_1 : List Int) : Option (Bool) := (dendronref01_Right.f k l0_1).bind fun v5 => (if v5 = true then (if (l0_1.length : Int) > 0 then ((dendronref02_From.f k a0_0 l0_1).bind fun v19 => ((dendronref02_Order.f k v19.1 v19.2 a1_0 l1_1).bind fun v21 => (some (v21 == 0)))) else (if a0_0 = true then (some false) else ((dendronref02_From.f k a0_0 l0_1).bind fun v19 => ((dendronref02_Order.f k v19.1 v19.2 a1_0 l1_1).bind fun v21 => (some (v21 == 0)))))) else (some false))

def ratio_Unfold.l0 : Nat → (List (Bool × List Int)) → Int → Bool → Bool → List Int → List Int → Option (Bool × List Int × List Int × Int)
  | 0, _, _, _, _, _, _ => none
  | k + 1, x0, x5, b2_0, b4_0, b4_1, b4_2 => if x5 ≥ 0 then ((ratio_Sign.f k b4_0 b4_1 b4_2).bind fun v3 => (if v3 = 0 then (some (false, ([] : List Int), ([] : List Int), 2)) else (if x5 < (x0.length : Int) then ((ratio_Int.f k ((gt (false, []) x0 x5).1) ((gt (false, []) x0 x5).2)).bind fun v9 => ((ratio_One.f k).bind fun v10 => ((ratio_over.f k v10.1 v10.2.1 v10.2.2 b4_0 b4_1 b4_2).bind fun v12 => ((ratio_Add.f k v9.1 v9.2.1 v9.2.2 v12.1 v12.2.1 v12.2.2).bind fun v13 => (ratio_Unfold.l0 k x0 (wrap64 (x5 - 1)) b2_0 v13.1 v13.2.1 v13.2.2))))) else none))) else (some (b4_0, b4_1, b4_2, 0))
def ratio_Unfold.f (k : Nat) (l0 : List (Bool × List Int)) : Option (Bool × List Int × List Int × Int) := if (l0.length : Int) = 0 then (some (false, ([] : List Int), ([] : List Int), 15)) else (if 0 ≤ (wrap64 ((l0.length : Int) - 1)) then (if (wrap64 ((l0.length : Int) - 1)) < (l0.length : Int) then ((ratio_Int.f k ((gt (false, []) l0 (wrap64 ((l0.length : Int) - 1))).1) ((gt (false, []) l0 (wrap64 ((l0.length : Int) - 1))).2)).bind fun v11 => (ratio_Unfold.l0 k l0 (wrap64 ((l0.length : Int) - 2)) false v11.1 v11.2.1 v11.2.2)) else none) else none)

def ratio_Fold.l0 : Nat → (List (Bool × List Int)) → Bool → List Int → List Int → Option (List (Bool × List Int))
  | 0, _, _, _, _ => none
  | k + 1, x3, b1_0, b1_1, b1_2 => (ratio_Floor.f k b1_0 b1_1 b1_2).bind fun v1 => (if x3.length < 4398046511104 then ((ratio_Int.f k v1.1 v1.2).bind fun v11 => ((ratio_Sub.f k b1_0 b1_1 b1_2 v11.1 v11.2.1 v11.2.2).bind fun v12 => ((ratio_Sign.f k v12.1 v12.2.1 v12.2.2).bind fun v15 => (if v15 = 0 then (some (x3 ++ [(v1.1, v1.2)])) else ((ratio_One.f k).bind fun v17 => ((ratio_over.f k v17.1 v17.2.1 v17.2.2 v12.1 v12.2.1 v12.2.2).bind fun v19 => (ratio_Fold.l0 k (x3 ++ [(v1.1, v1.2)]) v19.1 v19.2.1 v19.2.2))))))) else none)
def ratio_Fold.f (k : Nat) (a0_0 : Bool) (l0_1 : List Int) (l0_2 : List Int) : Option (List (Bool × List Int)) := (ratio_Clean.f k a0_0 l0_1 l0_2).bind fun v3 => (ratio_Fold.l0 k ([] : List (Bool × List Int)) v3.1 v3.2.1 v3.2.2)

def dendronlaw03_RatioFolds.l0 : Nat → (List (Bool × List Int)) → Int → Option (Bool)
  | 0, _, _ => none
  | k + 1, x3, x6 => if x6 < (x3.length : Int) then (if 0 ≤ x6 then ((dendronref02_From.f k ((gt (false, []) x3 x6).1) ((gt (false, []) x3 x6).2)).bind fun v8 => (if v8.1 = true then (some false) else (if (v8.2.length : Int) = 0 then (some false) else (if x6 = (wrap64 ((x3.length : Int) - 1)) then ((dendronref01_Small.f k 1).bind fun v28 => ((dendronref01_Order.f k v8.2 v28).bind fun v29 => (if v29 = 0 then (some false) else (dendronlaw03_RatioFolds.l0 k x3 (wrap64 (x6 + 1)))))) else (dendronlaw03_RatioFolds.l0 k x3 (wrap64 (x6 + 1))))))) else none) else ((dendronlaw03_awake.f k).bind fun v4 => (some v4))
def dendronlaw03_RatioFolds.f (k : Nat) (a0_0 : Bool) (l0_1 : List Int) (l0_2 : List Int) : Option (Bool) := (dendronlaw03_few.f a0_0 l0_1 l0_2).bind fun v3 => ((ratio_Fold.f k v3.1 v3.2.1 v3.2.2).bind fun v6 => ((ratio_Unfold.f k v6).bind fun v9 => (if (v6.length : Int) = 0 then (some false) else (if v9.2.2.2 ≠ 0 then (some false) else ((dendronref03_From.f k v3.1 v3.2.1 v3.2.2).bind fun v26 => ((dendronref03_Is.f k v9.1 v9.2.1 v9.2.2.1 v26.1 v26.2.1 v26.2.2).bind fun v27 => (if v27 = true then (if 0 < (v6.length : Int) then ((dendronref03_From.f k v3.1 v3.2.1 v3.2.2).bind fun v35 => ((dendronref03_Floor.f k v35.1 v35.2.1 v35.2.2).bind fun v36 => ((dendronref02_Is.f k ((gt (false, []) v6 0).1) ((gt (false, []) v6 0).2) v36.1 v36.2).bind fun v37 => (if v37 = true then (dendronlaw03_RatioFolds.l0 k v6 1) else (some false))))) else none) else (some false))))))))
end Go.DI
