/- What the functions compute, as plain functions of data. No condition. -/
import Derived.Test.YtnmpjinieiopaaaDoorDIa
set_option linter.all false
namespace Go.DI
open Go Go.RowKit
set_option linter.unusedVariables false
def tab_deBruijn64tab : List Int := [0, 1, 56, 2, 57, 49, 28, 3, 61, 58, 42, 50, 38, 29, 17, 4, 62, 47, 59, 36, 45, 43, 51, 22, 53, 39, 33, 30, 24, 18, 12, 5, 63, 55, 48, 27, 60, 41, 37, 16, 46, 35, 44, 21, 52, 32, 23, 11, 54, 26, 40, 15, 34, 20, 31, 10, 25, 14, 19, 9, 13, 8, 7, 6]

def lex_blank.f (a0 : Int) : Option (Bool) := if a0 = 32 then (some true) else (if a0 = 9 then (some true) else (some (a0 == 13)))

def lex_plain.f (a0 : Int) : Option (Bool) := if a0 > 32 then (some (decide (a0 < 127))) else (some false)

mutual
def lex_Words.l0 : Nat → ByteArray → (List (Int × Int × ByteArray)) → Int → Option (List (Int × Int × ByteArray) × Int × Int)
  | 0, _, _, _ => none
  | k + 1, x0, x5, x6 => if x6 < (x0.size : Int) then (if 0 ≤ x6 then ((lex_blank.f (bt x0 x6)).bind fun v9 => (if v9 = true then (lex_Words.l0 k x0 x5 (wrap64 (x6 + 1))) else (if (bt x0 x6) = 35 then (some (x5, 0, 0)) else ((lex_plain.f (bt x0 x6)).bind fun v15 => (if v15 = true then (if (x5.length : Int) ≥ 4096 then (some (([] : List (Int × Int × ByteArray)), x6, 16)) else (lex_Words.l1 k x0 x5 x6 x6)) else (some (([] : List (Int × Int × ByteArray)), x6, 4))))))) else none) else (some (x5, 0, 0))
def lex_Words.l1 : Nat → ByteArray → (List (Int × Int × ByteArray)) → Int → Int → Option (List (Int × Int × ByteArray) × Int × Int)
  | 0, _, _, _, _ => none
  | k + 1, x0, x5, x6, x8 => if x8 < (x0.size : Int) then (if 0 ≤ x8 then ((lex_plain.f (bt x0 x8)).bind fun v8 => (if v8 = true then (if (bt x0 x8) ≠ 35 then (lex_Words.l1 k x0 x5 x6 (wrap64 (x8 + 1))) else (if 0 ≤ x6 then (if x6 ≤ x8 then (if x8 ≤ (x0.size : Int) then (if x5.length < 4398046511104 then (lex_Words.l0 k x0 (x5 ++ [(x6, 0, (x0.extract ((x6 : Int).toNat) ((x8 : Int).toNat)))]) x8) else none) else none) else none) else none)) else (if 0 ≤ x6 then (if x6 ≤ x8 then (if x8 ≤ (x0.size : Int) then (if x5.length < 4398046511104 then (lex_Words.l0 k x0 (x5 ++ [(x6, 0, (x0.extract ((x6 : Int).toNat) ((x8 : Int).toNat)))]) x8) else none) else none) else none) else none))) else none) else (if 0 ≤ x6 then (if x6 ≤ x8 then (if x8 ≤ (x0.size : Int) then (if x5.length < 4398046511104 then (lex_Words.l0 k x0 (x5 ++ [(x6, 0, (x0.extract ((x6 : Int).toNat) ((x8 : Int).toNat)))]) x8) else none) else none) else none) else none)
end
def lex_Words.f (k : Nat) (a0 : ByteArray) : Option (List (Int × Int × ByteArray) × Int × Int) := lex_Words.l0 k a0 ([] : List (Int × Int × ByteArray)) 0

def stringslite_HasPrefix.f (a0 : ByteArray) (a1 : ByteArray) : Option (Bool) := if (a0.size : Int) ≥ (a1.size : Int) then (if 0 ≤ (a1.size : Int) then (some ((a0.extract 0 (((a1.size : Int) : Int).toNat)).toList == a1.toList)) else none) else (some false)

def strings_HasPrefix.f (a0 : ByteArray) (a1 : ByteArray) : Option (Bool) := (stringslite_HasPrefix.f a0 a1).bind fun v3 => (some v3)

def nat_trim.l0 : Nat → List Int → Int → Option (List Int)
  | 0, _, _ => none
  | k + 1, x0, x3 => if x3 > 0 then (if 0 ≤ (wrap64 (x3 - 1)) then (if (wrap64 (x3 - 1)) < (x0.length : Int) then (if (rd x0 (wrap64 (x3 - 1))) = 0 then (nat_trim.l0 k x0 (wrap64 (x3 - 1))) else (if x3 = 0 then (some ([] : List Int)) else (if 0 ≤ x3 then (if x3 ≤ (x0.length : Int) then (some (x0.take ((x3 : Int).toNat))) else none) else none))) else none) else none) else (if x3 = 0 then (some ([] : List Int)) else (if 0 ≤ x3 then (if x3 ≤ (x0.length : Int) then (some (x0.take ((x3 : Int).toNat))) else none) else none))
def nat_trim.f (k : Nat) (l0 : List Int) : Option (List Int) := nat_trim.l0 k l0 (l0.length : Int)

def nat_Of.f (k : Nat) (a0 : Int) : Option (List Int) := (nat_trim.f k ([(Go.bits .and .u64 a0 4294967295), (a0 / 4294967296)] : List Int)).bind fun v6 => (some v6)

def nat_Clean.l0 : Nat → List Int → List Int → Int → Int → Option (List Int)
  | 0, _, _, _, _ => none
  | k + 1, x3, x9, x10, x11 => if x11 < x10 then (if 0 ≤ x11 then (if x11 < (x9.length : Int) then (if x11 < (x3.length : Int) then (nat_Clean.l0 k (x3.set ((x11 : Int).toNat) (Go.bits .and .u64 (rd x9 x11) 4294967295)) x9 x10 (wrap64 (x11 + 1))) else none) else none) else none) else ((nat_trim.f k x3).bind fun v2 => (some v2))
def nat_Clean.f (k : Nat) (l0 : List Int) : Option (List Int) := if ((l0.length : Int) : Int).toNat ≤ 35184372088832 then (nat_Clean.l0 k (List.replicate (((l0.length : Int) : Int).toNat) 0 : List Int) l0 (l0.length : Int) 0) else none

def nat_order.l0 : Nat → List Int → List Int → Int → Option (Int)
  | 0, _, _, _ => none
  | k + 1, x0, x1, x5 => if x5 ≥ 0 then (if x5 < (x0.length : Int) then (if x5 < (x1.length : Int) then (if (rd x0 x5) < (rd x1 x5) then (some (-1)) else (if (rd x0 x5) > (rd x1 x5) then (some 1) else (nat_order.l0 k x0 x1 (wrap64 (x5 - 1))))) else none) else none) else (some 0)
def nat_order.f (k : Nat) (l0 : List Int) (l1 : List Int) : Option (Int) := if (l0.length : Int) < (l1.length : Int) then (some (-1)) else (if (l0.length : Int) > (l1.length : Int) then (some 1) else (nat_order.l0 k l0 l1 (wrap64 ((l0.length : Int) - 1))))

def nat_To.f (k : Nat) (l0 : List Int) : Option (Int × Bool) := (nat_Clean.f k l0).bind fun v3 => (if (v3.length : Int) = 0 then (some (0, true)) else (if (v3.length : Int) = 1 then (if 0 < (v3.length : Int) then (some ((rd v3 0), true)) else none) else (if (v3.length : Int) = 2 then (if 1 < (v3.length : Int) then (if 0 < (v3.length : Int) then (some ((Go.bits .or .u64 (IntKind.u64.wrap ((rd v3 1) * 4294967296)) (rd v3 0)), true)) else none) else none) else (some (0, false)))))

def nat_euclid.l0 : Nat → Int → Int → Option (List Int)
  | 0, _, _ => none
  | k + 1, x5, x7 => if x7 ≠ 0 then (if x7 = 0 then none else (nat_euclid.l0 k x7 (Int.tmod x5 x7))) else ((nat_Of.f k x5).bind fun v3 => (some v3))
def nat_euclid.f (k : Nat) (l0 : List Int) (l1 : List Int) : Option (List Int) := (nat_To.f k l0).bind fun v2 => ((nat_To.f k l1).bind fun v9 => (nat_euclid.l0 k v2.1 v9.1))

def bits_TrailingZeros64.f (a0 : Int) : Option (Int) := if a0 = 0 then (some 64) else (if 0 ≤ ((IntKind.u64.wrap ((Go.bits .and .u64 a0 (IntKind.u64.wrap (0 - a0))) * 285870213051353865)) / 288230376151711744) then (if ((IntKind.u64.wrap ((Go.bits .and .u64 a0 (IntKind.u64.wrap (0 - a0))) * 285870213051353865)) / 288230376151711744) < 64 then (some (wrap64 ((rd tab_deBruijn64tab ((IntKind.u64.wrap ((Go.bits .and .u64 a0 (IntKind.u64.wrap (0 - a0))) * 285870213051353865)) / 288230376151711744))))) else none) else none)

def nat_zeros.l0 : Nat → Int → List Int → Int → Int → Option (Int)
  | 0, _, _, _, _ => none
  | k + 1, x3, x6, x7, x8 => if x8 < x7 then (if 0 ≤ x8 then (if x8 < (x6.length : Int) then (if (rd x6 x8) ≠ 0 then ((bits_TrailingZeros64.f (rd x6 x8)).bind fun v11 => (some (wrap64 ((wrap64 (32 * x8)) + v11)))) else (nat_zeros.l0 k (wrap64 (x3 + 32)) x6 x7 (wrap64 (x8 + 1)))) else none) else none) else (some x3)
def nat_zeros.f (k : Nat) (l0 : List Int) : Option (Int) := nat_zeros.l0 k 0 l0 (l0.length : Int) 0

def nat_limb.f (l0 : List Int) (a1 : Int) : Option (Int) := if a1 < (l0.length : Int) then (if 0 ≤ a1 then (some (rd l0 a1)) else none) else (some 0)

def nat_shr.l0 : Nat → List Int → Int → Int → List Int → Int → Int → Option (List Int)
  | 0, _, _, _, _, _, _ => none
  | k + 1, x0, x5, x6, x7, x23, x24 => if x24 < x23 then ((nat_limb.f x0 (wrap64 ((wrap64 (x24 + x5)) + 1))).bind fun v10 => (if 0 ≤ (wrap64 (x24 + x5)) then (if (wrap64 (x24 + x5)) < (x0.length : Int) then (if 0 ≤ x6 then (if 0 ≤ x24 then (if x24 < (x7.length : Int) then (nat_shr.l0 k x0 x5 x6 (x7.set ((x24 : Int).toNat) (Go.bits .and .u64 (shr .u64 (Go.bits .or .u64 (IntKind.u64.wrap (v10 * 4294967296)) (rd x0 (wrap64 (x24 + x5)))) x6) 4294967295)) x23 (wrap64 (x24 + 1))) else none) else none) else none) else none) else none)) else ((nat_trim.f k x7).bind fun v2 => (some v2))
def nat_shr.f (k : Nat) (l0 : List Int) (a1 : Int) : Option (List Int) := if (wrap64 (Int.tdiv a1 32)) ≥ (l0.length : Int) then (some ([] : List Int)) else (if 0 ≤ (wrap64 ((l0.length : Int) - (wrap64 (Int.tdiv a1 32)))) then (if ((wrap64 ((l0.length : Int) - (wrap64 (Int.tdiv a1 32)))) : Int).toNat ≤ 35184372088832 then (nat_shr.l0 k l0 (wrap64 (Int.tdiv a1 32)) (Int.tmod a1 32) (List.replicate (((wrap64 ((l0.length : Int) - (wrap64 (Int.tdiv a1 32)))) : Int).toNat) 0 : List Int) ((List.replicate (((wrap64 ((l0.length : Int) - (wrap64 (Int.tdiv a1 32)))) : Int).toNat) 0 : List Int).length : Int) 0) else none) else none)

def nat_trimM.l0 : Nat → List Int → Int → Option (List Int)
  | 0, _, _ => none
  | k + 1, x0, x3 => if x3 > 0 then (if 0 ≤ (wrap64 (x3 - 1)) then (if (wrap64 (x3 - 1)) < (x0.length : Int) then (if (rd x0 (wrap64 (x3 - 1))) = 0 then (nat_trimM.l0 k x0 (wrap64 (x3 - 1))) else (if x3 = 0 then (some ([] : List Int)) else (if 0 ≤ x3 then (if x3 ≤ (x0.length : Int) then (some (x0.take ((x3 : Int).toNat))) else none) else none))) else none) else none) else (if x3 = 0 then (some ([] : List Int)) else (if 0 ≤ x3 then (if x3 ≤ (x0.length : Int) then (some (x0.take ((x3 : Int).toNat))) else none) else none))
def nat_trimM.f (k : Nat) (l0 : List Int) : Option (List Int) := nat_trimM.l0 k l0 (l0.length : Int)

def nat_shl.l0 : Nat → Int → Int → List Int → List Int → Int → Int → Option (List Int)
  | 0, _, _, _, _, _, _ => none
  | k + 1, x5, x6, x7, x20, x21, x22 => if x22 < x21 then (if 0 ≤ x22 then (if x22 < (x20.length : Int) then (if 0 ≤ x6 then (if 0 ≤ (wrap64 (x22 + x5)) then (if (wrap64 (x22 + x5)) < (x7.length : Int) then (if 0 ≤ (wrap64 ((wrap64 (x22 + x5)) + 1)) then (if (wrap64 ((wrap64 (x22 + x5)) + 1)) < ((x7.set (((wrap64 (x22 + x5)) : Int).toNat) (Go.bits .or .u64 (rd x7 (wrap64 (x22 + x5))) (Go.bits .and .u64 (shl .u64 (rd x20 x22) x6) 4294967295))).length : Int) then (nat_shl.l0 k x5 x6 ((x7.set (((wrap64 (x22 + x5)) : Int).toNat) (Go.bits .or .u64 (rd x7 (wrap64 (x22 + x5))) (Go.bits .and .u64 (shl .u64 (rd x20 x22) x6) 4294967295))).set (((wrap64 ((wrap64 (x22 + x5)) + 1)) : Int).toNat) ((shl .u64 (rd x20 x22) x6) / 4294967296)) x20 x21 (wrap64 (x22 + 1))) else none) else none) else none) else none) else none) else none) else none) else ((nat_trimM.f k x7).bind fun v2 => (some v2))
def nat_shl.f (k : Nat) (l0 : List Int) (a1 : Int) : Option (List Int) := if 0 ≤ (wrap64 ((wrap64 ((l0.length : Int) + (wrap64 (Int.tdiv a1 32)))) + 1)) then (if ((wrap64 ((wrap64 ((l0.length : Int) + (wrap64 (Int.tdiv a1 32)))) + 1)) : Int).toNat ≤ 35184372088832 then (nat_shl.l0 k (wrap64 (Int.tdiv a1 32)) (Int.tmod a1 32) (List.replicate (((wrap64 ((wrap64 ((l0.length : Int) + (wrap64 (Int.tdiv a1 32)))) + 1)) : Int).toNat) 0 : List Int) l0 (l0.length : Int) 0) else none) else none

def nat_small.l0 : Nat → List Int → Int → List Int → Int → Int → Option (List Int × Int)
  | 0, _, _, _, _, _ => none
  | k + 1, x0, x1, x6, x7, x8 => if x8 ≥ 0 then (if x8 < (x0.length : Int) then (if x1 = 0 then none else (if x8 < (x6.length : Int) then (nat_small.l0 k x0 x1 (x6.set ((x8 : Int).toNat) (IntKind.u64.wrap (Int.tdiv (Go.bits .or .u64 (IntKind.u64.wrap (x7 * 4294967296)) (rd x0 x8)) x1))) (Int.tmod (Go.bits .or .u64 (IntKind.u64.wrap (x7 * 4294967296)) (rd x0 x8)) x1) (wrap64 (x8 - 1))) else none)) else none) else ((nat_trim.f k x6).bind fun v3 => (some (v3, x7)))
def nat_small.f (k : Nat) (l0 : List Int) (a1 : Int) : Option (List Int × Int) := if ((l0.length : Int) : Int).toNat ≤ 35184372088832 then (nat_small.l0 k l0 a1 (List.replicate (((l0.length : Int) : Int).toNat) 0 : List Int) 0 (wrap64 ((l0.length : Int) - 1))) else none

def cst_len8 : ByteArray := (⟨#[0, 1, 2, 2, 3, 3, 3, 3, 4, 4, 4, 4, 4, 4, 4, 4, 5, 5, 5, 5, 5, 5, 5, 5, 5, 5, 5, 5, 5, 5, 5, 5, 6, 6, 6, 6, 6, 6, 6, 6, 6, 6, 6, 6, 6, 6, 6, 6, 6, 6, 6, 6, 6, 6, 6, 6, 6, 6, 6, 6, 6, 6, 6, 6, 7, 7, 7, 7, 7, 7, 7, 7, 7, 7, 7, 7, 7, 7, 7, 7, 7, 7, 7, 7, 7, 7, 7, 7, 7, 7, 7, 7, 7, 7, 7, 7, 7, 7, 7, 7, 7, 7, 7, 7, 7, 7, 7, 7, 7, 7, 7, 7, 7, 7, 7, 7, 7, 7, 7, 7, 7, 7, 7, 7, 7, 7, 7, 7, 8, 8, 8, 8, 8, 8, 8, 8, 8, 8, 8, 8, 8, 8, 8, 8, 8, 8, 8, 8, 8, 8, 8, 8, 8, 8, 8, 8, 8, 8, 8, 8, 8, 8, 8, 8, 8, 8, 8, 8, 8, 8, 8, 8, 8, 8, 8, 8, 8, 8, 8, 8, 8, 8, 8, 8, 8, 8, 8, 8, 8, 8, 8, 8, 8, 8, 8, 8, 8, 8, 8, 8, 8, 8, 8, 8, 8, 8, 8, 8, 8, 8, 8, 8, 8, 8, 8, 8, 8, 8, 8, 8, 8, 8, 8, 8, 8, 8, 8, 8, 8, 8, 8, 8, 8, 8, 8, 8, 8, 8, 8, 8, 8, 8, 8, 8, 8, 8, 8, 8, 8, 8, 8, 8, 8, 8, 8, 8]⟩ : ByteArray)

def bits_Len32.f (a0 : Int) : Option (Int) := if a0 ≥ 65536 then (if (a0 / 65536) ≥ 256 then (if 0 ≤ (IntKind.u8.wrap (((a0 / 65536) / 256))) then (if (IntKind.u8.wrap (((a0 / 65536) / 256))) < (cst_len8.size : Int) then (some (wrap64 ((wrap64 (16 + 8)) + (wrap64 ((bt cst_len8 (IntKind.u8.wrap (((a0 / 65536) / 256))))))))) else none) else none) else (if 0 ≤ (IntKind.u8.wrap ((a0 / 65536))) then (if (IntKind.u8.wrap ((a0 / 65536))) < (cst_len8.size : Int) then (some (wrap64 (16 + (wrap64 ((bt cst_len8 (IntKind.u8.wrap ((a0 / 65536))))))))) else none) else none)) else (if a0 ≥ 256 then (if 0 ≤ (IntKind.u8.wrap ((a0 / 256))) then (if (IntKind.u8.wrap ((a0 / 256))) < (cst_len8.size : Int) then (some (wrap64 ((wrap64 (0 + 8)) + (wrap64 ((bt cst_len8 (IntKind.u8.wrap ((a0 / 256))))))))) else none) else none) else (if 0 ≤ (IntKind.u8.wrap (a0)) then (if (IntKind.u8.wrap (a0)) < (cst_len8.size : Int) then (some (wrap64 (0 + (wrap64 ((bt cst_len8 (IntKind.u8.wrap (a0)))))))) else none) else none))

def bits_LeadingZeros32.f (a0 : Int) : Option (Int) := (bits_Len32.f a0).bind fun v2 => (some (wrap64 (32 - v2)))

def nat_take.l0 : Nat → List Int → List Int → Int → Int → Int → Int → Int → Option (Bool × List Int)
  | 0, _, _, _, _, _, _, _ => none
  | k + 1, x0, x1, x2, x7, x8, x12, x13 => if x13 < x12 then ((nat_limb.f x1 x13).bind fun v7 => (if 0 ≤ x13 then (if x13 < (x0.length : Int) then (nat_take.l0 k (x0.set ((x13 : Int).toNat) (Go.bits .and .u64 (IntKind.u64.wrap ((IntKind.u64.wrap ((IntKind.u64.wrap (4294967296 + (rd x0 x13))) - (Go.bits .and .u64 (IntKind.u64.wrap (x7 + (IntKind.u64.wrap (x2 * v7)))) 4294967295))) - x8)) 4294967295)) x1 x2 ((IntKind.u64.wrap (x7 + (IntKind.u64.wrap (x2 * v7)))) / 4294967296) (IntKind.u64.wrap (1 - ((IntKind.u64.wrap ((IntKind.u64.wrap ((IntKind.u64.wrap (4294967296 + (rd x0 x13))) - (Go.bits .and .u64 (IntKind.u64.wrap (x7 + (IntKind.u64.wrap (x2 * v7)))) 4294967295))) - x8)) / 4294967296))) x12 (wrap64 (x13 + 1))) else none) else none)) else (some ((x8 == 1), x0))
def nat_take.f (k : Nat) (l0 : List Int) (l1 : List Int) (a2 : Int) : Option (Bool × List Int) := nat_take.l0 k l0 l1 a2 0 0 (l0.length : Int) 0

def nat_give.l0 : Nat → List Int → List Int → Int → Int → Int → Option (List Int)
  | 0, _, _, _, _, _ => none
  | k + 1, x0, x1, x4, x7, x8 => if x8 < x7 then (if 0 ≤ x8 then (if x8 < (x0.length : Int) then ((nat_limb.f x1 x8).bind fun v10 => (nat_give.l0 k (x0.set ((x8 : Int).toNat) (Go.bits .and .u64 (IntKind.u64.wrap (x4 + (IntKind.u64.wrap ((rd x0 x8) + v10)))) 4294967295)) x1 ((IntKind.u64.wrap (x4 + (IntKind.u64.wrap ((rd x0 x8) + v10)))) / 4294967296) x7 (wrap64 (x8 + 1)))) else none) else none) else (some x0)
def nat_give.f (k : Nat) (l0 : List Int) (l1 : List Int) : Option (List Int) := nat_give.l0 k l0 l1 0 (l0.length : Int) 0

def nat_digit.l0 : Nat → List Int → List Int → Int → Int → Int → Option (Int × List Int)
  | 0, _, _, _, _, _ => none
  | k + 1, x0, x1, x5, x7, x8 => if x7 ≥ 4294967296 then (if 0 ≤ (wrap64 (x5 - 1)) then (if (wrap64 (x5 - 1)) < (x1.length : Int) then (if (IntKind.u64.wrap (x8 + (rd x1 (wrap64 (x5 - 1))))) ≥ 4294967296 then ((nat_take.f k x0 x1 (IntKind.u64.wrap (x7 - 1))).bind fun (v36_0, v36_1) => (if v36_1.length = x0.length then (if v36_0 = true then (if v36_1.length = x0.length then ((nat_give.f k v36_1 x1).bind fun v42 => (if v42.length = v36_1.length then (some ((IntKind.u64.wrap ((IntKind.u64.wrap (x7 - 1)) - 1)), v42)) else none)) else none) else (if v36_1.length = x0.length then (some ((IntKind.u64.wrap (x7 - 1)), v36_1)) else none)) else none)) else (nat_digit.l0 k x0 x1 x5 (IntKind.u64.wrap (x7 - 1)) (IntKind.u64.wrap (x8 + (rd x1 (wrap64 (x5 - 1))))))) else none) else none) else (if 0 ≤ (wrap64 (x5 - 2)) then (if (wrap64 (x5 - 2)) < (x1.length : Int) then (if (wrap64 (x5 - 2)) < (x0.length : Int) then (if (IntKind.u64.wrap (x7 * (rd x1 (wrap64 (x5 - 2))))) > (Go.bits .or .u64 (IntKind.u64.wrap (x8 * 4294967296)) (rd x0 (wrap64 (x5 - 2)))) then (if 0 ≤ (wrap64 (x5 - 1)) then (if (wrap64 (x5 - 1)) < (x1.length : Int) then (if (IntKind.u64.wrap (x8 + (rd x1 (wrap64 (x5 - 1))))) ≥ 4294967296 then ((nat_take.f k x0 x1 (IntKind.u64.wrap (x7 - 1))).bind fun (v36_0, v36_1) => (if v36_1.length = x0.length then (if v36_0 = true then (if v36_1.length = x0.length then ((nat_give.f k v36_1 x1).bind fun v42 => (if v42.length = v36_1.length then (some ((IntKind.u64.wrap ((IntKind.u64.wrap (x7 - 1)) - 1)), v42)) else none)) else none) else (if v36_1.length = x0.length then (some ((IntKind.u64.wrap (x7 - 1)), v36_1)) else none)) else none)) else (nat_digit.l0 k x0 x1 x5 (IntKind.u64.wrap (x7 - 1)) (IntKind.u64.wrap (x8 + (rd x1 (wrap64 (x5 - 1))))))) else none) else none) else ((nat_take.f k x0 x1 x7).bind fun (v23_0, v23_1) => (if v23_1.length = x0.length then (if v23_0 = true then (if v23_1.length = x0.length then ((nat_give.f k v23_1 x1).bind fun v29 => (if v29.length = v23_1.length then (some ((IntKind.u64.wrap (x7 - 1)), v29)) else none)) else none) else (if v23_1.length = x0.length then (some (x7, v23_1)) else none)) else none))) else none) else none) else none)
def nat_digit.f (k : Nat) (l0 : List Int) (l1 : List Int) : Option (Int × List Int) := if (l1.length : Int) < (l0.length : Int) then (if 0 ≤ (wrap64 ((l1.length : Int) - 1)) then (if (wrap64 ((l1.length : Int) - 1)) < (l0.length : Int) then (if (wrap64 ((l1.length : Int) - 1)) < (l1.length : Int) then (if (rd l1 (wrap64 ((l1.length : Int) - 1))) = 0 then none else (nat_digit.l0 k l0 l1 (l1.length : Int) (IntKind.u64.wrap (Int.tdiv (Go.bits .or .u64 (IntKind.u64.wrap ((rd l0 (l1.length : Int)) * 4294967296)) (rd l0 (wrap64 ((l1.length : Int) - 1)))) (rd l1 (wrap64 ((l1.length : Int) - 1))))) (Int.tmod (Go.bits .or .u64 (IntKind.u64.wrap ((rd l0 (l1.length : Int)) * 4294967296)) (rd l0 (wrap64 ((l1.length : Int) - 1)))) (rd l1 (wrap64 ((l1.length : Int) - 1)))))) else none) else none) else none) else none

def nat_long.l0 : Nat → Int → List Int → List Int → Int → List Int → Int → Option (List Int × List Int)
  | 0, _, _, _, _, _, _ => none
  | k + 1, x6, x7, x8, x9, x10, x11 => if x11 ≥ 0 then (if x11 < (wrap64 ((wrap64 (x11 + x9)) + 1)) then (if (wrap64 ((wrap64 (x11 + x9)) + 1)) ≤ (x8.length : Int) then ((nat_digit.f k ((x8.drop ((x11 : Int).toNat)).take (((wrap64 ((wrap64 (x11 + x9)) + 1)) : Int).toNat - (x11 : Int).toNat)) x7).bind fun v12 => (if v12.2.length = ((x8.drop ((x11 : Int).toNat)).take (((wrap64 ((wrap64 (x11 + x9)) + 1)) : Int).toNat - (x11 : Int).toNat)).length then (if x11 < (x10.length : Int) then (nat_long.l0 k x6 x7 (x8.take ((x11 : Int).toNat) ++ v12.2 ++ x8.drop (((wrap64 ((wrap64 (x11 + x9)) + 1)) : Int).toNat)) x9 (x10.set ((x11 : Int).toNat) v12.1) (wrap64 (x11 - 1))) else none) else none)) else none) else none) else ((nat_trim.f k x10).bind fun v3 => ((nat_trim.f k x8).bind fun v5 => ((nat_shr.f k v5 x6).bind fun v7 => (some (v3, v7)))))
def nat_long.f (k : Nat) (l0 : List Int) (l1 : List Int) : Option (List Int × List Int) := if 0 ≤ (wrap64 ((l1.length : Int) - 1)) then (if (wrap64 ((l1.length : Int) - 1)) < (l1.length : Int) then ((bits_LeadingZeros32.f (IntKind.u32.wrap ((rd l1 (wrap64 ((l1.length : Int) - 1)))))).bind fun v9 => ((nat_shl.f k l1 v9).bind fun v13 => ((nat_shl.f k l0 v9).bind fun v17 => (if v17.length + ([0, 0] : List Int).length < 17592186044417 then (if 0 ≤ (wrap64 ((l0.length : Int) + 1)) then (if (wrap64 ((l0.length : Int) + 1)) ≤ ((v17 ++ ([0, 0] : List Int)).length : Int) then (if 0 ≤ (wrap64 ((((v17 ++ ([0, 0] : List Int)).take (((wrap64 ((l0.length : Int) + 1)) : Int).toNat)).length : Int) - (v13.length : Int))) then (if ((wrap64 ((((v17 ++ ([0, 0] : List Int)).take (((wrap64 ((l0.length : Int) + 1)) : Int).toNat)).length : Int) - (v13.length : Int))) : Int).toNat ≤ 35184372088832 then (nat_long.l0 k v9 v13 ((v17 ++ ([0, 0] : List Int)).take (((wrap64 ((l0.length : Int) + 1)) : Int).toNat)) (v13.length : Int) (List.replicate (((wrap64 ((((v17 ++ ([0, 0] : List Int)).take (((wrap64 ((l0.length : Int) + 1)) : Int).toNat)).length : Int) - (v13.length : Int))) : Int).toNat) 0 : List Int) (wrap64 (((List.replicate (((wrap64 ((((v17 ++ ([0, 0] : List Int)).take (((wrap64 ((l0.length : Int) + 1)) : Int).toNat)).length : Int) - (v13.length : Int))) : Int).toNat) 0 : List Int).length : Int) - 1))) else none) else none) else none) else none) else none)))) else none) else none

def nat_DivMod.f (k : Nat) (l0 : List Int) (l1 : List Int) : Option (List Int × List Int × Int) := (nat_Clean.f k l0).bind fun v4 => ((nat_Clean.f k l1).bind fun v6 => (if (v6.length : Int) = 0 then (some (([] : List Int), ([] : List Int), 2)) else ((nat_order.f k v4 v6).bind fun v15 => (if v15 < 0 then (some (([] : List Int), v4, 0)) else (if (v6.length : Int) = 1 then (if 0 < (v6.length : Int) then ((nat_small.f k v4 (rd v6 0)).bind fun v26 => ((nat_Of.f k v26.2).bind fun v34 => (some (v26.1, v34, 0)))) else none) else ((nat_long.f k v4 v6).bind fun v24 => (some (v24.1, v24.2, 0))))))))

def nat_rest.f (k : Nat) (l0 : List Int) (l1 : List Int) : Option (List Int × List Int) := (nat_DivMod.f k l0 l1).bind fun v4 => (some (v4.1, v4.2.1))

def nat_minus.l0 : Nat → List Int → List Int → List Int → Int → Int → Int → Option (List Int)
  | 0, _, _, _, _, _, _ => none
  | k + 1, x0, x1, x5, x6, x13, x14 => if x14 < x13 then (if 0 ≤ x14 then (if x14 < (x0.length : Int) then ((nat_limb.f x1 x14).bind fun v10 => (if x14 < (x5.length : Int) then (nat_minus.l0 k x0 x1 (x5.set ((x14 : Int).toNat) (Go.bits .and .u64 (IntKind.u64.wrap ((IntKind.u64.wrap ((IntKind.u64.wrap (4294967296 + (rd x0 x14))) - v10)) - x6)) 4294967295)) (IntKind.u64.wrap (1 - ((IntKind.u64.wrap ((IntKind.u64.wrap ((IntKind.u64.wrap (4294967296 + (rd x0 x14))) - v10)) - x6)) / 4294967296))) x13 (wrap64 (x14 + 1))) else none)) else none) else none) else ((nat_trim.f k x5).bind fun v2 => (some v2))
def nat_minus.f (k : Nat) (l0 : List Int) (l1 : List Int) : Option (List Int) := if ((l0.length : Int) : Int).toNat ≤ 35184372088832 then (nat_minus.l0 k l0 l1 (List.replicate (((l0.length : Int) : Int).toNat) 0 : List Int) 0 ((List.replicate (((l0.length : Int) : Int).toNat) 0 : List Int).length : Int) 0) else none

def nat_Gcd.l0 : Nat → List Int → List Int → Int → Int → Option (List Int)
  | 0, _, _, _, _ => none
  | k + 1, x0, x1, x5, x6 => (nat_order.f k x0 x1).bind fun v2 => (if v2 = 0 then ((nat_shl.f k x0 (mn x5 x6)).bind fun v11 => (some v11)) else (if v2 < 0 then (if (x1.length : Int) > (wrap64 ((x0.length : Int) + 1)) then ((nat_rest.f k x1 x0).bind fun v22 => (if (v22.2.length : Int) = 0 then ((nat_shl.f k x0 (mn x5 x6)).bind fun v34 => (some v34)) else ((nat_zeros.f k v22.2).bind fun v32 => ((nat_shr.f k v22.2 v32).bind fun v33 => (nat_Gcd.l0 k v33 x0 x5 x6))))) else ((nat_minus.f k x1 x0).bind fun v22 => ((nat_zeros.f k v22).bind fun v26 => ((nat_shr.f k v22 v26).bind fun v27 => (nat_Gcd.l0 k v27 x0 x5 x6))))) else (if (x0.length : Int) > (wrap64 ((x1.length : Int) + 1)) then ((nat_rest.f k x0 x1).bind fun v18 => (if (v18.2.length : Int) = 0 then ((nat_shl.f k x1 (mn x5 x6)).bind fun v30 => (some v30)) else ((nat_zeros.f k v18.2).bind fun v28 => ((nat_shr.f k v18.2 v28).bind fun v29 => (nat_Gcd.l0 k v29 x1 x5 x6))))) else ((nat_minus.f k x0 x1).bind fun v18 => ((nat_zeros.f k v18).bind fun v22 => ((nat_shr.f k v18 v22).bind fun v23 => (nat_Gcd.l0 k v23 x1 x5 x6)))))))
def nat_Gcd.f (k : Nat) (l0 : List Int) (l1 : List Int) : Option (List Int) := (nat_Clean.f k l0).bind fun v2 => ((nat_Clean.f k l1).bind fun v4 => (if (v2.length : Int) = 0 then (some v4) else (if (v4.length : Int) = 0 then (some v2) else (if (v2.length : Int) ≤ 2 then (if (v4.length : Int) ≤ 2 then ((nat_euclid.f k v2 v4).bind fun v25 => (some v25)) else ((nat_zeros.f k v2).bind fun v24 => ((nat_zeros.f k v4).bind fun v26 => ((nat_shr.f k v2 v24).bind fun v31 => ((nat_shr.f k v4 v26).bind fun v34 => (nat_Gcd.l0 k v31 v34 v24 v26)))))) else ((nat_zeros.f k v2).bind fun v24 => ((nat_zeros.f k v4).bind fun v26 => ((nat_shr.f k v2 v24).bind fun v31 => ((nat_shr.f k v4 v26).bind fun v34 => (nat_Gcd.l0 k v31 v34 v24 v26)))))))))

def ratio_form.f (k : Nat) (a0_0 : Bool) (l0_1 : List Int) (l1 : List Int) : Option (Bool × List Int × List Int) := if (l0_1.length : Int) = 0 then ((nat_Of.f k 1).bind fun v6 => (some (false, ([] : List Int), v6))) else ((nat_Gcd.f k l0_1 l1).bind fun v9 => (if (v9.length : Int) = 1 then (if 0 < (v9.length : Int) then (if (rd v9 0) = 1 then (some (a0_0, l0_1, l1)) else ((nat_DivMod.f k l0_1 v9).bind fun v23 => ((nat_DivMod.f k l1 v9).bind fun v33 => (some (a0_0, v23.1, v33.1))))) else none) else ((nat_DivMod.f k l0_1 v9).bind fun v23 => ((nat_DivMod.f k l1 v9).bind fun v33 => (some (a0_0, v23.1, v33.1))))))

def fIdx (s : ByteArray) (c : UInt8) : Int :=
  match (List.range s.size).find? fun i => s[i]! == c with
  | some i => i
  | none => -1
def stringslite_IndexByte.f (s : ByteArray) (c : Int) : Option Int := some (fIdx s c.toNat.toUInt8)

def bytealg_Cutover.f (a0 : Int) : Option (Int) := some (wrap64 (Int.tdiv (wrap64 (a0 + 16)) 8))

mutual
def bytealg_hashStr_string_.l0 : Nat → ByteArray → Int → Int → Option (Int × Int)
  | 0, _, _, _ => none
  | k + 1, x0, x4, x5 => if x5 < (x0.size : Int) then (if 0 ≤ x5 then (bytealg_hashStr_string_.l0 k x0 (IntKind.u32.wrap ((IntKind.u32.wrap (x4 * 16777619)) + (IntKind.u32.wrap ((bt x0 x5))))) (wrap64 (x5 + 1))) else none) else (bytealg_hashStr_string_.l1 k x4 1 16777619 (x0.size : Int))
def bytealg_hashStr_string_.l1 : Nat → Int → Int → Int → Int → Option (Int × Int)
  | 0, _, _, _, _ => none
  | k + 1, x4, x6, x7, x8 => if x8 > 0 then (if (Go.bits .and .i64 x8 1) ≠ 0 then (bytealg_hashStr_string_.l1 k x4 (IntKind.u32.wrap (x6 * x7)) (IntKind.u32.wrap (x7 * x7)) (x8 / 2)) else (bytealg_hashStr_string_.l1 k x4 x6 (IntKind.u32.wrap (x7 * x7)) (x8 / 2))) else (some (x4, x6))
end
def bytealg_hashStr_string_.f (k : Nat) (a0 : ByteArray) : Option (Int × Int) := bytealg_hashStr_string_.l0 k a0 0 0

mutual
def bytealg_IndexRabinKarp_string_.l0 : Nat → ByteArray → ByteArray → Int → Int → Int → Int → Int → Option (Int)
  | 0, _, _, _, _, _, _, _ => none
  | k + 1, x0, x1, x5, x6, x7, x8, x9 => if x9 < x7 then (if 0 ≤ x9 then (if x9 < (x0.size : Int) then (bytealg_IndexRabinKarp_string_.l0 k x0 x1 x5 x6 x7 (IntKind.u32.wrap ((IntKind.u32.wrap (x8 * 16777619)) + (IntKind.u32.wrap ((bt x0 x9))))) (wrap64 (x9 + 1))) else none) else none) else (if x8 = x5 then (if 0 ≤ x7 then (if x7 ≤ (x0.size : Int) then (if (x0.extract 0 ((x7 : Int).toNat)) = x1 then (some 0) else (bytealg_IndexRabinKarp_string_.l1 k x0 x1 x5 x6 x7 x8 x7)) else none) else none) else (bytealg_IndexRabinKarp_string_.l1 k x0 x1 x5 x6 x7 x8 x7))
def bytealg_IndexRabinKarp_string_.l1 : Nat → ByteArray → ByteArray → Int → Int → Int → Int → Int → Option (Int)
  | 0, _, _, _, _, _, _, _ => none
  | k + 1, x0, x1, x5, x6, x7, x8, x10 => if x10 < (x0.size : Int) then (if 0 ≤ x10 then (if 0 ≤ (wrap64 (x10 - x7)) then (if (wrap64 (x10 - x7)) < (x0.size : Int) then (if (IntKind.u32.wrap ((IntKind.u32.wrap ((IntKind.u32.wrap (x8 * 16777619)) + (IntKind.u32.wrap ((bt x0 x10))))) - (IntKind.u32.wrap (x6 * (IntKind.u32.wrap ((bt x0 (wrap64 (x10 - x7))))))))) = x5 then (if 0 ≤ (wrap64 ((wrap64 (x10 + 1)) - x7)) then (if (wrap64 ((wrap64 (x10 + 1)) - x7)) ≤ (wrap64 (x10 + 1)) then (if (wrap64 (x10 + 1)) ≤ (x0.size : Int) then (if (x0.extract (((wrap64 ((wrap64 (x10 + 1)) - x7)) : Int).toNat) (((wrap64 (x10 + 1)) : Int).toNat)) = x1 then (some (wrap64 ((wrap64 (x10 + 1)) - x7))) else (bytealg_IndexRabinKarp_string_.l1 k x0 x1 x5 x6 x7 (IntKind.u32.wrap ((IntKind.u32.wrap ((IntKind.u32.wrap (x8 * 16777619)) + (IntKind.u32.wrap ((bt x0 x10))))) - (IntKind.u32.wrap (x6 * (IntKind.u32.wrap ((bt x0 (wrap64 (x10 - x7))))))))) (wrap64 (x10 + 1)))) else none) else none) else none) else (bytealg_IndexRabinKarp_string_.l1 k x0 x1 x5 x6 x7 (IntKind.u32.wrap ((IntKind.u32.wrap ((IntKind.u32.wrap (x8 * 16777619)) + (IntKind.u32.wrap ((bt x0 x10))))) - (IntKind.u32.wrap (x6 * (IntKind.u32.wrap ((bt x0 (wrap64 (x10 - x7))))))))) (wrap64 (x10 + 1)))) else none) else none) else none) else (some (-1))
end
def bytealg_IndexRabinKarp_string_.f (k : Nat) (a0 : ByteArray) (a1 : ByteArray) : Option (Int) := (bytealg_hashStr_string_.f k a1).bind fun v2 => (bytealg_IndexRabinKarp_string_.l0 k a0 a1 v2.1 v2.2 (a1.size : Int) 0 0)

def stringslite_Index.f (k : Nat) (a0 : ByteArray) (a1 : ByteArray) : Option (Int) := if (a1.size : Int) = 0 then (some 0) else (if a1 = a0 then (some 0) else (if (a1.size : Int) = 1 then (if 0 < (a1.size : Int) then ((stringslite_IndexByte.f a0 (bt a1 0)).bind fun v18 => (some v18)) else none) else (if (a1.size : Int) ≥ (a0.size : Int) then (some (-1)) else (none))))

def stringslite_Cut.f (k : Nat) (a0 : ByteArray) (a1 : ByteArray) : Option (ByteArray × ByteArray × Bool) := (stringslite_Index.f k a0 a1).bind fun v5 => (if v5 ≥ 0 then (if v5 ≤ (a0.size : Int) then (if 0 ≤ (wrap64 (v5 + (a1.size : Int))) then (if (wrap64 (v5 + (a1.size : Int))) ≤ (a0.size : Int) then (some ((a0.extract 0 ((v5 : Int).toNat)), (a0.extract (((wrap64 (v5 + (a1.size : Int))) : Int).toNat) a0.size), true)) else none) else none) else none) else (some (a0, ByteArray.empty, false)))

def strings_Cut.f (k : Nat) (a0 : ByteArray) (a1 : ByteArray) : Option (ByteArray × ByteArray × Bool) := (stringslite_Cut.f k a0 a1).bind fun v5 => (some (v5.1, v5.2.1, v5.2.2))

def nat_plus.l0 : Nat → List Int → Int → List Int → Int → Int → Option (List Int)
  | 0, _, _, _, _, _ => none
  | k + 1, x0, x1, x5, x12, x13 => if x13 < x12 then ((nat_limb.f x0 x13).bind fun v6 => (if 0 ≤ x13 then (if x13 < (x5.length : Int) then (nat_plus.l0 k x0 ((IntKind.u64.wrap (x1 + (IntKind.u64.wrap (v6 * 1000000000)))) / 4294967296) (x5.set ((x13 : Int).toNat) (Go.bits .and .u64 (IntKind.u64.wrap (x1 + (IntKind.u64.wrap (v6 * 1000000000)))) 4294967295)) x12 (wrap64 (x13 + 1))) else none) else none)) else ((nat_trim.f k x5).bind fun v2 => (some v2))
def nat_plus.f (k : Nat) (l0 : List Int) (a1 : Int) : Option (List Int) := if 0 ≤ (wrap64 ((l0.length : Int) + 1)) then (if ((wrap64 ((l0.length : Int) + 1)) : Int).toNat ≤ 35184372088832 then (nat_plus.l0 k l0 a1 (List.replicate (((wrap64 ((l0.length : Int) + 1)) : Int).toNat) 0 : List Int) ((List.replicate (((wrap64 ((l0.length : Int) + 1)) : Int).toNat) 0 : List Int).length : Int) 0) else none) else none

mutual
def nat_Parse.l0 : Nat → ByteArray → ByteArray → Nat → Option (List Int × Int)
  | 0, _, _, _ => none
  | k + 1, x0, b14_s, b14_p => if b14_p < b14_s.size then (if ((Utf8.decode b14_s b14_p).1 : Int) < 48 then (some (([] : List Int), 4)) else (if ((Utf8.decode b14_s b14_p).1 : Int) > 57 then (some (([] : List Int), 4)) else (nat_Parse.l0 k x0 b14_s (b14_p + (Utf8.decode b14_s b14_p).2)))) else (if (x0.size : Int) > 10000 then (some (([] : List Int), 5)) else (nat_Parse.l1 k x0 ([] : List Int)))
def nat_Parse.l1 : Nat → ByteArray → List Int → Option (List Int × Int)
  | 0, _, _ => none
  | k + 1, x0, x6 => if (x0.size : Int) > 0 then (if (Int.tmod (x0.size : Int) 9) = 0 then (if 9 ≤ (x0.size : Int) then (if (x0.extract 0 9).size ≤ lim then (nat_Parse.l2 k x0 x6 9 0 (toBytes (x0.extract 0 9)) ((toBytes (x0.extract 0 9)).length : Int) 0) else none) else none) else (if 0 ≤ (Int.tmod (x0.size : Int) 9) then (if (Int.tmod (x0.size : Int) 9) ≤ (x0.size : Int) then (if (x0.extract 0 (((Int.tmod (x0.size : Int) 9) : Int).toNat)).size ≤ lim then (nat_Parse.l2 k x0 x6 (Int.tmod (x0.size : Int) 9) 0 (toBytes (x0.extract 0 (((Int.tmod (x0.size : Int) 9) : Int).toNat))) ((toBytes (x0.extract 0 (((Int.tmod (x0.size : Int) 9) : Int).toNat))).length : Int) 0) else none) else none) else none)) else (some (x6, 0))
def nat_Parse.l2 : Nat → ByteArray → List Int → Int → Int → List Int → Int → Int → Option (List Int × Int)
  | 0, _, _, _, _, _, _, _ => none
  | k + 1, x0, x6, x7, x8, x38, x39, x40 => if x40 < x39 then (if 0 ≤ x40 then (if x40 < (x38.length : Int) then (nat_Parse.l2 k x0 x6 x7 (IntKind.u64.wrap ((IntKind.u64.wrap (10 * x8)) + (IntKind.u64.wrap ((IntKind.u8.wrap ((rd x38 x40) - 48)))))) x38 x39 (wrap64 (x40 + 1))) else none) else none) else ((nat_plus.f k x6 x8).bind fun v3 => (if 0 ≤ x7 then (if x7 ≤ (x0.size : Int) then (nat_Parse.l1 k (x0.extract ((x7 : Int).toNat) x0.size) v3) else none) else none))
end
def nat_Parse.f (k : Nat) (a0 : ByteArray) : Option (List Int × Int) := if a0 = ByteArray.empty then (some (([] : List Int), 4)) else (nat_Parse.l0 k a0 a0 0)

mutual
def nat_Mul.l0 : Nat → List Int → List Int → List Int → Int → Int → Option (List Int)
  | 0, _, _, _, _, _ => none
  | k + 1, x1, x5, x21, x22, x23 => if x23 < x22 then (if 0 ≤ x23 then (if x23 < (x21.length : Int) then (nat_Mul.l1 k x1 x5 x23 (rd x21 x23) 0 x21 x22 x23 x1 (x1.length : Int) 0) else none) else none) else ((nat_trim.f k x5).bind fun v2 => (some v2))
def nat_Mul.l1 : Nat → List Int → List Int → Int → Int → Int → List Int → Int → Int → List Int → Int → Int → Option (List Int)
  | 0, _, _, _, _, _, _, _, _, _, _, _ => none
  | k + 1, x1, x5, x6, x7, x8, x21, x22, x23, x28, x29, x30 => if x30 < x29 then (if 0 ≤ x30 then (if x30 < (x28.length : Int) then (if 0 ≤ (wrap64 (x6 + x30)) then (if (wrap64 (x6 + x30)) < (x5.length : Int) then (nat_Mul.l1 k x1 (x5.set (((wrap64 (x6 + x30)) : Int).toNat) (Go.bits .and .u64 (IntKind.u64.wrap (x8 + (IntKind.u64.wrap ((rd x5 (wrap64 (x6 + x30))) + (IntKind.u64.wrap (x7 * (rd x28 x30))))))) 4294967295)) x6 x7 ((IntKind.u64.wrap (x8 + (IntKind.u64.wrap ((rd x5 (wrap64 (x6 + x30))) + (IntKind.u64.wrap (x7 * (rd x28 x30))))))) / 4294967296) x21 x22 x23 x28 x29 (wrap64 (x30 + 1))) else none) else none) else none) else none) else (if 0 ≤ (wrap64 (x6 + (x1.length : Int))) then (if (wrap64 (x6 + (x1.length : Int))) < (x5.length : Int) then (nat_Mul.l0 k x1 (x5.set (((wrap64 (x6 + (x1.length : Int))) : Int).toNat) x8) x21 x22 (wrap64 (x23 + 1))) else none) else none)
end
def nat_Mul.f (k : Nat) (l0 : List Int) (l1 : List Int) : Option (List Int) := (nat_Clean.f k l0).bind fun v2 => ((nat_Clean.f k l1).bind fun v4 => (if 0 ≤ (wrap64 ((v2.length : Int) + (v4.length : Int))) then (if ((wrap64 ((v2.length : Int) + (v4.length : Int))) : Int).toNat ≤ 35184372088832 then (nat_Mul.l0 k v4 (List.replicate (((wrap64 ((v2.length : Int) + (v4.length : Int))) : Int).toNat) 0 : List Int) v2 (v2.length : Int) 0) else none) else none))

def ratio_ten.l0 : Nat → List Int → Int → Int → Option (List Int)
  | 0, _, _, _ => none
  | k + 1, x3, x5, x6 => if x6 < x5 then ((nat_Of.f k 10).bind fun v2 => ((nat_Mul.f k x3 v2).bind fun v3 => (ratio_ten.l0 k v3 x5 (wrap64 (x6 + 1))))) else (some x3)
def ratio_ten.f (k : Nat) (a0 : Int) : Option (List Int) := (nat_Of.f k 1).bind fun v1 => (ratio_ten.l0 k v1 a0 0)

def nat_Add.l0 : Nat → List Int → List Int → List Int → Int → Int → Int → Option (List Int)
  | 0, _, _, _, _, _, _ => none
  | k + 1, x0, x1, x5, x6, x20, x21 => if x21 < x20 then ((nat_limb.f x0 x21).bind fun v6 => ((nat_limb.f x1 x21).bind fun v9 => (if 0 ≤ x21 then (if x21 < (x5.length : Int) then (nat_Add.l0 k x0 x1 (x5.set ((x21 : Int).toNat) (Go.bits .and .u64 (IntKind.u64.wrap (x6 + (IntKind.u64.wrap (v6 + v9)))) 4294967295)) ((IntKind.u64.wrap (x6 + (IntKind.u64.wrap (v6 + v9)))) / 4294967296) x20 (wrap64 (x21 + 1))) else none) else none))) else ((nat_trim.f k x5).bind fun v2 => (some v2))
def nat_Add.f (k : Nat) (l0 : List Int) (l1 : List Int) : Option (List Int) := (nat_Clean.f k l0).bind fun v2 => ((nat_Clean.f k l1).bind fun v4 => (if 0 ≤ (wrap64 ((mx (v2.length : Int) (v4.length : Int)) + 1)) then (if ((wrap64 ((mx (v2.length : Int) (v4.length : Int)) + 1)) : Int).toNat ≤ 35184372088832 then (nat_Add.l0 k v2 v4 (List.replicate (((wrap64 ((mx (v2.length : Int) (v4.length : Int)) + 1)) : Int).toNat) 0 : List Int) 0 ((List.replicate (((wrap64 ((mx (v2.length : Int) (v4.length : Int)) + 1)) : Int).toNat) 0 : List Int).length : Int) 0) else none) else none))

def ratio_plain.f (k : Nat) (a0 : ByteArray) : Option (Bool × List Int × List Int × Int) := (strings_Cut.f k a0 (⟨#[47]⟩ : ByteArray)).bind fun v3 => (if v3.2.2 = true then ((nat_Parse.f k v3.1).bind fun v13 => (if v13.2 ≠ 0 then (some (false, ([] : List Int), ([] : List Int), v13.2)) else ((nat_Parse.f k v3.2.1).bind fun v22 => (if v22.2 ≠ 0 then (some (false, ([] : List Int), ([] : List Int), v22.2)) else (if (v22.1.length : Int) = 0 then (some (false, ([] : List Int), ([] : List Int), 2)) else ((ratio_form.f k false v13.1 v22.1).bind fun v36 => (some (v36.1, v36.2.1, v36.2.2, 0)))))))) else ((strings_Cut.f k a0 (⟨#[46]⟩ : ByteArray)).bind fun v13 => (if v13.2.2 = true then ((nat_Parse.f k v13.1).bind fun v22 => (if v22.2 ≠ 0 then (some (false, ([] : List Int), ([] : List Int), v22.2)) else ((nat_Parse.f k v13.2.1).bind fun v33 => (if v33.2 ≠ 0 then (some (false, ([] : List Int), ([] : List Int), v33.2)) else ((ratio_ten.f k (v13.2.1.size : Int)).bind fun v43 => ((nat_Mul.f k v22.1 v43).bind fun v47 => ((nat_Add.f k v47 v33.1).bind fun v49 => ((ratio_form.f k false v49 v43).bind fun v52 => (some (v52.1, v52.2.1, v52.2.2, 0)))))))))) else ((nat_Parse.f k v13.1).bind fun v22 => (if v22.2 ≠ 0 then (some (false, ([] : List Int), ([] : List Int), v22.2)) else ((nat_Of.f k 1).bind fun v34 => ((ratio_form.f k false v22.1 v34).bind fun v35 => (some (v35.1, v35.2.1, v35.2.2, 0)))))))))

def ratio_Zero.f (k : Nat) : Option (Bool × List Int × List Int) := (nat_Of.f k 1).bind fun v1 => (some (false, ([] : List Int), v1))

def whole_sign.f (a0 : Bool) (l1 : List Int) : Option (Bool × List Int) := if a0 = true then (some ((decide ((l1.length : Int) > 0)), l1)) else (some (false, l1))

def whole_Clean.f (k : Nat) (a0_0 : Bool) (l0_1 : List Int) : Option (Bool × List Int) := (nat_Clean.f k l0_1).bind fun v6 => ((whole_sign.f a0_0 v6).bind fun v7 => (some (v7.1, v7.2)))

def ratio_Clean.f (k : Nat) (a0_0 : Bool) (l0_1 : List Int) (l0_2 : List Int) : Option (Bool × List Int × List Int) := (nat_Clean.f k l0_2).bind fun v4 => (if (v4.length : Int) = 0 then ((ratio_Zero.f k).bind fun v9 => (some (v9.1, v9.2.1, v9.2.2))) else ((whole_Clean.f k a0_0 l0_1).bind fun v11 => ((ratio_form.f k v11.1 v11.2 v4).bind fun v13 => (some (v13.1, v13.2.1, v13.2.2)))))

def whole_Neg.f (k : Nat) (a0_0 : Bool) (l0_1 : List Int) : Option (Bool × List Int) := (whole_Clean.f k a0_0 l0_1).bind fun v3 => ((whole_sign.f (!v3.1) v3.2).bind fun v10 => (some (v10.1, v10.2)))

def ratio_Neg.f (k : Nat) (a0_0 : Bool) (l0_1 : List Int) (l0_2 : List Int) : Option (Bool × List Int × List Int) := (ratio_Clean.f k a0_0 l0_1 l0_2).bind fun v3 => ((whole_Neg.f k v3.1 v3.2.1).bind fun v7 => (some (v7.1, v7.2, v3.2.2)))

def ratio_Parse.f (k : Nat) (a0 : ByteArray) : Option (Bool × List Int × List Int × Int) := (strings_HasPrefix.f a0 (⟨#[45]⟩ : ByteArray)).bind fun v3 => (if v3 = true then (if 1 ≤ (a0.size : Int) then ((ratio_plain.f k (a0.extract 1 a0.size)).bind fun v10 => (if v10.2.2.2 ≠ 0 then (some (false, ([] : List Int), ([] : List Int), v10.2.2.2)) else ((ratio_Neg.f k v10.1 v10.2.1 v10.2.2.1).bind fun v21 => (some (v21.1, v21.2.1, v21.2.2, 0))))) else none) else ((ratio_plain.f k a0).bind fun v7 => (if v7.2.2.2 ≠ 0 then (some (false, ([] : List Int), ([] : List Int), v7.2.2.2)) else (some (v7.1, v7.2.1, v7.2.2.1, 0)))))

def rows_Cell.f (k : Nat) (a0 : ByteArray) : Option (Bool × Bool × List Int × List Int × Int) := if a0 = (⟨#[63]⟩ : ByteArray) then (some (true, false, ([] : List Int), ([] : List Int), 0)) else ((ratio_Parse.f k a0).bind fun v5 => (if v5.2.2.2 ≠ 0 then (some (false, false, ([] : List Int), ([] : List Int), v5.2.2.2)) else (some (false, v5.1, v5.2.1, v5.2.2.1, 0))))

def rows_Words.l0 : Nat → (List (Bool × Bool × List Int × List Int)) → (List (Int × Int × ByteArray)) → Int → Int → Option (List (Bool × Bool × List Int × List Int) × Int × Int)
  | 0, _, _, _, _ => none
  | k + 1, x5, x10, x11, x12 => if x12 < x11 then (if 0 ≤ x12 then (if x12 < (x10.length : Int) then ((rows_Cell.f k ((gt (0, 0, ByteArray.empty) x10 x12).2.2)).bind fun v7 => (if v7.2.2.2.2 ≠ 0 then (some (([] : List (Bool × Bool × List Int × List Int)), (gt (0, 0, ByteArray.empty) x10 x12).1, v7.2.2.2.2)) else (if x5.length < 2199023255552 then (rows_Words.l0 k (x5 ++ [(v7.1, v7.2.1, v7.2.2.1, v7.2.2.2.1)]) x10 x11 (wrap64 (x12 + 1))) else none))) else none) else none) else (some (x5, 0, 0))
def rows_Words.f (k : Nat) (l0 : List (Int × Int × ByteArray)) : Option (List (Bool × Bool × List Int × List Int) × Int × Int) := rows_Words.l0 k ([] : List (Bool × Bool × List Int × List Int)) l0 (l0.length : Int) 0

def rows_Row.f (k : Nat) (a0 : ByteArray) : Option (List (Bool × Bool × List Int × List Int) × Int × Int) := (lex_Words.f k a0).bind fun v4 => (if v4.2.2 ≠ 0 then (some (([] : List (Bool × Bool × List Int × List Int)), v4.2.1, v4.2.2)) else ((rows_Words.f k v4.1).bind fun v15 => (some (v15.1, v15.2.1, v15.2.2))))

def splitG : List (List (Int × Int × ByteArray)) → List (Int × Int × ByteArray) → List (Int × Int × ByteArray) → List (List (Int × Int × ByteArray))
  | out, cur, [] => out ++ [cur]
  | out, cur, t :: r => if t.2.2.toList = [124] then splitG (out ++ [cur]) [] r else splitG out (cur ++ [t]) r
def rows_Split.f (l : List (Int × Int × ByteArray)) : Option (List (List (Int × Int × ByteArray))) := if l.length ≤ 1099511627776 then (if l = [] then some [] else some (splitG [] [] l)) else none

def rows_Rows.l0 : Nat → (List (List (Bool × Bool × List Int × List Int))) → (List (List (Int × Int × ByteArray))) → Int → Int → Option (List (List (Bool × Bool × List Int × List Int)) × Int × Int)
  | 0, _, _, _, _ => none
  | k + 1, x8, x25, x26, x27 => if x27 < x26 then (if 0 ≤ x27 then (if x27 < (x25.length : Int) then ((rows_Words.f k (gt [] x25 x27)).bind fun v5 => (if v5.2.2 ≠ 0 then (some (([] : List (List (Bool × Bool × List Int × List Int))), v5.2.1, v5.2.2)) else (if x8.length < 5864062014805 then (rows_Rows.l0 k (x8 ++ [v5.1]) x25 x26 (wrap64 (x27 + 1))) else none))) else none) else none) else (some (x8, 0, 0))
def rows_Rows.f (k : Nat) (a0 : ByteArray) : Option (List (List (Bool × Bool × List Int × List Int)) × Int × Int) := (lex_Words.f k a0).bind fun v4 => (if v4.2.2 ≠ 0 then (some (([] : List (List (Bool × Bool × List Int × List Int))), v4.2.1, v4.2.2)) else ((rows_Split.f v4.1).bind fun v16 => (rows_Rows.l0 k ([] : List (List (Bool × Bool × List Int × List Int))) v16 (v16.length : Int) 0)))

def dendronlaw09_awake.f (k : Nat) : Option (Bool) := (rows_Row.f k (⟨#[49, 47, 50, 32, 63, 32, 45, 51]⟩ : ByteArray)).bind fun v1 => ((rows_Rows.f k (⟨#[49, 32, 124, 32, 50]⟩ : ByteArray)).bind fun v9 => (if v1.2.2 = 0 then (if v9.2.2 = 0 then (if (v1.1.length : Int) = 3 then (if 1 < (v1.1.length : Int) then (if ((gt (false, false, [], []) v1.1 1).1) = true then (if (v9.1.length : Int) = 2 then (if 1 < (v9.1.length : Int) then (some (((gt [] v9.1 1).length : Int) == 1)) else none) else (some false)) else (some false)) else none) else (some false)) else (some false)) else (some false)))

def dendronref01_Order.l0 : Nat → List Int → List Int → Int → Option (Int)
  | 0, _, _, _ => none
  | k + 1, x0, x1, x5 => if x5 ≥ 0 then (if x5 < (x0.length : Int) then (if x5 < (x1.length : Int) then (if (rd x0 x5) < (rd x1 x5) then (some (-1)) else (if (rd x0 x5) > (rd x1 x5) then (some 1) else (dendronref01_Order.l0 k x0 x1 (wrap64 (x5 - 1))))) else none) else none) else (some 0)
def dendronref01_Order.f (k : Nat) (l0 : List Int) (l1 : List Int) : Option (Int) := if (l0.length : Int) ≠ (l1.length : Int) then (if (l0.length : Int) < (l1.length : Int) then (some (-1)) else (some 1)) else (dendronref01_Order.l0 k l0 l1 (wrap64 ((l0.length : Int) - 1)))

def dendronref02_Order.f (k : Nat) (a0_0 : Bool) (l0_1 : List Int) (a1_0 : Bool) (l1_1 : List Int) : Option (Int) := if a0_0 = true then (if a1_0 = true then (if a0_0 = true then (if a0_0 = true then ((dendronref01_Order.f k l1_1 l0_1).bind fun v23 => (some v23)) else ((dendronref01_Order.f k l0_1 l1_1).bind fun v23 => (some v23))) else (if a1_0 = true then (some 1) else (if a0_0 = true then ((dendronref01_Order.f k l1_1 l0_1).bind fun v23 => (some v23)) else ((dendronref01_Order.f k l0_1 l1_1).bind fun v23 => (some v23))))) else (some (-1))) else (if a0_0 = true then (if a0_0 = true then ((dendronref01_Order.f k l1_1 l0_1).bind fun v23 => (some v23)) else ((dendronref01_Order.f k l0_1 l1_1).bind fun v23 => (some v23))) else (if a1_0 = true then (some 1) else (if a0_0 = true then ((dendronref01_Order.f k l1_1 l0_1).bind fun v23 => (some v23)) else ((dendronref01_Order.f k l0_1 l1_1).bind fun v23 => (some v23)))))

def dendronref02_Make.f (a0 : Bool) (l1 : List Int) : Option (Bool × List Int) := if a0 = true then (some ((decide ((l1.length : Int) > 0)), l1)) else (some (false, l1))

def dendronref01_Trim.l0 : Nat → List Int → Int → Option (List Int)
  | 0, _, _ => none
  | k + 1, x0, x3 => if x3 > 0 then (if 0 ≤ (wrap64 (x3 - 1)) then (if (wrap64 (x3 - 1)) < (x0.length : Int) then (if (rd x0 (wrap64 (x3 - 1))) = 0 then (dendronref01_Trim.l0 k x0 (wrap64 (x3 - 1))) else (if 0 ≤ x3 then (if x3 ≤ (x0.length : Int) then (some (x0.take ((x3 : Int).toNat))) else none) else none)) else none) else none) else (if 0 ≤ x3 then (if x3 ≤ (x0.length : Int) then (some (x0.take ((x3 : Int).toNat))) else none) else none)
def dendronref01_Trim.f (k : Nat) (l0 : List Int) : Option (List Int) := dendronref01_Trim.l0 k l0 (l0.length : Int)

mutual
def dendronref01_Times.l0 : Nat → List Int → List Int → List Int → Int → Option (List Int)
  | 0, _, _, _, _ => none
  | k + 1, x0, x1, x5, x6 => if x6 < (x0.length : Int) then (dendronref01_Times.l1 k x0 x1 x5 x6 0 0) else ((dendronref01_Trim.f k x5).bind fun v5 => (some v5))
def dendronref01_Times.l1 : Nat → List Int → List Int → List Int → Int → Int → Int → Option (List Int)
  | 0, _, _, _, _, _, _ => none
  | k + 1, x0, x1, x5, x6, x7, x8 => if x8 < (x1.length : Int) then (if 0 ≤ (wrap64 (x6 + x8)) then (if (wrap64 (x6 + x8)) < (x5.length : Int) then (if 0 ≤ x6 then (if x6 < (x0.length : Int) then (if 0 ≤ x8 then (dendronref01_Times.l1 k x0 x1 (x5.set (((wrap64 (x6 + x8)) : Int).toNat) (Int.tmod (wrap64 ((wrap64 (x7 + (rd x5 (wrap64 (x6 + x8))))) + (wrap64 ((rd x0 x6) * (rd x1 x8))))) 10000)) x6 (wrap64 (Int.tdiv (wrap64 ((wrap64 (x7 + (rd x5 (wrap64 (x6 + x8))))) + (wrap64 ((rd x0 x6) * (rd x1 x8))))) 10000)) (wrap64 (x8 + 1))) else none) else none) else none) else none) else none) else (if 0 ≤ (wrap64 (x6 + (x1.length : Int))) then (if (wrap64 (x6 + (x1.length : Int))) < (x5.length : Int) then (dendronref01_Times.l0 k x0 x1 (x5.set (((wrap64 (x6 + (x1.length : Int))) : Int).toNat) x7) (wrap64 (x6 + 1))) else none) else none)
end
def dendronref01_Times.f (k : Nat) (l0 : List Int) (l1 : List Int) : Option (List Int) := if 0 ≤ (wrap64 ((l0.length : Int) + (l1.length : Int))) then (if ((wrap64 ((l0.length : Int) + (l1.length : Int))) : Int).toNat ≤ 35184372088832 then (dendronref01_Times.l0 k l0 l1 (List.replicate (((wrap64 ((l0.length : Int) + (l1.length : Int))) : Int).toNat) 0 : List Int) 0) else none) else none

def dendronref02_Times.f (k : Nat) (a0_0 : Bool) (l0_1 : List Int) (a1_0 : Bool) (l1_1 : List Int) : Option (Bool × List Int) := (dendronref01_Times.f k l0_1 l1_1).bind fun v12 => ((dendronref02_Make.f (!(a0_0 == a1_0)) v12).bind fun v13 => (some (v13.1, v13.2)))

def dendronref03_den.f (a0_0 : Bool) (l0_1 : List Int) (l0_2 : List Int) : Option (Bool × List Int) := (dendronref02_Make.f false l0_2).bind fun v4 => (some (v4.1, v4.2))

def dendronref03_Order.f (k : Nat) (a0_0 : Bool) (l0_1 : List Int) (l0_2 : List Int) (a1_0 : Bool) (l1_1 : List Int) (l1_2 : List Int) : Option (Int) := (dendronref03_den.f a1_0 l1_1 l1_2).bind fun v6 => ((dendronref02_Times.f k a0_0 l0_1 v6.1 v6.2).bind fun v7 => ((dendronref03_den.f a0_0 l0_1 l0_2).bind fun v11 => ((dendronref02_Times.f k a1_0 l1_1 v11.1 v11.2).bind fun v12 => ((dendronref02_Order.f k v7.1 v7.2 v12.1 v12.2).bind fun v13 => (some v13)))))

def dendronref01_Small.l0 : Nat → Int → List Int → Option (List Int)
  | 0, _, _ => none
  | k + 1, x0, x3 => if x0 > 0 then (if x3.length < 17592186044416 then (dendronref01_Small.l0 k (wrap64 (Int.tdiv x0 10000)) (x3 ++ [(Int.tmod x0 10000)])) else none) else (some x3)
def dendronref01_Small.f (k : Nat) (a0 : Int) : Option (List Int) := dendronref01_Small.l0 k a0 ([] : List Int)

def dendronref01_digit.f (l0 : List Int) (a1 : Int) : Option (Int) := if a1 < (l0.length : Int) then (if 0 ≤ a1 then (some (rd l0 a1)) else none) else (some 0)

def dendronref01_Plus.l0 : Nat → List Int → List Int → List Int → Int → Int → Option (List Int)
  | 0, _, _, _, _, _ => none
  | k + 1, x0, x1, x5, x6, x7 => if x7 < (x0.length : Int) then ((dendronref01_digit.f x0 x7).bind fun v17 => ((dendronref01_digit.f x1 x7).bind fun v21 => (if x5.length < 17592186044416 then (dendronref01_Plus.l0 k x0 x1 (x5 ++ [(Int.tmod (wrap64 ((wrap64 (x6 + v17)) + v21)) 10000)]) (wrap64 (Int.tdiv (wrap64 ((wrap64 (x6 + v17)) + v21)) 10000)) (wrap64 (x7 + 1))) else none))) else (if x7 < (x1.length : Int) then ((dendronref01_digit.f x0 x7).bind fun v17 => ((dendronref01_digit.f x1 x7).bind fun v21 => (if x5.length < 17592186044416 then (dendronref01_Plus.l0 k x0 x1 (x5 ++ [(Int.tmod (wrap64 ((wrap64 (x6 + v17)) + v21)) 10000)]) (wrap64 (Int.tdiv (wrap64 ((wrap64 (x6 + v17)) + v21)) 10000)) (wrap64 (x7 + 1))) else none))) else (if x6 > 0 then ((dendronref01_digit.f x0 x7).bind fun v17 => ((dendronref01_digit.f x1 x7).bind fun v21 => (if x5.length < 17592186044416 then (dendronref01_Plus.l0 k x0 x1 (x5 ++ [(Int.tmod (wrap64 ((wrap64 (x6 + v17)) + v21)) 10000)]) (wrap64 (Int.tdiv (wrap64 ((wrap64 (x6 + v17)) + v21)) 10000)) (wrap64 (x7 + 1))) else none))) else (some x5)))
def dendronref01_Plus.f (k : Nat) (l0 : List Int) (l1 : List Int) : Option (List Int) := dendronref01_Plus.l0 k l0 l1 ([] : List Int) 0 0

def dendronref01_From.l0 : Nat → List Int → List Int → List Int → Int → Option (List Int)
  | 0, _, _, _, _ => none
  | k + 1, x0, x3, x4, x5 => if x5 ≥ 0 then ((dendronref01_Times.f k x3 x4).bind fun v4 => (if x5 < (x0.length : Int) then ((dendronref01_Small.f k (wrap64 ((Go.bits .and .u64 (rd x0 x5) 4294967295)))).bind fun v11 => ((dendronref01_Plus.f k v4 v11).bind fun v12 => (dendronref01_From.l0 k x0 v12 x4 (wrap64 (x5 - 1))))) else none)) else (some x3)
def dendronref01_From.f (k : Nat) (l0 : List Int) : Option (List Int) := (dendronref01_Small.f k 4294967296).bind fun v2 => (dendronref01_From.l0 k l0 ([] : List Int) v2 (wrap64 ((l0.length : Int) - 1)))

def dendronref02_Small.f (k : Nat) (a0 : Int) : Option (Bool × List Int) := if a0 < 0 then ((dendronref01_Small.f k (wrap64 (0 - (wrap64 (a0 + 1))))).bind fun v6 => ((dendronref01_Small.f k 1).bind fun v7 => ((dendronref01_Plus.f k v6 v7).bind fun v8 => ((dendronref02_Make.f true v8).bind fun v9 => (some (v9.1, v9.2)))))) else ((dendronref01_Small.f k a0).bind fun v4 => ((dendronref02_Make.f false v4).bind fun v5 => (some (v5.1, v5.2))))

def dendronref03_Small.f (k : Nat) (a0 : Int) (a1 : Int) : Option (Bool × List Int × List Int) := (dendronref02_Small.f k a0).bind fun v2 => ((dendronref01_Small.f k a1).bind fun v4 => (some (v2.1, v2.2, v4)))

def dendronref02_From.f (k : Nat) (a0_0 : Bool) (l0_1 : List Int) : Option (Bool × List Int) := (dendronref01_From.f k l0_1).bind fun v6 => ((dendronref02_Make.f a0_0 v6).bind fun v7 => (some (v7.1, v7.2)))

def dendronref03_From.f (k : Nat) (a0_0 : Bool) (l0_1 : List Int) (l0_2 : List Int) : Option (Bool × List Int × List Int) := (dendronref01_From.f k l0_2).bind fun v4 => (if (v4.length : Int) = 0 then ((dendronref03_Small.f k 0 1).bind fun v9 => (some (v9.1, v9.2.1, v9.2.2))) else ((dendronref02_From.f k a0_0 l0_1).bind fun v11 => (some (v11.1, v11.2, v4))))

def dendronref09_Same.f (k : Nat) (a0_0 : Bool) (a0_1 : Bool) (l0_2 : List Int) (l0_3 : List Int) (a1_0 : Bool) (a1_1 : Bool) (l1_2 : List Int) (l1_3 : List Int) : Option (Bool) := if a0_0 = true then (if a0_0 = true then (some a1_0) else (some false)) else (if a1_0 = true then (if a0_0 = true then (some a1_0) else (some false)) else ((dendronref03_From.f k a0_1 l0_2 l0_3).bind fun v11 => ((dendronref03_From.f k a1_1 l1_2 l1_3).bind fun v14 => ((dendronref03_Order.f k v11.1 v11.2.1 v11.2.2 v14.1 v14.2.1 v14.2.2).bind fun v15 => (some (v15 == 0))))))

def dendronref09_Equal.l0 : Nat → (List (Bool × Bool × List Int × List Int)) → (List (Bool × Bool × List Int × List Int)) → Int → Option (Bool)
  | 0, _, _, _ => none
  | k + 1, x0, x1, x5 => if x5 < (x0.length : Int) then (if 0 ≤ x5 then (if x5 < (x1.length : Int) then ((dendronref09_Same.f k ((gt (false, false, [], []) x0 x5).1) ((gt (false, false, [], []) x0 x5).2.1) ((gt (false, false, [], []) x0 x5).2.2.1) ((gt (false, false, [], []) x0 x5).2.2.2) ((gt (false, false, [], []) x1 x5).1) ((gt (false, false, [], []) x1 x5).2.1) ((gt (false, false, [], []) x1 x5).2.2.1) ((gt (false, false, [], []) x1 x5).2.2.2)).bind fun v12 => (if v12 = true then (dendronref09_Equal.l0 k x0 x1 (wrap64 (x5 + 1))) else (some false))) else none) else none) else (some true)
def dendronref09_Equal.f (k : Nat) (l0 : List (Bool × Bool × List Int × List Int)) (l1 : List (Bool × Bool × List Int × List Int)) : Option (Bool) := if (l0.length : Int) ≠ (l1.length : Int) then (some false) else (dendronref09_Equal.l0 k l0 l1 0)

def dendronlaw09_number.f (a0_0 : Bool) (l0_1 : List Int) (l0_2 : List Int) : Option (Bool × List Int × List Int) := if (l0_1.length : Int) > 3 then (if 3 ≤ (l0_1.length : Int) then (if (l0_2.length : Int) > 3 then (if 3 ≤ (l0_2.length : Int) then (some (a0_0, (l0_1.take 3), (l0_2.take 3))) else none) else (some (a0_0, (l0_1.take 3), l0_2))) else none) else (if (l0_2.length : Int) > 3 then (if 3 ≤ (l0_2.length : Int) then (some (a0_0, l0_1, (l0_2.take 3))) else none) else (some (a0_0, l0_1, l0_2)))

def dendronlaw09_Few.l0 : Nat → (List (Bool × Bool × List Int × List Int)) → Int → (List (Bool × Bool × List Int × List Int)) → Int → Option (List (Bool × Bool × List Int × List Int))
  | 0, _, _, _, _ => none
  | k + 1, x0, x1, x5, x6 => if x6 < (x0.length : Int) then (if x6 < x1 then (if 0 ≤ x6 then ((dendronlaw09_number.f ((gt (false, false, [], []) x0 x6).2.1) ((gt (false, false, [], []) x0 x6).2.2.1) ((gt (false, false, [], []) x0 x6).2.2.2)).bind fun v17 => (if x5.length < 2199023255552 then (dendronlaw09_Few.l0 k x0 x1 (x5 ++ [((gt (false, false, [], []) x0 x6).1, v17.1, v17.2.1, v17.2.2)]) (wrap64 (x6 + 1))) else none)) else none) else (some x5)) else (some x5)
def dendronlaw09_Few.f (k : Nat) (l0 : List (Bool × Bool × List Int × List Int)) (a1 : Int) : Option (List (Bool × Bool × List Int × List Int)) := dendronlaw09_Few.l0 k l0 a1 ([] : List (Bool × Bool × List Int × List Int)) 0

def rows_With.f (l : List (Bool × Bool × List Int × List Int)) (i : Int) (c0 c1 : Bool) (c2 c3 : List Int) : Option (List (Bool × Bool × List Int × List Int) × Int) :=
  if i < 0 ∨ (l.length : Int) ≤ i then some ([], 8) else if l.length ≤ 4398046511104 then some (l.set i.toNat (c0, c1, c2, c3), 0) else none

def rows_Mix.l0 : Nat → (List (Bool × Bool × List Int × List Int)) → Int → (List (Bool × Bool × List Int × List Int)) → Int → Int → Option (List (Bool × Bool × List Int × List Int) × Int)
  | 0, _, _, _, _, _ => none
  | k + 1, x0, x2, x8, x19, x20 => if x20 < x19 then (if x20 < 64 then (if 0 ≤ x20 then (if (Go.bits .and .u64 (shr .u64 x2 x20) 1) = 1 then (if x20 < (x0.length : Int) then (if x20 < (x8.length : Int) then (rows_Mix.l0 k x0 x2 (x8.set ((x20 : Int).toNat) ((gt (false, false, [], []) x0 x20).1, (gt (false, false, [], []) x0 x20).2.1, (gt (false, false, [], []) x0 x20).2.2.1, (gt (false, false, [], []) x0 x20).2.2.2)) x19 (wrap64 (x20 + 1))) else none) else none) else (rows_Mix.l0 k x0 x2 x8 x19 (wrap64 (x20 + 1)))) else none) else (rows_Mix.l0 k x0 x2 x8 x19 (wrap64 (x20 + 1)))) else (some (x8, 0))
def rows_Mix.f (k : Nat) (l0 : List (Bool × Bool × List Int × List Int)) (l1 : List (Bool × Bool × List Int × List Int)) (a2 : Int) : Option (List (Bool × Bool × List Int × List Int) × Int) := if (l0.length : Int) ≠ (l1.length : Int) then (some (([] : List (Bool × Bool × List Int × List Int)), 14)) else (if ([] : List (Bool × Bool × List Int × List Int)).length + l1.length < 2199023255553 then (rows_Mix.l0 k l0 a2 (([] : List (Bool × Bool × List Int × List Int)) ++ l1) ((([] : List (Bool × Bool × List Int × List Int)) ++ l1).length : Int) 0) else none)

def dendronlaw09_RowsTurns.l0 : Nat → (List (Bool × Bool × List Int × List Int)) → (List (Bool × Bool × List Int × List Int)) → (List (Bool × Bool × List Int × List Int)) → Int → (List (Bool × Bool × List Int × List Int)) → Int → Int → Option (Bool)
  | 0, _, _, _, _, _, _, _ => none
  | k + 1, x0, x1, x14, x15, x17, x18, x19 => if x19 < (x0.length : Int) then (if (Int.tmod x18 2) = 1 then (if 0 ≤ x19 then (if x17.length < 2199023255552 then (dendronlaw09_RowsTurns.l0 k x0 x1 x14 x15 (x17 ++ [((gt (false, false, [], []) x0 x19).1, (gt (false, false, [], []) x0 x19).2.1, (gt (false, false, [], []) x0 x19).2.2.1, (gt (false, false, [], []) x0 x19).2.2.2)]) (IntKind.u64.wrap (Int.tdiv x18 2)) (wrap64 (x19 + 1))) else none) else none) else (if 0 ≤ x19 then (if x19 < (x1.length : Int) then (if x17.length < 2199023255552 then (dendronlaw09_RowsTurns.l0 k x0 x1 x14 x15 (x17 ++ [((gt (false, false, [], []) x1 x19).1, (gt (false, false, [], []) x1 x19).2.1, (gt (false, false, [], []) x1 x19).2.2.1, (gt (false, false, [], []) x1 x19).2.2.2)]) (IntKind.u64.wrap (Int.tdiv x18 2)) (wrap64 (x19 + 1))) else none) else none) else none)) else (if x15 = 0 then ((dendronref09_Equal.f k x14 x17).bind fun v9 => (if v9 = true then ((dendronlaw09_awake.f k).bind fun v12 => (some v12)) else (some false))) else (some false))
def dendronlaw09_RowsTurns.f (k : Nat) (l0 : List (Bool × Bool × List Int × List Int)) (l1 : List (Bool × Bool × List Int × List Int)) (a2 : Int) (a3_0 : Bool) (a3_1 : Bool) (l3_2 : List Int) (l3_3 : List Int) (a4 : Int) : Option (Bool) := (dendronlaw09_Few.f k l0 70).bind fun v3 => ((dendronlaw09_Few.f k l1 70).bind fun v6 => ((dendronlaw09_number.f a3_1 l3_2 l3_3).bind fun v10 => (if ([] : List (Bool × Bool × List Int × List Int)).length + v3.length < 2199023255553 then ((rows_With.f v3 a2 a3_0 v10.1 v10.2.1 v10.2.2).bind fun v20 => ((rows_Mix.f k v3 v6 a4).bind fun v29 => (if a2 < 0 then (if (v20.1.length : Int) ≠ 0 then (some false) else (if v20.2 ≠ 8 then (some false) else ((dendronref09_Equal.f k v3 (([] : List (Bool × Bool × List Int × List Int)) ++ v3)).bind fun v52 => (if v52 = true then (if (v3.length : Int) ≠ (v6.length : Int) then (if (v29.1.length : Int) = 0 then (if v29.2 = 14 then ((dendronlaw09_awake.f k).bind fun v67 => (some v67)) else (some false)) else (some false)) else (dendronlaw09_RowsTurns.l0 k v3 v6 v29.1 v29.2 ([] : List (Bool × Bool × List Int × List Int)) a4 0)) else (some false))))) else (if a2 ≥ (v3.length : Int) then (if (v20.1.length : Int) ≠ 0 then (some false) else (if v20.2 ≠ 8 then (some false) else ((dendronref09_Equal.f k v3 (([] : List (Bool × Bool × List Int × List Int)) ++ v3)).bind fun v52 => (if v52 = true then (if (v3.length : Int) ≠ (v6.length : Int) then (if (v29.1.length : Int) = 0 then (if v29.2 = 14 then ((dendronlaw09_awake.f k).bind fun v67 => (some v67)) else (some false)) else (some false)) else (dendronlaw09_RowsTurns.l0 k v3 v6 v29.1 v29.2 ([] : List (Bool × Bool × List Int × List Int)) a4 0)) else (some false))))) else (if 0 ≤ a2 then (if a2 < ((([] : List (Bool × Bool × List Int × List Int)) ++ v3).length : Int) then (if v20.2 ≠ 0 then (some false) else ((dendronref09_Equal.f k v20.1 ((([] : List (Bool × Bool × List Int × List Int)) ++ v3).set ((a2 : Int).toNat) (a3_0, v10.1, v10.2.1, v10.2.2))).bind fun v57 => (if v57 = true then ((dendronref09_Equal.f k v3 (([] : List (Bool × Bool × List Int × List Int)) ++ v3)).bind fun v62 => (if v62 = true then (if (v3.length : Int) ≠ (v6.length : Int) then (if (v29.1.length : Int) = 0 then (if v29.2 = 14 then ((dendronlaw09_awake.f k).bind fun v77 => (some v77)) else (some false)) else (some false)) else (dendronlaw09_RowsTurns.l0 k v3 v6 v29.1 v29.2 ([] : List (Bool × Bool × List Int × List Int)) a4 0)) else (some false))) else (some false)))) else none) else none))))) else none)))
end Go.DI
