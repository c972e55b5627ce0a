/- An evaluator of the program's code, what its functions come to, and what they mean: text 3. No condition. -/
import Derived.Test.YtfpolhoabfadnaaTexts2
set_option linter.unusedSimpArgs false
section
namespace Go.Proofs.Ytfpolhoabfadnaa.P
open Go.RowKit Go.Proofs.YtfpolhoabfadnaaW.PrintWords Go.Proofs.YtfpolhoabfadnaaW.PrintLast Go.Proofs.YtfpolhoabfadnaaW.PrintMore Go.Proofs.YtfpolhoabfadnaaW
attribute [local go_sem] max2_int min2_int max_two min_two max_three min_three max_four min_four
set_option linter.unusedVariables false
set_option linter.unusedSimpArgs false
def mag_Trim.l0 : Nat → List Int → Option (List Int)
 | 0, _ => none
 | k + 1, x0 => if (x0.length : Int) > 0 then (if 0 ≤ (wrap64 ((x0.length : Int) - 1)) then (if (wrap64 ((x0.length : Int) - 1)) < (x0.length : Int) then (if (rd x0 (wrap64 ((x0.length : Int) - 1))) = 0 then (if (wrap64 ((x0.length : Int) - 1)) ≤ (x0.length : Int) then (mag_Trim.l0 k (x0.take ((wrap64 ((x0.length : Int) - 1)) : Int).toNat)) else (none)) else (some x0)) else (none)) else (none)) else (some x0)
def mag_Trim.f (k : Nat) (l0 : List Int) : Option (List Int) := mag_Trim.l0 k l0
def mag_From.f (k : Nat) (a0 : Int) : Option (List Int) := (mag_Trim.f k (([(a0) % 4294967296, (a0 / 4294967296) % 4294967296] : List Int))).bind fun t110 => (some t110)
def mag_Shl.l0 : Nat → Int → Int → List Int → List Int → Int → Int → Option (List Int)
 | 0, _, _, _, _, _, _ => none
 | k + 1, x5, x6, x7, x25, x26, x27 => if x27 < x26 then (if 0 ≤ x27 then (if x27 < (x25.length : Int) then (if 0 ≤ x6 then (if 0 ≤ (wrap64 (x27 + x5)) then (if (wrap64 (x27 + x5)) < (x7.length : Int) then (if 0 ≤ (wrap64 ((wrap64 (x27 + x5)) + 1)) then (if (wrap64 ((wrap64 (x27 + x5)) + 1)) < (x7.length : Int) then (mag_Shl.l0 k x5 x6 ((x7.set ((wrap64 (x27 + x5)) : Int).toNat (Go.bits .or .u32 (rd x7 (wrap64 (x27 + x5))) ((shl .u64 (IntKind.u64.wrap (rd x25 x27)) x6) % 4294967296))).set ((wrap64 ((wrap64 (x27 + x5)) + 1)) : Int).toNat (((shl .u64 (IntKind.u64.wrap (rd x25 x27)) x6) / 4294967296) % 4294967296)) x25 x26 (wrap64 (x27 + 1))) else (none)) else (none)) else (none)) else (none)) else (none)) else (none)) else (none)) else ((mag_Trim.f k x7).bind fun t120 => (some t120))
def mag_Shl.f (k : Nat) (l0 : List Int) (a1 : Int) : Option (List Int) := if (l0.length : Int) = 0 then (some ([] : List Int)) else (if 0 ≤ (wrap64 ((wrap64 ((l0.length : Int) + (wrap64 (Int.tdiv a1 32)))) + 1)) then (if (wrap64 ((wrap64 ((l0.length : Int) + (wrap64 (Int.tdiv a1 32)))) + 1) : Int).toNat ≤ 70368744177664 then (mag_Shl.l0 k (wrap64 (Int.tdiv a1 32)) (IntKind.u64.wrap (Int.tmod a1 32)) (List.replicate (wrap64 ((wrap64 ((l0.length : Int) + (wrap64 (Int.tdiv a1 32)))) + 1) : Int).toNat 0) l0 (l0.length : Int) 0) else (none)) else (none))
def bits_Len32.f (a0 : Int) : Option (Int) := if a0 ≥ 65536 then (if (a0 / 65536) ≥ 256 then (if 0 ≤ (((a0 / 65536) / 256) % 256) then (if (((a0 / 65536) / 256) % 256) < 256 then (some (wrap64 ((16 + 8) + (wrap64 (bt (⟨#[0, 1, 2, 2, 3, 3, 3, 3, 4, 4, 4, 4, 4, 4, 4, 4, 5, 5, 5, 5, 5, 5, 5, 5, 5, 5, 5, 5, 5, 5, 5, 5, 6, 6, 6, 6, 6, 6, 6, 6, 6, 6, 6, 6, 6, 6, 6, 6, 6, 6, 6, 6, 6, 6, 6, 6, 6, 6, 6, 6, 6, 6, 6, 6, 7, 7, 7, 7, 7, 7, 7, 7, 7, 7, 7, 7, 7, 7, 7, 7, 7, 7, 7, 7, 7, 7, 7, 7, 7, 7, 7, 7, 7, 7, 7, 7, 7, 7, 7, 7, 7, 7, 7, 7, 7, 7, 7, 7, 7, 7, 7, 7, 7, 7, 7, 7, 7, 7, 7, 7, 7, 7, 7, 7, 7, 7, 7, 7, 8, 8, 8, 8, 8, 8, 8, 8, 8, 8, 8, 8, 8, 8, 8, 8, 8, 8, 8, 8, 8, 8, 8, 8, 8, 8, 8, 8, 8, 8, 8, 8, 8, 8, 8, 8, 8, 8, 8, 8, 8, 8, 8, 8, 8, 8, 8, 8, 8, 8, 8, 8, 8, 8, 8, 8, 8, 8, 8, 8, 8, 8, 8, 8, 8, 8, 8, 8, 8, 8, 8, 8, 8, 8, 8, 8, 8, 8, 8, 8, 8, 8, 8, 8, 8, 8, 8, 8, 8, 8, 8, 8, 8, 8, 8, 8, 8, 8, 8, 8, 8, 8, 8, 8, 8, 8, 8, 8, 8, 8, 8, 8, 8, 8, 8, 8, 8, 8, 8, 8, 8, 8, 8, 8, 8, 8, 8, 8]⟩ : ByteArray) (((a0 / 65536) / 256) % 256)))))) else (none)) else (none)) else (if 0 ≤ ((a0 / 65536) % 256) then (if ((a0 / 65536) % 256) < 256 then (some (wrap64 (16 + (wrap64 (bt (⟨#[0, 1, 2, 2, 3, 3, 3, 3, 4, 4, 4, 4, 4, 4, 4, 4, 5, 5, 5, 5, 5, 5, 5, 5, 5, 5, 5, 5, 5, 5, 5, 5, 6, 6, 6, 6, 6, 6, 6, 6, 6, 6, 6, 6, 6, 6, 6, 6, 6, 6, 6, 6, 6, 6, 6, 6, 6, 6, 6, 6, 6, 6, 6, 6, 7, 7, 7, 7, 7, 7, 7, 7, 7, 7, 7, 7, 7, 7, 7, 7, 7, 7, 7, 7, 7, 7, 7, 7, 7, 7, 7, 7, 7, 7, 7, 7, 7, 7, 7, 7, 7, 7, 7, 7, 7, 7, 7, 7, 7, 7, 7, 7, 7, 7, 7, 7, 7, 7, 7, 7, 7, 7, 7, 7, 7, 7, 7, 7, 8, 8, 8, 8, 8, 8, 8, 8, 8, 8, 8, 8, 8, 8, 8, 8, 8, 8, 8, 8, 8, 8, 8, 8, 8, 8, 8, 8, 8, 8, 8, 8, 8, 8, 8, 8, 8, 8, 8, 8, 8, 8, 8, 8, 8, 8, 8, 8, 8, 8, 8, 8, 8, 8, 8, 8, 8, 8, 8, 8, 8, 8, 8, 8, 8, 8, 8, 8, 8, 8, 8, 8, 8, 8, 8, 8, 8, 8, 8, 8, 8, 8, 8, 8, 8, 8, 8, 8, 8, 8, 8, 8, 8, 8, 8, 8, 8, 8, 8, 8, 8, 8, 8, 8, 8, 8, 8, 8, 8, 8, 8, 8, 8, 8, 8, 8, 8, 8, 8, 8, 8, 8, 8, 8, 8, 8, 8, 8]⟩ : ByteArray) ((a0 / 65536) % 256)))))) else (none)) else (none))) else (if a0 ≥ 256 then (if 0 ≤ ((a0 / 256) % 256) then (if ((a0 / 256) % 256) < 256 then (some (wrap64 ((0 + 8) + (wrap64 (bt (⟨#[0, 1, 2, 2, 3, 3, 3, 3, 4, 4, 4, 4, 4, 4, 4, 4, 5, 5, 5, 5, 5, 5, 5, 5, 5, 5, 5, 5, 5, 5, 5, 5, 6, 6, 6, 6, 6, 6, 6, 6, 6, 6, 6, 6, 6, 6, 6, 6, 6, 6, 6, 6, 6, 6, 6, 6, 6, 6, 6, 6, 6, 6, 6, 6, 7, 7, 7, 7, 7, 7, 7, 7, 7, 7, 7, 7, 7, 7, 7, 7, 7, 7, 7, 7, 7, 7, 7, 7, 7, 7, 7, 7, 7, 7, 7, 7, 7, 7, 7, 7, 7, 7, 7, 7, 7, 7, 7, 7, 7, 7, 7, 7, 7, 7, 7, 7, 7, 7, 7, 7, 7, 7, 7, 7, 7, 7, 7, 7, 8, 8, 8, 8, 8, 8, 8, 8, 8, 8, 8, 8, 8, 8, 8, 8, 8, 8, 8, 8, 8, 8, 8, 8, 8, 8, 8, 8, 8, 8, 8, 8, 8, 8, 8, 8, 8, 8, 8, 8, 8, 8, 8, 8, 8, 8, 8, 8, 8, 8, 8, 8, 8, 8, 8, 8, 8, 8, 8, 8, 8, 8, 8, 8, 8, 8, 8, 8, 8, 8, 8, 8, 8, 8, 8, 8, 8, 8, 8, 8, 8, 8, 8, 8, 8, 8, 8, 8, 8, 8, 8, 8, 8, 8, 8, 8, 8, 8, 8, 8, 8, 8, 8, 8, 8, 8, 8, 8, 8, 8, 8, 8, 8, 8, 8, 8, 8, 8, 8, 8, 8, 8, 8, 8, 8, 8, 8, 8]⟩ : ByteArray) ((a0 / 256) % 256)))))) else (none)) else (none)) else (if 0 ≤ ((a0) % 256) then (if ((a0) % 256) < 256 then (some (wrap64 (0 + (wrap64 (bt (⟨#[0, 1, 2, 2, 3, 3, 3, 3, 4, 4, 4, 4, 4, 4, 4, 4, 5, 5, 5, 5, 5, 5, 5, 5, 5, 5, 5, 5, 5, 5, 5, 5, 6, 6, 6, 6, 6, 6, 6, 6, 6, 6, 6, 6, 6, 6, 6, 6, 6, 6, 6, 6, 6, 6, 6, 6, 6, 6, 6, 6, 6, 6, 6, 6, 7, 7, 7, 7, 7, 7, 7, 7, 7, 7, 7, 7, 7, 7, 7, 7, 7, 7, 7, 7, 7, 7, 7, 7, 7, 7, 7, 7, 7, 7, 7, 7, 7, 7, 7, 7, 7, 7, 7, 7, 7, 7, 7, 7, 7, 7, 7, 7, 7, 7, 7, 7, 7, 7, 7, 7, 7, 7, 7, 7, 7, 7, 7, 7, 8, 8, 8, 8, 8, 8, 8, 8, 8, 8, 8, 8, 8, 8, 8, 8, 8, 8, 8, 8, 8, 8, 8, 8, 8, 8, 8, 8, 8, 8, 8, 8, 8, 8, 8, 8, 8, 8, 8, 8, 8, 8, 8, 8, 8, 8, 8, 8, 8, 8, 8, 8, 8, 8, 8, 8, 8, 8, 8, 8, 8, 8, 8, 8, 8, 8, 8, 8, 8, 8, 8, 8, 8, 8, 8, 8, 8, 8, 8, 8, 8, 8, 8, 8, 8, 8, 8, 8, 8, 8, 8, 8, 8, 8, 8, 8, 8, 8, 8, 8, 8, 8, 8, 8, 8, 8, 8, 8, 8, 8, 8, 8, 8, 8, 8, 8, 8, 8, 8, 8, 8, 8, 8, 8, 8, 8, 8, 8]⟩ : ByteArray) ((a0) % 256)))))) else (none)) else (none)))
def bits_LeadingZeros32.f (a0 : Int) : Option (Int) := (bits_Len32.f a0).bind fun t123 => (some (wrap64 (32 - t123)))
def mag_Cmp.l0 : Nat → List Int → List Int → Int → Option (Int)
 | 0, _, _, _ => none
 | k + 1, x0, x1, x5 => if x5 ≥ 0 then (if 0 ≤ x5 then (if x5 < (x0.length : Int) then (if x5 < (x1.length : Int) then (if (rd x0 x5) = (rd x1 x5) then (mag_Cmp.l0 k x0 x1 (wrap64 (x5 - 1))) else (if (rd x0 x5) < (rd x1 x5) then (some (-1)) else (some 1))) else (none)) else (none)) else (none)) else (some 0)
def mag_Cmp.f (k : Nat) (l0 : List Int) (l1 : List Int) : Option (Int) := if (l0.length : Int) = (l1.length : Int) then (mag_Cmp.l0 k l0 l1 (wrap64 ((l0.length : Int) - 1))) else (if (l0.length : Int) < (l1.length : Int) then (some (-1)) else (some 1))
def mag_divWord.l0 : Nat → List Int → Int → List Int → Int → Int → Option (List Int × Int)
 | 0, _, _, _, _, _ => none
 | k + 1, x0, x1, x6, x7, x8 => if x8 ≥ 0 then (if 0 ≤ x8 then (if x8 < (x0.length : Int) then (if (IntKind.u64.wrap (x1)) = 0 then (none) else (if x8 < (x6.length : Int) then (mag_divWord.l0 k x0 x1 (x6.set (x8 : Int).toNat ((IntKind.u64.wrap (Int.tdiv (Go.bits .or .u64 (IntKind.u64.wrap (x7 * 4294967296)) (IntKind.u64.wrap (rd x0 x8))) (IntKind.u64.wrap (x1)))) % 4294967296)) (Int.tmod (Go.bits .or .u64 (IntKind.u64.wrap (x7 * 4294967296)) (IntKind.u64.wrap (rd x0 x8))) (IntKind.u64.wrap (x1))) (wrap64 (x8 - 1))) else (none))) else (none)) else (none)) else ((mag_Trim.f k x6).bind fun t133 => (some (t133, (x7) % 4294967296)))
def mag_divWord.f (k : Nat) (l0 : List Int) (a1 : Int) : Option (List Int × Int) := if 0 ≤ (l0.length : Int) then (if ((l0.length : Int) : Int).toNat ≤ 70368744177664 then (mag_divWord.l0 k l0 a1 (List.replicate ((l0.length : Int) : Int).toNat 0) 0 (wrap64 ((l0.length : Int) - 1))) else (none)) else (none)
def mag_subtract.l0 : Nat → List Int → List Int → Int → Int → Int → List Int → Int → Int → Option (Bool × List Int)
 | 0, _, _, _, _, _, _, _, _ => none
 | k + 1, x0, x1, x2, x7, x8, x13, x14, x15 => if x15 < x14 then (if 0 ≤ x15 then (if x15 < (x13.length : Int) then (if x15 < (x0.length : Int) then (mag_subtract.l0 k (x0.set (x15 : Int).toNat ((IntKind.u64.wrap ((IntKind.u64.wrap ((IntKind.u64.wrap (rd x0 x15)) - ((IntKind.u64.wrap (x7 + (IntKind.u64.wrap (x2 * (IntKind.u64.wrap (rd x13 x15)))))) % 4294967296))) - x8)) % 4294967296)) x1 x2 ((IntKind.u64.wrap (x7 + (IntKind.u64.wrap (x2 * (IntKind.u64.wrap (rd x13 x15)))))) / 4294967296) ((IntKind.u64.wrap ((IntKind.u64.wrap ((IntKind.u64.wrap (rd x0 x15)) - ((IntKind.u64.wrap (x7 + (IntKind.u64.wrap (x2 * (IntKind.u64.wrap (rd x13 x15)))))) % 4294967296))) - x8)) / 9223372036854775808) x13 x14 (wrap64 (x15 + 1))) else (none)) else (none)) else (none)) else (if 0 ≤ (x1.length : Int) then (if (x1.length : Int) < (x0.length : Int) then (some ((((IntKind.u64.wrap ((IntKind.u64.wrap ((IntKind.u64.wrap (rd x0 (x1.length : Int))) - x7)) - x8)) / 9223372036854775808) == 1), (x0.set ((x1.length : Int) : Int).toNat ((IntKind.u64.wrap ((IntKind.u64.wrap ((IntKind.u64.wrap (rd x0 (x1.length : Int))) - x7)) - x8)) % 4294967296)))) else (none)) else (none))
def mag_subtract.f (k : Nat) (l0 : List Int) (l1 : List Int) (a2 : Int) : Option (Bool × List Int) := mag_subtract.l0 k l0 l1 a2 0 0 l1 (l1.length : Int) 0
def mag_subtractAt.f (k : Nat) (l0 : List Int) (b1_ b2_ : Int) (l1 : List Int) (a2 : Int) : Option (Bool × List Int) := (mag_subtract.f k ((l0.take b2_.toNat).drop b1_.toNat) l1 a2).bind fun p => some (p.1, l0.take b1_.toNat ++ p.2 ++ l0.drop b2_.toNat)
def mag_restore.l0 : Nat → List Int → List Int → Int → List Int → Int → Int → Option (List Int)
 | 0, _, _, _, _, _, _ => none
 | k + 1, x0, x1, x4, x7, x8, x9 => if x9 < x8 then (if 0 ≤ x9 then (if x9 < (x7.length : Int) then (if x9 < (x0.length : Int) then (mag_restore.l0 k (x0.set (x9 : Int).toNat ((IntKind.u64.wrap (x4 + (IntKind.u64.wrap ((IntKind.u64.wrap (rd x0 x9)) + (IntKind.u64.wrap (rd x7 x9)))))) % 4294967296)) x1 ((IntKind.u64.wrap (x4 + (IntKind.u64.wrap ((IntKind.u64.wrap (rd x0 x9)) + (IntKind.u64.wrap (rd x7 x9)))))) / 4294967296) x7 x8 (wrap64 (x9 + 1))) else (none)) else (none)) else (none)) else (if 0 ≤ (x1.length : Int) then (if (x1.length : Int) < (x0.length : Int) then (some (x0.set ((x1.length : Int) : Int).toNat (((rd x0 (x1.length : Int)) + ((x4) % 4294967296)) % 4294967296))) else (none)) else (none))
def mag_restore.f (k : Nat) (l0 : List Int) (l1 : List Int) : Option (List Int) := mag_restore.l0 k l0 l1 0 l1 (l1.length : Int) 0
def mag_restoreAt.f (k : Nat) (l0 : List Int) (b1_ b2_ : Int) (l1 : List Int) : Option (List Int) := (mag_restore.f k ((l0.take b2_.toNat).drop b1_.toNat) l1).bind fun p => some (l0.take b1_.toNat ++ p ++ l0.drop b2_.toNat)
def mag_Shr.l0 : Nat → List Int → Int → Int → List Int → Int → Int → Option (List Int)
 | 0, _, _, _, _, _, _ => none
 | k + 1, x0, x5, x6, x7, x25, x26 => if x26 < x25 then (if 0 ≤ (wrap64 (x26 + x5)) then (if (wrap64 (x26 + x5)) < (x0.length : Int) then (if (wrap64 ((wrap64 (x26 + x5)) + 1)) < (x0.length : Int) then (if 0 ≤ (wrap64 ((wrap64 (x26 + x5)) + 1)) then (if 0 ≤ x6 then (if 0 ≤ x26 then (if x26 < (x7.length : Int) then (mag_Shr.l0 k x0 x5 x6 (x7.set (x26 : Int).toNat ((shr .u64 (Go.bits .or .u64 (IntKind.u64.wrap (rd x0 (wrap64 (x26 + x5)))) (IntKind.u64.wrap ((IntKind.u64.wrap (rd x0 (wrap64 ((wrap64 (x26 + x5)) + 1)))) * 4294967296))) x6) % 4294967296)) x25 (wrap64 (x26 + 1))) else (none)) else (none)) else (none)) else (none)) else (if 0 ≤ x6 then (if 0 ≤ x26 then (if x26 < (x7.length : Int) then (mag_Shr.l0 k x0 x5 x6 (x7.set (x26 : Int).toNat ((shr .u64 (IntKind.u64.wrap (rd x0 (wrap64 (x26 + x5)))) x6) % 4294967296)) x25 (wrap64 (x26 + 1))) else (none)) else (none)) else (none))) else (none)) else (none)) else ((mag_Trim.f k x7).bind fun t153 => (some t153))
def mag_Shr.f (k : Nat) (l0 : List Int) (a1 : Int) : Option (List Int) := if (wrap64 (Int.tdiv a1 32)) ≥ (l0.length : Int) then (some ([] : List Int)) else (if 0 ≤ (wrap64 ((l0.length : Int) - (wrap64 (Int.tdiv a1 32)))) then (if (wrap64 ((l0.length : Int) - (wrap64 (Int.tdiv a1 32))) : Int).toNat ≤ 70368744177664 then ((some (List.replicate (wrap64 ((l0.length : Int) - (wrap64 (Int.tdiv a1 32))) : Int).toNat 0 : List Int)).bind fun y146 => (mag_Shr.l0 k l0 (wrap64 (Int.tdiv a1 32)) (IntKind.u64.wrap (Int.tmod a1 32)) y146 (y146.length : Int) 0)) else (none)) else (none))
mutual
def mag_DivMod.l0 : Nat → List Int → Int → List Int → List Int → Int → Int → Int → Int → Option (List Int × List Int)
 | 0, _, _, _, _, _, _, _, _ => none
 | k + 1, x4, x8, x9, x10, x11, x12, x13, x14 => if x14 ≥ 0 then (if 0 ≤ (wrap64 (x14 + x11)) then (if (wrap64 (x14 + x11)) < (x10.length : Int) then (if 0 ≤ (wrap64 ((wrap64 (x14 + x11)) - 1)) then (if (wrap64 ((wrap64 (x14 + x11)) - 1)) < (x10.length : Int) then (if x12 = 0 then (none) else (mag_DivMod.l1 k x4 x8 x9 x10 x11 x12 x13 x14 (IntKind.u64.wrap (Int.tdiv (Go.bits .or .u64 (IntKind.u64.wrap ((IntKind.u64.wrap (rd x10 (wrap64 (x14 + x11)))) * 4294967296)) (IntKind.u64.wrap (rd x10 (wrap64 ((wrap64 (x14 + x11)) - 1))))) x12)) (Int.tmod (Go.bits .or .u64 (IntKind.u64.wrap ((IntKind.u64.wrap (rd x10 (wrap64 (x14 + x11)))) * 4294967296)) (IntKind.u64.wrap (rd x10 (wrap64 ((wrap64 (x14 + x11)) - 1))))) x12))) else (none)) else (none)) else (none)) else (none)) else ((mag_Trim.f k x4).bind fun t185 => ((mag_Trim.f k x10).bind fun t188 => ((mag_Shr.f k t188 x8).bind fun t191 => (some (t185, t191)))))
def mag_DivMod.j3 : Nat → List Int → Int → List Int → List Int → Int → Int → Int → Int → Int → Option (List Int × List Int)
 | 0, _, _, _, _, _, _, _, _, _ => none
 | k + 1, x4, x8, x9, x10, x11, x12, x13, x14, x16 => if 0 ≤ x14 then (if x14 < (wrap64 ((wrap64 (x14 + x11)) + 1)) then (if (wrap64 ((wrap64 (x14 + x11)) + 1)) ≤ (x10.length : Int) then ((mag_subtractAt.f k x10 x14 (wrap64 ((wrap64 (x14 + x11)) + 1)) x9 x16).bind fun bt198 => (if bt198.1 = true then ((mag_restoreAt.f k bt198.2 x14 (wrap64 ((wrap64 (x14 + x11)) + 1)) x9).bind fun t201 => (if x14 < (x4.length : Int) then (mag_DivMod.l0 k (x4.set (x14 : Int).toNat ((IntKind.u64.wrap (x16 - 1)) % 4294967296)) x8 x9 t201 x11 x12 x13 (wrap64 (x14 - 1))) else (none))) else (if x14 < (x4.length : Int) then (mag_DivMod.l0 k (x4.set (x14 : Int).toNat ((x16) % 4294967296)) x8 x9 bt198.2 x11 x12 x13 (wrap64 (x14 - 1))) else (none)))) else (none)) else (none)) else (none)
def mag_DivMod.l1 : Nat → List Int → Int → List Int → List Int → Int → Int → Int → Int → Int → Int → Option (List Int × List Int)
 | 0, _, _, _, _, _, _, _, _, _, _ => none
 | k + 1, x4, x8, x9, x10, x11, x12, x13, x14, x16, x17 => if x16 ≥ 4294967296 then (mag_DivMod.j2 k x4 x8 x9 x10 x11 x12 x13 x14 x16 x17 true) else (if 0 ≤ (wrap64 ((wrap64 (x14 + x11)) - 2)) then (if (wrap64 ((wrap64 (x14 + x11)) - 2)) < (x10.length : Int) then (mag_DivMod.j2 k x4 x8 x9 x10 x11 x12 x13 x14 x16 x17 (decide ((IntKind.u64.wrap (x16 * x13)) > (Go.bits .or .u64 (IntKind.u64.wrap (x17 * 4294967296)) (IntKind.u64.wrap (rd x10 (wrap64 ((wrap64 (x14 + x11)) - 2)))))))) else (none)) else (none))
def mag_DivMod.j2 : Nat → List Int → Int → List Int → List Int → Int → Int → Int → Int → Int → Int → Bool → Option (List Int × List Int)
 | 0, _, _, _, _, _, _, _, _, _, _, _ => none
 | k + 1, x4, x8, x9, x10, x11, x12, x13, x14, x16, x17, x127 => if x127 = true then (if (IntKind.u64.wrap (x17 + x12)) ≥ 4294967296 then (mag_DivMod.j3 k x4 x8 x9 x10 x11 x12 x13 x14 (IntKind.u64.wrap (x16 - 1))) else (mag_DivMod.l1 k x4 x8 x9 x10 x11 x12 x13 x14 (IntKind.u64.wrap (x16 - 1)) (IntKind.u64.wrap (x17 + x12)))) else (mag_DivMod.j3 k x4 x8 x9 x10 x11 x12 x13 x14 x16)
end
def mag_DivMod.f (k : Nat) (l0 : List Int) (l1 : List Int) : Option (List Int × List Int) := (mag_Cmp.f k l0 l1).bind fun t156 => (if t156 < 0 then (if ([] : List Int).length + l0.length < 35184372088832 then (some (([] : List Int), (([] : List Int) ++ l0))) else (none)) else (if (l1.length : Int) = 1 then (if 0 < (l1.length : Int) then ((mag_divWord.f k l0 (rd l1 0)).bind fun bt161 => ((mag_From.f k (IntKind.u64.wrap (bt161.2))).bind fun t165 => (some (bt161.1, t165)))) else (none)) else (if 0 ≤ (wrap64 ((l1.length : Int) - 1)) then (if (wrap64 ((l1.length : Int) - 1)) < (l1.length : Int) then ((bits_LeadingZeros32.f (rd l1 (wrap64 ((l1.length : Int) - 1)))).bind fun t169 => ((mag_Shl.f k l1 t169).bind fun t170 => (if 0 ≤ (wrap64 ((l0.length : Int) + 1)) then (if (wrap64 ((l0.length : Int) + 1) : Int).toNat ≤ 70368744177664 then ((some (List.replicate (wrap64 ((l0.length : Int) + 1) : Int).toNat 0 : List Int)).bind fun y173 => ((mag_Shl.f k l0 t169).bind fun t176 => (if 0 ≤ (wrap64 ((y173.length : Int) - (t170.length : Int))) then (if (wrap64 ((y173.length : Int) - (t170.length : Int)) : Int).toNat ≤ 70368744177664 then (if 0 ≤ (wrap64 ((t170.length : Int) - 1)) then (if (wrap64 ((t170.length : Int) - 1)) < (t170.length : Int) then (if 0 ≤ (wrap64 ((t170.length : Int) - 2)) then (if (wrap64 ((t170.length : Int) - 2)) < (t170.length : Int) then (mag_DivMod.l0 k (List.replicate (wrap64 ((y173.length : Int) - (t170.length : Int)) : Int).toNat 0) t169 t170 (cpy y173 t176) (t170.length : Int) (IntKind.u64.wrap (rd t170 (wrap64 ((t170.length : Int) - 1)))) (IntKind.u64.wrap (rd t170 (wrap64 ((t170.length : Int) - 2)))) (wrap64 ((wrap64 ((y173.length : Int) - (t170.length : Int))) - 1))) else (none)) else (none)) else (none)) else (none)) else (none)) else (none)))) else (none)) else (none)))) else (none)) else (none))))
def mag_Small.f (l0 : List Int) : Option (Int × Bool) := if (l0.length : Int) = 0 then (some (0, true)) else (if (l0.length : Int) = 1 then (if 0 < (l0.length : Int) then (some (IntKind.u64.wrap (rd l0 0), true)) else (none)) else (if (l0.length : Int) = 2 then (if 1 < (l0.length : Int) then (if 0 < (l0.length : Int) then (some (Go.bits .or .u64 (IntKind.u64.wrap ((IntKind.u64.wrap (rd l0 1)) * 4294967296)) (IntKind.u64.wrap (rd l0 0)), true)) else (none)) else (none)) else (some (0, false))))
def mag_Bits.f (l0 : List Int) : Option (Int) := if (l0.length : Int) = 0 then (some 0) else (if 0 ≤ (wrap64 ((l0.length : Int) - 1)) then (if (wrap64 ((l0.length : Int) - 1)) < (l0.length : Int) then ((bits_LeadingZeros32.f (rd l0 (wrap64 ((l0.length : Int) - 1)))).bind fun t208 => (some (wrap64 ((wrap64 (32 * (l0.length : Int))) - t208)))) else (none)) else (none))
mutual
def mag_Mul.j0 : Nat → List Int → List Int → Bool → Option (List Int)
 | 0, _, _, _ => none
 | k + 1, x0, x1, x18 => if x18 = true then (some ([] : List Int)) else (if 0 ≤ (wrap64 ((x0.length : Int) + (x1.length : Int))) then (if (wrap64 ((x0.length : Int) + (x1.length : Int)) : Int).toNat ≤ 70368744177664 then (mag_Mul.l0 k x1 (List.replicate (wrap64 ((x0.length : Int) + (x1.length : Int)) : Int).toNat 0) x0 (x0.length : Int) 0) else (none)) else (none))
def mag_Mul.l0 : Nat → List Int → List Int → List Int → Int → Int → Option (List Int)
 | 0, _, _, _, _, _ => none
 | k + 1, x1, x5, x25, x26, x27 => if x27 < x26 then (if 0 ≤ x27 then (if x27 < (x25.length : Int) then (mag_Mul.l1 k x1 x5 x27 (rd x25 x27) 0 x25 x26 x27 x1 (x1.length : Int) 0) else (none)) else (none)) else ((mag_Trim.f k x5).bind fun t212 => (some t212))
def mag_Mul.l1 : Nat → List Int → List Int → Int → Int → Int → List Int → Int → Int → List Int → Int → Int → Option (List Int)
 | 0, _, _, _, _, _, _, _, _, _, _, _ => none
 | k + 1, x1, x5, x6, x7, x8, x25, x26, x27, x32, x33, x34 => if x34 < x33 then (if 0 ≤ x34 then (if x34 < (x32.length : Int) then (if 0 ≤ (wrap64 (x6 + x34)) then (if (wrap64 (x6 + x34)) < (x5.length : Int) then (mag_Mul.l1 k x1 (x5.set ((wrap64 (x6 + x34)) : Int).toNat ((IntKind.u64.wrap (x8 + (IntKind.u64.wrap ((IntKind.u64.wrap ((IntKind.u64.wrap (x7)) * (IntKind.u64.wrap (rd x32 x34)))) + (IntKind.u64.wrap (rd x5 (wrap64 (x6 + x34)))))))) % 4294967296)) x6 x7 ((IntKind.u64.wrap (x8 + (IntKind.u64.wrap ((IntKind.u64.wrap ((IntKind.u64.wrap (x7)) * (IntKind.u64.wrap (rd x32 x34)))) + (IntKind.u64.wrap (rd x5 (wrap64 (x6 + x34)))))))) / 4294967296) x25 x26 x27 x32 x33 (wrap64 (x34 + 1))) else (none)) else (none)) else (none)) else (none)) else (if 0 ≤ (wrap64 (x6 + (x1.length : Int))) then (if (wrap64 (x6 + (x1.length : Int))) < (x5.length : Int) then (mag_Mul.l0 k x1 (x5.set ((wrap64 (x6 + (x1.length : Int))) : Int).toNat ((x8) % 4294967296)) x25 x26 (wrap64 (x27 + 1))) else (none)) else (none))
end
def mag_Mul.f (k : Nat) (l0 : List Int) (l1 : List Int) : Option (List Int) := if (l0.length : Int) = 0 then (mag_Mul.j0 k l0 l1 true) else (mag_Mul.j0 k l0 l1 ((l1.length : Int) == 0))
def mag_Sub.l0 : Nat → List Int → List Int → Int → List Int → Int → Int → Option (List Int)
 | 0, _, _, _, _, _, _ => none
 | k + 1, x1, x5, x6, x13, x14, x15 => if x15 < x14 then (if 0 ≤ x15 then (if x15 < (x13.length : Int) then (if x15 < (x1.length : Int) then (if x15 < (x5.length : Int) then (mag_Sub.l0 k x1 (x5.set (x15 : Int).toNat ((IntKind.u64.wrap ((IntKind.u64.wrap ((IntKind.u64.wrap (rd x13 x15)) - x6)) - (IntKind.u64.wrap (rd x1 x15)))) % 4294967296)) ((IntKind.u64.wrap ((IntKind.u64.wrap ((IntKind.u64.wrap (rd x13 x15)) - x6)) - (IntKind.u64.wrap (rd x1 x15)))) / 9223372036854775808) x13 x14 (wrap64 (x15 + 1))) else (none)) else (if x15 < (x5.length : Int) then (mag_Sub.l0 k x1 (x5.set (x15 : Int).toNat ((IntKind.u64.wrap ((IntKind.u64.wrap (rd x13 x15)) - x6)) % 4294967296)) ((IntKind.u64.wrap ((IntKind.u64.wrap (rd x13 x15)) - x6)) / 9223372036854775808) x13 x14 (wrap64 (x15 + 1))) else (none))) else (none)) else (none)) else ((mag_Trim.f k x5).bind fun t227 => (some t227))
def mag_Sub.f (k : Nat) (l0 : List Int) (l1 : List Int) : Option (List Int) := if 0 ≤ (l0.length : Int) then (if ((l0.length : Int) : Int).toNat ≤ 70368744177664 then (mag_Sub.l0 k l1 (List.replicate ((l0.length : Int) : Int).toNat 0) 0 l0 (l0.length : Int) 0) else (none)) else (none)
def mag_combine.j0 : Nat → List Int → List Int → Int → Int → Bool → Option (List Int)
 | 0, _, _, _, _, _ => none
 | k + 1, x0, x1, x2, x3, x14 => if x14 = true then ((mag_From.f k (IntKind.u64.wrap (x3))).bind fun t230 => ((mag_Mul.f k x1 t230).bind fun t233 => ((mag_From.f k (IntKind.u64.wrap (wrap64 (-x2)))).bind fun t236 => ((mag_Mul.f k x0 t236).bind fun t239 => ((mag_Sub.f k t233 t239).bind fun t242 => (some t242)))))) else ((mag_From.f k (IntKind.u64.wrap (x2))).bind fun t245 => ((mag_Mul.f k x0 t245).bind fun t248 => ((mag_From.f k (IntKind.u64.wrap (wrap64 (-x3)))).bind fun t251 => ((mag_Mul.f k x1 t251).bind fun t254 => ((mag_Sub.f k t248 t254).bind fun t257 => (some t257))))))
def mag_combine.f (k : Nat) (l0 : List Int) (l1 : List Int) (a2 : Int) (a3 : Int) : Option (List Int) := if a2 < 0 then (mag_combine.j0 k l0 l1 a2 a3 true) else (mag_combine.j0 k l0 l1 a2 a3 (decide (a3 > 0)))
mutual
def mag_lehmer.j2 : Nat → List Int → List Int → Int → Int → Int → Int → Option (List Int × List Int × Bool)
 | 0, _, _, _, _, _, _ => none
 | k + 1, x0, x1, x12, x13, x14, x15 => if x13 = 0 then (some (([] : List Int), ([] : List Int), false)) else ((mag_combine.f k x0 x1 x12 x13).bind fun t272 => ((mag_combine.f k x0 x1 x14 x15).bind fun t275 => (some (t272, t275, true))))
def mag_lehmer.l0 : Nat → List Int → List Int → Int → Int → Int → Int → Int → Int → Option (List Int × List Int × Bool)
 | 0, _, _, _, _, _, _, _, _ => none
 | k + 1, x0, x1, x12, x13, x14, x15, x16, x17 => if (wrap64 (x17 + x14)) = 0 then (mag_lehmer.j1 k x0 x1 x12 x13 x14 x15 x16 x17 false) else (mag_lehmer.j1 k x0 x1 x12 x13 x14 x15 x16 x17 ((wrap64 (x17 + x15)) != 0))
def mag_lehmer.j1 : Nat → List Int → List Int → Int → Int → Int → Int → Int → Int → Bool → Option (List Int × List Int × Bool)
 | 0, _, _, _, _, _, _, _, _, _ => none
 | k + 1, x0, x1, x12, x13, x14, x15, x16, x17, x55 => if x55 = true then (if (wrap64 (x17 + x14)) = 0 then (none) else (if (wrap64 (x17 + x15)) = 0 then (none) else (if (wrap64 (Int.tdiv (wrap64 (x16 + x12)) (wrap64 (x17 + x14)))) = (wrap64 (Int.tdiv (wrap64 (x16 + x13)) (wrap64 (x17 + x15)))) then (mag_lehmer.l0 k x0 x1 x14 x15 (wrap64 (x12 - (wrap64 ((wrap64 (Int.tdiv (wrap64 (x16 + x12)) (wrap64 (x17 + x14)))) * x14)))) (wrap64 (x13 - (wrap64 ((wrap64 (Int.tdiv (wrap64 (x16 + x12)) (wrap64 (x17 + x14)))) * x15)))) x17 (wrap64 (x16 - (wrap64 ((wrap64 (Int.tdiv (wrap64 (x16 + x12)) (wrap64 (x17 + x14)))) * x17))))) else (mag_lehmer.j2 k x0 x1 x12 x13 x14 x15)))) else (mag_lehmer.j2 k x0 x1 x12 x13 x14 x15)
end
def mag_lehmer.f (k : Nat) (l0 : List Int) (l1 : List Int) : Option (List Int × List Int × Bool) := (mag_Bits.f l0).bind fun t260 => ((mag_Bits.f l1).bind fun t261 => (if t261 < (wrap64 (t260 - 20)) then (some (([] : List Int), ([] : List Int), false)) else ((mag_Shr.f k l0 (wrap64 (t260 - 31))).bind fun t262 => ((mag_Small.f t262).bind fun bt265 => ((mag_Shr.f k l1 (wrap64 (t260 - 31))).bind fun t267 => ((mag_Small.f t267).bind fun bt270 => (mag_lehmer.l0 k l0 l1 1 0 0 1 (wrap64 (bt265.1)) (wrap64 (bt270.1)))))))))
mutual
def mag_GCD.j0 : Nat → List Int → List Int → Option (List Int)
 | 0, _, _ => none
 | k + 1, x0, x1 => mag_GCD.l0 k x0 x1
def mag_GCD.l0 : Nat → List Int → List Int → Option (List Int)
 | 0, _, _ => none
 | k + 1, x0, x1 => if (x1.length : Int) > 2 then ((mag_lehmer.f k x0 x1).bind fun bt279 => (if bt279.2.2 = true then (mag_GCD.l0 k bt279.1 bt279.2.1) else ((mag_DivMod.f k x0 x1).bind fun bt286 => (mag_GCD.l0 k x1 bt286.2)))) else (if (x1.length : Int) = 0 then (if ([] : List Int).length + x0.length < 35184372088832 then (some (([] : List Int) ++ x0)) else (none)) else ((mag_DivMod.f k x0 x1).bind fun bt295 => ((mag_Small.f x1).bind fun bt301 => ((mag_Small.f bt295.2).bind fun bt303 => (mag_GCD.l1 k bt301.1 bt303.1)))))
def mag_GCD.l1 : Nat → Int → Int → Option (List Int)
 | 0, _, _ => none
 | k + 1, x12, x14 => if x14 = 0 then ((mag_From.f k x12).bind fun t305 => (some t305)) else (mag_GCD.l1 k x14 (Int.tmod x12 x14))
end
def mag_GCD.f (k : Nat) (l0 : List Int) (l1 : List Int) : Option (List Int) := (mag_Cmp.f k l0 l1).bind fun t278 => (if t278 < 0 then (mag_GCD.j0 k l1 l0) else (mag_GCD.j0 k l0 l1))
def num_Zero.f  : Option (Bool × List Int × List Int) := some (false, ([] : List Int), (([1] : List Int)))
def num_Make.j0 : Nat → Bool → List Int → List Int → List Int → Bool → Option (Bool × List Int × List Int)
 | 0, _, _, _, _, _ => none
 | k + 1, x0, x1, x2, x7, x23 => if x23 = true then ((mag_DivMod.f k x1 x7).bind fun bt344 => ((mag_DivMod.f k x2 x7).bind fun bt350 => (if ([] : List Int).length + bt344.1.length < 35184372088832 then (if ([] : List Int).length + bt350.1.length < 35184372088832 then (some (x0, (([] : List Int) ++ bt344.1), (([] : List Int) ++ bt350.1))) else (none)) else (none)))) else (if ([] : List Int).length + x1.length < 35184372088832 then (if ([] : List Int).length + x2.length < 35184372088832 then (some (x0, (([] : List Int) ++ x1), (([] : List Int) ++ x2))) else (none)) else (none))
def num_Make.f (k : Nat) (a0 : Bool) (l1 : List Int) (l2 : List Int) : Option (Bool × List Int × List Int) := if (l1.length : Int) = 0 then ((num_Zero.f).bind fun bt333 => (some (bt333.1, bt333.2.1, bt333.2.2))) else ((mag_GCD.f k l1 l2).bind fun t340 => (if (t340.length : Int) = 1 then (if 0 < (t340.length : Int) then (num_Make.j0 k a0 l1 l2 t340 ((rd t340 0) != 1)) else (none)) else (num_Make.j0 k a0 l1 l2 t340 true)))
mutual
def mag_Add.j0 : Nat → List Int → List Int → Option (List Int)
 | 0, _, _ => none
 | k + 1, x0, x1 => if 0 ≤ (wrap64 ((x0.length : Int) + 1)) then (if (wrap64 ((x0.length : Int) + 1) : Int).toNat ≤ 70368744177664 then (mag_Add.l0 k x0 x1 (List.replicate (wrap64 ((x0.length : Int) + 1) : Int).toNat 0) 0 x0 (x0.length : Int) 0) else (none)) else (none)
def mag_Add.l0 : Nat → List Int → List Int → List Int → Int → List Int → Int → Int → Option (List Int)
 | 0, _, _, _, _, _, _, _ => none
 | k + 1, x0, x1, x5, x6, x20, x21, x22 => if x22 < x21 then (if 0 ≤ x22 then (if x22 < (x20.length : Int) then (if x22 < (x1.length : Int) then (if x22 < (x5.length : Int) then (mag_Add.l0 k x0 x1 (x5.set (x22 : Int).toNat ((IntKind.u64.wrap ((IntKind.u64.wrap (x6 + (IntKind.u64.wrap (rd x20 x22)))) + (IntKind.u64.wrap (rd x1 x22)))) % 4294967296)) ((IntKind.u64.wrap ((IntKind.u64.wrap (x6 + (IntKind.u64.wrap (rd x20 x22)))) + (IntKind.u64.wrap (rd x1 x22)))) / 4294967296) x20 x21 (wrap64 (x22 + 1))) else (none)) else (if x22 < (x5.length : Int) then (mag_Add.l0 k x0 x1 (x5.set (x22 : Int).toNat ((IntKind.u64.wrap (x6 + (IntKind.u64.wrap (rd x20 x22)))) % 4294967296)) ((IntKind.u64.wrap (x6 + (IntKind.u64.wrap (rd x20 x22)))) / 4294967296) x20 x21 (wrap64 (x22 + 1))) else (none))) else (none)) else (none)) else (if 0 ≤ (x0.length : Int) then (if (x0.length : Int) < (x5.length : Int) then ((mag_Trim.f k (x5.set ((x0.length : Int) : Int).toNat ((x6) % 4294967296))).bind fun t376 => (some t376)) else (none)) else (none))
end
def mag_Add.f (k : Nat) (l0 : List Int) (l1 : List Int) : Option (List Int) := if (l0.length : Int) < (l1.length : Int) then (mag_Add.j0 k l1 l0) else (mag_Add.j0 k l0 l1)
def num_Add.j0 : Nat → List Int → List Int → List Int → Bool → List Int → List Int → Bool → List Int → List Int → Option (Bool × List Int × List Int)
 | 0, _, _, _, _, _, _, _, _, _ => none
 | k + 1, x5, x6, x7, x380000, x380001, x380002, x381000, x381001, x381002 => if (x380000 == x381000) = true then ((mag_Add.f k x5 x6).bind fun t392 => ((num_Make.f k x380000 t392 x7).bind fun bt395 => (some (bt395.1, bt395.2.1, bt395.2.2)))) else ((mag_Cmp.f k x5 x6).bind fun t402 => (if t402 ≥ 0 then ((mag_Sub.f k x5 x6).bind fun t403 => ((num_Make.f k x380000 t403 x7).bind fun bt406 => (some (bt406.1, bt406.2.1, bt406.2.2)))) else ((mag_Sub.f k x6 x5).bind fun t413 => ((num_Make.f k x381000 t413 x7).bind fun bt416 => (some (bt416.1, bt416.2.1, bt416.2.2))))))
def nat_Valid.f (l0 : List Int) : Option (Bool) := if (l0.length : Int) ≤ 4096 then (if (l0.length : Int) = 0 then (some true) else (if 0 ≤ (wrap64 ((l0.length : Int) - 1)) then (if (wrap64 ((l0.length : Int) - 1)) < (l0.length : Int) then (some ((rd l0 (wrap64 ((l0.length : Int) - 1))) != 0)) else (none)) else (none))) else (some false)
mutual
def nat_digits.l0 : Nat → Int → Int → List Int → Option (List Int)
 | 0, _, _, _ => none
 | k + 1, x0, x1, x5 => if x0 > 0 then (if x5.length < 140737488355328 then (nat_digits.l0 k (IntKind.u64.wrap (Int.tdiv x0 10)) x1 (x5 ++ [(IntKind.u64.wrap (48 + (Int.tmod x0 10))) % 256])) else (none)) else (if (x5.length : Int) < x1 then (if x5.length < 140737488355328 then (nat_digits.l0 k (IntKind.u64.wrap (Int.tdiv x0 10)) x1 (x5 ++ [(IntKind.u64.wrap (48 + (Int.tmod x0 10))) % 256])) else (none)) else (nat_digits.l1 k x5 0 (wrap64 ((x5.length : Int) - 1))))
def nat_digits.l1 : Nat → List Int → Int → Int → Option (List Int)
 | 0, _, _, _ => none
 | k + 1, x5, x6, x7 => if x6 < x7 then (if 0 ≤ x7 then (if x7 < (x5.length : Int) then (if 0 ≤ x6 then (if x6 < (x5.length : Int) then (nat_digits.l1 k ((x5.set (x6 : Int).toNat (rd x5 x7)).set (x7 : Int).toNat (rd x5 x6)) (wrap64 (x6 + 1)) (wrap64 (x7 - 1))) else (none)) else (none)) else (none)) else (none)) else (some x5)
end
def nat_digits.f (k : Nat) (a0 : Int) (a1 : Int) : Option (List Int) := nat_digits.l0 k a0 a1 ([] : List Int)
mutual
def nat_Text.l0 : Nat → List Int → List Int → List Int → Option (ByteArray × Int)
 | 0, _, _, _ => none
 | k + 1, x0, x4, x5 => if (x0.length : Int) > 0 then ((mag_DivMod.f k x0 x5).bind fun bt441 => ((mag_Small.f bt441.2).bind fun bt447 => (if x4.length < 17592186044416 then (nat_Text.l0 k bt441.1 (x4 ++ [bt447.1]) x5) else (none)))) else (if 0 ≤ (wrap64 ((x4.length : Int) - 1)) then (if (wrap64 ((x4.length : Int) - 1)) < (x4.length : Int) then ((nat_digits.f k (rd x4 (wrap64 ((x4.length : Int) - 1))) 0).bind fun t453 => (nat_Text.l1 k x4 t453 (wrap64 ((x4.length : Int) - 2)))) else (none)) else (none))
def nat_Text.l1 : Nat → List Int → List Int → Int → Option (ByteArray × Int)
 | 0, _, _, _ => none
 | k + 1, x4, x10, x11 => if x11 ≥ 0 then (if 9 ≤ 281474976710656 then (if 0 ≤ x11 then (if x11 < (x4.length : Int) then ((nat_digits.f k (rd x4 x11) 9).bind fun t460 => ((some (cpy (List.replicate 9 0) t460 : List Int)).bind fun y463 => (if x10.length + y463.length < 140737488355328 then (nat_Text.l1 k x4 (x10 ++ y463) (wrap64 (x11 - 1))) else (none)))) else (none)) else (none)) else (none)) else (some (strOfNums x10, 0))
end
def nat_Text.f (k : Nat) (l0 : List Int) : Option (ByteArray × Int) := (nat_Valid.f l0).bind fun t437 => (if t437 = true then (if (l0.length : Int) = 0 then (some ((⟨#[48]⟩ : ByteArray), 0)) else ((mag_From.f k 1000000000).bind fun t438 => (nat_Text.l0 k l0 ([] : List Int) t438))) else (some ((⟨#[]⟩ : ByteArray), 3)))
def rat_Make.j0 : Nat → Bool → List Int → List Int → Bool → Option (Bool × List Int × List Int × Int)
 | 0, _, _, _, _ => none
 | k + 1, x0, x1, x2, x8 => if x8 = true then (some (false, ([] : List Int), ([] : List Int), 3)) else (if (x2.length : Int) = 0 then (some (false, ([] : List Int), ([] : List Int), 20)) else ((num_Make.f k x0 x1 x2).bind fun bt490 => (some (bt490.1, bt490.2.1, bt490.2.2, 0))))
def isochroneref01_Int.l0 : Nat → Int → List Int → Option (List Int)
 | 0, _, _ => none
 | k + 1, x0, x3 => if x0 > 0 then (if x3.length < 17592186044416 then (isochroneref01_Int.l0 k (wrap64 (Int.tdiv x0 10000)) (x3 ++ [Int.tmod x0 10000])) else (none)) else (some x3)
def isochroneref01_Int.f (k : Nat) (a0 : Int) : Option (List Int) := isochroneref01_Int.l0 k a0 (([] : List Int))
mutual
def isochroneref01_Add.l0 : Nat → List Int → List Int → List Int → Int → Int → Option (List Int)
 | 0, _, _, _, _, _ => none
 | k + 1, x0, x1, x5, x6, x7 => if x7 < (x0.length : Int) then (isochroneref01_Add.j1 k x0 x1 x5 x6 x7 true) else (if x7 < (x1.length : Int) then (isochroneref01_Add.j1 k x0 x1 x5 x6 x7 true) else (isochroneref01_Add.j1 k x0 x1 x5 x6 x7 (decide (x6 > 0))))
def isochroneref01_Add.j1 : Nat → List Int → List Int → List Int → Int → Int → Bool → Option (List Int)
 | 0, _, _, _, _, _, _ => none
 | k + 1, x0, x1, x5, x6, x7, x21 => if x21 = true then (if x7 < (x0.length : Int) then (if 0 ≤ x7 then (if x7 < (x1.length : Int) then (if x5.length < 17592186044416 then (isochroneref01_Add.l0 k x0 x1 (x5 ++ [Int.tmod (wrap64 ((wrap64 (x6 + (rd x0 x7))) + (rd x1 x7))) 10000]) (wrap64 (Int.tdiv (wrap64 ((wrap64 (x6 + (rd x0 x7))) + (rd x1 x7))) 10000)) (wrap64 (x7 + 1))) else (none)) else (if x5.length < 17592186044416 then (isochroneref01_Add.l0 k x0 x1 (x5 ++ [Int.tmod (wrap64 (x6 + (rd x0 x7))) 10000]) (wrap64 (Int.tdiv (wrap64 (x6 + (rd x0 x7))) 10000)) (wrap64 (x7 + 1))) else (none))) else (none)) else (if x7 < (x1.length : Int) then (if 0 ≤ x7 then (if x5.length < 17592186044416 then (isochroneref01_Add.l0 k x0 x1 (x5 ++ [Int.tmod (wrap64 (x6 + (rd x1 x7))) 10000]) (wrap64 (Int.tdiv (wrap64 (x6 + (rd x1 x7))) 10000)) (wrap64 (x7 + 1))) else (none)) else (none)) else (if x5.length < 17592186044416 then (isochroneref01_Add.l0 k x0 x1 (x5 ++ [Int.tmod x6 10000]) (wrap64 (Int.tdiv x6 10000)) (wrap64 (x7 + 1))) else (none)))) else (some x5)
end
def isochroneref01_Add.f (k : Nat) (l0 : List Int) (l1 : List Int) : Option (List Int) := isochroneref01_Add.l0 k l0 l1 ([] : List Int) 0 0
def isochroneref01_trim.l0 : Nat → List Int → Int → Option (List Int)
 | 0, _, _ => none
 | k + 1, x0, x3 => if x3 > 0 then (if 0 ≤ (wrap64 (x3 - 1)) then (if (wrap64 (x3 - 1)) < (x0.length : Int) then (if (rd x0 (wrap64 (x3 - 1))) = 0 then (isochroneref01_trim.l0 k x0 (wrap64 (x3 - 1))) else (if 0 ≤ x3 then (if x3 ≤ (x0.length : Int) then (some (x0.take (x3 : Int).toNat)) else (none)) else (none))) else (none)) else (none)) else (if 0 ≤ x3 then (if x3 ≤ (x0.length : Int) then (some (x0.take (x3 : Int).toNat)) else (none)) else (none))
def isochroneref01_trim.f (k : Nat) (l0 : List Int) : Option (List Int) := isochroneref01_trim.l0 k l0 (l0.length : Int)
mutual
def isochroneref01_Mul.l0 : Nat → List Int → List Int → List Int → Int → Int → Option (List Int)
 | 0, _, _, _, _, _ => none
 | k + 1, x1, x5, x19, x20, x21 => if x21 < x20 then (if 0 ≤ x21 then (if x21 < (x19.length : Int) then (isochroneref01_Mul.l1 k x1 x5 x21 (rd x19 x21) 0 x19 x20 x21 x1 (x1.length : Int) 0) else (none)) else (none)) else ((isochroneref01_trim.f k x5).bind fun t555 => (some t555))
def isochroneref01_Mul.l1 : Nat → List Int → List Int → Int → Int → Int → List Int → Int → Int → List Int → Int → Int → Option (List Int)
 | 0, _, _, _, _, _, _, _, _, _, _, _ => none
 | k + 1, x1, x5, x6, x7, x8, x19, x20, x21, x26, x27, x28 => if x28 < x27 then (if 0 ≤ x28 then (if x28 < (x26.length : Int) then (if 0 ≤ (wrap64 (x6 + x28)) then (if (wrap64 (x6 + x28)) < (x5.length : Int) then (isochroneref01_Mul.l1 k x1 (x5.set ((wrap64 (x6 + x28)) : Int).toNat (Int.tmod (wrap64 (x8 + (wrap64 ((rd x5 (wrap64 (x6 + x28))) + (wrap64 (x7 * (rd x26 x28))))))) 10000)) x6 x7 (wrap64 (Int.tdiv (wrap64 (x8 + (wrap64 ((rd x5 (wrap64 (x6 + x28))) + (wrap64 (x7 * (rd x26 x28))))))) 10000)) x19 x20 x21 x26 x27 (wrap64 (x28 + 1))) else (none)) else (none)) else (none)) else (none)) else (isochroneref01_Mul.l2 k x1 x5 x8 (wrap64 (x6 + (x1.length : Int))) x19 x20 x21)
def isochroneref01_Mul.l2 : Nat → List Int → List Int → Int → Int → List Int → Int → Int → Option (List Int)
 | 0, _, _, _, _, _, _, _ => none
 | k + 1, x1, x5, x8, x11, x19, x20, x21 => if x8 > 0 then (if 0 ≤ x11 then (if x11 < (x5.length : Int) then (isochroneref01_Mul.l2 k x1 (x5.set (x11 : Int).toNat (Int.tmod (wrap64 (x8 + (rd x5 x11))) 10000)) (wrap64 (Int.tdiv (wrap64 (x8 + (rd x5 x11))) 10000)) (wrap64 (x11 + 1)) x19 x20 x21) else (none)) else (none)) else (isochroneref01_Mul.l0 k x1 x5 x19 x20 (wrap64 (x21 + 1)))
end
def isochroneref01_Mul.f (k : Nat) (l0 : List Int) (l1 : List Int) : Option (List Int) := if 0 ≤ (wrap64 ((wrap64 ((l0.length : Int) + (l1.length : Int))) + 1)) then (if (wrap64 ((wrap64 ((l0.length : Int) + (l1.length : Int))) + 1) : Int).toNat ≤ 35184372088832 then (isochroneref01_Mul.l0 k l1 (List.replicate (wrap64 ((wrap64 ((l0.length : Int) + (l1.length : Int))) + 1) : Int).toNat 0) l0 (l0.length : Int) 0) else (none)) else (none)
mutual
def isochroneref01_Small.l0 : Nat → Int → Int → List Int → List Int → Int → Int → Option (List Int)
 | 0, _, _, _, _, _, _ => none
 | k + 1, x1, x2, x7, x14, x15, x16 => if x16 < x15 then (if 0 ≤ x16 then (if x16 < (x14.length : Int) then (if x7.length < 17592186044416 then (isochroneref01_Small.l0 k x1 (wrap64 (Int.tdiv (wrap64 (x2 + (wrap64 ((rd x14 x16) * x1)))) 10000)) (x7 ++ [Int.tmod (wrap64 (x2 + (wrap64 ((rd x14 x16) * x1)))) 10000]) x14 x15 (wrap64 (x16 + 1))) else (none)) else (none)) else (none)) else (isochroneref01_Small.l1 k x2 x7)
def isochroneref01_Small.l1 : Nat → Int → List Int → Option (List Int)
 | 0, _, _ => none
 | k + 1, x2, x7 => if x2 > 0 then (if x7.length < 17592186044416 then (isochroneref01_Small.l1 k (wrap64 (Int.tdiv x2 10000)) (x7 ++ [Int.tmod x2 10000])) else (none)) else ((isochroneref01_trim.f k x7).bind fun t574 => (some t574))
end
def isochroneref01_Small.f (k : Nat) (l0 : List Int) (a1 : Int) (a2 : Int) : Option (List Int) := if 0 ≤ (wrap64 ((l0.length : Int) + 2)) then (if (wrap64 ((l0.length : Int) + 2) : Int).toNat ≤ 35184372088832 then (isochroneref01_Small.l0 k a1 a2 (([] : List Int)) l0 (l0.length : Int) 0) else (none)) else (none)
def isochroneref01_Two.l0 : Nat → Int → List Int → Option (List Int)
 | 0, _, _ => none
 | k + 1, x0, x3 => if x0 ≥ 16 then ((isochroneref01_Small.f k x3 65536 0).bind fun t580 => (isochroneref01_Two.l0 k (wrap64 (x0 - 16)) t580)) else (if 0 ≤ x0 then ((isochroneref01_Small.f k x3 (shl .i64 1 x0) 0).bind fun t583 => (some t583)) else (none))
def isochroneref01_Two.f (k : Nat) (a0 : Int) : Option (List Int) := isochroneref01_Two.l0 k a0 (([1] : List Int))
def isochroneref01_Nat_int.f (l0 : List Int) : Option (List Int) := (some (([] : List Int) : List Int)).bind fun y586 => (if y586.length + l0.length < 17592186044416 then (some (y586 ++ l0)) else (none))
def isochroneref01_Sub.l0 : Nat → List Int → List Int → Int → Int → Int → Option (List Int)
 | 0, _, _, _, _, _ => none
 | k + 1, x1, x5, x6, x12, x13 => if x13 < x12 then (if 0 ≤ x13 then (if x13 < (x5.length : Int) then (if x13 < (x1.length : Int) then (if (wrap64 ((wrap64 ((rd x5 x13) - x6)) - (rd x1 x13))) < 0 then (isochroneref01_Sub.l0 k x1 (x5.set (x13 : Int).toNat (wrap64 ((wrap64 ((wrap64 ((rd x5 x13) - x6)) - (rd x1 x13))) + 10000))) 1 x12 (wrap64 (x13 + 1))) else (isochroneref01_Sub.l0 k x1 (x5.set (x13 : Int).toNat (wrap64 ((wrap64 ((rd x5 x13) - x6)) - (rd x1 x13)))) 0 x12 (wrap64 (x13 + 1)))) else (if (wrap64 ((rd x5 x13) - x6)) < 0 then (isochroneref01_Sub.l0 k x1 (x5.set (x13 : Int).toNat (wrap64 ((wrap64 ((rd x5 x13) - x6)) + 10000))) 1 x12 (wrap64 (x13 + 1))) else (isochroneref01_Sub.l0 k x1 (x5.set (x13 : Int).toNat (wrap64 ((rd x5 x13) - x6))) 0 x12 (wrap64 (x13 + 1))))) else (none)) else (none)) else ((isochroneref01_trim.f k x5).bind fun t595 => (some t595))
def isochroneref01_Sub.f (k : Nat) (l0 : List Int) (l1 : List Int) : Option (List Int) := (isochroneref01_Nat_int.f l0).bind fun t592 => (isochroneref01_Sub.l0 k l1 t592 0 (t592.length : Int) 0)
def isochroneref01_Split.l0 : Nat → List Int → Int → List Int → Int → Int → Option (List Int × Int)
 | 0, _, _, _, _, _ => none
 | k + 1, x0, x1, x6, x7, x8 => if x8 ≥ 0 then (if 0 ≤ x8 then (if x8 < (x0.length : Int) then (if x1 = 0 then (none) else (if x8 < (x6.length : Int) then (isochroneref01_Split.l0 k x0 x1 (x6.set (x8 : Int).toNat (wrap64 (Int.tdiv (wrap64 ((wrap64 (x7 * 10000)) + (rd x0 x8))) x1))) (Int.tmod (wrap64 ((wrap64 (x7 * 10000)) + (rd x0 x8))) x1) (wrap64 (x8 - 1))) else (none))) else (none)) else (none)) else ((isochroneref01_trim.f k x6).bind fun t609 => (some (t609, x7)))
def isochroneref01_Split.f (k : Nat) (l0 : List Int) (a1 : Int) : Option (List Int × Int) := if 0 ≤ (l0.length : Int) then (if ((l0.length : Int) : Int).toNat ≤ 35184372088832 then (isochroneref01_Split.l0 k l0 a1 (List.replicate ((l0.length : Int) : Int).toNat 0) 0 (wrap64 ((l0.length : Int) - 1))) else (none)) else (none)
mutual
def isochroneref01_Words.l0 : Nat → List Int → List Int → Option (List Int)
 | 0, _, _ => none
 | k + 1, x0, x3 => if (x0.length : Int) > 0 then ((isochroneref01_Split.f k x0 65536).bind fun bt612 => (if x3.length < 17592186044416 then (isochroneref01_Words.l0 k bt612.1 (x3 ++ [bt612.2])) else (none))) else (isochroneref01_Words.l1 k x3 ([] : List Int) 0)
def isochroneref01_Words.l1 : Nat → List Int → List Int → Int → Option (List Int)
 | 0, _, _, _ => none
 | k + 1, x3, x6, x7 => if x7 < (x3.length : Int) then (if 0 ≤ x7 then (if (wrap64 (x7 + 1)) < (x3.length : Int) then (if 0 ≤ (wrap64 (x7 + 1)) then (if x6.length < 35184372088832 then (isochroneref01_Words.l1 k x3 (x6 ++ [(((rd x3 x7) % 4294967296) + ((((rd x3 (wrap64 (x7 + 1))) % 4294967296) * 65536) % 4294967296)) % 4294967296]) (wrap64 (x7 + 2))) else (none)) else (none)) else (if x6.length < 35184372088832 then (isochroneref01_Words.l1 k x3 (x6 ++ [(rd x3 x7) % 4294967296]) (wrap64 (x7 + 2))) else (none))) else (none)) else (some x6)
end
def isochroneref01_Words.f (k : Nat) (l0 : List Int) : Option (List Int) := isochroneref01_Words.l0 k l0 ([] : List Int)
def slices_Equal_uint32_uint32.l0 : Nat → List Int → List Int → Int → Int → Option (Bool)
 | 0, _, _, _, _ => none
 | k + 1, x0, x1, x12, x13 => if x13 < x12 then (if 0 ≤ x13 then (if x13 < (x0.length : Int) then (if x13 < (x1.length : Int) then (if (rd x0 x13) = (rd x1 x13) then (slices_Equal_uint32_uint32.l0 k x0 x1 x12 (wrap64 (x13 + 1))) else (some false)) else (none)) else (none)) else (none)) else (some true)
def slices_Equal_uint32_uint32.f (k : Nat) (l0 : List Int) (l1 : List Int) : Option (Bool) := if (l0.length : Int) = (l1.length : Int) then (slices_Equal_uint32_uint32.l0 k l0 l1 (l0.length : Int) 0) else (some false)
def isochroneref02_Zero.f  : Option (Bool × List Int × List Int) := some (false, (([] : List Int)), (([1] : List Int)))
def isochroneref01_Cmp.l0 : Nat → List Int → List Int → Int → Option (Int)
 | 0, _, _, _ => none
 | k + 1, x0, x1, x5 => if x5 ≥ 0 then (if 0 ≤ x5 then (if x5 < (x0.length : Int) then (if x5 < (x1.length : Int) then (if (rd x0 x5) = (rd x1 x5) then (isochroneref01_Cmp.l0 k x0 x1 (wrap64 (x5 - 1))) else (if (rd x0 x5) < (rd x1 x5) then (some (-1)) else (some 1))) else (none)) else (none)) else (none)) else (some 0)
def isochroneref01_Cmp.f (k : Nat) (l0 : List Int) (l1 : List Int) : Option (Int) := if (l0.length : Int) = (l1.length : Int) then (isochroneref01_Cmp.l0 k l0 l1 (wrap64 ((l0.length : Int) - 1))) else (if (l0.length : Int) < (l1.length : Int) then (some (-1)) else (some 1))
def isochroneref01_little.l0 : Nat → List Int → Int → Int → Option (Int × Bool)
 | 0, _, _, _ => none
 | k + 1, x0, x4, x5 => if x5 ≥ 0 then (if 0 ≤ x5 then (if x5 < (x0.length : Int) then (isochroneref01_little.l0 k x0 (wrap64 ((wrap64 (x4 * 10000)) + (rd x0 x5))) (wrap64 (x5 - 1))) else (none)) else (none)) else (some (x4, true))
def isochroneref01_little.f (k : Nat) (l0 : List Int) : Option (Int × Bool) := if (l0.length : Int) > 4 then (some (0, false)) else (isochroneref01_little.l0 k l0 0 (wrap64 ((l0.length : Int) - 1)))
mutual
def isochroneref01_digit.l0 : Nat → List Int → List Int → Int → Int → Int → Int → Option (Int)
 | 0, _, _, _, _, _, _ => none
 | k + 1, x0, x1, x5, x6, x7, x8 => if x8 ≥ (mx 0 (wrap64 (x5 - 2))) then (if x8 < (x0.length : Int) then (if 0 ≤ x8 then (isochroneref01_digit.l0 k x0 x1 x5 (wrap64 ((wrap64 (x6 * 10000)) + (rd x0 x8))) x7 (wrap64 (x8 - 1))) else (none)) else (isochroneref01_digit.l0 k x0 x1 x5 (wrap64 (x6 * 10000)) x7 (wrap64 (x8 - 1)))) else (isochroneref01_digit.l1 k x0 x1 x5 x6 x7 (wrap64 (x5 - 1)))
def isochroneref01_digit.l1 : Nat → List Int → List Int → Int → Int → Int → Int → Option (Int)
 | 0, _, _, _, _, _, _ => none
 | k + 1, x0, x1, x5, x6, x7, x9 => if x9 ≥ (mx 0 (wrap64 (x5 - 2))) then (if 0 ≤ x9 then (if x9 < (x1.length : Int) then (isochroneref01_digit.l1 k x0 x1 x5 x6 (wrap64 ((wrap64 (x7 * 10000)) + (rd x1 x9))) (wrap64 (x9 - 1))) else (none)) else (none)) else (if x5 = 1 then (if 0 < (x1.length : Int) then (isochroneref01_digit.j2 k x0 x1 x6 (rd x1 0)) else (none)) else (isochroneref01_digit.j2 k x0 x1 x6 x7))
def isochroneref01_digit.j2 : Nat → List Int → List Int → Int → Int → Option (Int)
 | 0, _, _, _, _ => none
 | k + 1, x0, x1, x6, x7 => if x7 = 0 then (none) else (isochroneref01_digit.l2 k x0 x1 (mn (wrap64 (Int.tdiv x6 x7)) 9999))
def isochroneref01_digit.l2 : Nat → List Int → List Int → Int → Option (Int)
 | 0, _, _, _ => none
 | k + 1, x0, x1, x10 => (isochroneref01_Small.f k x1 x10 0).bind fun t666 => ((isochroneref01_Cmp.f k t666 x0).bind fun t669 => (if t669 > 0 then (isochroneref01_digit.l2 k x0 x1 (wrap64 (x10 - 1))) else (isochroneref01_digit.l3 k x0 x1 x10)))
def isochroneref01_digit.l3 : Nat → List Int → List Int → Int → Option (Int)
 | 0, _, _, _ => none
 | k + 1, x0, x1, x10 => if (wrap64 (x10 + 1)) < 10000 then ((isochroneref01_Small.f k x1 (wrap64 (x10 + 1)) 0).bind fun t670 => ((isochroneref01_Cmp.f k t670 x0).bind fun t673 => (if t673 ≤ 0 then (isochroneref01_digit.l3 k x0 x1 (wrap64 (x10 + 1))) else (some x10)))) else (some x10)
end
def isochroneref01_digit.f (k : Nat) (l0 : List Int) (l1 : List Int) : Option (Int) := isochroneref01_digit.l0 k l0 l1 (l1.length : Int) 0 0 (l1.length : Int)
def isochroneref01_DivMod.l0 : Nat → List Int → List Int → List Int → List Int → Int → Option (List Int × List Int)
 | 0, _, _, _, _, _ => none
 | k + 1, x0, x1, x12, x13, x14 => if x14 ≥ 0 then (if 0 ≤ x14 then (if x14 < (x0.length : Int) then ((isochroneref01_Small.f k x13 10000 (rd x0 x14)).bind fun t706 => ((isochroneref01_Cmp.f k t706 x1).bind fun t709 => (if t709 < 0 then (isochroneref01_DivMod.l0 k x0 x1 x12 t706 (wrap64 (x14 - 1))) else ((isochroneref01_digit.f k t706 x1).bind fun t710 => (if x14 < (x12.length : Int) then ((some (x12.set (x14 : Int).toNat t710 : List Int)).bind fun y711 => ((isochroneref01_Small.f k x1 (rd y711 x14) 0).bind fun t713 => ((isochroneref01_Sub.f k t706 t713).bind fun t716 => (isochroneref01_DivMod.l0 k x0 x1 y711 t716 (wrap64 (x14 - 1)))))) else (none)))))) else (none)) else (none)) else ((isochroneref01_trim.f k x12).bind fun t702 => (some (t702, x13)))
def isochroneref01_DivMod.f (k : Nat) (l0 : List Int) (l1 : List Int) : Option (List Int × List Int) := (isochroneref01_Cmp.f k l0 l1).bind fun t674 => (if t674 < 0 then (some ((([] : List Int)), l0)) else ((isochroneref01_little.f k l0).bind fun bt678 => (if bt678.2 = true then ((isochroneref01_little.f k l1).bind fun bt680 => (if bt680.1 = 0 then (none) else ((isochroneref01_Int.f k (wrap64 (Int.tdiv bt678.1 bt680.1))).bind fun t682 => ((isochroneref01_Int.f k (Int.tmod bt678.1 bt680.1)).bind fun t685 => (some (t682, t685)))))) else (if (l1.length : Int) = 1 then (if 0 < (l1.length : Int) then ((isochroneref01_Split.f k l0 (rd l1 0)).bind fun bt689 => ((isochroneref01_Int.f k bt689.2).bind fun t693 => (some (bt689.1, t693)))) else (none)) else (if 0 ≤ (l0.length : Int) then (if ((l0.length : Int) : Int).toNat ≤ 35184372088832 then (isochroneref01_DivMod.l0 k l0 l1 (List.replicate ((l0.length : Int) : Int).toNat 0) (([] : List Int)) (wrap64 ((l0.length : Int) - 1))) else (none)) else (none))))))
mutual
def isochroneref01_GCD.l0 : Nat → List Int → List Int → Option (List Int)
 | 0, _, _ => none
 | k + 1, x0, x1 => if (x1.length : Int) > 0 then ((isochroneref01_little.f k x0).bind fun bt719 => ((isochroneref01_little.f k x1).bind fun bt721 => (if bt719.2 = true then (isochroneref01_GCD.j1 k x0 x1 bt719.1 bt721.1 bt721.2) else (isochroneref01_GCD.j1 k x0 x1 bt719.1 bt721.1 false)))) else (some x0)
def isochroneref01_GCD.j1 : Nat → List Int → List Int → Int → Int → Bool → Option (List Int)
 | 0, _, _, _, _, _ => none
 | k + 1, x0, x1, x5, x7, x27 => if x27 = true then (isochroneref01_GCD.l1 k x5 x7) else ((isochroneref01_DivMod.f k x0 x1).bind fun bt726 => (isochroneref01_GCD.l0 k x1 bt726.2))
def isochroneref01_GCD.l1 : Nat → Int → Int → Option (List Int)
 | 0, _, _ => none
 | k + 1, x5, x7 => if x7 > 0 then (if x7 = 0 then (none) else (isochroneref01_GCD.l1 k x7 (Int.tmod x5 x7))) else ((isochroneref01_Int.f k x5).bind fun t723 => (some t723))
end
def isochroneref01_GCD.f (k : Nat) (l0 : List Int) (l1 : List Int) : Option (List Int) := isochroneref01_GCD.l0 k l0 l1
mutual
def isochroneref02_Make.j0 : Nat → Bool → List Int → List Int → Bool → Option (Bool × List Int × List Int)
 | 0, _, _, _, _ => none
 | k + 1, x0, x1, x2, x24 => if x24 = true then (some (x0, x1, x2)) else ((isochroneref01_GCD.f k x1 x2).bind fun t741 => (if (t741.length : Int) = 1 then (if 0 < (t741.length : Int) then (isochroneref02_Make.j1 k x0 x1 x2 t741 ((rd t741 0) == 1)) else (none)) else (isochroneref02_Make.j1 k x0 x1 x2 t741 false)))
def isochroneref02_Make.j1 : Nat → Bool → List Int → List Int → List Int → Bool → Option (Bool × List Int × List Int)
 | 0, _, _, _, _, _ => none
 | k + 1, x0, x1, x2, x7, x40 => if x40 = true then (some (x0, x1, x2)) else ((isochroneref01_DivMod.f k x1 x7).bind fun bt745 => ((isochroneref01_DivMod.f k x2 x7).bind fun bt751 => (some (x0, bt745.1, bt751.1))))
end
def isochroneref02_Make.f (k : Nat) (a0 : Bool) (l1 : List Int) (l2 : List Int) : Option (Bool × List Int × List Int) := if (l1.length : Int) = 0 then ((isochroneref02_Zero.f).bind fun bt733 => (some (bt733.1, bt733.2.1, bt733.2.2))) else (if (l2.length : Int) = 1 then (if 0 < (l2.length : Int) then (isochroneref02_Make.j0 k a0 l1 l2 ((rd l2 0) == 1)) else (none)) else (isochroneref02_Make.j0 k a0 l1 l2 false))
def isochroneref01_Valid.f (l0 : List Int) : Option (Bool) := if (l0.length : Int) ≤ 4096 then (if (l0.length : Int) = 0 then (some true) else (if 0 ≤ (wrap64 ((l0.length : Int) - 1)) then (if (wrap64 ((l0.length : Int) - 1)) < (l0.length : Int) then (some ((rd l0 (wrap64 ((l0.length : Int) - 1))) != 0)) else (none)) else (none))) else (some false)
def isochroneref01_Of.l0 : Nat → List Int → List Int → Int → Option (List Int)
 | 0, _, _, _ => none
 | k + 1, x0, x3, x4 => if x4 ≥ 0 then (if 0 ≤ x4 then (if x4 < (x0.length : Int) then ((isochroneref01_Small.f k x3 65536 (wrap64 ((rd x0 x4) / 65536))).bind fun t763 => ((isochroneref01_Small.f k t763 65536 (wrap64 (Go.bits .and .u32 (rd x0 x4) 65535))).bind fun t767 => (isochroneref01_Of.l0 k x0 t767 (wrap64 (x4 - 1))))) else (none)) else (none)) else (some x3)
def isochroneref01_Pow.l0 : Nat → List Int → List Int → Int → Int → Option (List Int)
 | 0, _, _, _, _ => none
 | k + 1, x0, x5, x7, x8 => if x8 < x7 then ((isochroneref01_Mul.f k x5 x0).bind fun t1040 => (isochroneref01_Pow.l0 k x0 t1040 x7 (wrap64 (x8 + 1)))) else (some x5)
def isochroneref01_Pow.f (k : Nat) (l0 : List Int) (a1 : Int) : Option (List Int) := isochroneref01_Pow.l0 k l0 (([1] : List Int)) a1 0
mutual
def bytealg_hashStr_string.l0 : Nat → ByteArray → Int → Int → Option (Int × Int)
 | 0, _, _, _ => none
 | k + 1, x0, x4, x5 => if x5 < (x0.size : Int) then (if 0 ≤ x5 then (bytealg_hashStr_string.l0 k x0 ((((x4 * 16777619) % 4294967296) + ((bt x0 x5) % 4294967296)) % 4294967296) (wrap64 (x5 + 1))) else (none)) else (bytealg_hashStr_string.l1 k x4 1 16777619 (x0.size : Int))
def bytealg_hashStr_string.l1 : Nat → Int → Int → Int → Int → Option (Int × Int)
 | 0, _, _, _, _ => none
 | k + 1, x4, x6, x7, x8 => if x8 > 0 then (if (Go.bits .and .i64 x8 1) = 0 then (bytealg_hashStr_string.l1 k x4 x6 ((x7 * x7) % 4294967296) (x8 / 2)) else (bytealg_hashStr_string.l1 k x4 ((x6 * x7) % 4294967296) ((x7 * x7) % 4294967296) (x8 / 2))) else (some (x4, x6))
end
def nat_limited.f (l0 : List Int) : Option (List Int × Int) := if (l0.length : Int) > 4096 then (some (([] : List Int), 2)) else (if ([] : List Int).length + l0.length < 35184372088832 then (some ((([] : List Int) ++ l0), 0)) else (none))
mutual
def nat_Parse.l0 : Nat → ByteArray → List Int → Int → Int → Int → Option (List Int × Int)
 | 0, _, _, _, _, _ => none
 | k + 1, x0, x4, x5, x6, x7 => if x7 = (x0.size : Int) then ((mag_From.f k x6).bind fun t1395 => ((mag_Mul.f k x4 t1395).bind fun t1398 => ((mag_From.f k x5).bind fun t1401 => ((mag_Add.f k t1398 t1401).bind fun t1404 => ((nat_limited.f t1404).bind fun bt1407 => (some (bt1407.1, bt1407.2))))))) else (if 0 ≤ x7 then (if x7 < (x0.size : Int) then (if (bt x0 x7) < 48 then (nat_Parse.j1 k x0 x4 x5 x6 x7 true) else (nat_Parse.j1 k x0 x4 x5 x6 x7 (decide ((bt x0 x7) > 57)))) else (none)) else (none))
def nat_Parse.j1 : Nat → ByteArray → List Int → Int → Int → Int → Bool → Option (List Int × Int)
 | 0, _, _, _, _, _, _ => none
 | k + 1, x0, x4, x5, x6, x7, x27 => if x27 = true then (some (([] : List Int), 90)) else (if x6 = 1000000000 then ((mag_From.f k x6).bind fun t1411 => ((mag_Mul.f k x4 t1411).bind fun t1414 => ((mag_From.f k x5).bind fun t1417 => ((mag_Add.f k t1414 t1417).bind fun t1420 => (if 0 ≤ x7 then (if x7 < (x0.size : Int) then (nat_Parse.l0 k x0 t1420 ((0 * 10) + (((bt x0 x7) - 48) % 256)) (1 * 10) (wrap64 (x7 + 1))) else (none)) else (none)))))) else (if 0 ≤ x7 then (if x7 < (x0.size : Int) then (nat_Parse.l0 k x0 x4 (IntKind.u64.wrap ((IntKind.u64.wrap (x5 * 10)) + (((bt x0 x7) - 48) % 256))) (IntKind.u64.wrap (x6 * 10)) (wrap64 (x7 + 1))) else (none)) else (none)))
end
def nat_Parse.f (k : Nat) (a0 : ByteArray) : Option (List Int × Int) := if (a0.size : Int) > 20000 then (some (([] : List Int), 2)) else (if a0.toList = ([] : List UInt8) then (some (([] : List Int), 90)) else (nat_Parse.l0 k a0 ([] : List Int) 0 1 0))
def bits_Len64.j0 : Nat → Int → Int → Option (Int)
 | 0, _, _ => none
 | k + 1, x0, x2 => if x0 ≥ 65536 then (if (x0 / 65536) ≥ 256 then (if 0 ≤ (((x0 / 65536) / 256) % 256) then (if (((x0 / 65536) / 256) % 256) < 256 then (some (wrap64 ((wrap64 ((wrap64 (x2 + 16)) + 8)) + (wrap64 (bt (⟨#[0, 1, 2, 2, 3, 3, 3, 3, 4, 4, 4, 4, 4, 4, 4, 4, 5, 5, 5, 5, 5, 5, 5, 5, 5, 5, 5, 5, 5, 5, 5, 5, 6, 6, 6, 6, 6, 6, 6, 6, 6, 6, 6, 6, 6, 6, 6, 6, 6, 6, 6, 6, 6, 6, 6, 6, 6, 6, 6, 6, 6, 6, 6, 6, 7, 7, 7, 7, 7, 7, 7, 7, 7, 7, 7, 7, 7, 7, 7, 7, 7, 7, 7, 7, 7, 7, 7, 7, 7, 7, 7, 7, 7, 7, 7, 7, 7, 7, 7, 7, 7, 7, 7, 7, 7, 7, 7, 7, 7, 7, 7, 7, 7, 7, 7, 7, 7, 7, 7, 7, 7, 7, 7, 7, 7, 7, 7, 7, 8, 8, 8, 8, 8, 8, 8, 8, 8, 8, 8, 8, 8, 8, 8, 8, 8, 8, 8, 8, 8, 8, 8, 8, 8, 8, 8, 8, 8, 8, 8, 8, 8, 8, 8, 8, 8, 8, 8, 8, 8, 8, 8, 8, 8, 8, 8, 8, 8, 8, 8, 8, 8, 8, 8, 8, 8, 8, 8, 8, 8, 8, 8, 8, 8, 8, 8, 8, 8, 8, 8, 8, 8, 8, 8, 8, 8, 8, 8, 8, 8, 8, 8, 8, 8, 8, 8, 8, 8, 8, 8, 8, 8, 8, 8, 8, 8, 8, 8, 8, 8, 8, 8, 8, 8, 8, 8, 8, 8, 8, 8, 8, 8, 8, 8, 8, 8, 8, 8, 8, 8, 8, 8, 8, 8, 8, 8, 8]⟩ : ByteArray) (((x0 / 65536) / 256) % 256)))))) else (none)) else (none)) else (if 0 ≤ ((x0 / 65536) % 256) then (if ((x0 / 65536) % 256) < 256 then (some (wrap64 ((wrap64 (x2 + 16)) + (wrap64 (bt (⟨#[0, 1, 2, 2, 3, 3, 3, 3, 4, 4, 4, 4, 4, 4, 4, 4, 5, 5, 5, 5, 5, 5, 5, 5, 5, 5, 5, 5, 5, 5, 5, 5, 6, 6, 6, 6, 6, 6, 6, 6, 6, 6, 6, 6, 6, 6, 6, 6, 6, 6, 6, 6, 6, 6, 6, 6, 6, 6, 6, 6, 6, 6, 6, 6, 7, 7, 7, 7, 7, 7, 7, 7, 7, 7, 7, 7, 7, 7, 7, 7, 7, 7, 7, 7, 7, 7, 7, 7, 7, 7, 7, 7, 7, 7, 7, 7, 7, 7, 7, 7, 7, 7, 7, 7, 7, 7, 7, 7, 7, 7, 7, 7, 7, 7, 7, 7, 7, 7, 7, 7, 7, 7, 7, 7, 7, 7, 7, 7, 8, 8, 8, 8, 8, 8, 8, 8, 8, 8, 8, 8, 8, 8, 8, 8, 8, 8, 8, 8, 8, 8, 8, 8, 8, 8, 8, 8, 8, 8, 8, 8, 8, 8, 8, 8, 8, 8, 8, 8, 8, 8, 8, 8, 8, 8, 8, 8, 8, 8, 8, 8, 8, 8, 8, 8, 8, 8, 8, 8, 8, 8, 8, 8, 8, 8, 8, 8, 8, 8, 8, 8, 8, 8, 8, 8, 8, 8, 8, 8, 8, 8, 8, 8, 8, 8, 8, 8, 8, 8, 8, 8, 8, 8, 8, 8, 8, 8, 8, 8, 8, 8, 8, 8, 8, 8, 8, 8, 8, 8, 8, 8, 8, 8, 8, 8, 8, 8, 8, 8, 8, 8, 8, 8, 8, 8, 8, 8]⟩ : ByteArray) ((x0 / 65536) % 256)))))) else (none)) else (none))) else (if x0 ≥ 256 then (if 0 ≤ ((x0 / 256) % 256) then (if ((x0 / 256) % 256) < 256 then (some (wrap64 ((wrap64 (x2 + 8)) + (wrap64 (bt (⟨#[0, 1, 2, 2, 3, 3, 3, 3, 4, 4, 4, 4, 4, 4, 4, 4, 5, 5, 5, 5, 5, 5, 5, 5, 5, 5, 5, 5, 5, 5, 5, 5, 6, 6, 6, 6, 6, 6, 6, 6, 6, 6, 6, 6, 6, 6, 6, 6, 6, 6, 6, 6, 6, 6, 6, 6, 6, 6, 6, 6, 6, 6, 6, 6, 7, 7, 7, 7, 7, 7, 7, 7, 7, 7, 7, 7, 7, 7, 7, 7, 7, 7, 7, 7, 7, 7, 7, 7, 7, 7, 7, 7, 7, 7, 7, 7, 7, 7, 7, 7, 7, 7, 7, 7, 7, 7, 7, 7, 7, 7, 7, 7, 7, 7, 7, 7, 7, 7, 7, 7, 7, 7, 7, 7, 7, 7, 7, 7, 8, 8, 8, 8, 8, 8, 8, 8, 8, 8, 8, 8, 8, 8, 8, 8, 8, 8, 8, 8, 8, 8, 8, 8, 8, 8, 8, 8, 8, 8, 8, 8, 8, 8, 8, 8, 8, 8, 8, 8, 8, 8, 8, 8, 8, 8, 8, 8, 8, 8, 8, 8, 8, 8, 8, 8, 8, 8, 8, 8, 8, 8, 8, 8, 8, 8, 8, 8, 8, 8, 8, 8, 8, 8, 8, 8, 8, 8, 8, 8, 8, 8, 8, 8, 8, 8, 8, 8, 8, 8, 8, 8, 8, 8, 8, 8, 8, 8, 8, 8, 8, 8, 8, 8, 8, 8, 8, 8, 8, 8, 8, 8, 8, 8, 8, 8, 8, 8, 8, 8, 8, 8, 8, 8, 8, 8, 8, 8]⟩ : ByteArray) ((x0 / 256) % 256)))))) else (none)) else (none)) else (if 0 ≤ ((x0) % 256) then (if ((x0) % 256) < 256 then (some (wrap64 (x2 + (wrap64 (bt (⟨#[0, 1, 2, 2, 3, 3, 3, 3, 4, 4, 4, 4, 4, 4, 4, 4, 5, 5, 5, 5, 5, 5, 5, 5, 5, 5, 5, 5, 5, 5, 5, 5, 6, 6, 6, 6, 6, 6, 6, 6, 6, 6, 6, 6, 6, 6, 6, 6, 6, 6, 6, 6, 6, 6, 6, 6, 6, 6, 6, 6, 6, 6, 6, 6, 7, 7, 7, 7, 7, 7, 7, 7, 7, 7, 7, 7, 7, 7, 7, 7, 7, 7, 7, 7, 7, 7, 7, 7, 7, 7, 7, 7, 7, 7, 7, 7, 7, 7, 7, 7, 7, 7, 7, 7, 7, 7, 7, 7, 7, 7, 7, 7, 7, 7, 7, 7, 7, 7, 7, 7, 7, 7, 7, 7, 7, 7, 7, 7, 8, 8, 8, 8, 8, 8, 8, 8, 8, 8, 8, 8, 8, 8, 8, 8, 8, 8, 8, 8, 8, 8, 8, 8, 8, 8, 8, 8, 8, 8, 8, 8, 8, 8, 8, 8, 8, 8, 8, 8, 8, 8, 8, 8, 8, 8, 8, 8, 8, 8, 8, 8, 8, 8, 8, 8, 8, 8, 8, 8, 8, 8, 8, 8, 8, 8, 8, 8, 8, 8, 8, 8, 8, 8, 8, 8, 8, 8, 8, 8, 8, 8, 8, 8, 8, 8, 8, 8, 8, 8, 8, 8, 8, 8, 8, 8, 8, 8, 8, 8, 8, 8, 8, 8, 8, 8, 8, 8, 8, 8, 8, 8, 8, 8, 8, 8, 8, 8, 8, 8, 8, 8, 8, 8, 8, 8, 8, 8]⟩ : ByteArray) ((x0) % 256)))))) else (none)) else (none)))
def bits_Len64.f (k : Nat) (a0 : Int) : Option (Int) := if a0 ≥ 4294967296 then (bits_Len64.j0 k (a0 / 4294967296) 32) else (bits_Len64.j0 k a0 0)
def bits_Len.f (k : Nat) (a0 : Int) : Option (Int) := (bits_Len64.f k a0).bind fun t1423 => (some t1423)
mutual
def nat_Pow.j0 : Nat → List Int → Int → Bool → Option (List Int × Int)
 | 0, _, _, _ => none
 | k + 1, x0, x1, x19 => if x19 = true then ((nat_limited.f x0).bind fun bt1429 => (some (bt1429.1, bt1429.2))) else (if x1 > 131072 then (some (([] : List Int), 2)) else ((mag_Bits.f x0).bind fun t1433 => (if (wrap64 ((wrap64 (t1433 - 1)) * x1)) ≥ 131072 then (some (([] : List Int), 2)) else ((bits_Len.f k (IntKind.u64.wrap (x1))).bind fun t1437 => (nat_Pow.l0 k x0 x1 (([1] : List Int)) (wrap64 (t1437 - 1)))))))
def nat_Pow.l0 : Nat → List Int → Int → List Int → Int → Option (List Int × Int)
 | 0, _, _, _, _ => none
 | k + 1, x0, x1, x6, x7 => if x7 ≥ 0 then ((mag_Mul.f k x6 x6).bind fun t1442 => (if 0 ≤ x7 then (if (Go.bits .and .i64 (shr .i64 x1 x7) 1) = 1 then ((mag_Mul.f k t1442 x0).bind fun t1445 => (nat_Pow.l0 k x0 x1 t1445 (wrap64 (x7 - 1)))) else (nat_Pow.l0 k x0 x1 t1442 (wrap64 (x7 - 1)))) else (none))) else ((nat_limited.f x6).bind fun bt1438 => (some (bt1438.1, bt1438.2)))
end
def nat_Pow.f (k : Nat) (l0 : List Int) (a1 : Int) : Option (List Int × Int) := (nat_Valid.f l0).bind fun t1424 => (if t1424 = true then (if a1 < 0 then (some (([] : List Int), 1)) else (if a1 = 0 then (some ((([1] : List Int)), 0)) else (if (l0.length : Int) = 0 then (nat_Pow.j0 k l0 a1 true) else (if (l0.length : Int) = 1 then (if 0 < (l0.length : Int) then (nat_Pow.j0 k l0 a1 ((rd l0 0) == 1)) else (none)) else (nat_Pow.j0 k l0 a1 false))))) else (some (([] : List Int), 3)))
mutual
def isochroneref01_Text.l0 : Nat → List Int → List Int → Int → Option (ByteArray)
 | 0, _, _, _ => none
 | k + 1, x0, x3, x4 => if x4 ≥ 0 then (isochroneref01_Text.l1 k x0 x3 x4 1000) else (some (strOfNums x3))
def isochroneref01_Text.l1 : Nat → List Int → List Int → Int → Int → Option (ByteArray)
 | 0, _, _, _, _ => none
 | k + 1, x0, x3, x4, x5 => if x5 > 0 then (if 0 ≤ x4 then (if x4 < (x0.length : Int) then (if x5 = 0 then (none) else (if (x3.length : Int) > 0 then (if x3.length < 140737488355328 then (isochroneref01_Text.l1 k x0 (x3 ++ [(wrap64 (48 + (Int.tmod (wrap64 (Int.tdiv (rd x0 x4) x5)) 10))) % 256]) x4 (wrap64 (Int.tdiv x5 10))) else (none)) else (if (Int.tmod (wrap64 (Int.tdiv (rd x0 x4) x5)) 10) > 0 then (if x3.length < 140737488355328 then (isochroneref01_Text.l1 k x0 (x3 ++ [(wrap64 (48 + (Int.tmod (wrap64 (Int.tdiv (rd x0 x4) x5)) 10))) % 256]) x4 (wrap64 (Int.tdiv x5 10))) else (none)) else (isochroneref01_Text.l1 k x0 x3 x4 (wrap64 (Int.tdiv x5 10)))))) else (none)) else (none)) else (isochroneref01_Text.l0 k x0 x3 (wrap64 (x4 - 1)))
end
def isochroneref01_Text.f (k : Nat) (l0 : List Int) : Option (ByteArray) := if (l0.length : Int) = 0 then (some (⟨#[48]⟩ : ByteArray)) else (isochroneref01_Text.l0 k l0 ([] : List Int) (wrap64 ((l0.length : Int) - 1)))
def isochroneref02_Text.j0 : Nat → ByteArray → Bool → List Int → List Int → Option (ByteArray)
 | 0, _, _, _, _ => none
 | k + 1, x3, x1458000, x1458001, x1458002 => (isochroneref01_Cmp.f k x1458002 (([1] : List Int))).bind fun t1462 => (if t1462 = 0 then (some x3) else ((isochroneref01_Text.f k x1458002).bind fun t1463 => (if 1 + t1463.size ≤ 9223372036854775807 then (if x3.size + ((⟨#[47]⟩ : ByteArray) ++ t1463).size ≤ 9223372036854775807 then (some (x3 ++ ((⟨#[47]⟩ : ByteArray) ++ t1463))) else (none)) else (none))))
def isochroneref01_Decimal.l0 : Nat → ByteArray → Int → Int → Option (Bool)
 | 0, _, _, _ => none
 | k + 1, x0, x5, x6 => if x6 < x5 then (if 0 ≤ x6 then (if x6 < (x0.size : Int) then (if (bt x0 x6) < 48 then (some false) else (if (bt x0 x6) > 57 then (some false) else (isochroneref01_Decimal.l0 k x0 x5 (wrap64 (x6 + 1))))) else (none)) else (none)) else (some (x0.toList != ([] : List UInt8)))
def isochroneref01_Decimal.f (k : Nat) (a0 : ByteArray) : Option (Bool) := isochroneref01_Decimal.l0 k a0 (a0.size : Int) 0
mutual
def isochroneref01_Digits.l0 : Nat → ByteArray → List Int → Int → Option (List Int)
 | 0, _, _, _ => none
 | k + 1, x0, x3, x4 => if x4 > 0 then (isochroneref01_Digits.l1 k x0 x3 x4 0 (mx 0 (wrap64 (x4 - 4)))) else ((isochroneref01_trim.f k x3).bind fun t1467 => (some t1467))
def isochroneref01_Digits.l1 : Nat → ByteArray → List Int → Int → Int → Int → Option (List Int)
 | 0, _, _, _, _, _ => none
 | k + 1, x0, x3, x4, x5, x6 => if x6 < x4 then (if 0 ≤ x6 then (if x6 < (x0.size : Int) then (isochroneref01_Digits.l1 k x0 x3 x4 (wrap64 ((wrap64 (x5 * 10)) + (((bt x0 x6) - 48) % 256))) (wrap64 (x6 + 1))) else (none)) else (none)) else (if x3.length < 17592186044416 then (isochroneref01_Digits.l0 k x0 (x3 ++ [x5]) (wrap64 (x4 - 4))) else (none))
end
def isochroneref01_Digits.f (k : Nat) (a0 : ByteArray) : Option (List Int) := isochroneref01_Digits.l0 k a0 (([] : List Int)) (a0.size : Int)
mutual
def isochroneref02_Parse.j0 : Nat → ByteArray → Bool → Bool → Option (Bool × List Int × List Int × Int)
 | 0, _, _, _ => none
 | k + 1, x0, x4, x16 => if x16 = true then (if 1 ≤ (x0.size : Int) then (isochroneref02_Parse.j1 k (x0.extract 1 x0.size) true) else (none)) else (isochroneref02_Parse.j1 k x0 x4)
def isochroneref02_Parse.j1 : Nat → ByteArray → Bool → Option (Bool × List Int × List Int × Int)
 | 0, _, _ => none
 | k + 1, x0, x4 => isochroneref02_Parse.l0 k x0 x4 (x0.size : Int) 0 (x0.size : Int) 0
def isochroneref02_Parse.j3 : Nat → ByteArray → Bool → Int → Int → Option (Bool × List Int × List Int × Int)
 | 0, _, _, _, _ => none
 | k + 1, x0, x4, x5, x6 => if 0 ≤ x5 then (if x5 ≤ (x0.size : Int) then ((isochroneref01_Decimal.f k (x0.extract 0 (x5 : Int).toNat)).bind fun t1474 => (if t1474 = true then (if x6 = 0 then (isochroneref02_Parse.j4 k x0 x4 x5 x6 false) else (if 0 ≤ (wrap64 (x5 + 1)) then (if (wrap64 (x5 + 1)) ≤ (x0.size : Int) then ((isochroneref01_Decimal.f k (x0.extract ((wrap64 (x5 + 1)) : Int).toNat x0.size)).bind fun t1475 => (isochroneref02_Parse.j4 k x0 x4 x5 x6 (!t1475))) else (none)) else (none))) else (isochroneref02_Parse.j4 k x0 x4 x5 x6 true))) else (none)) else (none)
def isochroneref02_Parse.j4 : Nat → ByteArray → Bool → Int → Int → Bool → Option (Bool × List Int × List Int × Int)
 | 0, _, _, _, _, _ => none
 | k + 1, x0, x4, x5, x6, x57 => if x57 = true then (some (false, ([] : List Int), ([] : List Int), 90)) else (if 0 ≤ x5 then (if x5 ≤ (x0.size : Int) then ((isochroneref01_Digits.f k (x0.extract 0 (x5 : Int).toNat)).bind fun t1476 => (if x6 = 47 then (if 0 ≤ (wrap64 (x5 + 1)) then (if (wrap64 (x5 + 1)) ≤ (x0.size : Int) then ((isochroneref01_Digits.f k (x0.extract ((wrap64 (x5 + 1)) : Int).toNat x0.size)).bind fun t1482 => (if (t1482.length : Int) = 0 then (some (false, ([] : List Int), ([] : List Int), 20)) else (isochroneref02_Parse.j5 k x0 x4 x5 x6 t1476 t1482))) else (none)) else (none)) else (isochroneref02_Parse.j5 k x0 x4 x5 x6 t1476 (([1] : List Int))))) else (none)) else (none))
def isochroneref02_Parse.j5 : Nat → ByteArray → Bool → Int → Int → List Int → List Int → Option (Bool × List Int × List Int × Int)
 | 0, _, _, _, _, _, _ => none
 | k + 1, x0, x4, x5, x6, x8, x9 => if x6 = 46 then (if 0 ≤ x5 then (if x5 ≤ (x0.size : Int) then (if 0 ≤ (wrap64 (x5 + 1)) then (if (wrap64 (x5 + 1)) ≤ (x0.size : Int) then (if (x0.extract 0 (x5 : Int).toNat).size + (x0.extract ((wrap64 (x5 + 1)) : Int).toNat x0.size).size ≤ 9223372036854775807 then ((isochroneref01_Digits.f k ((x0.extract 0 (x5 : Int).toNat) ++ (x0.extract ((wrap64 (x5 + 1)) : Int).toNat x0.size))).bind fun t1485 => ((isochroneref01_Pow.f k (([10] : List Int)) (wrap64 ((wrap64 ((x0.size : Int) - x5)) - 1))).bind fun t1491 => ((isochroneref02_Make.f k x4 t1485 t1491).bind fun bt1494 => (some (bt1494.1, bt1494.2.1, bt1494.2.2, 0))))) else (none)) else (none)) else (none)) else (none)) else (none)) else ((isochroneref02_Make.f k x4 x8 x9).bind fun bt1501 => (some (bt1501.1, bt1501.2.1, bt1501.2.2, 0)))
def isochroneref02_Parse.l0 : Nat → ByteArray → Bool → Int → Int → Int → Int → Option (Bool × List Int × List Int × Int)
 | 0, _, _, _, _, _, _ => none
 | k + 1, x0, x4, x5, x6, x22, x23 => if x23 < x22 then (if 0 ≤ x23 then (if x23 < (x0.size : Int) then (if (bt x0 x23) = 47 then (isochroneref02_Parse.j3 k x0 x4 x23 (bt x0 x23)) else (if (bt x0 x23) = 46 then (isochroneref02_Parse.j3 k x0 x4 x23 (bt x0 x23)) else (isochroneref02_Parse.l0 k x0 x4 x5 x6 x22 (wrap64 (x23 + 1))))) else (none)) else (none)) else (isochroneref02_Parse.j3 k x0 x4 x5 x6)
end
end Go.Proofs.Ytfpolhoabfadnaa.P
end
