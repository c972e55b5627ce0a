/- An evaluator of the program's code, what its functions come to, and what they mean: text 4. No condition. -/
import Derived.Test.YtjimdhlmeebjeaaGreatWitnesses3
set_option linter.unusedSimpArgs false
set_option linter.unusedSectionVars false
section
namespace Go.Proofs.YtjimdhlmeebjeaaGreat.P
open Go.RowKit Go.Proofs.YtjimdhlmeebjeaaGreatW.PrintWords Go.Proofs.YtjimdhlmeebjeaaGreatW.PrintLast Go.Proofs.YtjimdhlmeebjeaaGreatW.PrintMore Go.Proofs.YtjimdhlmeebjeaaGreatW
attribute [local go_sem] max2_int min2_int max_two min_two max_three min_three max_four min_four
set_option linter.unusedVariables false
set_option linter.unusedSimpArgs false
def num_valid.f (l0 : List Int) (a1 : Int) : Option (Bool) := if (l0.length : Int) ≤ a1 then (if (l0.length : Int) = 0 then (some true) else (if 0 ≤ (wrap64 ((l0.length : Int) - 1)) then (if (wrap64 ((l0.length : Int) - 1)) < (l0.length : Int) then (some ((rd l0 (wrap64 ((l0.length : Int) - 1))) != 0)) else (none)) else (none))) else (some false)
def mag_Cmp.l0 : Nat → List Int → List Int → Int → Option (Int)
 | 0, _, _, _ => none
 | k + 1, x0, x1, x5 => if x5 ≥ 0 then (if 0 ≤ x5 then (if x5 < (x0.length : Int) then (if x5 < (x1.length : Int) then (if (rd x0 x5) = (rd x1 x5) then (mag_Cmp.l0 k x0 x1 (wrap64 (x5 - 1))) else (if (rd x0 x5) < (rd x1 x5) then (some (-1)) else (some 1))) else (none)) else (none)) else (none)) else (some 0)
def mag_Cmp.f (k : Nat) (l0 : List Int) (l1 : List Int) : Option (Int) := if (l0.length : Int) = (l1.length : Int) then (mag_Cmp.l0 k l0 l1 (wrap64 ((l0.length : Int) - 1))) else (if (l0.length : Int) < (l1.length : Int) then (some (-1)) else (some 1))
theorem mag_Cmp.mono_l : ∀ k, (∀ y0 y1 y2, LeO (mag_Cmp.l0 k y0 y1 y2) (mag_Cmp.l0 (k + 1) y0 y1 y2))
 | 0 => fun _ _ _ r h => by simp [mag_Cmp.l0] at h
 | k + 1 => by
  have ih0 := mag_Cmp.mono_l k
  ·intro y0 y1 y2
   unfold mag_Cmp.l0
   repeat' first
   | (with_reducible first | exact ih0 _ _ _ | exact LeO.refl _ | exact LeO.none _ | refine LeO.ite ?_ ?_ | refine LeO.bind ?_ (fun _ => ?_))
   | exact ih0 _ _ _
   | exact LeO.none _
   | refine LeO.ite ?_ ?_
   | refine LeO.bind ?_ (fun _ => ?_)
theorem mag_Cmp.mono : ∀ a0 a1 k, LeO (mag_Cmp.f k a0 a1) (mag_Cmp.f (k + 1) a0 a1) := by
 intro a0 a1 k
 have ih0 := mag_Cmp.mono_l k
 unfold mag_Cmp.f
 repeat' first
   | (with_reducible first | exact ih0 _ _ _ | exact LeO.refl _ | exact LeO.none _ | refine LeO.ite ?_ ?_ | refine LeO.bind ?_ (fun _ => ?_))
   | exact ih0 _ _ _
   | exact LeO.none _
   | refine LeO.ite ?_ ?_
   | refine LeO.bind ?_ (fun _ => ?_)
def mag_Trim.l0 : Nat → List Int → Option (List Int)
 | 0, _ => none
 | k + 1, x0 => if (x0.length : Int) > 0 then (if 0 ≤ (wrap64 ((x0.length : Int) - 1)) then (if (wrap64 ((x0.length : Int) - 1)) < (x0.length : Int) then (if (rd x0 (wrap64 ((x0.length : Int) - 1))) = 0 then (if (wrap64 ((x0.length : Int) - 1)) ≤ (x0.length : Int) then (mag_Trim.l0 k (x0.take ((wrap64 ((x0.length : Int) - 1)) : Int).toNat)) else (none)) else (some x0)) else (none)) else (none)) else (some x0)
def mag_Trim.f (k : Nat) (l0 : List Int) : Option (List Int) := mag_Trim.l0 k l0
theorem mag_Trim.mono_l : ∀ k, (∀ y0, LeO (mag_Trim.l0 k y0) (mag_Trim.l0 (k + 1) y0))
 | 0 => fun _ r h => by simp [mag_Trim.l0] at h
 | k + 1 => by
  have ih0 := mag_Trim.mono_l k
  ·intro y0
   unfold mag_Trim.l0
   repeat' first
   | (with_reducible first | exact ih0 _ | exact LeO.refl _ | exact LeO.none _ | refine LeO.ite ?_ ?_ | refine LeO.bind ?_ (fun _ => ?_))
   | exact ih0 _
   | exact LeO.none _
   | refine LeO.ite ?_ ?_
   | refine LeO.bind ?_ (fun _ => ?_)
theorem mag_Trim.mono : ∀ a0 k, LeO (mag_Trim.f k a0) (mag_Trim.f (k + 1) a0) := by
 intro a0 k
 have ih0 := mag_Trim.mono_l k
 unfold mag_Trim.f
 repeat' first
   | (with_reducible first | exact ih0 _ | exact LeO.refl _ | exact LeO.none _ | refine LeO.ite ?_ ?_ | refine LeO.bind ?_ (fun _ => ?_))
   | exact ih0 _
   | exact LeO.none _
   | refine LeO.ite ?_ ?_
   | refine LeO.bind ?_ (fun _ => ?_)
def mag_From.f (k : Nat) (a0 : Int) : Option (List Int) := (mag_Trim.f k (([(a0) % 4294967296, (a0 / 4294967296) % 4294967296] : List Int))).bind fun t115 => (some t115)
theorem mag_From.mono : ∀ a0 k, LeO (mag_From.f k a0) (mag_From.f (k + 1) a0) := by
 intro a0 k
 unfold mag_From.f
 repeat' first
   | (with_reducible first | exact mag_Trim.mono _ _ | exact LeO.refl _ | exact LeO.none _ | refine LeO.ite ?_ ?_ | refine LeO.bind ?_ (fun _ => ?_))
   | exact mag_Trim.mono _ _
   | exact LeO.none _
   | refine LeO.ite ?_ ?_
   | refine LeO.bind ?_ (fun _ => ?_)
def mag_divWord.l0 : Nat → List Int → Int → List Int → Int → Int → Option (List Int × Int)
 | 0, _, _, _, _, _ => none
 | k + 1, x0, x1, x6, x7, x8 => if x8 ≥ 0 then (if 0 ≤ x8 then (if x8 < (x0.length : Int) then (if (IntKind.u64.wrap (x1)) = 0 then (none) else (if x8 < (x6.length : Int) then (mag_divWord.l0 k x0 x1 (x6.set (x8 : Int).toNat ((IntKind.u64.wrap (Int.tdiv (Go.bits .or .u64 (IntKind.u64.wrap (x7 * 4294967296)) (IntKind.u64.wrap (rd x0 x8))) (IntKind.u64.wrap (x1)))) % 4294967296)) (Int.tmod (Go.bits .or .u64 (IntKind.u64.wrap (x7 * 4294967296)) (IntKind.u64.wrap (rd x0 x8))) (IntKind.u64.wrap (x1))) (wrap64 (x8 - 1))) else (none))) else (none)) else (none)) else ((mag_Trim.f k x6).bind fun t123 => (some (t123, (x7) % 4294967296)))
def mag_divWord.f (k : Nat) (l0 : List Int) (a1 : Int) : Option (List Int × Int) := if 0 ≤ (l0.length : Int) then (if ((l0.length : Int) : Int).toNat ≤ 70368744177664 then (mag_divWord.l0 k l0 a1 (List.replicate ((l0.length : Int) : Int).toNat 0) 0 (wrap64 ((l0.length : Int) - 1))) else (none)) else (none)
theorem mag_divWord.mono_l : ∀ k, (∀ y0 y1 y2 y3 y4, LeO (mag_divWord.l0 k y0 y1 y2 y3 y4) (mag_divWord.l0 (k + 1) y0 y1 y2 y3 y4))
 | 0 => fun _ _ _ _ _ r h => by simp [mag_divWord.l0] at h
 | k + 1 => by
  have ih0 := mag_divWord.mono_l k
  ·intro y0 y1 y2 y3 y4
   unfold mag_divWord.l0
   repeat' first
   | (with_reducible first | exact ih0 _ _ _ _ _ | exact mag_Trim.mono _ _ | exact LeO.refl _ | exact LeO.none _ | refine LeO.ite ?_ ?_ | refine LeO.bind ?_ (fun _ => ?_))
   | exact ih0 _ _ _ _ _
   | exact mag_Trim.mono _ _
   | exact LeO.none _
   | refine LeO.ite ?_ ?_
   | refine LeO.bind ?_ (fun _ => ?_)
theorem mag_divWord.mono : ∀ a0 a1 k, LeO (mag_divWord.f k a0 a1) (mag_divWord.f (k + 1) a0 a1) := by
 intro a0 a1 k
 have ih0 := mag_divWord.mono_l k
 unfold mag_divWord.f
 repeat' first
   | (with_reducible first | exact ih0 _ _ _ _ _ | exact mag_Trim.mono _ _ | exact LeO.refl _ | exact LeO.none _ | refine LeO.ite ?_ ?_ | refine LeO.bind ?_ (fun _ => ?_))
   | exact ih0 _ _ _ _ _
   | exact mag_Trim.mono _ _
   | exact LeO.none _
   | refine LeO.ite ?_ ?_
   | refine LeO.bind ?_ (fun _ => ?_)
def bits_Len32.f (a0 : Int) : Option (Int) := if a0 ≥ 65536 then (if (a0 / 65536) ≥ 256 then (if 0 ≤ (((a0 / 65536) / 256) % 256) then (if (((a0 / 65536) / 256) % 256) < 256 then (some (wrap64 ((16 + 8) + (wrap64 (bt (⟨#[0, 1, 2, 2, 3, 3, 3, 3, 4, 4, 4, 4, 4, 4, 4, 4, 5, 5, 5, 5, 5, 5, 5, 5, 5, 5, 5, 5, 5, 5, 5, 5, 6, 6, 6, 6, 6, 6, 6, 6, 6, 6, 6, 6, 6, 6, 6, 6, 6, 6, 6, 6, 6, 6, 6, 6, 6, 6, 6, 6, 6, 6, 6, 6, 7, 7, 7, 7, 7, 7, 7, 7, 7, 7, 7, 7, 7, 7, 7, 7, 7, 7, 7, 7, 7, 7, 7, 7, 7, 7, 7, 7, 7, 7, 7, 7, 7, 7, 7, 7, 7, 7, 7, 7, 7, 7, 7, 7, 7, 7, 7, 7, 7, 7, 7, 7, 7, 7, 7, 7, 7, 7, 7, 7, 7, 7, 7, 7, 8, 8, 8, 8, 8, 8, 8, 8, 8, 8, 8, 8, 8, 8, 8, 8, 8, 8, 8, 8, 8, 8, 8, 8, 8, 8, 8, 8, 8, 8, 8, 8, 8, 8, 8, 8, 8, 8, 8, 8, 8, 8, 8, 8, 8, 8, 8, 8, 8, 8, 8, 8, 8, 8, 8, 8, 8, 8, 8, 8, 8, 8, 8, 8, 8, 8, 8, 8, 8, 8, 8, 8, 8, 8, 8, 8, 8, 8, 8, 8, 8, 8, 8, 8, 8, 8, 8, 8, 8, 8, 8, 8, 8, 8, 8, 8, 8, 8, 8, 8, 8, 8, 8, 8, 8, 8, 8, 8, 8, 8, 8, 8, 8, 8, 8, 8, 8, 8, 8, 8, 8, 8, 8, 8, 8, 8, 8, 8]⟩ : ByteArray) (((a0 / 65536) / 256) % 256)))))) else (none)) else (none)) else (if 0 ≤ ((a0 / 65536) % 256) then (if ((a0 / 65536) % 256) < 256 then (some (wrap64 (16 + (wrap64 (bt (⟨#[0, 1, 2, 2, 3, 3, 3, 3, 4, 4, 4, 4, 4, 4, 4, 4, 5, 5, 5, 5, 5, 5, 5, 5, 5, 5, 5, 5, 5, 5, 5, 5, 6, 6, 6, 6, 6, 6, 6, 6, 6, 6, 6, 6, 6, 6, 6, 6, 6, 6, 6, 6, 6, 6, 6, 6, 6, 6, 6, 6, 6, 6, 6, 6, 7, 7, 7, 7, 7, 7, 7, 7, 7, 7, 7, 7, 7, 7, 7, 7, 7, 7, 7, 7, 7, 7, 7, 7, 7, 7, 7, 7, 7, 7, 7, 7, 7, 7, 7, 7, 7, 7, 7, 7, 7, 7, 7, 7, 7, 7, 7, 7, 7, 7, 7, 7, 7, 7, 7, 7, 7, 7, 7, 7, 7, 7, 7, 7, 8, 8, 8, 8, 8, 8, 8, 8, 8, 8, 8, 8, 8, 8, 8, 8, 8, 8, 8, 8, 8, 8, 8, 8, 8, 8, 8, 8, 8, 8, 8, 8, 8, 8, 8, 8, 8, 8, 8, 8, 8, 8, 8, 8, 8, 8, 8, 8, 8, 8, 8, 8, 8, 8, 8, 8, 8, 8, 8, 8, 8, 8, 8, 8, 8, 8, 8, 8, 8, 8, 8, 8, 8, 8, 8, 8, 8, 8, 8, 8, 8, 8, 8, 8, 8, 8, 8, 8, 8, 8, 8, 8, 8, 8, 8, 8, 8, 8, 8, 8, 8, 8, 8, 8, 8, 8, 8, 8, 8, 8, 8, 8, 8, 8, 8, 8, 8, 8, 8, 8, 8, 8, 8, 8, 8, 8, 8, 8]⟩ : ByteArray) ((a0 / 65536) % 256)))))) else (none)) else (none))) else (if a0 ≥ 256 then (if 0 ≤ ((a0 / 256) % 256) then (if ((a0 / 256) % 256) < 256 then (some (wrap64 ((0 + 8) + (wrap64 (bt (⟨#[0, 1, 2, 2, 3, 3, 3, 3, 4, 4, 4, 4, 4, 4, 4, 4, 5, 5, 5, 5, 5, 5, 5, 5, 5, 5, 5, 5, 5, 5, 5, 5, 6, 6, 6, 6, 6, 6, 6, 6, 6, 6, 6, 6, 6, 6, 6, 6, 6, 6, 6, 6, 6, 6, 6, 6, 6, 6, 6, 6, 6, 6, 6, 6, 7, 7, 7, 7, 7, 7, 7, 7, 7, 7, 7, 7, 7, 7, 7, 7, 7, 7, 7, 7, 7, 7, 7, 7, 7, 7, 7, 7, 7, 7, 7, 7, 7, 7, 7, 7, 7, 7, 7, 7, 7, 7, 7, 7, 7, 7, 7, 7, 7, 7, 7, 7, 7, 7, 7, 7, 7, 7, 7, 7, 7, 7, 7, 7, 8, 8, 8, 8, 8, 8, 8, 8, 8, 8, 8, 8, 8, 8, 8, 8, 8, 8, 8, 8, 8, 8, 8, 8, 8, 8, 8, 8, 8, 8, 8, 8, 8, 8, 8, 8, 8, 8, 8, 8, 8, 8, 8, 8, 8, 8, 8, 8, 8, 8, 8, 8, 8, 8, 8, 8, 8, 8, 8, 8, 8, 8, 8, 8, 8, 8, 8, 8, 8, 8, 8, 8, 8, 8, 8, 8, 8, 8, 8, 8, 8, 8, 8, 8, 8, 8, 8, 8, 8, 8, 8, 8, 8, 8, 8, 8, 8, 8, 8, 8, 8, 8, 8, 8, 8, 8, 8, 8, 8, 8, 8, 8, 8, 8, 8, 8, 8, 8, 8, 8, 8, 8, 8, 8, 8, 8, 8, 8]⟩ : ByteArray) ((a0 / 256) % 256)))))) else (none)) else (none)) else (if 0 ≤ ((a0) % 256) then (if ((a0) % 256) < 256 then (some (wrap64 (0 + (wrap64 (bt (⟨#[0, 1, 2, 2, 3, 3, 3, 3, 4, 4, 4, 4, 4, 4, 4, 4, 5, 5, 5, 5, 5, 5, 5, 5, 5, 5, 5, 5, 5, 5, 5, 5, 6, 6, 6, 6, 6, 6, 6, 6, 6, 6, 6, 6, 6, 6, 6, 6, 6, 6, 6, 6, 6, 6, 6, 6, 6, 6, 6, 6, 6, 6, 6, 6, 7, 7, 7, 7, 7, 7, 7, 7, 7, 7, 7, 7, 7, 7, 7, 7, 7, 7, 7, 7, 7, 7, 7, 7, 7, 7, 7, 7, 7, 7, 7, 7, 7, 7, 7, 7, 7, 7, 7, 7, 7, 7, 7, 7, 7, 7, 7, 7, 7, 7, 7, 7, 7, 7, 7, 7, 7, 7, 7, 7, 7, 7, 7, 7, 8, 8, 8, 8, 8, 8, 8, 8, 8, 8, 8, 8, 8, 8, 8, 8, 8, 8, 8, 8, 8, 8, 8, 8, 8, 8, 8, 8, 8, 8, 8, 8, 8, 8, 8, 8, 8, 8, 8, 8, 8, 8, 8, 8, 8, 8, 8, 8, 8, 8, 8, 8, 8, 8, 8, 8, 8, 8, 8, 8, 8, 8, 8, 8, 8, 8, 8, 8, 8, 8, 8, 8, 8, 8, 8, 8, 8, 8, 8, 8, 8, 8, 8, 8, 8, 8, 8, 8, 8, 8, 8, 8, 8, 8, 8, 8, 8, 8, 8, 8, 8, 8, 8, 8, 8, 8, 8, 8, 8, 8, 8, 8, 8, 8, 8, 8, 8, 8, 8, 8, 8, 8, 8, 8, 8, 8, 8, 8]⟩ : ByteArray) ((a0) % 256)))))) else (none)) else (none)))
def bits_LeadingZeros32.f (a0 : Int) : Option (Int) := (bits_Len32.f a0).bind fun t126 => (some (wrap64 (32 - t126)))
def mag_Shl.l0 : Nat → Int → Int → List Int → List Int → Int → Int → Option (List Int)
 | 0, _, _, _, _, _, _ => none
 | k + 1, x5, x6, x7, x25, x26, x27 => if x27 < x26 then (if 0 ≤ x27 then (if x27 < (x25.length : Int) then (if 0 ≤ x6 then (if 0 ≤ (wrap64 (x27 + x5)) then (if (wrap64 (x27 + x5)) < (x7.length : Int) then (if 0 ≤ (wrap64 ((wrap64 (x27 + x5)) + 1)) then (if (wrap64 ((wrap64 (x27 + x5)) + 1)) < (x7.length : Int) then (mag_Shl.l0 k x5 x6 ((x7.set ((wrap64 (x27 + x5)) : Int).toNat (Go.bits .or .u32 (rd x7 (wrap64 (x27 + x5))) ((shl .u64 (IntKind.u64.wrap (rd x25 x27)) x6) % 4294967296))).set ((wrap64 ((wrap64 (x27 + x5)) + 1)) : Int).toNat (((shl .u64 (IntKind.u64.wrap (rd x25 x27)) x6) / 4294967296) % 4294967296)) x25 x26 (wrap64 (x27 + 1))) else (none)) else (none)) else (none)) else (none)) else (none)) else (none)) else (none)) else ((mag_Trim.f k x7).bind fun t134 => (some t134))
def mag_Shl.f (k : Nat) (l0 : List Int) (a1 : Int) : Option (List Int) := if (l0.length : Int) = 0 then (some ([] : List Int)) else (if 0 ≤ (wrap64 ((wrap64 ((l0.length : Int) + (wrap64 (Int.tdiv a1 32)))) + 1)) then (if (wrap64 ((wrap64 ((l0.length : Int) + (wrap64 (Int.tdiv a1 32)))) + 1) : Int).toNat ≤ 70368744177664 then (mag_Shl.l0 k (wrap64 (Int.tdiv a1 32)) (IntKind.u64.wrap (Int.tmod a1 32)) (List.replicate (wrap64 ((wrap64 ((l0.length : Int) + (wrap64 (Int.tdiv a1 32)))) + 1) : Int).toNat 0) l0 (l0.length : Int) 0) else (none)) else (none))
theorem mag_Shl.mono_l : ∀ k, (∀ y0 y1 y2 y3 y4 y5, LeO (mag_Shl.l0 k y0 y1 y2 y3 y4 y5) (mag_Shl.l0 (k + 1) y0 y1 y2 y3 y4 y5))
 | 0 => fun _ _ _ _ _ _ r h => by simp [mag_Shl.l0] at h
 | k + 1 => by
  have ih0 := mag_Shl.mono_l k
  ·intro y0 y1 y2 y3 y4 y5
   unfold mag_Shl.l0
   repeat' first
   | (with_reducible first | exact ih0 _ _ _ _ _ _ | exact mag_Trim.mono _ _ | exact LeO.refl _ | exact LeO.none _ | refine LeO.ite ?_ ?_ | refine LeO.bind ?_ (fun _ => ?_))
   | exact ih0 _ _ _ _ _ _
   | exact mag_Trim.mono _ _
   | exact LeO.none _
   | refine LeO.ite ?_ ?_
   | refine LeO.bind ?_ (fun _ => ?_)
theorem mag_Shl.mono : ∀ a0 a1 k, LeO (mag_Shl.f k a0 a1) (mag_Shl.f (k + 1) a0 a1) := by
 intro a0 a1 k
 have ih0 := mag_Shl.mono_l k
 unfold mag_Shl.f
 repeat' first
   | (with_reducible first | exact ih0 _ _ _ _ _ _ | exact mag_Trim.mono _ _ | exact LeO.refl _ | exact LeO.none _ | refine LeO.ite ?_ ?_ | refine LeO.bind ?_ (fun _ => ?_))
   | exact ih0 _ _ _ _ _ _
   | exact mag_Trim.mono _ _
   | exact LeO.none _
   | refine LeO.ite ?_ ?_
   | refine LeO.bind ?_ (fun _ => ?_)
def mag_subtract.l0 : Nat → List Int → List Int → Int → Int → Int → List Int → Int → Int → Option (Bool × List Int)
 | 0, _, _, _, _, _, _, _, _ => none
 | k + 1, x0, x1, x2, x7, x8, x13, x14, x15 => if x15 < x14 then (if 0 ≤ x15 then (if x15 < (x13.length : Int) then (if x15 < (x0.length : Int) then (mag_subtract.l0 k (x0.set (x15 : Int).toNat ((IntKind.u64.wrap ((IntKind.u64.wrap ((IntKind.u64.wrap (rd x0 x15)) - ((IntKind.u64.wrap (x7 + (IntKind.u64.wrap (x2 * (IntKind.u64.wrap (rd x13 x15)))))) % 4294967296))) - x8)) % 4294967296)) x1 x2 ((IntKind.u64.wrap (x7 + (IntKind.u64.wrap (x2 * (IntKind.u64.wrap (rd x13 x15)))))) / 4294967296) ((IntKind.u64.wrap ((IntKind.u64.wrap ((IntKind.u64.wrap (rd x0 x15)) - ((IntKind.u64.wrap (x7 + (IntKind.u64.wrap (x2 * (IntKind.u64.wrap (rd x13 x15)))))) % 4294967296))) - x8)) / 9223372036854775808) x13 x14 (wrap64 (x15 + 1))) else (none)) else (none)) else (none)) else (if 0 ≤ (x1.length : Int) then (if (x1.length : Int) < (x0.length : Int) then (some ((((IntKind.u64.wrap ((IntKind.u64.wrap ((IntKind.u64.wrap (rd x0 (x1.length : Int))) - x7)) - x8)) / 9223372036854775808) == 1), (x0.set ((x1.length : Int) : Int).toNat ((IntKind.u64.wrap ((IntKind.u64.wrap ((IntKind.u64.wrap (rd x0 (x1.length : Int))) - x7)) - x8)) % 4294967296)))) else (none)) else (none))
def mag_subtract.f (k : Nat) (l0 : List Int) (l1 : List Int) (a2 : Int) : Option (Bool × List Int) := mag_subtract.l0 k l0 l1 a2 0 0 l1 (l1.length : Int) 0
theorem mag_subtract.mono_l : ∀ k, (∀ y0 y1 y2 y3 y4 y5 y6 y7, LeO (mag_subtract.l0 k y0 y1 y2 y3 y4 y5 y6 y7) (mag_subtract.l0 (k + 1) y0 y1 y2 y3 y4 y5 y6 y7))
 | 0 => fun _ _ _ _ _ _ _ _ r h => by simp [mag_subtract.l0] at h
 | k + 1 => by
  have ih0 := mag_subtract.mono_l k
  ·intro y0 y1 y2 y3 y4 y5 y6 y7
   unfold mag_subtract.l0
   repeat' first
   | (with_reducible first | exact ih0 _ _ _ _ _ _ _ _ | exact LeO.refl _ | exact LeO.none _ | refine LeO.ite ?_ ?_ | refine LeO.bind ?_ (fun _ => ?_))
   | exact ih0 _ _ _ _ _ _ _ _
   | exact LeO.none _
   | refine LeO.ite ?_ ?_
   | refine LeO.bind ?_ (fun _ => ?_)
theorem mag_subtract.mono : ∀ a0 a1 a2 k, LeO (mag_subtract.f k a0 a1 a2) (mag_subtract.f (k + 1) a0 a1 a2) := by
 intro a0 a1 a2 k
 have ih0 := mag_subtract.mono_l k
 unfold mag_subtract.f
 repeat' first
   | (with_reducible first | exact ih0 _ _ _ _ _ _ _ _ | exact LeO.refl _ | exact LeO.none _ | refine LeO.ite ?_ ?_ | refine LeO.bind ?_ (fun _ => ?_))
   | exact ih0 _ _ _ _ _ _ _ _
   | exact LeO.none _
   | refine LeO.ite ?_ ?_
   | refine LeO.bind ?_ (fun _ => ?_)
def mag_subtractAt.f (k : Nat) (l0 : List Int) (b1_ b2_ : Int) (l1 : List Int) (a2 : Int) : Option (Bool × List Int) := (mag_subtract.f k ((l0.take b2_.toNat).drop b1_.toNat) l1 a2).bind fun p => some (p.1, l0.take b1_.toNat ++ p.2 ++ l0.drop b2_.toNat)
theorem mag_subtractAt.mono : ∀ (l0 : List Int) (b1_ b2_ : Int) (l1 : List Int) (a2 : Int) k, LeO (mag_subtractAt.f k l0 b1_ b2_ l1 a2) (mag_subtractAt.f (k + 1) l0 b1_ b2_ l1 a2) := by
 intro l0 b1_ b2_ l1 a2 k
 unfold mag_subtractAt.f
 exact LeO.bind (mag_subtract.mono _ _ _ _) (fun _ => LeO.refl _)
def mag_restore.l0 : Nat → List Int → List Int → Int → List Int → Int → Int → Option (List Int)
 | 0, _, _, _, _, _, _ => none
 | k + 1, x0, x1, x4, x7, x8, x9 => if x9 < x8 then (if 0 ≤ x9 then (if x9 < (x7.length : Int) then (if x9 < (x0.length : Int) then (mag_restore.l0 k (x0.set (x9 : Int).toNat ((IntKind.u64.wrap (x4 + (IntKind.u64.wrap ((IntKind.u64.wrap (rd x0 x9)) + (IntKind.u64.wrap (rd x7 x9)))))) % 4294967296)) x1 ((IntKind.u64.wrap (x4 + (IntKind.u64.wrap ((IntKind.u64.wrap (rd x0 x9)) + (IntKind.u64.wrap (rd x7 x9)))))) / 4294967296) x7 x8 (wrap64 (x9 + 1))) else (none)) else (none)) else (none)) else (if 0 ≤ (x1.length : Int) then (if (x1.length : Int) < (x0.length : Int) then (some (x0.set ((x1.length : Int) : Int).toNat (((rd x0 (x1.length : Int)) + ((x4) % 4294967296)) % 4294967296))) else (none)) else (none))
def mag_restore.f (k : Nat) (l0 : List Int) (l1 : List Int) : Option (List Int) := mag_restore.l0 k l0 l1 0 l1 (l1.length : Int) 0
theorem mag_restore.mono_l : ∀ k, (∀ y0 y1 y2 y3 y4 y5, LeO (mag_restore.l0 k y0 y1 y2 y3 y4 y5) (mag_restore.l0 (k + 1) y0 y1 y2 y3 y4 y5))
 | 0 => fun _ _ _ _ _ _ r h => by simp [mag_restore.l0] at h
 | k + 1 => by
  have ih0 := mag_restore.mono_l k
  ·intro y0 y1 y2 y3 y4 y5
   unfold mag_restore.l0
   repeat' first
   | (with_reducible first | exact ih0 _ _ _ _ _ _ | exact LeO.refl _ | exact LeO.none _ | refine LeO.ite ?_ ?_ | refine LeO.bind ?_ (fun _ => ?_))
   | exact ih0 _ _ _ _ _ _
   | exact LeO.none _
   | refine LeO.ite ?_ ?_
   | refine LeO.bind ?_ (fun _ => ?_)
theorem mag_restore.mono : ∀ a0 a1 k, LeO (mag_restore.f k a0 a1) (mag_restore.f (k + 1) a0 a1) := by
 intro a0 a1 k
 have ih0 := mag_restore.mono_l k
 unfold mag_restore.f
 repeat' first
   | (with_reducible first | exact ih0 _ _ _ _ _ _ | exact LeO.refl _ | exact LeO.none _ | refine LeO.ite ?_ ?_ | refine LeO.bind ?_ (fun _ => ?_))
   | exact ih0 _ _ _ _ _ _
   | exact LeO.none _
   | refine LeO.ite ?_ ?_
   | refine LeO.bind ?_ (fun _ => ?_)
def mag_restoreAt.f (k : Nat) (l0 : List Int) (b1_ b2_ : Int) (l1 : List Int) : Option (List Int) := (mag_restore.f k ((l0.take b2_.toNat).drop b1_.toNat) l1).bind fun p => some (l0.take b1_.toNat ++ p ++ l0.drop b2_.toNat)
theorem mag_restoreAt.mono : ∀ (l0 : List Int) (b1_ b2_ : Int) (l1 : List Int) k, LeO (mag_restoreAt.f k l0 b1_ b2_ l1) (mag_restoreAt.f (k + 1) l0 b1_ b2_ l1) := by
 intro l0 b1_ b2_ l1 k
 unfold mag_restoreAt.f
 exact LeO.bind (mag_restore.mono _ _ _) (fun _ => LeO.refl _)
def mag_Shr.l0 : Nat → List Int → Int → Int → List Int → Int → Int → Option (List Int)
 | 0, _, _, _, _, _, _ => none
 | k + 1, x0, x5, x6, x7, x25, x26 => if x26 < x25 then (if 0 ≤ (wrap64 (x26 + x5)) then (if (wrap64 (x26 + x5)) < (x0.length : Int) then (if (wrap64 ((wrap64 (x26 + x5)) + 1)) < (x0.length : Int) then (if 0 ≤ (wrap64 ((wrap64 (x26 + x5)) + 1)) then (if 0 ≤ x6 then (if 0 ≤ x26 then (if x26 < (x7.length : Int) then (mag_Shr.l0 k x0 x5 x6 (x7.set (x26 : Int).toNat ((shr .u64 (Go.bits .or .u64 (IntKind.u64.wrap (rd x0 (wrap64 (x26 + x5)))) (IntKind.u64.wrap ((IntKind.u64.wrap (rd x0 (wrap64 ((wrap64 (x26 + x5)) + 1)))) * 4294967296))) x6) % 4294967296)) x25 (wrap64 (x26 + 1))) else (none)) else (none)) else (none)) else (none)) else (if 0 ≤ x6 then (if 0 ≤ x26 then (if x26 < (x7.length : Int) then (mag_Shr.l0 k x0 x5 x6 (x7.set (x26 : Int).toNat ((shr .u64 (IntKind.u64.wrap (rd x0 (wrap64 (x26 + x5)))) x6) % 4294967296)) x25 (wrap64 (x26 + 1))) else (none)) else (none)) else (none))) else (none)) else (none)) else ((mag_Trim.f k x7).bind fun t154 => (some t154))
def mag_Shr.f (k : Nat) (l0 : List Int) (a1 : Int) : Option (List Int) := if (wrap64 (Int.tdiv a1 32)) ≥ (l0.length : Int) then (some ([] : List Int)) else (if 0 ≤ (wrap64 ((l0.length : Int) - (wrap64 (Int.tdiv a1 32)))) then (if (wrap64 ((l0.length : Int) - (wrap64 (Int.tdiv a1 32))) : Int).toNat ≤ 70368744177664 then ((some (List.replicate (wrap64 ((l0.length : Int) - (wrap64 (Int.tdiv a1 32))) : Int).toNat 0 : List Int)).bind fun y147 => (mag_Shr.l0 k l0 (wrap64 (Int.tdiv a1 32)) (IntKind.u64.wrap (Int.tmod a1 32)) y147 (y147.length : Int) 0)) else (none)) else (none))
theorem mag_Shr.mono_l : ∀ k, (∀ y0 y1 y2 y3 y4 y5, LeO (mag_Shr.l0 k y0 y1 y2 y3 y4 y5) (mag_Shr.l0 (k + 1) y0 y1 y2 y3 y4 y5))
 | 0 => fun _ _ _ _ _ _ r h => by simp [mag_Shr.l0] at h
 | k + 1 => by
  have ih0 := mag_Shr.mono_l k
  ·intro y0 y1 y2 y3 y4 y5
   unfold mag_Shr.l0
   repeat' first
   | (with_reducible first | exact ih0 _ _ _ _ _ _ | exact mag_Trim.mono _ _ | exact LeO.refl _ | exact LeO.none _ | refine LeO.ite ?_ ?_ | refine LeO.bind ?_ (fun _ => ?_))
   | exact ih0 _ _ _ _ _ _
   | exact mag_Trim.mono _ _
   | exact LeO.none _
   | refine LeO.ite ?_ ?_
   | refine LeO.bind ?_ (fun _ => ?_)
theorem mag_Shr.mono : ∀ a0 a1 k, LeO (mag_Shr.f k a0 a1) (mag_Shr.f (k + 1) a0 a1) := by
 intro a0 a1 k
 have ih0 := mag_Shr.mono_l k
 unfold mag_Shr.f
 repeat' first
   | (with_reducible first | exact ih0 _ _ _ _ _ _ | exact mag_Trim.mono _ _ | exact LeO.refl _ | exact LeO.none _ | refine LeO.ite ?_ ?_ | refine LeO.bind ?_ (fun _ => ?_))
   | exact ih0 _ _ _ _ _ _
   | exact mag_Trim.mono _ _
   | exact LeO.none _
   | refine LeO.ite ?_ ?_
   | refine LeO.bind ?_ (fun _ => ?_)
mutual
def mag_DivMod.l0 : Nat → List Int → Int → List Int → List Int → Int → Int → Int → Int → Option (List Int × List Int)
 | 0, _, _, _, _, _, _, _, _ => none
 | k + 1, x4, x8, x9, x10, x11, x12, x13, x14 => if x14 ≥ 0 then (if 0 ≤ (wrap64 (x14 + x11)) then (if (wrap64 (x14 + x11)) < (x10.length : Int) then (if 0 ≤ (wrap64 ((wrap64 (x14 + x11)) - 1)) then (if (wrap64 ((wrap64 (x14 + x11)) - 1)) < (x10.length : Int) then (if x12 = 0 then (none) else (mag_DivMod.l1 k x4 x8 x9 x10 x11 x12 x13 x14 (IntKind.u64.wrap (Int.tdiv (Go.bits .or .u64 (IntKind.u64.wrap ((IntKind.u64.wrap (rd x10 (wrap64 (x14 + x11)))) * 4294967296)) (IntKind.u64.wrap (rd x10 (wrap64 ((wrap64 (x14 + x11)) - 1))))) x12)) (Int.tmod (Go.bits .or .u64 (IntKind.u64.wrap ((IntKind.u64.wrap (rd x10 (wrap64 (x14 + x11)))) * 4294967296)) (IntKind.u64.wrap (rd x10 (wrap64 ((wrap64 (x14 + x11)) - 1))))) x12))) else (none)) else (none)) else (none)) else (none)) else ((mag_Trim.f k x4).bind fun t186 => ((mag_Trim.f k x10).bind fun t189 => ((mag_Shr.f k t189 x8).bind fun t192 => (some (t186, t192)))))
def mag_DivMod.j3 : Nat → List Int → Int → List Int → List Int → Int → Int → Int → Int → Int → Option (List Int × List Int)
 | 0, _, _, _, _, _, _, _, _, _ => none
 | k + 1, x4, x8, x9, x10, x11, x12, x13, x14, x16 => if 0 ≤ x14 then (if x14 < (wrap64 ((wrap64 (x14 + x11)) + 1)) then (if (wrap64 ((wrap64 (x14 + x11)) + 1)) ≤ (x10.length : Int) then ((mag_subtractAt.f k x10 x14 (wrap64 ((wrap64 (x14 + x11)) + 1)) x9 x16).bind fun bt199 => (if bt199.1 = true then ((mag_restoreAt.f k bt199.2 x14 (wrap64 ((wrap64 (x14 + x11)) + 1)) x9).bind fun t202 => (if x14 < (x4.length : Int) then (mag_DivMod.l0 k (x4.set (x14 : Int).toNat ((IntKind.u64.wrap (x16 - 1)) % 4294967296)) x8 x9 t202 x11 x12 x13 (wrap64 (x14 - 1))) else (none))) else (if x14 < (x4.length : Int) then (mag_DivMod.l0 k (x4.set (x14 : Int).toNat ((x16) % 4294967296)) x8 x9 bt199.2 x11 x12 x13 (wrap64 (x14 - 1))) else (none)))) else (none)) else (none)) else (none)
def mag_DivMod.l1 : Nat → List Int → Int → List Int → List Int → Int → Int → Int → Int → Int → Int → Option (List Int × List Int)
 | 0, _, _, _, _, _, _, _, _, _, _ => none
 | k + 1, x4, x8, x9, x10, x11, x12, x13, x14, x16, x17 => if x16 ≥ 4294967296 then (mag_DivMod.j2 k x4 x8 x9 x10 x11 x12 x13 x14 x16 x17 true) else (if 0 ≤ (wrap64 ((wrap64 (x14 + x11)) - 2)) then (if (wrap64 ((wrap64 (x14 + x11)) - 2)) < (x10.length : Int) then (mag_DivMod.j2 k x4 x8 x9 x10 x11 x12 x13 x14 x16 x17 (decide ((IntKind.u64.wrap (x16 * x13)) > (Go.bits .or .u64 (IntKind.u64.wrap (x17 * 4294967296)) (IntKind.u64.wrap (rd x10 (wrap64 ((wrap64 (x14 + x11)) - 2)))))))) else (none)) else (none))
def mag_DivMod.j2 : Nat → List Int → Int → List Int → List Int → Int → Int → Int → Int → Int → Int → Bool → Option (List Int × List Int)
 | 0, _, _, _, _, _, _, _, _, _, _, _ => none
 | k + 1, x4, x8, x9, x10, x11, x12, x13, x14, x16, x17, x127 => if x127 = true then (if (IntKind.u64.wrap (x17 + x12)) ≥ 4294967296 then (mag_DivMod.j3 k x4 x8 x9 x10 x11 x12 x13 x14 (IntKind.u64.wrap (x16 - 1))) else (mag_DivMod.l1 k x4 x8 x9 x10 x11 x12 x13 x14 (IntKind.u64.wrap (x16 - 1)) (IntKind.u64.wrap (x17 + x12)))) else (mag_DivMod.j3 k x4 x8 x9 x10 x11 x12 x13 x14 x16)
end
def mag_DivMod.f (k : Nat) (l0 : List Int) (l1 : List Int) : Option (List Int × List Int) := (mag_Cmp.f k l0 l1).bind fun t157 => (if t157 < 0 then (if ([] : List Int).length + l0.length < 35184372088832 then (some (([] : List Int), (([] : List Int) ++ l0))) else (none)) else (if (l1.length : Int) = 1 then (if 0 < (l1.length : Int) then ((mag_divWord.f k l0 (rd l1 0)).bind fun bt162 => ((mag_From.f k (IntKind.u64.wrap (bt162.2))).bind fun t166 => (some (bt162.1, t166)))) else (none)) else (if 0 ≤ (wrap64 ((l1.length : Int) - 1)) then (if (wrap64 ((l1.length : Int) - 1)) < (l1.length : Int) then ((bits_LeadingZeros32.f (rd l1 (wrap64 ((l1.length : Int) - 1)))).bind fun t170 => ((mag_Shl.f k l1 t170).bind fun t171 => (if 0 ≤ (wrap64 ((l0.length : Int) + 1)) then (if (wrap64 ((l0.length : Int) + 1) : Int).toNat ≤ 70368744177664 then ((some (List.replicate (wrap64 ((l0.length : Int) + 1) : Int).toNat 0 : List Int)).bind fun y174 => ((mag_Shl.f k l0 t170).bind fun t177 => (if 0 ≤ (wrap64 ((y174.length : Int) - (t171.length : Int))) then (if (wrap64 ((y174.length : Int) - (t171.length : Int)) : Int).toNat ≤ 70368744177664 then (if 0 ≤ (wrap64 ((t171.length : Int) - 1)) then (if (wrap64 ((t171.length : Int) - 1)) < (t171.length : Int) then (if 0 ≤ (wrap64 ((t171.length : Int) - 2)) then (if (wrap64 ((t171.length : Int) - 2)) < (t171.length : Int) then (mag_DivMod.l0 k (List.replicate (wrap64 ((y174.length : Int) - (t171.length : Int)) : Int).toNat 0) t170 t171 (cpy y174 t177) (t171.length : Int) (IntKind.u64.wrap (rd t171 (wrap64 ((t171.length : Int) - 1)))) (IntKind.u64.wrap (rd t171 (wrap64 ((t171.length : Int) - 2)))) (wrap64 ((wrap64 ((y174.length : Int) - (t171.length : Int))) - 1))) else (none)) else (none)) else (none)) else (none)) else (none)) else (none)))) else (none)) else (none)))) else (none)) else (none))))
theorem mag_DivMod.mono_l : ∀ k, (∀ y0 y1 y2 y3 y4 y5 y6 y7, LeO (mag_DivMod.l0 k y0 y1 y2 y3 y4 y5 y6 y7) (mag_DivMod.l0 (k + 1) y0 y1 y2 y3 y4 y5 y6 y7)) ∧ (∀ y0 y1 y2 y3 y4 y5 y6 y7 y8, LeO (mag_DivMod.j3 k y0 y1 y2 y3 y4 y5 y6 y7 y8) (mag_DivMod.j3 (k + 1) y0 y1 y2 y3 y4 y5 y6 y7 y8)) ∧ (∀ y0 y1 y2 y3 y4 y5 y6 y7 y8 y9, LeO (mag_DivMod.l1 k y0 y1 y2 y3 y4 y5 y6 y7 y8 y9) (mag_DivMod.l1 (k + 1) y0 y1 y2 y3 y4 y5 y6 y7 y8 y9)) ∧ (∀ y0 y1 y2 y3 y4 y5 y6 y7 y8 y9 y10, LeO (mag_DivMod.j2 k y0 y1 y2 y3 y4 y5 y6 y7 y8 y9 y10) (mag_DivMod.j2 (k + 1) y0 y1 y2 y3 y4 y5 y6 y7 y8 y9 y10))
 | 0 => ⟨fun _ _ _ _ _ _ _ _ r h => by simp [mag_DivMod.l0] at h, fun _ _ _ _ _ _ _ _ _ r h => by simp [mag_DivMod.j3] at h, fun _ _ _ _ _ _ _ _ _ _ r h => by simp [mag_DivMod.l1] at h, fun _ _ _ _ _ _ _ _ _ _ _ r h => by simp [mag_DivMod.j2] at h⟩
 | k + 1 => by
  obtain ⟨ih0, ih1, ih2, ih3⟩ := mag_DivMod.mono_l k
  refine ⟨?_, ?_, ?_, ?_⟩
  ·intro y0 y1 y2 y3 y4 y5 y6 y7
   unfold mag_DivMod.l0
   repeat' first
   | (with_reducible first | exact ih0 _ _ _ _ _ _ _ _ | exact ih1 _ _ _ _ _ _ _ _ _ | exact ih2 _ _ _ _ _ _ _ _ _ _ | exact ih3 _ _ _ _ _ _ _ _ _ _ _ | exact mag_Cmp.mono _ _ _ | exact mag_From.mono _ _ | exact mag_Shl.mono _ _ _ | exact mag_Shr.mono _ _ _ | exact mag_Trim.mono _ _ | exact mag_divWord.mono _ _ _ | exact mag_restoreAt.mono _ _ _ _ _ | exact mag_subtractAt.mono _ _ _ _ _ _ | exact LeO.refl _ | exact LeO.none _ | refine LeO.ite ?_ ?_ | refine LeO.bind ?_ (fun _ => ?_))
   | exact ih0 _ _ _ _ _ _ _ _
   | exact ih1 _ _ _ _ _ _ _ _ _
   | exact ih2 _ _ _ _ _ _ _ _ _ _
   | exact ih3 _ _ _ _ _ _ _ _ _ _ _
   | exact mag_Cmp.mono _ _ _
   | exact mag_From.mono _ _
   | exact mag_Shl.mono _ _ _
   | exact mag_Shr.mono _ _ _
   | exact mag_Trim.mono _ _
   | exact mag_divWord.mono _ _ _
   | exact mag_restoreAt.mono _ _ _ _ _
   | exact mag_subtractAt.mono _ _ _ _ _ _
   | exact LeO.none _
   | refine LeO.ite ?_ ?_
   | refine LeO.bind ?_ (fun _ => ?_)
  ·intro y0 y1 y2 y3 y4 y5 y6 y7 y8
   unfold mag_DivMod.j3
   repeat' first
   | (with_reducible first | exact ih0 _ _ _ _ _ _ _ _ | exact ih1 _ _ _ _ _ _ _ _ _ | exact ih2 _ _ _ _ _ _ _ _ _ _ | exact ih3 _ _ _ _ _ _ _ _ _ _ _ | exact mag_Cmp.mono _ _ _ | exact mag_From.mono _ _ | exact mag_Shl.mono _ _ _ | exact mag_Shr.mono _ _ _ | exact mag_Trim.mono _ _ | exact mag_divWord.mono _ _ _ | exact mag_restoreAt.mono _ _ _ _ _ | exact mag_subtractAt.mono _ _ _ _ _ _ | exact LeO.refl _ | exact LeO.none _ | refine LeO.ite ?_ ?_ | refine LeO.bind ?_ (fun _ => ?_))
   | exact ih0 _ _ _ _ _ _ _ _
   | exact ih1 _ _ _ _ _ _ _ _ _
   | exact ih2 _ _ _ _ _ _ _ _ _ _
   | exact ih3 _ _ _ _ _ _ _ _ _ _ _
   | exact mag_Cmp.mono _ _ _
   | exact mag_From.mono _ _
   | exact mag_Shl.mono _ _ _
   | exact mag_Shr.mono _ _ _
   | exact mag_Trim.mono _ _
   | exact mag_divWord.mono _ _ _
   | exact mag_restoreAt.mono _ _ _ _ _
   | exact mag_subtractAt.mono _ _ _ _ _ _
   | exact LeO.none _
   | refine LeO.ite ?_ ?_
   | refine LeO.bind ?_ (fun _ => ?_)
  ·intro y0 y1 y2 y3 y4 y5 y6 y7 y8 y9
   unfold mag_DivMod.l1
   repeat' first
   | (with_reducible first | exact ih0 _ _ _ _ _ _ _ _ | exact ih1 _ _ _ _ _ _ _ _ _ | exact ih2 _ _ _ _ _ _ _ _ _ _ | exact ih3 _ _ _ _ _ _ _ _ _ _ _ | exact mag_Cmp.mono _ _ _ | exact mag_From.mono _ _ | exact mag_Shl.mono _ _ _ | exact mag_Shr.mono _ _ _ | exact mag_Trim.mono _ _ | exact mag_divWord.mono _ _ _ | exact mag_restoreAt.mono _ _ _ _ _ | exact mag_subtractAt.mono _ _ _ _ _ _ | exact LeO.refl _ | exact LeO.none _ | refine LeO.ite ?_ ?_ | refine LeO.bind ?_ (fun _ => ?_))
   | exact ih0 _ _ _ _ _ _ _ _
   | exact ih1 _ _ _ _ _ _ _ _ _
   | exact ih2 _ _ _ _ _ _ _ _ _ _
   | exact ih3 _ _ _ _ _ _ _ _ _ _ _
   | exact mag_Cmp.mono _ _ _
   | exact mag_From.mono _ _
   | exact mag_Shl.mono _ _ _
   | exact mag_Shr.mono _ _ _
   | exact mag_Trim.mono _ _
   | exact mag_divWord.mono _ _ _
   | exact mag_restoreAt.mono _ _ _ _ _
   | exact mag_subtractAt.mono _ _ _ _ _ _
   | exact LeO.none _
   | refine LeO.ite ?_ ?_
   | refine LeO.bind ?_ (fun _ => ?_)
  ·intro y0 y1 y2 y3 y4 y5 y6 y7 y8 y9 y10
   unfold mag_DivMod.j2
   repeat' first
   | (with_reducible first | exact ih0 _ _ _ _ _ _ _ _ | exact ih1 _ _ _ _ _ _ _ _ _ | exact ih2 _ _ _ _ _ _ _ _ _ _ | exact ih3 _ _ _ _ _ _ _ _ _ _ _ | exact mag_Cmp.mono _ _ _ | exact mag_From.mono _ _ | exact mag_Shl.mono _ _ _ | exact mag_Shr.mono _ _ _ | exact mag_Trim.mono _ _ | exact mag_divWord.mono _ _ _ | exact mag_restoreAt.mono _ _ _ _ _ | exact mag_subtractAt.mono _ _ _ _ _ _ | exact LeO.refl _ | exact LeO.none _ | refine LeO.ite ?_ ?_ | refine LeO.bind ?_ (fun _ => ?_))
   | exact ih0 _ _ _ _ _ _ _ _
   | exact ih1 _ _ _ _ _ _ _ _ _
   | exact ih2 _ _ _ _ _ _ _ _ _ _
   | exact ih3 _ _ _ _ _ _ _ _ _ _ _
   | exact mag_Cmp.mono _ _ _
   | exact mag_From.mono _ _
   | exact mag_Shl.mono _ _ _
   | exact mag_Shr.mono _ _ _
   | exact mag_Trim.mono _ _
   | exact mag_divWord.mono _ _ _
   | exact mag_restoreAt.mono _ _ _ _ _
   | exact mag_subtractAt.mono _ _ _ _ _ _
   | exact LeO.none _
   | refine LeO.ite ?_ ?_
   | refine LeO.bind ?_ (fun _ => ?_)
theorem mag_DivMod.mono : ∀ a0 a1 k, LeO (mag_DivMod.f k a0 a1) (mag_DivMod.f (k + 1) a0 a1) := by
 intro a0 a1 k
 obtain ⟨ih0, ih1, ih2, ih3⟩ := mag_DivMod.mono_l k
 unfold mag_DivMod.f
 repeat' first
   | (with_reducible first | exact ih0 _ _ _ _ _ _ _ _ | exact ih1 _ _ _ _ _ _ _ _ _ | exact ih2 _ _ _ _ _ _ _ _ _ _ | exact ih3 _ _ _ _ _ _ _ _ _ _ _ | exact mag_Cmp.mono _ _ _ | exact mag_From.mono _ _ | exact mag_Shl.mono _ _ _ | exact mag_Shr.mono _ _ _ | exact mag_Trim.mono _ _ | exact mag_divWord.mono _ _ _ | exact mag_restoreAt.mono _ _ _ _ _ | exact mag_subtractAt.mono _ _ _ _ _ _ | exact LeO.refl _ | exact LeO.none _ | refine LeO.ite ?_ ?_ | refine LeO.bind ?_ (fun _ => ?_))
   | exact ih0 _ _ _ _ _ _ _ _
   | exact ih1 _ _ _ _ _ _ _ _ _
   | exact ih2 _ _ _ _ _ _ _ _ _ _
   | exact ih3 _ _ _ _ _ _ _ _ _ _ _
   | exact mag_Cmp.mono _ _ _
   | exact mag_From.mono _ _
   | exact mag_Shl.mono _ _ _
   | exact mag_Shr.mono _ _ _
   | exact mag_Trim.mono _ _
   | exact mag_divWord.mono _ _ _
   | exact mag_restoreAt.mono _ _ _ _ _
   | exact mag_subtractAt.mono _ _ _ _ _ _
   | exact LeO.none _
   | refine LeO.ite ?_ ?_
   | refine LeO.bind ?_ (fun _ => ?_)
def mag_Small.f (l0 : List Int) : Option (Int × Bool) := if (l0.length : Int) = 0 then (some (0, true)) else (if (l0.length : Int) = 1 then (if 0 < (l0.length : Int) then (some (IntKind.u64.wrap (rd l0 0), true)) else (none)) else (if (l0.length : Int) = 2 then (if 1 < (l0.length : Int) then (if 0 < (l0.length : Int) then (some (Go.bits .or .u64 (IntKind.u64.wrap ((IntKind.u64.wrap (rd l0 1)) * 4294967296)) (IntKind.u64.wrap (rd l0 0)), true)) else (none)) else (none)) else (some (0, false))))
def mag_Bits.f (l0 : List Int) : Option (Int) := if (l0.length : Int) = 0 then (some 0) else (if 0 ≤ (wrap64 ((l0.length : Int) - 1)) then (if (wrap64 ((l0.length : Int) - 1)) < (l0.length : Int) then ((bits_LeadingZeros32.f (rd l0 (wrap64 ((l0.length : Int) - 1)))).bind fun t209 => (some (wrap64 ((wrap64 (32 * (l0.length : Int))) - t209)))) else (none)) else (none))
mutual
def mag_Mul.j0 : Nat → List Int → List Int → Bool → Option (List Int)
 | 0, _, _, _ => none
 | k + 1, x0, x1, x18 => if x18 = true then (some ([] : List Int)) else (if 0 ≤ (wrap64 ((x0.length : Int) + (x1.length : Int))) then (if (wrap64 ((x0.length : Int) + (x1.length : Int)) : Int).toNat ≤ 70368744177664 then (mag_Mul.l0 k x1 (List.replicate (wrap64 ((x0.length : Int) + (x1.length : Int)) : Int).toNat 0) x0 (x0.length : Int) 0) else (none)) else (none))
def mag_Mul.l0 : Nat → List Int → List Int → List Int → Int → Int → Option (List Int)
 | 0, _, _, _, _, _ => none
 | k + 1, x1, x5, x25, x26, x27 => if x27 < x26 then (if 0 ≤ x27 then (if x27 < (x25.length : Int) then (mag_Mul.l1 k x1 x5 x27 (rd x25 x27) 0 x25 x26 x27 x1 (x1.length : Int) 0) else (none)) else (none)) else ((mag_Trim.f k x5).bind fun t213 => (some t213))
def mag_Mul.l1 : Nat → List Int → List Int → Int → Int → Int → List Int → Int → Int → List Int → Int → Int → Option (List Int)
 | 0, _, _, _, _, _, _, _, _, _, _, _ => none
 | k + 1, x1, x5, x6, x7, x8, x25, x26, x27, x32, x33, x34 => if x34 < x33 then (if 0 ≤ x34 then (if x34 < (x32.length : Int) then (if 0 ≤ (wrap64 (x6 + x34)) then (if (wrap64 (x6 + x34)) < (x5.length : Int) then (mag_Mul.l1 k x1 (x5.set ((wrap64 (x6 + x34)) : Int).toNat ((IntKind.u64.wrap (x8 + (IntKind.u64.wrap ((IntKind.u64.wrap ((IntKind.u64.wrap (x7)) * (IntKind.u64.wrap (rd x32 x34)))) + (IntKind.u64.wrap (rd x5 (wrap64 (x6 + x34)))))))) % 4294967296)) x6 x7 ((IntKind.u64.wrap (x8 + (IntKind.u64.wrap ((IntKind.u64.wrap ((IntKind.u64.wrap (x7)) * (IntKind.u64.wrap (rd x32 x34)))) + (IntKind.u64.wrap (rd x5 (wrap64 (x6 + x34)))))))) / 4294967296) x25 x26 x27 x32 x33 (wrap64 (x34 + 1))) else (none)) else (none)) else (none)) else (none)) else (if 0 ≤ (wrap64 (x6 + (x1.length : Int))) then (if (wrap64 (x6 + (x1.length : Int))) < (x5.length : Int) then (mag_Mul.l0 k x1 (x5.set ((wrap64 (x6 + (x1.length : Int))) : Int).toNat ((x8) % 4294967296)) x25 x26 (wrap64 (x27 + 1))) else (none)) else (none))
end
def mag_Mul.f (k : Nat) (l0 : List Int) (l1 : List Int) : Option (List Int) := if (l0.length : Int) = 0 then (mag_Mul.j0 k l0 l1 true) else (mag_Mul.j0 k l0 l1 ((l1.length : Int) == 0))
theorem mag_Mul.mono_l : ∀ k, (∀ y0 y1 y2, LeO (mag_Mul.j0 k y0 y1 y2) (mag_Mul.j0 (k + 1) y0 y1 y2)) ∧ (∀ y0 y1 y2 y3 y4, LeO (mag_Mul.l0 k y0 y1 y2 y3 y4) (mag_Mul.l0 (k + 1) y0 y1 y2 y3 y4)) ∧ (∀ y0 y1 y2 y3 y4 y5 y6 y7 y8 y9 y10, LeO (mag_Mul.l1 k y0 y1 y2 y3 y4 y5 y6 y7 y8 y9 y10) (mag_Mul.l1 (k + 1) y0 y1 y2 y3 y4 y5 y6 y7 y8 y9 y10))
 | 0 => ⟨fun _ _ _ r h => by simp [mag_Mul.j0] at h, fun _ _ _ _ _ r h => by simp [mag_Mul.l0] at h, fun _ _ _ _ _ _ _ _ _ _ _ r h => by simp [mag_Mul.l1] at h⟩
 | k + 1 => by
  obtain ⟨ih0, ih1, ih2⟩ := mag_Mul.mono_l k
  refine ⟨?_, ?_, ?_⟩
  ·intro y0 y1 y2
   unfold mag_Mul.j0
   repeat' first
   | (with_reducible first | exact ih0 _ _ _ | exact ih1 _ _ _ _ _ | exact ih2 _ _ _ _ _ _ _ _ _ _ _ | exact mag_Trim.mono _ _ | exact LeO.refl _ | exact LeO.none _ | refine LeO.ite ?_ ?_ | refine LeO.bind ?_ (fun _ => ?_))
   | exact ih0 _ _ _
   | exact ih1 _ _ _ _ _
   | exact ih2 _ _ _ _ _ _ _ _ _ _ _
   | exact mag_Trim.mono _ _
   | exact LeO.none _
   | refine LeO.ite ?_ ?_
   | refine LeO.bind ?_ (fun _ => ?_)
  ·intro y0 y1 y2 y3 y4
   unfold mag_Mul.l0
   repeat' first
   | (with_reducible first | exact ih0 _ _ _ | exact ih1 _ _ _ _ _ | exact ih2 _ _ _ _ _ _ _ _ _ _ _ | exact mag_Trim.mono _ _ | exact LeO.refl _ | exact LeO.none _ | refine LeO.ite ?_ ?_ | refine LeO.bind ?_ (fun _ => ?_))
   | exact ih0 _ _ _
   | exact ih1 _ _ _ _ _
   | exact ih2 _ _ _ _ _ _ _ _ _ _ _
   | exact mag_Trim.mono _ _
   | exact LeO.none _
   | refine LeO.ite ?_ ?_
   | refine LeO.bind ?_ (fun _ => ?_)
  ·intro y0 y1 y2 y3 y4 y5 y6 y7 y8 y9 y10
   unfold mag_Mul.l1
   repeat' first
   | (with_reducible first | exact ih0 _ _ _ | exact ih1 _ _ _ _ _ | exact ih2 _ _ _ _ _ _ _ _ _ _ _ | exact mag_Trim.mono _ _ | exact LeO.refl _ | exact LeO.none _ | refine LeO.ite ?_ ?_ | refine LeO.bind ?_ (fun _ => ?_))
   | exact ih0 _ _ _
   | exact ih1 _ _ _ _ _
   | exact ih2 _ _ _ _ _ _ _ _ _ _ _
   | exact mag_Trim.mono _ _
   | exact LeO.none _
   | refine LeO.ite ?_ ?_
   | refine LeO.bind ?_ (fun _ => ?_)
theorem mag_Mul.mono : ∀ a0 a1 k, LeO (mag_Mul.f k a0 a1) (mag_Mul.f (k + 1) a0 a1) := by
 intro a0 a1 k
 obtain ⟨ih0, ih1, ih2⟩ := mag_Mul.mono_l k
 unfold mag_Mul.f
 repeat' first
   | (with_reducible first | exact ih0 _ _ _ | exact ih1 _ _ _ _ _ | exact ih2 _ _ _ _ _ _ _ _ _ _ _ | exact mag_Trim.mono _ _ | exact LeO.refl _ | exact LeO.none _ | refine LeO.ite ?_ ?_ | refine LeO.bind ?_ (fun _ => ?_))
   | exact ih0 _ _ _
   | exact ih1 _ _ _ _ _
   | exact ih2 _ _ _ _ _ _ _ _ _ _ _
   | exact mag_Trim.mono _ _
   | exact LeO.none _
   | refine LeO.ite ?_ ?_
   | refine LeO.bind ?_ (fun _ => ?_)
def mag_Sub.l0 : Nat → List Int → List Int → Int → List Int → Int → Int → Option (List Int)
 | 0, _, _, _, _, _, _ => none
 | k + 1, x1, x5, x6, x13, x14, x15 => if x15 < x14 then (if 0 ≤ x15 then (if x15 < (x13.length : Int) then (if x15 < (x1.length : Int) then (if x15 < (x5.length : Int) then (mag_Sub.l0 k x1 (x5.set (x15 : Int).toNat ((IntKind.u64.wrap ((IntKind.u64.wrap ((IntKind.u64.wrap (rd x13 x15)) - x6)) - (IntKind.u64.wrap (rd x1 x15)))) % 4294967296)) ((IntKind.u64.wrap ((IntKind.u64.wrap ((IntKind.u64.wrap (rd x13 x15)) - x6)) - (IntKind.u64.wrap (rd x1 x15)))) / 9223372036854775808) x13 x14 (wrap64 (x15 + 1))) else (none)) else (if x15 < (x5.length : Int) then (mag_Sub.l0 k x1 (x5.set (x15 : Int).toNat ((IntKind.u64.wrap ((IntKind.u64.wrap (rd x13 x15)) - x6)) % 4294967296)) ((IntKind.u64.wrap ((IntKind.u64.wrap (rd x13 x15)) - x6)) / 9223372036854775808) x13 x14 (wrap64 (x15 + 1))) else (none))) else (none)) else (none)) else ((mag_Trim.f k x5).bind fun t228 => (some t228))
def mag_Sub.f (k : Nat) (l0 : List Int) (l1 : List Int) : Option (List Int) := if 0 ≤ (l0.length : Int) then (if ((l0.length : Int) : Int).toNat ≤ 70368744177664 then (mag_Sub.l0 k l1 (List.replicate ((l0.length : Int) : Int).toNat 0) 0 l0 (l0.length : Int) 0) else (none)) else (none)
theorem mag_Sub.mono_l : ∀ k, (∀ y0 y1 y2 y3 y4 y5, LeO (mag_Sub.l0 k y0 y1 y2 y3 y4 y5) (mag_Sub.l0 (k + 1) y0 y1 y2 y3 y4 y5))
 | 0 => fun _ _ _ _ _ _ r h => by simp [mag_Sub.l0] at h
 | k + 1 => by
  have ih0 := mag_Sub.mono_l k
  ·intro y0 y1 y2 y3 y4 y5
   unfold mag_Sub.l0
   repeat' first
   | (with_reducible first | exact ih0 _ _ _ _ _ _ | exact mag_Trim.mono _ _ | exact LeO.refl _ | exact LeO.none _ | refine LeO.ite ?_ ?_ | refine LeO.bind ?_ (fun _ => ?_))
   | exact ih0 _ _ _ _ _ _
   | exact mag_Trim.mono _ _
   | exact LeO.none _
   | refine LeO.ite ?_ ?_
   | refine LeO.bind ?_ (fun _ => ?_)
theorem mag_Sub.mono : ∀ a0 a1 k, LeO (mag_Sub.f k a0 a1) (mag_Sub.f (k + 1) a0 a1) := by
 intro a0 a1 k
 have ih0 := mag_Sub.mono_l k
 unfold mag_Sub.f
 repeat' first
   | (with_reducible first | exact ih0 _ _ _ _ _ _ | exact mag_Trim.mono _ _ | exact LeO.refl _ | exact LeO.none _ | refine LeO.ite ?_ ?_ | refine LeO.bind ?_ (fun _ => ?_))
   | exact ih0 _ _ _ _ _ _
   | exact mag_Trim.mono _ _
   | exact LeO.none _
   | refine LeO.ite ?_ ?_
   | refine LeO.bind ?_ (fun _ => ?_)
def mag_combine.j0 : Nat → List Int → List Int → Int → Int → Bool → Option (List Int)
 | 0, _, _, _, _, _ => none
 | k + 1, x0, x1, x2, x3, x14 => if x14 = true then ((mag_From.f k (IntKind.u64.wrap (x3))).bind fun t231 => ((mag_Mul.f k x1 t231).bind fun t234 => ((mag_From.f k (IntKind.u64.wrap (wrap64 (-x2)))).bind fun t237 => ((mag_Mul.f k x0 t237).bind fun t240 => ((mag_Sub.f k t234 t240).bind fun t243 => (some t243)))))) else ((mag_From.f k (IntKind.u64.wrap (x2))).bind fun t246 => ((mag_Mul.f k x0 t246).bind fun t249 => ((mag_From.f k (IntKind.u64.wrap (wrap64 (-x3)))).bind fun t252 => ((mag_Mul.f k x1 t252).bind fun t255 => ((mag_Sub.f k t249 t255).bind fun t258 => (some t258))))))
def mag_combine.f (k : Nat) (l0 : List Int) (l1 : List Int) (a2 : Int) (a3 : Int) : Option (List Int) := if a2 < 0 then (mag_combine.j0 k l0 l1 a2 a3 true) else (mag_combine.j0 k l0 l1 a2 a3 (decide (a3 > 0)))
theorem mag_combine.mono_l : ∀ k, (∀ y0 y1 y2 y3 y4, LeO (mag_combine.j0 k y0 y1 y2 y3 y4) (mag_combine.j0 (k + 1) y0 y1 y2 y3 y4))
 | 0 => fun _ _ _ _ _ r h => by simp [mag_combine.j0] at h
 | k + 1 => by
  have ih0 := mag_combine.mono_l k
  ·intro y0 y1 y2 y3 y4
   unfold mag_combine.j0
   repeat' first
   | (with_reducible first | exact ih0 _ _ _ _ _ | exact mag_From.mono _ _ | exact mag_Mul.mono _ _ _ | exact mag_Sub.mono _ _ _ | exact LeO.refl _ | exact LeO.none _ | refine LeO.ite ?_ ?_ | refine LeO.bind ?_ (fun _ => ?_))
   | exact ih0 _ _ _ _ _
   | exact mag_From.mono _ _
   | exact mag_Mul.mono _ _ _
   | exact mag_Sub.mono _ _ _
   | exact LeO.none _
   | refine LeO.ite ?_ ?_
   | refine LeO.bind ?_ (fun _ => ?_)
theorem mag_combine.mono : ∀ a0 a1 a2 a3 k, LeO (mag_combine.f k a0 a1 a2 a3) (mag_combine.f (k + 1) a0 a1 a2 a3) := by
 intro a0 a1 a2 a3 k
 have ih0 := mag_combine.mono_l k
 unfold mag_combine.f
 repeat' first
   | (with_reducible first | exact ih0 _ _ _ _ _ | exact mag_From.mono _ _ | exact mag_Mul.mono _ _ _ | exact mag_Sub.mono _ _ _ | exact LeO.refl _ | exact LeO.none _ | refine LeO.ite ?_ ?_ | refine LeO.bind ?_ (fun _ => ?_))
   | exact ih0 _ _ _ _ _
   | exact mag_From.mono _ _
   | exact mag_Mul.mono _ _ _
   | exact mag_Sub.mono _ _ _
   | exact LeO.none _
   | refine LeO.ite ?_ ?_
   | refine LeO.bind ?_ (fun _ => ?_)
mutual
def mag_lehmer.j2 : Nat → List Int → List Int → Int → Int → Int → Int → Option (List Int × List Int × Bool)
 | 0, _, _, _, _, _, _ => none
 | k + 1, x0, x1, x12, x13, x14, x15 => if x13 = 0 then (some (([] : List Int), ([] : List Int), false)) else ((mag_combine.f k x0 x1 x12 x13).bind fun t273 => ((mag_combine.f k x0 x1 x14 x15).bind fun t276 => (some (t273, t276, true))))
def mag_lehmer.l0 : Nat → List Int → List Int → Int → Int → Int → Int → Int → Int → Option (List Int × List Int × Bool)
 | 0, _, _, _, _, _, _, _, _ => none
 | k + 1, x0, x1, x12, x13, x14, x15, x16, x17 => if (wrap64 (x17 + x14)) = 0 then (mag_lehmer.j1 k x0 x1 x12 x13 x14 x15 x16 x17 false) else (mag_lehmer.j1 k x0 x1 x12 x13 x14 x15 x16 x17 ((wrap64 (x17 + x15)) != 0))
def mag_lehmer.j1 : Nat → List Int → List Int → Int → Int → Int → Int → Int → Int → Bool → Option (List Int × List Int × Bool)
 | 0, _, _, _, _, _, _, _, _, _ => none
 | k + 1, x0, x1, x12, x13, x14, x15, x16, x17, x55 => if x55 = true then (if (wrap64 (x17 + x14)) = 0 then (none) else (if (wrap64 (x17 + x15)) = 0 then (none) else (if (wrap64 (Int.tdiv (wrap64 (x16 + x12)) (wrap64 (x17 + x14)))) = (wrap64 (Int.tdiv (wrap64 (x16 + x13)) (wrap64 (x17 + x15)))) then (mag_lehmer.l0 k x0 x1 x14 x15 (wrap64 (x12 - (wrap64 ((wrap64 (Int.tdiv (wrap64 (x16 + x12)) (wrap64 (x17 + x14)))) * x14)))) (wrap64 (x13 - (wrap64 ((wrap64 (Int.tdiv (wrap64 (x16 + x12)) (wrap64 (x17 + x14)))) * x15)))) x17 (wrap64 (x16 - (wrap64 ((wrap64 (Int.tdiv (wrap64 (x16 + x12)) (wrap64 (x17 + x14)))) * x17))))) else (mag_lehmer.j2 k x0 x1 x12 x13 x14 x15)))) else (mag_lehmer.j2 k x0 x1 x12 x13 x14 x15)
end
def mag_lehmer.f (k : Nat) (l0 : List Int) (l1 : List Int) : Option (List Int × List Int × Bool) := (mag_Bits.f l0).bind fun t261 => ((mag_Bits.f l1).bind fun t262 => (if t262 < (wrap64 (t261 - 20)) then (some (([] : List Int), ([] : List Int), false)) else ((mag_Shr.f k l0 (wrap64 (t261 - 31))).bind fun t263 => ((mag_Small.f t263).bind fun bt266 => ((mag_Shr.f k l1 (wrap64 (t261 - 31))).bind fun t268 => ((mag_Small.f t268).bind fun bt271 => (mag_lehmer.l0 k l0 l1 1 0 0 1 (wrap64 (bt266.1)) (wrap64 (bt271.1)))))))))
theorem mag_lehmer.mono_l : ∀ k, (∀ y0 y1 y2 y3 y4 y5, LeO (mag_lehmer.j2 k y0 y1 y2 y3 y4 y5) (mag_lehmer.j2 (k + 1) y0 y1 y2 y3 y4 y5)) ∧ (∀ y0 y1 y2 y3 y4 y5 y6 y7, LeO (mag_lehmer.l0 k y0 y1 y2 y3 y4 y5 y6 y7) (mag_lehmer.l0 (k + 1) y0 y1 y2 y3 y4 y5 y6 y7)) ∧ (∀ y0 y1 y2 y3 y4 y5 y6 y7 y8, LeO (mag_lehmer.j1 k y0 y1 y2 y3 y4 y5 y6 y7 y8) (mag_lehmer.j1 (k + 1) y0 y1 y2 y3 y4 y5 y6 y7 y8))
 | 0 => ⟨fun _ _ _ _ _ _ r h => by simp [mag_lehmer.j2] at h, fun _ _ _ _ _ _ _ _ r h => by simp [mag_lehmer.l0] at h, fun _ _ _ _ _ _ _ _ _ r h => by simp [mag_lehmer.j1] at h⟩
 | k + 1 => by
  obtain ⟨ih0, ih1, ih2⟩ := mag_lehmer.mono_l k
  refine ⟨?_, ?_, ?_⟩
  ·intro y0 y1 y2 y3 y4 y5
   unfold mag_lehmer.j2
   repeat' first
   | (with_reducible first | exact ih0 _ _ _ _ _ _ | exact ih1 _ _ _ _ _ _ _ _ | exact ih2 _ _ _ _ _ _ _ _ _ | exact mag_Shr.mono _ _ _ | exact mag_combine.mono _ _ _ _ _ | exact LeO.refl _ | exact LeO.none _ | refine LeO.ite ?_ ?_ | refine LeO.bind ?_ (fun _ => ?_))
   | exact ih0 _ _ _ _ _ _
   | exact ih1 _ _ _ _ _ _ _ _
   | exact ih2 _ _ _ _ _ _ _ _ _
   | exact mag_Shr.mono _ _ _
   | exact mag_combine.mono _ _ _ _ _
   | exact LeO.none _
   | refine LeO.ite ?_ ?_
   | refine LeO.bind ?_ (fun _ => ?_)
  ·intro y0 y1 y2 y3 y4 y5 y6 y7
   unfold mag_lehmer.l0
   repeat' first
   | (with_reducible first | exact ih0 _ _ _ _ _ _ | exact ih1 _ _ _ _ _ _ _ _ | exact ih2 _ _ _ _ _ _ _ _ _ | exact mag_Shr.mono _ _ _ | exact mag_combine.mono _ _ _ _ _ | exact LeO.refl _ | exact LeO.none _ | refine LeO.ite ?_ ?_ | refine LeO.bind ?_ (fun _ => ?_))
   | exact ih0 _ _ _ _ _ _
   | exact ih1 _ _ _ _ _ _ _ _
   | exact ih2 _ _ _ _ _ _ _ _ _
   | exact mag_Shr.mono _ _ _
   | exact mag_combine.mono _ _ _ _ _
   | exact LeO.none _
   | refine LeO.ite ?_ ?_
   | refine LeO.bind ?_ (fun _ => ?_)
  ·intro y0 y1 y2 y3 y4 y5 y6 y7 y8
   unfold mag_lehmer.j1
   repeat' first
   | (with_reducible first | exact ih0 _ _ _ _ _ _ | exact ih1 _ _ _ _ _ _ _ _ | exact ih2 _ _ _ _ _ _ _ _ _ | exact mag_Shr.mono _ _ _ | exact mag_combine.mono _ _ _ _ _ | exact LeO.refl _ | exact LeO.none _ | refine LeO.ite ?_ ?_ | refine LeO.bind ?_ (fun _ => ?_))
   | exact ih0 _ _ _ _ _ _
   | exact ih1 _ _ _ _ _ _ _ _
   | exact ih2 _ _ _ _ _ _ _ _ _
   | exact mag_Shr.mono _ _ _
   | exact mag_combine.mono _ _ _ _ _
   | exact LeO.none _
   | refine LeO.ite ?_ ?_
   | refine LeO.bind ?_ (fun _ => ?_)
theorem mag_lehmer.mono : ∀ a0 a1 k, LeO (mag_lehmer.f k a0 a1) (mag_lehmer.f (k + 1) a0 a1) := by
 intro a0 a1 k
 obtain ⟨ih0, ih1, ih2⟩ := mag_lehmer.mono_l k
 unfold mag_lehmer.f
 repeat' first
   | (with_reducible first | exact ih0 _ _ _ _ _ _ | exact ih1 _ _ _ _ _ _ _ _ | exact ih2 _ _ _ _ _ _ _ _ _ | exact mag_Shr.mono _ _ _ | exact mag_combine.mono _ _ _ _ _ | exact LeO.refl _ | exact LeO.none _ | refine LeO.ite ?_ ?_ | refine LeO.bind ?_ (fun _ => ?_))
   | exact ih0 _ _ _ _ _ _
   | exact ih1 _ _ _ _ _ _ _ _
   | exact ih2 _ _ _ _ _ _ _ _ _
   | exact mag_Shr.mono _ _ _
   | exact mag_combine.mono _ _ _ _ _
   | exact LeO.none _
   | refine LeO.ite ?_ ?_
   | refine LeO.bind ?_ (fun _ => ?_)
mutual
def mag_GCD.j0 : Nat → List Int → List Int → Option (List Int)
 | 0, _, _ => none
 | k + 1, x0, x1 => mag_GCD.l0 k x0 x1
def mag_GCD.l0 : Nat → List Int → List Int → Option (List Int)
 | 0, _, _ => none
 | k + 1, x0, x1 => if (x1.length : Int) > 2 then ((mag_lehmer.f k x0 x1).bind fun bt280 => (if bt280.2.2 = true then (mag_GCD.l0 k bt280.1 bt280.2.1) else ((mag_DivMod.f k x0 x1).bind fun bt287 => (mag_GCD.l0 k x1 bt287.2)))) else (if (x1.length : Int) = 0 then (if ([] : List Int).length + x0.length < 35184372088832 then (some (([] : List Int) ++ x0)) else (none)) else ((mag_DivMod.f k x0 x1).bind fun bt296 => ((mag_Small.f x1).bind fun bt302 => ((mag_Small.f bt296.2).bind fun bt304 => (mag_GCD.l1 k bt302.1 bt304.1)))))
def mag_GCD.l1 : Nat → Int → Int → Option (List Int)
 | 0, _, _ => none
 | k + 1, x12, x14 => if x14 = 0 then ((mag_From.f k x12).bind fun t306 => (some t306)) else (mag_GCD.l1 k x14 (Int.tmod x12 x14))
end
def mag_GCD.f (k : Nat) (l0 : List Int) (l1 : List Int) : Option (List Int) := (mag_Cmp.f k l0 l1).bind fun t279 => (if t279 < 0 then (mag_GCD.j0 k l1 l0) else (mag_GCD.j0 k l0 l1))
theorem mag_GCD.mono_l : ∀ k, (∀ y0 y1, LeO (mag_GCD.j0 k y0 y1) (mag_GCD.j0 (k + 1) y0 y1)) ∧ (∀ y0 y1, LeO (mag_GCD.l0 k y0 y1) (mag_GCD.l0 (k + 1) y0 y1)) ∧ (∀ y0 y1, LeO (mag_GCD.l1 k y0 y1) (mag_GCD.l1 (k + 1) y0 y1))
 | 0 => ⟨fun _ _ r h => by simp [mag_GCD.j0] at h, fun _ _ r h => by simp [mag_GCD.l0] at h, fun _ _ r h => by simp [mag_GCD.l1] at h⟩
 | k + 1 => by
  obtain ⟨ih0, ih1, ih2⟩ := mag_GCD.mono_l k
  refine ⟨?_, ?_, ?_⟩
  ·intro y0 y1
   unfold mag_GCD.j0
   repeat' first
   | (with_reducible first | exact ih0 _ _ | exact ih1 _ _ | exact ih2 _ _ | exact mag_Cmp.mono _ _ _ | exact mag_DivMod.mono _ _ _ | exact mag_From.mono _ _ | exact mag_lehmer.mono _ _ _ | exact LeO.refl _ | exact LeO.none _ | refine LeO.ite ?_ ?_ | refine LeO.bind ?_ (fun _ => ?_))
   | exact ih0 _ _
   | exact ih1 _ _
   | exact ih2 _ _
   | exact mag_Cmp.mono _ _ _
   | exact mag_DivMod.mono _ _ _
   | exact mag_From.mono _ _
   | exact mag_lehmer.mono _ _ _
   | exact LeO.none _
   | refine LeO.ite ?_ ?_
   | refine LeO.bind ?_ (fun _ => ?_)
  ·intro y0 y1
   unfold mag_GCD.l0
   repeat' first
   | (with_reducible first | exact ih0 _ _ | exact ih1 _ _ | exact ih2 _ _ | exact mag_Cmp.mono _ _ _ | exact mag_DivMod.mono _ _ _ | exact mag_From.mono _ _ | exact mag_lehmer.mono _ _ _ | exact LeO.refl _ | exact LeO.none _ | refine LeO.ite ?_ ?_ | refine LeO.bind ?_ (fun _ => ?_))
   | exact ih0 _ _
   | exact ih1 _ _
   | exact ih2 _ _
   | exact mag_Cmp.mono _ _ _
   | exact mag_DivMod.mono _ _ _
   | exact mag_From.mono _ _
   | exact mag_lehmer.mono _ _ _
   | exact LeO.none _
   | refine LeO.ite ?_ ?_
   | refine LeO.bind ?_ (fun _ => ?_)
  ·intro y0 y1
   unfold mag_GCD.l1
   repeat' first
   | (with_reducible first | exact ih0 _ _ | exact ih1 _ _ | exact ih2 _ _ | exact mag_Cmp.mono _ _ _ | exact mag_DivMod.mono _ _ _ | exact mag_From.mono _ _ | exact mag_lehmer.mono _ _ _ | exact LeO.refl _ | exact LeO.none _ | refine LeO.ite ?_ ?_ | refine LeO.bind ?_ (fun _ => ?_))
   | exact ih0 _ _
   | exact ih1 _ _
   | exact ih2 _ _
   | exact mag_Cmp.mono _ _ _
   | exact mag_DivMod.mono _ _ _
   | exact mag_From.mono _ _
   | exact mag_lehmer.mono _ _ _
   | exact LeO.none _
   | refine LeO.ite ?_ ?_
   | refine LeO.bind ?_ (fun _ => ?_)
theorem mag_GCD.mono : ∀ a0 a1 k, LeO (mag_GCD.f k a0 a1) (mag_GCD.f (k + 1) a0 a1) := by
 intro a0 a1 k
 obtain ⟨ih0, ih1, ih2⟩ := mag_GCD.mono_l k
 unfold mag_GCD.f
 repeat' first
   | (with_reducible first | exact ih0 _ _ | exact ih1 _ _ | exact ih2 _ _ | exact mag_Cmp.mono _ _ _ | exact mag_DivMod.mono _ _ _ | exact mag_From.mono _ _ | exact mag_lehmer.mono _ _ _ | exact LeO.refl _ | exact LeO.none _ | refine LeO.ite ?_ ?_ | refine LeO.bind ?_ (fun _ => ?_))
   | exact ih0 _ _
   | exact ih1 _ _
   | exact ih2 _ _
   | exact mag_Cmp.mono _ _ _
   | exact mag_DivMod.mono _ _ _
   | exact mag_From.mono _ _
   | exact mag_lehmer.mono _ _ _
   | exact LeO.none _
   | refine LeO.ite ?_ ?_
   | refine LeO.bind ?_ (fun _ => ?_)
def num_Valid.j0 : Nat → Bool → Bool → List Int → List Int → Option (Bool)
 | 0, _, _, _, _ => none
 | k + 1, x23, x310000, x310001, x310002 => if x23 = true then (some false) else (if (x310001.length : Int) = 0 then (if x310000 = true then (some false) else (if (x310002.length : Int) = 1 then (if 0 < (x310002.length : Int) then (some ((rd x310002 0) == 1)) else (none)) else (some false))) else (if (x310002.length : Int) = 1 then (if 0 < (x310002.length : Int) then (if (rd x310002 0) = 1 then (some true) else ((mag_GCD.f k x310001 x310002).bind fun t314 => (if (t314.length : Int) = 1 then (if 0 < (t314.length : Int) then (some ((rd t314 0) == 1)) else (none)) else (some false)))) else (none)) else ((mag_GCD.f k x310001 x310002).bind fun t318 => (if (t318.length : Int) = 1 then (if 0 < (t318.length : Int) then (some ((rd t318 0) == 1)) else (none)) else (some false)))))
def num_Valid.f (k : Nat) (a0_0 : Bool) (l0_1 : List Int) (l0_2 : List Int) (a1 : Int) : Option (Bool) := (num_valid.f l0_1 a1).bind fun t310 => (if t310 = true then ((num_valid.f l0_2 a1).bind fun t311 => (if t311 = true then (num_Valid.j0 k ((l0_2.length : Int) == 0) a0_0 l0_1 l0_2) else (num_Valid.j0 k true a0_0 l0_1 l0_2))) else (num_Valid.j0 k true a0_0 l0_1 l0_2))
mutual
def linear_Check.j0 : Nat → Int → List (S32) → Bool → Option (Int)
 | 0, _, _, _ => none
 | k + 1, x0, x1, x19 => if x19 = true then (some 3) else (linear_Check.l0 k x0 x1 (x1.length : Int) 0)
def linear_Check.l0 : Nat → Int → List (S32) → Int → Int → Option (Int)
 | 0, _, _, _, _ => none
 | k + 1, x0, x20, x21, x22 => if x22 < x21 then (if 0 ≤ x22 then (if x22 < (x20.length : Int) then (if (((rd_T32 x20 x22).f0).length : Int) = x0 then (if ((rd_T32 x20 x22).f1) < 0 then (linear_Check.j2 k x0 x20 x21 x22 true ((rd_T32 x20 x22).f0) ((rd_T32 x20 x22).f1) ((rd_T32 x20 x22).f2.f0) ((rd_T32 x20 x22).f2.f1) ((rd_T32 x20 x22).f2.f2)) else (if ((rd_T32 x20 x22).f1) > 2 then (linear_Check.j2 k x0 x20 x21 x22 true ((rd_T32 x20 x22).f0) ((rd_T32 x20 x22).f1) ((rd_T32 x20 x22).f2.f0) ((rd_T32 x20 x22).f2.f1) ((rd_T32 x20 x22).f2.f2)) else ((num_Valid.f k ((rd_T32 x20 x22).f2.f0) ((rd_T32 x20 x22).f2.f1) ((rd_T32 x20 x22).f2.f2) 20).bind fun t324 => (linear_Check.j2 k x0 x20 x21 x22 (!t324) ((rd_T32 x20 x22).f0) ((rd_T32 x20 x22).f1) ((rd_T32 x20 x22).f2.f0) ((rd_T32 x20 x22).f2.f1) ((rd_T32 x20 x22).f2.f2))))) else (linear_Check.j2 k x0 x20 x21 x22 true ((rd_T32 x20 x22).f0) ((rd_T32 x20 x22).f1) ((rd_T32 x20 x22).f2.f0) ((rd_T32 x20 x22).f2.f1) ((rd_T32 x20 x22).f2.f2))) else (none)) else (none)) else (some 0)
def linear_Check.j2 : Nat → Int → List (S32) → Int → Int → Bool → List (S30) → Int → Bool → List Int → List Int → Option (Int)
 | 0, _, _, _, _, _, _, _, _, _, _ => none
 | k + 1, x0, x20, x21, x22, x46, x324000, x324001, x324002, x324003, x324004 => if x46 = true then (some 3) else (linear_Check.l1 k x0 x20 x21 x22 x324000 (x324000.length : Int) 0)
def linear_Check.l1 : Nat → Int → List (S32) → Int → Int → List (S30) → Int → Int → Option (Int)
 | 0, _, _, _, _, _, _, _ => none
 | k + 1, x0, x20, x21, x22, x48, x49, x50 => if x50 < x49 then (if 0 ≤ x50 then (if x50 < (x48.length : Int) then ((num_Valid.f k ((rd_T30 x48 x50).f0) ((rd_T30 x48 x50).f1) ((rd_T30 x48 x50).f2) 20).bind fun t327 => (if t327 = true then (linear_Check.l1 k x0 x20 x21 x22 x48 x49 (wrap64 (x50 + 1))) else (some 3))) else (none)) else (none)) else (linear_Check.l0 k x0 x20 x21 (wrap64 (x22 + 1)))
end
def linear_numbers.l0 : Nat → List (S30) → Int → List (S30) → Int → Int → Option (Bool)
 | 0, _, _, _, _, _ => none
 | k + 1, x0, x1, x7, x8, x9 => if x9 < x8 then (if 0 ≤ x9 then (if x9 < (x7.length : Int) then ((num_Valid.f k ((rd_T30 x7 x9).f0) ((rd_T30 x7 x9).f1) ((rd_T30 x7 x9).f2) 200).bind fun t330 => (if t330 = true then (linear_numbers.l0 k x0 x1 x7 x8 (wrap64 (x9 + 1))) else (some false))) else (none)) else (none)) else (some ((x0.length : Int) == x1))
def num_Sign.f (a0_0 : Bool) (l0_1 : List Int) (l0_2 : List Int) : Option (Int) := if (l0_1.length : Int) = 0 then (some 0) else (if a0_0 = true then (some (-1)) else (some 1))
def num_Cmp.f (k : Nat) (a0_0 : Bool) (l0_1 : List Int) (l0_2 : List Int) (a1_0 : Bool) (l1_1 : List Int) (l1_2 : List Int) : Option (Int) := (num_Sign.f a0_0 l0_1 l0_2).bind fun t334 => ((num_Sign.f a1_0 l1_1 l1_2).bind fun t335 => (if t334 = t335 then ((mag_Mul.f k l0_1 l1_2).bind fun t336 => ((mag_Mul.f k l1_1 l0_2).bind fun t339 => ((mag_Cmp.f k t336 t339).bind fun t342 => (if a0_0 = true then (some (wrap64 (-t342))) else (some t342))))) else (if t334 < t335 then (some (-1)) else (some 1))))
def linear_satisfies.f (k : Nat) (a0_0 : Bool) (l0_1 : List Int) (l0_2 : List Int) (a1 : Int) (a2_0 : Bool) (l2_1 : List Int) (l2_2 : List Int) : Option (Bool) := (num_Cmp.f k a0_0 l0_1 l0_2 a2_0 l2_1 l2_2).bind fun t345 => (if t345 = 0 then (if a1 < 2 then (some true) else (if t345 < 0 then (some (decide (a1 > 0))) else (some false))) else (if t345 < 0 then (some (decide (a1 > 0))) else (some false)))
def num_Zero.f  : Option (Bool × List Int × List Int) := some (false, ([] : List Int), (([1] : List Int)))
def num_Make.j0 : Nat → Bool → List Int → List Int → List Int → Bool → Option (Bool × List Int × List Int)
 | 0, _, _, _, _, _ => none
 | k + 1, x0, x1, x2, x7, x23 => if x23 = true then ((mag_DivMod.f k x1 x7).bind fun bt362 => ((mag_DivMod.f k x2 x7).bind fun bt368 => (if ([] : List Int).length + bt362.1.length < 35184372088832 then (if ([] : List Int).length + bt368.1.length < 35184372088832 then (some (x0, (([] : List Int) ++ bt362.1), (([] : List Int) ++ bt368.1))) else (none)) else (none)))) else (if ([] : List Int).length + x1.length < 35184372088832 then (if ([] : List Int).length + x2.length < 35184372088832 then (some (x0, (([] : List Int) ++ x1), (([] : List Int) ++ x2))) else (none)) else (none))
def num_Make.f (k : Nat) (a0 : Bool) (l1 : List Int) (l2 : List Int) : Option (Bool × List Int × List Int) := if (l1.length : Int) = 0 then ((num_Zero.f).bind fun bt351 => (some (bt351.1, bt351.2.1, bt351.2.2))) else ((mag_GCD.f k l1 l2).bind fun t358 => (if (t358.length : Int) = 1 then (if 0 < (t358.length : Int) then (num_Make.j0 k a0 l1 l2 t358 ((rd t358 0) != 1)) else (none)) else (num_Make.j0 k a0 l1 l2 t358 true)))
mutual
def mag_Add.j0 : Nat → List Int → List Int → Option (List Int)
 | 0, _, _ => none
 | k + 1, x0, x1 => if 0 ≤ (wrap64 ((x0.length : Int) + 1)) then (if (wrap64 ((x0.length : Int) + 1) : Int).toNat ≤ 70368744177664 then (mag_Add.l0 k x0 x1 (List.replicate (wrap64 ((x0.length : Int) + 1) : Int).toNat 0) 0 x0 (x0.length : Int) 0) else (none)) else (none)
def mag_Add.l0 : Nat → List Int → List Int → List Int → Int → List Int → Int → Int → Option (List Int)
 | 0, _, _, _, _, _, _, _ => none
 | k + 1, x0, x1, x5, x6, x20, x21, x22 => if x22 < x21 then (if 0 ≤ x22 then (if x22 < (x20.length : Int) then (if x22 < (x1.length : Int) then (if x22 < (x5.length : Int) then (mag_Add.l0 k x0 x1 (x5.set (x22 : Int).toNat ((IntKind.u64.wrap ((IntKind.u64.wrap (x6 + (IntKind.u64.wrap (rd x20 x22)))) + (IntKind.u64.wrap (rd x1 x22)))) % 4294967296)) ((IntKind.u64.wrap ((IntKind.u64.wrap (x6 + (IntKind.u64.wrap (rd x20 x22)))) + (IntKind.u64.wrap (rd x1 x22)))) / 4294967296) x20 x21 (wrap64 (x22 + 1))) else (none)) else (if x22 < (x5.length : Int) then (mag_Add.l0 k x0 x1 (x5.set (x22 : Int).toNat ((IntKind.u64.wrap (x6 + (IntKind.u64.wrap (rd x20 x22)))) % 4294967296)) ((IntKind.u64.wrap (x6 + (IntKind.u64.wrap (rd x20 x22)))) / 4294967296) x20 x21 (wrap64 (x22 + 1))) else (none))) else (none)) else (none)) else (if 0 ≤ (x0.length : Int) then (if (x0.length : Int) < (x5.length : Int) then ((mag_Trim.f k (x5.set ((x0.length : Int) : Int).toNat ((x6) % 4294967296))).bind fun t394 => (some t394)) else (none)) else (none))
end
def mag_Add.f (k : Nat) (l0 : List Int) (l1 : List Int) : Option (List Int) := if (l0.length : Int) < (l1.length : Int) then (mag_Add.j0 k l1 l0) else (mag_Add.j0 k l0 l1)
theorem mag_Add.mono_l : ∀ k, (∀ y0 y1, LeO (mag_Add.j0 k y0 y1) (mag_Add.j0 (k + 1) y0 y1)) ∧ (∀ y0 y1 y2 y3 y4 y5 y6, LeO (mag_Add.l0 k y0 y1 y2 y3 y4 y5 y6) (mag_Add.l0 (k + 1) y0 y1 y2 y3 y4 y5 y6))
 | 0 => ⟨fun _ _ r h => by simp [mag_Add.j0] at h, fun _ _ _ _ _ _ _ r h => by simp [mag_Add.l0] at h⟩
 | k + 1 => by
  obtain ⟨ih0, ih1⟩ := mag_Add.mono_l k
  refine ⟨?_, ?_⟩
  ·intro y0 y1
   unfold mag_Add.j0
   repeat' first
   | (with_reducible first | exact ih0 _ _ | exact ih1 _ _ _ _ _ _ _ | exact mag_Trim.mono _ _ | exact LeO.refl _ | exact LeO.none _ | refine LeO.ite ?_ ?_ | refine LeO.bind ?_ (fun _ => ?_))
   | exact ih0 _ _
   | exact ih1 _ _ _ _ _ _ _
   | exact mag_Trim.mono _ _
   | exact LeO.none _
   | refine LeO.ite ?_ ?_
   | refine LeO.bind ?_ (fun _ => ?_)
  ·intro y0 y1 y2 y3 y4 y5 y6
   unfold mag_Add.l0
   repeat' first
   | (with_reducible first | exact ih0 _ _ | exact ih1 _ _ _ _ _ _ _ | exact mag_Trim.mono _ _ | exact LeO.refl _ | exact LeO.none _ | refine LeO.ite ?_ ?_ | refine LeO.bind ?_ (fun _ => ?_))
   | exact ih0 _ _
   | exact ih1 _ _ _ _ _ _ _
   | exact mag_Trim.mono _ _
   | exact LeO.none _
   | refine LeO.ite ?_ ?_
   | refine LeO.bind ?_ (fun _ => ?_)
theorem mag_Add.mono : ∀ a0 a1 k, LeO (mag_Add.f k a0 a1) (mag_Add.f (k + 1) a0 a1) := by
 intro a0 a1 k
 obtain ⟨ih0, ih1⟩ := mag_Add.mono_l k
 unfold mag_Add.f
 repeat' first
   | (with_reducible first | exact ih0 _ _ | exact ih1 _ _ _ _ _ _ _ | exact mag_Trim.mono _ _ | exact LeO.refl _ | exact LeO.none _ | refine LeO.ite ?_ ?_ | refine LeO.bind ?_ (fun _ => ?_))
   | exact ih0 _ _
   | exact ih1 _ _ _ _ _ _ _
   | exact mag_Trim.mono _ _
   | exact LeO.none _
   | refine LeO.ite ?_ ?_
   | refine LeO.bind ?_ (fun _ => ?_)
def num_Add.j0 : Nat → List Int → List Int → List Int → Bool → List Int → List Int → Bool → List Int → List Int → Option (Bool × List Int × List Int)
 | 0, _, _, _, _, _, _, _, _, _ => none
 | k + 1, x5, x6, x7, x398000, x398001, x398002, x399000, x399001, x399002 => if (x398000 == x399000) = true then ((mag_Add.f k x5 x6).bind fun t410 => ((num_Make.f k x398000 t410 x7).bind fun bt413 => (some (bt413.1, bt413.2.1, bt413.2.2)))) else ((mag_Cmp.f k x5 x6).bind fun t420 => (if t420 ≥ 0 then ((mag_Sub.f k x5 x6).bind fun t421 => ((num_Make.f k x398000 t421 x7).bind fun bt424 => (some (bt424.1, bt424.2.1, bt424.2.2)))) else ((mag_Sub.f k x6 x5).bind fun t431 => ((num_Make.f k x399000 t431 x7).bind fun bt434 => (some (bt434.1, bt434.2.1, bt434.2.2))))))
def num_Add.f (k : Nat) (a0_0 : Bool) (l0_1 : List Int) (l0_2 : List Int) (a1_0 : Bool) (l1_1 : List Int) (l1_2 : List Int) : Option (Bool × List Int × List Int) := (mag_Cmp.f k l0_2 l1_2).bind fun t400 => (if t400 = 0 then (num_Add.j0 k l0_1 l1_1 l0_2 a0_0 l0_1 l0_2 a1_0 l1_1 l1_2) else ((mag_Mul.f k l0_1 l1_2).bind fun t401 => ((mag_Mul.f k l1_1 l0_2).bind fun t404 => ((mag_Mul.f k l0_2 l1_2).bind fun t407 => (num_Add.j0 k t401 t404 t407 a0_0 l0_1 l0_2 a1_0 l1_1 l1_2)))))
def num_Mul.f (k : Nat) (a0_0 : Bool) (l0_1 : List Int) (l0_2 : List Int) (a1_0 : Bool) (l1_1 : List Int) (l1_2 : List Int) : Option (Bool × List Int × List Int) := (mag_Mul.f k l0_1 l1_1).bind fun t444 => ((mag_Mul.f k l0_2 l1_2).bind fun t447 => ((num_Make.f k (a0_0 != a1_0) t444 t447).bind fun bt450 => (some (bt450.1, bt450.2.1, bt450.2.2))))
def linear_dot.l0 : Nat → List (S30) → List (S30) → Int → Int → Bool → List Int → List Int → Option (Bool × List Int × List Int)
 | 0, _, _, _, _, _, _, _ => none
 | k + 1, x1, x9, x10, x11, x466000, x466001, x466002 => if x11 < x10 then (if 0 ≤ x11 then (if x11 < (x9.length : Int) then (if x11 < (x1.length : Int) then ((num_Mul.f k ((rd_T30 x9 x11).f0) ((rd_T30 x9 x11).f1) ((rd_T30 x9 x11).f2) ((rd_T30 x1 x11).f0) ((rd_T30 x1 x11).f1) ((rd_T30 x1 x11).f2)).bind fun bt469 => ((num_Add.f k x466000 x466001 x466002 bt469.1 bt469.2.1 bt469.2.2).bind fun bt476 => (linear_dot.l0 k x1 x9 x10 (wrap64 (x11 + 1)) bt476.1 bt476.2.1 bt476.2.2))) else (none)) else (none)) else (none)) else (some (x466000, x466001, x466002))
def linear_dot.f (k : Nat) (l0 : List (S30)) (l1 : List (S30)) : Option (Bool × List Int × List Int) := (num_Zero.f).bind fun bt458 => (linear_dot.l0 k l1 l0 (l0.length : Int) 0 bt458.1 bt458.2.1 bt458.2.2)
def linear_Holds.l0 : Nat → List (S30) → List (S32) → Int → Int → Option (Bool × Int)
 | 0, _, _, _, _ => none
 | k + 1, x2, x21, x22, x23 => if x23 < x22 then (if 0 ≤ x23 then (if x23 < (x21.length : Int) then ((linear_dot.f k ((rd_T32 x21 x23).f0) x2).bind fun bt487 => ((linear_satisfies.f k bt487.1 bt487.2.1 bt487.2.2 ((rd_T32 x21 x23).f1) ((rd_T32 x21 x23).f2.f0) ((rd_T32 x21 x23).f2.f1) ((rd_T32 x21 x23).f2.f2)).bind fun t494 => (if t494 = true then (linear_Holds.l0 k x2 x21 x22 (wrap64 (x23 + 1))) else (some (false, 0))))) else (none)) else (none)) else (some (true, 0))
def isochroneref01_trim.l0 : Nat → List Int → Int → Option (List Int)
 | 0, _, _ => none
 | k + 1, x0, x3 => if x3 > 0 then (if 0 ≤ (wrap64 (x3 - 1)) then (if (wrap64 (x3 - 1)) < (x0.length : Int) then (if (rd x0 (wrap64 (x3 - 1))) = 0 then (isochroneref01_trim.l0 k x0 (wrap64 (x3 - 1))) else (if 0 ≤ x3 then (if x3 ≤ (x0.length : Int) then (some (x0.take (x3 : Int).toNat)) else (none)) else (none))) else (none)) else (none)) else (if 0 ≤ x3 then (if x3 ≤ (x0.length : Int) then (some (x0.take (x3 : Int).toNat)) else (none)) else (none))
def isochroneref01_trim.f (k : Nat) (l0 : List Int) : Option (List Int) := isochroneref01_trim.l0 k l0 (l0.length : Int)
theorem isochroneref01_trim.mono_l : ∀ k, (∀ y0 y1, LeO (isochroneref01_trim.l0 k y0 y1) (isochroneref01_trim.l0 (k + 1) y0 y1))
 | 0 => fun _ _ r h => by simp [isochroneref01_trim.l0] at h
 | k + 1 => by
  have ih0 := isochroneref01_trim.mono_l k
  ·intro y0 y1
   unfold isochroneref01_trim.l0
   repeat' first
   | (with_reducible first | exact ih0 _ _ | exact LeO.refl _ | exact LeO.none _ | refine LeO.ite ?_ ?_ | refine LeO.bind ?_ (fun _ => ?_))
   | exact ih0 _ _
   | exact LeO.none _
   | refine LeO.ite ?_ ?_
   | refine LeO.bind ?_ (fun _ => ?_)
theorem isochroneref01_trim.mono : ∀ a0 k, LeO (isochroneref01_trim.f k a0) (isochroneref01_trim.f (k + 1) a0) := by
 intro a0 k
 have ih0 := isochroneref01_trim.mono_l k
 unfold isochroneref01_trim.f
 repeat' first
   | (with_reducible first | exact ih0 _ _ | exact LeO.refl _ | exact LeO.none _ | refine LeO.ite ?_ ?_ | refine LeO.bind ?_ (fun _ => ?_))
   | exact ih0 _ _
   | exact LeO.none _
   | refine LeO.ite ?_ ?_
   | refine LeO.bind ?_ (fun _ => ?_)
def isochroneref01_Split.l0 : Nat → List Int → Int → List Int → Int → Int → Option (List Int × Int)
 | 0, _, _, _, _, _ => none
 | k + 1, x0, x1, x6, x7, x8 => if x8 ≥ 0 then (if 0 ≤ x8 then (if x8 < (x0.length : Int) then (if x1 = 0 then (none) else (if x8 < (x6.length : Int) then (isochroneref01_Split.l0 k x0 x1 (x6.set (x8 : Int).toNat (wrap64 (Int.tdiv (wrap64 ((wrap64 (x7 * 10000)) + (rd x0 x8))) x1))) (Int.tmod (wrap64 ((wrap64 (x7 * 10000)) + (rd x0 x8))) x1) (wrap64 (x8 - 1))) else (none))) else (none)) else (none)) else ((isochroneref01_trim.f k x6).bind fun t507 => (some (t507, x7)))
def isochroneref01_Split.f (k : Nat) (l0 : List Int) (a1 : Int) : Option (List Int × Int) := if 0 ≤ (l0.length : Int) then (if ((l0.length : Int) : Int).toNat ≤ 35184372088832 then (isochroneref01_Split.l0 k l0 a1 (List.replicate ((l0.length : Int) : Int).toNat 0) 0 (wrap64 ((l0.length : Int) - 1))) else (none)) else (none)
theorem isochroneref01_Split.mono_l : ∀ k, (∀ y0 y1 y2 y3 y4, LeO (isochroneref01_Split.l0 k y0 y1 y2 y3 y4) (isochroneref01_Split.l0 (k + 1) y0 y1 y2 y3 y4))
 | 0 => fun _ _ _ _ _ r h => by simp [isochroneref01_Split.l0] at h
 | k + 1 => by
  have ih0 := isochroneref01_Split.mono_l k
  ·intro y0 y1 y2 y3 y4
   unfold isochroneref01_Split.l0
   repeat' first
   | (with_reducible first | exact ih0 _ _ _ _ _ | exact isochroneref01_trim.mono _ _ | exact LeO.refl _ | exact LeO.none _ | refine LeO.ite ?_ ?_ | refine LeO.bind ?_ (fun _ => ?_))
   | exact ih0 _ _ _ _ _
   | exact isochroneref01_trim.mono _ _
   | exact LeO.none _
   | refine LeO.ite ?_ ?_
   | refine LeO.bind ?_ (fun _ => ?_)
theorem isochroneref01_Split.mono : ∀ a0 a1 k, LeO (isochroneref01_Split.f k a0 a1) (isochroneref01_Split.f (k + 1) a0 a1) := by
 intro a0 a1 k
 have ih0 := isochroneref01_Split.mono_l k
 unfold isochroneref01_Split.f
 repeat' first
   | (with_reducible first | exact ih0 _ _ _ _ _ | exact isochroneref01_trim.mono _ _ | exact LeO.refl _ | exact LeO.none _ | refine LeO.ite ?_ ?_ | refine LeO.bind ?_ (fun _ => ?_))
   | exact ih0 _ _ _ _ _
   | exact isochroneref01_trim.mono _ _
   | exact LeO.none _
   | refine LeO.ite ?_ ?_
   | refine LeO.bind ?_ (fun _ => ?_)
mutual
def isochroneref01_Words.l0 : Nat → List Int → List Int → Option (List Int)
 | 0, _, _ => none
 | k + 1, x0, x3 => if (x0.length : Int) > 0 then ((isochroneref01_Split.f k x0 65536).bind fun bt510 => (if x3.length < 17592186044416 then (isochroneref01_Words.l0 k bt510.1 (x3 ++ [bt510.2])) else (none))) else (isochroneref01_Words.l1 k x3 ([] : List Int) 0)
def isochroneref01_Words.l1 : Nat → List Int → List Int → Int → Option (List Int)
 | 0, _, _, _ => none
 | k + 1, x3, x6, x7 => if x7 < (x3.length : Int) then (if 0 ≤ x7 then (if (wrap64 (x7 + 1)) < (x3.length : Int) then (if 0 ≤ (wrap64 (x7 + 1)) then (if x6.length < 35184372088832 then (isochroneref01_Words.l1 k x3 (x6 ++ [(((rd x3 x7) % 4294967296) + ((((rd x3 (wrap64 (x7 + 1))) % 4294967296) * 65536) % 4294967296)) % 4294967296]) (wrap64 (x7 + 2))) else (none)) else (none)) else (if x6.length < 35184372088832 then (isochroneref01_Words.l1 k x3 (x6 ++ [(rd x3 x7) % 4294967296]) (wrap64 (x7 + 2))) else (none))) else (none)) else (some x6)
end
def isochroneref01_Words.f (k : Nat) (l0 : List Int) : Option (List Int) := isochroneref01_Words.l0 k l0 ([] : List Int)
theorem isochroneref01_Words.mono_l : ∀ k, (∀ y0 y1, LeO (isochroneref01_Words.l0 k y0 y1) (isochroneref01_Words.l0 (k + 1) y0 y1)) ∧ (∀ y0 y1 y2, LeO (isochroneref01_Words.l1 k y0 y1 y2) (isochroneref01_Words.l1 (k + 1) y0 y1 y2))
 | 0 => ⟨fun _ _ r h => by simp [isochroneref01_Words.l0] at h, fun _ _ _ r h => by simp [isochroneref01_Words.l1] at h⟩
 | k + 1 => by
  obtain ⟨ih0, ih1⟩ := isochroneref01_Words.mono_l k
  refine ⟨?_, ?_⟩
  ·intro y0 y1
   unfold isochroneref01_Words.l0
   repeat' first
   | (with_reducible first | exact ih0 _ _ | exact ih1 _ _ _ | exact isochroneref01_Split.mono _ _ _ | exact LeO.refl _ | exact LeO.none _ | refine LeO.ite ?_ ?_ | refine LeO.bind ?_ (fun _ => ?_))
   | exact ih0 _ _
   | exact ih1 _ _ _
   | exact isochroneref01_Split.mono _ _ _
   | exact LeO.none _
   | refine LeO.ite ?_ ?_
   | refine LeO.bind ?_ (fun _ => ?_)
  ·intro y0 y1 y2
   unfold isochroneref01_Words.l1
   repeat' first
   | (with_reducible first | exact ih0 _ _ | exact ih1 _ _ _ | exact isochroneref01_Split.mono _ _ _ | exact LeO.refl _ | exact LeO.none _ | refine LeO.ite ?_ ?_ | refine LeO.bind ?_ (fun _ => ?_))
   | exact ih0 _ _
   | exact ih1 _ _ _
   | exact isochroneref01_Split.mono _ _ _
   | exact LeO.none _
   | refine LeO.ite ?_ ?_
   | refine LeO.bind ?_ (fun _ => ?_)
theorem isochroneref01_Words.mono : ∀ a0 k, LeO (isochroneref01_Words.f k a0) (isochroneref01_Words.f (k + 1) a0) := by
 intro a0 k
 obtain ⟨ih0, ih1⟩ := isochroneref01_Words.mono_l k
 unfold isochroneref01_Words.f
 repeat' first
   | (with_reducible first | exact ih0 _ _ | exact ih1 _ _ _ | exact isochroneref01_Split.mono _ _ _ | exact LeO.refl _ | exact LeO.none _ | refine LeO.ite ?_ ?_ | refine LeO.bind ?_ (fun _ => ?_))
   | exact ih0 _ _
   | exact ih1 _ _ _
   | exact isochroneref01_Split.mono _ _ _
   | exact LeO.none _
   | refine LeO.ite ?_ ?_
   | refine LeO.bind ?_ (fun _ => ?_)
def isochroneref01_Int.l0 : Nat → Int → List Int → Option (List Int)
 | 0, _, _ => none
 | k + 1, x0, x3 => if x0 > 0 then (if x3.length < 17592186044416 then (isochroneref01_Int.l0 k (wrap64 (Int.tdiv x0 10000)) (x3 ++ [Int.tmod x0 10000])) else (none)) else (some x3)
def isochroneref01_Int.f (k : Nat) (a0 : Int) : Option (List Int) := isochroneref01_Int.l0 k a0 (([] : List Int))
theorem isochroneref01_Int.mono_l : ∀ k, (∀ y0 y1, LeO (isochroneref01_Int.l0 k y0 y1) (isochroneref01_Int.l0 (k + 1) y0 y1))
 | 0 => fun _ _ r h => by simp [isochroneref01_Int.l0] at h
 | k + 1 => by
  have ih0 := isochroneref01_Int.mono_l k
  ·intro y0 y1
   unfold isochroneref01_Int.l0
   repeat' first
   | (with_reducible first | exact ih0 _ _ | exact LeO.refl _ | exact LeO.none _ | refine LeO.ite ?_ ?_ | refine LeO.bind ?_ (fun _ => ?_))
   | exact ih0 _ _
   | exact LeO.none _
   | refine LeO.ite ?_ ?_
   | refine LeO.bind ?_ (fun _ => ?_)
theorem isochroneref01_Int.mono : ∀ a0 k, LeO (isochroneref01_Int.f k a0) (isochroneref01_Int.f (k + 1) a0) := by
 intro a0 k
 have ih0 := isochroneref01_Int.mono_l k
 unfold isochroneref01_Int.f
 repeat' first
   | (with_reducible first | exact ih0 _ _ | exact LeO.refl _ | exact LeO.none _ | refine LeO.ite ?_ ?_ | refine LeO.bind ?_ (fun _ => ?_))
   | exact ih0 _ _
   | exact LeO.none _
   | refine LeO.ite ?_ ?_
   | refine LeO.bind ?_ (fun _ => ?_)
def linear_row_plain.l0 : Nat → List (S30) → Int → Int → Option (Bool)
 | 0, _, _, _ => none
 | k + 1, x9, x10, x11 => if x11 < x10 then (if 0 ≤ x11 then (if x11 < (x9.length : Int) then ((num_Sign.f ((rd_T30 x9 x11).f0) ((rd_T30 x9 x11).f1) ((rd_T30 x9 x11).f2)).bind fun t578 => (if t578 = 0 then (linear_row_plain.l0 k x9 x10 (wrap64 (x11 + 1))) else (some false))) else (none)) else (none)) else (some true)
def isochroneref02_Short.f (a0_0 : Bool) (l0_1 : List Int) (l0_2 : List Int) (a1 : Int) : Option (Bool) := if (l0_1.length : Int) ≤ a1 then (some (decide ((l0_2.length : Int) ≤ a1))) else (some false)
mutual
def isochroneref05_Numbers.l0 : Nat → Int → List (S32) → Int → Int → Option (Bool)
 | 0, _, _, _, _ => none
 | k + 1, x1, x9, x10, x11 => if x11 < x10 then (if 0 ≤ x11 then (if x11 < (x9.length : Int) then (if (((rd_T32 x9 x11).f0).length : Int) > 12 then (isochroneref05_Numbers.j1 k x1 x9 x10 x11 true ((rd_T32 x9 x11).f0) ((rd_T32 x9 x11).f1) ((rd_T32 x9 x11).f2.f0) ((rd_T32 x9 x11).f2.f1) ((rd_T32 x9 x11).f2.f2)) else ((isochroneref02_Short.f ((rd_T32 x9 x11).f2.f0) ((rd_T32 x9 x11).f2.f1) ((rd_T32 x9 x11).f2.f2) x1).bind fun t1294 => (isochroneref05_Numbers.j1 k x1 x9 x10 x11 (!t1294) ((rd_T32 x9 x11).f0) ((rd_T32 x9 x11).f1) ((rd_T32 x9 x11).f2.f0) ((rd_T32 x9 x11).f2.f1) ((rd_T32 x9 x11).f2.f2)))) else (none)) else (none)) else (some true)
def isochroneref05_Numbers.j1 : Nat → Int → List (S32) → Int → Int → Bool → List (S30) → Int → Bool → List Int → List Int → Option (Bool)
 | 0, _, _, _, _, _, _, _, _, _, _ => none
 | k + 1, x1, x9, x10, x11, x25, x1294000, x1294001, x1294002, x1294003, x1294004 => if x25 = true then (some false) else (isochroneref05_Numbers.l1 k x1 x9 x10 x11 x1294000 (x1294000.length : Int) 0)
def isochroneref05_Numbers.l1 : Nat → Int → List (S32) → Int → Int → List (S30) → Int → Int → Option (Bool)
 | 0, _, _, _, _, _, _, _ => none
 | k + 1, x1, x9, x10, x11, x27, x28, x29 => if x29 < x28 then (if 0 ≤ x29 then (if x29 < (x27.length : Int) then ((isochroneref02_Short.f ((rd_T30 x27 x29).f0) ((rd_T30 x27 x29).f1) ((rd_T30 x27 x29).f2) x1).bind fun t1297 => (if t1297 = true then (isochroneref05_Numbers.l1 k x1 x9 x10 x11 x27 x28 (wrap64 (x29 + 1))) else (some false))) else (none)) else (none)) else (isochroneref05_Numbers.l0 k x1 x9 x10 (wrap64 (x11 + 1)))
end
mutual
def isochroneref01_Small.l0 : Nat → Int → Int → List Int → List Int → Int → Int → Option (List Int)
 | 0, _, _, _, _, _, _ => none
 | k + 1, x1, x2, x7, x14, x15, x16 => if x16 < x15 then (if 0 ≤ x16 then (if x16 < (x14.length : Int) then (if x7.length < 17592186044416 then (isochroneref01_Small.l0 k x1 (wrap64 (Int.tdiv (wrap64 (x2 + (wrap64 ((rd x14 x16) * x1)))) 10000)) (x7 ++ [Int.tmod (wrap64 (x2 + (wrap64 ((rd x14 x16) * x1)))) 10000]) x14 x15 (wrap64 (x16 + 1))) else (none)) else (none)) else (none)) else (isochroneref01_Small.l1 k x2 x7)
def isochroneref01_Small.l1 : Nat → Int → List Int → Option (List Int)
 | 0, _, _ => none
 | k + 1, x2, x7 => if x2 > 0 then (if x7.length < 17592186044416 then (isochroneref01_Small.l1 k (wrap64 (Int.tdiv x2 10000)) (x7 ++ [Int.tmod x2 10000])) else (none)) else ((isochroneref01_trim.f k x7).bind fun t1308 => (some t1308))
end
def isochroneref01_Small.f (k : Nat) (l0 : List Int) (a1 : Int) (a2 : Int) : Option (List Int) := if 0 ≤ (wrap64 ((l0.length : Int) + 2)) then (if (wrap64 ((l0.length : Int) + 2) : Int).toNat ≤ 35184372088832 then (isochroneref01_Small.l0 k a1 a2 (([] : List Int)) l0 (l0.length : Int) 0) else (none)) else (none)
theorem isochroneref01_Small.mono_l : ∀ k, (∀ y0 y1 y2 y3 y4 y5, LeO (isochroneref01_Small.l0 k y0 y1 y2 y3 y4 y5) (isochroneref01_Small.l0 (k + 1) y0 y1 y2 y3 y4 y5)) ∧ (∀ y0 y1, LeO (isochroneref01_Small.l1 k y0 y1) (isochroneref01_Small.l1 (k + 1) y0 y1))
 | 0 => ⟨fun _ _ _ _ _ _ r h => by simp [isochroneref01_Small.l0] at h, fun _ _ r h => by simp [isochroneref01_Small.l1] at h⟩
 | k + 1 => by
  obtain ⟨ih0, ih1⟩ := isochroneref01_Small.mono_l k
  refine ⟨?_, ?_⟩
  ·intro y0 y1 y2 y3 y4 y5
   unfold isochroneref01_Small.l0
   repeat' first
   | (with_reducible first | exact ih0 _ _ _ _ _ _ | exact ih1 _ _ | exact isochroneref01_trim.mono _ _ | exact LeO.refl _ | exact LeO.none _ | refine LeO.ite ?_ ?_ | refine LeO.bind ?_ (fun _ => ?_))
   | exact ih0 _ _ _ _ _ _
   | exact ih1 _ _
   | exact isochroneref01_trim.mono _ _
   | exact LeO.none _
   | refine LeO.ite ?_ ?_
   | refine LeO.bind ?_ (fun _ => ?_)
  ·intro y0 y1
   unfold isochroneref01_Small.l1
   repeat' first
   | (with_reducible first | exact ih0 _ _ _ _ _ _ | exact ih1 _ _ | exact isochroneref01_trim.mono _ _ | exact LeO.refl _ | exact LeO.none _ | refine LeO.ite ?_ ?_ | refine LeO.bind ?_ (fun _ => ?_))
   | exact ih0 _ _ _ _ _ _
   | exact ih1 _ _
   | exact isochroneref01_trim.mono _ _
   | exact LeO.none _
   | refine LeO.ite ?_ ?_
   | refine LeO.bind ?_ (fun _ => ?_)
theorem isochroneref01_Small.mono : ∀ a0 a1 a2 k, LeO (isochroneref01_Small.f k a0 a1 a2) (isochroneref01_Small.f (k + 1) a0 a1 a2) := by
 intro a0 a1 a2 k
 obtain ⟨ih0, ih1⟩ := isochroneref01_Small.mono_l k
 unfold isochroneref01_Small.f
 repeat' first
   | (with_reducible first | exact ih0 _ _ _ _ _ _ | exact ih1 _ _ | exact isochroneref01_trim.mono _ _ | exact LeO.refl _ | exact LeO.none _ | refine LeO.ite ?_ ?_ | refine LeO.bind ?_ (fun _ => ?_))
   | exact ih0 _ _ _ _ _ _
   | exact ih1 _ _
   | exact isochroneref01_trim.mono _ _
   | exact LeO.none _
   | refine LeO.ite ?_ ?_
   | refine LeO.bind ?_ (fun _ => ?_)
def isochroneref01_Of.l0 : Nat → List Int → List Int → Int → Option (List Int)
 | 0, _, _, _ => none
 | k + 1, x0, x3, x4 => if x4 ≥ 0 then (if 0 ≤ x4 then (if x4 < (x0.length : Int) then ((isochroneref01_Small.f k x3 65536 (wrap64 ((rd x0 x4) / 65536))).bind fun t1315 => ((isochroneref01_Small.f k t1315 65536 (wrap64 (Go.bits .and .u32 (rd x0 x4) 65535))).bind fun t1319 => (isochroneref01_Of.l0 k x0 t1319 (wrap64 (x4 - 1))))) else (none)) else (none)) else (some x3)
def isochroneref01_Of.f (k : Nat) (l0 : List Int) : Option (List Int) := isochroneref01_Of.l0 k l0 (([] : List Int)) (wrap64 ((l0.length : Int) - 1))
def isochroneref01_Valid.f (l0 : List Int) : Option (Bool) := if (l0.length : Int) ≤ 4096 then (if (l0.length : Int) = 0 then (some true) else (if 0 ≤ (wrap64 ((l0.length : Int) - 1)) then (if (wrap64 ((l0.length : Int) - 1)) < (l0.length : Int) then (some ((rd l0 (wrap64 ((l0.length : Int) - 1))) != 0)) else (none)) else (none))) else (some false)
def isochroneref01_Cmp.l0 : Nat → List Int → List Int → Int → Option (Int)
 | 0, _, _, _ => none
 | k + 1, x0, x1, x5 => if x5 ≥ 0 then (if 0 ≤ x5 then (if x5 < (x0.length : Int) then (if x5 < (x1.length : Int) then (if (rd x0 x5) = (rd x1 x5) then (isochroneref01_Cmp.l0 k x0 x1 (wrap64 (x5 - 1))) else (if (rd x0 x5) < (rd x1 x5) then (some (-1)) else (some 1))) else (none)) else (none)) else (none)) else (some 0)
def isochroneref01_Cmp.f (k : Nat) (l0 : List Int) (l1 : List Int) : Option (Int) := if (l0.length : Int) = (l1.length : Int) then (isochroneref01_Cmp.l0 k l0 l1 (wrap64 ((l0.length : Int) - 1))) else (if (l0.length : Int) < (l1.length : Int) then (some (-1)) else (some 1))
theorem isochroneref01_Cmp.mono_l : ∀ k, (∀ y0 y1 y2, LeO (isochroneref01_Cmp.l0 k y0 y1 y2) (isochroneref01_Cmp.l0 (k + 1) y0 y1 y2))
 | 0 => fun _ _ _ r h => by simp [isochroneref01_Cmp.l0] at h
 | k + 1 => by
  have ih0 := isochroneref01_Cmp.mono_l k
  ·intro y0 y1 y2
   unfold isochroneref01_Cmp.l0
   repeat' first
   | (with_reducible first | exact ih0 _ _ _ | exact LeO.refl _ | exact LeO.none _ | refine LeO.ite ?_ ?_ | refine LeO.bind ?_ (fun _ => ?_))
   | exact ih0 _ _ _
   | exact LeO.none _
   | refine LeO.ite ?_ ?_
   | refine LeO.bind ?_ (fun _ => ?_)
theorem isochroneref01_Cmp.mono : ∀ a0 a1 k, LeO (isochroneref01_Cmp.f k a0 a1) (isochroneref01_Cmp.f (k + 1) a0 a1) := by
 intro a0 a1 k
 have ih0 := isochroneref01_Cmp.mono_l k
 unfold isochroneref01_Cmp.f
 repeat' first
   | (with_reducible first | exact ih0 _ _ _ | exact LeO.refl _ | exact LeO.none _ | refine LeO.ite ?_ ?_ | refine LeO.bind ?_ (fun _ => ?_))
   | exact ih0 _ _ _
   | exact LeO.none _
   | refine LeO.ite ?_ ?_
   | refine LeO.bind ?_ (fun _ => ?_)
def isochroneref01_little.l0 : Nat → List Int → Int → Int → Option (Int × Bool)
 | 0, _, _, _ => none
 | k + 1, x0, x4, x5 => if x5 ≥ 0 then (if 0 ≤ x5 then (if x5 < (x0.length : Int) then (isochroneref01_little.l0 k x0 (wrap64 ((wrap64 (x4 * 10000)) + (rd x0 x5))) (wrap64 (x5 - 1))) else (none)) else (none)) else (some (x4, true))
def isochroneref01_little.f (k : Nat) (l0 : List Int) : Option (Int × Bool) := if (l0.length : Int) > 4 then (some (0, false)) else (isochroneref01_little.l0 k l0 0 (wrap64 ((l0.length : Int) - 1)))
theorem isochroneref01_little.mono_l : ∀ k, (∀ y0 y1 y2, LeO (isochroneref01_little.l0 k y0 y1 y2) (isochroneref01_little.l0 (k + 1) y0 y1 y2))
 | 0 => fun _ _ _ r h => by simp [isochroneref01_little.l0] at h
 | k + 1 => by
  have ih0 := isochroneref01_little.mono_l k
  ·intro y0 y1 y2
   unfold isochroneref01_little.l0
   repeat' first
   | (with_reducible first | exact ih0 _ _ _ | exact LeO.refl _ | exact LeO.none _ | refine LeO.ite ?_ ?_ | refine LeO.bind ?_ (fun _ => ?_))
   | exact ih0 _ _ _
   | exact LeO.none _
   | refine LeO.ite ?_ ?_
   | refine LeO.bind ?_ (fun _ => ?_)
theorem isochroneref01_little.mono : ∀ a0 k, LeO (isochroneref01_little.f k a0) (isochroneref01_little.f (k + 1) a0) := by
 intro a0 k
 have ih0 := isochroneref01_little.mono_l k
 unfold isochroneref01_little.f
 repeat' first
   | (with_reducible first | exact ih0 _ _ _ | exact LeO.refl _ | exact LeO.none _ | refine LeO.ite ?_ ?_ | refine LeO.bind ?_ (fun _ => ?_))
   | exact ih0 _ _ _
   | exact LeO.none _
   | refine LeO.ite ?_ ?_
   | refine LeO.bind ?_ (fun _ => ?_)
def isochroneref01_Nat_int.f (l0 : List Int) : Option (List Int) := (some (([] : List Int) : List Int)).bind fun y1328 => (if y1328.length + l0.length < 17592186044416 then (some (y1328 ++ l0)) else (none))
def isochroneref01_Sub.l0 : Nat → List Int → List Int → Int → Int → Int → Option (List Int)
 | 0, _, _, _, _, _ => none
 | k + 1, x1, x5, x6, x12, x13 => if x13 < x12 then (if 0 ≤ x13 then (if x13 < (x5.length : Int) then (if x13 < (x1.length : Int) then (if (wrap64 ((wrap64 ((rd x5 x13) - x6)) - (rd x1 x13))) < 0 then (isochroneref01_Sub.l0 k x1 (x5.set (x13 : Int).toNat (wrap64 ((wrap64 ((wrap64 ((rd x5 x13) - x6)) - (rd x1 x13))) + 10000))) 1 x12 (wrap64 (x13 + 1))) else (isochroneref01_Sub.l0 k x1 (x5.set (x13 : Int).toNat (wrap64 ((wrap64 ((rd x5 x13) - x6)) - (rd x1 x13)))) 0 x12 (wrap64 (x13 + 1)))) else (if (wrap64 ((rd x5 x13) - x6)) < 0 then (isochroneref01_Sub.l0 k x1 (x5.set (x13 : Int).toNat (wrap64 ((wrap64 ((rd x5 x13) - x6)) + 10000))) 1 x12 (wrap64 (x13 + 1))) else (isochroneref01_Sub.l0 k x1 (x5.set (x13 : Int).toNat (wrap64 ((rd x5 x13) - x6))) 0 x12 (wrap64 (x13 + 1))))) else (none)) else (none)) else ((isochroneref01_trim.f k x5).bind fun t1337 => (some t1337))
def isochroneref01_Sub.f (k : Nat) (l0 : List Int) (l1 : List Int) : Option (List Int) := (isochroneref01_Nat_int.f l0).bind fun t1334 => (isochroneref01_Sub.l0 k l1 t1334 0 (t1334.length : Int) 0)
theorem isochroneref01_Sub.mono_l : ∀ k, (∀ y0 y1 y2 y3 y4, LeO (isochroneref01_Sub.l0 k y0 y1 y2 y3 y4) (isochroneref01_Sub.l0 (k + 1) y0 y1 y2 y3 y4))
 | 0 => fun _ _ _ _ _ r h => by simp [isochroneref01_Sub.l0] at h
 | k + 1 => by
  have ih0 := isochroneref01_Sub.mono_l k
  ·intro y0 y1 y2 y3 y4
   unfold isochroneref01_Sub.l0
   repeat' first
   | (with_reducible first | exact ih0 _ _ _ _ _ | exact isochroneref01_trim.mono _ _ | exact LeO.refl _ | exact LeO.none _ | refine LeO.ite ?_ ?_ | refine LeO.bind ?_ (fun _ => ?_))
   | exact ih0 _ _ _ _ _
   | exact isochroneref01_trim.mono _ _
   | exact LeO.none _
   | refine LeO.ite ?_ ?_
   | refine LeO.bind ?_ (fun _ => ?_)
theorem isochroneref01_Sub.mono : ∀ a0 a1 k, LeO (isochroneref01_Sub.f k a0 a1) (isochroneref01_Sub.f (k + 1) a0 a1) := by
 intro a0 a1 k
 have ih0 := isochroneref01_Sub.mono_l k
 unfold isochroneref01_Sub.f
 repeat' first
   | (with_reducible first | exact ih0 _ _ _ _ _ | exact isochroneref01_trim.mono _ _ | exact LeO.refl _ | exact LeO.none _ | refine LeO.ite ?_ ?_ | refine LeO.bind ?_ (fun _ => ?_))
   | exact ih0 _ _ _ _ _
   | exact isochroneref01_trim.mono _ _
   | exact LeO.none _
   | refine LeO.ite ?_ ?_
   | refine LeO.bind ?_ (fun _ => ?_)
mutual
def isochroneref01_digit.l0 : Nat → List Int → List Int → Int → Int → Int → Int → Option (Int)
 | 0, _, _, _, _, _, _ => none
 | k + 1, x0, x1, x5, x6, x7, x8 => if x8 ≥ (mx 0 (wrap64 (x5 - 2))) then (if x8 < (x0.length : Int) then (if 0 ≤ x8 then (isochroneref01_digit.l0 k x0 x1 x5 (wrap64 ((wrap64 (x6 * 10000)) + (rd x0 x8))) x7 (wrap64 (x8 - 1))) else (none)) else (isochroneref01_digit.l0 k x0 x1 x5 (wrap64 (x6 * 10000)) x7 (wrap64 (x8 - 1)))) else (isochroneref01_digit.l1 k x0 x1 x5 x6 x7 (wrap64 (x5 - 1)))
def isochroneref01_digit.l1 : Nat → List Int → List Int → Int → Int → Int → Int → Option (Int)
 | 0, _, _, _, _, _, _ => none
 | k + 1, x0, x1, x5, x6, x7, x9 => if x9 ≥ (mx 0 (wrap64 (x5 - 2))) then (if 0 ≤ x9 then (if x9 < (x1.length : Int) then (isochroneref01_digit.l1 k x0 x1 x5 x6 (wrap64 ((wrap64 (x7 * 10000)) + (rd x1 x9))) (wrap64 (x9 - 1))) else (none)) else (none)) else (if x5 = 1 then (if 0 < (x1.length : Int) then (isochroneref01_digit.j2 k x0 x1 x6 (rd x1 0)) else (none)) else (isochroneref01_digit.j2 k x0 x1 x6 x7))
def isochroneref01_digit.j2 : Nat → List Int → List Int → Int → Int → Option (Int)
 | 0, _, _, _, _ => none
 | k + 1, x0, x1, x6, x7 => if x7 = 0 then (none) else (isochroneref01_digit.l2 k x0 x1 (mn (wrap64 (Int.tdiv x6 x7)) 9999))
def isochroneref01_digit.l2 : Nat → List Int → List Int → Int → Option (Int)
 | 0, _, _, _ => none
 | k + 1, x0, x1, x10 => (isochroneref01_Small.f k x1 x10 0).bind fun t1349 => ((isochroneref01_Cmp.f k t1349 x0).bind fun t1352 => (if t1352 > 0 then (isochroneref01_digit.l2 k x0 x1 (wrap64 (x10 - 1))) else (isochroneref01_digit.l3 k x0 x1 x10)))
def isochroneref01_digit.l3 : Nat → List Int → List Int → Int → Option (Int)
 | 0, _, _, _ => none
 | k + 1, x0, x1, x10 => if (wrap64 (x10 + 1)) < 10000 then ((isochroneref01_Small.f k x1 (wrap64 (x10 + 1)) 0).bind fun t1353 => ((isochroneref01_Cmp.f k t1353 x0).bind fun t1356 => (if t1356 ≤ 0 then (isochroneref01_digit.l3 k x0 x1 (wrap64 (x10 + 1))) else (some x10)))) else (some x10)
end
def isochroneref01_digit.f (k : Nat) (l0 : List Int) (l1 : List Int) : Option (Int) := isochroneref01_digit.l0 k l0 l1 (l1.length : Int) 0 0 (l1.length : Int)
theorem isochroneref01_digit.mono_l : ∀ k, (∀ y0 y1 y2 y3 y4 y5, LeO (isochroneref01_digit.l0 k y0 y1 y2 y3 y4 y5) (isochroneref01_digit.l0 (k + 1) y0 y1 y2 y3 y4 y5)) ∧ (∀ y0 y1 y2 y3 y4 y5, LeO (isochroneref01_digit.l1 k y0 y1 y2 y3 y4 y5) (isochroneref01_digit.l1 (k + 1) y0 y1 y2 y3 y4 y5)) ∧ (∀ y0 y1 y2 y3, LeO (isochroneref01_digit.j2 k y0 y1 y2 y3) (isochroneref01_digit.j2 (k + 1) y0 y1 y2 y3)) ∧ (∀ y0 y1 y2, LeO (isochroneref01_digit.l2 k y0 y1 y2) (isochroneref01_digit.l2 (k + 1) y0 y1 y2)) ∧ (∀ y0 y1 y2, LeO (isochroneref01_digit.l3 k y0 y1 y2) (isochroneref01_digit.l3 (k + 1) y0 y1 y2))
 | 0 => ⟨fun _ _ _ _ _ _ r h => by simp [isochroneref01_digit.l0] at h, fun _ _ _ _ _ _ r h => by simp [isochroneref01_digit.l1] at h, fun _ _ _ _ r h => by simp [isochroneref01_digit.j2] at h, fun _ _ _ r h => by simp [isochroneref01_digit.l2] at h, fun _ _ _ r h => by simp [isochroneref01_digit.l3] at h⟩
 | k + 1 => by
  obtain ⟨ih0, ih1, ih2, ih3, ih4⟩ := isochroneref01_digit.mono_l k
  refine ⟨?_, ?_, ?_, ?_, ?_⟩
  ·intro y0 y1 y2 y3 y4 y5
   unfold isochroneref01_digit.l0
   repeat' first
   | (with_reducible first | exact ih0 _ _ _ _ _ _ | exact ih1 _ _ _ _ _ _ | exact ih2 _ _ _ _ | exact ih3 _ _ _ | exact ih4 _ _ _ | exact isochroneref01_Cmp.mono _ _ _ | exact isochroneref01_Small.mono _ _ _ _ | exact LeO.refl _ | exact LeO.none _ | refine LeO.ite ?_ ?_ | refine LeO.bind ?_ (fun _ => ?_))
   | exact ih0 _ _ _ _ _ _
   | exact ih1 _ _ _ _ _ _
   | exact ih2 _ _ _ _
   | exact ih3 _ _ _
   | exact ih4 _ _ _
   | exact isochroneref01_Cmp.mono _ _ _
   | exact isochroneref01_Small.mono _ _ _ _
   | exact LeO.none _
   | refine LeO.ite ?_ ?_
   | refine LeO.bind ?_ (fun _ => ?_)
  ·intro y0 y1 y2 y3 y4 y5
   unfold isochroneref01_digit.l1
   repeat' first
   | (with_reducible first | exact ih0 _ _ _ _ _ _ | exact ih1 _ _ _ _ _ _ | exact ih2 _ _ _ _ | exact ih3 _ _ _ | exact ih4 _ _ _ | exact isochroneref01_Cmp.mono _ _ _ | exact isochroneref01_Small.mono _ _ _ _ | exact LeO.refl _ | exact LeO.none _ | refine LeO.ite ?_ ?_ | refine LeO.bind ?_ (fun _ => ?_))
   | exact ih0 _ _ _ _ _ _
   | exact ih1 _ _ _ _ _ _
   | exact ih2 _ _ _ _
   | exact ih3 _ _ _
   | exact ih4 _ _ _
   | exact isochroneref01_Cmp.mono _ _ _
   | exact isochroneref01_Small.mono _ _ _ _
   | exact LeO.none _
   | refine LeO.ite ?_ ?_
   | refine LeO.bind ?_ (fun _ => ?_)
  ·intro y0 y1 y2 y3
   unfold isochroneref01_digit.j2
   repeat' first
   | (with_reducible first | exact ih0 _ _ _ _ _ _ | exact ih1 _ _ _ _ _ _ | exact ih2 _ _ _ _ | exact ih3 _ _ _ | exact ih4 _ _ _ | exact isochroneref01_Cmp.mono _ _ _ | exact isochroneref01_Small.mono _ _ _ _ | exact LeO.refl _ | exact LeO.none _ | refine LeO.ite ?_ ?_ | refine LeO.bind ?_ (fun _ => ?_))
   | exact ih0 _ _ _ _ _ _
   | exact ih1 _ _ _ _ _ _
   | exact ih2 _ _ _ _
   | exact ih3 _ _ _
   | exact ih4 _ _ _
   | exact isochroneref01_Cmp.mono _ _ _
   | exact isochroneref01_Small.mono _ _ _ _
   | exact LeO.none _
   | refine LeO.ite ?_ ?_
   | refine LeO.bind ?_ (fun _ => ?_)
  ·intro y0 y1 y2
   unfold isochroneref01_digit.l2
   repeat' first
   | (with_reducible first | exact ih0 _ _ _ _ _ _ | exact ih1 _ _ _ _ _ _ | exact ih2 _ _ _ _ | exact ih3 _ _ _ | exact ih4 _ _ _ | exact isochroneref01_Cmp.mono _ _ _ | exact isochroneref01_Small.mono _ _ _ _ | exact LeO.refl _ | exact LeO.none _ | refine LeO.ite ?_ ?_ | refine LeO.bind ?_ (fun _ => ?_))
   | exact ih0 _ _ _ _ _ _
   | exact ih1 _ _ _ _ _ _
   | exact ih2 _ _ _ _
   | exact ih3 _ _ _
   | exact ih4 _ _ _
   | exact isochroneref01_Cmp.mono _ _ _
   | exact isochroneref01_Small.mono _ _ _ _
   | exact LeO.none _
   | refine LeO.ite ?_ ?_
   | refine LeO.bind ?_ (fun _ => ?_)
  ·intro y0 y1 y2
   unfold isochroneref01_digit.l3
   repeat' first
   | (with_reducible first | exact ih0 _ _ _ _ _ _ | exact ih1 _ _ _ _ _ _ | exact ih2 _ _ _ _ | exact ih3 _ _ _ | exact ih4 _ _ _ | exact isochroneref01_Cmp.mono _ _ _ | exact isochroneref01_Small.mono _ _ _ _ | exact LeO.refl _ | exact LeO.none _ | refine LeO.ite ?_ ?_ | refine LeO.bind ?_ (fun _ => ?_))
   | exact ih0 _ _ _ _ _ _
   | exact ih1 _ _ _ _ _ _
   | exact ih2 _ _ _ _
   | exact ih3 _ _ _
   | exact ih4 _ _ _
   | exact isochroneref01_Cmp.mono _ _ _
   | exact isochroneref01_Small.mono _ _ _ _
   | exact LeO.none _
   | refine LeO.ite ?_ ?_
   | refine LeO.bind ?_ (fun _ => ?_)
theorem isochroneref01_digit.mono : ∀ a0 a1 k, LeO (isochroneref01_digit.f k a0 a1) (isochroneref01_digit.f (k + 1) a0 a1) := by
 intro a0 a1 k
 obtain ⟨ih0, ih1, ih2, ih3, ih4⟩ := isochroneref01_digit.mono_l k
 unfold isochroneref01_digit.f
 repeat' first
   | (with_reducible first | exact ih0 _ _ _ _ _ _ | exact ih1 _ _ _ _ _ _ | exact ih2 _ _ _ _ | exact ih3 _ _ _ | exact ih4 _ _ _ | exact isochroneref01_Cmp.mono _ _ _ | exact isochroneref01_Small.mono _ _ _ _ | exact LeO.refl _ | exact LeO.none _ | refine LeO.ite ?_ ?_ | refine LeO.bind ?_ (fun _ => ?_))
   | exact ih0 _ _ _ _ _ _
   | exact ih1 _ _ _ _ _ _
   | exact ih2 _ _ _ _
   | exact ih3 _ _ _
   | exact ih4 _ _ _
   | exact isochroneref01_Cmp.mono _ _ _
   | exact isochroneref01_Small.mono _ _ _ _
   | exact LeO.none _
   | refine LeO.ite ?_ ?_
   | refine LeO.bind ?_ (fun _ => ?_)
def isochroneref01_DivMod.l0 : Nat → List Int → List Int → List Int → List Int → Int → Option (List Int × List Int)
 | 0, _, _, _, _, _ => none
 | k + 1, x0, x1, x12, x13, x14 => if x14 ≥ 0 then (if 0 ≤ x14 then (if x14 < (x0.length : Int) then ((isochroneref01_Small.f k x13 10000 (rd x0 x14)).bind fun t1389 => ((isochroneref01_Cmp.f k t1389 x1).bind fun t1392 => (if t1392 < 0 then (isochroneref01_DivMod.l0 k x0 x1 x12 t1389 (wrap64 (x14 - 1))) else ((isochroneref01_digit.f k t1389 x1).bind fun t1393 => (if x14 < (x12.length : Int) then ((some (x12.set (x14 : Int).toNat t1393 : List Int)).bind fun y1394 => ((isochroneref01_Small.f k x1 (rd y1394 x14) 0).bind fun t1396 => ((isochroneref01_Sub.f k t1389 t1396).bind fun t1399 => (isochroneref01_DivMod.l0 k x0 x1 y1394 t1399 (wrap64 (x14 - 1)))))) else (none)))))) else (none)) else (none)) else ((isochroneref01_trim.f k x12).bind fun t1385 => (some (t1385, x13)))
def isochroneref01_DivMod.f (k : Nat) (l0 : List Int) (l1 : List Int) : Option (List Int × List Int) := (isochroneref01_Cmp.f k l0 l1).bind fun t1357 => (if t1357 < 0 then (some ((([] : List Int)), l0)) else ((isochroneref01_little.f k l0).bind fun bt1361 => (if bt1361.2 = true then ((isochroneref01_little.f k l1).bind fun bt1363 => (if bt1363.1 = 0 then (none) else ((isochroneref01_Int.f k (wrap64 (Int.tdiv bt1361.1 bt1363.1))).bind fun t1365 => ((isochroneref01_Int.f k (Int.tmod bt1361.1 bt1363.1)).bind fun t1368 => (some (t1365, t1368)))))) else (if (l1.length : Int) = 1 then (if 0 < (l1.length : Int) then ((isochroneref01_Split.f k l0 (rd l1 0)).bind fun bt1372 => ((isochroneref01_Int.f k bt1372.2).bind fun t1376 => (some (bt1372.1, t1376)))) else (none)) else (if 0 ≤ (l0.length : Int) then (if ((l0.length : Int) : Int).toNat ≤ 35184372088832 then (isochroneref01_DivMod.l0 k l0 l1 (List.replicate ((l0.length : Int) : Int).toNat 0) (([] : List Int)) (wrap64 ((l0.length : Int) - 1))) else (none)) else (none))))))
theorem isochroneref01_DivMod.mono_l : ∀ k, (∀ y0 y1 y2 y3 y4, LeO (isochroneref01_DivMod.l0 k y0 y1 y2 y3 y4) (isochroneref01_DivMod.l0 (k + 1) y0 y1 y2 y3 y4))
 | 0 => fun _ _ _ _ _ r h => by simp [isochroneref01_DivMod.l0] at h
 | k + 1 => by
  have ih0 := isochroneref01_DivMod.mono_l k
  ·intro y0 y1 y2 y3 y4
   unfold isochroneref01_DivMod.l0
   repeat' first
   | (with_reducible first | exact ih0 _ _ _ _ _ | exact isochroneref01_Cmp.mono _ _ _ | exact isochroneref01_Int.mono _ _ | exact isochroneref01_Small.mono _ _ _ _ | exact isochroneref01_Split.mono _ _ _ | exact isochroneref01_Sub.mono _ _ _ | exact isochroneref01_digit.mono _ _ _ | exact isochroneref01_little.mono _ _ | exact isochroneref01_trim.mono _ _ | exact LeO.refl _ | exact LeO.none _ | refine LeO.ite ?_ ?_ | refine LeO.bind ?_ (fun _ => ?_))
   | exact ih0 _ _ _ _ _
   | exact isochroneref01_Cmp.mono _ _ _
   | exact isochroneref01_Int.mono _ _
   | exact isochroneref01_Small.mono _ _ _ _
   | exact isochroneref01_Split.mono _ _ _
   | exact isochroneref01_Sub.mono _ _ _
   | exact isochroneref01_digit.mono _ _ _
   | exact isochroneref01_little.mono _ _
   | exact isochroneref01_trim.mono _ _
   | exact LeO.none _
   | refine LeO.ite ?_ ?_
   | refine LeO.bind ?_ (fun _ => ?_)
theorem isochroneref01_DivMod.mono : ∀ a0 a1 k, LeO (isochroneref01_DivMod.f k a0 a1) (isochroneref01_DivMod.f (k + 1) a0 a1) := by
 intro a0 a1 k
 have ih0 := isochroneref01_DivMod.mono_l k
 unfold isochroneref01_DivMod.f
 repeat' first
   | (with_reducible first | exact ih0 _ _ _ _ _ | exact isochroneref01_Cmp.mono _ _ _ | exact isochroneref01_Int.mono _ _ | exact isochroneref01_Small.mono _ _ _ _ | exact isochroneref01_Split.mono _ _ _ | exact isochroneref01_Sub.mono _ _ _ | exact isochroneref01_digit.mono _ _ _ | exact isochroneref01_little.mono _ _ | exact isochroneref01_trim.mono _ _ | exact LeO.refl _ | exact LeO.none _ | refine LeO.ite ?_ ?_ | refine LeO.bind ?_ (fun _ => ?_))
   | exact ih0 _ _ _ _ _
   | exact isochroneref01_Cmp.mono _ _ _
   | exact isochroneref01_Int.mono _ _
   | exact isochroneref01_Small.mono _ _ _ _
   | exact isochroneref01_Split.mono _ _ _
   | exact isochroneref01_Sub.mono _ _ _
   | exact isochroneref01_digit.mono _ _ _
   | exact isochroneref01_little.mono _ _
   | exact isochroneref01_trim.mono _ _
   | exact LeO.none _
   | refine LeO.ite ?_ ?_
   | refine LeO.bind ?_ (fun _ => ?_)
mutual
def isochroneref01_GCD.l0 : Nat → List Int → List Int → Option (List Int)
 | 0, _, _ => none
 | k + 1, x0, x1 => if (x1.length : Int) > 0 then ((isochroneref01_little.f k x0).bind fun bt1402 => ((isochroneref01_little.f k x1).bind fun bt1404 => (if bt1402.2 = true then (isochroneref01_GCD.j1 k x0 x1 bt1402.1 bt1404.1 bt1404.2) else (isochroneref01_GCD.j1 k x0 x1 bt1402.1 bt1404.1 false)))) else (some x0)
def isochroneref01_GCD.j1 : Nat → List Int → List Int → Int → Int → Bool → Option (List Int)
 | 0, _, _, _, _, _ => none
 | k + 1, x0, x1, x5, x7, x27 => if x27 = true then (isochroneref01_GCD.l1 k x5 x7) else ((isochroneref01_DivMod.f k x0 x1).bind fun bt1409 => (isochroneref01_GCD.l0 k x1 bt1409.2))
def isochroneref01_GCD.l1 : Nat → Int → Int → Option (List Int)
 | 0, _, _ => none
 | k + 1, x5, x7 => if x7 > 0 then (if x7 = 0 then (none) else (isochroneref01_GCD.l1 k x7 (Int.tmod x5 x7))) else ((isochroneref01_Int.f k x5).bind fun t1406 => (some t1406))
end
def isochroneref01_GCD.f (k : Nat) (l0 : List Int) (l1 : List Int) : Option (List Int) := isochroneref01_GCD.l0 k l0 l1
theorem isochroneref01_GCD.mono_l : ∀ k, (∀ y0 y1, LeO (isochroneref01_GCD.l0 k y0 y1) (isochroneref01_GCD.l0 (k + 1) y0 y1)) ∧ (∀ y0 y1 y2 y3 y4, LeO (isochroneref01_GCD.j1 k y0 y1 y2 y3 y4) (isochroneref01_GCD.j1 (k + 1) y0 y1 y2 y3 y4)) ∧ (∀ y0 y1, LeO (isochroneref01_GCD.l1 k y0 y1) (isochroneref01_GCD.l1 (k + 1) y0 y1))
 | 0 => ⟨fun _ _ r h => by simp [isochroneref01_GCD.l0] at h, fun _ _ _ _ _ r h => by simp [isochroneref01_GCD.j1] at h, fun _ _ r h => by simp [isochroneref01_GCD.l1] at h⟩
 | k + 1 => by
  obtain ⟨ih0, ih1, ih2⟩ := isochroneref01_GCD.mono_l k
  refine ⟨?_, ?_, ?_⟩
  ·intro y0 y1
   unfold isochroneref01_GCD.l0
   repeat' first
   | (with_reducible first | exact ih0 _ _ | exact ih1 _ _ _ _ _ | exact ih2 _ _ | exact isochroneref01_DivMod.mono _ _ _ | exact isochroneref01_Int.mono _ _ | exact isochroneref01_little.mono _ _ | exact LeO.refl _ | exact LeO.none _ | refine LeO.ite ?_ ?_ | refine LeO.bind ?_ (fun _ => ?_))
   | exact ih0 _ _
   | exact ih1 _ _ _ _ _
   | exact ih2 _ _
   | exact isochroneref01_DivMod.mono _ _ _
   | exact isochroneref01_Int.mono _ _
   | exact isochroneref01_little.mono _ _
   | exact LeO.none _
   | refine LeO.ite ?_ ?_
   | refine LeO.bind ?_ (fun _ => ?_)
  ·intro y0 y1 y2 y3 y4
   unfold isochroneref01_GCD.j1
   repeat' first
   | (with_reducible first | exact ih0 _ _ | exact ih1 _ _ _ _ _ | exact ih2 _ _ | exact isochroneref01_DivMod.mono _ _ _ | exact isochroneref01_Int.mono _ _ | exact isochroneref01_little.mono _ _ | exact LeO.refl _ | exact LeO.none _ | refine LeO.ite ?_ ?_ | refine LeO.bind ?_ (fun _ => ?_))
   | exact ih0 _ _
   | exact ih1 _ _ _ _ _
   | exact ih2 _ _
   | exact isochroneref01_DivMod.mono _ _ _
   | exact isochroneref01_Int.mono _ _
   | exact isochroneref01_little.mono _ _
   | exact LeO.none _
   | refine LeO.ite ?_ ?_
   | refine LeO.bind ?_ (fun _ => ?_)
  ·intro y0 y1
   unfold isochroneref01_GCD.l1
   repeat' first
   | (with_reducible first | exact ih0 _ _ | exact ih1 _ _ _ _ _ | exact ih2 _ _ | exact isochroneref01_DivMod.mono _ _ _ | exact isochroneref01_Int.mono _ _ | exact isochroneref01_little.mono _ _ | exact LeO.refl _ | exact LeO.none _ | refine LeO.ite ?_ ?_ | refine LeO.bind ?_ (fun _ => ?_))
   | exact ih0 _ _
   | exact ih1 _ _ _ _ _
   | exact ih2 _ _
   | exact isochroneref01_DivMod.mono _ _ _
   | exact isochroneref01_Int.mono _ _
   | exact isochroneref01_little.mono _ _
   | exact LeO.none _
   | refine LeO.ite ?_ ?_
   | refine LeO.bind ?_ (fun _ => ?_)
theorem isochroneref01_GCD.mono : ∀ a0 a1 k, LeO (isochroneref01_GCD.f k a0 a1) (isochroneref01_GCD.f (k + 1) a0 a1) := by
 intro a0 a1 k
 obtain ⟨ih0, ih1, ih2⟩ := isochroneref01_GCD.mono_l k
 unfold isochroneref01_GCD.f
 repeat' first
   | (with_reducible first | exact ih0 _ _ | exact ih1 _ _ _ _ _ | exact ih2 _ _ | exact isochroneref01_DivMod.mono _ _ _ | exact isochroneref01_Int.mono _ _ | exact isochroneref01_little.mono _ _ | exact LeO.refl _ | exact LeO.none _ | refine LeO.ite ?_ ?_ | refine LeO.bind ?_ (fun _ => ?_))
   | exact ih0 _ _
   | exact ih1 _ _ _ _ _
   | exact ih2 _ _
   | exact isochroneref01_DivMod.mono _ _ _
   | exact isochroneref01_Int.mono _ _
   | exact isochroneref01_little.mono _ _
   | exact LeO.none _
   | refine LeO.ite ?_ ?_
   | refine LeO.bind ?_ (fun _ => ?_)
def isochroneref02_Valid.j0 : Nat → Bool → Bool → List Int → List Int → Option (Bool)
 | 0, _, _, _, _ => none
 | k + 1, x18, x1416000, x1416001, x1416002 => if x18 = true then (some false) else (if (x1416001.length : Int) = 0 then (if x1416000 = true then (some false) else (if (x1416002.length : Int) = 1 then (if 0 < (x1416002.length : Int) then (some ((rd x1416002 0) == 1)) else (none)) else (some false))) else ((isochroneref01_Of.f k x1416001).bind fun t1419 => ((isochroneref01_Of.f k x1416002).bind fun t1422 => ((isochroneref01_GCD.f k t1419 t1422).bind fun t1425 => ((isochroneref01_Cmp.f k t1425 (([1] : List Int))).bind fun t1431 => (some (t1431 == 0)))))))
def isochroneref02_Valid.f (k : Nat) (a0_0 : Bool) (l0_1 : List Int) (l0_2 : List Int) : Option (Bool) := (isochroneref01_Valid.f l0_1).bind fun t1416 => (if t1416 = true then ((isochroneref01_Valid.f l0_2).bind fun t1417 => (if t1417 = true then (isochroneref02_Valid.j0 k ((l0_2.length : Int) == 0) a0_0 l0_1 l0_2) else (isochroneref02_Valid.j0 k true a0_0 l0_1 l0_2))) else (isochroneref02_Valid.j0 k true a0_0 l0_1 l0_2))
def isochroneref05_number.f (k : Nat) (a0_0 : Bool) (l0_1 : List Int) (l0_2 : List Int) : Option (Bool) := (isochroneref02_Short.f a0_0 l0_1 l0_2 20).bind fun t1433 => (if t1433 = true then ((isochroneref02_Valid.f k a0_0 l0_1 l0_2).bind fun t1434 => (some t1434)) else (some false))
mutual
def isochroneref05_Valid.j0 : Nat → Int → List (S32) → Bool → Option (Bool)
 | 0, _, _, _ => none
 | k + 1, x0, x1, x19 => if x19 = true then (some false) else (isochroneref05_Valid.l0 k x0 x1 (x1.length : Int) 0)
def isochroneref05_Valid.l0 : Nat → Int → List (S32) → Int → Int → Option (Bool)
 | 0, _, _, _, _ => none
 | k + 1, x0, x20, x21, x22 => if x22 < x21 then (if 0 ≤ x22 then (if x22 < (x20.length : Int) then (if (((rd_T32 x20 x22).f0).length : Int) = x0 then (if ((rd_T32 x20 x22).f1) < 0 then (isochroneref05_Valid.j2 k x0 x20 x21 x22 true ((rd_T32 x20 x22).f0) ((rd_T32 x20 x22).f1) ((rd_T32 x20 x22).f2.f0) ((rd_T32 x20 x22).f2.f1) ((rd_T32 x20 x22).f2.f2)) else (if ((rd_T32 x20 x22).f1) > 2 then (isochroneref05_Valid.j2 k x0 x20 x21 x22 true ((rd_T32 x20 x22).f0) ((rd_T32 x20 x22).f1) ((rd_T32 x20 x22).f2.f0) ((rd_T32 x20 x22).f2.f1) ((rd_T32 x20 x22).f2.f2)) else ((isochroneref05_number.f k ((rd_T32 x20 x22).f2.f0) ((rd_T32 x20 x22).f2.f1) ((rd_T32 x20 x22).f2.f2)).bind fun t1437 => (isochroneref05_Valid.j2 k x0 x20 x21 x22 (!t1437) ((rd_T32 x20 x22).f0) ((rd_T32 x20 x22).f1) ((rd_T32 x20 x22).f2.f0) ((rd_T32 x20 x22).f2.f1) ((rd_T32 x20 x22).f2.f2))))) else (isochroneref05_Valid.j2 k x0 x20 x21 x22 true ((rd_T32 x20 x22).f0) ((rd_T32 x20 x22).f1) ((rd_T32 x20 x22).f2.f0) ((rd_T32 x20 x22).f2.f1) ((rd_T32 x20 x22).f2.f2))) else (none)) else (none)) else (some true)
def isochroneref05_Valid.j2 : Nat → Int → List (S32) → Int → Int → Bool → List (S30) → Int → Bool → List Int → List Int → Option (Bool)
 | 0, _, _, _, _, _, _, _, _, _, _ => none
 | k + 1, x0, x20, x21, x22, x46, x1437000, x1437001, x1437002, x1437003, x1437004 => if x46 = true then (some false) else (isochroneref05_Valid.l1 k x0 x20 x21 x22 x1437000 (x1437000.length : Int) 0)
def isochroneref05_Valid.l1 : Nat → Int → List (S32) → Int → Int → List (S30) → Int → Int → Option (Bool)
 | 0, _, _, _, _, _, _, _ => none
 | k + 1, x0, x20, x21, x22, x48, x49, x50 => if x50 < x49 then (if 0 ≤ x50 then (if x50 < (x48.length : Int) then ((isochroneref05_number.f k ((rd_T30 x48 x50).f0) ((rd_T30 x48 x50).f1) ((rd_T30 x48 x50).f2)).bind fun t1440 => (if t1440 = true then (isochroneref05_Valid.l1 k x0 x20 x21 x22 x48 x49 (wrap64 (x50 + 1))) else (some false))) else (none)) else (none)) else (isochroneref05_Valid.l0 k x0 x20 x21 (wrap64 (x22 + 1)))
end
def isochroneref05_List.l0 : Nat → List (S30) → Int → Int → Option (Bool)
 | 0, _, _, _ => none
 | k + 1, x11, x12, x13 => if x13 < x12 then (if 0 ≤ x13 then (if x13 < (x11.length : Int) then ((isochroneref02_Short.f ((rd_T30 x11 x13).f0) ((rd_T30 x11 x13).f1) ((rd_T30 x11 x13).f2) 200).bind fun t1445 => (if t1445 = true then ((isochroneref02_Valid.f k ((rd_T30 x11 x13).f0) ((rd_T30 x11 x13).f1) ((rd_T30 x11 x13).f2)).bind fun t1446 => (if t1446 = true then (isochroneref05_List.l0 k x11 x12 (wrap64 (x13 + 1))) else (some false))) else (some false))) else (none)) else (none)) else (some true)
def isochroneref02_Of.f (k : Nat) (a0_0 : Bool) (l0_1 : List Int) (l0_2 : List Int) : Option (Bool × List Int × List Int) := (isochroneref01_Of.f k l0_1).bind fun t1449 => ((isochroneref01_Of.f k l0_2).bind fun t1452 => (some (a0_0, t1449, t1452)))
def isochroneref05_Rats.l0 : Nat → List (S37) → List (S30) → Int → Int → Option ((List (S37)))
 | 0, _, _, _, _ => none
 | k + 1, x3, x6, x7, x8 => if x8 < x7 then (if 0 ≤ x8 then (if x8 < (x6.length : Int) then ((isochroneref02_Of.f k ((rd_T30 x6 x8).f0) ((rd_T30 x6 x8).f1) ((rd_T30 x6 x8).f2)).bind fun bt1457 => (if x3.length < 2513169434916 then (isochroneref05_Rats.l0 k (x3 ++ [(⟨bt1457.1, bt1457.2.1, bt1457.2.2⟩ : S37)]) x6 x7 (wrap64 (x8 + 1))) else (none))) else (none)) else (none)) else (some x3)
def isochroneref05_Rats.f (k : Nat) (l0 : List (S30)) : Option ((List (S37))) := isochroneref05_Rats.l0 k ([] : List (S37)) l0 (l0.length : Int) 0
mutual
def isochroneref01_Mul.l0 : Nat → List Int → List Int → List Int → Int → Int → Option (List Int)
 | 0, _, _, _, _, _ => none
 | k + 1, x1, x5, x19, x20, x21 => if x21 < x20 then (if 0 ≤ x21 then (if x21 < (x19.length : Int) then (isochroneref01_Mul.l1 k x1 x5 x21 (rd x19 x21) 0 x19 x20 x21 x1 (x1.length : Int) 0) else (none)) else (none)) else ((isochroneref01_trim.f k x5).bind fun t1472 => (some t1472))
def isochroneref01_Mul.l1 : Nat → List Int → List Int → Int → Int → Int → List Int → Int → Int → List Int → Int → Int → Option (List Int)
 | 0, _, _, _, _, _, _, _, _, _, _, _ => none
 | k + 1, x1, x5, x6, x7, x8, x19, x20, x21, x26, x27, x28 => if x28 < x27 then (if 0 ≤ x28 then (if x28 < (x26.length : Int) then (if 0 ≤ (wrap64 (x6 + x28)) then (if (wrap64 (x6 + x28)) < (x5.length : Int) then (isochroneref01_Mul.l1 k x1 (x5.set ((wrap64 (x6 + x28)) : Int).toNat (Int.tmod (wrap64 (x8 + (wrap64 ((rd x5 (wrap64 (x6 + x28))) + (wrap64 (x7 * (rd x26 x28))))))) 10000)) x6 x7 (wrap64 (Int.tdiv (wrap64 (x8 + (wrap64 ((rd x5 (wrap64 (x6 + x28))) + (wrap64 (x7 * (rd x26 x28))))))) 10000)) x19 x20 x21 x26 x27 (wrap64 (x28 + 1))) else (none)) else (none)) else (none)) else (none)) else (isochroneref01_Mul.l2 k x1 x5 x8 (wrap64 (x6 + (x1.length : Int))) x19 x20 x21)
def isochroneref01_Mul.l2 : Nat → List Int → List Int → Int → Int → List Int → Int → Int → Option (List Int)
 | 0, _, _, _, _, _, _, _ => none
 | k + 1, x1, x5, x8, x11, x19, x20, x21 => if x8 > 0 then (if 0 ≤ x11 then (if x11 < (x5.length : Int) then (isochroneref01_Mul.l2 k x1 (x5.set (x11 : Int).toNat (Int.tmod (wrap64 (x8 + (rd x5 x11))) 10000)) (wrap64 (Int.tdiv (wrap64 (x8 + (rd x5 x11))) 10000)) (wrap64 (x11 + 1)) x19 x20 x21) else (none)) else (none)) else (isochroneref01_Mul.l0 k x1 x5 x19 x20 (wrap64 (x21 + 1)))
end
def isochroneref01_Mul.f (k : Nat) (l0 : List Int) (l1 : List Int) : Option (List Int) := if 0 ≤ (wrap64 ((wrap64 ((l0.length : Int) + (l1.length : Int))) + 1)) then (if (wrap64 ((wrap64 ((l0.length : Int) + (l1.length : Int))) + 1) : Int).toNat ≤ 35184372088832 then (isochroneref01_Mul.l0 k l1 (List.replicate (wrap64 ((wrap64 ((l0.length : Int) + (l1.length : Int))) + 1) : Int).toNat 0) l0 (l0.length : Int) 0) else (none)) else (none)
theorem isochroneref01_Mul.mono_l : ∀ k, (∀ y0 y1 y2 y3 y4, LeO (isochroneref01_Mul.l0 k y0 y1 y2 y3 y4) (isochroneref01_Mul.l0 (k + 1) y0 y1 y2 y3 y4)) ∧ (∀ y0 y1 y2 y3 y4 y5 y6 y7 y8 y9 y10, LeO (isochroneref01_Mul.l1 k y0 y1 y2 y3 y4 y5 y6 y7 y8 y9 y10) (isochroneref01_Mul.l1 (k + 1) y0 y1 y2 y3 y4 y5 y6 y7 y8 y9 y10)) ∧ (∀ y0 y1 y2 y3 y4 y5 y6, LeO (isochroneref01_Mul.l2 k y0 y1 y2 y3 y4 y5 y6) (isochroneref01_Mul.l2 (k + 1) y0 y1 y2 y3 y4 y5 y6))
 | 0 => ⟨fun _ _ _ _ _ r h => by simp [isochroneref01_Mul.l0] at h, fun _ _ _ _ _ _ _ _ _ _ _ r h => by simp [isochroneref01_Mul.l1] at h, fun _ _ _ _ _ _ _ r h => by simp [isochroneref01_Mul.l2] at h⟩
 | k + 1 => by
  obtain ⟨ih0, ih1, ih2⟩ := isochroneref01_Mul.mono_l k
  refine ⟨?_, ?_, ?_⟩
  ·intro y0 y1 y2 y3 y4
   unfold isochroneref01_Mul.l0
   repeat' first
   | (with_reducible first | exact ih0 _ _ _ _ _ | exact ih1 _ _ _ _ _ _ _ _ _ _ _ | exact ih2 _ _ _ _ _ _ _ | exact isochroneref01_trim.mono _ _ | exact LeO.refl _ | exact LeO.none _ | refine LeO.ite ?_ ?_ | refine LeO.bind ?_ (fun _ => ?_))
   | exact ih0 _ _ _ _ _
   | exact ih1 _ _ _ _ _ _ _ _ _ _ _
   | exact ih2 _ _ _ _ _ _ _
   | exact isochroneref01_trim.mono _ _
   | exact LeO.none _
   | refine LeO.ite ?_ ?_
   | refine LeO.bind ?_ (fun _ => ?_)
  ·intro y0 y1 y2 y3 y4 y5 y6 y7 y8 y9 y10
   unfold isochroneref01_Mul.l1
   repeat' first
   | (with_reducible first | exact ih0 _ _ _ _ _ | exact ih1 _ _ _ _ _ _ _ _ _ _ _ | exact ih2 _ _ _ _ _ _ _ | exact isochroneref01_trim.mono _ _ | exact LeO.refl _ | exact LeO.none _ | refine LeO.ite ?_ ?_ | refine LeO.bind ?_ (fun _ => ?_))
   | exact ih0 _ _ _ _ _
   | exact ih1 _ _ _ _ _ _ _ _ _ _ _
   | exact ih2 _ _ _ _ _ _ _
   | exact isochroneref01_trim.mono _ _
   | exact LeO.none _
   | refine LeO.ite ?_ ?_
   | refine LeO.bind ?_ (fun _ => ?_)
  ·intro y0 y1 y2 y3 y4 y5 y6
   unfold isochroneref01_Mul.l2
   repeat' first
   | (with_reducible first | exact ih0 _ _ _ _ _ | exact ih1 _ _ _ _ _ _ _ _ _ _ _ | exact ih2 _ _ _ _ _ _ _ | exact isochroneref01_trim.mono _ _ | exact LeO.refl _ | exact LeO.none _ | refine LeO.ite ?_ ?_ | refine LeO.bind ?_ (fun _ => ?_))
   | exact ih0 _ _ _ _ _
   | exact ih1 _ _ _ _ _ _ _ _ _ _ _
   | exact ih2 _ _ _ _ _ _ _
   | exact isochroneref01_trim.mono _ _
   | exact LeO.none _
   | refine LeO.ite ?_ ?_
   | refine LeO.bind ?_ (fun _ => ?_)
theorem isochroneref01_Mul.mono : ∀ a0 a1 k, LeO (isochroneref01_Mul.f k a0 a1) (isochroneref01_Mul.f (k + 1) a0 a1) := by
 intro a0 a1 k
 obtain ⟨ih0, ih1, ih2⟩ := isochroneref01_Mul.mono_l k
 unfold isochroneref01_Mul.f
 repeat' first
   | (with_reducible first | exact ih0 _ _ _ _ _ | exact ih1 _ _ _ _ _ _ _ _ _ _ _ | exact ih2 _ _ _ _ _ _ _ | exact isochroneref01_trim.mono _ _ | exact LeO.refl _ | exact LeO.none _ | refine LeO.ite ?_ ?_ | refine LeO.bind ?_ (fun _ => ?_))
   | exact ih0 _ _ _ _ _
   | exact ih1 _ _ _ _ _ _ _ _ _ _ _
   | exact ih2 _ _ _ _ _ _ _
   | exact isochroneref01_trim.mono _ _
   | exact LeO.none _
   | refine LeO.ite ?_ ?_
   | refine LeO.bind ?_ (fun _ => ?_)
def isochroneref02_Zero.f  : Option (Bool × List Int × List Int) := some (false, (([] : List Int)), (([1] : List Int)))
mutual
def isochroneref02_Make.j0 : Nat → Bool → List Int → List Int → Bool → Option (Bool × List Int × List Int)
 | 0, _, _, _, _ => none
 | k + 1, x0, x1, x2, x24 => if x24 = true then (some (x0, x1, x2)) else ((isochroneref01_GCD.f k x1 x2).bind fun t1497 => (if (t1497.length : Int) = 1 then (if 0 < (t1497.length : Int) then (isochroneref02_Make.j1 k x0 x1 x2 t1497 ((rd t1497 0) == 1)) else (none)) else (isochroneref02_Make.j1 k x0 x1 x2 t1497 false)))
def isochroneref02_Make.j1 : Nat → Bool → List Int → List Int → List Int → Bool → Option (Bool × List Int × List Int)
 | 0, _, _, _, _, _ => none
 | k + 1, x0, x1, x2, x7, x40 => if x40 = true then (some (x0, x1, x2)) else ((isochroneref01_DivMod.f k x1 x7).bind fun bt1501 => ((isochroneref01_DivMod.f k x2 x7).bind fun bt1507 => (some (x0, bt1501.1, bt1507.1))))
end
def isochroneref02_Make.f (k : Nat) (a0 : Bool) (l1 : List Int) (l2 : List Int) : Option (Bool × List Int × List Int) := if (l1.length : Int) = 0 then ((isochroneref02_Zero.f).bind fun bt1489 => (some (bt1489.1, bt1489.2.1, bt1489.2.2))) else (if (l2.length : Int) = 1 then (if 0 < (l2.length : Int) then (isochroneref02_Make.j0 k a0 l1 l2 ((rd l2 0) == 1)) else (none)) else (isochroneref02_Make.j0 k a0 l1 l2 false))
mutual
def isochroneref01_Add.l0 : Nat → List Int → List Int → List Int → Int → Int → Option (List Int)
 | 0, _, _, _, _, _ => none
 | k + 1, x0, x1, x5, x6, x7 => if x7 < (x0.length : Int) then (isochroneref01_Add.j1 k x0 x1 x5 x6 x7 true) else (if x7 < (x1.length : Int) then (isochroneref01_Add.j1 k x0 x1 x5 x6 x7 true) else (isochroneref01_Add.j1 k x0 x1 x5 x6 x7 (decide (x6 > 0))))
def isochroneref01_Add.j1 : Nat → List Int → List Int → List Int → Int → Int → Bool → Option (List Int)
 | 0, _, _, _, _, _, _ => none
 | k + 1, x0, x1, x5, x6, x7, x21 => if x21 = true then (if x7 < (x0.length : Int) then (if 0 ≤ x7 then (if x7 < (x1.length : Int) then (if x5.length < 17592186044416 then (isochroneref01_Add.l0 k x0 x1 (x5 ++ [Int.tmod (wrap64 ((wrap64 (x6 + (rd x0 x7))) + (rd x1 x7))) 10000]) (wrap64 (Int.tdiv (wrap64 ((wrap64 (x6 + (rd x0 x7))) + (rd x1 x7))) 10000)) (wrap64 (x7 + 1))) else (none)) else (if x5.length < 17592186044416 then (isochroneref01_Add.l0 k x0 x1 (x5 ++ [Int.tmod (wrap64 (x6 + (rd x0 x7))) 10000]) (wrap64 (Int.tdiv (wrap64 (x6 + (rd x0 x7))) 10000)) (wrap64 (x7 + 1))) else (none))) else (none)) else (if x7 < (x1.length : Int) then (if 0 ≤ x7 then (if x5.length < 17592186044416 then (isochroneref01_Add.l0 k x0 x1 (x5 ++ [Int.tmod (wrap64 (x6 + (rd x1 x7))) 10000]) (wrap64 (Int.tdiv (wrap64 (x6 + (rd x1 x7))) 10000)) (wrap64 (x7 + 1))) else (none)) else (none)) else (if x5.length < 17592186044416 then (isochroneref01_Add.l0 k x0 x1 (x5 ++ [Int.tmod x6 10000]) (wrap64 (Int.tdiv x6 10000)) (wrap64 (x7 + 1))) else (none)))) else (some x5)
end
def isochroneref01_Add.f (k : Nat) (l0 : List Int) (l1 : List Int) : Option (List Int) := isochroneref01_Add.l0 k l0 l1 ([] : List Int) 0 0
theorem isochroneref01_Add.mono_l : ∀ k, (∀ y0 y1 y2 y3 y4, LeO (isochroneref01_Add.l0 k y0 y1 y2 y3 y4) (isochroneref01_Add.l0 (k + 1) y0 y1 y2 y3 y4)) ∧ (∀ y0 y1 y2 y3 y4 y5, LeO (isochroneref01_Add.j1 k y0 y1 y2 y3 y4 y5) (isochroneref01_Add.j1 (k + 1) y0 y1 y2 y3 y4 y5))
 | 0 => ⟨fun _ _ _ _ _ r h => by simp [isochroneref01_Add.l0] at h, fun _ _ _ _ _ _ r h => by simp [isochroneref01_Add.j1] at h⟩
 | k + 1 => by
  obtain ⟨ih0, ih1⟩ := isochroneref01_Add.mono_l k
  refine ⟨?_, ?_⟩
  ·intro y0 y1 y2 y3 y4
   unfold isochroneref01_Add.l0
   repeat' first
   | (with_reducible first | exact ih0 _ _ _ _ _ | exact ih1 _ _ _ _ _ _ | exact LeO.refl _ | exact LeO.none _ | refine LeO.ite ?_ ?_ | refine LeO.bind ?_ (fun _ => ?_))
   | exact ih0 _ _ _ _ _
   | exact ih1 _ _ _ _ _ _
   | exact LeO.none _
   | refine LeO.ite ?_ ?_
   | refine LeO.bind ?_ (fun _ => ?_)
  ·intro y0 y1 y2 y3 y4 y5
   unfold isochroneref01_Add.j1
   repeat' first
   | (with_reducible first | exact ih0 _ _ _ _ _ | exact ih1 _ _ _ _ _ _ | exact LeO.refl _ | exact LeO.none _ | refine LeO.ite ?_ ?_ | refine LeO.bind ?_ (fun _ => ?_))
   | exact ih0 _ _ _ _ _
   | exact ih1 _ _ _ _ _ _
   | exact LeO.none _
   | refine LeO.ite ?_ ?_
   | refine LeO.bind ?_ (fun _ => ?_)
theorem isochroneref01_Add.mono : ∀ a0 a1 k, LeO (isochroneref01_Add.f k a0 a1) (isochroneref01_Add.f (k + 1) a0 a1) := by
 intro a0 a1 k
 obtain ⟨ih0, ih1⟩ := isochroneref01_Add.mono_l k
 unfold isochroneref01_Add.f
 repeat' first
   | (with_reducible first | exact ih0 _ _ _ _ _ | exact ih1 _ _ _ _ _ _ | exact LeO.refl _ | exact LeO.none _ | refine LeO.ite ?_ ?_ | refine LeO.bind ?_ (fun _ => ?_))
   | exact ih0 _ _ _ _ _
   | exact ih1 _ _ _ _ _ _
   | exact LeO.none _
   | refine LeO.ite ?_ ?_
   | refine LeO.bind ?_ (fun _ => ?_)
def isochroneref02_Add.f (k : Nat) (a0_0 : Bool) (l0_1 : List Int) (l0_2 : List Int) (a1_0 : Bool) (l1_1 : List Int) (l1_2 : List Int) : Option (Bool × List Int × List Int) := (isochroneref01_Mul.f k l0_1 l1_2).bind fun t1531 => ((isochroneref01_Mul.f k l1_1 l0_2).bind fun t1534 => ((isochroneref01_Mul.f k l0_2 l1_2).bind fun t1537 => (if (a0_0 == a1_0) = true then ((isochroneref01_Add.f k t1531 t1534).bind fun t1540 => ((isochroneref02_Make.f k a0_0 t1540 t1537).bind fun bt1543 => (some (bt1543.1, bt1543.2.1, bt1543.2.2)))) else ((isochroneref01_Cmp.f k t1531 t1534).bind fun t1550 => (if t1550 ≥ 0 then ((isochroneref01_Sub.f k t1531 t1534).bind fun t1551 => ((isochroneref02_Make.f k a0_0 t1551 t1537).bind fun bt1554 => (some (bt1554.1, bt1554.2.1, bt1554.2.2)))) else ((isochroneref01_Sub.f k t1534 t1531).bind fun t1561 => ((isochroneref02_Make.f k a1_0 t1561 t1537).bind fun bt1564 => (some (bt1564.1, bt1564.2.1, bt1564.2.2)))))))))
def isochroneref02_Mul.f (k : Nat) (a0_0 : Bool) (l0_1 : List Int) (l0_2 : List Int) (a1_0 : Bool) (l1_1 : List Int) (l1_2 : List Int) : Option (Bool × List Int × List Int) := (isochroneref01_Mul.f k l0_1 l1_1).bind fun t1605 => ((isochroneref01_Mul.f k l0_2 l1_2).bind fun t1608 => ((isochroneref02_Make.f k (a0_0 != a1_0) t1605 t1608).bind fun bt1611 => (some (bt1611.1, bt1611.2.1, bt1611.2.2))))
def isochroneref05_Dot.l0 : Nat → List (S37) → List (S37) → Int → Int → Bool → List Int → List Int → Option (Bool × List Int × List Int)
 | 0, _, _, _, _, _, _, _ => none
 | k + 1, x0, x1, x9, x10, x1627000, x1627001, x1627002 => if x10 < x9 then (if 0 ≤ x10 then (if x10 < (x0.length : Int) then (if x10 < (x1.length : Int) then ((isochroneref02_Mul.f k ((rd_T37 x0 x10).f0) ((rd_T37 x0 x10).f1) ((rd_T37 x0 x10).f2) ((rd_T37 x1 x10).f0) ((rd_T37 x1 x10).f1) ((rd_T37 x1 x10).f2)).bind fun bt1629 => ((isochroneref02_Add.f k x1627000 x1627001 x1627002 bt1629.1 bt1629.2.1 bt1629.2.2).bind fun bt1636 => (isochroneref05_Dot.l0 k x0 x1 x9 (wrap64 (x10 + 1)) bt1636.1 bt1636.2.1 bt1636.2.2))) else (none)) else (none)) else (none)) else (some (x1627000, x1627001, x1627002))
def isochroneref05_Of.l0 : Nat → List (S88) → List (S32) → Int → Int → Option ((List (S88)))
 | 0, _, _, _, _ => none
 | k + 1, x3, x6, x7, x8 => if x8 < x7 then (if 0 ≤ x8 then (if x8 < (x6.length : Int) then ((isochroneref05_Rats.f k ((rd_T32 x6 x8).f0)).bind fun t1654 => ((isochroneref02_Of.f k ((rd_T32 x6 x8).f2.f0) ((rd_T32 x6 x8).f2.f1) ((rd_T32 x6 x8).f2.f2)).bind fun bt1657 => (if x3.length < 1599289640401 then (isochroneref05_Of.l0 k (x3 ++ [(⟨t1654, (rd_T32 x6 x8).f1, (⟨bt1657.1, bt1657.2.1, bt1657.2.2⟩ : S37)⟩ : S88)]) x6 x7 (wrap64 (x8 + 1))) else (none)))) else (none)) else (none)) else (some x3)
def isochronelaw05_short.l0 : Nat → List (S30) → Int → Int → Option (Bool)
 | 0, _, _, _ => none
 | k + 1, x5, x6, x7 => if x7 < x6 then (if 0 ≤ x7 then (if x7 < (x5.length : Int) then ((isochroneref02_Short.f ((rd_T30 x5 x7).f0) ((rd_T30 x5 x7).f1) ((rd_T30 x5 x7).f2) 2).bind fun t1733 => (if t1733 = true then (isochronelaw05_short.l0 k x5 x6 (wrap64 (x7 + 1))) else (some false))) else (none)) else (none)) else (some true)
def slices_Equal_uint32_uint32.l0 : Nat → List Int → List Int → Int → Int → Option (Bool)
 | 0, _, _, _, _ => none
 | k + 1, x0, x1, x12, x13 => if x13 < x12 then (if 0 ≤ x13 then (if x13 < (x0.length : Int) then (if x13 < (x1.length : Int) then (if (rd x0 x13) = (rd x1 x13) then (slices_Equal_uint32_uint32.l0 k x0 x1 x12 (wrap64 (x13 + 1))) else (some false)) else (none)) else (none)) else (none)) else (some true)
def slices_Equal_uint32_uint32.f (k : Nat) (l0 : List Int) (l1 : List Int) : Option (Bool) := if (l0.length : Int) = (l1.length : Int) then (slices_Equal_uint32_uint32.l0 k l0 l1 (l0.length : Int) 0) else (some false)
theorem slices_Equal_uint32_uint32.mono_l : ∀ k, (∀ y0 y1 y2 y3, LeO (slices_Equal_uint32_uint32.l0 k y0 y1 y2 y3) (slices_Equal_uint32_uint32.l0 (k + 1) y0 y1 y2 y3))
 | 0 => fun _ _ _ _ r h => by simp [slices_Equal_uint32_uint32.l0] at h
 | k + 1 => by
  have ih0 := slices_Equal_uint32_uint32.mono_l k
  ·intro y0 y1 y2 y3
   unfold slices_Equal_uint32_uint32.l0
   repeat' first
   | (with_reducible first | exact ih0 _ _ _ _ | exact LeO.refl _ | exact LeO.none _ | refine LeO.ite ?_ ?_ | refine LeO.bind ?_ (fun _ => ?_))
   | exact ih0 _ _ _ _
   | exact LeO.none _
   | refine LeO.ite ?_ ?_
   | refine LeO.bind ?_ (fun _ => ?_)
theorem slices_Equal_uint32_uint32.mono : ∀ a0 a1 k, LeO (slices_Equal_uint32_uint32.f k a0 a1) (slices_Equal_uint32_uint32.f (k + 1) a0 a1) := by
 intro a0 a1 k
 have ih0 := slices_Equal_uint32_uint32.mono_l k
 unfold slices_Equal_uint32_uint32.f
 repeat' first
   | (with_reducible first | exact ih0 _ _ _ _ | exact LeO.refl _ | exact LeO.none _ | refine LeO.ite ?_ ?_ | refine LeO.bind ?_ (fun _ => ?_))
   | exact ih0 _ _ _ _
   | exact LeO.none _
   | refine LeO.ite ?_ ?_
   | refine LeO.bind ?_ (fun _ => ?_)
def isochroneref01_Pow.l0 : Nat → List Int → List Int → Int → Int → Option (List Int)
 | 0, _, _, _, _ => none
 | k + 1, x0, x5, x7, x8 => if x8 < x7 then ((isochroneref01_Mul.f k x5 x0).bind fun t1909 => (isochroneref01_Pow.l0 k x0 t1909 x7 (wrap64 (x8 + 1)))) else (some x5)
def isochroneref01_Pow.f (k : Nat) (l0 : List Int) (a1 : Int) : Option (List Int) := isochroneref01_Pow.l0 k l0 (([1] : List Int)) a1 0
theorem isochroneref01_Pow.mono_l : ∀ k, (∀ y0 y1 y2 y3, LeO (isochroneref01_Pow.l0 k y0 y1 y2 y3) (isochroneref01_Pow.l0 (k + 1) y0 y1 y2 y3))
 | 0 => fun _ _ _ _ r h => by simp [isochroneref01_Pow.l0] at h
 | k + 1 => by
  have ih0 := isochroneref01_Pow.mono_l k
  ·intro y0 y1 y2 y3
   unfold isochroneref01_Pow.l0
   repeat' first
   | (with_reducible first | exact ih0 _ _ _ _ | exact isochroneref01_Mul.mono _ _ _ | exact LeO.refl _ | exact LeO.none _ | refine LeO.ite ?_ ?_ | refine LeO.bind ?_ (fun _ => ?_))
   | exact ih0 _ _ _ _
   | exact isochroneref01_Mul.mono _ _ _
   | exact LeO.none _
   | refine LeO.ite ?_ ?_
   | refine LeO.bind ?_ (fun _ => ?_)
theorem isochroneref01_Pow.mono : ∀ a0 a1 k, LeO (isochroneref01_Pow.f k a0 a1) (isochroneref01_Pow.f (k + 1) a0 a1) := by
 intro a0 a1 k
 have ih0 := isochroneref01_Pow.mono_l k
 unfold isochroneref01_Pow.f
 repeat' first
   | (with_reducible first | exact ih0 _ _ _ _ | exact isochroneref01_Mul.mono _ _ _ | exact LeO.refl _ | exact LeO.none _ | refine LeO.ite ?_ ?_ | refine LeO.bind ?_ (fun _ => ?_))
   | exact ih0 _ _ _ _
   | exact isochroneref01_Mul.mono _ _ _
   | exact LeO.none _
   | refine LeO.ite ?_ ?_
   | refine LeO.bind ?_ (fun _ => ?_)
end Go.Proofs.YtjimdhlmeebjeaaGreat.P
end
