/- NatForms: Valid accepts exactly the valid magnitudes, every function returns ErrForm if an argument is not one, and From returns the magnitude of a number, for every input. No condition. (text 2 of 6) -/
import Derived.Test.YtfmobogdnlmdbaaForm1
section
namespace Go.Proofs.Ytfmobogdnlmdbaa.P
open Go.RowKit Go.Proofs.YtfmobogdnlmdbaaW.PrintWords Go.Proofs.YtfmobogdnlmdbaaW.PrintLast Go.Proofs.YtfmobogdnlmdbaaW.PrintMore Go.Proofs.YtfmobogdnlmdbaaW
attribute [local go_sem] max2_int min2_int max_two min_two max_three min_three max_four min_four
set_option linter.unusedVariables false
set_option linter.unusedSimpArgs false
def mag_Trim.l0 : Nat → List Int → Option (List Int)
 | 0, _ => none
 | k + 1, x0 => if (x0.length : Int) > 0 then (if 0 ≤ (wrap64 ((x0.length : Int) - 1)) then (if (wrap64 ((x0.length : Int) - 1)) < (x0.length : Int) then (if (rd x0 (wrap64 ((x0.length : Int) - 1))) = 0 then (if (wrap64 ((x0.length : Int) - 1)) ≤ (x0.length : Int) then (mag_Trim.l0 k (x0.take ((wrap64 ((x0.length : Int) - 1)) : Int).toNat)) else (none)) else (some x0)) else (none)) else (none)) else (some x0)
def mag_Trim.f (k : Nat) (l0 : List Int) : Option (List Int) := mag_Trim.l0 k l0
theorem mag_Trim.mono_l : ∀ k, (∀ y0, LeO (mag_Trim.l0 k y0) (mag_Trim.l0 (k + 1) y0))
 | 0 => fun _ r h => by simp [mag_Trim.l0] at h
 | k + 1 => by
  have ih0 := mag_Trim.mono_l k
  ·intro y0
   unfold mag_Trim.l0
   repeat' first
   | (with_reducible first | exact ih0 _ | exact LeO.refl _ | exact LeO.none _ | refine LeO.ite ?_ ?_ | refine LeO.bind ?_ (fun _ => ?_))
   | exact ih0 _
   | exact LeO.none _
   | refine LeO.ite ?_ ?_
   | refine LeO.bind ?_ (fun _ => ?_)
theorem mag_Trim.mono : ∀ a0 k, LeO (mag_Trim.f k a0) (mag_Trim.f (k + 1) a0) := by
 intro a0 k
 have ih0 := mag_Trim.mono_l k
 unfold mag_Trim.f
 repeat' first
   | (with_reducible first | exact ih0 _ | exact LeO.refl _ | exact LeO.none _ | refine LeO.ite ?_ ?_ | refine LeO.bind ?_ (fun _ => ?_))
   | exact ih0 _
   | exact LeO.none _
   | refine LeO.ite ?_ ?_
   | refine LeO.bind ?_ (fun _ => ?_)
mutual
def mag_Add.j0 : Nat → List Int → List Int → Option (List Int)
 | 0, _, _ => none
 | k + 1, x0, x1 => if 0 ≤ (wrap64 ((x0.length : Int) + 1)) then (if (wrap64 ((x0.length : Int) + 1) : Int).toNat ≤ 70368744177664 then (mag_Add.l0 k x0 x1 (List.replicate (wrap64 ((x0.length : Int) + 1) : Int).toNat 0) 0 x0 (x0.length : Int) 0) else (none)) else (none)
def mag_Add.l0 : Nat → List Int → List Int → List Int → Int → List Int → Int → Int → Option (List Int)
 | 0, _, _, _, _, _, _, _ => none
 | k + 1, x0, x1, x5, x6, x20, x21, x22 => if x22 < x21 then (if 0 ≤ x22 then (if x22 < (x20.length : Int) then (if x22 < (x1.length : Int) then (if x22 < (x5.length : Int) then (mag_Add.l0 k x0 x1 (x5.set (x22 : Int).toNat ((IntKind.u64.wrap ((IntKind.u64.wrap (x6 + (IntKind.u64.wrap (rd x20 x22)))) + (IntKind.u64.wrap (rd x1 x22)))) % 4294967296)) ((IntKind.u64.wrap ((IntKind.u64.wrap (x6 + (IntKind.u64.wrap (rd x20 x22)))) + (IntKind.u64.wrap (rd x1 x22)))) / 4294967296) x20 x21 (wrap64 (x22 + 1))) else (none)) else (if x22 < (x5.length : Int) then (mag_Add.l0 k x0 x1 (x5.set (x22 : Int).toNat ((IntKind.u64.wrap (x6 + (IntKind.u64.wrap (rd x20 x22)))) % 4294967296)) ((IntKind.u64.wrap (x6 + (IntKind.u64.wrap (rd x20 x22)))) / 4294967296) x20 x21 (wrap64 (x22 + 1))) else (none))) else (none)) else (none)) else (if 0 ≤ (x0.length : Int) then (if (x0.length : Int) < (x5.length : Int) then ((mag_Trim.f k (x5.set ((x0.length : Int) : Int).toNat ((x6) % 4294967296))).bind fun t115 => (some t115)) else (none)) else (none))
end
def mag_Add.f (k : Nat) (l0 : List Int) (l1 : List Int) : Option (List Int) := if (l0.length : Int) < (l1.length : Int) then (mag_Add.j0 k l1 l0) else (mag_Add.j0 k l0 l1)
theorem mag_Add.mono_l : ∀ k, (∀ y0 y1, LeO (mag_Add.j0 k y0 y1) (mag_Add.j0 (k + 1) y0 y1)) ∧ (∀ y0 y1 y2 y3 y4 y5 y6, LeO (mag_Add.l0 k y0 y1 y2 y3 y4 y5 y6) (mag_Add.l0 (k + 1) y0 y1 y2 y3 y4 y5 y6))
 | 0 => ⟨fun _ _ r h => by simp [mag_Add.j0] at h, fun _ _ _ _ _ _ _ r h => by simp [mag_Add.l0] at h⟩
 | k + 1 => by
  obtain ⟨ih0, ih1⟩ := mag_Add.mono_l k
  refine ⟨?_, ?_⟩
  ·intro y0 y1
   unfold mag_Add.j0
   repeat' first
   | (with_reducible first | exact ih0 _ _ | exact ih1 _ _ _ _ _ _ _ | exact mag_Trim.mono _ _ | exact LeO.refl _ | exact LeO.none _ | refine LeO.ite ?_ ?_ | refine LeO.bind ?_ (fun _ => ?_))
   | exact ih0 _ _
   | exact ih1 _ _ _ _ _ _ _
   | exact mag_Trim.mono _ _
   | exact LeO.none _
   | refine LeO.ite ?_ ?_
   | refine LeO.bind ?_ (fun _ => ?_)
  ·intro y0 y1 y2 y3 y4 y5 y6
   unfold mag_Add.l0
   repeat' first
   | (with_reducible first | exact ih0 _ _ | exact ih1 _ _ _ _ _ _ _ | exact mag_Trim.mono _ _ | exact LeO.refl _ | exact LeO.none _ | refine LeO.ite ?_ ?_ | refine LeO.bind ?_ (fun _ => ?_))
   | exact ih0 _ _
   | exact ih1 _ _ _ _ _ _ _
   | exact mag_Trim.mono _ _
   | exact LeO.none _
   | refine LeO.ite ?_ ?_
   | refine LeO.bind ?_ (fun _ => ?_)
theorem mag_Add.mono : ∀ a0 a1 k, LeO (mag_Add.f k a0 a1) (mag_Add.f (k + 1) a0 a1) := by
 intro a0 a1 k
 obtain ⟨ih0, ih1⟩ := mag_Add.mono_l k
 unfold mag_Add.f
 repeat' first
   | (with_reducible first | exact ih0 _ _ | exact ih1 _ _ _ _ _ _ _ | exact mag_Trim.mono _ _ | exact LeO.refl _ | exact LeO.none _ | refine LeO.ite ?_ ?_ | refine LeO.bind ?_ (fun _ => ?_))
   | exact ih0 _ _
   | exact ih1 _ _ _ _ _ _ _
   | exact mag_Trim.mono _ _
   | exact LeO.none _
   | refine LeO.ite ?_ ?_
   | refine LeO.bind ?_ (fun _ => ?_)
def nat_limited.f (l0 : List Int) : Option (List Int × Int) := if (l0.length : Int) > 4096 then (some (([] : List Int), 2)) else (if ([] : List Int).length + l0.length < 35184372088832 then (some ((([] : List Int) ++ l0), 0)) else (none))
def nat_Valid.f (l0 : List Int) : Option (Bool) := if (l0.length : Int) ≤ 4096 then (if (l0.length : Int) = 0 then (some true) else (if 0 ≤ (wrap64 ((l0.length : Int) - 1)) then (if (wrap64 ((l0.length : Int) - 1)) < (l0.length : Int) then (some ((rd l0 (wrap64 ((l0.length : Int) - 1))) != 0)) else (none)) else (none))) else (some false)
def nat_both.f (l0 : List Int) (l1 : List Int) : Option (Bool) := (nat_Valid.f l0).bind fun t122 => (if t122 = true then ((nat_Valid.f l1).bind fun t123 => (some t123)) else (some false))
def nat_Add.f (k : Nat) (l0 : List Int) (l1 : List Int) : Option (List Int × Int) := (nat_both.f l0 l1).bind fun t124 => (if t124 = true then ((mag_Add.f k l0 l1).bind fun t125 => ((nat_limited.f t125).bind fun bt128 => (some (bt128.1, bt128.2)))) else (some (([] : List Int), 3)))
theorem nat_Add.mono : ∀ a0 a1 k, LeO (nat_Add.f k a0 a1) (nat_Add.f (k + 1) a0 a1) := by
 intro a0 a1 k
 unfold nat_Add.f
 repeat' first
   | (with_reducible first | exact mag_Add.mono _ _ _ | exact LeO.refl _ | exact LeO.none _ | refine LeO.ite ?_ ?_ | refine LeO.bind ?_ (fun _ => ?_))
   | exact mag_Add.mono _ _ _
   | exact LeO.none _
   | refine LeO.ite ?_ ?_
   | refine LeO.bind ?_ (fun _ => ?_)
def mag_Shl.l0 : Nat → Int → Int → List Int → List Int → Int → Int → Option (List Int)
 | 0, _, _, _, _, _, _ => none
 | k + 1, x5, x6, x7, x25, x26, x27 => if x27 < x26 then (if 0 ≤ x27 then (if x27 < (x25.length : Int) then (if 0 ≤ x6 then (if 0 ≤ (wrap64 (x27 + x5)) then (if (wrap64 (x27 + x5)) < (x7.length : Int) then (if 0 ≤ (wrap64 ((wrap64 (x27 + x5)) + 1)) then (if (wrap64 ((wrap64 (x27 + x5)) + 1)) < (x7.length : Int) then (mag_Shl.l0 k x5 x6 ((x7.set ((wrap64 (x27 + x5)) : Int).toNat (Go.bits .or .u32 (rd x7 (wrap64 (x27 + x5))) ((shl .u64 (IntKind.u64.wrap (rd x25 x27)) x6) % 4294967296))).set ((wrap64 ((wrap64 (x27 + x5)) + 1)) : Int).toNat (((shl .u64 (IntKind.u64.wrap (rd x25 x27)) x6) / 4294967296) % 4294967296)) x25 x26 (wrap64 (x27 + 1))) else (none)) else (none)) else (none)) else (none)) else (none)) else (none)) else (none)) else ((mag_Trim.f k x7).bind fun t139 => (some t139))
def mag_Shl.f (k : Nat) (l0 : List Int) (a1 : Int) : Option (List Int) := if (l0.length : Int) = 0 then (some ([] : List Int)) else (if 0 ≤ (wrap64 ((wrap64 ((l0.length : Int) + (wrap64 (Int.tdiv a1 32)))) + 1)) then (if (wrap64 ((wrap64 ((l0.length : Int) + (wrap64 (Int.tdiv a1 32)))) + 1) : Int).toNat ≤ 70368744177664 then (mag_Shl.l0 k (wrap64 (Int.tdiv a1 32)) (IntKind.u64.wrap (Int.tmod a1 32)) (List.replicate (wrap64 ((wrap64 ((l0.length : Int) + (wrap64 (Int.tdiv a1 32)))) + 1) : Int).toNat 0) l0 (l0.length : Int) 0) else (none)) else (none))
theorem mag_Shl.mono_l : ∀ k, (∀ y0 y1 y2 y3 y4 y5, LeO (mag_Shl.l0 k y0 y1 y2 y3 y4 y5) (mag_Shl.l0 (k + 1) y0 y1 y2 y3 y4 y5))
 | 0 => fun _ _ _ _ _ _ r h => by simp [mag_Shl.l0] at h
 | k + 1 => by
  have ih0 := mag_Shl.mono_l k
  ·intro y0 y1 y2 y3 y4 y5
   unfold mag_Shl.l0
   repeat' first
   | (with_reducible first | exact ih0 _ _ _ _ _ _ | exact mag_Trim.mono _ _ | exact LeO.refl _ | exact LeO.none _ | refine LeO.ite ?_ ?_ | refine LeO.bind ?_ (fun _ => ?_))
   | exact ih0 _ _ _ _ _ _
   | exact mag_Trim.mono _ _
   | exact LeO.none _
   | refine LeO.ite ?_ ?_
   | refine LeO.bind ?_ (fun _ => ?_)
theorem mag_Shl.mono : ∀ a0 a1 k, LeO (mag_Shl.f k a0 a1) (mag_Shl.f (k + 1) a0 a1) := by
 intro a0 a1 k
 have ih0 := mag_Shl.mono_l k
 unfold mag_Shl.f
 repeat' first
   | (with_reducible first | exact ih0 _ _ _ _ _ _ | exact mag_Trim.mono _ _ | exact LeO.refl _ | exact LeO.none _ | refine LeO.ite ?_ ?_ | refine LeO.bind ?_ (fun _ => ?_))
   | exact ih0 _ _ _ _ _ _
   | exact mag_Trim.mono _ _
   | exact LeO.none _
   | refine LeO.ite ?_ ?_
   | refine LeO.bind ?_ (fun _ => ?_)
def mag_Shr.l0 : Nat → List Int → Int → Int → List Int → Int → Int → Option (List Int)
 | 0, _, _, _, _, _, _ => none
 | k + 1, x0, x5, x6, x7, x25, x26 => if x26 < x25 then (if 0 ≤ (wrap64 (x26 + x5)) then (if (wrap64 (x26 + x5)) < (x0.length : Int) then (if (wrap64 ((wrap64 (x26 + x5)) + 1)) < (x0.length : Int) then (if 0 ≤ (wrap64 ((wrap64 (x26 + x5)) + 1)) then (if 0 ≤ x6 then (if 0 ≤ x26 then (if x26 < (x7.length : Int) then (mag_Shr.l0 k x0 x5 x6 (x7.set (x26 : Int).toNat ((shr .u64 (Go.bits .or .u64 (IntKind.u64.wrap (rd x0 (wrap64 (x26 + x5)))) (IntKind.u64.wrap ((IntKind.u64.wrap (rd x0 (wrap64 ((wrap64 (x26 + x5)) + 1)))) * 4294967296))) x6) % 4294967296)) x25 (wrap64 (x26 + 1))) else (none)) else (none)) else (none)) else (none)) else (if 0 ≤ x6 then (if 0 ≤ x26 then (if x26 < (x7.length : Int) then (mag_Shr.l0 k x0 x5 x6 (x7.set (x26 : Int).toNat ((shr .u64 (IntKind.u64.wrap (rd x0 (wrap64 (x26 + x5)))) x6) % 4294967296)) x25 (wrap64 (x26 + 1))) else (none)) else (none)) else (none))) else (none)) else (none)) else ((mag_Trim.f k x7).bind fun t149 => (some t149))
def mag_Shr.f (k : Nat) (l0 : List Int) (a1 : Int) : Option (List Int) := if (wrap64 (Int.tdiv a1 32)) ≥ (l0.length : Int) then (some ([] : List Int)) else (if 0 ≤ (wrap64 ((l0.length : Int) - (wrap64 (Int.tdiv a1 32)))) then (if (wrap64 ((l0.length : Int) - (wrap64 (Int.tdiv a1 32))) : Int).toNat ≤ 70368744177664 then ((some (List.replicate (wrap64 ((l0.length : Int) - (wrap64 (Int.tdiv a1 32))) : Int).toNat 0 : List Int)).bind fun y142 => (mag_Shr.l0 k l0 (wrap64 (Int.tdiv a1 32)) (IntKind.u64.wrap (Int.tmod a1 32)) y142 (y142.length : Int) 0)) else (none)) else (none))
theorem mag_Shr.mono_l : ∀ k, (∀ y0 y1 y2 y3 y4 y5, LeO (mag_Shr.l0 k y0 y1 y2 y3 y4 y5) (mag_Shr.l0 (k + 1) y0 y1 y2 y3 y4 y5))
 | 0 => fun _ _ _ _ _ _ r h => by simp [mag_Shr.l0] at h
 | k + 1 => by
  have ih0 := mag_Shr.mono_l k
  ·intro y0 y1 y2 y3 y4 y5
   unfold mag_Shr.l0
   repeat' first
   | (with_reducible first | exact ih0 _ _ _ _ _ _ | exact mag_Trim.mono _ _ | exact LeO.refl _ | exact LeO.none _ | refine LeO.ite ?_ ?_ | refine LeO.bind ?_ (fun _ => ?_))
   | exact ih0 _ _ _ _ _ _
   | exact mag_Trim.mono _ _
   | exact LeO.none _
   | refine LeO.ite ?_ ?_
   | refine LeO.bind ?_ (fun _ => ?_)
theorem mag_Shr.mono : ∀ a0 a1 k, LeO (mag_Shr.f k a0 a1) (mag_Shr.f (k + 1) a0 a1) := by
 intro a0 a1 k
 have ih0 := mag_Shr.mono_l k
 unfold mag_Shr.f
 repeat' first
   | (with_reducible first | exact ih0 _ _ _ _ _ _ | exact mag_Trim.mono _ _ | exact LeO.refl _ | exact LeO.none _ | refine LeO.ite ?_ ?_ | refine LeO.bind ?_ (fun _ => ?_))
   | exact ih0 _ _ _ _ _ _
   | exact mag_Trim.mono _ _
   | exact LeO.none _
   | refine LeO.ite ?_ ?_
   | refine LeO.bind ?_ (fun _ => ?_)
def mag_Cmp.l0 : Nat → List Int → List Int → Int → Option (Int)
 | 0, _, _, _ => none
 | k + 1, x0, x1, x5 => if x5 ≥ 0 then (if 0 ≤ x5 then (if x5 < (x0.length : Int) then (if x5 < (x1.length : Int) then (if (rd x0 x5) = (rd x1 x5) then (mag_Cmp.l0 k x0 x1 (wrap64 (x5 - 1))) else (if (rd x0 x5) < (rd x1 x5) then (some (-1)) else (some 1))) else (none)) else (none)) else (none)) else (some 0)
def mag_Cmp.f (k : Nat) (l0 : List Int) (l1 : List Int) : Option (Int) := if (l0.length : Int) = (l1.length : Int) then (mag_Cmp.l0 k l0 l1 (wrap64 ((l0.length : Int) - 1))) else (if (l0.length : Int) < (l1.length : Int) then (some (-1)) else (some 1))
theorem mag_Cmp.mono_l : ∀ k, (∀ y0 y1 y2, LeO (mag_Cmp.l0 k y0 y1 y2) (mag_Cmp.l0 (k + 1) y0 y1 y2))
 | 0 => fun _ _ _ r h => by simp [mag_Cmp.l0] at h
 | k + 1 => by
  have ih0 := mag_Cmp.mono_l k
  ·intro y0 y1 y2
   unfold mag_Cmp.l0
   repeat' first
   | (with_reducible first | exact ih0 _ _ _ | exact LeO.refl _ | exact LeO.none _ | refine LeO.ite ?_ ?_ | refine LeO.bind ?_ (fun _ => ?_))
   | exact ih0 _ _ _
   | exact LeO.none _
   | refine LeO.ite ?_ ?_
   | refine LeO.bind ?_ (fun _ => ?_)
theorem mag_Cmp.mono : ∀ a0 a1 k, LeO (mag_Cmp.f k a0 a1) (mag_Cmp.f (k + 1) a0 a1) := by
 intro a0 a1 k
 have ih0 := mag_Cmp.mono_l k
 unfold mag_Cmp.f
 repeat' first
   | (with_reducible first | exact ih0 _ _ _ | exact LeO.refl _ | exact LeO.none _ | refine LeO.ite ?_ ?_ | refine LeO.bind ?_ (fun _ => ?_))
   | exact ih0 _ _ _
   | exact LeO.none _
   | refine LeO.ite ?_ ?_
   | refine LeO.bind ?_ (fun _ => ?_)
def mag_From.f (k : Nat) (a0 : Int) : Option (List Int) := (mag_Trim.f k (([(a0) % 4294967296, (a0 / 4294967296) % 4294967296] : List Int))).bind fun t159 => (some t159)
theorem mag_From.mono : ∀ a0 k, LeO (mag_From.f k a0) (mag_From.f (k + 1) a0) := by
 intro a0 k
 unfold mag_From.f
 repeat' first
   | (with_reducible first | exact mag_Trim.mono _ _ | exact LeO.refl _ | exact LeO.none _ | refine LeO.ite ?_ ?_ | refine LeO.bind ?_ (fun _ => ?_))
   | exact mag_Trim.mono _ _
   | exact LeO.none _
   | refine LeO.ite ?_ ?_
   | refine LeO.bind ?_ (fun _ => ?_)
def bits_Len32.f (a0 : Int) : Option (Int) := if a0 ≥ 65536 then (if (a0 / 65536) ≥ 256 then (if 0 ≤ (((a0 / 65536) / 256) % 256) then (if (((a0 / 65536) / 256) % 256) < 256 then (some (wrap64 ((16 + 8) + (wrap64 (bt (⟨#[0, 1, 2, 2, 3, 3, 3, 3, 4, 4, 4, 4, 4, 4, 4, 4, 5, 5, 5, 5, 5, 5, 5, 5, 5, 5, 5, 5, 5, 5, 5, 5, 6, 6, 6, 6, 6, 6, 6, 6, 6, 6, 6, 6, 6, 6, 6, 6, 6, 6, 6, 6, 6, 6, 6, 6, 6, 6, 6, 6, 6, 6, 6, 6, 7, 7, 7, 7, 7, 7, 7, 7, 7, 7, 7, 7, 7, 7, 7, 7, 7, 7, 7, 7, 7, 7, 7, 7, 7, 7, 7, 7, 7, 7, 7, 7, 7, 7, 7, 7, 7, 7, 7, 7, 7, 7, 7, 7, 7, 7, 7, 7, 7, 7, 7, 7, 7, 7, 7, 7, 7, 7, 7, 7, 7, 7, 7, 7, 8, 8, 8, 8, 8, 8, 8, 8, 8, 8, 8, 8, 8, 8, 8, 8, 8, 8, 8, 8, 8, 8, 8, 8, 8, 8, 8, 8, 8, 8, 8, 8, 8, 8, 8, 8, 8, 8, 8, 8, 8, 8, 8, 8, 8, 8, 8, 8, 8, 8, 8, 8, 8, 8, 8, 8, 8, 8, 8, 8, 8, 8, 8, 8, 8, 8, 8, 8, 8, 8, 8, 8, 8, 8, 8, 8, 8, 8, 8, 8, 8, 8, 8, 8, 8, 8, 8, 8, 8, 8, 8, 8, 8, 8, 8, 8, 8, 8, 8, 8, 8, 8, 8, 8, 8, 8, 8, 8, 8, 8, 8, 8, 8, 8, 8, 8, 8, 8, 8, 8, 8, 8, 8, 8, 8, 8, 8, 8]⟩ : ByteArray) (((a0 / 65536) / 256) % 256)))))) else (none)) else (none)) else (if 0 ≤ ((a0 / 65536) % 256) then (if ((a0 / 65536) % 256) < 256 then (some (wrap64 (16 + (wrap64 (bt (⟨#[0, 1, 2, 2, 3, 3, 3, 3, 4, 4, 4, 4, 4, 4, 4, 4, 5, 5, 5, 5, 5, 5, 5, 5, 5, 5, 5, 5, 5, 5, 5, 5, 6, 6, 6, 6, 6, 6, 6, 6, 6, 6, 6, 6, 6, 6, 6, 6, 6, 6, 6, 6, 6, 6, 6, 6, 6, 6, 6, 6, 6, 6, 6, 6, 7, 7, 7, 7, 7, 7, 7, 7, 7, 7, 7, 7, 7, 7, 7, 7, 7, 7, 7, 7, 7, 7, 7, 7, 7, 7, 7, 7, 7, 7, 7, 7, 7, 7, 7, 7, 7, 7, 7, 7, 7, 7, 7, 7, 7, 7, 7, 7, 7, 7, 7, 7, 7, 7, 7, 7, 7, 7, 7, 7, 7, 7, 7, 7, 8, 8, 8, 8, 8, 8, 8, 8, 8, 8, 8, 8, 8, 8, 8, 8, 8, 8, 8, 8, 8, 8, 8, 8, 8, 8, 8, 8, 8, 8, 8, 8, 8, 8, 8, 8, 8, 8, 8, 8, 8, 8, 8, 8, 8, 8, 8, 8, 8, 8, 8, 8, 8, 8, 8, 8, 8, 8, 8, 8, 8, 8, 8, 8, 8, 8, 8, 8, 8, 8, 8, 8, 8, 8, 8, 8, 8, 8, 8, 8, 8, 8, 8, 8, 8, 8, 8, 8, 8, 8, 8, 8, 8, 8, 8, 8, 8, 8, 8, 8, 8, 8, 8, 8, 8, 8, 8, 8, 8, 8, 8, 8, 8, 8, 8, 8, 8, 8, 8, 8, 8, 8, 8, 8, 8, 8, 8, 8]⟩ : ByteArray) ((a0 / 65536) % 256)))))) else (none)) else (none))) else (if a0 ≥ 256 then (if 0 ≤ ((a0 / 256) % 256) then (if ((a0 / 256) % 256) < 256 then (some (wrap64 ((0 + 8) + (wrap64 (bt (⟨#[0, 1, 2, 2, 3, 3, 3, 3, 4, 4, 4, 4, 4, 4, 4, 4, 5, 5, 5, 5, 5, 5, 5, 5, 5, 5, 5, 5, 5, 5, 5, 5, 6, 6, 6, 6, 6, 6, 6, 6, 6, 6, 6, 6, 6, 6, 6, 6, 6, 6, 6, 6, 6, 6, 6, 6, 6, 6, 6, 6, 6, 6, 6, 6, 7, 7, 7, 7, 7, 7, 7, 7, 7, 7, 7, 7, 7, 7, 7, 7, 7, 7, 7, 7, 7, 7, 7, 7, 7, 7, 7, 7, 7, 7, 7, 7, 7, 7, 7, 7, 7, 7, 7, 7, 7, 7, 7, 7, 7, 7, 7, 7, 7, 7, 7, 7, 7, 7, 7, 7, 7, 7, 7, 7, 7, 7, 7, 7, 8, 8, 8, 8, 8, 8, 8, 8, 8, 8, 8, 8, 8, 8, 8, 8, 8, 8, 8, 8, 8, 8, 8, 8, 8, 8, 8, 8, 8, 8, 8, 8, 8, 8, 8, 8, 8, 8, 8, 8, 8, 8, 8, 8, 8, 8, 8, 8, 8, 8, 8, 8, 8, 8, 8, 8, 8, 8, 8, 8, 8, 8, 8, 8, 8, 8, 8, 8, 8, 8, 8, 8, 8, 8, 8, 8, 8, 8, 8, 8, 8, 8, 8, 8, 8, 8, 8, 8, 8, 8, 8, 8, 8, 8, 8, 8, 8, 8, 8, 8, 8, 8, 8, 8, 8, 8, 8, 8, 8, 8, 8, 8, 8, 8, 8, 8, 8, 8, 8, 8, 8, 8, 8, 8, 8, 8, 8, 8]⟩ : ByteArray) ((a0 / 256) % 256)))))) else (none)) else (none)) else (if 0 ≤ ((a0) % 256) then (if ((a0) % 256) < 256 then (some (wrap64 (0 + (wrap64 (bt (⟨#[0, 1, 2, 2, 3, 3, 3, 3, 4, 4, 4, 4, 4, 4, 4, 4, 5, 5, 5, 5, 5, 5, 5, 5, 5, 5, 5, 5, 5, 5, 5, 5, 6, 6, 6, 6, 6, 6, 6, 6, 6, 6, 6, 6, 6, 6, 6, 6, 6, 6, 6, 6, 6, 6, 6, 6, 6, 6, 6, 6, 6, 6, 6, 6, 7, 7, 7, 7, 7, 7, 7, 7, 7, 7, 7, 7, 7, 7, 7, 7, 7, 7, 7, 7, 7, 7, 7, 7, 7, 7, 7, 7, 7, 7, 7, 7, 7, 7, 7, 7, 7, 7, 7, 7, 7, 7, 7, 7, 7, 7, 7, 7, 7, 7, 7, 7, 7, 7, 7, 7, 7, 7, 7, 7, 7, 7, 7, 7, 8, 8, 8, 8, 8, 8, 8, 8, 8, 8, 8, 8, 8, 8, 8, 8, 8, 8, 8, 8, 8, 8, 8, 8, 8, 8, 8, 8, 8, 8, 8, 8, 8, 8, 8, 8, 8, 8, 8, 8, 8, 8, 8, 8, 8, 8, 8, 8, 8, 8, 8, 8, 8, 8, 8, 8, 8, 8, 8, 8, 8, 8, 8, 8, 8, 8, 8, 8, 8, 8, 8, 8, 8, 8, 8, 8, 8, 8, 8, 8, 8, 8, 8, 8, 8, 8, 8, 8, 8, 8, 8, 8, 8, 8, 8, 8, 8, 8, 8, 8, 8, 8, 8, 8, 8, 8, 8, 8, 8, 8, 8, 8, 8, 8, 8, 8, 8, 8, 8, 8, 8, 8, 8, 8, 8, 8, 8, 8]⟩ : ByteArray) ((a0) % 256)))))) else (none)) else (none)))
def bits_LeadingZeros32.f (a0 : Int) : Option (Int) := (bits_Len32.f a0).bind fun t162 => (some (wrap64 (32 - t162)))
def mag_divWord.l0 : Nat → List Int → Int → List Int → Int → Int → Option (List Int × Int)
 | 0, _, _, _, _, _ => none
 | k + 1, x0, x1, x6, x7, x8 => if x8 ≥ 0 then (if 0 ≤ x8 then (if x8 < (x0.length : Int) then (if (IntKind.u64.wrap (x1)) = 0 then (none) else (if x8 < (x6.length : Int) then (mag_divWord.l0 k x0 x1 (x6.set (x8 : Int).toNat ((IntKind.u64.wrap (Int.tdiv (Go.bits .or .u64 (IntKind.u64.wrap (x7 * 4294967296)) (IntKind.u64.wrap (rd x0 x8))) (IntKind.u64.wrap (x1)))) % 4294967296)) (Int.tmod (Go.bits .or .u64 (IntKind.u64.wrap (x7 * 4294967296)) (IntKind.u64.wrap (rd x0 x8))) (IntKind.u64.wrap (x1))) (wrap64 (x8 - 1))) else (none))) else (none)) else (none)) else ((mag_Trim.f k x6).bind fun t168 => (some (t168, (x7) % 4294967296)))
def mag_divWord.f (k : Nat) (l0 : List Int) (a1 : Int) : Option (List Int × Int) := if 0 ≤ (l0.length : Int) then (if ((l0.length : Int) : Int).toNat ≤ 70368744177664 then (mag_divWord.l0 k l0 a1 (List.replicate ((l0.length : Int) : Int).toNat 0) 0 (wrap64 ((l0.length : Int) - 1))) else (none)) else (none)
theorem mag_divWord.mono_l : ∀ k, (∀ y0 y1 y2 y3 y4, LeO (mag_divWord.l0 k y0 y1 y2 y3 y4) (mag_divWord.l0 (k + 1) y0 y1 y2 y3 y4))
 | 0 => fun _ _ _ _ _ r h => by simp [mag_divWord.l0] at h
 | k + 1 => by
  have ih0 := mag_divWord.mono_l k
  ·intro y0 y1 y2 y3 y4
   unfold mag_divWord.l0
   repeat' first
   | (with_reducible first | exact ih0 _ _ _ _ _ | exact mag_Trim.mono _ _ | exact LeO.refl _ | exact LeO.none _ | refine LeO.ite ?_ ?_ | refine LeO.bind ?_ (fun _ => ?_))
   | exact ih0 _ _ _ _ _
   | exact mag_Trim.mono _ _
   | exact LeO.none _
   | refine LeO.ite ?_ ?_
   | refine LeO.bind ?_ (fun _ => ?_)
theorem mag_divWord.mono : ∀ a0 a1 k, LeO (mag_divWord.f k a0 a1) (mag_divWord.f (k + 1) a0 a1) := by
 intro a0 a1 k
 have ih0 := mag_divWord.mono_l k
 unfold mag_divWord.f
 repeat' first
   | (with_reducible first | exact ih0 _ _ _ _ _ | exact mag_Trim.mono _ _ | exact LeO.refl _ | exact LeO.none _ | refine LeO.ite ?_ ?_ | refine LeO.bind ?_ (fun _ => ?_))
   | exact ih0 _ _ _ _ _
   | exact mag_Trim.mono _ _
   | exact LeO.none _
   | refine LeO.ite ?_ ?_
   | refine LeO.bind ?_ (fun _ => ?_)
def mag_subtract.l0 : Nat → List Int → List Int → Int → Int → Int → List Int → Int → Int → Option (Bool × List Int)
 | 0, _, _, _, _, _, _, _, _ => none
 | k + 1, x0, x1, x2, x7, x8, x13, x14, x15 => if x15 < x14 then (if 0 ≤ x15 then (if x15 < (x13.length : Int) then (if x15 < (x0.length : Int) then (mag_subtract.l0 k (x0.set (x15 : Int).toNat ((IntKind.u64.wrap ((IntKind.u64.wrap ((IntKind.u64.wrap (rd x0 x15)) - ((IntKind.u64.wrap (x7 + (IntKind.u64.wrap (x2 * (IntKind.u64.wrap (rd x13 x15)))))) % 4294967296))) - x8)) % 4294967296)) x1 x2 ((IntKind.u64.wrap (x7 + (IntKind.u64.wrap (x2 * (IntKind.u64.wrap (rd x13 x15)))))) / 4294967296) ((IntKind.u64.wrap ((IntKind.u64.wrap ((IntKind.u64.wrap (rd x0 x15)) - ((IntKind.u64.wrap (x7 + (IntKind.u64.wrap (x2 * (IntKind.u64.wrap (rd x13 x15)))))) % 4294967296))) - x8)) / 9223372036854775808) x13 x14 (wrap64 (x15 + 1))) else (none)) else (none)) else (none)) else (if 0 ≤ (x1.length : Int) then (if (x1.length : Int) < (x0.length : Int) then (some ((((IntKind.u64.wrap ((IntKind.u64.wrap ((IntKind.u64.wrap (rd x0 (x1.length : Int))) - x7)) - x8)) / 9223372036854775808) == 1), (x0.set ((x1.length : Int) : Int).toNat ((IntKind.u64.wrap ((IntKind.u64.wrap ((IntKind.u64.wrap (rd x0 (x1.length : Int))) - x7)) - x8)) % 4294967296)))) else (none)) else (none))
def mag_subtract.f (k : Nat) (l0 : List Int) (l1 : List Int) (a2 : Int) : Option (Bool × List Int) := mag_subtract.l0 k l0 l1 a2 0 0 l1 (l1.length : Int) 0
theorem mag_subtract.mono_l : ∀ k, (∀ y0 y1 y2 y3 y4 y5 y6 y7, LeO (mag_subtract.l0 k y0 y1 y2 y3 y4 y5 y6 y7) (mag_subtract.l0 (k + 1) y0 y1 y2 y3 y4 y5 y6 y7))
 | 0 => fun _ _ _ _ _ _ _ _ r h => by simp [mag_subtract.l0] at h
 | k + 1 => by
  have ih0 := mag_subtract.mono_l k
  ·intro y0 y1 y2 y3 y4 y5 y6 y7
   unfold mag_subtract.l0
   repeat' first
   | (with_reducible first | exact ih0 _ _ _ _ _ _ _ _ | exact LeO.refl _ | exact LeO.none _ | refine LeO.ite ?_ ?_ | refine LeO.bind ?_ (fun _ => ?_))
   | exact ih0 _ _ _ _ _ _ _ _
   | exact LeO.none _
   | refine LeO.ite ?_ ?_
   | refine LeO.bind ?_ (fun _ => ?_)
theorem mag_subtract.mono : ∀ a0 a1 a2 k, LeO (mag_subtract.f k a0 a1 a2) (mag_subtract.f (k + 1) a0 a1 a2) := by
 intro a0 a1 a2 k
 have ih0 := mag_subtract.mono_l k
 unfold mag_subtract.f
 repeat' first
   | (with_reducible first | exact ih0 _ _ _ _ _ _ _ _ | exact LeO.refl _ | exact LeO.none _ | refine LeO.ite ?_ ?_ | refine LeO.bind ?_ (fun _ => ?_))
   | exact ih0 _ _ _ _ _ _ _ _
   | exact LeO.none _
   | refine LeO.ite ?_ ?_
   | refine LeO.bind ?_ (fun _ => ?_)
def mag_subtractAt.f (k : Nat) (l0 : List Int) (b1_ b2_ : Int) (l1 : List Int) (a2 : Int) : Option (Bool × List Int) := (mag_subtract.f k ((l0.take b2_.toNat).drop b1_.toNat) l1 a2).bind fun p => some (p.1, l0.take b1_.toNat ++ p.2 ++ l0.drop b2_.toNat)
theorem mag_subtractAt.mono : ∀ (l0 : List Int) (b1_ b2_ : Int) (l1 : List Int) (a2 : Int) k, LeO (mag_subtractAt.f k l0 b1_ b2_ l1 a2) (mag_subtractAt.f (k + 1) l0 b1_ b2_ l1 a2) := by
 intro l0 b1_ b2_ l1 a2 k
 unfold mag_subtractAt.f
 exact LeO.bind (mag_subtract.mono _ _ _ _) (fun _ => LeO.refl _)
def mag_restore.l0 : Nat → List Int → List Int → Int → List Int → Int → Int → Option (List Int)
 | 0, _, _, _, _, _, _ => none
 | k + 1, x0, x1, x4, x7, x8, x9 => if x9 < x8 then (if 0 ≤ x9 then (if x9 < (x7.length : Int) then (if x9 < (x0.length : Int) then (mag_restore.l0 k (x0.set (x9 : Int).toNat ((IntKind.u64.wrap (x4 + (IntKind.u64.wrap ((IntKind.u64.wrap (rd x0 x9)) + (IntKind.u64.wrap (rd x7 x9)))))) % 4294967296)) x1 ((IntKind.u64.wrap (x4 + (IntKind.u64.wrap ((IntKind.u64.wrap (rd x0 x9)) + (IntKind.u64.wrap (rd x7 x9)))))) / 4294967296) x7 x8 (wrap64 (x9 + 1))) else (none)) else (none)) else (none)) else (if 0 ≤ (x1.length : Int) then (if (x1.length : Int) < (x0.length : Int) then (some (x0.set ((x1.length : Int) : Int).toNat (((rd x0 (x1.length : Int)) + ((x4) % 4294967296)) % 4294967296))) else (none)) else (none))
def mag_restore.f (k : Nat) (l0 : List Int) (l1 : List Int) : Option (List Int) := mag_restore.l0 k l0 l1 0 l1 (l1.length : Int) 0
theorem mag_restore.mono_l : ∀ k, (∀ y0 y1 y2 y3 y4 y5, LeO (mag_restore.l0 k y0 y1 y2 y3 y4 y5) (mag_restore.l0 (k + 1) y0 y1 y2 y3 y4 y5))
 | 0 => fun _ _ _ _ _ _ r h => by simp [mag_restore.l0] at h
 | k + 1 => by
  have ih0 := mag_restore.mono_l k
  ·intro y0 y1 y2 y3 y4 y5
   unfold mag_restore.l0
   repeat' first
   | (with_reducible first | exact ih0 _ _ _ _ _ _ | exact LeO.refl _ | exact LeO.none _ | refine LeO.ite ?_ ?_ | refine LeO.bind ?_ (fun _ => ?_))
   | exact ih0 _ _ _ _ _ _
   | exact LeO.none _
   | refine LeO.ite ?_ ?_
   | refine LeO.bind ?_ (fun _ => ?_)
theorem mag_restore.mono : ∀ a0 a1 k, LeO (mag_restore.f k a0 a1) (mag_restore.f (k + 1) a0 a1) := by
 intro a0 a1 k
 have ih0 := mag_restore.mono_l k
 unfold mag_restore.f
 repeat' first
   | (with_reducible first | exact ih0 _ _ _ _ _ _ | exact LeO.refl _ | exact LeO.none _ | refine LeO.ite ?_ ?_ | refine LeO.bind ?_ (fun _ => ?_))
   | exact ih0 _ _ _ _ _ _
   | exact LeO.none _
   | refine LeO.ite ?_ ?_
   | refine LeO.bind ?_ (fun _ => ?_)
def mag_restoreAt.f (k : Nat) (l0 : List Int) (b1_ b2_ : Int) (l1 : List Int) : Option (List Int) := (mag_restore.f k ((l0.take b2_.toNat).drop b1_.toNat) l1).bind fun p => some (l0.take b1_.toNat ++ p ++ l0.drop b2_.toNat)
theorem mag_restoreAt.mono : ∀ (l0 : List Int) (b1_ b2_ : Int) (l1 : List Int) k, LeO (mag_restoreAt.f k l0 b1_ b2_ l1) (mag_restoreAt.f (k + 1) l0 b1_ b2_ l1) := by
 intro l0 b1_ b2_ l1 k
 unfold mag_restoreAt.f
 exact LeO.bind (mag_restore.mono _ _ _) (fun _ => LeO.refl _)
mutual
def mag_DivMod.l0 : Nat → List Int → Int → List Int → List Int → Int → Int → Int → Int → Option (List Int × List Int)
 | 0, _, _, _, _, _, _, _, _ => none
 | k + 1, x4, x8, x9, x10, x11, x12, x13, x14 => if x14 ≥ 0 then (if 0 ≤ (wrap64 (x14 + x11)) then (if (wrap64 (x14 + x11)) < (x10.length : Int) then (if 0 ≤ (wrap64 ((wrap64 (x14 + x11)) - 1)) then (if (wrap64 ((wrap64 (x14 + x11)) - 1)) < (x10.length : Int) then (if x12 = 0 then (none) else (mag_DivMod.l1 k x4 x8 x9 x10 x11 x12 x13 x14 (IntKind.u64.wrap (Int.tdiv (Go.bits .or .u64 (IntKind.u64.wrap ((IntKind.u64.wrap (rd x10 (wrap64 (x14 + x11)))) * 4294967296)) (IntKind.u64.wrap (rd x10 (wrap64 ((wrap64 (x14 + x11)) - 1))))) x12)) (Int.tmod (Go.bits .or .u64 (IntKind.u64.wrap ((IntKind.u64.wrap (rd x10 (wrap64 (x14 + x11)))) * 4294967296)) (IntKind.u64.wrap (rd x10 (wrap64 ((wrap64 (x14 + x11)) - 1))))) x12))) else (none)) else (none)) else (none)) else (none)) else ((mag_Trim.f k x4).bind fun t210 => ((mag_Trim.f k x10).bind fun t213 => ((mag_Shr.f k t213 x8).bind fun t216 => (some (t210, t216)))))
def mag_DivMod.j3 : Nat → List Int → Int → List Int → List Int → Int → Int → Int → Int → Int → Option (List Int × List Int)
 | 0, _, _, _, _, _, _, _, _, _ => none
 | k + 1, x4, x8, x9, x10, x11, x12, x13, x14, x16 => if 0 ≤ x14 then (if x14 < (wrap64 ((wrap64 (x14 + x11)) + 1)) then (if (wrap64 ((wrap64 (x14 + x11)) + 1)) ≤ (x10.length : Int) then ((mag_subtractAt.f k x10 x14 (wrap64 ((wrap64 (x14 + x11)) + 1)) x9 x16).bind fun bt223 => (if bt223.1 = true then ((mag_restoreAt.f k bt223.2 x14 (wrap64 ((wrap64 (x14 + x11)) + 1)) x9).bind fun t226 => (if x14 < (x4.length : Int) then (mag_DivMod.l0 k (x4.set (x14 : Int).toNat ((IntKind.u64.wrap (x16 - 1)) % 4294967296)) x8 x9 t226 x11 x12 x13 (wrap64 (x14 - 1))) else (none))) else (if x14 < (x4.length : Int) then (mag_DivMod.l0 k (x4.set (x14 : Int).toNat ((x16) % 4294967296)) x8 x9 bt223.2 x11 x12 x13 (wrap64 (x14 - 1))) else (none)))) else (none)) else (none)) else (none)
def mag_DivMod.l1 : Nat → List Int → Int → List Int → List Int → Int → Int → Int → Int → Int → Int → Option (List Int × List Int)
 | 0, _, _, _, _, _, _, _, _, _, _ => none
 | k + 1, x4, x8, x9, x10, x11, x12, x13, x14, x16, x17 => if x16 ≥ 4294967296 then (mag_DivMod.j2 k x4 x8 x9 x10 x11 x12 x13 x14 x16 x17 true) else (if 0 ≤ (wrap64 ((wrap64 (x14 + x11)) - 2)) then (if (wrap64 ((wrap64 (x14 + x11)) - 2)) < (x10.length : Int) then (mag_DivMod.j2 k x4 x8 x9 x10 x11 x12 x13 x14 x16 x17 (decide ((IntKind.u64.wrap (x16 * x13)) > (Go.bits .or .u64 (IntKind.u64.wrap (x17 * 4294967296)) (IntKind.u64.wrap (rd x10 (wrap64 ((wrap64 (x14 + x11)) - 2)))))))) else (none)) else (none))
def mag_DivMod.j2 : Nat → List Int → Int → List Int → List Int → Int → Int → Int → Int → Int → Int → Bool → Option (List Int × List Int)
 | 0, _, _, _, _, _, _, _, _, _, _, _ => none
 | k + 1, x4, x8, x9, x10, x11, x12, x13, x14, x16, x17, x127 => if x127 = true then (if (IntKind.u64.wrap (x17 + x12)) ≥ 4294967296 then (mag_DivMod.j3 k x4 x8 x9 x10 x11 x12 x13 x14 (IntKind.u64.wrap (x16 - 1))) else (mag_DivMod.l1 k x4 x8 x9 x10 x11 x12 x13 x14 (IntKind.u64.wrap (x16 - 1)) (IntKind.u64.wrap (x17 + x12)))) else (mag_DivMod.j3 k x4 x8 x9 x10 x11 x12 x13 x14 x16)
end
def mag_DivMod.f (k : Nat) (l0 : List Int) (l1 : List Int) : Option (List Int × List Int) := (mag_Cmp.f k l0 l1).bind fun t181 => (if t181 < 0 then (if ([] : List Int).length + l0.length < 35184372088832 then (some (([] : List Int), (([] : List Int) ++ l0))) else (none)) else (if (l1.length : Int) = 1 then (if 0 < (l1.length : Int) then ((mag_divWord.f k l0 (rd l1 0)).bind fun bt186 => ((mag_From.f k (IntKind.u64.wrap (bt186.2))).bind fun t190 => (some (bt186.1, t190)))) else (none)) else (if 0 ≤ (wrap64 ((l1.length : Int) - 1)) then (if (wrap64 ((l1.length : Int) - 1)) < (l1.length : Int) then ((bits_LeadingZeros32.f (rd l1 (wrap64 ((l1.length : Int) - 1)))).bind fun t194 => ((mag_Shl.f k l1 t194).bind fun t195 => (if 0 ≤ (wrap64 ((l0.length : Int) + 1)) then (if (wrap64 ((l0.length : Int) + 1) : Int).toNat ≤ 70368744177664 then ((some (List.replicate (wrap64 ((l0.length : Int) + 1) : Int).toNat 0 : List Int)).bind fun y198 => ((mag_Shl.f k l0 t194).bind fun t201 => (if 0 ≤ (wrap64 ((y198.length : Int) - (t195.length : Int))) then (if (wrap64 ((y198.length : Int) - (t195.length : Int)) : Int).toNat ≤ 70368744177664 then (if 0 ≤ (wrap64 ((t195.length : Int) - 1)) then (if (wrap64 ((t195.length : Int) - 1)) < (t195.length : Int) then (if 0 ≤ (wrap64 ((t195.length : Int) - 2)) then (if (wrap64 ((t195.length : Int) - 2)) < (t195.length : Int) then (mag_DivMod.l0 k (List.replicate (wrap64 ((y198.length : Int) - (t195.length : Int)) : Int).toNat 0) t194 t195 (cpy y198 t201) (t195.length : Int) (IntKind.u64.wrap (rd t195 (wrap64 ((t195.length : Int) - 1)))) (IntKind.u64.wrap (rd t195 (wrap64 ((t195.length : Int) - 2)))) (wrap64 ((wrap64 ((y198.length : Int) - (t195.length : Int))) - 1))) else (none)) else (none)) else (none)) else (none)) else (none)) else (none)))) else (none)) else (none)))) else (none)) else (none))))
theorem mag_DivMod.mono_l : ∀ k, (∀ y0 y1 y2 y3 y4 y5 y6 y7, LeO (mag_DivMod.l0 k y0 y1 y2 y3 y4 y5 y6 y7) (mag_DivMod.l0 (k + 1) y0 y1 y2 y3 y4 y5 y6 y7)) ∧ (∀ y0 y1 y2 y3 y4 y5 y6 y7 y8, LeO (mag_DivMod.j3 k y0 y1 y2 y3 y4 y5 y6 y7 y8) (mag_DivMod.j3 (k + 1) y0 y1 y2 y3 y4 y5 y6 y7 y8)) ∧ (∀ y0 y1 y2 y3 y4 y5 y6 y7 y8 y9, LeO (mag_DivMod.l1 k y0 y1 y2 y3 y4 y5 y6 y7 y8 y9) (mag_DivMod.l1 (k + 1) y0 y1 y2 y3 y4 y5 y6 y7 y8 y9)) ∧ (∀ y0 y1 y2 y3 y4 y5 y6 y7 y8 y9 y10, LeO (mag_DivMod.j2 k y0 y1 y2 y3 y4 y5 y6 y7 y8 y9 y10) (mag_DivMod.j2 (k + 1) y0 y1 y2 y3 y4 y5 y6 y7 y8 y9 y10))
 | 0 => ⟨fun _ _ _ _ _ _ _ _ r h => by simp [mag_DivMod.l0] at h, fun _ _ _ _ _ _ _ _ _ r h => by simp [mag_DivMod.j3] at h, fun _ _ _ _ _ _ _ _ _ _ r h => by simp [mag_DivMod.l1] at h, fun _ _ _ _ _ _ _ _ _ _ _ r h => by simp [mag_DivMod.j2] at h⟩
 | k + 1 => by
  obtain ⟨ih0, ih1, ih2, ih3⟩ := mag_DivMod.mono_l k
  refine ⟨?_, ?_, ?_, ?_⟩
  ·intro y0 y1 y2 y3 y4 y5 y6 y7
   unfold mag_DivMod.l0
   repeat' first
   | (with_reducible first | exact ih0 _ _ _ _ _ _ _ _ | exact ih1 _ _ _ _ _ _ _ _ _ | exact ih2 _ _ _ _ _ _ _ _ _ _ | exact ih3 _ _ _ _ _ _ _ _ _ _ _ | exact mag_Cmp.mono _ _ _ | exact mag_From.mono _ _ | exact mag_Shl.mono _ _ _ | exact mag_Shr.mono _ _ _ | exact mag_Trim.mono _ _ | exact mag_divWord.mono _ _ _ | exact mag_restoreAt.mono _ _ _ _ _ | exact mag_subtractAt.mono _ _ _ _ _ _ | exact LeO.refl _ | exact LeO.none _ | refine LeO.ite ?_ ?_ | refine LeO.bind ?_ (fun _ => ?_))
   | exact ih0 _ _ _ _ _ _ _ _
   | exact ih1 _ _ _ _ _ _ _ _ _
   | exact ih2 _ _ _ _ _ _ _ _ _ _
   | exact ih3 _ _ _ _ _ _ _ _ _ _ _
   | exact mag_Cmp.mono _ _ _
   | exact mag_From.mono _ _
   | exact mag_Shl.mono _ _ _
   | exact mag_Shr.mono _ _ _
   | exact mag_Trim.mono _ _
   | exact mag_divWord.mono _ _ _
   | exact mag_restoreAt.mono _ _ _ _ _
   | exact mag_subtractAt.mono _ _ _ _ _ _
   | exact LeO.none _
   | refine LeO.ite ?_ ?_
   | refine LeO.bind ?_ (fun _ => ?_)
  ·intro y0 y1 y2 y3 y4 y5 y6 y7 y8
   unfold mag_DivMod.j3
   repeat' first
   | (with_reducible first | exact ih0 _ _ _ _ _ _ _ _ | exact ih1 _ _ _ _ _ _ _ _ _ | exact ih2 _ _ _ _ _ _ _ _ _ _ | exact ih3 _ _ _ _ _ _ _ _ _ _ _ | exact mag_Cmp.mono _ _ _ | exact mag_From.mono _ _ | exact mag_Shl.mono _ _ _ | exact mag_Shr.mono _ _ _ | exact mag_Trim.mono _ _ | exact mag_divWord.mono _ _ _ | exact mag_restoreAt.mono _ _ _ _ _ | exact mag_subtractAt.mono _ _ _ _ _ _ | exact LeO.refl _ | exact LeO.none _ | refine LeO.ite ?_ ?_ | refine LeO.bind ?_ (fun _ => ?_))
   | exact ih0 _ _ _ _ _ _ _ _
   | exact ih1 _ _ _ _ _ _ _ _ _
   | exact ih2 _ _ _ _ _ _ _ _ _ _
   | exact ih3 _ _ _ _ _ _ _ _ _ _ _
   | exact mag_Cmp.mono _ _ _
   | exact mag_From.mono _ _
   | exact mag_Shl.mono _ _ _
   | exact mag_Shr.mono _ _ _
   | exact mag_Trim.mono _ _
   | exact mag_divWord.mono _ _ _
   | exact mag_restoreAt.mono _ _ _ _ _
   | exact mag_subtractAt.mono _ _ _ _ _ _
   | exact LeO.none _
   | refine LeO.ite ?_ ?_
   | refine LeO.bind ?_ (fun _ => ?_)
  ·intro y0 y1 y2 y3 y4 y5 y6 y7 y8 y9
   unfold mag_DivMod.l1
   repeat' first
   | (with_reducible first | exact ih0 _ _ _ _ _ _ _ _ | exact ih1 _ _ _ _ _ _ _ _ _ | exact ih2 _ _ _ _ _ _ _ _ _ _ | exact ih3 _ _ _ _ _ _ _ _ _ _ _ | exact mag_Cmp.mono _ _ _ | exact mag_From.mono _ _ | exact mag_Shl.mono _ _ _ | exact mag_Shr.mono _ _ _ | exact mag_Trim.mono _ _ | exact mag_divWord.mono _ _ _ | exact mag_restoreAt.mono _ _ _ _ _ | exact mag_subtractAt.mono _ _ _ _ _ _ | exact LeO.refl _ | exact LeO.none _ | refine LeO.ite ?_ ?_ | refine LeO.bind ?_ (fun _ => ?_))
   | exact ih0 _ _ _ _ _ _ _ _
   | exact ih1 _ _ _ _ _ _ _ _ _
   | exact ih2 _ _ _ _ _ _ _ _ _ _
   | exact ih3 _ _ _ _ _ _ _ _ _ _ _
   | exact mag_Cmp.mono _ _ _
   | exact mag_From.mono _ _
   | exact mag_Shl.mono _ _ _
   | exact mag_Shr.mono _ _ _
   | exact mag_Trim.mono _ _
   | exact mag_divWord.mono _ _ _
   | exact mag_restoreAt.mono _ _ _ _ _
   | exact mag_subtractAt.mono _ _ _ _ _ _
   | exact LeO.none _
   | refine LeO.ite ?_ ?_
   | refine LeO.bind ?_ (fun _ => ?_)
  ·intro y0 y1 y2 y3 y4 y5 y6 y7 y8 y9 y10
   unfold mag_DivMod.j2
   repeat' first
   | (with_reducible first | exact ih0 _ _ _ _ _ _ _ _ | exact ih1 _ _ _ _ _ _ _ _ _ | exact ih2 _ _ _ _ _ _ _ _ _ _ | exact ih3 _ _ _ _ _ _ _ _ _ _ _ | exact mag_Cmp.mono _ _ _ | exact mag_From.mono _ _ | exact mag_Shl.mono _ _ _ | exact mag_Shr.mono _ _ _ | exact mag_Trim.mono _ _ | exact mag_divWord.mono _ _ _ | exact mag_restoreAt.mono _ _ _ _ _ | exact mag_subtractAt.mono _ _ _ _ _ _ | exact LeO.refl _ | exact LeO.none _ | refine LeO.ite ?_ ?_ | refine LeO.bind ?_ (fun _ => ?_))
   | exact ih0 _ _ _ _ _ _ _ _
   | exact ih1 _ _ _ _ _ _ _ _ _
   | exact ih2 _ _ _ _ _ _ _ _ _ _
   | exact ih3 _ _ _ _ _ _ _ _ _ _ _
   | exact mag_Cmp.mono _ _ _
   | exact mag_From.mono _ _
   | exact mag_Shl.mono _ _ _
   | exact mag_Shr.mono _ _ _
   | exact mag_Trim.mono _ _
   | exact mag_divWord.mono _ _ _
   | exact mag_restoreAt.mono _ _ _ _ _
   | exact mag_subtractAt.mono _ _ _ _ _ _
   | exact LeO.none _
   | refine LeO.ite ?_ ?_
   | refine LeO.bind ?_ (fun _ => ?_)
theorem mag_DivMod.mono : ∀ a0 a1 k, LeO (mag_DivMod.f k a0 a1) (mag_DivMod.f (k + 1) a0 a1) := by
 intro a0 a1 k
 obtain ⟨ih0, ih1, ih2, ih3⟩ := mag_DivMod.mono_l k
 unfold mag_DivMod.f
 repeat' first
   | (with_reducible first | exact ih0 _ _ _ _ _ _ _ _ | exact ih1 _ _ _ _ _ _ _ _ _ | exact ih2 _ _ _ _ _ _ _ _ _ _ | exact ih3 _ _ _ _ _ _ _ _ _ _ _ | exact mag_Cmp.mono _ _ _ | exact mag_From.mono _ _ | exact mag_Shl.mono _ _ _ | exact mag_Shr.mono _ _ _ | exact mag_Trim.mono _ _ | exact mag_divWord.mono _ _ _ | exact mag_restoreAt.mono _ _ _ _ _ | exact mag_subtractAt.mono _ _ _ _ _ _ | exact LeO.refl _ | exact LeO.none _ | refine LeO.ite ?_ ?_ | refine LeO.bind ?_ (fun _ => ?_))
   | exact ih0 _ _ _ _ _ _ _ _
   | exact ih1 _ _ _ _ _ _ _ _ _
   | exact ih2 _ _ _ _ _ _ _ _ _ _
   | exact ih3 _ _ _ _ _ _ _ _ _ _ _
   | exact mag_Cmp.mono _ _ _
   | exact mag_From.mono _ _
   | exact mag_Shl.mono _ _ _
   | exact mag_Shr.mono _ _ _
   | exact mag_Trim.mono _ _
   | exact mag_divWord.mono _ _ _
   | exact mag_restoreAt.mono _ _ _ _ _
   | exact mag_subtractAt.mono _ _ _ _ _ _
   | exact LeO.none _
   | refine LeO.ite ?_ ?_
   | refine LeO.bind ?_ (fun _ => ?_)
def mag_Small.f (l0 : List Int) : Option (Int × Bool) := if (l0.length : Int) = 0 then (some (0, true)) else (if (l0.length : Int) = 1 then (if 0 < (l0.length : Int) then (some (IntKind.u64.wrap (rd l0 0), true)) else (none)) else (if (l0.length : Int) = 2 then (if 1 < (l0.length : Int) then (if 0 < (l0.length : Int) then (some (Go.bits .or .u64 (IntKind.u64.wrap ((IntKind.u64.wrap (rd l0 1)) * 4294967296)) (IntKind.u64.wrap (rd l0 0)), true)) else (none)) else (none)) else (some (0, false))))
mutual
def nat_digits.l0 : Nat → Int → Int → List Int → Option (List Int)
 | 0, _, _, _ => none
 | k + 1, x0, x1, x5 => if x0 > 0 then (if x5.length < 140737488355328 then (nat_digits.l0 k (IntKind.u64.wrap (Int.tdiv x0 10)) x1 (x5 ++ [(IntKind.u64.wrap (48 + (Int.tmod x0 10))) % 256])) else (none)) else (if (x5.length : Int) < x1 then (if x5.length < 140737488355328 then (nat_digits.l0 k (IntKind.u64.wrap (Int.tdiv x0 10)) x1 (x5 ++ [(IntKind.u64.wrap (48 + (Int.tmod x0 10))) % 256])) else (none)) else (nat_digits.l1 k x5 0 (wrap64 ((x5.length : Int) - 1))))
def nat_digits.l1 : Nat → List Int → Int → Int → Option (List Int)
 | 0, _, _, _ => none
 | k + 1, x5, x6, x7 => if x6 < x7 then (if 0 ≤ x7 then (if x7 < (x5.length : Int) then (if 0 ≤ x6 then (if x6 < (x5.length : Int) then (nat_digits.l1 k ((x5.set (x6 : Int).toNat (rd x5 x7)).set (x7 : Int).toNat (rd x5 x6)) (wrap64 (x6 + 1)) (wrap64 (x7 - 1))) else (none)) else (none)) else (none)) else (none)) else (some x5)
end
def nat_digits.f (k : Nat) (a0 : Int) (a1 : Int) : Option (List Int) := nat_digits.l0 k a0 a1 ([] : List Int)
theorem nat_digits.mono_l : ∀ k, (∀ y0 y1 y2, LeO (nat_digits.l0 k y0 y1 y2) (nat_digits.l0 (k + 1) y0 y1 y2)) ∧ (∀ y0 y1 y2, LeO (nat_digits.l1 k y0 y1 y2) (nat_digits.l1 (k + 1) y0 y1 y2))
 | 0 => ⟨fun _ _ _ r h => by simp [nat_digits.l0] at h, fun _ _ _ r h => by simp [nat_digits.l1] at h⟩
 | k + 1 => by
  obtain ⟨ih0, ih1⟩ := nat_digits.mono_l k
  refine ⟨?_, ?_⟩
  ·intro y0 y1 y2
   unfold nat_digits.l0
   repeat' first
   | (with_reducible first | exact ih0 _ _ _ | exact ih1 _ _ _ | exact LeO.refl _ | exact LeO.none _ | refine LeO.ite ?_ ?_ | refine LeO.bind ?_ (fun _ => ?_))
   | exact ih0 _ _ _
   | exact ih1 _ _ _
   | exact LeO.none _
   | refine LeO.ite ?_ ?_
   | refine LeO.bind ?_ (fun _ => ?_)
  ·intro y0 y1 y2
   unfold nat_digits.l1
   repeat' first
   | (with_reducible first | exact ih0 _ _ _ | exact ih1 _ _ _ | exact LeO.refl _ | exact LeO.none _ | refine LeO.ite ?_ ?_ | refine LeO.bind ?_ (fun _ => ?_))
   | exact ih0 _ _ _
   | exact ih1 _ _ _
   | exact LeO.none _
   | refine LeO.ite ?_ ?_
   | refine LeO.bind ?_ (fun _ => ?_)
theorem nat_digits.mono : ∀ a0 a1 k, LeO (nat_digits.f k a0 a1) (nat_digits.f (k + 1) a0 a1) := by
 intro a0 a1 k
 obtain ⟨ih0, ih1⟩ := nat_digits.mono_l k
 unfold nat_digits.f
 repeat' first
   | (with_reducible first | exact ih0 _ _ _ | exact ih1 _ _ _ | exact LeO.refl _ | exact LeO.none _ | refine LeO.ite ?_ ?_ | refine LeO.bind ?_ (fun _ => ?_))
   | exact ih0 _ _ _
   | exact ih1 _ _ _
   | exact LeO.none _
   | refine LeO.ite ?_ ?_
   | refine LeO.bind ?_ (fun _ => ?_)
def nat_digits.T8 : Bool × List (List Nat × List Nat) := (true, [([], []), ([], []), ([], []), ([], []), ([], []), ([], []), ([4, 5], [4, 5]), ([6], [6]), ([], []), ([], []), ([8, 9], [8, 9]), ([10], [10]), ([0, 1, 0, 1, 4, 5, 6, 7, 11], [0, 1]), ([12, 7, 0, 1, 4, 5, 6, 7, 11], [7, 12]), ([2, 3, 0, 1, 2, 3, 4, 5, 6, 7, 8, 9, 10, 11, 12, 13], [2, 3]), ([14, 11, 13, 0, 1, 2, 3, 4, 5, 6, 7, 8, 9, 10, 11, 12, 13], [11, 14])])
def nat_digits.B8 : List Nat := [0, 0, 0, 0, 0, 0, 48, 112, 0, 0, 768, 1792, 4083, 8179, 16383, 32767]
mutual
def nat_Text.l0 : Nat → List Int → List Int → List Int → Option (ByteArray × Int)
 | 0, _, _, _ => none
 | k + 1, x0, x4, x5 => if (x0.length : Int) > 0 then ((mag_DivMod.f k x0 x5).bind fun bt246 => ((mag_Small.f bt246.2).bind fun bt252 => (if x4.length < 17592186044416 then (nat_Text.l0 k bt246.1 (x4 ++ [bt252.1]) x5) else (none)))) else (if 0 ≤ (wrap64 ((x4.length : Int) - 1)) then (if (wrap64 ((x4.length : Int) - 1)) < (x4.length : Int) then ((nat_digits.f k (rd x4 (wrap64 ((x4.length : Int) - 1))) 0).bind fun t258 => (nat_Text.l1 k x4 t258 (wrap64 ((x4.length : Int) - 2)))) else (none)) else (none))
def nat_Text.l1 : Nat → List Int → List Int → Int → Option (ByteArray × Int)
 | 0, _, _, _ => none
 | k + 1, x4, x10, x11 => if x11 ≥ 0 then (if 9 ≤ 281474976710656 then (if 0 ≤ x11 then (if x11 < (x4.length : Int) then ((nat_digits.f k (rd x4 x11) 9).bind fun t265 => ((some (cpy (List.replicate 9 0) t265 : List Int)).bind fun y268 => (if x10.length + y268.length < 140737488355328 then (nat_Text.l1 k x4 (x10 ++ y268) (wrap64 (x11 - 1))) else (none)))) else (none)) else (none)) else (none)) else (some (strOfNums x10, 0))
end
def nat_Text.f (k : Nat) (l0 : List Int) : Option (ByteArray × Int) := (nat_Valid.f l0).bind fun t242 => (if t242 = true then (if (l0.length : Int) = 0 then (some ((⟨#[48]⟩ : ByteArray), 0)) else ((mag_From.f k 1000000000).bind fun t243 => (nat_Text.l0 k l0 ([] : List Int) t243))) else (some ((⟨#[]⟩ : ByteArray), 3)))
theorem nat_Text.mono_l : ∀ k, (∀ y0 y1 y2, LeO (nat_Text.l0 k y0 y1 y2) (nat_Text.l0 (k + 1) y0 y1 y2)) ∧ (∀ y0 y1 y2, LeO (nat_Text.l1 k y0 y1 y2) (nat_Text.l1 (k + 1) y0 y1 y2))
 | 0 => ⟨fun _ _ _ r h => by simp [nat_Text.l0] at h, fun _ _ _ r h => by simp [nat_Text.l1] at h⟩
 | k + 1 => by
  obtain ⟨ih0, ih1⟩ := nat_Text.mono_l k
  refine ⟨?_, ?_⟩
  ·intro y0 y1 y2
   unfold nat_Text.l0
   repeat' first
   | (with_reducible first | exact ih0 _ _ _ | exact ih1 _ _ _ | exact mag_DivMod.mono _ _ _ | exact mag_From.mono _ _ | exact nat_digits.mono _ _ _ | exact LeO.refl _ | exact LeO.none _ | refine LeO.ite ?_ ?_ | refine LeO.bind ?_ (fun _ => ?_))
   | exact ih0 _ _ _
   | exact ih1 _ _ _
   | exact mag_DivMod.mono _ _ _
   | exact mag_From.mono _ _
   | exact nat_digits.mono _ _ _
   | exact LeO.none _
   | refine LeO.ite ?_ ?_
   | refine LeO.bind ?_ (fun _ => ?_)
  ·intro y0 y1 y2
   unfold nat_Text.l1
   repeat' first
   | (with_reducible first | exact ih0 _ _ _ | exact ih1 _ _ _ | exact mag_DivMod.mono _ _ _ | exact mag_From.mono _ _ | exact nat_digits.mono _ _ _ | exact LeO.refl _ | exact LeO.none _ | refine LeO.ite ?_ ?_ | refine LeO.bind ?_ (fun _ => ?_))
   | exact ih0 _ _ _
   | exact ih1 _ _ _
   | exact mag_DivMod.mono _ _ _
   | exact mag_From.mono _ _
   | exact nat_digits.mono _ _ _
   | exact LeO.none _
   | refine LeO.ite ?_ ?_
   | refine LeO.bind ?_ (fun _ => ?_)
theorem nat_Text.mono : ∀ a0 k, LeO (nat_Text.f k a0) (nat_Text.f (k + 1) a0) := by
 intro a0 k
 obtain ⟨ih0, ih1⟩ := nat_Text.mono_l k
 unfold nat_Text.f
 repeat' first
   | (with_reducible first | exact ih0 _ _ _ | exact ih1 _ _ _ | exact mag_DivMod.mono _ _ _ | exact mag_From.mono _ _ | exact nat_digits.mono _ _ _ | exact LeO.refl _ | exact LeO.none _ | refine LeO.ite ?_ ?_ | refine LeO.bind ?_ (fun _ => ?_))
   | exact ih0 _ _ _
   | exact ih1 _ _ _
   | exact mag_DivMod.mono _ _ _
   | exact mag_From.mono _ _
   | exact nat_digits.mono _ _ _
   | exact LeO.none _
   | refine LeO.ite ?_ ?_
   | refine LeO.bind ?_ (fun _ => ?_)
def slices_Equal_uint32_uint32.l0 : Nat → List Int → List Int → Int → Int → Option (Bool)
 | 0, _, _, _, _ => none
 | k + 1, x0, x1, x12, x13 => if x13 < x12 then (if 0 ≤ x13 then (if x13 < (x0.length : Int) then (if x13 < (x1.length : Int) then (if (rd x0 x13) = (rd x1 x13) then (slices_Equal_uint32_uint32.l0 k x0 x1 x12 (wrap64 (x13 + 1))) else (some false)) else (none)) else (none)) else (none)) else (some true)
def slices_Equal_uint32_uint32.f (k : Nat) (l0 : List Int) (l1 : List Int) : Option (Bool) := if (l0.length : Int) = (l1.length : Int) then (slices_Equal_uint32_uint32.l0 k l0 l1 (l0.length : Int) 0) else (some false)
theorem slices_Equal_uint32_uint32.mono_l : ∀ k, (∀ y0 y1 y2 y3, LeO (slices_Equal_uint32_uint32.l0 k y0 y1 y2 y3) (slices_Equal_uint32_uint32.l0 (k + 1) y0 y1 y2 y3))
 | 0 => fun _ _ _ _ r h => by simp [slices_Equal_uint32_uint32.l0] at h
 | k + 1 => by
  have ih0 := slices_Equal_uint32_uint32.mono_l k
  ·intro y0 y1 y2 y3
   unfold slices_Equal_uint32_uint32.l0
   repeat' first
   | (with_reducible first | exact ih0 _ _ _ _ | exact LeO.refl _ | exact LeO.none _ | refine LeO.ite ?_ ?_ | refine LeO.bind ?_ (fun _ => ?_))
   | exact ih0 _ _ _ _
   | exact LeO.none _
   | refine LeO.ite ?_ ?_
   | refine LeO.bind ?_ (fun _ => ?_)
theorem slices_Equal_uint32_uint32.mono : ∀ a0 a1 k, LeO (slices_Equal_uint32_uint32.f k a0 a1) (slices_Equal_uint32_uint32.f (k + 1) a0 a1) := by
 intro a0 a1 k
 have ih0 := slices_Equal_uint32_uint32.mono_l k
 unfold slices_Equal_uint32_uint32.f
 repeat' first
   | (with_reducible first | exact ih0 _ _ _ _ | exact LeO.refl _ | exact LeO.none _ | refine LeO.ite ?_ ?_ | refine LeO.bind ?_ (fun _ => ?_))
   | exact ih0 _ _ _ _
   | exact LeO.none _
   | refine LeO.ite ?_ ?_
   | refine LeO.bind ?_ (fun _ => ?_)
def nat_DivMod.f (k : Nat) (l0 : List Int) (l1 : List Int) : Option (List Int × List Int × Int) := (nat_both.f l0 l1).bind fun t274 => (if t274 = true then (if (l1.length : Int) = 0 then (some (([] : List Int), ([] : List Int), 20)) else ((mag_DivMod.f k l0 l1).bind fun bt275 => (some (bt275.1, bt275.2, 0)))) else (some (([] : List Int), ([] : List Int), 3)))
theorem nat_DivMod.mono : ∀ a0 a1 k, LeO (nat_DivMod.f k a0 a1) (nat_DivMod.f (k + 1) a0 a1) := by
 intro a0 a1 k
 unfold nat_DivMod.f
 repeat' first
   | (with_reducible first | exact mag_DivMod.mono _ _ _ | exact LeO.refl _ | exact LeO.none _ | refine LeO.ite ?_ ?_ | refine LeO.bind ?_ (fun _ => ?_))
   | exact mag_DivMod.mono _ _ _
   | exact LeO.none _
   | refine LeO.ite ?_ ?_
   | refine LeO.bind ?_ (fun _ => ?_)
def isochronelaw01_awake.f (k : Nat)  : Option (Bool) := (nat_Add.f k (([4294967295] : List Int)) (([1] : List Int))).bind fun bt287 => ((nat_DivMod.f k (([7] : List Int)) (([2] : List Int))).bind fun bt297 => ((nat_Text.f k (([0, 1] : List Int))).bind fun bt307 => (if bt287.2 = 0 then (if bt297.2.2 = 0 then (if bt307.2 = 0 then ((slices_Equal_uint32_uint32.f k bt287.1 (([0, 1] : List Int))).bind fun t312 => (if t312 = true then ((slices_Equal_uint32_uint32.f k bt297.1 (([3] : List Int))).bind fun t316 => (if t316 = true then ((slices_Equal_uint32_uint32.f k bt297.2.1 (([1] : List Int))).bind fun t320 => (if t320 = true then (some (bt307.1.toList == ([52, 50, 57, 52, 57, 54, 55, 50, 57, 54] : List UInt8))) else (some false))) else (some false))) else (some false))) else (some false)) else (some false)) else (some false))))
theorem isochronelaw01_awake.mono : ∀ k, LeO (isochronelaw01_awake.f k ) (isochronelaw01_awake.f (k + 1) ) := by
 intro  k
 unfold isochronelaw01_awake.f
 repeat' first
   | (with_reducible first | exact nat_Add.mono _ _ _ | exact nat_DivMod.mono _ _ _ | exact nat_Text.mono _ _ | exact slices_Equal_uint32_uint32.mono _ _ _ | exact LeO.refl _ | exact LeO.none _ | refine LeO.ite ?_ ?_ | refine LeO.bind ?_ (fun _ => ?_))
   | exact nat_Add.mono _ _ _
   | exact nat_DivMod.mono _ _ _
   | exact nat_Text.mono _ _
   | exact slices_Equal_uint32_uint32.mono _ _ _
   | exact LeO.none _
   | refine LeO.ite ?_ ?_
   | refine LeO.bind ?_ (fun _ => ?_)
def isochroneref01_Valid.f (l0 : List Int) : Option (Bool) := if (l0.length : Int) ≤ 4096 then (if (l0.length : Int) = 0 then (some true) else (if 0 ≤ (wrap64 ((l0.length : Int) - 1)) then (if (wrap64 ((l0.length : Int) - 1)) < (l0.length : Int) then (some ((rd l0 (wrap64 ((l0.length : Int) - 1))) != 0)) else (none)) else (none))) else (some false)
def isochronelaw01_small.f (l0 : List Int) (l1 : List Int) (a2 : Int) : Option (Bool) := if (l0.length : Int) ≤ a2 then (if (l1.length : Int) ≤ a2 then ((isochroneref01_Valid.f l0).bind fun t322 => (if t322 = true then ((isochroneref01_Valid.f l1).bind fun t323 => (some t323)) else (some false))) else (some false)) else (some false)
def mag_Bits.f (l0 : List Int) : Option (Int) := if (l0.length : Int) = 0 then (some 0) else (if 0 ≤ (wrap64 ((l0.length : Int) - 1)) then (if (wrap64 ((l0.length : Int) - 1)) < (l0.length : Int) then ((bits_LeadingZeros32.f (rd l0 (wrap64 ((l0.length : Int) - 1)))).bind fun t325 => (some (wrap64 ((wrap64 (32 * (l0.length : Int))) - t325)))) else (none)) else (none))
def nat_Root.l0 : Nat → List Int → List Int → Option (List Int × Int)
 | 0, _, _ => none
 | k + 1, x0, x4 => (mag_DivMod.f k x0 x4).bind fun bt334 => ((mag_Add.f k x4 bt334.1).bind fun t340 => ((mag_Shr.f k t340 1).bind fun t343 => ((mag_Cmp.f k t343 x4).bind fun t346 => (if t346 ≥ 0 then ((nat_limited.f x4).bind fun bt347 => (some (bt347.1, bt347.2))) else (nat_Root.l0 k x0 t343)))))
def nat_Root.f (k : Nat) (l0 : List Int) : Option (List Int × Int) := (nat_Valid.f l0).bind fun t326 => (if t326 = true then (if (l0.length : Int) = 0 then (some (([] : List Int), 0)) else ((mag_Bits.f l0).bind fun t330 => ((mag_Shl.f k (([1] : List Int)) (wrap64 (Int.tdiv (wrap64 (t330 + 1)) 2))).bind fun t331 => (nat_Root.l0 k l0 t331)))) else (some (([] : List Int), 3)))
theorem nat_Root.mono_l : ∀ k, (∀ y0 y1, LeO (nat_Root.l0 k y0 y1) (nat_Root.l0 (k + 1) y0 y1))
 | 0 => fun _ _ r h => by simp [nat_Root.l0] at h
 | k + 1 => by
  have ih0 := nat_Root.mono_l k
  ·intro y0 y1
   unfold nat_Root.l0
   repeat' first
   | (with_reducible first | exact ih0 _ _ | exact mag_Add.mono _ _ _ | exact mag_Cmp.mono _ _ _ | exact mag_DivMod.mono _ _ _ | exact mag_Shl.mono _ _ _ | exact mag_Shr.mono _ _ _ | exact LeO.refl _ | exact LeO.none _ | refine LeO.ite ?_ ?_ | refine LeO.bind ?_ (fun _ => ?_))
   | exact ih0 _ _
   | exact mag_Add.mono _ _ _
   | exact mag_Cmp.mono _ _ _
   | exact mag_DivMod.mono _ _ _
   | exact mag_Shl.mono _ _ _
   | exact mag_Shr.mono _ _ _
   | exact LeO.none _
   | refine LeO.ite ?_ ?_
   | refine LeO.bind ?_ (fun _ => ?_)
theorem nat_Root.mono : ∀ a0 k, LeO (nat_Root.f k a0) (nat_Root.f (k + 1) a0) := by
 intro a0 k
 have ih0 := nat_Root.mono_l k
 unfold nat_Root.f
 repeat' first
   | (with_reducible first | exact ih0 _ _ | exact mag_Add.mono _ _ _ | exact mag_Cmp.mono _ _ _ | exact mag_DivMod.mono _ _ _ | exact mag_Shl.mono _ _ _ | exact mag_Shr.mono _ _ _ | exact LeO.refl _ | exact LeO.none _ | refine LeO.ite ?_ ?_ | refine LeO.bind ?_ (fun _ => ?_))
   | exact ih0 _ _
   | exact mag_Add.mono _ _ _
   | exact mag_Cmp.mono _ _ _
   | exact mag_DivMod.mono _ _ _
   | exact mag_Shl.mono _ _ _
   | exact mag_Shr.mono _ _ _
   | exact LeO.none _
   | refine LeO.ite ?_ ?_
   | refine LeO.bind ?_ (fun _ => ?_)
def isochroneref01_trim.l0 : Nat → List Int → Int → Option (List Int)
 | 0, _, _ => none
 | k + 1, x0, x3 => if x3 > 0 then (if 0 ≤ (wrap64 (x3 - 1)) then (if (wrap64 (x3 - 1)) < (x0.length : Int) then (if (rd x0 (wrap64 (x3 - 1))) = 0 then (isochroneref01_trim.l0 k x0 (wrap64 (x3 - 1))) else (if 0 ≤ x3 then (if x3 ≤ (x0.length : Int) then (some (x0.take (x3 : Int).toNat)) else (none)) else (none))) else (none)) else (none)) else (if 0 ≤ x3 then (if x3 ≤ (x0.length : Int) then (some (x0.take (x3 : Int).toNat)) else (none)) else (none))
def isochroneref01_trim.f (k : Nat) (l0 : List Int) : Option (List Int) := isochroneref01_trim.l0 k l0 (l0.length : Int)
theorem isochroneref01_trim.mono_l : ∀ k, (∀ y0 y1, LeO (isochroneref01_trim.l0 k y0 y1) (isochroneref01_trim.l0 (k + 1) y0 y1))
 | 0 => fun _ _ r h => by simp [isochroneref01_trim.l0] at h
 | k + 1 => by
  have ih0 := isochroneref01_trim.mono_l k
  ·intro y0 y1
   unfold isochroneref01_trim.l0
   repeat' first
   | (with_reducible first | exact ih0 _ _ | exact LeO.refl _ | exact LeO.none _ | refine LeO.ite ?_ ?_ | refine LeO.bind ?_ (fun _ => ?_))
   | exact ih0 _ _
   | exact LeO.none _
   | refine LeO.ite ?_ ?_
   | refine LeO.bind ?_ (fun _ => ?_)
theorem isochroneref01_trim.mono : ∀ a0 k, LeO (isochroneref01_trim.f k a0) (isochroneref01_trim.f (k + 1) a0) := by
 intro a0 k
 have ih0 := isochroneref01_trim.mono_l k
 unfold isochroneref01_trim.f
 repeat' first
   | (with_reducible first | exact ih0 _ _ | exact LeO.refl _ | exact LeO.none _ | refine LeO.ite ?_ ?_ | refine LeO.bind ?_ (fun _ => ?_))
   | exact ih0 _ _
   | exact LeO.none _
   | refine LeO.ite ?_ ?_
   | refine LeO.bind ?_ (fun _ => ?_)
mutual
def isochroneref01_Small.l0 : Nat → Int → Int → List Int → List Int → Int → Int → Option (List Int)
 | 0, _, _, _, _, _, _ => none
 | k + 1, x1, x2, x7, x14, x15, x16 => if x16 < x15 then (if 0 ≤ x16 then (if x16 < (x14.length : Int) then (if x7.length < 17592186044416 then (isochroneref01_Small.l0 k x1 (wrap64 (Int.tdiv (wrap64 (x2 + (wrap64 ((rd x14 x16) * x1)))) 10000)) (x7 ++ [Int.tmod (wrap64 (x2 + (wrap64 ((rd x14 x16) * x1)))) 10000]) x14 x15 (wrap64 (x16 + 1))) else (none)) else (none)) else (none)) else (isochroneref01_Small.l1 k x2 x7)
def isochroneref01_Small.l1 : Nat → Int → List Int → Option (List Int)
 | 0, _, _ => none
 | k + 1, x2, x7 => if x2 > 0 then (if x7.length < 17592186044416 then (isochroneref01_Small.l1 k (wrap64 (Int.tdiv x2 10000)) (x7 ++ [Int.tmod x2 10000])) else (none)) else ((isochroneref01_trim.f k x7).bind fun t368 => (some t368))
end
def isochroneref01_Small.f (k : Nat) (l0 : List Int) (a1 : Int) (a2 : Int) : Option (List Int) := if 0 ≤ (wrap64 ((l0.length : Int) + 2)) then (if (wrap64 ((l0.length : Int) + 2) : Int).toNat ≤ 35184372088832 then (isochroneref01_Small.l0 k a1 a2 (([] : List Int)) l0 (l0.length : Int) 0) else (none)) else (none)
theorem isochroneref01_Small.mono_l : ∀ k, (∀ y0 y1 y2 y3 y4 y5, LeO (isochroneref01_Small.l0 k y0 y1 y2 y3 y4 y5) (isochroneref01_Small.l0 (k + 1) y0 y1 y2 y3 y4 y5)) ∧ (∀ y0 y1, LeO (isochroneref01_Small.l1 k y0 y1) (isochroneref01_Small.l1 (k + 1) y0 y1))
 | 0 => ⟨fun _ _ _ _ _ _ r h => by simp [isochroneref01_Small.l0] at h, fun _ _ r h => by simp [isochroneref01_Small.l1] at h⟩
 | k + 1 => by
  obtain ⟨ih0, ih1⟩ := isochroneref01_Small.mono_l k
  refine ⟨?_, ?_⟩
  ·intro y0 y1 y2 y3 y4 y5
   unfold isochroneref01_Small.l0
   repeat' first
   | (with_reducible first | exact ih0 _ _ _ _ _ _ | exact ih1 _ _ | exact isochroneref01_trim.mono _ _ | exact LeO.refl _ | exact LeO.none _ | refine LeO.ite ?_ ?_ | refine LeO.bind ?_ (fun _ => ?_))
   | exact ih0 _ _ _ _ _ _
   | exact ih1 _ _
   | exact isochroneref01_trim.mono _ _
   | exact LeO.none _
   | refine LeO.ite ?_ ?_
   | refine LeO.bind ?_ (fun _ => ?_)
  ·intro y0 y1
   unfold isochroneref01_Small.l1
   repeat' first
   | (with_reducible first | exact ih0 _ _ _ _ _ _ | exact ih1 _ _ | exact isochroneref01_trim.mono _ _ | exact LeO.refl _ | exact LeO.none _ | refine LeO.ite ?_ ?_ | refine LeO.bind ?_ (fun _ => ?_))
   | exact ih0 _ _ _ _ _ _
   | exact ih1 _ _
   | exact isochroneref01_trim.mono _ _
   | exact LeO.none _
   | refine LeO.ite ?_ ?_
   | refine LeO.bind ?_ (fun _ => ?_)
theorem isochroneref01_Small.mono : ∀ a0 a1 a2 k, LeO (isochroneref01_Small.f k a0 a1 a2) (isochroneref01_Small.f (k + 1) a0 a1 a2) := by
 intro a0 a1 a2 k
 obtain ⟨ih0, ih1⟩ := isochroneref01_Small.mono_l k
 unfold isochroneref01_Small.f
 repeat' first
   | (with_reducible first | exact ih0 _ _ _ _ _ _ | exact ih1 _ _ | exact isochroneref01_trim.mono _ _ | exact LeO.refl _ | exact LeO.none _ | refine LeO.ite ?_ ?_ | refine LeO.bind ?_ (fun _ => ?_))
   | exact ih0 _ _ _ _ _ _
   | exact ih1 _ _
   | exact isochroneref01_trim.mono _ _
   | exact LeO.none _
   | refine LeO.ite ?_ ?_
   | refine LeO.bind ?_ (fun _ => ?_)
def isochroneref01_Of.l0 : Nat → List Int → List Int → Int → Option (List Int)
 | 0, _, _, _ => none
 | k + 1, x0, x3, x4 => if x4 ≥ 0 then (if 0 ≤ x4 then (if x4 < (x0.length : Int) then ((isochroneref01_Small.f k x3 65536 (wrap64 ((rd x0 x4) / 65536))).bind fun t375 => ((isochroneref01_Small.f k t375 65536 (wrap64 (Go.bits .and .u32 (rd x0 x4) 65535))).bind fun t379 => (isochroneref01_Of.l0 k x0 t379 (wrap64 (x4 - 1))))) else (none)) else (none)) else (some x3)
def isochroneref01_Of.f (k : Nat) (l0 : List Int) : Option (List Int) := isochroneref01_Of.l0 k l0 (([] : List Int)) (wrap64 ((l0.length : Int) - 1))
theorem isochroneref01_Of.mono_l : ∀ k, (∀ y0 y1 y2, LeO (isochroneref01_Of.l0 k y0 y1 y2) (isochroneref01_Of.l0 (k + 1) y0 y1 y2))
 | 0 => fun _ _ _ r h => by simp [isochroneref01_Of.l0] at h
 | k + 1 => by
  have ih0 := isochroneref01_Of.mono_l k
  ·intro y0 y1 y2
   unfold isochroneref01_Of.l0
   repeat' first
   | (with_reducible first | exact ih0 _ _ _ | exact isochroneref01_Small.mono _ _ _ _ | exact LeO.refl _ | exact LeO.none _ | refine LeO.ite ?_ ?_ | refine LeO.bind ?_ (fun _ => ?_))
   | exact ih0 _ _ _
   | exact isochroneref01_Small.mono _ _ _ _
   | exact LeO.none _
   | refine LeO.ite ?_ ?_
   | refine LeO.bind ?_ (fun _ => ?_)
theorem isochroneref01_Of.mono : ∀ a0 k, LeO (isochroneref01_Of.f k a0) (isochroneref01_Of.f (k + 1) a0) := by
 intro a0 k
 have ih0 := isochroneref01_Of.mono_l k
 unfold isochroneref01_Of.f
 repeat' first
   | (with_reducible first | exact ih0 _ _ _ | exact isochroneref01_Small.mono _ _ _ _ | exact LeO.refl _ | exact LeO.none _ | refine LeO.ite ?_ ?_ | refine LeO.bind ?_ (fun _ => ?_))
   | exact ih0 _ _ _
   | exact isochroneref01_Small.mono _ _ _ _
   | exact LeO.none _
   | refine LeO.ite ?_ ?_
   | refine LeO.bind ?_ (fun _ => ?_)
mutual
def isochroneref01_Add.l0 : Nat → List Int → List Int → List Int → Int → Int → Option (List Int)
 | 0, _, _, _, _, _ => none
 | k + 1, x0, x1, x5, x6, x7 => if x7 < (x0.length : Int) then (isochroneref01_Add.j1 k x0 x1 x5 x6 x7 true) else (if x7 < (x1.length : Int) then (isochroneref01_Add.j1 k x0 x1 x5 x6 x7 true) else (isochroneref01_Add.j1 k x0 x1 x5 x6 x7 (decide (x6 > 0))))
def isochroneref01_Add.j1 : Nat → List Int → List Int → List Int → Int → Int → Bool → Option (List Int)
 | 0, _, _, _, _, _, _ => none
 | k + 1, x0, x1, x5, x6, x7, x21 => if x21 = true then (if x7 < (x0.length : Int) then (if 0 ≤ x7 then (if x7 < (x1.length : Int) then (if x5.length < 17592186044416 then (isochroneref01_Add.l0 k x0 x1 (x5 ++ [Int.tmod (wrap64 ((wrap64 (x6 + (rd x0 x7))) + (rd x1 x7))) 10000]) (wrap64 (Int.tdiv (wrap64 ((wrap64 (x6 + (rd x0 x7))) + (rd x1 x7))) 10000)) (wrap64 (x7 + 1))) else (none)) else (if x5.length < 17592186044416 then (isochroneref01_Add.l0 k x0 x1 (x5 ++ [Int.tmod (wrap64 (x6 + (rd x0 x7))) 10000]) (wrap64 (Int.tdiv (wrap64 (x6 + (rd x0 x7))) 10000)) (wrap64 (x7 + 1))) else (none))) else (none)) else (if x7 < (x1.length : Int) then (if 0 ≤ x7 then (if x5.length < 17592186044416 then (isochroneref01_Add.l0 k x0 x1 (x5 ++ [Int.tmod (wrap64 (x6 + (rd x1 x7))) 10000]) (wrap64 (Int.tdiv (wrap64 (x6 + (rd x1 x7))) 10000)) (wrap64 (x7 + 1))) else (none)) else (none)) else (if x5.length < 17592186044416 then (isochroneref01_Add.l0 k x0 x1 (x5 ++ [Int.tmod x6 10000]) (wrap64 (Int.tdiv x6 10000)) (wrap64 (x7 + 1))) else (none)))) else (some x5)
end
def isochroneref01_Add.f (k : Nat) (l0 : List Int) (l1 : List Int) : Option (List Int) := isochroneref01_Add.l0 k l0 l1 ([] : List Int) 0 0
theorem isochroneref01_Add.mono_l : ∀ k, (∀ y0 y1 y2 y3 y4, LeO (isochroneref01_Add.l0 k y0 y1 y2 y3 y4) (isochroneref01_Add.l0 (k + 1) y0 y1 y2 y3 y4)) ∧ (∀ y0 y1 y2 y3 y4 y5, LeO (isochroneref01_Add.j1 k y0 y1 y2 y3 y4 y5) (isochroneref01_Add.j1 (k + 1) y0 y1 y2 y3 y4 y5))
 | 0 => ⟨fun _ _ _ _ _ r h => by simp [isochroneref01_Add.l0] at h, fun _ _ _ _ _ _ r h => by simp [isochroneref01_Add.j1] at h⟩
 | k + 1 => by
  obtain ⟨ih0, ih1⟩ := isochroneref01_Add.mono_l k
  refine ⟨?_, ?_⟩
  ·intro y0 y1 y2 y3 y4
   unfold isochroneref01_Add.l0
   repeat' first
   | (with_reducible first | exact ih0 _ _ _ _ _ | exact ih1 _ _ _ _ _ _ | exact LeO.refl _ | exact LeO.none _ | refine LeO.ite ?_ ?_ | refine LeO.bind ?_ (fun _ => ?_))
   | exact ih0 _ _ _ _ _
   | exact ih1 _ _ _ _ _ _
   | exact LeO.none _
   | refine LeO.ite ?_ ?_
   | refine LeO.bind ?_ (fun _ => ?_)
  ·intro y0 y1 y2 y3 y4 y5
   unfold isochroneref01_Add.j1
   repeat' first
   | (with_reducible first | exact ih0 _ _ _ _ _ | exact ih1 _ _ _ _ _ _ | exact LeO.refl _ | exact LeO.none _ | refine LeO.ite ?_ ?_ | refine LeO.bind ?_ (fun _ => ?_))
   | exact ih0 _ _ _ _ _
   | exact ih1 _ _ _ _ _ _
   | exact LeO.none _
   | refine LeO.ite ?_ ?_
   | refine LeO.bind ?_ (fun _ => ?_)
theorem isochroneref01_Add.mono : ∀ a0 a1 k, LeO (isochroneref01_Add.f k a0 a1) (isochroneref01_Add.f (k + 1) a0 a1) := by
 intro a0 a1 k
 obtain ⟨ih0, ih1⟩ := isochroneref01_Add.mono_l k
 unfold isochroneref01_Add.f
 repeat' first
   | (with_reducible first | exact ih0 _ _ _ _ _ | exact ih1 _ _ _ _ _ _ | exact LeO.refl _ | exact LeO.none _ | refine LeO.ite ?_ ?_ | refine LeO.bind ?_ (fun _ => ?_))
   | exact ih0 _ _ _ _ _
   | exact ih1 _ _ _ _ _ _
   | exact LeO.none _
   | refine LeO.ite ?_ ?_
   | refine LeO.bind ?_ (fun _ => ?_)
def isochroneref01_Int.l0 : Nat → Int → List Int → Option (List Int)
 | 0, _, _ => none
 | k + 1, x0, x3 => if x0 > 0 then (if x3.length < 17592186044416 then (isochroneref01_Int.l0 k (wrap64 (Int.tdiv x0 10000)) (x3 ++ [Int.tmod x0 10000])) else (none)) else (some x3)
def isochroneref01_Int.f (k : Nat) (a0 : Int) : Option (List Int) := isochroneref01_Int.l0 k a0 (([] : List Int))
theorem isochroneref01_Int.mono_l : ∀ k, (∀ y0 y1, LeO (isochroneref01_Int.l0 k y0 y1) (isochroneref01_Int.l0 (k + 1) y0 y1))
 | 0 => fun _ _ r h => by simp [isochroneref01_Int.l0] at h
 | k + 1 => by
  have ih0 := isochroneref01_Int.mono_l k
  ·intro y0 y1
   unfold isochroneref01_Int.l0
   repeat' first
   | (with_reducible first | exact ih0 _ _ | exact LeO.refl _ | exact LeO.none _ | refine LeO.ite ?_ ?_ | refine LeO.bind ?_ (fun _ => ?_))
   | exact ih0 _ _
   | exact LeO.none _
   | refine LeO.ite ?_ ?_
   | refine LeO.bind ?_ (fun _ => ?_)
theorem isochroneref01_Int.mono : ∀ a0 k, LeO (isochroneref01_Int.f k a0) (isochroneref01_Int.f (k + 1) a0) := by
 intro a0 k
 have ih0 := isochroneref01_Int.mono_l k
 unfold isochroneref01_Int.f
 repeat' first
   | (with_reducible first | exact ih0 _ _ | exact LeO.refl _ | exact LeO.none _ | refine LeO.ite ?_ ?_ | refine LeO.bind ?_ (fun _ => ?_))
   | exact ih0 _ _
   | exact LeO.none _
   | refine LeO.ite ?_ ?_
   | refine LeO.bind ?_ (fun _ => ?_)
def isochroneref01_Cmp.l0 : Nat → List Int → List Int → Int → Option (Int)
 | 0, _, _, _ => none
 | k + 1, x0, x1, x5 => if x5 ≥ 0 then (if 0 ≤ x5 then (if x5 < (x0.length : Int) then (if x5 < (x1.length : Int) then (if (rd x0 x5) = (rd x1 x5) then (isochroneref01_Cmp.l0 k x0 x1 (wrap64 (x5 - 1))) else (if (rd x0 x5) < (rd x1 x5) then (some (-1)) else (some 1))) else (none)) else (none)) else (none)) else (some 0)
def isochroneref01_Cmp.f (k : Nat) (l0 : List Int) (l1 : List Int) : Option (Int) := if (l0.length : Int) = (l1.length : Int) then (isochroneref01_Cmp.l0 k l0 l1 (wrap64 ((l0.length : Int) - 1))) else (if (l0.length : Int) < (l1.length : Int) then (some (-1)) else (some 1))
theorem isochroneref01_Cmp.mono_l : ∀ k, (∀ y0 y1 y2, LeO (isochroneref01_Cmp.l0 k y0 y1 y2) (isochroneref01_Cmp.l0 (k + 1) y0 y1 y2))
 | 0 => fun _ _ _ r h => by simp [isochroneref01_Cmp.l0] at h
 | k + 1 => by
  have ih0 := isochroneref01_Cmp.mono_l k
  ·intro y0 y1 y2
   unfold isochroneref01_Cmp.l0
   repeat' first
   | (with_reducible first | exact ih0 _ _ _ | exact LeO.refl _ | exact LeO.none _ | refine LeO.ite ?_ ?_ | refine LeO.bind ?_ (fun _ => ?_))
   | exact ih0 _ _ _
   | exact LeO.none _
   | refine LeO.ite ?_ ?_
   | refine LeO.bind ?_ (fun _ => ?_)
theorem isochroneref01_Cmp.mono : ∀ a0 a1 k, LeO (isochroneref01_Cmp.f k a0 a1) (isochroneref01_Cmp.f (k + 1) a0 a1) := by
 intro a0 a1 k
 have ih0 := isochroneref01_Cmp.mono_l k
 unfold isochroneref01_Cmp.f
 repeat' first
   | (with_reducible first | exact ih0 _ _ _ | exact LeO.refl _ | exact LeO.none _ | refine LeO.ite ?_ ?_ | refine LeO.bind ?_ (fun _ => ?_))
   | exact ih0 _ _ _
   | exact LeO.none _
   | refine LeO.ite ?_ ?_
   | refine LeO.bind ?_ (fun _ => ?_)
mutual
def isochroneref01_Mul.l0 : Nat → List Int → List Int → List Int → Int → Int → Option (List Int)
 | 0, _, _, _, _, _ => none
 | k + 1, x1, x5, x19, x20, x21 => if x21 < x20 then (if 0 ≤ x21 then (if x21 < (x19.length : Int) then (isochroneref01_Mul.l1 k x1 x5 x21 (rd x19 x21) 0 x19 x20 x21 x1 (x1.length : Int) 0) else (none)) else (none)) else ((isochroneref01_trim.f k x5).bind fun t410 => (some t410))
def isochroneref01_Mul.l1 : Nat → List Int → List Int → Int → Int → Int → List Int → Int → Int → List Int → Int → Int → Option (List Int)
 | 0, _, _, _, _, _, _, _, _, _, _, _ => none
 | k + 1, x1, x5, x6, x7, x8, x19, x20, x21, x26, x27, x28 => if x28 < x27 then (if 0 ≤ x28 then (if x28 < (x26.length : Int) then (if 0 ≤ (wrap64 (x6 + x28)) then (if (wrap64 (x6 + x28)) < (x5.length : Int) then (isochroneref01_Mul.l1 k x1 (x5.set ((wrap64 (x6 + x28)) : Int).toNat (Int.tmod (wrap64 (x8 + (wrap64 ((rd x5 (wrap64 (x6 + x28))) + (wrap64 (x7 * (rd x26 x28))))))) 10000)) x6 x7 (wrap64 (Int.tdiv (wrap64 (x8 + (wrap64 ((rd x5 (wrap64 (x6 + x28))) + (wrap64 (x7 * (rd x26 x28))))))) 10000)) x19 x20 x21 x26 x27 (wrap64 (x28 + 1))) else (none)) else (none)) else (none)) else (none)) else (isochroneref01_Mul.l2 k x1 x5 x8 (wrap64 (x6 + (x1.length : Int))) x19 x20 x21)
def isochroneref01_Mul.l2 : Nat → List Int → List Int → Int → Int → List Int → Int → Int → Option (List Int)
 | 0, _, _, _, _, _, _, _ => none
 | k + 1, x1, x5, x8, x11, x19, x20, x21 => if x8 > 0 then (if 0 ≤ x11 then (if x11 < (x5.length : Int) then (isochroneref01_Mul.l2 k x1 (x5.set (x11 : Int).toNat (Int.tmod (wrap64 (x8 + (rd x5 x11))) 10000)) (wrap64 (Int.tdiv (wrap64 (x8 + (rd x5 x11))) 10000)) (wrap64 (x11 + 1)) x19 x20 x21) else (none)) else (none)) else (isochroneref01_Mul.l0 k x1 x5 x19 x20 (wrap64 (x21 + 1)))
end
def isochroneref01_Mul.f (k : Nat) (l0 : List Int) (l1 : List Int) : Option (List Int) := if 0 ≤ (wrap64 ((wrap64 ((l0.length : Int) + (l1.length : Int))) + 1)) then (if (wrap64 ((wrap64 ((l0.length : Int) + (l1.length : Int))) + 1) : Int).toNat ≤ 35184372088832 then (isochroneref01_Mul.l0 k l1 (List.replicate (wrap64 ((wrap64 ((l0.length : Int) + (l1.length : Int))) + 1) : Int).toNat 0) l0 (l0.length : Int) 0) else (none)) else (none)
theorem isochroneref01_Mul.mono_l : ∀ k, (∀ y0 y1 y2 y3 y4, LeO (isochroneref01_Mul.l0 k y0 y1 y2 y3 y4) (isochroneref01_Mul.l0 (k + 1) y0 y1 y2 y3 y4)) ∧ (∀ y0 y1 y2 y3 y4 y5 y6 y7 y8 y9 y10, LeO (isochroneref01_Mul.l1 k y0 y1 y2 y3 y4 y5 y6 y7 y8 y9 y10) (isochroneref01_Mul.l1 (k + 1) y0 y1 y2 y3 y4 y5 y6 y7 y8 y9 y10)) ∧ (∀ y0 y1 y2 y3 y4 y5 y6, LeO (isochroneref01_Mul.l2 k y0 y1 y2 y3 y4 y5 y6) (isochroneref01_Mul.l2 (k + 1) y0 y1 y2 y3 y4 y5 y6))
 | 0 => ⟨fun _ _ _ _ _ r h => by simp [isochroneref01_Mul.l0] at h, fun _ _ _ _ _ _ _ _ _ _ _ r h => by simp [isochroneref01_Mul.l1] at h, fun _ _ _ _ _ _ _ r h => by simp [isochroneref01_Mul.l2] at h⟩
 | k + 1 => by
  obtain ⟨ih0, ih1, ih2⟩ := isochroneref01_Mul.mono_l k
  refine ⟨?_, ?_, ?_⟩
  ·intro y0 y1 y2 y3 y4
   unfold isochroneref01_Mul.l0
   repeat' first
   | (with_reducible first | exact ih0 _ _ _ _ _ | exact ih1 _ _ _ _ _ _ _ _ _ _ _ | exact ih2 _ _ _ _ _ _ _ | exact isochroneref01_trim.mono _ _ | exact LeO.refl _ | exact LeO.none _ | refine LeO.ite ?_ ?_ | refine LeO.bind ?_ (fun _ => ?_))
   | exact ih0 _ _ _ _ _
   | exact ih1 _ _ _ _ _ _ _ _ _ _ _
   | exact ih2 _ _ _ _ _ _ _
   | exact isochroneref01_trim.mono _ _
   | exact LeO.none _
   | refine LeO.ite ?_ ?_
   | refine LeO.bind ?_ (fun _ => ?_)
  ·intro y0 y1 y2 y3 y4 y5 y6 y7 y8 y9 y10
   unfold isochroneref01_Mul.l1
   repeat' first
   | (with_reducible first | exact ih0 _ _ _ _ _ | exact ih1 _ _ _ _ _ _ _ _ _ _ _ | exact ih2 _ _ _ _ _ _ _ | exact isochroneref01_trim.mono _ _ | exact LeO.refl _ | exact LeO.none _ | refine LeO.ite ?_ ?_ | refine LeO.bind ?_ (fun _ => ?_))
   | exact ih0 _ _ _ _ _
   | exact ih1 _ _ _ _ _ _ _ _ _ _ _
   | exact ih2 _ _ _ _ _ _ _
   | exact isochroneref01_trim.mono _ _
   | exact LeO.none _
   | refine LeO.ite ?_ ?_
   | refine LeO.bind ?_ (fun _ => ?_)
  ·intro y0 y1 y2 y3 y4 y5 y6
   unfold isochroneref01_Mul.l2
   repeat' first
   | (with_reducible first | exact ih0 _ _ _ _ _ | exact ih1 _ _ _ _ _ _ _ _ _ _ _ | exact ih2 _ _ _ _ _ _ _ | exact isochroneref01_trim.mono _ _ | exact LeO.refl _ | exact LeO.none _ | refine LeO.ite ?_ ?_ | refine LeO.bind ?_ (fun _ => ?_))
   | exact ih0 _ _ _ _ _
   | exact ih1 _ _ _ _ _ _ _ _ _ _ _
   | exact ih2 _ _ _ _ _ _ _
   | exact isochroneref01_trim.mono _ _
   | exact LeO.none _
   | refine LeO.ite ?_ ?_
   | refine LeO.bind ?_ (fun _ => ?_)
theorem isochroneref01_Mul.mono : ∀ a0 a1 k, LeO (isochroneref01_Mul.f k a0 a1) (isochroneref01_Mul.f (k + 1) a0 a1) := by
 intro a0 a1 k
 obtain ⟨ih0, ih1, ih2⟩ := isochroneref01_Mul.mono_l k
 unfold isochroneref01_Mul.f
 repeat' first
   | (with_reducible first | exact ih0 _ _ _ _ _ | exact ih1 _ _ _ _ _ _ _ _ _ _ _ | exact ih2 _ _ _ _ _ _ _ | exact isochroneref01_trim.mono _ _ | exact LeO.refl _ | exact LeO.none _ | refine LeO.ite ?_ ?_ | refine LeO.bind ?_ (fun _ => ?_))
   | exact ih0 _ _ _ _ _
   | exact ih1 _ _ _ _ _ _ _ _ _ _ _
   | exact ih2 _ _ _ _ _ _ _
   | exact isochroneref01_trim.mono _ _
   | exact LeO.none _
   | refine LeO.ite ?_ ?_
   | refine LeO.bind ?_ (fun _ => ?_)
def isochronelaw01_NatRoots.j0 : Nat → List Int → List Int → Bool → Option (Bool)
 | 0, _, _, _ => none
 | k + 1, x0, x3, x29 => if x29 = true then (some false) else ((isochroneref01_Of.f k x0).bind fun t426 => ((isochroneref01_Of.f k x3).bind fun t429 => ((isochroneref01_Int.f k 1).bind fun t432 => ((isochroneref01_Add.f k t429 t432).bind fun t435 => ((isochroneref01_Mul.f k t429 t429).bind fun t438 => ((isochroneref01_Cmp.f k t438 t426).bind fun t441 => (if t441 ≤ 0 then ((isochroneref01_Mul.f k t435 t435).bind fun t442 => ((isochroneref01_Cmp.f k t442 t426).bind fun t445 => (some (decide (t445 > 0))))) else (some false))))))))
def isochronelaw01_NatRoots.f (k : Nat) (l0 : List Int) : Option (Bool) := (isochronelaw01_awake.f k).bind fun t419 => (if t419 = true then ((isochronelaw01_small.f l0 ([] : List Int) 30).bind fun t420 => (if t420 = true then ((nat_Root.f k l0).bind fun bt421 => (if bt421.2 = 0 then ((isochroneref01_Valid.f bt421.1).bind fun t425 => (if t425 = true then (isochronelaw01_NatRoots.j0 k l0 bt421.1 (decide ((bt421.1.length : Int) > 16))) else (isochronelaw01_NatRoots.j0 k l0 bt421.1 true))) else (isochronelaw01_NatRoots.j0 k l0 bt421.1 true))) else (some true))) else (some false))
theorem isochronelaw01_NatRoots.mono_l : ∀ k, (∀ y0 y1 y2, LeO (isochronelaw01_NatRoots.j0 k y0 y1 y2) (isochronelaw01_NatRoots.j0 (k + 1) y0 y1 y2))
 | 0 => fun _ _ _ r h => by simp [isochronelaw01_NatRoots.j0] at h
 | k + 1 => by
  have ih0 := isochronelaw01_NatRoots.mono_l k
  ·intro y0 y1 y2
   unfold isochronelaw01_NatRoots.j0
   repeat' first
   | (with_reducible first | exact ih0 _ _ _ | exact isochronelaw01_awake.mono _ | exact isochroneref01_Add.mono _ _ _ | exact isochroneref01_Cmp.mono _ _ _ | exact isochroneref01_Int.mono _ _ | exact isochroneref01_Mul.mono _ _ _ | exact isochroneref01_Of.mono _ _ | exact nat_Root.mono _ _ | exact LeO.refl _ | exact LeO.none _ | refine LeO.ite ?_ ?_ | refine LeO.bind ?_ (fun _ => ?_))
   | exact ih0 _ _ _
   | exact isochronelaw01_awake.mono _
   | exact isochroneref01_Add.mono _ _ _
   | exact isochroneref01_Cmp.mono _ _ _
   | exact isochroneref01_Int.mono _ _
   | exact isochroneref01_Mul.mono _ _ _
   | exact isochroneref01_Of.mono _ _
   | exact nat_Root.mono _ _
   | exact LeO.none _
   | refine LeO.ite ?_ ?_
   | refine LeO.bind ?_ (fun _ => ?_)
theorem isochronelaw01_NatRoots.mono : ∀ a0 k, LeO (isochronelaw01_NatRoots.f k a0) (isochronelaw01_NatRoots.f (k + 1) a0) := by
 intro a0 k
 have ih0 := isochronelaw01_NatRoots.mono_l k
 unfold isochronelaw01_NatRoots.f
 repeat' first
   | (with_reducible first | exact ih0 _ _ _ | exact isochronelaw01_awake.mono _ | exact isochroneref01_Add.mono _ _ _ | exact isochroneref01_Cmp.mono _ _ _ | exact isochroneref01_Int.mono _ _ | exact isochroneref01_Mul.mono _ _ _ | exact isochroneref01_Of.mono _ _ | exact nat_Root.mono _ _ | exact LeO.refl _ | exact LeO.none _ | refine LeO.ite ?_ ?_ | refine LeO.bind ?_ (fun _ => ?_))
   | exact ih0 _ _ _
   | exact isochronelaw01_awake.mono _
   | exact isochroneref01_Add.mono _ _ _
   | exact isochroneref01_Cmp.mono _ _ _
   | exact isochroneref01_Int.mono _ _
   | exact isochroneref01_Mul.mono _ _ _
   | exact isochroneref01_Of.mono _ _
   | exact nat_Root.mono _ _
   | exact LeO.none _
   | refine LeO.ite ?_ ?_
   | refine LeO.bind ?_ (fun _ => ?_)
mutual
def mag_Mul.j0 : Nat → List Int → List Int → Bool → Option (List Int)
 | 0, _, _, _ => none
 | k + 1, x0, x1, x18 => if x18 = true then (some ([] : List Int)) else (if 0 ≤ (wrap64 ((x0.length : Int) + (x1.length : Int))) then (if (wrap64 ((x0.length : Int) + (x1.length : Int)) : Int).toNat ≤ 70368744177664 then (mag_Mul.l0 k x1 (List.replicate (wrap64 ((x0.length : Int) + (x1.length : Int)) : Int).toNat 0) x0 (x0.length : Int) 0) else (none)) else (none))
def mag_Mul.l0 : Nat → List Int → List Int → List Int → Int → Int → Option (List Int)
 | 0, _, _, _, _, _ => none
 | k + 1, x1, x5, x25, x26, x27 => if x27 < x26 then (if 0 ≤ x27 then (if x27 < (x25.length : Int) then (mag_Mul.l1 k x1 x5 x27 (rd x25 x27) 0 x25 x26 x27 x1 (x1.length : Int) 0) else (none)) else (none)) else ((mag_Trim.f k x5).bind fun t449 => (some t449))
def mag_Mul.l1 : Nat → List Int → List Int → Int → Int → Int → List Int → Int → Int → List Int → Int → Int → Option (List Int)
 | 0, _, _, _, _, _, _, _, _, _, _, _ => none
 | k + 1, x1, x5, x6, x7, x8, x25, x26, x27, x32, x33, x34 => if x34 < x33 then (if 0 ≤ x34 then (if x34 < (x32.length : Int) then (if 0 ≤ (wrap64 (x6 + x34)) then (if (wrap64 (x6 + x34)) < (x5.length : Int) then (mag_Mul.l1 k x1 (x5.set ((wrap64 (x6 + x34)) : Int).toNat ((IntKind.u64.wrap (x8 + (IntKind.u64.wrap ((IntKind.u64.wrap ((IntKind.u64.wrap (x7)) * (IntKind.u64.wrap (rd x32 x34)))) + (IntKind.u64.wrap (rd x5 (wrap64 (x6 + x34)))))))) % 4294967296)) x6 x7 ((IntKind.u64.wrap (x8 + (IntKind.u64.wrap ((IntKind.u64.wrap ((IntKind.u64.wrap (x7)) * (IntKind.u64.wrap (rd x32 x34)))) + (IntKind.u64.wrap (rd x5 (wrap64 (x6 + x34)))))))) / 4294967296) x25 x26 x27 x32 x33 (wrap64 (x34 + 1))) else (none)) else (none)) else (none)) else (none)) else (if 0 ≤ (wrap64 (x6 + (x1.length : Int))) then (if (wrap64 (x6 + (x1.length : Int))) < (x5.length : Int) then (mag_Mul.l0 k x1 (x5.set ((wrap64 (x6 + (x1.length : Int))) : Int).toNat ((x8) % 4294967296)) x25 x26 (wrap64 (x27 + 1))) else (none)) else (none))
end
def mag_Mul.f (k : Nat) (l0 : List Int) (l1 : List Int) : Option (List Int) := if (l0.length : Int) = 0 then (mag_Mul.j0 k l0 l1 true) else (mag_Mul.j0 k l0 l1 ((l1.length : Int) == 0))
theorem mag_Mul.mono_l : ∀ k, (∀ y0 y1 y2, LeO (mag_Mul.j0 k y0 y1 y2) (mag_Mul.j0 (k + 1) y0 y1 y2)) ∧ (∀ y0 y1 y2 y3 y4, LeO (mag_Mul.l0 k y0 y1 y2 y3 y4) (mag_Mul.l0 (k + 1) y0 y1 y2 y3 y4)) ∧ (∀ y0 y1 y2 y3 y4 y5 y6 y7 y8 y9 y10, LeO (mag_Mul.l1 k y0 y1 y2 y3 y4 y5 y6 y7 y8 y9 y10) (mag_Mul.l1 (k + 1) y0 y1 y2 y3 y4 y5 y6 y7 y8 y9 y10))
 | 0 => ⟨fun _ _ _ r h => by simp [mag_Mul.j0] at h, fun _ _ _ _ _ r h => by simp [mag_Mul.l0] at h, fun _ _ _ _ _ _ _ _ _ _ _ r h => by simp [mag_Mul.l1] at h⟩
 | k + 1 => by
  obtain ⟨ih0, ih1, ih2⟩ := mag_Mul.mono_l k
  refine ⟨?_, ?_, ?_⟩
  ·intro y0 y1 y2
   unfold mag_Mul.j0
   repeat' first
   | (with_reducible first | exact ih0 _ _ _ | exact ih1 _ _ _ _ _ | exact ih2 _ _ _ _ _ _ _ _ _ _ _ | exact mag_Trim.mono _ _ | exact LeO.refl _ | exact LeO.none _ | refine LeO.ite ?_ ?_ | refine LeO.bind ?_ (fun _ => ?_))
   | exact ih0 _ _ _
   | exact ih1 _ _ _ _ _
   | exact ih2 _ _ _ _ _ _ _ _ _ _ _
   | exact mag_Trim.mono _ _
   | exact LeO.none _
   | refine LeO.ite ?_ ?_
   | refine LeO.bind ?_ (fun _ => ?_)
  ·intro y0 y1 y2 y3 y4
   unfold mag_Mul.l0
   repeat' first
   | (with_reducible first | exact ih0 _ _ _ | exact ih1 _ _ _ _ _ | exact ih2 _ _ _ _ _ _ _ _ _ _ _ | exact mag_Trim.mono _ _ | exact LeO.refl _ | exact LeO.none _ | refine LeO.ite ?_ ?_ | refine LeO.bind ?_ (fun _ => ?_))
   | exact ih0 _ _ _
   | exact ih1 _ _ _ _ _
   | exact ih2 _ _ _ _ _ _ _ _ _ _ _
   | exact mag_Trim.mono _ _
   | exact LeO.none _
   | refine LeO.ite ?_ ?_
   | refine LeO.bind ?_ (fun _ => ?_)
  ·intro y0 y1 y2 y3 y4 y5 y6 y7 y8 y9 y10
   unfold mag_Mul.l1
   repeat' first
   | (with_reducible first | exact ih0 _ _ _ | exact ih1 _ _ _ _ _ | exact ih2 _ _ _ _ _ _ _ _ _ _ _ | exact mag_Trim.mono _ _ | exact LeO.refl _ | exact LeO.none _ | refine LeO.ite ?_ ?_ | refine LeO.bind ?_ (fun _ => ?_))
   | exact ih0 _ _ _
   | exact ih1 _ _ _ _ _
   | exact ih2 _ _ _ _ _ _ _ _ _ _ _
   | exact mag_Trim.mono _ _
   | exact LeO.none _
   | refine LeO.ite ?_ ?_
   | refine LeO.bind ?_ (fun _ => ?_)
theorem mag_Mul.mono : ∀ a0 a1 k, LeO (mag_Mul.f k a0 a1) (mag_Mul.f (k + 1) a0 a1) := by
 intro a0 a1 k
 obtain ⟨ih0, ih1, ih2⟩ := mag_Mul.mono_l k
 unfold mag_Mul.f
 repeat' first
   | (with_reducible first | exact ih0 _ _ _ | exact ih1 _ _ _ _ _ | exact ih2 _ _ _ _ _ _ _ _ _ _ _ | exact mag_Trim.mono _ _ | exact LeO.refl _ | exact LeO.none _ | refine LeO.ite ?_ ?_ | refine LeO.bind ?_ (fun _ => ?_))
   | exact ih0 _ _ _
   | exact ih1 _ _ _ _ _
   | exact ih2 _ _ _ _ _ _ _ _ _ _ _
   | exact mag_Trim.mono _ _
   | exact LeO.none _
   | refine LeO.ite ?_ ?_
   | refine LeO.bind ?_ (fun _ => ?_)
def nat_Mul.j0 : Nat → List Int → List Int → Bool → Option (List Int × Int)
 | 0, _, _, _ => none
 | k + 1, x0, x1, x11 => if x11 = true then (some (([] : List Int), 2)) else ((mag_Mul.f k x0 x1).bind fun t458 => ((nat_limited.f t458).bind fun bt461 => (some (bt461.1, bt461.2))))
def nat_Mul.f (k : Nat) (l0 : List Int) (l1 : List Int) : Option (List Int × Int) := (nat_both.f l0 l1).bind fun t457 => (if t457 = true then (if (l0.length : Int) > 0 then (if (l1.length : Int) > 0 then (nat_Mul.j0 k l0 l1 (decide ((wrap64 ((wrap64 ((l0.length : Int) + (l1.length : Int))) - 1)) > 4096))) else (nat_Mul.j0 k l0 l1 false)) else (nat_Mul.j0 k l0 l1 false)) else (some (([] : List Int), 3)))
theorem nat_Mul.mono_l : ∀ k, (∀ y0 y1 y2, LeO (nat_Mul.j0 k y0 y1 y2) (nat_Mul.j0 (k + 1) y0 y1 y2))
 | 0 => fun _ _ _ r h => by simp [nat_Mul.j0] at h
 | k + 1 => by
  have ih0 := nat_Mul.mono_l k
  ·intro y0 y1 y2
   unfold nat_Mul.j0
   repeat' first
   | (with_reducible first | exact ih0 _ _ _ | exact mag_Mul.mono _ _ _ | exact LeO.refl _ | exact LeO.none _ | refine LeO.ite ?_ ?_ | refine LeO.bind ?_ (fun _ => ?_))
   | exact ih0 _ _ _
   | exact mag_Mul.mono _ _ _
   | exact LeO.none _
   | refine LeO.ite ?_ ?_
   | refine LeO.bind ?_ (fun _ => ?_)
theorem nat_Mul.mono : ∀ a0 a1 k, LeO (nat_Mul.f k a0 a1) (nat_Mul.f (k + 1) a0 a1) := by
 intro a0 a1 k
 have ih0 := nat_Mul.mono_l k
 unfold nat_Mul.f
 repeat' first
   | (with_reducible first | exact ih0 _ _ _ | exact mag_Mul.mono _ _ _ | exact LeO.refl _ | exact LeO.none _ | refine LeO.ite ?_ ?_ | refine LeO.bind ?_ (fun _ => ?_))
   | exact ih0 _ _ _
   | exact mag_Mul.mono _ _ _
   | exact LeO.none _
   | refine LeO.ite ?_ ?_
   | refine LeO.bind ?_ (fun _ => ?_)
mutual
def isochronelaw01_NatLimits.l0 : Nat → Int → Int → List Int → Int → Int → Option (Bool)
 | 0, _, _, _, _, _ => none
 | k + 1, x1, x5, x6, x25, x26 => if x26 < x25 then (if 0 ≤ x26 then (if x26 < (x6.length : Int) then (isochronelaw01_NatLimits.l0 k x1 x5 (x6.set (x26 : Int).toNat 4294967295) x25 (wrap64 (x26 + 1))) else (none)) else (none)) else ((nat_Add.f k x6 (([Go.bits .or .u32 x1 1] : List Int))).bind fun bt473 => (if x5 = 4096 then (if bt473.2 = 2 then (if (bt473.1.length : Int) > 0 then (some false) else (isochronelaw01_NatLimits.j1 k x5)) else (some false)) else (if bt473.2 = 0 then (if (bt473.1.length : Int) = (wrap64 (x5 + 1)) then (if 0 < (bt473.1.length : Int) then (if (rd bt473.1 0) = (((Go.bits .or .u32 x1 1) - 1) % 4294967296) then (if 0 ≤ x5 then (if x5 < (bt473.1.length : Int) then (if (rd bt473.1 x5) = 1 then (isochronelaw01_NatLimits.j1 k x5) else (some false)) else (none)) else (none)) else (some false)) else (none)) else (some false)) else (some false))))
def isochronelaw01_NatLimits.j1 : Nat → Int → Option (Bool)
 | 0, _ => none
 | k + 1, x5 => if 0 ≤ x5 then (if (x5 : Int).toNat ≤ 70368744177664 then ((some (List.replicate (x5 : Int).toNat 0 : List Int)).bind fun y479 => (if 0 ≤ (wrap64 (x5 - 1)) then (if (wrap64 (x5 - 1)) < (y479.length : Int) then ((some (y479.set ((wrap64 (x5 - 1)) : Int).toNat 1 : List Int)).bind fun y482 => ((nat_Mul.f k y482 y482).bind fun bt483 => (if (wrap64 ((wrap64 (2 * x5)) - 1)) > 4096 then (if bt483.2 = 2 then (some ((bt483.1.length : Int) == 0)) else (some false)) else (if bt483.2 = 0 then (isochronelaw01_NatLimits.j2 k x5 bt483.1 ((bt483.1.length : Int) != (wrap64 ((wrap64 (2 * x5)) - 1)))) else (isochronelaw01_NatLimits.j2 k x5 bt483.1 true))))) else (none)) else (none))) else (none)) else (none)
def isochronelaw01_NatLimits.j2 : Nat → Int → List Int → Bool → Option (Bool)
 | 0, _, _, _ => none
 | k + 1, x5, x12, x107 => if x107 = true then (some false) else (isochronelaw01_NatLimits.l1 k x5 x12 (x12.length : Int) 0)
def isochronelaw01_NatLimits.l1 : Nat → Int → List Int → Int → Int → Option (Bool)
 | 0, _, _, _, _ => none
 | k + 1, x5, x108, x109, x110 => if x110 < x109 then (if 0 ≤ x110 then (if x110 < (x108.length : Int) then (if x110 < (wrap64 ((wrap64 (2 * x5)) - 2)) then (if (rd x108 x110) = 0 then (if x110 = (wrap64 ((wrap64 (2 * x5)) - 2)) then (if (rd x108 x110) = 1 then (isochronelaw01_NatLimits.l1 k x5 x108 x109 (wrap64 (x110 + 1))) else (some false)) else (isochronelaw01_NatLimits.l1 k x5 x108 x109 (wrap64 (x110 + 1)))) else (some false)) else (if x110 = (wrap64 ((wrap64 (2 * x5)) - 2)) then (if (rd x108 x110) = 1 then (isochronelaw01_NatLimits.l1 k x5 x108 x109 (wrap64 (x110 + 1))) else (some false)) else (isochronelaw01_NatLimits.l1 k x5 x108 x109 (wrap64 (x110 + 1))))) else (none)) else (none)) else (some true)
end
def isochronelaw01_NatLimits.f (k : Nat) (a0 : Int) (a1 : Int) : Option (Bool) := (isochronelaw01_awake.f k).bind fun t465 => (if t465 = true then (if 0 ≤ (wrap64 ((Int.tmod (wrap64 (a0)) 4096) + 1)) then (if (wrap64 ((Int.tmod (wrap64 (a0)) 4096) + 1) : Int).toNat ≤ 70368744177664 then ((some (List.replicate (wrap64 ((Int.tmod (wrap64 (a0)) 4096) + 1) : Int).toNat 0 : List Int)).bind fun y466 => (isochronelaw01_NatLimits.l0 k a1 (wrap64 ((Int.tmod (wrap64 (a0)) 4096) + 1)) y466 (y466.length : Int) 0)) else (none)) else (none)) else (some false))
theorem isochronelaw01_NatLimits.mono_l : ∀ k, (∀ y0 y1 y2 y3 y4, LeO (isochronelaw01_NatLimits.l0 k y0 y1 y2 y3 y4) (isochronelaw01_NatLimits.l0 (k + 1) y0 y1 y2 y3 y4)) ∧ (∀ y0, LeO (isochronelaw01_NatLimits.j1 k y0) (isochronelaw01_NatLimits.j1 (k + 1) y0)) ∧ (∀ y0 y1 y2, LeO (isochronelaw01_NatLimits.j2 k y0 y1 y2) (isochronelaw01_NatLimits.j2 (k + 1) y0 y1 y2)) ∧ (∀ y0 y1 y2 y3, LeO (isochronelaw01_NatLimits.l1 k y0 y1 y2 y3) (isochronelaw01_NatLimits.l1 (k + 1) y0 y1 y2 y3))
 | 0 => ⟨fun _ _ _ _ _ r h => by simp [isochronelaw01_NatLimits.l0] at h, fun _ r h => by simp [isochronelaw01_NatLimits.j1] at h, fun _ _ _ r h => by simp [isochronelaw01_NatLimits.j2] at h, fun _ _ _ _ r h => by simp [isochronelaw01_NatLimits.l1] at h⟩
 | k + 1 => by
  obtain ⟨ih0, ih1, ih2, ih3⟩ := isochronelaw01_NatLimits.mono_l k
  refine ⟨?_, ?_, ?_, ?_⟩
  ·intro y0 y1 y2 y3 y4
   unfold isochronelaw01_NatLimits.l0
   repeat' first
   | (with_reducible first | exact ih0 _ _ _ _ _ | exact ih1 _ | exact ih2 _ _ _ | exact ih3 _ _ _ _ | exact isochronelaw01_awake.mono _ | exact nat_Add.mono _ _ _ | exact nat_Mul.mono _ _ _ | exact LeO.refl _ | exact LeO.none _ | refine LeO.ite ?_ ?_ | refine LeO.bind ?_ (fun _ => ?_))
   | exact ih0 _ _ _ _ _
   | exact ih1 _
   | exact ih2 _ _ _
   | exact ih3 _ _ _ _
   | exact isochronelaw01_awake.mono _
   | exact nat_Add.mono _ _ _
   | exact nat_Mul.mono _ _ _
   | exact LeO.none _
   | refine LeO.ite ?_ ?_
   | refine LeO.bind ?_ (fun _ => ?_)
  ·intro y0
   unfold isochronelaw01_NatLimits.j1
   repeat' first
   | (with_reducible first | exact ih0 _ _ _ _ _ | exact ih1 _ | exact ih2 _ _ _ | exact ih3 _ _ _ _ | exact isochronelaw01_awake.mono _ | exact nat_Add.mono _ _ _ | exact nat_Mul.mono _ _ _ | exact LeO.refl _ | exact LeO.none _ | refine LeO.ite ?_ ?_ | refine LeO.bind ?_ (fun _ => ?_))
   | exact ih0 _ _ _ _ _
   | exact ih1 _
   | exact ih2 _ _ _
   | exact ih3 _ _ _ _
   | exact isochronelaw01_awake.mono _
   | exact nat_Add.mono _ _ _
   | exact nat_Mul.mono _ _ _
   | exact LeO.none _
   | refine LeO.ite ?_ ?_
   | refine LeO.bind ?_ (fun _ => ?_)
  ·intro y0 y1 y2
   unfold isochronelaw01_NatLimits.j2
   repeat' first
   | (with_reducible first | exact ih0 _ _ _ _ _ | exact ih1 _ | exact ih2 _ _ _ | exact ih3 _ _ _ _ | exact isochronelaw01_awake.mono _ | exact nat_Add.mono _ _ _ | exact nat_Mul.mono _ _ _ | exact LeO.refl _ | exact LeO.none _ | refine LeO.ite ?_ ?_ | refine LeO.bind ?_ (fun _ => ?_))
   | exact ih0 _ _ _ _ _
   | exact ih1 _
   | exact ih2 _ _ _
   | exact ih3 _ _ _ _
   | exact isochronelaw01_awake.mono _
   | exact nat_Add.mono _ _ _
   | exact nat_Mul.mono _ _ _
   | exact LeO.none _
   | refine LeO.ite ?_ ?_
   | refine LeO.bind ?_ (fun _ => ?_)
  ·intro y0 y1 y2 y3
   unfold isochronelaw01_NatLimits.l1
   repeat' first
   | (with_reducible first | exact ih0 _ _ _ _ _ | exact ih1 _ | exact ih2 _ _ _ | exact ih3 _ _ _ _ | exact isochronelaw01_awake.mono _ | exact nat_Add.mono _ _ _ | exact nat_Mul.mono _ _ _ | exact LeO.refl _ | exact LeO.none _ | refine LeO.ite ?_ ?_ | refine LeO.bind ?_ (fun _ => ?_))
   | exact ih0 _ _ _ _ _
   | exact ih1 _
   | exact ih2 _ _ _
   | exact ih3 _ _ _ _
   | exact isochronelaw01_awake.mono _
   | exact nat_Add.mono _ _ _
   | exact nat_Mul.mono _ _ _
   | exact LeO.none _
   | refine LeO.ite ?_ ?_
   | refine LeO.bind ?_ (fun _ => ?_)
theorem isochronelaw01_NatLimits.mono : ∀ a0 a1 k, LeO (isochronelaw01_NatLimits.f k a0 a1) (isochronelaw01_NatLimits.f (k + 1) a0 a1) := by
 intro a0 a1 k
 obtain ⟨ih0, ih1, ih2, ih3⟩ := isochronelaw01_NatLimits.mono_l k
 unfold isochronelaw01_NatLimits.f
 repeat' first
   | (with_reducible first | exact ih0 _ _ _ _ _ | exact ih1 _ | exact ih2 _ _ _ | exact ih3 _ _ _ _ | exact isochronelaw01_awake.mono _ | exact nat_Add.mono _ _ _ | exact nat_Mul.mono _ _ _ | exact LeO.refl _ | exact LeO.none _ | refine LeO.ite ?_ ?_ | refine LeO.bind ?_ (fun _ => ?_))
   | exact ih0 _ _ _ _ _
   | exact ih1 _
   | exact ih2 _ _ _
   | exact ih3 _ _ _ _
   | exact isochronelaw01_awake.mono _
   | exact nat_Add.mono _ _ _
   | exact nat_Mul.mono _ _ _
   | exact LeO.none _
   | refine LeO.ite ?_ ?_
   | refine LeO.bind ?_ (fun _ => ?_)
def nat_Shift.j0 : Nat → List Int → Int → Bool → Option (List Int × Int)
 | 0, _, _, _ => none
 | k + 1, x0, x1, x10 => if x10 = true then (some (([] : List Int), 1)) else (if x1 < 0 then ((mag_Shr.f k x0 (wrap64 (-x1))).bind fun t489 => ((nat_limited.f t489).bind fun bt492 => (some (bt492.1, bt492.2)))) else ((mag_Shl.f k x0 x1).bind fun t496 => ((nat_limited.f t496).bind fun bt499 => (some (bt499.1, bt499.2)))))
def nat_Shift.f (k : Nat) (l0 : List Int) (a1 : Int) : Option (List Int × Int) := (nat_Valid.f l0).bind fun t488 => (if t488 = true then (if a1 < (-200000) then (nat_Shift.j0 k l0 a1 true) else (nat_Shift.j0 k l0 a1 (decide (a1 > 200000)))) else (some (([] : List Int), 3)))
theorem nat_Shift.mono_l : ∀ k, (∀ y0 y1 y2, LeO (nat_Shift.j0 k y0 y1 y2) (nat_Shift.j0 (k + 1) y0 y1 y2))
 | 0 => fun _ _ _ r h => by simp [nat_Shift.j0] at h
 | k + 1 => by
  have ih0 := nat_Shift.mono_l k
  ·intro y0 y1 y2
   unfold nat_Shift.j0
   repeat' first
   | (with_reducible first | exact ih0 _ _ _ | exact mag_Shl.mono _ _ _ | exact mag_Shr.mono _ _ _ | exact LeO.refl _ | exact LeO.none _ | refine LeO.ite ?_ ?_ | refine LeO.bind ?_ (fun _ => ?_))
   | exact ih0 _ _ _
   | exact mag_Shl.mono _ _ _
   | exact mag_Shr.mono _ _ _
   | exact LeO.none _
   | refine LeO.ite ?_ ?_
   | refine LeO.bind ?_ (fun _ => ?_)
theorem nat_Shift.mono : ∀ a0 a1 k, LeO (nat_Shift.f k a0 a1) (nat_Shift.f (k + 1) a0 a1) := by
 intro a0 a1 k
 have ih0 := nat_Shift.mono_l k
 unfold nat_Shift.f
 repeat' first
   | (with_reducible first | exact ih0 _ _ _ | exact mag_Shl.mono _ _ _ | exact mag_Shr.mono _ _ _ | exact LeO.refl _ | exact LeO.none _ | refine LeO.ite ?_ ?_ | refine LeO.bind ?_ (fun _ => ?_))
   | exact ih0 _ _ _
   | exact mag_Shl.mono _ _ _
   | exact mag_Shr.mono _ _ _
   | exact LeO.none _
   | refine LeO.ite ?_ ?_
   | refine LeO.bind ?_ (fun _ => ?_)
def nat_Bits.f (l0 : List Int) : Option (Int × Int) := (nat_Valid.f l0).bind fun t503 => (if t503 = true then ((mag_Bits.f l0).bind fun t504 => (some (t504, 0))) else (some (0, 3)))
def isochroneref01_Split.l0 : Nat → List Int → Int → List Int → Int → Int → Option (List Int × Int)
 | 0, _, _, _, _, _ => none
 | k + 1, x0, x1, x6, x7, x8 => if x8 ≥ 0 then (if 0 ≤ x8 then (if x8 < (x0.length : Int) then (if x1 = 0 then (none) else (if x8 < (x6.length : Int) then (isochroneref01_Split.l0 k x0 x1 (x6.set (x8 : Int).toNat (wrap64 (Int.tdiv (wrap64 ((wrap64 (x7 * 10000)) + (rd x0 x8))) x1))) (Int.tmod (wrap64 ((wrap64 (x7 * 10000)) + (rd x0 x8))) x1) (wrap64 (x8 - 1))) else (none))) else (none)) else (none)) else ((isochroneref01_trim.f k x6).bind fun t510 => (some (t510, x7)))
def isochroneref01_Split.f (k : Nat) (l0 : List Int) (a1 : Int) : Option (List Int × Int) := if 0 ≤ (l0.length : Int) then (if ((l0.length : Int) : Int).toNat ≤ 35184372088832 then (isochroneref01_Split.l0 k l0 a1 (List.replicate ((l0.length : Int) : Int).toNat 0) 0 (wrap64 ((l0.length : Int) - 1))) else (none)) else (none)
theorem isochroneref01_Split.mono_l : ∀ k, (∀ y0 y1 y2 y3 y4, LeO (isochroneref01_Split.l0 k y0 y1 y2 y3 y4) (isochroneref01_Split.l0 (k + 1) y0 y1 y2 y3 y4))
 | 0 => fun _ _ _ _ _ r h => by simp [isochroneref01_Split.l0] at h
 | k + 1 => by
  have ih0 := isochroneref01_Split.mono_l k
  ·intro y0 y1 y2 y3 y4
   unfold isochroneref01_Split.l0
   repeat' first
   | (with_reducible first | exact ih0 _ _ _ _ _ | exact isochroneref01_trim.mono _ _ | exact LeO.refl _ | exact LeO.none _ | refine LeO.ite ?_ ?_ | refine LeO.bind ?_ (fun _ => ?_))
   | exact ih0 _ _ _ _ _
   | exact isochroneref01_trim.mono _ _
   | exact LeO.none _
   | refine LeO.ite ?_ ?_
   | refine LeO.bind ?_ (fun _ => ?_)
theorem isochroneref01_Split.mono : ∀ a0 a1 k, LeO (isochroneref01_Split.f k a0 a1) (isochroneref01_Split.f (k + 1) a0 a1) := by
 intro a0 a1 k
 have ih0 := isochroneref01_Split.mono_l k
 unfold isochroneref01_Split.f
 repeat' first
   | (with_reducible first | exact ih0 _ _ _ _ _ | exact isochroneref01_trim.mono _ _ | exact LeO.refl _ | exact LeO.none _ | refine LeO.ite ?_ ?_ | refine LeO.bind ?_ (fun _ => ?_))
   | exact ih0 _ _ _ _ _
   | exact isochroneref01_trim.mono _ _
   | exact LeO.none _
   | refine LeO.ite ?_ ?_
   | refine LeO.bind ?_ (fun _ => ?_)
mutual
def isochroneref01_Bits.l0 : Nat → List Int → Int → Option (Int)
 | 0, _, _ => none
 | k + 1, x0, x3 => if (x0.length : Int) > 0 then ((isochroneref01_Split.f k x0 65536).bind fun bt513 => (if (bt513.1.length : Int) = 0 then (isochroneref01_Bits.l1 k x3 bt513.2) else (isochroneref01_Bits.l0 k bt513.1 (wrap64 (x3 + 16))))) else (some x3)
def isochroneref01_Bits.l1 : Nat → Int → Int → Option (Int)
 | 0, _, _ => none
 | k + 1, x3, x5 => if x5 > 0 then (isochroneref01_Bits.l1 k (wrap64 (x3 + 1)) (wrap64 (Int.tdiv x5 2))) else (some x3)
end
def isochroneref01_Bits.f (k : Nat) (l0 : List Int) : Option (Int) := isochroneref01_Bits.l0 k l0 0
theorem isochroneref01_Bits.mono_l : ∀ k, (∀ y0 y1, LeO (isochroneref01_Bits.l0 k y0 y1) (isochroneref01_Bits.l0 (k + 1) y0 y1)) ∧ (∀ y0 y1, LeO (isochroneref01_Bits.l1 k y0 y1) (isochroneref01_Bits.l1 (k + 1) y0 y1))
 | 0 => ⟨fun _ _ r h => by simp [isochroneref01_Bits.l0] at h, fun _ _ r h => by simp [isochroneref01_Bits.l1] at h⟩
 | k + 1 => by
  obtain ⟨ih0, ih1⟩ := isochroneref01_Bits.mono_l k
  refine ⟨?_, ?_⟩
  ·intro y0 y1
   unfold isochroneref01_Bits.l0
   repeat' first
   | (with_reducible first | exact ih0 _ _ | exact ih1 _ _ | exact isochroneref01_Split.mono _ _ _ | exact LeO.refl _ | exact LeO.none _ | refine LeO.ite ?_ ?_ | refine LeO.bind ?_ (fun _ => ?_))
   | exact ih0 _ _
   | exact ih1 _ _
   | exact isochroneref01_Split.mono _ _ _
   | exact LeO.none _
   | refine LeO.ite ?_ ?_
   | refine LeO.bind ?_ (fun _ => ?_)
  ·intro y0 y1
   unfold isochroneref01_Bits.l1
   repeat' first
   | (with_reducible first | exact ih0 _ _ | exact ih1 _ _ | exact isochroneref01_Split.mono _ _ _ | exact LeO.refl _ | exact LeO.none _ | refine LeO.ite ?_ ?_ | refine LeO.bind ?_ (fun _ => ?_))
   | exact ih0 _ _
   | exact ih1 _ _
   | exact isochroneref01_Split.mono _ _ _
   | exact LeO.none _
   | refine LeO.ite ?_ ?_
   | refine LeO.bind ?_ (fun _ => ?_)
theorem isochroneref01_Bits.mono : ∀ a0 k, LeO (isochroneref01_Bits.f k a0) (isochroneref01_Bits.f (k + 1) a0) := by
 intro a0 k
 obtain ⟨ih0, ih1⟩ := isochroneref01_Bits.mono_l k
 unfold isochroneref01_Bits.f
 repeat' first
   | (with_reducible first | exact ih0 _ _ | exact ih1 _ _ | exact isochroneref01_Split.mono _ _ _ | exact LeO.refl _ | exact LeO.none _ | refine LeO.ite ?_ ?_ | refine LeO.bind ?_ (fun _ => ?_))
   | exact ih0 _ _
   | exact ih1 _ _
   | exact isochroneref01_Split.mono _ _ _
   | exact LeO.none _
   | refine LeO.ite ?_ ?_
   | refine LeO.bind ?_ (fun _ => ?_)
mutual
def isochroneref01_Words.l0 : Nat → List Int → List Int → Option (List Int)
 | 0, _, _ => none
 | k + 1, x0, x3 => if (x0.length : Int) > 0 then ((isochroneref01_Split.f k x0 65536).bind fun bt517 => (if x3.length < 17592186044416 then (isochroneref01_Words.l0 k bt517.1 (x3 ++ [bt517.2])) else (none))) else (isochroneref01_Words.l1 k x3 ([] : List Int) 0)
def isochroneref01_Words.l1 : Nat → List Int → List Int → Int → Option (List Int)
 | 0, _, _, _ => none
 | k + 1, x3, x6, x7 => if x7 < (x3.length : Int) then (if 0 ≤ x7 then (if (wrap64 (x7 + 1)) < (x3.length : Int) then (if 0 ≤ (wrap64 (x7 + 1)) then (if x6.length < 35184372088832 then (isochroneref01_Words.l1 k x3 (x6 ++ [(((rd x3 x7) % 4294967296) + ((((rd x3 (wrap64 (x7 + 1))) % 4294967296) * 65536) % 4294967296)) % 4294967296]) (wrap64 (x7 + 2))) else (none)) else (none)) else (if x6.length < 35184372088832 then (isochroneref01_Words.l1 k x3 (x6 ++ [(rd x3 x7) % 4294967296]) (wrap64 (x7 + 2))) else (none))) else (none)) else (some x6)
end
def isochroneref01_Words.f (k : Nat) (l0 : List Int) : Option (List Int) := isochroneref01_Words.l0 k l0 ([] : List Int)
theorem isochroneref01_Words.mono_l : ∀ k, (∀ y0 y1, LeO (isochroneref01_Words.l0 k y0 y1) (isochroneref01_Words.l0 (k + 1) y0 y1)) ∧ (∀ y0 y1 y2, LeO (isochroneref01_Words.l1 k y0 y1 y2) (isochroneref01_Words.l1 (k + 1) y0 y1 y2))
 | 0 => ⟨fun _ _ r h => by simp [isochroneref01_Words.l0] at h, fun _ _ _ r h => by simp [isochroneref01_Words.l1] at h⟩
 | k + 1 => by
  obtain ⟨ih0, ih1⟩ := isochroneref01_Words.mono_l k
  refine ⟨?_, ?_⟩
  ·intro y0 y1
   unfold isochroneref01_Words.l0
   repeat' first
   | (with_reducible first | exact ih0 _ _ | exact ih1 _ _ _ | exact isochroneref01_Split.mono _ _ _ | exact LeO.refl _ | exact LeO.none _ | refine LeO.ite ?_ ?_ | refine LeO.bind ?_ (fun _ => ?_))
   | exact ih0 _ _
   | exact ih1 _ _ _
   | exact isochroneref01_Split.mono _ _ _
   | exact LeO.none _
   | refine LeO.ite ?_ ?_
   | refine LeO.bind ?_ (fun _ => ?_)
  ·intro y0 y1 y2
   unfold isochroneref01_Words.l1
   repeat' first
   | (with_reducible first | exact ih0 _ _ | exact ih1 _ _ _ | exact isochroneref01_Split.mono _ _ _ | exact LeO.refl _ | exact LeO.none _ | refine LeO.ite ?_ ?_ | refine LeO.bind ?_ (fun _ => ?_))
   | exact ih0 _ _
   | exact ih1 _ _ _
   | exact isochroneref01_Split.mono _ _ _
   | exact LeO.none _
   | refine LeO.ite ?_ ?_
   | refine LeO.bind ?_ (fun _ => ?_)
theorem isochroneref01_Words.mono : ∀ a0 k, LeO (isochroneref01_Words.f k a0) (isochroneref01_Words.f (k + 1) a0) := by
 intro a0 k
 obtain ⟨ih0, ih1⟩ := isochroneref01_Words.mono_l k
 unfold isochroneref01_Words.f
 repeat' first
   | (with_reducible first | exact ih0 _ _ | exact ih1 _ _ _ | exact isochroneref01_Split.mono _ _ _ | exact LeO.refl _ | exact LeO.none _ | refine LeO.ite ?_ ?_ | refine LeO.bind ?_ (fun _ => ?_))
   | exact ih0 _ _
   | exact ih1 _ _ _
   | exact isochroneref01_Split.mono _ _ _
   | exact LeO.none _
   | refine LeO.ite ?_ ?_
   | refine LeO.bind ?_ (fun _ => ?_)
def isochronelaw01_is.f (k : Nat) (l0 : List Int) (l1 : List Int) : Option (Bool) := (isochroneref01_Words.f k l1).bind fun t532 => ((slices_Equal_uint32_uint32.f k l0 t532).bind fun t535 => (some t535))
theorem isochronelaw01_is.mono : ∀ a0 a1 k, LeO (isochronelaw01_is.f k a0 a1) (isochronelaw01_is.f (k + 1) a0 a1) := by
 intro a0 a1 k
 unfold isochronelaw01_is.f
 repeat' first
   | (with_reducible first | exact isochroneref01_Words.mono _ _ | exact slices_Equal_uint32_uint32.mono _ _ _ | exact LeO.refl _ | exact LeO.none _ | refine LeO.ite ?_ ?_ | refine LeO.bind ?_ (fun _ => ?_))
   | exact isochroneref01_Words.mono _ _
   | exact slices_Equal_uint32_uint32.mono _ _ _
   | exact LeO.none _
   | refine LeO.ite ?_ ?_
   | refine LeO.bind ?_ (fun _ => ?_)
def isochroneref01_Two.l0 : Nat → Int → List Int → Option (List Int)
 | 0, _, _ => none
 | k + 1, x0, x3 => if x0 ≥ 16 then ((isochroneref01_Small.f k x3 65536 0).bind fun t539 => (isochroneref01_Two.l0 k (wrap64 (x0 - 16)) t539)) else (if 0 ≤ x0 then ((isochroneref01_Small.f k x3 (shl .i64 1 x0) 0).bind fun t542 => (some t542)) else (none))
def isochroneref01_Two.f (k : Nat) (a0 : Int) : Option (List Int) := isochroneref01_Two.l0 k a0 (([1] : List Int))
theorem isochroneref01_Two.mono_l : ∀ k, (∀ y0 y1, LeO (isochroneref01_Two.l0 k y0 y1) (isochroneref01_Two.l0 (k + 1) y0 y1))
 | 0 => fun _ _ r h => by simp [isochroneref01_Two.l0] at h
 | k + 1 => by
  have ih0 := isochroneref01_Two.mono_l k
  ·intro y0 y1
   unfold isochroneref01_Two.l0
   repeat' first
   | (with_reducible first | exact ih0 _ _ | exact isochroneref01_Small.mono _ _ _ _ | exact LeO.refl _ | exact LeO.none _ | refine LeO.ite ?_ ?_ | refine LeO.bind ?_ (fun _ => ?_))
   | exact ih0 _ _
   | exact isochroneref01_Small.mono _ _ _ _
   | exact LeO.none _
   | refine LeO.ite ?_ ?_
   | refine LeO.bind ?_ (fun _ => ?_)
theorem isochroneref01_Two.mono : ∀ a0 k, LeO (isochroneref01_Two.f k a0) (isochroneref01_Two.f (k + 1) a0) := by
 intro a0 k
 have ih0 := isochroneref01_Two.mono_l k
 unfold isochroneref01_Two.f
 repeat' first
   | (with_reducible first | exact ih0 _ _ | exact isochroneref01_Small.mono _ _ _ _ | exact LeO.refl _ | exact LeO.none _ | refine LeO.ite ?_ ?_ | refine LeO.bind ?_ (fun _ => ?_))
   | exact ih0 _ _
   | exact isochroneref01_Small.mono _ _ _ _
   | exact LeO.none _
   | refine LeO.ite ?_ ?_
   | refine LeO.bind ?_ (fun _ => ?_)
def isochroneref01_Nat_int.f (l0 : List Int) : Option (List Int) := (some (([] : List Int) : List Int)).bind fun y545 => (if y545.length + l0.length < 17592186044416 then (some (y545 ++ l0)) else (none))
def isochroneref01_Sub.l0 : Nat → List Int → List Int → Int → Int → Int → Option (List Int)
 | 0, _, _, _, _, _ => none
 | k + 1, x1, x5, x6, x12, x13 => if x13 < x12 then (if 0 ≤ x13 then (if x13 < (x5.length : Int) then (if x13 < (x1.length : Int) then (if (wrap64 ((wrap64 ((rd x5 x13) - x6)) - (rd x1 x13))) < 0 then (isochroneref01_Sub.l0 k x1 (x5.set (x13 : Int).toNat (wrap64 ((wrap64 ((wrap64 ((rd x5 x13) - x6)) - (rd x1 x13))) + 10000))) 1 x12 (wrap64 (x13 + 1))) else (isochroneref01_Sub.l0 k x1 (x5.set (x13 : Int).toNat (wrap64 ((wrap64 ((rd x5 x13) - x6)) - (rd x1 x13)))) 0 x12 (wrap64 (x13 + 1)))) else (if (wrap64 ((rd x5 x13) - x6)) < 0 then (isochroneref01_Sub.l0 k x1 (x5.set (x13 : Int).toNat (wrap64 ((wrap64 ((rd x5 x13) - x6)) + 10000))) 1 x12 (wrap64 (x13 + 1))) else (isochroneref01_Sub.l0 k x1 (x5.set (x13 : Int).toNat (wrap64 ((rd x5 x13) - x6))) 0 x12 (wrap64 (x13 + 1))))) else (none)) else (none)) else ((isochroneref01_trim.f k x5).bind fun t554 => (some t554))
def isochroneref01_Sub.f (k : Nat) (l0 : List Int) (l1 : List Int) : Option (List Int) := (isochroneref01_Nat_int.f l0).bind fun t551 => (isochroneref01_Sub.l0 k l1 t551 0 (t551.length : Int) 0)
theorem isochroneref01_Sub.mono_l : ∀ k, (∀ y0 y1 y2 y3 y4, LeO (isochroneref01_Sub.l0 k y0 y1 y2 y3 y4) (isochroneref01_Sub.l0 (k + 1) y0 y1 y2 y3 y4))
 | 0 => fun _ _ _ _ _ r h => by simp [isochroneref01_Sub.l0] at h
 | k + 1 => by
  have ih0 := isochroneref01_Sub.mono_l k
  ·intro y0 y1 y2 y3 y4
   unfold isochroneref01_Sub.l0
   repeat' first
   | (with_reducible first | exact ih0 _ _ _ _ _ | exact isochroneref01_trim.mono _ _ | exact LeO.refl _ | exact LeO.none _ | refine LeO.ite ?_ ?_ | refine LeO.bind ?_ (fun _ => ?_))
   | exact ih0 _ _ _ _ _
   | exact isochroneref01_trim.mono _ _
   | exact LeO.none _
   | refine LeO.ite ?_ ?_
   | refine LeO.bind ?_ (fun _ => ?_)
theorem isochroneref01_Sub.mono : ∀ a0 a1 k, LeO (isochroneref01_Sub.f k a0 a1) (isochroneref01_Sub.f (k + 1) a0 a1) := by
 intro a0 a1 k
 have ih0 := isochroneref01_Sub.mono_l k
 unfold isochroneref01_Sub.f
 repeat' first
   | (with_reducible first | exact ih0 _ _ _ _ _ | exact isochroneref01_trim.mono _ _ | exact LeO.refl _ | exact LeO.none _ | refine LeO.ite ?_ ?_ | refine LeO.bind ?_ (fun _ => ?_))
   | exact ih0 _ _ _ _ _
   | exact isochroneref01_trim.mono _ _
   | exact LeO.none _
   | refine LeO.ite ?_ ?_
   | refine LeO.bind ?_ (fun _ => ?_)
def isochroneref01_little.l0 : Nat → List Int → Int → Int → Option (Int × Bool)
 | 0, _, _, _ => none
 | k + 1, x0, x4, x5 => if x5 ≥ 0 then (if 0 ≤ x5 then (if x5 < (x0.length : Int) then (isochroneref01_little.l0 k x0 (wrap64 ((wrap64 (x4 * 10000)) + (rd x0 x5))) (wrap64 (x5 - 1))) else (none)) else (none)) else (some (x4, true))
def isochroneref01_little.f (k : Nat) (l0 : List Int) : Option (Int × Bool) := if (l0.length : Int) > 4 then (some (0, false)) else (isochroneref01_little.l0 k l0 0 (wrap64 ((l0.length : Int) - 1)))
theorem isochroneref01_little.mono_l : ∀ k, (∀ y0 y1 y2, LeO (isochroneref01_little.l0 k y0 y1 y2) (isochroneref01_little.l0 (k + 1) y0 y1 y2))
 | 0 => fun _ _ _ r h => by simp [isochroneref01_little.l0] at h
 | k + 1 => by
  have ih0 := isochroneref01_little.mono_l k
  ·intro y0 y1 y2
   unfold isochroneref01_little.l0
   repeat' first
   | (with_reducible first | exact ih0 _ _ _ | exact LeO.refl _ | exact LeO.none _ | refine LeO.ite ?_ ?_ | refine LeO.bind ?_ (fun _ => ?_))
   | exact ih0 _ _ _
   | exact LeO.none _
   | refine LeO.ite ?_ ?_
   | refine LeO.bind ?_ (fun _ => ?_)
theorem isochroneref01_little.mono : ∀ a0 k, LeO (isochroneref01_little.f k a0) (isochroneref01_little.f (k + 1) a0) := by
 intro a0 k
 have ih0 := isochroneref01_little.mono_l k
 unfold isochroneref01_little.f
 repeat' first
   | (with_reducible first | exact ih0 _ _ _ | exact LeO.refl _ | exact LeO.none _ | refine LeO.ite ?_ ?_ | refine LeO.bind ?_ (fun _ => ?_))
   | exact ih0 _ _ _
   | exact LeO.none _
   | refine LeO.ite ?_ ?_
   | refine LeO.bind ?_ (fun _ => ?_)
mutual
def isochroneref01_digit.l0 : Nat → List Int → List Int → Int → Int → Int → Int → Option (Int)
 | 0, _, _, _, _, _, _ => none
 | k + 1, x0, x1, x5, x6, x7, x8 => if x8 ≥ (mx 0 (wrap64 (x5 - 2))) then (if x8 < (x0.length : Int) then (if 0 ≤ x8 then (isochroneref01_digit.l0 k x0 x1 x5 (wrap64 ((wrap64 (x6 * 10000)) + (rd x0 x8))) x7 (wrap64 (x8 - 1))) else (none)) else (isochroneref01_digit.l0 k x0 x1 x5 (wrap64 (x6 * 10000)) x7 (wrap64 (x8 - 1)))) else (isochroneref01_digit.l1 k x0 x1 x5 x6 x7 (wrap64 (x5 - 1)))
def isochroneref01_digit.l1 : Nat → List Int → List Int → Int → Int → Int → Int → Option (Int)
 | 0, _, _, _, _, _, _ => none
 | k + 1, x0, x1, x5, x6, x7, x9 => if x9 ≥ (mx 0 (wrap64 (x5 - 2))) then (if 0 ≤ x9 then (if x9 < (x1.length : Int) then (isochroneref01_digit.l1 k x0 x1 x5 x6 (wrap64 ((wrap64 (x7 * 10000)) + (rd x1 x9))) (wrap64 (x9 - 1))) else (none)) else (none)) else (if x5 = 1 then (if 0 < (x1.length : Int) then (isochroneref01_digit.j2 k x0 x1 x6 (rd x1 0)) else (none)) else (isochroneref01_digit.j2 k x0 x1 x6 x7))
def isochroneref01_digit.j2 : Nat → List Int → List Int → Int → Int → Option (Int)
 | 0, _, _, _, _ => none
 | k + 1, x0, x1, x6, x7 => if x7 = 0 then (none) else (isochroneref01_digit.l2 k x0 x1 (mn (wrap64 (Int.tdiv x6 x7)) 9999))
def isochroneref01_digit.l2 : Nat → List Int → List Int → Int → Option (Int)
 | 0, _, _, _ => none
 | k + 1, x0, x1, x10 => (isochroneref01_Small.f k x1 x10 0).bind fun t567 => ((isochroneref01_Cmp.f k t567 x0).bind fun t570 => (if t570 > 0 then (isochroneref01_digit.l2 k x0 x1 (wrap64 (x10 - 1))) else (isochroneref01_digit.l3 k x0 x1 x10)))
def isochroneref01_digit.l3 : Nat → List Int → List Int → Int → Option (Int)
 | 0, _, _, _ => none
 | k + 1, x0, x1, x10 => if (wrap64 (x10 + 1)) < 10000 then ((isochroneref01_Small.f k x1 (wrap64 (x10 + 1)) 0).bind fun t571 => ((isochroneref01_Cmp.f k t571 x0).bind fun t574 => (if t574 ≤ 0 then (isochroneref01_digit.l3 k x0 x1 (wrap64 (x10 + 1))) else (some x10)))) else (some x10)
end
def isochroneref01_digit.f (k : Nat) (l0 : List Int) (l1 : List Int) : Option (Int) := isochroneref01_digit.l0 k l0 l1 (l1.length : Int) 0 0 (l1.length : Int)
theorem isochroneref01_digit.mono_l : ∀ k, (∀ y0 y1 y2 y3 y4 y5, LeO (isochroneref01_digit.l0 k y0 y1 y2 y3 y4 y5) (isochroneref01_digit.l0 (k + 1) y0 y1 y2 y3 y4 y5)) ∧ (∀ y0 y1 y2 y3 y4 y5, LeO (isochroneref01_digit.l1 k y0 y1 y2 y3 y4 y5) (isochroneref01_digit.l1 (k + 1) y0 y1 y2 y3 y4 y5)) ∧ (∀ y0 y1 y2 y3, LeO (isochroneref01_digit.j2 k y0 y1 y2 y3) (isochroneref01_digit.j2 (k + 1) y0 y1 y2 y3)) ∧ (∀ y0 y1 y2, LeO (isochroneref01_digit.l2 k y0 y1 y2) (isochroneref01_digit.l2 (k + 1) y0 y1 y2)) ∧ (∀ y0 y1 y2, LeO (isochroneref01_digit.l3 k y0 y1 y2) (isochroneref01_digit.l3 (k + 1) y0 y1 y2))
 | 0 => ⟨fun _ _ _ _ _ _ r h => by simp [isochroneref01_digit.l0] at h, fun _ _ _ _ _ _ r h => by simp [isochroneref01_digit.l1] at h, fun _ _ _ _ r h => by simp [isochroneref01_digit.j2] at h, fun _ _ _ r h => by simp [isochroneref01_digit.l2] at h, fun _ _ _ r h => by simp [isochroneref01_digit.l3] at h⟩
 | k + 1 => by
  obtain ⟨ih0, ih1, ih2, ih3, ih4⟩ := isochroneref01_digit.mono_l k
  refine ⟨?_, ?_, ?_, ?_, ?_⟩
  ·intro y0 y1 y2 y3 y4 y5
   unfold isochroneref01_digit.l0
   repeat' first
   | (with_reducible first | exact ih0 _ _ _ _ _ _ | exact ih1 _ _ _ _ _ _ | exact ih2 _ _ _ _ | exact ih3 _ _ _ | exact ih4 _ _ _ | exact isochroneref01_Cmp.mono _ _ _ | exact isochroneref01_Small.mono _ _ _ _ | exact LeO.refl _ | exact LeO.none _ | refine LeO.ite ?_ ?_ | refine LeO.bind ?_ (fun _ => ?_))
   | exact ih0 _ _ _ _ _ _
   | exact ih1 _ _ _ _ _ _
   | exact ih2 _ _ _ _
   | exact ih3 _ _ _
   | exact ih4 _ _ _
   | exact isochroneref01_Cmp.mono _ _ _
   | exact isochroneref01_Small.mono _ _ _ _
   | exact LeO.none _
   | refine LeO.ite ?_ ?_
   | refine LeO.bind ?_ (fun _ => ?_)
  ·intro y0 y1 y2 y3 y4 y5
   unfold isochroneref01_digit.l1
   repeat' first
   | (with_reducible first | exact ih0 _ _ _ _ _ _ | exact ih1 _ _ _ _ _ _ | exact ih2 _ _ _ _ | exact ih3 _ _ _ | exact ih4 _ _ _ | exact isochroneref01_Cmp.mono _ _ _ | exact isochroneref01_Small.mono _ _ _ _ | exact LeO.refl _ | exact LeO.none _ | refine LeO.ite ?_ ?_ | refine LeO.bind ?_ (fun _ => ?_))
   | exact ih0 _ _ _ _ _ _
   | exact ih1 _ _ _ _ _ _
   | exact ih2 _ _ _ _
   | exact ih3 _ _ _
   | exact ih4 _ _ _
   | exact isochroneref01_Cmp.mono _ _ _
   | exact isochroneref01_Small.mono _ _ _ _
   | exact LeO.none _
   | refine LeO.ite ?_ ?_
   | refine LeO.bind ?_ (fun _ => ?_)
  ·intro y0 y1 y2 y3
   unfold isochroneref01_digit.j2
   repeat' first
   | (with_reducible first | exact ih0 _ _ _ _ _ _ | exact ih1 _ _ _ _ _ _ | exact ih2 _ _ _ _ | exact ih3 _ _ _ | exact ih4 _ _ _ | exact isochroneref01_Cmp.mono _ _ _ | exact isochroneref01_Small.mono _ _ _ _ | exact LeO.refl _ | exact LeO.none _ | refine LeO.ite ?_ ?_ | refine LeO.bind ?_ (fun _ => ?_))
   | exact ih0 _ _ _ _ _ _
   | exact ih1 _ _ _ _ _ _
   | exact ih2 _ _ _ _
   | exact ih3 _ _ _
   | exact ih4 _ _ _
   | exact isochroneref01_Cmp.mono _ _ _
   | exact isochroneref01_Small.mono _ _ _ _
   | exact LeO.none _
   | refine LeO.ite ?_ ?_
   | refine LeO.bind ?_ (fun _ => ?_)
  ·intro y0 y1 y2
   unfold isochroneref01_digit.l2
   repeat' first
   | (with_reducible first | exact ih0 _ _ _ _ _ _ | exact ih1 _ _ _ _ _ _ | exact ih2 _ _ _ _ | exact ih3 _ _ _ | exact ih4 _ _ _ | exact isochroneref01_Cmp.mono _ _ _ | exact isochroneref01_Small.mono _ _ _ _ | exact LeO.refl _ | exact LeO.none _ | refine LeO.ite ?_ ?_ | refine LeO.bind ?_ (fun _ => ?_))
   | exact ih0 _ _ _ _ _ _
   | exact ih1 _ _ _ _ _ _
   | exact ih2 _ _ _ _
   | exact ih3 _ _ _
   | exact ih4 _ _ _
   | exact isochroneref01_Cmp.mono _ _ _
   | exact isochroneref01_Small.mono _ _ _ _
   | exact LeO.none _
   | refine LeO.ite ?_ ?_
   | refine LeO.bind ?_ (fun _ => ?_)
  ·intro y0 y1 y2
   unfold isochroneref01_digit.l3
   repeat' first
   | (with_reducible first | exact ih0 _ _ _ _ _ _ | exact ih1 _ _ _ _ _ _ | exact ih2 _ _ _ _ | exact ih3 _ _ _ | exact ih4 _ _ _ | exact isochroneref01_Cmp.mono _ _ _ | exact isochroneref01_Small.mono _ _ _ _ | exact LeO.refl _ | exact LeO.none _ | refine LeO.ite ?_ ?_ | refine LeO.bind ?_ (fun _ => ?_))
   | exact ih0 _ _ _ _ _ _
   | exact ih1 _ _ _ _ _ _
   | exact ih2 _ _ _ _
   | exact ih3 _ _ _
   | exact ih4 _ _ _
   | exact isochroneref01_Cmp.mono _ _ _
   | exact isochroneref01_Small.mono _ _ _ _
   | exact LeO.none _
   | refine LeO.ite ?_ ?_
   | refine LeO.bind ?_ (fun _ => ?_)
theorem isochroneref01_digit.mono : ∀ a0 a1 k, LeO (isochroneref01_digit.f k a0 a1) (isochroneref01_digit.f (k + 1) a0 a1) := by
 intro a0 a1 k
 obtain ⟨ih0, ih1, ih2, ih3, ih4⟩ := isochroneref01_digit.mono_l k
 unfold isochroneref01_digit.f
 repeat' first
   | (with_reducible first | exact ih0 _ _ _ _ _ _ | exact ih1 _ _ _ _ _ _ | exact ih2 _ _ _ _ | exact ih3 _ _ _ | exact ih4 _ _ _ | exact isochroneref01_Cmp.mono _ _ _ | exact isochroneref01_Small.mono _ _ _ _ | exact LeO.refl _ | exact LeO.none _ | refine LeO.ite ?_ ?_ | refine LeO.bind ?_ (fun _ => ?_))
   | exact ih0 _ _ _ _ _ _
   | exact ih1 _ _ _ _ _ _
   | exact ih2 _ _ _ _
   | exact ih3 _ _ _
   | exact ih4 _ _ _
   | exact isochroneref01_Cmp.mono _ _ _
   | exact isochroneref01_Small.mono _ _ _ _
   | exact LeO.none _
   | refine LeO.ite ?_ ?_
   | refine LeO.bind ?_ (fun _ => ?_)
def isochroneref01_DivMod.l0 : Nat → List Int → List Int → List Int → List Int → Int → Option (List Int × List Int)
 | 0, _, _, _, _, _ => none
 | k + 1, x0, x1, x12, x13, x14 => if x14 ≥ 0 then (if 0 ≤ x14 then (if x14 < (x0.length : Int) then ((isochroneref01_Small.f k x13 10000 (rd x0 x14)).bind fun t607 => ((isochroneref01_Cmp.f k t607 x1).bind fun t610 => (if t610 < 0 then (isochroneref01_DivMod.l0 k x0 x1 x12 t607 (wrap64 (x14 - 1))) else ((isochroneref01_digit.f k t607 x1).bind fun t611 => (if x14 < (x12.length : Int) then ((some (x12.set (x14 : Int).toNat t611 : List Int)).bind fun y612 => ((isochroneref01_Small.f k x1 (rd y612 x14) 0).bind fun t614 => ((isochroneref01_Sub.f k t607 t614).bind fun t617 => (isochroneref01_DivMod.l0 k x0 x1 y612 t617 (wrap64 (x14 - 1)))))) else (none)))))) else (none)) else (none)) else ((isochroneref01_trim.f k x12).bind fun t603 => (some (t603, x13)))
def isochroneref01_DivMod.f (k : Nat) (l0 : List Int) (l1 : List Int) : Option (List Int × List Int) := (isochroneref01_Cmp.f k l0 l1).bind fun t575 => (if t575 < 0 then (some ((([] : List Int)), l0)) else ((isochroneref01_little.f k l0).bind fun bt579 => (if bt579.2 = true then ((isochroneref01_little.f k l1).bind fun bt581 => (if bt581.1 = 0 then (none) else ((isochroneref01_Int.f k (wrap64 (Int.tdiv bt579.1 bt581.1))).bind fun t583 => ((isochroneref01_Int.f k (Int.tmod bt579.1 bt581.1)).bind fun t586 => (some (t583, t586)))))) else (if (l1.length : Int) = 1 then (if 0 < (l1.length : Int) then ((isochroneref01_Split.f k l0 (rd l1 0)).bind fun bt590 => ((isochroneref01_Int.f k bt590.2).bind fun t594 => (some (bt590.1, t594)))) else (none)) else (if 0 ≤ (l0.length : Int) then (if ((l0.length : Int) : Int).toNat ≤ 35184372088832 then (isochroneref01_DivMod.l0 k l0 l1 (List.replicate ((l0.length : Int) : Int).toNat 0) (([] : List Int)) (wrap64 ((l0.length : Int) - 1))) else (none)) else (none))))))
theorem isochroneref01_DivMod.mono_l : ∀ k, (∀ y0 y1 y2 y3 y4, LeO (isochroneref01_DivMod.l0 k y0 y1 y2 y3 y4) (isochroneref01_DivMod.l0 (k + 1) y0 y1 y2 y3 y4))
 | 0 => fun _ _ _ _ _ r h => by simp [isochroneref01_DivMod.l0] at h
 | k + 1 => by
  have ih0 := isochroneref01_DivMod.mono_l k
  ·intro y0 y1 y2 y3 y4
   unfold isochroneref01_DivMod.l0
   repeat' first
   | (with_reducible first | exact ih0 _ _ _ _ _ | exact isochroneref01_Cmp.mono _ _ _ | exact isochroneref01_Int.mono _ _ | exact isochroneref01_Small.mono _ _ _ _ | exact isochroneref01_Split.mono _ _ _ | exact isochroneref01_Sub.mono _ _ _ | exact isochroneref01_digit.mono _ _ _ | exact isochroneref01_little.mono _ _ | exact isochroneref01_trim.mono _ _ | exact LeO.refl _ | exact LeO.none _ | refine LeO.ite ?_ ?_ | refine LeO.bind ?_ (fun _ => ?_))
   | exact ih0 _ _ _ _ _
   | exact isochroneref01_Cmp.mono _ _ _
   | exact isochroneref01_Int.mono _ _
   | exact isochroneref01_Small.mono _ _ _ _
   | exact isochroneref01_Split.mono _ _ _
   | exact isochroneref01_Sub.mono _ _ _
   | exact isochroneref01_digit.mono _ _ _
   | exact isochroneref01_little.mono _ _
   | exact isochroneref01_trim.mono _ _
   | exact LeO.none _
   | refine LeO.ite ?_ ?_
   | refine LeO.bind ?_ (fun _ => ?_)
theorem isochroneref01_DivMod.mono : ∀ a0 a1 k, LeO (isochroneref01_DivMod.f k a0 a1) (isochroneref01_DivMod.f (k + 1) a0 a1) := by
 intro a0 a1 k
 have ih0 := isochroneref01_DivMod.mono_l k
 unfold isochroneref01_DivMod.f
 repeat' first
   | (with_reducible first | exact ih0 _ _ _ _ _ | exact isochroneref01_Cmp.mono _ _ _ | exact isochroneref01_Int.mono _ _ | exact isochroneref01_Small.mono _ _ _ _ | exact isochroneref01_Split.mono _ _ _ | exact isochroneref01_Sub.mono _ _ _ | exact isochroneref01_digit.mono _ _ _ | exact isochroneref01_little.mono _ _ | exact isochroneref01_trim.mono _ _ | exact LeO.refl _ | exact LeO.none _ | refine LeO.ite ?_ ?_ | refine LeO.bind ?_ (fun _ => ?_))
   | exact ih0 _ _ _ _ _
   | exact isochroneref01_Cmp.mono _ _ _
   | exact isochroneref01_Int.mono _ _
   | exact isochroneref01_Small.mono _ _ _ _
   | exact isochroneref01_Split.mono _ _ _
   | exact isochroneref01_Sub.mono _ _ _
   | exact isochroneref01_digit.mono _ _ _
   | exact isochroneref01_little.mono _ _
   | exact isochroneref01_trim.mono _ _
   | exact LeO.none _
   | refine LeO.ite ?_ ?_
   | refine LeO.bind ?_ (fun _ => ?_)
mutual
def isochronelaw01_NatShifts.j0 : Nat → List Int → Int → List Int → Int → Bool → Option (Bool)
 | 0, _, _, _, _, _ => none
 | k + 1, x0, x1, x5, x6, x28 => if x28 = true then (if x6 = 1 then (some ((x5.length : Int) == 0)) else (some false)) else ((nat_Bits.f x0).bind fun bt626 => ((isochroneref01_Of.f k x0).bind fun t628 => (if bt626.2 = 0 then ((isochroneref01_Bits.f k t628).bind fun t631 => (isochronelaw01_NatShifts.j1 k x0 x1 x5 x6 t628 (bt626.1 != t631))) else (isochronelaw01_NatShifts.j1 k x0 x1 x5 x6 t628 true))))
def isochronelaw01_NatShifts.j1 : Nat → List Int → Int → List Int → Int → List Int → Bool → Option (Bool)
 | 0, _, _, _, _, _, _ => none
 | k + 1, x0, x1, x5, x6, x9, x50 => if x50 = true then (some false) else (if (x0.length : Int) > 0 then (isochronelaw01_NatShifts.j2 k x1 x5 x6 x9 (decide (x1 > 131072))) else (isochronelaw01_NatShifts.j2 k x1 x5 x6 x9 false))
def isochronelaw01_NatShifts.j2 : Nat → Int → List Int → Int → List Int → Bool → Option (Bool)
 | 0, _, _, _, _, _ => none
 | k + 1, x1, x5, x6, x9, x57 => if x57 = true then (if x6 = 2 then (some ((x5.length : Int) == 0)) else (some false)) else (if x1 < (-2000) then (isochronelaw01_NatShifts.j3 k x1 x5 x6 x9 true) else (isochronelaw01_NatShifts.j3 k x1 x5 x6 x9 (decide (x1 > 2000))))
def isochronelaw01_NatShifts.j3 : Nat → Int → List Int → Int → List Int → Bool → Option (Bool)
 | 0, _, _, _, _, _ => none
 | k + 1, x1, x5, x6, x9, x70 => if x70 = true then (if x6 = 0 then (some true) else (some (decide (x1 > 100000)))) else (if x1 ≥ 0 then (if x6 = 0 then ((isochroneref01_Two.f k x1).bind fun t632 => ((isochroneref01_Mul.f k x9 t632).bind fun t635 => ((isochronelaw01_is.f k x5 t635).bind fun t638 => (some t638)))) else (some false)) else ((isochroneref01_Two.f k (wrap64 (-x1))).bind fun t639 => ((isochroneref01_DivMod.f k x9 t639).bind fun bt642 => (if x6 = 0 then ((isochronelaw01_is.f k x5 bt642.1).bind fun t648 => (some t648)) else (some false)))))
end
def isochronelaw01_NatShifts.f (k : Nat) (l0 : List Int) (a1 : Int) : Option (Bool) := (isochronelaw01_awake.f k).bind fun t620 => (if t620 = true then ((isochronelaw01_small.f l0 ([] : List Int) 40).bind fun t621 => (if t621 = true then ((nat_Shift.f k l0 a1).bind fun bt622 => (if a1 < (-200000) then (isochronelaw01_NatShifts.j0 k l0 a1 bt622.1 bt622.2 true) else (isochronelaw01_NatShifts.j0 k l0 a1 bt622.1 bt622.2 (decide (a1 > 200000))))) else (some true))) else (some false))
theorem isochronelaw01_NatShifts.mono_l : ∀ k, (∀ y0 y1 y2 y3 y4, LeO (isochronelaw01_NatShifts.j0 k y0 y1 y2 y3 y4) (isochronelaw01_NatShifts.j0 (k + 1) y0 y1 y2 y3 y4)) ∧ (∀ y0 y1 y2 y3 y4 y5, LeO (isochronelaw01_NatShifts.j1 k y0 y1 y2 y3 y4 y5) (isochronelaw01_NatShifts.j1 (k + 1) y0 y1 y2 y3 y4 y5)) ∧ (∀ y0 y1 y2 y3 y4, LeO (isochronelaw01_NatShifts.j2 k y0 y1 y2 y3 y4) (isochronelaw01_NatShifts.j2 (k + 1) y0 y1 y2 y3 y4)) ∧ (∀ y0 y1 y2 y3 y4, LeO (isochronelaw01_NatShifts.j3 k y0 y1 y2 y3 y4) (isochronelaw01_NatShifts.j3 (k + 1) y0 y1 y2 y3 y4))
 | 0 => ⟨fun _ _ _ _ _ r h => by simp [isochronelaw01_NatShifts.j0] at h, fun _ _ _ _ _ _ r h => by simp [isochronelaw01_NatShifts.j1] at h, fun _ _ _ _ _ r h => by simp [isochronelaw01_NatShifts.j2] at h, fun _ _ _ _ _ r h => by simp [isochronelaw01_NatShifts.j3] at h⟩
 | k + 1 => by
  obtain ⟨ih0, ih1, ih2, ih3⟩ := isochronelaw01_NatShifts.mono_l k
  refine ⟨?_, ?_, ?_, ?_⟩
  ·intro y0 y1 y2 y3 y4
   unfold isochronelaw01_NatShifts.j0
   repeat' first
   | (with_reducible first | exact ih0 _ _ _ _ _ | exact ih1 _ _ _ _ _ _ | exact ih2 _ _ _ _ _ | exact ih3 _ _ _ _ _ | exact isochronelaw01_awake.mono _ | exact isochronelaw01_is.mono _ _ _ | exact isochroneref01_Bits.mono _ _ | exact isochroneref01_DivMod.mono _ _ _ | exact isochroneref01_Mul.mono _ _ _ | exact isochroneref01_Of.mono _ _ | exact isochroneref01_Two.mono _ _ | exact nat_Shift.mono _ _ _ | exact LeO.refl _ | exact LeO.none _ | refine LeO.ite ?_ ?_ | refine LeO.bind ?_ (fun _ => ?_))
   | exact ih0 _ _ _ _ _
   | exact ih1 _ _ _ _ _ _
   | exact ih2 _ _ _ _ _
   | exact ih3 _ _ _ _ _
   | exact isochronelaw01_awake.mono _
   | exact isochronelaw01_is.mono _ _ _
   | exact isochroneref01_Bits.mono _ _
   | exact isochroneref01_DivMod.mono _ _ _
   | exact isochroneref01_Mul.mono _ _ _
   | exact isochroneref01_Of.mono _ _
   | exact isochroneref01_Two.mono _ _
   | exact nat_Shift.mono _ _ _
   | exact LeO.none _
   | refine LeO.ite ?_ ?_
   | refine LeO.bind ?_ (fun _ => ?_)
  ·intro y0 y1 y2 y3 y4 y5
   unfold isochronelaw01_NatShifts.j1
   repeat' first
   | (with_reducible first | exact ih0 _ _ _ _ _ | exact ih1 _ _ _ _ _ _ | exact ih2 _ _ _ _ _ | exact ih3 _ _ _ _ _ | exact isochronelaw01_awake.mono _ | exact isochronelaw01_is.mono _ _ _ | exact isochroneref01_Bits.mono _ _ | exact isochroneref01_DivMod.mono _ _ _ | exact isochroneref01_Mul.mono _ _ _ | exact isochroneref01_Of.mono _ _ | exact isochroneref01_Two.mono _ _ | exact nat_Shift.mono _ _ _ | exact LeO.refl _ | exact LeO.none _ | refine LeO.ite ?_ ?_ | refine LeO.bind ?_ (fun _ => ?_))
   | exact ih0 _ _ _ _ _
   | exact ih1 _ _ _ _ _ _
   | exact ih2 _ _ _ _ _
   | exact ih3 _ _ _ _ _
   | exact isochronelaw01_awake.mono _
   | exact isochronelaw01_is.mono _ _ _
   | exact isochroneref01_Bits.mono _ _
   | exact isochroneref01_DivMod.mono _ _ _
   | exact isochroneref01_Mul.mono _ _ _
   | exact isochroneref01_Of.mono _ _
   | exact isochroneref01_Two.mono _ _
   | exact nat_Shift.mono _ _ _
   | exact LeO.none _
   | refine LeO.ite ?_ ?_
   | refine LeO.bind ?_ (fun _ => ?_)
  ·intro y0 y1 y2 y3 y4
   unfold isochronelaw01_NatShifts.j2
   repeat' first
   | (with_reducible first | exact ih0 _ _ _ _ _ | exact ih1 _ _ _ _ _ _ | exact ih2 _ _ _ _ _ | exact ih3 _ _ _ _ _ | exact isochronelaw01_awake.mono _ | exact isochronelaw01_is.mono _ _ _ | exact isochroneref01_Bits.mono _ _ | exact isochroneref01_DivMod.mono _ _ _ | exact isochroneref01_Mul.mono _ _ _ | exact isochroneref01_Of.mono _ _ | exact isochroneref01_Two.mono _ _ | exact nat_Shift.mono _ _ _ | exact LeO.refl _ | exact LeO.none _ | refine LeO.ite ?_ ?_ | refine LeO.bind ?_ (fun _ => ?_))
   | exact ih0 _ _ _ _ _
   | exact ih1 _ _ _ _ _ _
   | exact ih2 _ _ _ _ _
   | exact ih3 _ _ _ _ _
   | exact isochronelaw01_awake.mono _
   | exact isochronelaw01_is.mono _ _ _
   | exact isochroneref01_Bits.mono _ _
   | exact isochroneref01_DivMod.mono _ _ _
   | exact isochroneref01_Mul.mono _ _ _
   | exact isochroneref01_Of.mono _ _
   | exact isochroneref01_Two.mono _ _
   | exact nat_Shift.mono _ _ _
   | exact LeO.none _
   | refine LeO.ite ?_ ?_
   | refine LeO.bind ?_ (fun _ => ?_)
  ·intro y0 y1 y2 y3 y4
   unfold isochronelaw01_NatShifts.j3
   repeat' first
   | (with_reducible first | exact ih0 _ _ _ _ _ | exact ih1 _ _ _ _ _ _ | exact ih2 _ _ _ _ _ | exact ih3 _ _ _ _ _ | exact isochronelaw01_awake.mono _ | exact isochronelaw01_is.mono _ _ _ | exact isochroneref01_Bits.mono _ _ | exact isochroneref01_DivMod.mono _ _ _ | exact isochroneref01_Mul.mono _ _ _ | exact isochroneref01_Of.mono _ _ | exact isochroneref01_Two.mono _ _ | exact nat_Shift.mono _ _ _ | exact LeO.refl _ | exact LeO.none _ | refine LeO.ite ?_ ?_ | refine LeO.bind ?_ (fun _ => ?_))
   | exact ih0 _ _ _ _ _
   | exact ih1 _ _ _ _ _ _
   | exact ih2 _ _ _ _ _
   | exact ih3 _ _ _ _ _
   | exact isochronelaw01_awake.mono _
   | exact isochronelaw01_is.mono _ _ _
   | exact isochroneref01_Bits.mono _ _
   | exact isochroneref01_DivMod.mono _ _ _
   | exact isochroneref01_Mul.mono _ _ _
   | exact isochroneref01_Of.mono _ _
   | exact isochroneref01_Two.mono _ _
   | exact nat_Shift.mono _ _ _
   | exact LeO.none _
   | refine LeO.ite ?_ ?_
   | refine LeO.bind ?_ (fun _ => ?_)
theorem isochronelaw01_NatShifts.mono : ∀ a0 a1 k, LeO (isochronelaw01_NatShifts.f k a0 a1) (isochronelaw01_NatShifts.f (k + 1) a0 a1) := by
 intro a0 a1 k
 obtain ⟨ih0, ih1, ih2, ih3⟩ := isochronelaw01_NatShifts.mono_l k
 unfold isochronelaw01_NatShifts.f
 repeat' first
   | (with_reducible first | exact ih0 _ _ _ _ _ | exact ih1 _ _ _ _ _ _ | exact ih2 _ _ _ _ _ | exact ih3 _ _ _ _ _ | exact isochronelaw01_awake.mono _ | exact isochronelaw01_is.mono _ _ _ | exact isochroneref01_Bits.mono _ _ | exact isochroneref01_DivMod.mono _ _ _ | exact isochroneref01_Mul.mono _ _ _ | exact isochroneref01_Of.mono _ _ | exact isochroneref01_Two.mono _ _ | exact nat_Shift.mono _ _ _ | exact LeO.refl _ | exact LeO.none _ | refine LeO.ite ?_ ?_ | refine LeO.bind ?_ (fun _ => ?_))
   | exact ih0 _ _ _ _ _
   | exact ih1 _ _ _ _ _ _
   | exact ih2 _ _ _ _ _
   | exact ih3 _ _ _ _ _
   | exact isochronelaw01_awake.mono _
   | exact isochronelaw01_is.mono _ _ _
   | exact isochroneref01_Bits.mono _ _
   | exact isochroneref01_DivMod.mono _ _ _
   | exact isochroneref01_Mul.mono _ _ _
   | exact isochroneref01_Of.mono _ _
   | exact isochroneref01_Two.mono _ _
   | exact nat_Shift.mono _ _ _
   | exact LeO.none _
   | refine LeO.ite ?_ ?_
   | refine LeO.bind ?_ (fun _ => ?_)
mutual
def nat_Parse.l0 : Nat → ByteArray → List Int → Int → Int → Int → Option (List Int × Int)
 | 0, _, _, _, _, _ => none
 | k + 1, x0, x4, x5, x6, x7 => if x7 = (x0.size : Int) then ((mag_From.f k x6).bind fun t649 => ((mag_Mul.f k x4 t649).bind fun t652 => ((mag_From.f k x5).bind fun t655 => ((mag_Add.f k t652 t655).bind fun t658 => ((nat_limited.f t658).bind fun bt661 => (some (bt661.1, bt661.2))))))) else (if 0 ≤ x7 then (if x7 < (x0.size : Int) then (if (bt x0 x7) < 48 then (nat_Parse.j1 k x0 x4 x5 x6 x7 true) else (nat_Parse.j1 k x0 x4 x5 x6 x7 (decide ((bt x0 x7) > 57)))) else (none)) else (none))
def nat_Parse.j1 : Nat → ByteArray → List Int → Int → Int → Int → Bool → Option (List Int × Int)
 | 0, _, _, _, _, _, _ => none
 | k + 1, x0, x4, x5, x6, x7, x27 => if x27 = true then (some (([] : List Int), 90)) else (if x6 = 1000000000 then ((mag_From.f k x6).bind fun t665 => ((mag_Mul.f k x4 t665).bind fun t668 => ((mag_From.f k x5).bind fun t671 => ((mag_Add.f k t668 t671).bind fun t674 => (if 0 ≤ x7 then (if x7 < (x0.size : Int) then (nat_Parse.l0 k x0 t674 ((0 * 10) + (((bt x0 x7) - 48) % 256)) (1 * 10) (wrap64 (x7 + 1))) else (none)) else (none)))))) else (if 0 ≤ x7 then (if x7 < (x0.size : Int) then (nat_Parse.l0 k x0 x4 (IntKind.u64.wrap ((IntKind.u64.wrap (x5 * 10)) + (((bt x0 x7) - 48) % 256))) (IntKind.u64.wrap (x6 * 10)) (wrap64 (x7 + 1))) else (none)) else (none)))
end
def nat_Parse.f (k : Nat) (a0 : ByteArray) : Option (List Int × Int) := if (a0.size : Int) > 20000 then (some (([] : List Int), 2)) else (if a0.toList = ([] : List UInt8) then (some (([] : List Int), 90)) else (nat_Parse.l0 k a0 ([] : List Int) 0 1 0))
theorem nat_Parse.mono_l : ∀ k, (∀ y0 y1 y2 y3 y4, LeO (nat_Parse.l0 k y0 y1 y2 y3 y4) (nat_Parse.l0 (k + 1) y0 y1 y2 y3 y4)) ∧ (∀ y0 y1 y2 y3 y4 y5, LeO (nat_Parse.j1 k y0 y1 y2 y3 y4 y5) (nat_Parse.j1 (k + 1) y0 y1 y2 y3 y4 y5))
 | 0 => ⟨fun _ _ _ _ _ r h => by simp [nat_Parse.l0] at h, fun _ _ _ _ _ _ r h => by simp [nat_Parse.j1] at h⟩
 | k + 1 => by
  obtain ⟨ih0, ih1⟩ := nat_Parse.mono_l k
  refine ⟨?_, ?_⟩
  ·intro y0 y1 y2 y3 y4
   unfold nat_Parse.l0
   repeat' first
   | (with_reducible first | exact ih0 _ _ _ _ _ | exact ih1 _ _ _ _ _ _ | exact mag_Add.mono _ _ _ | exact mag_From.mono _ _ | exact mag_Mul.mono _ _ _ | exact LeO.refl _ | exact LeO.none _ | refine LeO.ite ?_ ?_ | refine LeO.bind ?_ (fun _ => ?_))
   | exact ih0 _ _ _ _ _
   | exact ih1 _ _ _ _ _ _
   | exact mag_Add.mono _ _ _
   | exact mag_From.mono _ _
   | exact mag_Mul.mono _ _ _
   | exact LeO.none _
   | refine LeO.ite ?_ ?_
   | refine LeO.bind ?_ (fun _ => ?_)
  ·intro y0 y1 y2 y3 y4 y5
   unfold nat_Parse.j1
   repeat' first
   | (with_reducible first | exact ih0 _ _ _ _ _ | exact ih1 _ _ _ _ _ _ | exact mag_Add.mono _ _ _ | exact mag_From.mono _ _ | exact mag_Mul.mono _ _ _ | exact LeO.refl _ | exact LeO.none _ | refine LeO.ite ?_ ?_ | refine LeO.bind ?_ (fun _ => ?_))
   | exact ih0 _ _ _ _ _
   | exact ih1 _ _ _ _ _ _
   | exact mag_Add.mono _ _ _
   | exact mag_From.mono _ _
   | exact mag_Mul.mono _ _ _
   | exact LeO.none _
   | refine LeO.ite ?_ ?_
   | refine LeO.bind ?_ (fun _ => ?_)
theorem nat_Parse.mono : ∀ a0 k, LeO (nat_Parse.f k a0) (nat_Parse.f (k + 1) a0) := by
 intro a0 k
 obtain ⟨ih0, ih1⟩ := nat_Parse.mono_l k
 unfold nat_Parse.f
 repeat' first
   | (with_reducible first | exact ih0 _ _ _ _ _ | exact ih1 _ _ _ _ _ _ | exact mag_Add.mono _ _ _ | exact mag_From.mono _ _ | exact mag_Mul.mono _ _ _ | exact LeO.refl _ | exact LeO.none _ | refine LeO.ite ?_ ?_ | refine LeO.bind ?_ (fun _ => ?_))
   | exact ih0 _ _ _ _ _
   | exact ih1 _ _ _ _ _ _
   | exact mag_Add.mono _ _ _
   | exact mag_From.mono _ _
   | exact mag_Mul.mono _ _ _
   | exact LeO.none _
   | refine LeO.ite ?_ ?_
   | refine LeO.bind ?_ (fun _ => ?_)
mutual
def isochroneref01_Text.l0 : Nat → List Int → List Int → Int → Option (ByteArray)
 | 0, _, _, _ => none
 | k + 1, x0, x3, x4 => if x4 ≥ 0 then (isochroneref01_Text.l1 k x0 x3 x4 1000) else (some (strOfNums x3))
def isochroneref01_Text.l1 : Nat → List Int → List Int → Int → Int → Option (ByteArray)
 | 0, _, _, _, _ => none
 | k + 1, x0, x3, x4, x5 => if x5 > 0 then (if 0 ≤ x4 then (if x4 < (x0.length : Int) then (if x5 = 0 then (none) else (if (x3.length : Int) > 0 then (if x3.length < 140737488355328 then (isochroneref01_Text.l1 k x0 (x3 ++ [(wrap64 (48 + (Int.tmod (wrap64 (Int.tdiv (rd x0 x4) x5)) 10))) % 256]) x4 (wrap64 (Int.tdiv x5 10))) else (none)) else (if (Int.tmod (wrap64 (Int.tdiv (rd x0 x4) x5)) 10) > 0 then (if x3.length < 140737488355328 then (isochroneref01_Text.l1 k x0 (x3 ++ [(wrap64 (48 + (Int.tmod (wrap64 (Int.tdiv (rd x0 x4) x5)) 10))) % 256]) x4 (wrap64 (Int.tdiv x5 10))) else (none)) else (isochroneref01_Text.l1 k x0 x3 x4 (wrap64 (Int.tdiv x5 10)))))) else (none)) else (none)) else (isochroneref01_Text.l0 k x0 x3 (wrap64 (x4 - 1)))
end
def isochroneref01_Text.f (k : Nat) (l0 : List Int) : Option (ByteArray) := if (l0.length : Int) = 0 then (some (⟨#[48]⟩ : ByteArray)) else (isochroneref01_Text.l0 k l0 ([] : List Int) (wrap64 ((l0.length : Int) - 1)))
theorem isochroneref01_Text.mono_l : ∀ k, (∀ y0 y1 y2, LeO (isochroneref01_Text.l0 k y0 y1 y2) (isochroneref01_Text.l0 (k + 1) y0 y1 y2)) ∧ (∀ y0 y1 y2 y3, LeO (isochroneref01_Text.l1 k y0 y1 y2 y3) (isochroneref01_Text.l1 (k + 1) y0 y1 y2 y3))
 | 0 => ⟨fun _ _ _ r h => by simp [isochroneref01_Text.l0] at h, fun _ _ _ _ r h => by simp [isochroneref01_Text.l1] at h⟩
 | k + 1 => by
  obtain ⟨ih0, ih1⟩ := isochroneref01_Text.mono_l k
  refine ⟨?_, ?_⟩
  ·intro y0 y1 y2
   unfold isochroneref01_Text.l0
   repeat' first
   | (with_reducible first | exact ih0 _ _ _ | exact ih1 _ _ _ _ | exact LeO.refl _ | exact LeO.none _ | refine LeO.ite ?_ ?_ | refine LeO.bind ?_ (fun _ => ?_))
   | exact ih0 _ _ _
   | exact ih1 _ _ _ _
   | exact LeO.none _
   | refine LeO.ite ?_ ?_
   | refine LeO.bind ?_ (fun _ => ?_)
  ·intro y0 y1 y2 y3
   unfold isochroneref01_Text.l1
   repeat' first
   | (with_reducible first | exact ih0 _ _ _ | exact ih1 _ _ _ _ | exact LeO.refl _ | exact LeO.none _ | refine LeO.ite ?_ ?_ | refine LeO.bind ?_ (fun _ => ?_))
   | exact ih0 _ _ _
   | exact ih1 _ _ _ _
   | exact LeO.none _
   | refine LeO.ite ?_ ?_
   | refine LeO.bind ?_ (fun _ => ?_)
theorem isochroneref01_Text.mono : ∀ a0 k, LeO (isochroneref01_Text.f k a0) (isochroneref01_Text.f (k + 1) a0) := by
 intro a0 k
 obtain ⟨ih0, ih1⟩ := isochroneref01_Text.mono_l k
 unfold isochroneref01_Text.f
 repeat' first
   | (with_reducible first | exact ih0 _ _ _ | exact ih1 _ _ _ _ | exact LeO.refl _ | exact LeO.none _ | refine LeO.ite ?_ ?_ | refine LeO.bind ?_ (fun _ => ?_))
   | exact ih0 _ _ _
   | exact ih1 _ _ _ _
   | exact LeO.none _
   | refine LeO.ite ?_ ?_
   | refine LeO.bind ?_ (fun _ => ?_)
def isochroneref01_Decimal.l0 : Nat → ByteArray → Int → Int → Option (Bool)
 | 0, _, _, _ => none
 | k + 1, x0, x5, x6 => if x6 < x5 then (if 0 ≤ x6 then (if x6 < (x0.size : Int) then (if (bt x0 x6) < 48 then (some false) else (if (bt x0 x6) > 57 then (some false) else (isochroneref01_Decimal.l0 k x0 x5 (wrap64 (x6 + 1))))) else (none)) else (none)) else (some (x0.toList != ([] : List UInt8)))
def isochroneref01_Decimal.f (k : Nat) (a0 : ByteArray) : Option (Bool) := isochroneref01_Decimal.l0 k a0 (a0.size : Int) 0
theorem isochroneref01_Decimal.mono_l : ∀ k, (∀ y0 y1 y2, LeO (isochroneref01_Decimal.l0 k y0 y1 y2) (isochroneref01_Decimal.l0 (k + 1) y0 y1 y2))
 | 0 => fun _ _ _ r h => by simp [isochroneref01_Decimal.l0] at h
 | k + 1 => by
  have ih0 := isochroneref01_Decimal.mono_l k
  ·intro y0 y1 y2
   unfold isochroneref01_Decimal.l0
   repeat' first
   | (with_reducible first | exact ih0 _ _ _ | exact LeO.refl _ | exact LeO.none _ | refine LeO.ite ?_ ?_ | refine LeO.bind ?_ (fun _ => ?_))
   | exact ih0 _ _ _
   | exact LeO.none _
   | refine LeO.ite ?_ ?_
   | refine LeO.bind ?_ (fun _ => ?_)
theorem isochroneref01_Decimal.mono : ∀ a0 k, LeO (isochroneref01_Decimal.f k a0) (isochroneref01_Decimal.f (k + 1) a0) := by
 intro a0 k
 have ih0 := isochroneref01_Decimal.mono_l k
 unfold isochroneref01_Decimal.f
 repeat' first
   | (with_reducible first | exact ih0 _ _ _ | exact LeO.refl _ | exact LeO.none _ | refine LeO.ite ?_ ?_ | refine LeO.bind ?_ (fun _ => ?_))
   | exact ih0 _ _ _
   | exact LeO.none _
   | refine LeO.ite ?_ ?_
   | refine LeO.bind ?_ (fun _ => ?_)
mutual
def isochroneref01_Digits.l0 : Nat → ByteArray → List Int → Int → Option (List Int)
 | 0, _, _, _ => none
 | k + 1, x0, x3, x4 => if x4 > 0 then (isochroneref01_Digits.l1 k x0 x3 x4 0 (mx 0 (wrap64 (x4 - 4)))) else ((isochroneref01_trim.f k x3).bind fun t687 => (some t687))
def isochroneref01_Digits.l1 : Nat → ByteArray → List Int → Int → Int → Int → Option (List Int)
 | 0, _, _, _, _, _ => none
 | k + 1, x0, x3, x4, x5, x6 => if x6 < x4 then (if 0 ≤ x6 then (if x6 < (x0.size : Int) then (isochroneref01_Digits.l1 k x0 x3 x4 (wrap64 ((wrap64 (x5 * 10)) + (((bt x0 x6) - 48) % 256))) (wrap64 (x6 + 1))) else (none)) else (none)) else (if x3.length < 17592186044416 then (isochroneref01_Digits.l0 k x0 (x3 ++ [x5]) (wrap64 (x4 - 4))) else (none))
end
def isochroneref01_Digits.f (k : Nat) (a0 : ByteArray) : Option (List Int) := isochroneref01_Digits.l0 k a0 (([] : List Int)) (a0.size : Int)
theorem isochroneref01_Digits.mono_l : ∀ k, (∀ y0 y1 y2, LeO (isochroneref01_Digits.l0 k y0 y1 y2) (isochroneref01_Digits.l0 (k + 1) y0 y1 y2)) ∧ (∀ y0 y1 y2 y3 y4, LeO (isochroneref01_Digits.l1 k y0 y1 y2 y3 y4) (isochroneref01_Digits.l1 (k + 1) y0 y1 y2 y3 y4))
 | 0 => ⟨fun _ _ _ r h => by simp [isochroneref01_Digits.l0] at h, fun _ _ _ _ _ r h => by simp [isochroneref01_Digits.l1] at h⟩
 | k + 1 => by
  obtain ⟨ih0, ih1⟩ := isochroneref01_Digits.mono_l k
  refine ⟨?_, ?_⟩
  ·intro y0 y1 y2
   unfold isochroneref01_Digits.l0
   repeat' first
   | (with_reducible first | exact ih0 _ _ _ | exact ih1 _ _ _ _ _ | exact isochroneref01_trim.mono _ _ | exact LeO.refl _ | exact LeO.none _ | refine LeO.ite ?_ ?_ | refine LeO.bind ?_ (fun _ => ?_))
   | exact ih0 _ _ _
   | exact ih1 _ _ _ _ _
   | exact isochroneref01_trim.mono _ _
   | exact LeO.none _
   | refine LeO.ite ?_ ?_
   | refine LeO.bind ?_ (fun _ => ?_)
  ·intro y0 y1 y2 y3 y4
   unfold isochroneref01_Digits.l1
   repeat' first
   | (with_reducible first | exact ih0 _ _ _ | exact ih1 _ _ _ _ _ | exact isochroneref01_trim.mono _ _ | exact LeO.refl _ | exact LeO.none _ | refine LeO.ite ?_ ?_ | refine LeO.bind ?_ (fun _ => ?_))
   | exact ih0 _ _ _
   | exact ih1 _ _ _ _ _
   | exact isochroneref01_trim.mono _ _
   | exact LeO.none _
   | refine LeO.ite ?_ ?_
   | refine LeO.bind ?_ (fun _ => ?_)
theorem isochroneref01_Digits.mono : ∀ a0 k, LeO (isochroneref01_Digits.f k a0) (isochroneref01_Digits.f (k + 1) a0) := by
 intro a0 k
 obtain ⟨ih0, ih1⟩ := isochroneref01_Digits.mono_l k
 unfold isochroneref01_Digits.f
 repeat' first
   | (with_reducible first | exact ih0 _ _ _ | exact ih1 _ _ _ _ _ | exact isochroneref01_trim.mono _ _ | exact LeO.refl _ | exact LeO.none _ | refine LeO.ite ?_ ?_ | refine LeO.bind ?_ (fun _ => ?_))
   | exact ih0 _ _ _
   | exact ih1 _ _ _ _ _
   | exact isochroneref01_trim.mono _ _
   | exact LeO.none _
   | refine LeO.ite ?_ ?_
   | refine LeO.bind ?_ (fun _ => ?_)
def isochronelaw01_NatTexts.j0 : Nat → ByteArray → Bool → Option (Bool)
 | 0, _, _ => none
 | k + 1, x1, x44 => if x44 = true then (some false) else ((nat_Parse.f k x1).bind fun bt706 => (if (x1.size : Int) > 20000 then (if bt706.2 = 2 then (some ((bt706.1.length : Int) == 0)) else (some false)) else (if (x1.size : Int) > 400 then (some true) else ((isochroneref01_Decimal.f k x1).bind fun t710 => (if t710 = true then (if bt706.2 = 0 then ((isochroneref01_Digits.f k x1).bind fun t711 => ((isochronelaw01_is.f k bt706.1 t711).bind fun t714 => (some t714))) else (some false)) else (if bt706.2 = 90 then (some ((bt706.1.length : Int) == 0)) else (some false)))))))
def isochronelaw01_NatTexts.f (k : Nat) (l0 : List Int) (a1 : ByteArray) : Option (Bool) := (isochronelaw01_awake.f k).bind fun t693 => (if t693 = true then ((isochronelaw01_small.f l0 ([] : List Int) 40).bind fun t694 => (if t694 = true then ((nat_Text.f k l0).bind fun bt695 => ((nat_Parse.f k bt695.1).bind fun bt697 => (if bt695.2 = 0 then (if bt697.2 = 0 then ((isochroneref01_Of.f k l0).bind fun t701 => ((isochroneref01_Text.f k t701).bind fun t704 => (if bt695.1.toList = t704.toList then ((slices_Equal_uint32_uint32.f k bt697.1 l0).bind fun t705 => (isochronelaw01_NatTexts.j0 k a1 (!t705))) else (isochronelaw01_NatTexts.j0 k a1 true)))) else (isochronelaw01_NatTexts.j0 k a1 true)) else (isochronelaw01_NatTexts.j0 k a1 true)))) else (some true))) else (some false))
theorem isochronelaw01_NatTexts.mono_l : ∀ k, (∀ y0 y1, LeO (isochronelaw01_NatTexts.j0 k y0 y1) (isochronelaw01_NatTexts.j0 (k + 1) y0 y1))
 | 0 => fun _ _ r h => by simp [isochronelaw01_NatTexts.j0] at h
 | k + 1 => by
  have ih0 := isochronelaw01_NatTexts.mono_l k
  ·intro y0 y1
   unfold isochronelaw01_NatTexts.j0
   repeat' first
   | (with_reducible first | exact ih0 _ _ | exact isochronelaw01_awake.mono _ | exact isochronelaw01_is.mono _ _ _ | exact isochroneref01_Decimal.mono _ _ | exact isochroneref01_Digits.mono _ _ | exact isochroneref01_Of.mono _ _ | exact isochroneref01_Text.mono _ _ | exact nat_Parse.mono _ _ | exact nat_Text.mono _ _ | exact slices_Equal_uint32_uint32.mono _ _ _ | exact LeO.refl _ | exact LeO.none _ | refine LeO.ite ?_ ?_ | refine LeO.bind ?_ (fun _ => ?_))
   | exact ih0 _ _
   | exact isochronelaw01_awake.mono _
   | exact isochronelaw01_is.mono _ _ _
   | exact isochroneref01_Decimal.mono _ _
   | exact isochroneref01_Digits.mono _ _
   | exact isochroneref01_Of.mono _ _
   | exact isochroneref01_Text.mono _ _
   | exact nat_Parse.mono _ _
   | exact nat_Text.mono _ _
   | exact slices_Equal_uint32_uint32.mono _ _ _
   | exact LeO.none _
   | refine LeO.ite ?_ ?_
   | refine LeO.bind ?_ (fun _ => ?_)
theorem isochronelaw01_NatTexts.mono : ∀ a0 a1 k, LeO (isochronelaw01_NatTexts.f k a0 a1) (isochronelaw01_NatTexts.f (k + 1) a0 a1) := by
 intro a0 a1 k
 have ih0 := isochronelaw01_NatTexts.mono_l k
 unfold isochronelaw01_NatTexts.f
 repeat' first
   | (with_reducible first | exact ih0 _ _ | exact isochronelaw01_awake.mono _ | exact isochronelaw01_is.mono _ _ _ | exact isochroneref01_Decimal.mono _ _ | exact isochroneref01_Digits.mono _ _ | exact isochroneref01_Of.mono _ _ | exact isochroneref01_Text.mono _ _ | exact nat_Parse.mono _ _ | exact nat_Text.mono _ _ | exact slices_Equal_uint32_uint32.mono _ _ _ | exact LeO.refl _ | exact LeO.none _ | refine LeO.ite ?_ ?_ | refine LeO.bind ?_ (fun _ => ?_))
   | exact ih0 _ _
   | exact isochronelaw01_awake.mono _
   | exact isochronelaw01_is.mono _ _ _
   | exact isochroneref01_Decimal.mono _ _
   | exact isochroneref01_Digits.mono _ _
   | exact isochroneref01_Of.mono _ _
   | exact isochroneref01_Text.mono _ _
   | exact nat_Parse.mono _ _
   | exact nat_Text.mono _ _
   | exact slices_Equal_uint32_uint32.mono _ _ _
   | exact LeO.none _
   | refine LeO.ite ?_ ?_
   | refine LeO.bind ?_ (fun _ => ?_)
def nat_Cmp.f (k : Nat) (l0 : List Int) (l1 : List Int) : Option (Int × Int) := (nat_both.f l0 l1).bind fun t715 => (if t715 = true then ((mag_Cmp.f k l0 l1).bind fun t716 => (some (t716, 0))) else (some (0, 3)))
theorem nat_Cmp.mono : ∀ a0 a1 k, LeO (nat_Cmp.f k a0 a1) (nat_Cmp.f (k + 1) a0 a1) := by
 intro a0 a1 k
 unfold nat_Cmp.f
 repeat' first
   | (with_reducible first | exact mag_Cmp.mono _ _ _ | exact LeO.refl _ | exact LeO.none _ | refine LeO.ite ?_ ?_ | refine LeO.bind ?_ (fun _ => ?_))
   | exact mag_Cmp.mono _ _ _
   | exact LeO.none _
   | refine LeO.ite ?_ ?_
   | refine LeO.bind ?_ (fun _ => ?_)
def mag_Sub.l0 : Nat → List Int → List Int → Int → List Int → Int → Int → Option (List Int)
 | 0, _, _, _, _, _, _ => none
 | k + 1, x1, x5, x6, x13, x14, x15 => if x15 < x14 then (if 0 ≤ x15 then (if x15 < (x13.length : Int) then (if x15 < (x1.length : Int) then (if x15 < (x5.length : Int) then (mag_Sub.l0 k x1 (x5.set (x15 : Int).toNat ((IntKind.u64.wrap ((IntKind.u64.wrap ((IntKind.u64.wrap (rd x13 x15)) - x6)) - (IntKind.u64.wrap (rd x1 x15)))) % 4294967296)) ((IntKind.u64.wrap ((IntKind.u64.wrap ((IntKind.u64.wrap (rd x13 x15)) - x6)) - (IntKind.u64.wrap (rd x1 x15)))) / 9223372036854775808) x13 x14 (wrap64 (x15 + 1))) else (none)) else (if x15 < (x5.length : Int) then (mag_Sub.l0 k x1 (x5.set (x15 : Int).toNat ((IntKind.u64.wrap ((IntKind.u64.wrap (rd x13 x15)) - x6)) % 4294967296)) ((IntKind.u64.wrap ((IntKind.u64.wrap (rd x13 x15)) - x6)) / 9223372036854775808) x13 x14 (wrap64 (x15 + 1))) else (none))) else (none)) else (none)) else ((mag_Trim.f k x5).bind fun t724 => (some t724))
def mag_Sub.f (k : Nat) (l0 : List Int) (l1 : List Int) : Option (List Int) := if 0 ≤ (l0.length : Int) then (if ((l0.length : Int) : Int).toNat ≤ 70368744177664 then (mag_Sub.l0 k l1 (List.replicate ((l0.length : Int) : Int).toNat 0) 0 l0 (l0.length : Int) 0) else (none)) else (none)
theorem mag_Sub.mono_l : ∀ k, (∀ y0 y1 y2 y3 y4 y5, LeO (mag_Sub.l0 k y0 y1 y2 y3 y4 y5) (mag_Sub.l0 (k + 1) y0 y1 y2 y3 y4 y5))
 | 0 => fun _ _ _ _ _ _ r h => by simp [mag_Sub.l0] at h
 | k + 1 => by
  have ih0 := mag_Sub.mono_l k
  ·intro y0 y1 y2 y3 y4 y5
   unfold mag_Sub.l0
   repeat' first
   | (with_reducible first | exact ih0 _ _ _ _ _ _ | exact mag_Trim.mono _ _ | exact LeO.refl _ | exact LeO.none _ | refine LeO.ite ?_ ?_ | refine LeO.bind ?_ (fun _ => ?_))
   | exact ih0 _ _ _ _ _ _
   | exact mag_Trim.mono _ _
   | exact LeO.none _
   | refine LeO.ite ?_ ?_
   | refine LeO.bind ?_ (fun _ => ?_)
theorem mag_Sub.mono : ∀ a0 a1 k, LeO (mag_Sub.f k a0 a1) (mag_Sub.f (k + 1) a0 a1) := by
 intro a0 a1 k
 have ih0 := mag_Sub.mono_l k
 unfold mag_Sub.f
 repeat' first
   | (with_reducible first | exact ih0 _ _ _ _ _ _ | exact mag_Trim.mono _ _ | exact LeO.refl _ | exact LeO.none _ | refine LeO.ite ?_ ?_ | refine LeO.bind ?_ (fun _ => ?_))
   | exact ih0 _ _ _ _ _ _
   | exact mag_Trim.mono _ _
   | exact LeO.none _
   | refine LeO.ite ?_ ?_
   | refine LeO.bind ?_ (fun _ => ?_)
def nat_Sub.f (k : Nat) (l0 : List Int) (l1 : List Int) : Option (List Int × Int) := (nat_both.f l0 l1).bind fun t727 => (if t727 = true then ((mag_Cmp.f k l0 l1).bind fun t728 => (if t728 < 0 then (some (([] : List Int), 1)) else ((mag_Sub.f k l0 l1).bind fun t729 => ((nat_limited.f t729).bind fun bt732 => (some (bt732.1, bt732.2)))))) else (some (([] : List Int), 3)))
theorem nat_Sub.mono : ∀ a0 a1 k, LeO (nat_Sub.f k a0 a1) (nat_Sub.f (k + 1) a0 a1) := by
 intro a0 a1 k
 unfold nat_Sub.f
 repeat' first
   | (with_reducible first | exact mag_Cmp.mono _ _ _ | exact mag_Sub.mono _ _ _ | exact LeO.refl _ | exact LeO.none _ | refine LeO.ite ?_ ?_ | refine LeO.bind ?_ (fun _ => ?_))
   | exact mag_Cmp.mono _ _ _
   | exact mag_Sub.mono _ _ _
   | exact LeO.none _
   | refine LeO.ite ?_ ?_
   | refine LeO.bind ?_ (fun _ => ?_)
def isochronelaw01_NatRing.j0 : Nat → List Int → List Int → Int → List Int → Int → Bool → Option (Bool)
 | 0, _, _, _, _, _, _ => none
 | k + 1, x5, x6, x7, x13, x14, x81 => if x81 = true then (some false) else (if x7 < 0 then (if x14 = 1 then (some ((x13.length : Int) == 0)) else (some false)) else (if x14 = 0 then ((isochroneref01_Sub.f k x5 x6).bind fun t767 => ((isochronelaw01_is.f k x13 t767).bind fun t770 => (some t770))) else (some false)))
def isochronelaw01_NatRing.f (k : Nat) (l0 : List Int) (l1 : List Int) : Option (Bool) := (isochronelaw01_awake.f k).bind fun t736 => (if t736 = true then ((isochronelaw01_small.f l0 l1 40).bind fun t737 => (if t737 = true then ((isochroneref01_Of.f k l0).bind fun t738 => ((isochroneref01_Of.f k l1).bind fun t741 => ((nat_Cmp.f k l0 l1).bind fun bt744 => ((nat_Add.f k l0 l1).bind fun bt746 => ((nat_Mul.f k l0 l1).bind fun bt750 => ((nat_Sub.f k l0 l1).bind fun bt754 => (if bt744.2 = 0 then (if bt746.2 = 0 then (if bt750.2 = 0 then ((isochroneref01_Cmp.f k t738 t741).bind fun t758 => (if bt744.1 = t758 then ((isochroneref01_Add.f k t738 t741).bind fun t759 => ((isochronelaw01_is.f k bt746.1 t759).bind fun t762 => (if t762 = true then ((isochroneref01_Mul.f k t738 t741).bind fun t763 => ((isochronelaw01_is.f k bt750.1 t763).bind fun t766 => (isochronelaw01_NatRing.j0 k t738 t741 bt744.1 bt754.1 bt754.2 (!t766)))) else (isochronelaw01_NatRing.j0 k t738 t741 bt744.1 bt754.1 bt754.2 true)))) else (isochronelaw01_NatRing.j0 k t738 t741 bt744.1 bt754.1 bt754.2 true))) else (isochronelaw01_NatRing.j0 k t738 t741 bt744.1 bt754.1 bt754.2 true)) else (isochronelaw01_NatRing.j0 k t738 t741 bt744.1 bt754.1 bt754.2 true)) else (isochronelaw01_NatRing.j0 k t738 t741 bt744.1 bt754.1 bt754.2 true)))))))) else (some true))) else (some false))
theorem isochronelaw01_NatRing.mono_l : ∀ k, (∀ y0 y1 y2 y3 y4 y5, LeO (isochronelaw01_NatRing.j0 k y0 y1 y2 y3 y4 y5) (isochronelaw01_NatRing.j0 (k + 1) y0 y1 y2 y3 y4 y5))
 | 0 => fun _ _ _ _ _ _ r h => by simp [isochronelaw01_NatRing.j0] at h
 | k + 1 => by
  have ih0 := isochronelaw01_NatRing.mono_l k
  ·intro y0 y1 y2 y3 y4 y5
   unfold isochronelaw01_NatRing.j0
   repeat' first
   | (with_reducible first | exact ih0 _ _ _ _ _ _ | exact isochronelaw01_awake.mono _ | exact isochronelaw01_is.mono _ _ _ | exact isochroneref01_Add.mono _ _ _ | exact isochroneref01_Cmp.mono _ _ _ | exact isochroneref01_Mul.mono _ _ _ | exact isochroneref01_Of.mono _ _ | exact isochroneref01_Sub.mono _ _ _ | exact nat_Add.mono _ _ _ | exact nat_Cmp.mono _ _ _ | exact nat_Mul.mono _ _ _ | exact nat_Sub.mono _ _ _ | exact LeO.refl _ | exact LeO.none _ | refine LeO.ite ?_ ?_ | refine LeO.bind ?_ (fun _ => ?_))
   | exact ih0 _ _ _ _ _ _
   | exact isochronelaw01_awake.mono _
   | exact isochronelaw01_is.mono _ _ _
   | exact isochroneref01_Add.mono _ _ _
   | exact isochroneref01_Cmp.mono _ _ _
   | exact isochroneref01_Mul.mono _ _ _
   | exact isochroneref01_Of.mono _ _
   | exact isochroneref01_Sub.mono _ _ _
   | exact nat_Add.mono _ _ _
   | exact nat_Cmp.mono _ _ _
   | exact nat_Mul.mono _ _ _
   | exact nat_Sub.mono _ _ _
   | exact LeO.none _
   | refine LeO.ite ?_ ?_
   | refine LeO.bind ?_ (fun _ => ?_)
theorem isochronelaw01_NatRing.mono : ∀ a0 a1 k, LeO (isochronelaw01_NatRing.f k a0 a1) (isochronelaw01_NatRing.f (k + 1) a0 a1) := by
 intro a0 a1 k
 have ih0 := isochronelaw01_NatRing.mono_l k
 unfold isochronelaw01_NatRing.f
 repeat' first
   | (with_reducible first | exact ih0 _ _ _ _ _ _ | exact isochronelaw01_awake.mono _ | exact isochronelaw01_is.mono _ _ _ | exact isochroneref01_Add.mono _ _ _ | exact isochroneref01_Cmp.mono _ _ _ | exact isochroneref01_Mul.mono _ _ _ | exact isochroneref01_Of.mono _ _ | exact isochroneref01_Sub.mono _ _ _ | exact nat_Add.mono _ _ _ | exact nat_Cmp.mono _ _ _ | exact nat_Mul.mono _ _ _ | exact nat_Sub.mono _ _ _ | exact LeO.refl _ | exact LeO.none _ | refine LeO.ite ?_ ?_ | refine LeO.bind ?_ (fun _ => ?_))
   | exact ih0 _ _ _ _ _ _
   | exact isochronelaw01_awake.mono _
   | exact isochronelaw01_is.mono _ _ _
   | exact isochroneref01_Add.mono _ _ _
   | exact isochroneref01_Cmp.mono _ _ _
   | exact isochroneref01_Mul.mono _ _ _
   | exact isochroneref01_Of.mono _ _
   | exact isochroneref01_Sub.mono _ _ _
   | exact nat_Add.mono _ _ _
   | exact nat_Cmp.mono _ _ _
   | exact nat_Mul.mono _ _ _
   | exact nat_Sub.mono _ _ _
   | exact LeO.none _
   | refine LeO.ite ?_ ?_
   | refine LeO.bind ?_ (fun _ => ?_)
def bits_Len64.j0 : Nat → Int → Int → Option (Int)
 | 0, _, _ => none
 | k + 1, x0, x2 => if x0 ≥ 65536 then (if (x0 / 65536) ≥ 256 then (if 0 ≤ (((x0 / 65536) / 256) % 256) then (if (((x0 / 65536) / 256) % 256) < 256 then (some (wrap64 ((wrap64 ((wrap64 (x2 + 16)) + 8)) + (wrap64 (bt (⟨#[0, 1, 2, 2, 3, 3, 3, 3, 4, 4, 4, 4, 4, 4, 4, 4, 5, 5, 5, 5, 5, 5, 5, 5, 5, 5, 5, 5, 5, 5, 5, 5, 6, 6, 6, 6, 6, 6, 6, 6, 6, 6, 6, 6, 6, 6, 6, 6, 6, 6, 6, 6, 6, 6, 6, 6, 6, 6, 6, 6, 6, 6, 6, 6, 7, 7, 7, 7, 7, 7, 7, 7, 7, 7, 7, 7, 7, 7, 7, 7, 7, 7, 7, 7, 7, 7, 7, 7, 7, 7, 7, 7, 7, 7, 7, 7, 7, 7, 7, 7, 7, 7, 7, 7, 7, 7, 7, 7, 7, 7, 7, 7, 7, 7, 7, 7, 7, 7, 7, 7, 7, 7, 7, 7, 7, 7, 7, 7, 8, 8, 8, 8, 8, 8, 8, 8, 8, 8, 8, 8, 8, 8, 8, 8, 8, 8, 8, 8, 8, 8, 8, 8, 8, 8, 8, 8, 8, 8, 8, 8, 8, 8, 8, 8, 8, 8, 8, 8, 8, 8, 8, 8, 8, 8, 8, 8, 8, 8, 8, 8, 8, 8, 8, 8, 8, 8, 8, 8, 8, 8, 8, 8, 8, 8, 8, 8, 8, 8, 8, 8, 8, 8, 8, 8, 8, 8, 8, 8, 8, 8, 8, 8, 8, 8, 8, 8, 8, 8, 8, 8, 8, 8, 8, 8, 8, 8, 8, 8, 8, 8, 8, 8, 8, 8, 8, 8, 8, 8, 8, 8, 8, 8, 8, 8, 8, 8, 8, 8, 8, 8, 8, 8, 8, 8, 8, 8]⟩ : ByteArray) (((x0 / 65536) / 256) % 256)))))) else (none)) else (none)) else (if 0 ≤ ((x0 / 65536) % 256) then (if ((x0 / 65536) % 256) < 256 then (some (wrap64 ((wrap64 (x2 + 16)) + (wrap64 (bt (⟨#[0, 1, 2, 2, 3, 3, 3, 3, 4, 4, 4, 4, 4, 4, 4, 4, 5, 5, 5, 5, 5, 5, 5, 5, 5, 5, 5, 5, 5, 5, 5, 5, 6, 6, 6, 6, 6, 6, 6, 6, 6, 6, 6, 6, 6, 6, 6, 6, 6, 6, 6, 6, 6, 6, 6, 6, 6, 6, 6, 6, 6, 6, 6, 6, 7, 7, 7, 7, 7, 7, 7, 7, 7, 7, 7, 7, 7, 7, 7, 7, 7, 7, 7, 7, 7, 7, 7, 7, 7, 7, 7, 7, 7, 7, 7, 7, 7, 7, 7, 7, 7, 7, 7, 7, 7, 7, 7, 7, 7, 7, 7, 7, 7, 7, 7, 7, 7, 7, 7, 7, 7, 7, 7, 7, 7, 7, 7, 7, 8, 8, 8, 8, 8, 8, 8, 8, 8, 8, 8, 8, 8, 8, 8, 8, 8, 8, 8, 8, 8, 8, 8, 8, 8, 8, 8, 8, 8, 8, 8, 8, 8, 8, 8, 8, 8, 8, 8, 8, 8, 8, 8, 8, 8, 8, 8, 8, 8, 8, 8, 8, 8, 8, 8, 8, 8, 8, 8, 8, 8, 8, 8, 8, 8, 8, 8, 8, 8, 8, 8, 8, 8, 8, 8, 8, 8, 8, 8, 8, 8, 8, 8, 8, 8, 8, 8, 8, 8, 8, 8, 8, 8, 8, 8, 8, 8, 8, 8, 8, 8, 8, 8, 8, 8, 8, 8, 8, 8, 8, 8, 8, 8, 8, 8, 8, 8, 8, 8, 8, 8, 8, 8, 8, 8, 8, 8, 8]⟩ : ByteArray) ((x0 / 65536) % 256)))))) else (none)) else (none))) else (if x0 ≥ 256 then (if 0 ≤ ((x0 / 256) % 256) then (if ((x0 / 256) % 256) < 256 then (some (wrap64 ((wrap64 (x2 + 8)) + (wrap64 (bt (⟨#[0, 1, 2, 2, 3, 3, 3, 3, 4, 4, 4, 4, 4, 4, 4, 4, 5, 5, 5, 5, 5, 5, 5, 5, 5, 5, 5, 5, 5, 5, 5, 5, 6, 6, 6, 6, 6, 6, 6, 6, 6, 6, 6, 6, 6, 6, 6, 6, 6, 6, 6, 6, 6, 6, 6, 6, 6, 6, 6, 6, 6, 6, 6, 6, 7, 7, 7, 7, 7, 7, 7, 7, 7, 7, 7, 7, 7, 7, 7, 7, 7, 7, 7, 7, 7, 7, 7, 7, 7, 7, 7, 7, 7, 7, 7, 7, 7, 7, 7, 7, 7, 7, 7, 7, 7, 7, 7, 7, 7, 7, 7, 7, 7, 7, 7, 7, 7, 7, 7, 7, 7, 7, 7, 7, 7, 7, 7, 7, 8, 8, 8, 8, 8, 8, 8, 8, 8, 8, 8, 8, 8, 8, 8, 8, 8, 8, 8, 8, 8, 8, 8, 8, 8, 8, 8, 8, 8, 8, 8, 8, 8, 8, 8, 8, 8, 8, 8, 8, 8, 8, 8, 8, 8, 8, 8, 8, 8, 8, 8, 8, 8, 8, 8, 8, 8, 8, 8, 8, 8, 8, 8, 8, 8, 8, 8, 8, 8, 8, 8, 8, 8, 8, 8, 8, 8, 8, 8, 8, 8, 8, 8, 8, 8, 8, 8, 8, 8, 8, 8, 8, 8, 8, 8, 8, 8, 8, 8, 8, 8, 8, 8, 8, 8, 8, 8, 8, 8, 8, 8, 8, 8, 8, 8, 8, 8, 8, 8, 8, 8, 8, 8, 8, 8, 8, 8, 8]⟩ : ByteArray) ((x0 / 256) % 256)))))) else (none)) else (none)) else (if 0 ≤ ((x0) % 256) then (if ((x0) % 256) < 256 then (some (wrap64 (x2 + (wrap64 (bt (⟨#[0, 1, 2, 2, 3, 3, 3, 3, 4, 4, 4, 4, 4, 4, 4, 4, 5, 5, 5, 5, 5, 5, 5, 5, 5, 5, 5, 5, 5, 5, 5, 5, 6, 6, 6, 6, 6, 6, 6, 6, 6, 6, 6, 6, 6, 6, 6, 6, 6, 6, 6, 6, 6, 6, 6, 6, 6, 6, 6, 6, 6, 6, 6, 6, 7, 7, 7, 7, 7, 7, 7, 7, 7, 7, 7, 7, 7, 7, 7, 7, 7, 7, 7, 7, 7, 7, 7, 7, 7, 7, 7, 7, 7, 7, 7, 7, 7, 7, 7, 7, 7, 7, 7, 7, 7, 7, 7, 7, 7, 7, 7, 7, 7, 7, 7, 7, 7, 7, 7, 7, 7, 7, 7, 7, 7, 7, 7, 7, 8, 8, 8, 8, 8, 8, 8, 8, 8, 8, 8, 8, 8, 8, 8, 8, 8, 8, 8, 8, 8, 8, 8, 8, 8, 8, 8, 8, 8, 8, 8, 8, 8, 8, 8, 8, 8, 8, 8, 8, 8, 8, 8, 8, 8, 8, 8, 8, 8, 8, 8, 8, 8, 8, 8, 8, 8, 8, 8, 8, 8, 8, 8, 8, 8, 8, 8, 8, 8, 8, 8, 8, 8, 8, 8, 8, 8, 8, 8, 8, 8, 8, 8, 8, 8, 8, 8, 8, 8, 8, 8, 8, 8, 8, 8, 8, 8, 8, 8, 8, 8, 8, 8, 8, 8, 8, 8, 8, 8, 8, 8, 8, 8, 8, 8, 8, 8, 8, 8, 8, 8, 8, 8, 8, 8, 8, 8, 8]⟩ : ByteArray) ((x0) % 256)))))) else (none)) else (none)))
def bits_Len64.f (k : Nat) (a0 : Int) : Option (Int) := if a0 ≥ 4294967296 then (bits_Len64.j0 k (a0 / 4294967296) 32) else (bits_Len64.j0 k a0 0)
theorem bits_Len64.mono_l : ∀ k, (∀ y0 y1, LeO (bits_Len64.j0 k y0 y1) (bits_Len64.j0 (k + 1) y0 y1))
 | 0 => fun _ _ r h => by simp [bits_Len64.j0] at h
 | k + 1 => by
  have ih0 := bits_Len64.mono_l k
  ·intro y0 y1
   unfold bits_Len64.j0
   repeat' first
   | (with_reducible first | exact ih0 _ _ | exact LeO.refl _ | exact LeO.none _ | refine LeO.ite ?_ ?_ | refine LeO.bind ?_ (fun _ => ?_))
   | exact ih0 _ _
   | exact LeO.none _
   | refine LeO.ite ?_ ?_
   | refine LeO.bind ?_ (fun _ => ?_)
theorem bits_Len64.mono : ∀ a0 k, LeO (bits_Len64.f k a0) (bits_Len64.f (k + 1) a0) := by
 intro a0 k
 have ih0 := bits_Len64.mono_l k
 unfold bits_Len64.f
 repeat' first
   | (with_reducible first | exact ih0 _ _ | exact LeO.refl _ | exact LeO.none _ | refine LeO.ite ?_ ?_ | refine LeO.bind ?_ (fun _ => ?_))
   | exact ih0 _ _
   | exact LeO.none _
   | refine LeO.ite ?_ ?_
   | refine LeO.bind ?_ (fun _ => ?_)
def bits_Len.f (k : Nat) (a0 : Int) : Option (Int) := (bits_Len64.f k a0).bind fun t771 => (some t771)
theorem bits_Len.mono : ∀ a0 k, LeO (bits_Len.f k a0) (bits_Len.f (k + 1) a0) := by
 intro a0 k
 unfold bits_Len.f
 repeat' first
   | (with_reducible first | exact bits_Len64.mono _ _ | exact LeO.refl _ | exact LeO.none _ | refine LeO.ite ?_ ?_ | refine LeO.bind ?_ (fun _ => ?_))
   | exact bits_Len64.mono _ _
   | exact LeO.none _
   | refine LeO.ite ?_ ?_
   | refine LeO.bind ?_ (fun _ => ?_)
mutual
def nat_Pow.j0 : Nat → List Int → Int → Bool → Option (List Int × Int)
 | 0, _, _, _ => none
 | k + 1, x0, x1, x19 => if x19 = true then ((nat_limited.f x0).bind fun bt777 => (some (bt777.1, bt777.2))) else (if x1 > 131072 then (some (([] : List Int), 2)) else ((mag_Bits.f x0).bind fun t781 => (if (wrap64 ((wrap64 (t781 - 1)) * x1)) ≥ 131072 then (some (([] : List Int), 2)) else ((bits_Len.f k (IntKind.u64.wrap (x1))).bind fun t785 => (nat_Pow.l0 k x0 x1 (([1] : List Int)) (wrap64 (t785 - 1)))))))
def nat_Pow.l0 : Nat → List Int → Int → List Int → Int → Option (List Int × Int)
 | 0, _, _, _, _ => none
 | k + 1, x0, x1, x6, x7 => if x7 ≥ 0 then ((mag_Mul.f k x6 x6).bind fun t790 => (if 0 ≤ x7 then (if (Go.bits .and .i64 (shr .i64 x1 x7) 1) = 1 then ((mag_Mul.f k t790 x0).bind fun t793 => (nat_Pow.l0 k x0 x1 t793 (wrap64 (x7 - 1)))) else (nat_Pow.l0 k x0 x1 t790 (wrap64 (x7 - 1)))) else (none))) else ((nat_limited.f x6).bind fun bt786 => (some (bt786.1, bt786.2)))
end
def nat_Pow.f (k : Nat) (l0 : List Int) (a1 : Int) : Option (List Int × Int) := (nat_Valid.f l0).bind fun t772 => (if t772 = true then (if a1 < 0 then (some (([] : List Int), 1)) else (if a1 = 0 then (some ((([1] : List Int)), 0)) else (if (l0.length : Int) = 0 then (nat_Pow.j0 k l0 a1 true) else (if (l0.length : Int) = 1 then (if 0 < (l0.length : Int) then (nat_Pow.j0 k l0 a1 ((rd l0 0) == 1)) else (none)) else (nat_Pow.j0 k l0 a1 false))))) else (some (([] : List Int), 3)))
theorem nat_Pow.mono_l : ∀ k, (∀ y0 y1 y2, LeO (nat_Pow.j0 k y0 y1 y2) (nat_Pow.j0 (k + 1) y0 y1 y2)) ∧ (∀ y0 y1 y2 y3, LeO (nat_Pow.l0 k y0 y1 y2 y3) (nat_Pow.l0 (k + 1) y0 y1 y2 y3))
 | 0 => ⟨fun _ _ _ r h => by simp [nat_Pow.j0] at h, fun _ _ _ _ r h => by simp [nat_Pow.l0] at h⟩
 | k + 1 => by
  obtain ⟨ih0, ih1⟩ := nat_Pow.mono_l k
  refine ⟨?_, ?_⟩
  ·intro y0 y1 y2
   unfold nat_Pow.j0
   repeat' first
   | (with_reducible first | exact ih0 _ _ _ | exact ih1 _ _ _ _ | exact bits_Len.mono _ _ | exact mag_Mul.mono _ _ _ | exact LeO.refl _ | exact LeO.none _ | refine LeO.ite ?_ ?_ | refine LeO.bind ?_ (fun _ => ?_))
   | exact ih0 _ _ _
   | exact ih1 _ _ _ _
   | exact bits_Len.mono _ _
   | exact mag_Mul.mono _ _ _
   | exact LeO.none _
   | refine LeO.ite ?_ ?_
   | refine LeO.bind ?_ (fun _ => ?_)
  ·intro y0 y1 y2 y3
   unfold nat_Pow.l0
   repeat' first
   | (with_reducible first | exact ih0 _ _ _ | exact ih1 _ _ _ _ | exact bits_Len.mono _ _ | exact mag_Mul.mono _ _ _ | exact LeO.refl _ | exact LeO.none _ | refine LeO.ite ?_ ?_ | refine LeO.bind ?_ (fun _ => ?_))
   | exact ih0 _ _ _
   | exact ih1 _ _ _ _
   | exact bits_Len.mono _ _
   | exact mag_Mul.mono _ _ _
   | exact LeO.none _
   | refine LeO.ite ?_ ?_
   | refine LeO.bind ?_ (fun _ => ?_)
theorem nat_Pow.mono : ∀ a0 a1 k, LeO (nat_Pow.f k a0 a1) (nat_Pow.f (k + 1) a0 a1) := by
 intro a0 a1 k
 obtain ⟨ih0, ih1⟩ := nat_Pow.mono_l k
 unfold nat_Pow.f
 repeat' first
   | (with_reducible first | exact ih0 _ _ _ | exact ih1 _ _ _ _ | exact bits_Len.mono _ _ | exact mag_Mul.mono _ _ _ | exact LeO.refl _ | exact LeO.none _ | refine LeO.ite ?_ ?_ | refine LeO.bind ?_ (fun _ => ?_))
   | exact ih0 _ _ _
   | exact ih1 _ _ _ _
   | exact bits_Len.mono _ _
   | exact mag_Mul.mono _ _ _
   | exact LeO.none _
   | refine LeO.ite ?_ ?_
   | refine LeO.bind ?_ (fun _ => ?_)
def isochroneref01_Pow.l0 : Nat → List Int → List Int → Int → Int → Option (List Int)
 | 0, _, _, _, _ => none
 | k + 1, x0, x5, x7, x8 => if x8 < x7 then ((isochroneref01_Mul.f k x5 x0).bind fun t799 => (isochroneref01_Pow.l0 k x0 t799 x7 (wrap64 (x8 + 1)))) else (some x5)
def isochroneref01_Pow.f (k : Nat) (l0 : List Int) (a1 : Int) : Option (List Int) := isochroneref01_Pow.l0 k l0 (([1] : List Int)) a1 0
theorem isochroneref01_Pow.mono_l : ∀ k, (∀ y0 y1 y2 y3, LeO (isochroneref01_Pow.l0 k y0 y1 y2 y3) (isochroneref01_Pow.l0 (k + 1) y0 y1 y2 y3))
 | 0 => fun _ _ _ _ r h => by simp [isochroneref01_Pow.l0] at h
 | k + 1 => by
  have ih0 := isochroneref01_Pow.mono_l k
  ·intro y0 y1 y2 y3
   unfold isochroneref01_Pow.l0
   repeat' first
   | (with_reducible first | exact ih0 _ _ _ _ | exact isochroneref01_Mul.mono _ _ _ | exact LeO.refl _ | exact LeO.none _ | refine LeO.ite ?_ ?_ | refine LeO.bind ?_ (fun _ => ?_))
   | exact ih0 _ _ _ _
   | exact isochroneref01_Mul.mono _ _ _
   | exact LeO.none _
   | refine LeO.ite ?_ ?_
   | refine LeO.bind ?_ (fun _ => ?_)
theorem isochroneref01_Pow.mono : ∀ a0 a1 k, LeO (isochroneref01_Pow.f k a0 a1) (isochroneref01_Pow.f (k + 1) a0 a1) := by
 intro a0 a1 k
 have ih0 := isochroneref01_Pow.mono_l k
 unfold isochroneref01_Pow.f
 repeat' first
   | (with_reducible first | exact ih0 _ _ _ _ | exact isochroneref01_Mul.mono _ _ _ | exact LeO.refl _ | exact LeO.none _ | refine LeO.ite ?_ ?_ | refine LeO.bind ?_ (fun _ => ?_))
   | exact ih0 _ _ _ _
   | exact isochroneref01_Mul.mono _ _ _
   | exact LeO.none _
   | refine LeO.ite ?_ ?_
   | refine LeO.bind ?_ (fun _ => ?_)
def isochronelaw01_NatPowers.j0 : Nat → List Int → Int → List Int → Int → Bool → Option (Bool)
 | 0, _, _, _, _, _ => none
 | k + 1, x0, x1, x5, x6, x40 => if x40 = true then (if x6 = 0 then ((isochroneref01_Of.f k x0).bind fun t809 => ((isochronelaw01_is.f k x5 t809).bind fun t812 => (if t812 = true then (if x1 > 0 then (some true) else (if x1 = 0 then ((isochroneref01_Int.f k 1).bind fun t813 => ((isochronelaw01_is.f k x5 t813).bind fun t816 => (some t816))) else (some false))) else (if x1 = 0 then ((isochroneref01_Int.f k 1).bind fun t817 => ((isochronelaw01_is.f k x5 t817).bind fun t820 => (some t820))) else (some false))))) else (some false)) else (if x1 ≤ 60 then (if x6 = 0 then ((isochroneref01_Of.f k x0).bind fun t821 => ((isochroneref01_Pow.f k t821 x1).bind fun t824 => ((isochronelaw01_is.f k x5 t824).bind fun t827 => (some t827)))) else (some false)) else (if x1 ≥ 131072 then (if x6 = 2 then (some ((x5.length : Int) == 0)) else (some false)) else (some true)))
def isochronelaw01_NatPowers.f (k : Nat) (l0 : List Int) (a1 : Int) : Option (Bool) := (isochronelaw01_awake.f k).bind fun t802 => (if t802 = true then ((isochronelaw01_small.f l0 ([] : List Int) 4).bind fun t803 => (if t803 = true then ((nat_Pow.f k l0 a1).bind fun bt804 => (if a1 < 0 then (if bt804.2 = 1 then (some ((bt804.1.length : Int) == 0)) else (some false)) else (if (l0.length : Int) = 0 then (isochronelaw01_NatPowers.j0 k l0 a1 bt804.1 bt804.2 true) else (if (l0.length : Int) = 1 then (if 0 < (l0.length : Int) then (isochronelaw01_NatPowers.j0 k l0 a1 bt804.1 bt804.2 ((rd l0 0) == 1)) else (none)) else (isochronelaw01_NatPowers.j0 k l0 a1 bt804.1 bt804.2 false))))) else (some true))) else (some false))
theorem isochronelaw01_NatPowers.mono_l : ∀ k, (∀ y0 y1 y2 y3 y4, LeO (isochronelaw01_NatPowers.j0 k y0 y1 y2 y3 y4) (isochronelaw01_NatPowers.j0 (k + 1) y0 y1 y2 y3 y4))
 | 0 => fun _ _ _ _ _ r h => by simp [isochronelaw01_NatPowers.j0] at h
 | k + 1 => by
  have ih0 := isochronelaw01_NatPowers.mono_l k
  ·intro y0 y1 y2 y3 y4
   unfold isochronelaw01_NatPowers.j0
   repeat' first
   | (with_reducible first | exact ih0 _ _ _ _ _ | exact isochronelaw01_awake.mono _ | exact isochronelaw01_is.mono _ _ _ | exact isochroneref01_Int.mono _ _ | exact isochroneref01_Of.mono _ _ | exact isochroneref01_Pow.mono _ _ _ | exact nat_Pow.mono _ _ _ | exact LeO.refl _ | exact LeO.none _ | refine LeO.ite ?_ ?_ | refine LeO.bind ?_ (fun _ => ?_))
   | exact ih0 _ _ _ _ _
   | exact isochronelaw01_awake.mono _
   | exact isochronelaw01_is.mono _ _ _
   | exact isochroneref01_Int.mono _ _
   | exact isochroneref01_Of.mono _ _
   | exact isochroneref01_Pow.mono _ _ _
   | exact nat_Pow.mono _ _ _
   | exact LeO.none _
   | refine LeO.ite ?_ ?_
   | refine LeO.bind ?_ (fun _ => ?_)
theorem isochronelaw01_NatPowers.mono : ∀ a0 a1 k, LeO (isochronelaw01_NatPowers.f k a0 a1) (isochronelaw01_NatPowers.f (k + 1) a0 a1) := by
 intro a0 a1 k
 have ih0 := isochronelaw01_NatPowers.mono_l k
 unfold isochronelaw01_NatPowers.f
 repeat' first
   | (with_reducible first | exact ih0 _ _ _ _ _ | exact isochronelaw01_awake.mono _ | exact isochronelaw01_is.mono _ _ _ | exact isochroneref01_Int.mono _ _ | exact isochroneref01_Of.mono _ _ | exact isochroneref01_Pow.mono _ _ _ | exact nat_Pow.mono _ _ _ | exact LeO.refl _ | exact LeO.none _ | refine LeO.ite ?_ ?_ | refine LeO.bind ?_ (fun _ => ?_))
   | exact ih0 _ _ _ _ _
   | exact isochronelaw01_awake.mono _
   | exact isochronelaw01_is.mono _ _ _
   | exact isochroneref01_Int.mono _ _
   | exact isochroneref01_Of.mono _ _
   | exact isochroneref01_Pow.mono _ _ _
   | exact nat_Pow.mono _ _ _
   | exact LeO.none _
   | refine LeO.ite ?_ ?_
   | refine LeO.bind ?_ (fun _ => ?_)
def mag_combine.j0 : Nat → List Int → List Int → Int → Int → Bool → Option (List Int)
 | 0, _, _, _, _, _ => none
 | k + 1, x0, x1, x2, x3, x14 => if x14 = true then ((mag_From.f k (IntKind.u64.wrap (x3))).bind fun t828 => ((mag_Mul.f k x1 t828).bind fun t831 => ((mag_From.f k (IntKind.u64.wrap (wrap64 (-x2)))).bind fun t834 => ((mag_Mul.f k x0 t834).bind fun t837 => ((mag_Sub.f k t831 t837).bind fun t840 => (some t840)))))) else ((mag_From.f k (IntKind.u64.wrap (x2))).bind fun t843 => ((mag_Mul.f k x0 t843).bind fun t846 => ((mag_From.f k (IntKind.u64.wrap (wrap64 (-x3)))).bind fun t849 => ((mag_Mul.f k x1 t849).bind fun t852 => ((mag_Sub.f k t846 t852).bind fun t855 => (some t855))))))
def mag_combine.f (k : Nat) (l0 : List Int) (l1 : List Int) (a2 : Int) (a3 : Int) : Option (List Int) := if a2 < 0 then (mag_combine.j0 k l0 l1 a2 a3 true) else (mag_combine.j0 k l0 l1 a2 a3 (decide (a3 > 0)))
theorem mag_combine.mono_l : ∀ k, (∀ y0 y1 y2 y3 y4, LeO (mag_combine.j0 k y0 y1 y2 y3 y4) (mag_combine.j0 (k + 1) y0 y1 y2 y3 y4))
 | 0 => fun _ _ _ _ _ r h => by simp [mag_combine.j0] at h
 | k + 1 => by
  have ih0 := mag_combine.mono_l k
  ·intro y0 y1 y2 y3 y4
   unfold mag_combine.j0
   repeat' first
   | (with_reducible first | exact ih0 _ _ _ _ _ | exact mag_From.mono _ _ | exact mag_Mul.mono _ _ _ | exact mag_Sub.mono _ _ _ | exact LeO.refl _ | exact LeO.none _ | refine LeO.ite ?_ ?_ | refine LeO.bind ?_ (fun _ => ?_))
   | exact ih0 _ _ _ _ _
   | exact mag_From.mono _ _
   | exact mag_Mul.mono _ _ _
   | exact mag_Sub.mono _ _ _
   | exact LeO.none _
   | refine LeO.ite ?_ ?_
   | refine LeO.bind ?_ (fun _ => ?_)
theorem mag_combine.mono : ∀ a0 a1 a2 a3 k, LeO (mag_combine.f k a0 a1 a2 a3) (mag_combine.f (k + 1) a0 a1 a2 a3) := by
 intro a0 a1 a2 a3 k
 have ih0 := mag_combine.mono_l k
 unfold mag_combine.f
 repeat' first
   | (with_reducible first | exact ih0 _ _ _ _ _ | exact mag_From.mono _ _ | exact mag_Mul.mono _ _ _ | exact mag_Sub.mono _ _ _ | exact LeO.refl _ | exact LeO.none _ | refine LeO.ite ?_ ?_ | refine LeO.bind ?_ (fun _ => ?_))
   | exact ih0 _ _ _ _ _
   | exact mag_From.mono _ _
   | exact mag_Mul.mono _ _ _
   | exact mag_Sub.mono _ _ _
   | exact LeO.none _
   | refine LeO.ite ?_ ?_
   | refine LeO.bind ?_ (fun _ => ?_)
mutual
def mag_lehmer.j2 : Nat → List Int → List Int → Int → Int → Int → Int → Option (List Int × List Int × Bool)
 | 0, _, _, _, _, _, _ => none
 | k + 1, x0, x1, x12, x13, x14, x15 => if x13 = 0 then (some (([] : List Int), ([] : List Int), false)) else ((mag_combine.f k x0 x1 x12 x13).bind fun t870 => ((mag_combine.f k x0 x1 x14 x15).bind fun t873 => (some (t870, t873, true))))
def mag_lehmer.l0 : Nat → List Int → List Int → Int → Int → Int → Int → Int → Int → Option (List Int × List Int × Bool)
 | 0, _, _, _, _, _, _, _, _ => none
 | k + 1, x0, x1, x12, x13, x14, x15, x16, x17 => if (wrap64 (x17 + x14)) = 0 then (mag_lehmer.j1 k x0 x1 x12 x13 x14 x15 x16 x17 false) else (mag_lehmer.j1 k x0 x1 x12 x13 x14 x15 x16 x17 ((wrap64 (x17 + x15)) != 0))
def mag_lehmer.j1 : Nat → List Int → List Int → Int → Int → Int → Int → Int → Int → Bool → Option (List Int × List Int × Bool)
 | 0, _, _, _, _, _, _, _, _, _ => none
 | k + 1, x0, x1, x12, x13, x14, x15, x16, x17, x55 => if x55 = true then (if (wrap64 (x17 + x14)) = 0 then (none) else (if (wrap64 (x17 + x15)) = 0 then (none) else (if (wrap64 (Int.tdiv (wrap64 (x16 + x12)) (wrap64 (x17 + x14)))) = (wrap64 (Int.tdiv (wrap64 (x16 + x13)) (wrap64 (x17 + x15)))) then (mag_lehmer.l0 k x0 x1 x14 x15 (wrap64 (x12 - (wrap64 ((wrap64 (Int.tdiv (wrap64 (x16 + x12)) (wrap64 (x17 + x14)))) * x14)))) (wrap64 (x13 - (wrap64 ((wrap64 (Int.tdiv (wrap64 (x16 + x12)) (wrap64 (x17 + x14)))) * x15)))) x17 (wrap64 (x16 - (wrap64 ((wrap64 (Int.tdiv (wrap64 (x16 + x12)) (wrap64 (x17 + x14)))) * x17))))) else (mag_lehmer.j2 k x0 x1 x12 x13 x14 x15)))) else (mag_lehmer.j2 k x0 x1 x12 x13 x14 x15)
end
def mag_lehmer.f (k : Nat) (l0 : List Int) (l1 : List Int) : Option (List Int × List Int × Bool) := (mag_Bits.f l0).bind fun t858 => ((mag_Bits.f l1).bind fun t859 => (if t859 < (wrap64 (t858 - 20)) then (some (([] : List Int), ([] : List Int), false)) else ((mag_Shr.f k l0 (wrap64 (t858 - 31))).bind fun t860 => ((mag_Small.f t860).bind fun bt863 => ((mag_Shr.f k l1 (wrap64 (t858 - 31))).bind fun t865 => ((mag_Small.f t865).bind fun bt868 => (mag_lehmer.l0 k l0 l1 1 0 0 1 (wrap64 (bt863.1)) (wrap64 (bt868.1)))))))))
theorem mag_lehmer.mono_l : ∀ k, (∀ y0 y1 y2 y3 y4 y5, LeO (mag_lehmer.j2 k y0 y1 y2 y3 y4 y5) (mag_lehmer.j2 (k + 1) y0 y1 y2 y3 y4 y5)) ∧ (∀ y0 y1 y2 y3 y4 y5 y6 y7, LeO (mag_lehmer.l0 k y0 y1 y2 y3 y4 y5 y6 y7) (mag_lehmer.l0 (k + 1) y0 y1 y2 y3 y4 y5 y6 y7)) ∧ (∀ y0 y1 y2 y3 y4 y5 y6 y7 y8, LeO (mag_lehmer.j1 k y0 y1 y2 y3 y4 y5 y6 y7 y8) (mag_lehmer.j1 (k + 1) y0 y1 y2 y3 y4 y5 y6 y7 y8))
 | 0 => ⟨fun _ _ _ _ _ _ r h => by simp [mag_lehmer.j2] at h, fun _ _ _ _ _ _ _ _ r h => by simp [mag_lehmer.l0] at h, fun _ _ _ _ _ _ _ _ _ r h => by simp [mag_lehmer.j1] at h⟩
 | k + 1 => by
  obtain ⟨ih0, ih1, ih2⟩ := mag_lehmer.mono_l k
  refine ⟨?_, ?_, ?_⟩
  ·intro y0 y1 y2 y3 y4 y5
   unfold mag_lehmer.j2
   repeat' first
   | (with_reducible first | exact ih0 _ _ _ _ _ _ | exact ih1 _ _ _ _ _ _ _ _ | exact ih2 _ _ _ _ _ _ _ _ _ | exact mag_Shr.mono _ _ _ | exact mag_combine.mono _ _ _ _ _ | exact LeO.refl _ | exact LeO.none _ | refine LeO.ite ?_ ?_ | refine LeO.bind ?_ (fun _ => ?_))
   | exact ih0 _ _ _ _ _ _
   | exact ih1 _ _ _ _ _ _ _ _
   | exact ih2 _ _ _ _ _ _ _ _ _
   | exact mag_Shr.mono _ _ _
   | exact mag_combine.mono _ _ _ _ _
   | exact LeO.none _
   | refine LeO.ite ?_ ?_
   | refine LeO.bind ?_ (fun _ => ?_)
  ·intro y0 y1 y2 y3 y4 y5 y6 y7
   unfold mag_lehmer.l0
   repeat' first
   | (with_reducible first | exact ih0 _ _ _ _ _ _ | exact ih1 _ _ _ _ _ _ _ _ | exact ih2 _ _ _ _ _ _ _ _ _ | exact mag_Shr.mono _ _ _ | exact mag_combine.mono _ _ _ _ _ | exact LeO.refl _ | exact LeO.none _ | refine LeO.ite ?_ ?_ | refine LeO.bind ?_ (fun _ => ?_))
   | exact ih0 _ _ _ _ _ _
   | exact ih1 _ _ _ _ _ _ _ _
   | exact ih2 _ _ _ _ _ _ _ _ _
   | exact mag_Shr.mono _ _ _
   | exact mag_combine.mono _ _ _ _ _
   | exact LeO.none _
   | refine LeO.ite ?_ ?_
   | refine LeO.bind ?_ (fun _ => ?_)
  ·intro y0 y1 y2 y3 y4 y5 y6 y7 y8
   unfold mag_lehmer.j1
   repeat' first
   | (with_reducible first | exact ih0 _ _ _ _ _ _ | exact ih1 _ _ _ _ _ _ _ _ | exact ih2 _ _ _ _ _ _ _ _ _ | exact mag_Shr.mono _ _ _ | exact mag_combine.mono _ _ _ _ _ | exact LeO.refl _ | exact LeO.none _ | refine LeO.ite ?_ ?_ | refine LeO.bind ?_ (fun _ => ?_))
   | exact ih0 _ _ _ _ _ _
   | exact ih1 _ _ _ _ _ _ _ _
   | exact ih2 _ _ _ _ _ _ _ _ _
   | exact mag_Shr.mono _ _ _
   | exact mag_combine.mono _ _ _ _ _
   | exact LeO.none _
   | refine LeO.ite ?_ ?_
   | refine LeO.bind ?_ (fun _ => ?_)
theorem mag_lehmer.mono : ∀ a0 a1 k, LeO (mag_lehmer.f k a0 a1) (mag_lehmer.f (k + 1) a0 a1) := by
 intro a0 a1 k
 obtain ⟨ih0, ih1, ih2⟩ := mag_lehmer.mono_l k
 unfold mag_lehmer.f
 repeat' first
   | (with_reducible first | exact ih0 _ _ _ _ _ _ | exact ih1 _ _ _ _ _ _ _ _ | exact ih2 _ _ _ _ _ _ _ _ _ | exact mag_Shr.mono _ _ _ | exact mag_combine.mono _ _ _ _ _ | exact LeO.refl _ | exact LeO.none _ | refine LeO.ite ?_ ?_ | refine LeO.bind ?_ (fun _ => ?_))
   | exact ih0 _ _ _ _ _ _
   | exact ih1 _ _ _ _ _ _ _ _
   | exact ih2 _ _ _ _ _ _ _ _ _
   | exact mag_Shr.mono _ _ _
   | exact mag_combine.mono _ _ _ _ _
   | exact LeO.none _
   | refine LeO.ite ?_ ?_
   | refine LeO.bind ?_ (fun _ => ?_)
mutual
def mag_GCD.j0 : Nat → List Int → List Int → Option (List Int)
 | 0, _, _ => none
 | k + 1, x0, x1 => mag_GCD.l0 k x0 x1
def mag_GCD.l0 : Nat → List Int → List Int → Option (List Int)
 | 0, _, _ => none
 | k + 1, x0, x1 => if (x1.length : Int) > 2 then ((mag_lehmer.f k x0 x1).bind fun bt877 => (if bt877.2.2 = true then (mag_GCD.l0 k bt877.1 bt877.2.1) else ((mag_DivMod.f k x0 x1).bind fun bt884 => (mag_GCD.l0 k x1 bt884.2)))) else (if (x1.length : Int) = 0 then (if ([] : List Int).length + x0.length < 35184372088832 then (some (([] : List Int) ++ x0)) else (none)) else ((mag_DivMod.f k x0 x1).bind fun bt893 => ((mag_Small.f x1).bind fun bt899 => ((mag_Small.f bt893.2).bind fun bt901 => (mag_GCD.l1 k bt899.1 bt901.1)))))
def mag_GCD.l1 : Nat → Int → Int → Option (List Int)
 | 0, _, _ => none
 | k + 1, x12, x14 => if x14 = 0 then ((mag_From.f k x12).bind fun t903 => (some t903)) else (mag_GCD.l1 k x14 (Int.tmod x12 x14))
end
def mag_GCD.f (k : Nat) (l0 : List Int) (l1 : List Int) : Option (List Int) := (mag_Cmp.f k l0 l1).bind fun t876 => (if t876 < 0 then (mag_GCD.j0 k l1 l0) else (mag_GCD.j0 k l0 l1))
theorem mag_GCD.mono_l : ∀ k, (∀ y0 y1, LeO (mag_GCD.j0 k y0 y1) (mag_GCD.j0 (k + 1) y0 y1)) ∧ (∀ y0 y1, LeO (mag_GCD.l0 k y0 y1) (mag_GCD.l0 (k + 1) y0 y1)) ∧ (∀ y0 y1, LeO (mag_GCD.l1 k y0 y1) (mag_GCD.l1 (k + 1) y0 y1))
 | 0 => ⟨fun _ _ r h => by simp [mag_GCD.j0] at h, fun _ _ r h => by simp [mag_GCD.l0] at h, fun _ _ r h => by simp [mag_GCD.l1] at h⟩
 | k + 1 => by
  obtain ⟨ih0, ih1, ih2⟩ := mag_GCD.mono_l k
  refine ⟨?_, ?_, ?_⟩
  ·intro y0 y1
   unfold mag_GCD.j0
   repeat' first
   | (with_reducible first | exact ih0 _ _ | exact ih1 _ _ | exact ih2 _ _ | exact mag_Cmp.mono _ _ _ | exact mag_DivMod.mono _ _ _ | exact mag_From.mono _ _ | exact mag_lehmer.mono _ _ _ | exact LeO.refl _ | exact LeO.none _ | refine LeO.ite ?_ ?_ | refine LeO.bind ?_ (fun _ => ?_))
   | exact ih0 _ _
   | exact ih1 _ _
   | exact ih2 _ _
   | exact mag_Cmp.mono _ _ _
   | exact mag_DivMod.mono _ _ _
   | exact mag_From.mono _ _
   | exact mag_lehmer.mono _ _ _
   | exact LeO.none _
   | refine LeO.ite ?_ ?_
   | refine LeO.bind ?_ (fun _ => ?_)
  ·intro y0 y1
   unfold mag_GCD.l0
   repeat' first
   | (with_reducible first | exact ih0 _ _ | exact ih1 _ _ | exact ih2 _ _ | exact mag_Cmp.mono _ _ _ | exact mag_DivMod.mono _ _ _ | exact mag_From.mono _ _ | exact mag_lehmer.mono _ _ _ | exact LeO.refl _ | exact LeO.none _ | refine LeO.ite ?_ ?_ | refine LeO.bind ?_ (fun _ => ?_))
   | exact ih0 _ _
   | exact ih1 _ _
   | exact ih2 _ _
   | exact mag_Cmp.mono _ _ _
   | exact mag_DivMod.mono _ _ _
   | exact mag_From.mono _ _
   | exact mag_lehmer.mono _ _ _
   | exact LeO.none _
   | refine LeO.ite ?_ ?_
   | refine LeO.bind ?_ (fun _ => ?_)
  ·intro y0 y1
   unfold mag_GCD.l1
   repeat' first
   | (with_reducible first | exact ih0 _ _ | exact ih1 _ _ | exact ih2 _ _ | exact mag_Cmp.mono _ _ _ | exact mag_DivMod.mono _ _ _ | exact mag_From.mono _ _ | exact mag_lehmer.mono _ _ _ | exact LeO.refl _ | exact LeO.none _ | refine LeO.ite ?_ ?_ | refine LeO.bind ?_ (fun _ => ?_))
   | exact ih0 _ _
   | exact ih1 _ _
   | exact ih2 _ _
   | exact mag_Cmp.mono _ _ _
   | exact mag_DivMod.mono _ _ _
   | exact mag_From.mono _ _
   | exact mag_lehmer.mono _ _ _
   | exact LeO.none _
   | refine LeO.ite ?_ ?_
   | refine LeO.bind ?_ (fun _ => ?_)
theorem mag_GCD.mono : ∀ a0 a1 k, LeO (mag_GCD.f k a0 a1) (mag_GCD.f (k + 1) a0 a1) := by
 intro a0 a1 k
 obtain ⟨ih0, ih1, ih2⟩ := mag_GCD.mono_l k
 unfold mag_GCD.f
 repeat' first
   | (with_reducible first | exact ih0 _ _ | exact ih1 _ _ | exact ih2 _ _ | exact mag_Cmp.mono _ _ _ | exact mag_DivMod.mono _ _ _ | exact mag_From.mono _ _ | exact mag_lehmer.mono _ _ _ | exact LeO.refl _ | exact LeO.none _ | refine LeO.ite ?_ ?_ | refine LeO.bind ?_ (fun _ => ?_))
   | exact ih0 _ _
   | exact ih1 _ _
   | exact ih2 _ _
   | exact mag_Cmp.mono _ _ _
   | exact mag_DivMod.mono _ _ _
   | exact mag_From.mono _ _
   | exact mag_lehmer.mono _ _ _
   | exact LeO.none _
   | refine LeO.ite ?_ ?_
   | refine LeO.bind ?_ (fun _ => ?_)
def nat_GCD.f (k : Nat) (l0 : List Int) (l1 : List Int) : Option (List Int × Int) := (nat_both.f l0 l1).bind fun t906 => (if t906 = true then ((mag_GCD.f k l0 l1).bind fun t907 => ((nat_limited.f t907).bind fun bt910 => (some (bt910.1, bt910.2)))) else (some (([] : List Int), 3)))
theorem nat_GCD.mono : ∀ a0 a1 k, LeO (nat_GCD.f k a0 a1) (nat_GCD.f (k + 1) a0 a1) := by
 intro a0 a1 k
 unfold nat_GCD.f
 repeat' first
   | (with_reducible first | exact mag_GCD.mono _ _ _ | exact LeO.refl _ | exact LeO.none _ | refine LeO.ite ?_ ?_ | refine LeO.bind ?_ (fun _ => ?_))
   | exact mag_GCD.mono _ _ _
   | exact LeO.none _
   | refine LeO.ite ?_ ?_
   | refine LeO.bind ?_ (fun _ => ?_)
mutual
def isochroneref01_GCD.l0 : Nat → List Int → List Int → Option (List Int)
 | 0, _, _ => none
 | k + 1, x0, x1 => if (x1.length : Int) > 0 then ((isochroneref01_little.f k x0).bind fun bt914 => ((isochroneref01_little.f k x1).bind fun bt916 => (if bt914.2 = true then (isochroneref01_GCD.j1 k x0 x1 bt914.1 bt916.1 bt916.2) else (isochroneref01_GCD.j1 k x0 x1 bt914.1 bt916.1 false)))) else (some x0)
def isochroneref01_GCD.j1 : Nat → List Int → List Int → Int → Int → Bool → Option (List Int)
 | 0, _, _, _, _, _ => none
 | k + 1, x0, x1, x5, x7, x27 => if x27 = true then (isochroneref01_GCD.l1 k x5 x7) else ((isochroneref01_DivMod.f k x0 x1).bind fun bt921 => (isochroneref01_GCD.l0 k x1 bt921.2))
def isochroneref01_GCD.l1 : Nat → Int → Int → Option (List Int)
 | 0, _, _ => none
 | k + 1, x5, x7 => if x7 > 0 then (if x7 = 0 then (none) else (isochroneref01_GCD.l1 k x7 (Int.tmod x5 x7))) else ((isochroneref01_Int.f k x5).bind fun t918 => (some t918))
end
def isochroneref01_GCD.f (k : Nat) (l0 : List Int) (l1 : List Int) : Option (List Int) := isochroneref01_GCD.l0 k l0 l1
theorem isochroneref01_GCD.mono_l : ∀ k, (∀ y0 y1, LeO (isochroneref01_GCD.l0 k y0 y1) (isochroneref01_GCD.l0 (k + 1) y0 y1)) ∧ (∀ y0 y1 y2 y3 y4, LeO (isochroneref01_GCD.j1 k y0 y1 y2 y3 y4) (isochroneref01_GCD.j1 (k + 1) y0 y1 y2 y3 y4)) ∧ (∀ y0 y1, LeO (isochroneref01_GCD.l1 k y0 y1) (isochroneref01_GCD.l1 (k + 1) y0 y1))
 | 0 => ⟨fun _ _ r h => by simp [isochroneref01_GCD.l0] at h, fun _ _ _ _ _ r h => by simp [isochroneref01_GCD.j1] at h, fun _ _ r h => by simp [isochroneref01_GCD.l1] at h⟩
 | k + 1 => by
  obtain ⟨ih0, ih1, ih2⟩ := isochroneref01_GCD.mono_l k
  refine ⟨?_, ?_, ?_⟩
  ·intro y0 y1
   unfold isochroneref01_GCD.l0
   repeat' first
   | (with_reducible first | exact ih0 _ _ | exact ih1 _ _ _ _ _ | exact ih2 _ _ | exact isochroneref01_DivMod.mono _ _ _ | exact isochroneref01_Int.mono _ _ | exact isochroneref01_little.mono _ _ | exact LeO.refl _ | exact LeO.none _ | refine LeO.ite ?_ ?_ | refine LeO.bind ?_ (fun _ => ?_))
   | exact ih0 _ _
   | exact ih1 _ _ _ _ _
   | exact ih2 _ _
   | exact isochroneref01_DivMod.mono _ _ _
   | exact isochroneref01_Int.mono _ _
   | exact isochroneref01_little.mono _ _
   | exact LeO.none _
   | refine LeO.ite ?_ ?_
   | refine LeO.bind ?_ (fun _ => ?_)
  ·intro y0 y1 y2 y3 y4
   unfold isochroneref01_GCD.j1
   repeat' first
   | (with_reducible first | exact ih0 _ _ | exact ih1 _ _ _ _ _ | exact ih2 _ _ | exact isochroneref01_DivMod.mono _ _ _ | exact isochroneref01_Int.mono _ _ | exact isochroneref01_little.mono _ _ | exact LeO.refl _ | exact LeO.none _ | refine LeO.ite ?_ ?_ | refine LeO.bind ?_ (fun _ => ?_))
   | exact ih0 _ _
   | exact ih1 _ _ _ _ _
   | exact ih2 _ _
   | exact isochroneref01_DivMod.mono _ _ _
   | exact isochroneref01_Int.mono _ _
   | exact isochroneref01_little.mono _ _
   | exact LeO.none _
   | refine LeO.ite ?_ ?_
   | refine LeO.bind ?_ (fun _ => ?_)
  ·intro y0 y1
   unfold isochroneref01_GCD.l1
   repeat' first
   | (with_reducible first | exact ih0 _ _ | exact ih1 _ _ _ _ _ | exact ih2 _ _ | exact isochroneref01_DivMod.mono _ _ _ | exact isochroneref01_Int.mono _ _ | exact isochroneref01_little.mono _ _ | exact LeO.refl _ | exact LeO.none _ | refine LeO.ite ?_ ?_ | refine LeO.bind ?_ (fun _ => ?_))
   | exact ih0 _ _
   | exact ih1 _ _ _ _ _
   | exact ih2 _ _
   | exact isochroneref01_DivMod.mono _ _ _
   | exact isochroneref01_Int.mono _ _
   | exact isochroneref01_little.mono _ _
   | exact LeO.none _
   | refine LeO.ite ?_ ?_
   | refine LeO.bind ?_ (fun _ => ?_)
theorem isochroneref01_GCD.mono : ∀ a0 a1 k, LeO (isochroneref01_GCD.f k a0 a1) (isochroneref01_GCD.f (k + 1) a0 a1) := by
 intro a0 a1 k
 obtain ⟨ih0, ih1, ih2⟩ := isochroneref01_GCD.mono_l k
 unfold isochroneref01_GCD.f
 repeat' first
   | (with_reducible first | exact ih0 _ _ | exact ih1 _ _ _ _ _ | exact ih2 _ _ | exact isochroneref01_DivMod.mono _ _ _ | exact isochroneref01_Int.mono _ _ | exact isochroneref01_little.mono _ _ | exact LeO.refl _ | exact LeO.none _ | refine LeO.ite ?_ ?_ | refine LeO.bind ?_ (fun _ => ?_))
   | exact ih0 _ _
   | exact ih1 _ _ _ _ _
   | exact ih2 _ _
   | exact isochroneref01_DivMod.mono _ _ _
   | exact isochroneref01_Int.mono _ _
   | exact isochroneref01_little.mono _ _
   | exact LeO.none _
   | refine LeO.ite ?_ ?_
   | refine LeO.bind ?_ (fun _ => ?_)
def isochronelaw01_NatDivides.j0 : Nat → List Int → List Int → List Int → List Int → List Int → Int → Bool → Option (Bool)
 | 0, _, _, _, _, _, _, _ => none
 | k + 1, x1, x5, x6, x7, x8, x9, x46 => if x46 = true then (some false) else (if (x1.length : Int) = 0 then (if x9 = 20 then (if (x7.length : Int) = 0 then (some ((x8.length : Int) == 0)) else (some false)) else (some false)) else ((isochroneref01_DivMod.f k x5 x6).bind fun bt950 => (if x9 = 0 then ((isochronelaw01_is.f k x7 bt950.1).bind fun t956 => (if t956 = true then ((isochronelaw01_is.f k x8 bt950.2).bind fun t957 => (some t957)) else (some false))) else (some false))))
def isochronelaw01_NatDivides.f (k : Nat) (l0 : List Int) (l1 : List Int) : Option (Bool) := (isochronelaw01_awake.f k).bind fun t927 => (if t927 = true then ((isochronelaw01_small.f l0 l1 24).bind fun t928 => (if t928 = true then ((isochroneref01_Of.f k l0).bind fun t929 => ((isochroneref01_Of.f k l1).bind fun t932 => ((nat_DivMod.f k l0 l1).bind fun bt935 => ((nat_GCD.f k l0 l1).bind fun bt942 => (if bt942.2 = 0 then ((isochroneref01_GCD.f k t929 t932).bind fun t946 => ((isochronelaw01_is.f k bt942.1 t946).bind fun t949 => (isochronelaw01_NatDivides.j0 k l1 t929 t932 bt935.1 bt935.2.1 bt935.2.2 (!t949)))) else (isochronelaw01_NatDivides.j0 k l1 t929 t932 bt935.1 bt935.2.1 bt935.2.2 true)))))) else (some true))) else (some false))
theorem isochronelaw01_NatDivides.mono_l : ∀ k, (∀ y0 y1 y2 y3 y4 y5 y6, LeO (isochronelaw01_NatDivides.j0 k y0 y1 y2 y3 y4 y5 y6) (isochronelaw01_NatDivides.j0 (k + 1) y0 y1 y2 y3 y4 y5 y6))
 | 0 => fun _ _ _ _ _ _ _ r h => by simp [isochronelaw01_NatDivides.j0] at h
 | k + 1 => by
  have ih0 := isochronelaw01_NatDivides.mono_l k
  ·intro y0 y1 y2 y3 y4 y5 y6
   unfold isochronelaw01_NatDivides.j0
   repeat' first
   | (with_reducible first | exact ih0 _ _ _ _ _ _ _ | exact isochronelaw01_awake.mono _ | exact isochronelaw01_is.mono _ _ _ | exact isochroneref01_DivMod.mono _ _ _ | exact isochroneref01_GCD.mono _ _ _ | exact isochroneref01_Of.mono _ _ | exact nat_DivMod.mono _ _ _ | exact nat_GCD.mono _ _ _ | exact LeO.refl _ | exact LeO.none _ | refine LeO.ite ?_ ?_ | refine LeO.bind ?_ (fun _ => ?_))
   | exact ih0 _ _ _ _ _ _ _
   | exact isochronelaw01_awake.mono _
   | exact isochronelaw01_is.mono _ _ _
   | exact isochroneref01_DivMod.mono _ _ _
   | exact isochroneref01_GCD.mono _ _ _
   | exact isochroneref01_Of.mono _ _
   | exact nat_DivMod.mono _ _ _
   | exact nat_GCD.mono _ _ _
   | exact LeO.none _
   | refine LeO.ite ?_ ?_
   | refine LeO.bind ?_ (fun _ => ?_)
theorem isochronelaw01_NatDivides.mono : ∀ a0 a1 k, LeO (isochronelaw01_NatDivides.f k a0 a1) (isochronelaw01_NatDivides.f (k + 1) a0 a1) := by
 intro a0 a1 k
 have ih0 := isochronelaw01_NatDivides.mono_l k
 unfold isochronelaw01_NatDivides.f
 repeat' first
   | (with_reducible first | exact ih0 _ _ _ _ _ _ _ | exact isochronelaw01_awake.mono _ | exact isochronelaw01_is.mono _ _ _ | exact isochroneref01_DivMod.mono _ _ _ | exact isochroneref01_GCD.mono _ _ _ | exact isochroneref01_Of.mono _ _ | exact nat_DivMod.mono _ _ _ | exact nat_GCD.mono _ _ _ | exact LeO.refl _ | exact LeO.none _ | refine LeO.ite ?_ ?_ | refine LeO.bind ?_ (fun _ => ?_))
   | exact ih0 _ _ _ _ _ _ _
   | exact isochronelaw01_awake.mono _
   | exact isochronelaw01_is.mono _ _ _
   | exact isochroneref01_DivMod.mono _ _ _
   | exact isochroneref01_GCD.mono _ _ _
   | exact isochroneref01_Of.mono _ _
   | exact nat_DivMod.mono _ _ _
   | exact nat_GCD.mono _ _ _
   | exact LeO.none _
   | refine LeO.ite ?_ ?_
   | refine LeO.bind ?_ (fun _ => ?_)
def nat_From.f (k : Nat) (a0 : Int) : Option (List Int) := (mag_From.f k a0).bind fun t958 => (some t958)
theorem nat_From.mono : ∀ a0 k, LeO (nat_From.f k a0) (nat_From.f (k + 1) a0) := by
 intro a0 k
 unfold nat_From.f
 repeat' first
   | (with_reducible first | exact mag_From.mono _ _ | exact LeO.refl _ | exact LeO.none _ | refine LeO.ite ?_ ?_ | refine LeO.bind ?_ (fun _ => ?_))
   | exact mag_From.mono _ _
   | exact LeO.none _
   | refine LeO.ite ?_ ?_
   | refine LeO.bind ?_ (fun _ => ?_)
mutual
def isochronelaw01_NatForms.j0 : Nat → List Int → List Int → Int → Bool → Option (Bool)
 | 0, _, _, _, _ => none
 | k + 1, x0, x1, x2, x40 => if x40 = true then (some true) else ((isochroneref01_Int.f k (wrap64 (x2 / 281474976710656))).bind fun t962 => ((isochroneref01_Small.f k t962 65536 (wrap64 (Go.bits .and .u64 (x2 / 4294967296) 65535))).bind fun t965 => ((isochroneref01_Small.f k t965 65536 (wrap64 (Go.bits .and .u64 (x2 / 65536) 65535))).bind fun t968 => ((isochroneref01_Small.f k t968 65536 (wrap64 (Go.bits .and .u64 x2 65535))).bind fun t971 => ((isochroneref01_Words.f k t971).bind fun t974 => ((nat_From.f k x2).bind fun t977 => ((slices_Equal_uint32_uint32.f k t977 t974).bind fun t980 => (if t980 = true then ((nat_Valid.f x0).bind fun t981 => ((isochroneref01_Valid.f x0).bind fun t982 => (if (t981 != t982) = true then (isochronelaw01_NatForms.j1 k x0 x1 true) else ((nat_Valid.f x1).bind fun t983 => ((isochroneref01_Valid.f x1).bind fun t984 => (isochronelaw01_NatForms.j1 k x0 x1 (t983 != t984))))))) else (isochronelaw01_NatForms.j1 k x0 x1 true)))))))))
def isochronelaw01_NatForms.j1 : Nat → List Int → List Int → Bool → Option (Bool)
 | 0, _, _, _ => none
 | k + 1, x0, x1, x78 => if x78 = true then (some false) else ((isochroneref01_Valid.f x0).bind fun t985 => (if t985 = true then ((isochroneref01_Valid.f x1).bind fun t986 => (isochronelaw01_NatForms.j2 k x0 x1 t986)) else (isochronelaw01_NatForms.j2 k x0 x1 false)))
def isochronelaw01_NatForms.j2 : Nat → List Int → List Int → Bool → Option (Bool)
 | 0, _, _, _ => none
 | k + 1, x0, x1, x84 => if x84 = true then (some true) else ((nat_Cmp.f k x0 x1).bind fun bt987 => ((nat_Add.f k x0 x1).bind fun bt989 => ((nat_Sub.f k x0 x1).bind fun bt993 => ((nat_Mul.f k x0 x1).bind fun bt997 => ((nat_DivMod.f k x0 x1).bind fun bt1001 => ((nat_GCD.f k x0 x1).bind fun bt1008 => (if bt987.2 = 3 then (if bt989.2 = 3 then (if bt993.2 = 3 then (if bt997.2 = 3 then (if bt1001.2.2 = 3 then (if bt1008.2 = 3 then (isochronelaw01_NatForms.j3 k x0 (decide ((wrap64 ((wrap64 ((wrap64 ((wrap64 ((wrap64 ((bt989.1.length : Int) + (bt993.1.length : Int))) + (bt997.1.length : Int))) + (bt1001.1.length : Int))) + (bt1001.2.1.length : Int))) + (bt1008.1.length : Int))) > 0))) else (isochronelaw01_NatForms.j3 k x0 true)) else (isochronelaw01_NatForms.j3 k x0 true)) else (isochronelaw01_NatForms.j3 k x0 true)) else (isochronelaw01_NatForms.j3 k x0 true)) else (isochronelaw01_NatForms.j3 k x0 true)) else (isochronelaw01_NatForms.j3 k x0 true))))))))
def isochronelaw01_NatForms.j3 : Nat → List Int → Bool → Option (Bool)
 | 0, _, _ => none
 | k + 1, x0, x163 => if x163 = true then (some false) else ((isochroneref01_Valid.f x0).bind fun t1012 => (if t1012 = true then (some true) else ((nat_Pow.f k x0 2).bind fun bt1013 => ((nat_Shift.f k x0 1).bind fun bt1017 => ((nat_Bits.f x0).bind fun bt1021 => ((nat_Root.f k x0).bind fun bt1023 => ((nat_Text.f k x0).bind fun bt1027 => (if bt1013.2 = 3 then (if bt1017.2 = 3 then (if bt1021.2 = 3 then (if bt1023.2 = 3 then (if bt1027.2 = 3 then (some ((wrap64 ((wrap64 ((wrap64 ((wrap64 ((bt1013.1.length : Int) + (bt1017.1.length : Int))) + bt1021.1)) + (bt1023.1.length : Int))) + (bt1027.1.size : Int))) == 0)) else (some false)) else (some false)) else (some false)) else (some false)) else (some false)))))))))
end
def isochronelaw01_NatForms.f (k : Nat) (l0 : List Int) (l1 : List Int) (a2 : Int) : Option (Bool) := (isochronelaw01_awake.f k).bind fun t961 => (if t961 = true then (if (l0.length : Int) > 5000 then (isochronelaw01_NatForms.j0 k l0 l1 a2 true) else (isochronelaw01_NatForms.j0 k l0 l1 a2 (decide ((l1.length : Int) > 5000)))) else (some false))
theorem isochronelaw01_NatForms.mono_l : ∀ k, (∀ y0 y1 y2 y3, LeO (isochronelaw01_NatForms.j0 k y0 y1 y2 y3) (isochronelaw01_NatForms.j0 (k + 1) y0 y1 y2 y3)) ∧ (∀ y0 y1 y2, LeO (isochronelaw01_NatForms.j1 k y0 y1 y2) (isochronelaw01_NatForms.j1 (k + 1) y0 y1 y2)) ∧ (∀ y0 y1 y2, LeO (isochronelaw01_NatForms.j2 k y0 y1 y2) (isochronelaw01_NatForms.j2 (k + 1) y0 y1 y2)) ∧ (∀ y0 y1, LeO (isochronelaw01_NatForms.j3 k y0 y1) (isochronelaw01_NatForms.j3 (k + 1) y0 y1))
 | 0 => ⟨fun _ _ _ _ r h => by simp [isochronelaw01_NatForms.j0] at h, fun _ _ _ r h => by simp [isochronelaw01_NatForms.j1] at h, fun _ _ _ r h => by simp [isochronelaw01_NatForms.j2] at h, fun _ _ r h => by simp [isochronelaw01_NatForms.j3] at h⟩
 | k + 1 => by
  obtain ⟨ih0, ih1, ih2, ih3⟩ := isochronelaw01_NatForms.mono_l k
  refine ⟨?_, ?_, ?_, ?_⟩
  ·intro y0 y1 y2 y3
   unfold isochronelaw01_NatForms.j0
   repeat' first
   | (with_reducible first | exact ih0 _ _ _ _ | exact ih1 _ _ _ | exact ih2 _ _ _ | exact ih3 _ _ | exact isochronelaw01_awake.mono _ | exact isochroneref01_Int.mono _ _ | exact isochroneref01_Small.mono _ _ _ _ | exact isochroneref01_Words.mono _ _ | exact nat_Add.mono _ _ _ | exact nat_Cmp.mono _ _ _ | exact nat_DivMod.mono _ _ _ | exact nat_From.mono _ _ | exact nat_GCD.mono _ _ _ | exact nat_Mul.mono _ _ _ | exact nat_Pow.mono _ _ _ | exact nat_Root.mono _ _ | exact nat_Shift.mono _ _ _ | exact nat_Sub.mono _ _ _ | exact nat_Text.mono _ _ | exact slices_Equal_uint32_uint32.mono _ _ _ | exact LeO.refl _ | exact LeO.none _ | refine LeO.ite ?_ ?_ | refine LeO.bind ?_ (fun _ => ?_))
   | exact ih0 _ _ _ _
   | exact ih1 _ _ _
   | exact ih2 _ _ _
   | exact ih3 _ _
   | exact isochronelaw01_awake.mono _
   | exact isochroneref01_Int.mono _ _
   | exact isochroneref01_Small.mono _ _ _ _
   | exact isochroneref01_Words.mono _ _
   | exact nat_Add.mono _ _ _
   | exact nat_Cmp.mono _ _ _
   | exact nat_DivMod.mono _ _ _
   | exact nat_From.mono _ _
   | exact nat_GCD.mono _ _ _
   | exact nat_Mul.mono _ _ _
   | exact nat_Pow.mono _ _ _
   | exact nat_Root.mono _ _
   | exact nat_Shift.mono _ _ _
   | exact nat_Sub.mono _ _ _
   | exact nat_Text.mono _ _
   | exact slices_Equal_uint32_uint32.mono _ _ _
   | exact LeO.none _
   | refine LeO.ite ?_ ?_
   | refine LeO.bind ?_ (fun _ => ?_)
  ·intro y0 y1 y2
   unfold isochronelaw01_NatForms.j1
   repeat' first
   | (with_reducible first | exact ih0 _ _ _ _ | exact ih1 _ _ _ | exact ih2 _ _ _ | exact ih3 _ _ | exact isochronelaw01_awake.mono _ | exact isochroneref01_Int.mono _ _ | exact isochroneref01_Small.mono _ _ _ _ | exact isochroneref01_Words.mono _ _ | exact nat_Add.mono _ _ _ | exact nat_Cmp.mono _ _ _ | exact nat_DivMod.mono _ _ _ | exact nat_From.mono _ _ | exact nat_GCD.mono _ _ _ | exact nat_Mul.mono _ _ _ | exact nat_Pow.mono _ _ _ | exact nat_Root.mono _ _ | exact nat_Shift.mono _ _ _ | exact nat_Sub.mono _ _ _ | exact nat_Text.mono _ _ | exact slices_Equal_uint32_uint32.mono _ _ _ | exact LeO.refl _ | exact LeO.none _ | refine LeO.ite ?_ ?_ | refine LeO.bind ?_ (fun _ => ?_))
   | exact ih0 _ _ _ _
   | exact ih1 _ _ _
   | exact ih2 _ _ _
   | exact ih3 _ _
   | exact isochronelaw01_awake.mono _
   | exact isochroneref01_Int.mono _ _
   | exact isochroneref01_Small.mono _ _ _ _
   | exact isochroneref01_Words.mono _ _
   | exact nat_Add.mono _ _ _
   | exact nat_Cmp.mono _ _ _
   | exact nat_DivMod.mono _ _ _
   | exact nat_From.mono _ _
   | exact nat_GCD.mono _ _ _
   | exact nat_Mul.mono _ _ _
   | exact nat_Pow.mono _ _ _
   | exact nat_Root.mono _ _
   | exact nat_Shift.mono _ _ _
   | exact nat_Sub.mono _ _ _
   | exact nat_Text.mono _ _
   | exact slices_Equal_uint32_uint32.mono _ _ _
   | exact LeO.none _
   | refine LeO.ite ?_ ?_
   | refine LeO.bind ?_ (fun _ => ?_)
  ·intro y0 y1 y2
   unfold isochronelaw01_NatForms.j2
   repeat' first
   | (with_reducible first | exact ih0 _ _ _ _ | exact ih1 _ _ _ | exact ih2 _ _ _ | exact ih3 _ _ | exact isochronelaw01_awake.mono _ | exact isochroneref01_Int.mono _ _ | exact isochroneref01_Small.mono _ _ _ _ | exact isochroneref01_Words.mono _ _ | exact nat_Add.mono _ _ _ | exact nat_Cmp.mono _ _ _ | exact nat_DivMod.mono _ _ _ | exact nat_From.mono _ _ | exact nat_GCD.mono _ _ _ | exact nat_Mul.mono _ _ _ | exact nat_Pow.mono _ _ _ | exact nat_Root.mono _ _ | exact nat_Shift.mono _ _ _ | exact nat_Sub.mono _ _ _ | exact nat_Text.mono _ _ | exact slices_Equal_uint32_uint32.mono _ _ _ | exact LeO.refl _ | exact LeO.none _ | refine LeO.ite ?_ ?_ | refine LeO.bind ?_ (fun _ => ?_))
   | exact ih0 _ _ _ _
   | exact ih1 _ _ _
   | exact ih2 _ _ _
   | exact ih3 _ _
   | exact isochronelaw01_awake.mono _
   | exact isochroneref01_Int.mono _ _
   | exact isochroneref01_Small.mono _ _ _ _
   | exact isochroneref01_Words.mono _ _
   | exact nat_Add.mono _ _ _
   | exact nat_Cmp.mono _ _ _
   | exact nat_DivMod.mono _ _ _
   | exact nat_From.mono _ _
   | exact nat_GCD.mono _ _ _
   | exact nat_Mul.mono _ _ _
   | exact nat_Pow.mono _ _ _
   | exact nat_Root.mono _ _
   | exact nat_Shift.mono _ _ _
   | exact nat_Sub.mono _ _ _
   | exact nat_Text.mono _ _
   | exact slices_Equal_uint32_uint32.mono _ _ _
   | exact LeO.none _
   | refine LeO.ite ?_ ?_
   | refine LeO.bind ?_ (fun _ => ?_)
  ·intro y0 y1
   unfold isochronelaw01_NatForms.j3
   repeat' first
   | (with_reducible first | exact ih0 _ _ _ _ | exact ih1 _ _ _ | exact ih2 _ _ _ | exact ih3 _ _ | exact isochronelaw01_awake.mono _ | exact isochroneref01_Int.mono _ _ | exact isochroneref01_Small.mono _ _ _ _ | exact isochroneref01_Words.mono _ _ | exact nat_Add.mono _ _ _ | exact nat_Cmp.mono _ _ _ | exact nat_DivMod.mono _ _ _ | exact nat_From.mono _ _ | exact nat_GCD.mono _ _ _ | exact nat_Mul.mono _ _ _ | exact nat_Pow.mono _ _ _ | exact nat_Root.mono _ _ | exact nat_Shift.mono _ _ _ | exact nat_Sub.mono _ _ _ | exact nat_Text.mono _ _ | exact slices_Equal_uint32_uint32.mono _ _ _ | exact LeO.refl _ | exact LeO.none _ | refine LeO.ite ?_ ?_ | refine LeO.bind ?_ (fun _ => ?_))
   | exact ih0 _ _ _ _
   | exact ih1 _ _ _
   | exact ih2 _ _ _
   | exact ih3 _ _
   | exact isochronelaw01_awake.mono _
   | exact isochroneref01_Int.mono _ _
   | exact isochroneref01_Small.mono _ _ _ _
   | exact isochroneref01_Words.mono _ _
   | exact nat_Add.mono _ _ _
   | exact nat_Cmp.mono _ _ _
   | exact nat_DivMod.mono _ _ _
   | exact nat_From.mono _ _
   | exact nat_GCD.mono _ _ _
   | exact nat_Mul.mono _ _ _
   | exact nat_Pow.mono _ _ _
   | exact nat_Root.mono _ _
   | exact nat_Shift.mono _ _ _
   | exact nat_Sub.mono _ _ _
   | exact nat_Text.mono _ _
   | exact slices_Equal_uint32_uint32.mono _ _ _
   | exact LeO.none _
   | refine LeO.ite ?_ ?_
   | refine LeO.bind ?_ (fun _ => ?_)
theorem isochronelaw01_NatForms.mono : ∀ a0 a1 a2 k, LeO (isochronelaw01_NatForms.f k a0 a1 a2) (isochronelaw01_NatForms.f (k + 1) a0 a1 a2) := by
 intro a0 a1 a2 k
 obtain ⟨ih0, ih1, ih2, ih3⟩ := isochronelaw01_NatForms.mono_l k
 unfold isochronelaw01_NatForms.f
 repeat' first
   | (with_reducible first | exact ih0 _ _ _ _ | exact ih1 _ _ _ | exact ih2 _ _ _ | exact ih3 _ _ | exact isochronelaw01_awake.mono _ | exact isochroneref01_Int.mono _ _ | exact isochroneref01_Small.mono _ _ _ _ | exact isochroneref01_Words.mono _ _ | exact nat_Add.mono _ _ _ | exact nat_Cmp.mono _ _ _ | exact nat_DivMod.mono _ _ _ | exact nat_From.mono _ _ | exact nat_GCD.mono _ _ _ | exact nat_Mul.mono _ _ _ | exact nat_Pow.mono _ _ _ | exact nat_Root.mono _ _ | exact nat_Shift.mono _ _ _ | exact nat_Sub.mono _ _ _ | exact nat_Text.mono _ _ | exact slices_Equal_uint32_uint32.mono _ _ _ | exact LeO.refl _ | exact LeO.none _ | refine LeO.ite ?_ ?_ | refine LeO.bind ?_ (fun _ => ?_))
   | exact ih0 _ _ _ _
   | exact ih1 _ _ _
   | exact ih2 _ _ _
   | exact ih3 _ _
   | exact isochronelaw01_awake.mono _
   | exact isochroneref01_Int.mono _ _
   | exact isochroneref01_Small.mono _ _ _ _
   | exact isochroneref01_Words.mono _ _
   | exact nat_Add.mono _ _ _
   | exact nat_Cmp.mono _ _ _
   | exact nat_DivMod.mono _ _ _
   | exact nat_From.mono _ _
   | exact nat_GCD.mono _ _ _
   | exact nat_Mul.mono _ _ _
   | exact nat_Pow.mono _ _ _
   | exact nat_Root.mono _ _
   | exact nat_Shift.mono _ _ _
   | exact nat_Sub.mono _ _ _
   | exact nat_Text.mono _ _
   | exact slices_Equal_uint32_uint32.mono _ _ _
   | exact LeO.none _
   | refine LeO.ite ?_ ?_
   | refine LeO.bind ?_ (fun _ => ?_)
end Go.Proofs.Ytfmobogdnlmdbaa.P
end
section
namespace Go.Proofs.Ytfmobogdnlmdbaa.P
open Go.RowKit Go.Proofs.YtfmobogdnlmdbaaW.PrintWords Go.Proofs.YtfmobogdnlmdbaaW.PrintLast Go.Proofs.YtfmobogdnlmdbaaW.PrintMore Go.Proofs.YtfmobogdnlmdbaaW
attribute [local go_sem] max2_int min2_int max_two min_two max_three min_three max_four min_four
set_option linter.unusedVariables false
set_option linter.unusedSimpArgs false
set_option maxHeartbeats 8000000 in
set_option maxRecDepth 100000 in
theorem mag_Trim.calls (k : Nat) (P0_ : Nat → Prop) (A0 : Option Addr) (c0 : Nat) (l0 : List Int) (r : List Int) (w : World) (hs0 : Kd.V (Kd.int .u32) 36 w w.heap.size (fun k_ => P0_ k_) (.slice A0 l0.length c0) l0) (h : mag_Trim.f k l0 = some r) :
  Calls Try.prog 66 #[.slice A0 l0.length c0] w fun e w' => ∃ v0_ : Value, e = .returned (v0_) ∧ Kd.V (Kd.int .u32) 36 w' w.heap.size (fun k_ => (P0_ k_ ∨ w.heap.size ≤ k_)) v0_ r ∧ Below w.heap.size w w' := by
 have HO0 := Aside0.mk (show Kd.V (Kd.int .u32) 36 w w.heap.size (fun k_ => (P0_ k_ ∨ w.heap.size ≤ k_)) (.slice A0 l0.length c0) l0 from Kd.V_mono hs0 (fun k_ hk => .inl hk))
 have HB := Aside0.mk (Below.refl w.heap.size w)
 have H : (mag_Trim.l0 k l0) = some r := h
 clear h
 have H' := Aside0.mk H
 clear H
 go_enter Try.func66, Try.ntmps66
 go_wp2
 go_loopg [0] k (fun kq v0 w' => ∃ (x0_1 : List Int), Aside0 (mag_Trim.l0 kq x0_1 = some r) ∧ Aside0 (kq ≤ k) ∧ Aside0 (Kd.V (Kd.int .u32) 36 w' w.heap.size (fun k_ => (P0_ k_ ∨ w.heap.size ≤ k_)) v0 x0_1) ∧ Aside0 (Below w.heap.size w w'))
 case atStart => exact ⟨(l0), H', ⟨Nat.le_refl _⟩, ⟨by (with_reducible repeat (first | apply Kd.V_alloc | apply Kd.V_drewN | apply Kd.V_drew)); exact HO0.out⟩, ⟨by repeat (first | (with_reducible first | exact HB.out | apply below_alloc | apply pw_below_drewN | apply below_drew1) | exact HB.out)⟩⟩
 case round =>
  clear H'
  obtain ⟨x0_1, HA, HK1, HO_0, HB⟩ := hrel
  cases gk with
  | zero => exact absurd HA.out (by simp [mag_Trim.l0])
  | succ k1 =>
   have H := HA.out
   clear HA
   simp only [mag_Trim.l0] at H
   by_cases c2 : (x0_1.length : Int) > 0
   ·rw [if_pos c2] at H
    have c2b0 : decide (0 < (x0_1.length : Int)) = true := decide_eq_true c2
    have c2b1 : decide (0 < x0_1.length) = true := decide_eq_true (by omega)
    clear c2
    obtain ⟨ji3, hji3⟩ : ∃ j_ : Int, (wrap64 ((x0_1.length : Int) - 1)) = j_ := ⟨_, rfl⟩
    replace H : (if 0 ≤ (ji3) then (if (ji3) < (x0_1.length : Int) then (if (rd x0_1 (ji3)) = 0 then (if (ji3) ≤ (x0_1.length : Int) then (mag_Trim.l0 k1 (x0_1.take ((ji3) : Int).toNat)) else (none)) else (some x0_1)) else (none)) else (none)) = some r := by first | (rw [hji3] at H; exact H) | (simp only [hji3] at H ⊢; exact H)
    have hji3w : (IntKind.i64.wrap ((x0_1.length : Int) - 1)) = ji3 := (i64_w _).trans hji3
    by_cases c4 : 0 ≤ (ji3)
    ·rw [if_pos c4] at H
     have c4b0 : decide (0 ≤ (ji3)) = true := decide_eq_true c4
     clear c4
     by_cases c5 : (ji3) < (x0_1.length : Int)
     ·rw [if_pos c5] at H
      have c5b0 : decide ((ji3) < (x0_1.length : Int)) = true := decide_eq_true c5
      clear c5
      by_cases c6 : (rd x0_1 (ji3)) = 0
      ·rw [if_pos c6] at H
       have c6b0 : ((rd x0_1 (ji3)) == 0) = true := beq_iff_eq.mpr c6
       have c6b1 : ((rd x0_1 (ji3)) != 0) = false := bne_eq_false_iff_eq.mpr c6
       clear c6
       have c7b0 := eq_true (of_decide_eq_true aS : 0 ≤ (ji3))
       by_cases c8 : (ji3) ≤ (x0_1.length : Int)
       ·rw [if_pos c8] at H
        have c8b0 := eq_true c8
        have c8b1 : decide ((ji3) ≤ (x0_1.length : Int)) = true := decide_eq_true c8
        clear c8
        obtain ⟨y102, hy102⟩ : ∃ y_ : List Int, y_ = (x0_1.take ((ji3) : Int).toNat) := ⟨_, rfl⟩
        replace H : (mag_Trim.l0 k1 y102) = some r := by first | (rw [hy102]; with_reducible exact H) | (have H2_ := (Option.bind_some _ _).symm.trans H; rw [hy102]; with_reducible exact H2_) | (have H2_ := (Option.bind_some _ _).symm.trans H; with_reducible exact H2_) | with_reducible exact H | (rw [hy102]; exact H) | exact H
        have Ny102 := Aside0.mk hy102
        clear hy102
        have H' := Aside0.mk H
        clear H
        obtain ⟨Ao9, co9, eo9⟩ := Kd.V_slice HO_0.out
        subst eo9
        have p101 : 0 ≤ ((ji3) : Int) := of_decide_eq_true aS
        have q101 : (ji3) < (x0_1.length : Int) := of_decide_eq_true aS
        obtain ⟨ad101, e101, hx101_0⟩ := Kd.at_int (Kd.V_reads' HO_0.out).2.2 (ji3) p101 q101
        cases e101
        replace p101 := eq_true p101
        replace q101 := eq_true q101
        have q10 : ((ji3) : Int) ≤ ((x0_1.length : Int) : Int) := of_decide_eq_true aS
        obtain ⟨i010, hi010, _, hsz10, _⟩ := info_parts info36
        have hroom10 : x0_1.length ≤ co9 := (Kd.V_reads' HO_0.out).2.1
        have hC10 : Kd.F (Kd.int .u32) _ _ (some ad101) x0_1.length x0_1 := (Kd.V_at (base := w.heap.size) HO_0.out).2.2
        have hcut10 := cut_to (P := Try.prog) 22 36 .i64 Try.underlying22 hi010 (some ad101) x0_1.length co9 (ji3) (of_decide_eq_true aS) q10 hroom10
        have hr10 := Kd.F_take (m := ((ji3) : Int).toNat) hC10 (by omega)
        have hy10 : y102.length = ((ji3) : Int).toNat := (by rw [Ny102.out, List.length_take]; omega)
        rw [← Ny102.out] at hr10
        rw [← hy10] at hcut10
        have HO106 := Aside0.mk (show Kd.V (Kd.int .u32) 36 _ w.heap.size _ (.slice (some ad101) y102.length co9) y102 from Kd.V_mk (by omega) hr10)
        have HC106 := Aside0.mk (show y102.length ≤ co9 from by omega)
        clear hr10 hC10 hroom10 hi010 hsz10
        have KY10 := Aside0.mk hy10
        clear hy10
        replace q10 := eq_true q10
        go_wp2
        (try simp only [← hji3])
        go_roundg k1
        case measure => have := HK1.out; omega
        case rel => exact ⟨(y102), (by first | with_reducible exact H' | (simp only [hji3]; exact H') | exact H'), ⟨by have := HK1.out; omega⟩, ⟨by (with_reducible repeat (first | apply Kd.V_alloc | apply Kd.V_drewN | apply Kd.V_drew)); exact HO106.out⟩, ⟨by repeat (first | (with_reducible first | exact HB.out | apply below_alloc | apply pw_below_drewN | apply below_drew1) | exact HB.out)⟩⟩
       ·rw [if_neg c8] at H
        exact absurd H (by simp)
      ·rw [if_neg c6] at H
       have c6b0 : ((rd x0_1 (ji3)) == 0) = false := beq_eq_false_iff_ne.mpr c6
       have c6b1 : ((rd x0_1 (ji3)) != 0) = true := bne_iff_ne.mpr c6
       obtain rfl := Option.some.inj H
       obtain ⟨Ao11, co11, eo11⟩ := Kd.V_slice HO_0.out
       subst eo11
       have p101 : 0 ≤ ((ji3) : Int) := of_decide_eq_true aS
       have q101 : (ji3) < (x0_1.length : Int) := of_decide_eq_true aS
       obtain ⟨ad101, e101, hx101_0⟩ := Kd.at_int (Kd.V_reads' HO_0.out).2.2 (ji3) p101 q101
       cases e101
       replace p101 := eq_true p101
       replace q101 := eq_true q101
       go_wp2
       go_ret
       exact ⟨_, by first | rfl | (simp [errW_none, errW_some] <;> rfl) | (simp only [← hji3]; first | rfl | (simp [errW_none, errW_some] <;> rfl)) | (simp [*, errW_none, errW_some] <;> rfl), by (with_reducible repeat (first | apply Kd.V_alloc | apply Kd.V_drewN | apply Kd.V_drew)); exact HO_0.out, by repeat (first | (with_reducible first | exact HB.out | apply below_alloc | apply pw_below_drewN | apply below_drew1) | exact HB.out)⟩
     ·rw [if_neg c5] at H
      exact absurd H (by simp)
    ·rw [if_neg c4] at H
     exact absurd H (by simp)
   ·rw [if_neg c2] at H
    have c2b0 : decide (0 < (x0_1.length : Int)) = false := decide_eq_false c2
    have c2b1 : decide (0 < x0_1.length) = false := decide_eq_false (by omega)
    clear c2
    obtain rfl := Option.some.inj H
    obtain ⟨Ao12, co12, eo12⟩ := Kd.V_slice HO_0.out
    subst eo12
    go_wp2
    go_ret
    exact ⟨_, by first | rfl | (simp [errW_none, errW_some] <;> rfl) | (simp [*, errW_none, errW_some] <;> rfl), by (with_reducible repeat (first | apply Kd.V_alloc | apply Kd.V_drewN | apply Kd.V_drew)); exact HO_0.out, by repeat (first | (with_reducible first | exact HB.out | apply below_alloc | apply pw_below_drewN | apply below_drew1) | exact HB.out)⟩
end Go.Proofs.Ytfmobogdnlmdbaa.P
end
section
namespace Go.Proofs.Ytfmobogdnlmdbaa.P
open Go.RowKit Go.Proofs.YtfmobogdnlmdbaaW.PrintWords Go.Proofs.YtfmobogdnlmdbaaW.PrintLast Go.Proofs.YtfmobogdnlmdbaaW.PrintMore Go.Proofs.YtfmobogdnlmdbaaW
attribute [local go_sem] max2_int min2_int max_two min_two max_three min_three max_four min_four
set_option linter.unusedVariables false
set_option linter.unusedSimpArgs false
set_option maxHeartbeats 8000000 in
set_option maxRecDepth 100000 in
theorem mag_Add.calls (k : Nat) (P0_ : Nat → Prop) (A0 : Option Addr) (c0 : Nat) (l0 : List Int) (P1_ : Nat → Prop) (A1 : Option Addr) (c1 : Nat) (l1 : List Int) (r : List Int) (w : World) (hs0 : Kd.V (Kd.int .u32) 36 w w.heap.size (fun k_ => P0_ k_) (.slice A0 l0.length c0) l0) (hs1 : Kd.V (Kd.int .u32) 36 w w.heap.size (fun k_ => P1_ k_) (.slice A1 l1.length c1) l1) (h : mag_Add.f k l0 l1 = some r) :
  Calls Try.prog 50 #[.slice A0 l0.length c0, .slice A1 l1.length c1] w fun e w' => ∃ v0_ : Value, e = .returned (v0_) ∧ Kd.V (Kd.int .u32) 36 w' w.heap.size (fun k_ => ((P0_ k_ ∨ P1_ k_) ∨ w.heap.size ≤ k_)) v0_ r ∧ Below w.heap.size w w' := by
 have HO0 := Aside0.mk (show Kd.V (Kd.int .u32) 36 w w.heap.size (fun k_ => ((P0_ k_ ∨ P1_ k_) ∨ w.heap.size ≤ k_)) (.slice A0 l0.length c0) l0 from Kd.V_mono hs0 (fun k_ hk => .inl (.inl hk)))
 have HO1 := Aside0.mk (show Kd.V (Kd.int .u32) 36 w w.heap.size (fun k_ => ((P0_ k_ ∨ P1_ k_) ∨ w.heap.size ≤ k_)) (.slice A1 l1.length c1) l1 from Kd.V_mono hs1 (fun k_ hk => .inl (.inr hk)))
 have HB := Aside0.mk (Below.refl w.heap.size w)
 have H : (if (l0.length : Int) < (l1.length : Int) then (mag_Add.j0 k l1 l0) else (mag_Add.j0 k l0 l1)) = some r := h
 clear h
 have HC3 := Aside0.mk H
 clear H
 go_enter Try.func50, Try.ntmps50
 go_upto_if 13 with (fail)
 go_cut [0, 1] (fun v0 v1 wc => ∃ (kq : Nat) (x0_2 : List Int) (x1_2 : List Int), Aside0 (mag_Add.j0 kq x0_2 x1_2 = some r) ∧ Aside0 (kq ≤ k) ∧ Aside0 (Kd.V (Kd.int .u32) 36 wc w.heap.size (fun k_ => ((P0_ k_ ∨ P1_ k_) ∨ w.heap.size ≤ k_)) v0 x0_2) ∧ Aside0 (Kd.V (Kd.int .u32) 36 wc w.heap.size (fun k_ => ((P0_ k_ ∨ P1_ k_) ∨ w.heap.size ≤ k_)) v1 x1_2) ∧ Aside0 (Below w.heap.size w wc))
 case first =>
  have H := HC3.out
  clear HC3
  by_cases c4 : (l0.length : Int) < (l1.length : Int)
  ·rw [if_pos c4] at H
   have c4b0 : decide ((l0.length : Int) < (l1.length : Int)) = true := decide_eq_true c4
   have c4b1 : decide (l0.length < l1.length) = true := decide_eq_true (Int.ofNat_lt.mp c4)
   clear c4
   (first | rw [c4b0] | (simp only [i64_w, i32_w]; rw [c4b0]) | rw [c4b1] | skip)
   have H' := Aside0.mk H
   clear H
   go_wp2
   go_meet
   case rel => exact ⟨_, (l1), (l0), H', ⟨by first | omega | exact Nat.le_refl _⟩, ⟨by (with_reducible repeat (first | apply Kd.V_alloc | apply Kd.V_drewN | apply Kd.V_drew)); exact HO1.out⟩, ⟨by (with_reducible repeat (first | apply Kd.V_alloc | apply Kd.V_drewN | apply Kd.V_drew)); exact HO0.out⟩, ⟨by repeat (first | (with_reducible first | exact HB.out | apply below_alloc | apply pw_below_drewN | apply below_drew1) | exact HB.out)⟩⟩
  ·rw [if_neg c4] at H
   have c4b0 : decide ((l0.length : Int) < (l1.length : Int)) = false := decide_eq_false c4
   have c4b1 : decide (l0.length < l1.length) = false := decide_eq_false (fun h => c4 (Int.ofNat_lt.mpr h))
   clear c4
   (first | rw [c4b0] | (simp only [i64_w, i32_w]; rw [c4b0]) | rw [c4b1] | skip)
   have H' := Aside0.mk H
   clear H
   go_wp2
   go_meet
   case rel => exact ⟨_, (l0), (l1), H', ⟨by first | omega | exact Nat.le_refl _⟩, ⟨by (with_reducible repeat (first | apply Kd.V_alloc | apply Kd.V_drewN | apply Kd.V_drew)); exact HO0.out⟩, ⟨by (with_reducible repeat (first | apply Kd.V_alloc | apply Kd.V_drewN | apply Kd.V_drew)); exact HO1.out⟩, ⟨by repeat (first | (with_reducible first | exact HB.out | apply below_alloc | apply pw_below_drewN | apply below_drew1) | exact HB.out)⟩⟩
 case rest =>
  clear HC3
  try clear c1
  try clear p2
  try clear c4
  try clear c4b0
  try clear c4b1
  obtain ⟨kq, x0_2, x1_2, HA, HJ2, HO_0, HO_1, HB⟩ := hcut
  cases kq with
  | zero => exact absurd HA.out (by simp [mag_Add.j0])
  | succ kj2 =>
   have H := HA.out
   clear HA
   simp only [mag_Add.j0] at H
   obtain ⟨ji5, hji5⟩ : ∃ j_ : Int, (wrap64 ((x0_2.length : Int) + 1)) = j_ := ⟨_, rfl⟩
   replace H : (if 0 ≤ (ji5) then (if (ji5 : Int).toNat ≤ 70368744177664 then (mag_Add.l0 kj2 x0_2 x1_2 (List.replicate (ji5 : Int).toNat 0) 0 x0_2 (x0_2.length : Int) 0) else (none)) else (none)) = some r := by first | (rw [hji5] at H; exact H) | (simp only [hji5] at H ⊢; exact H)
   have hji5w : (IntKind.i64.wrap ((x0_2.length : Int) + 1)) = ji5 := (i64_w _).trans hji5
   by_cases c6 : 0 ≤ (ji5)
   ·rw [if_pos c6] at H
    have c6b0 := eq_true c6
    have c6b1 : decide (0 ≤ (ji5)) = true := decide_eq_true c6
    clear c6
    by_cases c7 : (ji5 : Int).toNat ≤ 70368744177664
    ·rw [if_pos c7] at H
     have c7b0 := eq_true c7
     have c7b1 : decide ((ji5 : Int).toNat ≤ 70368744177664) = true := decide_eq_true c7
     clear c7
     obtain ⟨y107, hy107⟩ : ∃ y_ : List Int, y_ = (List.replicate (ji5 : Int).toNat 0) := ⟨_, rfl⟩
     replace H : (mag_Add.l0 kj2 x0_2 x1_2 y107 0 x0_2 (x0_2.length : Int) 0) = some r := by first | (rw [hy107]; with_reducible exact H) | (have H2_ := (Option.bind_some _ _).symm.trans H; rw [hy107]; with_reducible exact H2_) | (have H2_ := (Option.bind_some _ _).symm.trans H; with_reducible exact H2_) | with_reducible exact H | (rw [hy107]; exact H) | exact H
     have Ny107 := Aside0.mk hy107
     clear hy107
     have H' := Aside0.mk H
     clear H
     obtain ⟨Ao8, co8, eo8⟩ := Kd.V_slice HO_0.out
     subst eo8
     go_wp2_with (first | ((with_reducible refine gate_dst (N := 19) rfl ?_); refine Kd.R_make (Kd.int .u32) _ 36 rfl (N := 19) rfl 22 _ _ rfl ji5 rfl rfl Try.underlying22 (.int .u32 0) 4 info36 rfl (by decide) (by omega) 0 (ok := fun _ => True) (okp := fun _ => True) rfl (fun _ hk => hk) trivial (of_decide_eq_true aS) (Nat.le_trans (Nat.mul_le_mul_right _ (of_decide_eq_true aS : ji5.toNat ≤ 70368744177664)) (by omega)) (Below.refl _ _) (Nat.le_refl _) ?_; intro v108 w9 ho10 hb hg_ hnew_; clear hg_ hnew_; (first | rw [← Ny107.out] at ho10 | (simp only [Int.reduceToNat] at ho10; rw [← Ny107.out] at ho10)); have n0_ := Aside0.mk (Kd.V_elder' (dV HO_0.out) (Kd.R_base ho10) hb); have n1_ := Aside0.mk (Kd.V_elder' (dV HO_1.out) (Kd.R_base ho10) hb); have n2_ := Aside0.mk (Kd.R_lower (Kd.R_newM (M := fun k_ => (w.heap.size ≤ k_)) ho10 (below_size (bB)) (fun k_ h_ => h_)) (below_size (bB))); have n3_ := Aside0.mk (below_step (bB) hb); clear HO_0 HO_1 HB; have HO_0 := n0_; have HO_1 := n1_; have HO109 := n2_; have HB := n3_; clear n0_ n1_ n2_ n3_; clear hb ho10))
     go_loopg [6, 22] kj2 (fun kq v6 v22 w' => ∃ (x5_2 : List Int) (x6_2 : Int) (x22_2 : Int), v6 = .int .u64 x6_2 ∧ v22 = .int .i64 x22_2 ∧ Aside0 (mag_Add.l0 kq x0_2 x1_2 x5_2 x6_2 x0_2 (x0_2.length : Int) x22_2 = some r) ∧ Aside0 (kq ≤ kj2) ∧ Aside0 (Kd.V (Kd.int .u32) 36 w' w.heap.size (fun k_ => ((P0_ k_ ∨ P1_ k_) ∨ w.heap.size ≤ k_) ∧ some k_ ≠ (v108 : Value).ownBlock) (.slice Ao8 x0_2.length co8) x0_2) ∧ Aside0 (Kd.V (Kd.int .u32) 36 w' w.heap.size (fun k_ => ((P0_ k_ ∨ P1_ k_) ∨ w.heap.size ≤ k_) ∧ some k_ ≠ (v108 : Value).ownBlock) u1 x1_2) ∧ Aside0 (Kd.R (Kd.int .u32) 36 w' w.heap.size (fun k_ => (w.heap.size ≤ k_)) v108 x5_2) ∧ Aside0 (Kd.V (Kd.int .u32) 36 w' w.heap.size (fun k_ => ((P0_ k_ ∨ P1_ k_) ∨ w.heap.size ≤ k_) ∧ some k_ ≠ (v108 : Value).ownBlock) (.slice Ao8 x0_2.length co8) x0_2) ∧ Aside0 (Below w.heap.size w w'))
     case atStart => exact ⟨(y107), (0), (0), (by first | rfl | (simp; done) | (simp [*]; done)), (by first | rfl | (simp; done) | (simp [*]; done)), H', ⟨Nat.le_refl _⟩, ⟨by (with_reducible repeat (first | apply Kd.V_alloc | apply Kd.V_drewN | apply Kd.V_drew)); exact HO_0.out⟩, ⟨by (with_reducible repeat (first | apply Kd.V_alloc | apply Kd.V_drewN | apply Kd.V_drew)); exact HO_1.out⟩, ⟨by (with_reducible repeat (first | apply Kd.R_alloc | apply Kd.R_drewN | apply Kd.R_drew)); exact Kd.R_mono HO109.out (fun _ hk => hk.1)⟩, ⟨by (with_reducible repeat (first | apply Kd.V_alloc | apply Kd.V_drewN | apply Kd.V_drew)); exact HO_0.out⟩, ⟨by repeat (first | (with_reducible first | exact HB.out | apply below_alloc | apply pw_below_drewN | apply below_drew1) | exact HB.out)⟩⟩
     case round =>
      clear H'
      try clear c1
      try clear p2
      try clear c4
      try clear c4b0
      try clear c4b1
      try clear c5
      try clear c6
      try clear c6b0
      try clear c6b1
      try clear p6
      try clear c7
      try clear c7b0
      try clear c7b1
      try clear p2
      obtain ⟨x5_2, x6_2, x22_2, rfl, rfl, HA, HK2, HO_0, HO_1, HO_5, HO_20, HB⟩ := hrel
      cases gk with
      | zero => exact absurd HA.out (by simp [mag_Add.l0])
      | succ k2 =>
       have H := HA.out
       clear HA
       simp only [mag_Add.l0] at H
       by_cases c11 : x22_2 < (x0_2.length : Int)
       ·rw [if_pos c11] at H
        have c11b0 : decide (x22_2 < (x0_2.length : Int)) = true := decide_eq_true c11
        clear c11
        by_cases c12 : 0 ≤ x22_2
        ·rw [if_pos c12] at H
         have c12b0 : decide (0 ≤ x22_2) = true := decide_eq_true c12
         clear c12
         by_cases c13 : x22_2 < (x0_2.length : Int)
         ·rw [if_pos c13] at H
          have c13b0 : decide (x22_2 < (x0_2.length : Int)) = true := decide_eq_true c13
          clear c13
          by_cases c14 : x22_2 < (x1_2.length : Int)
          ·rw [if_pos c14] at H
           have c14b0 : decide (x22_2 < (x1_2.length : Int)) = true := decide_eq_true c14
           clear c14
           by_cases c15 : x22_2 < (x5_2.length : Int)
           ·rw [if_pos c15] at H
            have c15b0 : decide (x22_2 < (x5_2.length : Int)) = true := decide_eq_true c15
            clear c15
            obtain ⟨y112, hy112⟩ : ∃ y_ : List Int, y_ = (x5_2.set (x22_2 : Int).toNat ((IntKind.u64.wrap ((IntKind.u64.wrap (x6_2 + (IntKind.u64.wrap (rd x0_2 x22_2)))) + (IntKind.u64.wrap (rd x1_2 x22_2)))) % 4294967296)) := ⟨_, rfl⟩
            replace H : (mag_Add.l0 k2 x0_2 x1_2 y112 ((IntKind.u64.wrap ((IntKind.u64.wrap (x6_2 + (IntKind.u64.wrap (rd x0_2 x22_2)))) + (IntKind.u64.wrap (rd x1_2 x22_2)))) / 4294967296) x0_2 (x0_2.length : Int) (wrap64 (x22_2 + 1))) = some r := by first | (rw [hy112]; with_reducible exact H) | (have H2_ := (Option.bind_some _ _).symm.trans H; rw [hy112]; with_reducible exact H2_) | (have H2_ := (Option.bind_some _ _).symm.trans H; with_reducible exact H2_) | with_reducible exact H | (rw [hy112]; exact H) | exact H
            have Ny112 := Aside0.mk hy112
            clear hy112
            have H' := Aside0.mk H
            clear H
            have p110 : 0 ≤ (x22_2 : Int) := of_decide_eq_true aS
            have q110 : x22_2 < (x0_2.length : Int) := of_decide_eq_true aS
            obtain ⟨ad110, e110, hx110_0⟩ := Kd.at_int (Kd.V_reads' HO_20.out).2.2 x22_2 p110 q110
            cases e110
            replace p110 := eq_true p110
            replace q110 := eq_true q110
            obtain ⟨Ao17, co17, eo17⟩ := Kd.V_slice HO_1.out
            subst eo17
            have p111 : 0 ≤ (x22_2 : Int) := of_decide_eq_true aS
            have q111 : x22_2 < (x1_2.length : Int) := of_decide_eq_true aS
            obtain ⟨ad111, e111, hx111_0⟩ := Kd.at_int (Kd.V_reads' HO_1.out).2.2 x22_2 p111 q111
            cases e111
            replace p111 := eq_true p111
            replace q111 := eq_true q111
            have p16 : 0 ≤ (x22_2 : Int) := of_decide_eq_true aS
            have q16 : (x22_2 : Int) < ((x5_2.length : Int) : Int) := of_decide_eq_true aS
            obtain ⟨go16, co16, eo16, gb16, gl16, cl16, HG16⟩ := Kd.R_form HO_5.out (by omega)
            (first | cases eo16 | (injection eo16 with ea_ en_ ec_; (first | subst ea_ | (injection ea_ with ea_; subst ea_)); subst ec_; clear en_))
            have GB16 := Aside0.mk gb16
            have GG16 := Aside0.mk HG16
            clear gb16 gl16 HG16
            obtain ⟨hx16_0, hf16_0⟩ := Kd.R_celln 0 HO_5.out (x22_2 : Int) p16 q16
            replace p16 := eq_true p16
            replace q16 := eq_true q16
            have HP18 := Kd.R_putg HO_5.out (x22_2 : Int) ((IntKind.u64.wrap ((IntKind.u64.wrap (x6_2 + (IntKind.u64.wrap (rd x0_2 x22_2)))) + (IntKind.u64.wrap (rd x1_2 x22_2)))) % 4294967296)
            go_wp2_with (first | ((with_reducible refine gate_store (t := 36) (p := 46) rfl ?_); refine store_event (t := 36) (p := 46) (v := ?vo_w19) (w1 := (wr.setCell ⟨go16, (x22_2 : Int).toNat, none⟩ (.int .u32 ((IntKind.u64.wrap ((IntKind.u64.wrap (x6_2 + (IntKind.u64.wrap (rd x0_2 x22_2)))) + (IntKind.u64.wrap (rd x1_2 x22_2)))) % 4294967296)))) ?hg ?ho ?hn ?hr ?_; (case ho => rfl); (case hg => rfl); (case hn => rfl); (case hr => first | (go_simp; done) | (go_simp; rfl)); intro w19 hw; have hg : wr.grownBy w19 (some go16) := (by rw [hw]; exact HP18.2); have hp_ : Kd.R (Kd.int .u32) 36 w19 w.heap.size (fun k_ => (w.heap.size ≤ k_)) (.slice (some ⟨go16, 0, none⟩) x5_2.length co16) y112 := (by rw [hw, Ny112.out]; exact HP18.1); clear HP18; have n0_ := Aside0.mk (Kd.V_afterv (v := (.slice (some ⟨go16, 0, none⟩) x5_2.length co16)) (v1 := (.slice (some ⟨go16, 0, none⟩) x5_2.length co16)) (ok := (fun k_ => ((P0_ k_ ∨ P1_ k_) ∨ w.heap.size ≤ k_))) (dV HO_0.out) hg (.inl rfl)); have n1_ := Aside0.mk (Kd.V_afterv (v := (.slice (some ⟨go16, 0, none⟩) x5_2.length co16)) (v1 := (.slice (some ⟨go16, 0, none⟩) x5_2.length co16)) (ok := (fun k_ => ((P0_ k_ ∨ P1_ k_) ∨ w.heap.size ≤ k_))) (dV HO_1.out) hg (.inl rfl)); have n2_ := Aside0.mk (hp_); have n3_ := Aside0.mk (Kd.V_afterv (v := (.slice (some ⟨go16, 0, none⟩) x5_2.length co16)) (v1 := (.slice (some ⟨go16, 0, none⟩) x5_2.length co16)) (ok := (fun k_ => ((P0_ k_ ∨ P1_ k_) ∨ w.heap.size ≤ k_))) (dV HO_20.out) hg (.inl rfl)); have n4_ := Aside0.mk ((by rw [hw]; exact below_set (HB.out) GB16.out : Below w.heap.size w w19)); clear HO_0 HO_1 HO_5 HO_20 HB; have HO_0 := n0_; have HO_1 := n1_; have HO_5 := n2_; have HO_20 := n3_; have HB := n4_; clear n0_ n1_ n2_ n3_ n4_; clear hg hw hp_))
            go_roundg k2
            case measure => have := HJ2.out; have := HK2.out; omega
            case rel => exact ⟨(y112), ((IntKind.u64.wrap ((IntKind.u64.wrap (x6_2 + (IntKind.u64.wrap (rd x0_2 x22_2)))) + (IntKind.u64.wrap (rd x1_2 x22_2)))) / 4294967296), (wrap64 (x22_2 + 1)), (by first | rfl | (simp; done) | (simp [*]; done)), (by first | rfl | (simp; done) | (simp [*]; done)), H', ⟨by have := HJ2.out; have := HK2.out; omega⟩, ⟨by (with_reducible repeat (first | apply Kd.V_alloc | apply Kd.V_drewN | apply Kd.V_drew)); exact HO_0.out⟩, ⟨by (with_reducible repeat (first | apply Kd.V_alloc | apply Kd.V_drewN | apply Kd.V_drew)); exact HO_1.out⟩, ⟨by (with_reducible repeat (first | apply Kd.R_alloc | apply Kd.R_drewN | apply Kd.R_drew)); exact HO_5.out⟩, ⟨by (with_reducible repeat (first | apply Kd.V_alloc | apply Kd.V_drewN | apply Kd.V_drew)); exact HO_20.out⟩, ⟨by repeat (first | (with_reducible first | exact HB.out | apply below_alloc | apply pw_below_drewN | apply below_drew1) | exact HB.out)⟩⟩
           ·rw [if_neg c15] at H
            exact absurd H (by simp)
          ·rw [if_neg c14] at H
           have c14b0 : decide (x22_2 < (x1_2.length : Int)) = false := decide_eq_false c14
           clear c14
           by_cases c20 : x22_2 < (x5_2.length : Int)
           ·rw [if_pos c20] at H
            have c20b0 : decide (x22_2 < (x5_2.length : Int)) = true := decide_eq_true c20
            clear c20
            obtain ⟨y113, hy113⟩ : ∃ y_ : List Int, y_ = (x5_2.set (x22_2 : Int).toNat ((IntKind.u64.wrap (x6_2 + (IntKind.u64.wrap (rd x0_2 x22_2)))) % 4294967296)) := ⟨_, rfl⟩
            replace H : (mag_Add.l0 k2 x0_2 x1_2 y113 ((IntKind.u64.wrap (x6_2 + (IntKind.u64.wrap (rd x0_2 x22_2)))) / 4294967296) x0_2 (x0_2.length : Int) (wrap64 (x22_2 + 1))) = some r := by first | (rw [hy113]; with_reducible exact H) | (have H2_ := (Option.bind_some _ _).symm.trans H; rw [hy113]; with_reducible exact H2_) | (have H2_ := (Option.bind_some _ _).symm.trans H; with_reducible exact H2_) | with_reducible exact H | (rw [hy113]; exact H) | exact H
            have Ny113 := Aside0.mk hy113
            clear hy113
            have H' := Aside0.mk H
            clear H
            have p110 : 0 ≤ (x22_2 : Int) := of_decide_eq_true aS
            have q110 : x22_2 < (x0_2.length : Int) := of_decide_eq_true aS
            obtain ⟨ad110, e110, hx110_0⟩ := Kd.at_int (Kd.V_reads' HO_20.out).2.2 x22_2 p110 q110
            cases e110
            replace p110 := eq_true p110
            replace q110 := eq_true q110
            obtain ⟨Ao22, co22, eo22⟩ := Kd.V_slice HO_1.out
            subst eo22
            have p21 : 0 ≤ (x22_2 : Int) := of_decide_eq_true aS
            have q21 : (x22_2 : Int) < ((x5_2.length : Int) : Int) := of_decide_eq_true aS
            obtain ⟨go21, co21, eo21, gb21, gl21, cl21, HG21⟩ := Kd.R_form HO_5.out (by omega)
            (first | cases eo21 | (injection eo21 with ea_ en_ ec_; (first | subst ea_ | (injection ea_ with ea_; subst ea_)); subst ec_; clear en_))
            have GB21 := Aside0.mk gb21
            have GG21 := Aside0.mk HG21
            clear gb21 gl21 HG21
            obtain ⟨hx21_0, hf21_0⟩ := Kd.R_celln 0 HO_5.out (x22_2 : Int) p21 q21
            replace p21 := eq_true p21
            replace q21 := eq_true q21
            have HP23 := Kd.R_putg HO_5.out (x22_2 : Int) ((IntKind.u64.wrap (x6_2 + (IntKind.u64.wrap (rd x0_2 x22_2)))) % 4294967296)
            go_wp2_with (first | ((with_reducible refine gate_store (t := 36) (p := 46) rfl ?_); refine store_event (t := 36) (p := 46) (v := ?vo_w24) (w1 := (wr.setCell ⟨go21, (x22_2 : Int).toNat, none⟩ (.int .u32 ((IntKind.u64.wrap (x6_2 + (IntKind.u64.wrap (rd x0_2 x22_2)))) % 4294967296)))) ?hg ?ho ?hn ?hr ?_; (case ho => rfl); (case hg => rfl); (case hn => rfl); (case hr => first | (go_simp; done) | (go_simp; rfl)); intro w24 hw; have hg : wr.grownBy w24 (some go21) := (by rw [hw]; exact HP23.2); have hp_ : Kd.R (Kd.int .u32) 36 w24 w.heap.size (fun k_ => (w.heap.size ≤ k_)) (.slice (some ⟨go21, 0, none⟩) x5_2.length co21) y113 := (by rw [hw, Ny113.out]; exact HP23.1); clear HP23; have n0_ := Aside0.mk (Kd.V_afterv (v := (.slice (some ⟨go21, 0, none⟩) x5_2.length co21)) (v1 := (.slice (some ⟨go21, 0, none⟩) x5_2.length co21)) (ok := (fun k_ => ((P0_ k_ ∨ P1_ k_) ∨ w.heap.size ≤ k_))) (dV HO_0.out) hg (.inl rfl)); have n1_ := Aside0.mk (Kd.V_afterv (v := (.slice (some ⟨go21, 0, none⟩) x5_2.length co21)) (v1 := (.slice (some ⟨go21, 0, none⟩) x5_2.length co21)) (ok := (fun k_ => ((P0_ k_ ∨ P1_ k_) ∨ w.heap.size ≤ k_))) (dV HO_1.out) hg (.inl rfl)); have n2_ := Aside0.mk (hp_); have n3_ := Aside0.mk (Kd.V_afterv (v := (.slice (some ⟨go21, 0, none⟩) x5_2.length co21)) (v1 := (.slice (some ⟨go21, 0, none⟩) x5_2.length co21)) (ok := (fun k_ => ((P0_ k_ ∨ P1_ k_) ∨ w.heap.size ≤ k_))) (dV HO_20.out) hg (.inl rfl)); have n4_ := Aside0.mk ((by rw [hw]; exact below_set (HB.out) GB21.out : Below w.heap.size w w24)); clear HO_0 HO_1 HO_5 HO_20 HB; have HO_0 := n0_; have HO_1 := n1_; have HO_5 := n2_; have HO_20 := n3_; have HB := n4_; clear n0_ n1_ n2_ n3_ n4_; clear hg hw hp_))
            go_roundg k2
            case measure => have := HJ2.out; have := HK2.out; omega
            case rel => exact ⟨(y113), ((IntKind.u64.wrap (x6_2 + (IntKind.u64.wrap (rd x0_2 x22_2)))) / 4294967296), (wrap64 (x22_2 + 1)), (by first | rfl | (simp; done) | (simp [*]; done)), (by first | rfl | (simp; done) | (simp [*]; done)), H', ⟨by have := HJ2.out; have := HK2.out; omega⟩, ⟨by (with_reducible repeat (first | apply Kd.V_alloc | apply Kd.V_drewN | apply Kd.V_drew)); exact HO_0.out⟩, ⟨by (with_reducible repeat (first | apply Kd.V_alloc | apply Kd.V_drewN | apply Kd.V_drew)); exact HO_1.out⟩, ⟨by (with_reducible repeat (first | apply Kd.R_alloc | apply Kd.R_drewN | apply Kd.R_drew)); exact HO_5.out⟩, ⟨by (with_reducible repeat (first | apply Kd.V_alloc | apply Kd.V_drewN | apply Kd.V_drew)); exact HO_20.out⟩, ⟨by repeat (first | (with_reducible first | exact HB.out | apply below_alloc | apply pw_below_drewN | apply below_drew1) | exact HB.out)⟩⟩
           ·rw [if_neg c20] at H
            exact absurd H (by simp)
         ·rw [if_neg c13] at H
          exact absurd H (by simp)
        ·rw [if_neg c12] at H
         exact absurd H (by simp)
       ·rw [if_neg c11] at H
        have c11b0 : decide (x22_2 < (x0_2.length : Int)) = false := decide_eq_false c11
        clear c11
        by_cases c25 : 0 ≤ (x0_2.length : Int)
        ·rw [if_pos c25] at H
         have c25b0 : decide (0 ≤ (x0_2.length : Int)) = true := decide_eq_true c25
         have c25b1 : decide (0 ≤ x0_2.length) = true := decide_eq_true (by omega)
         clear c25
         by_cases c26 : (x0_2.length : Int) < (x5_2.length : Int)
         ·rw [if_pos c26] at H
          have c26b0 : decide ((x0_2.length : Int) < (x5_2.length : Int)) = true := decide_eq_true c26
          have c26b1 : decide (x0_2.length < x5_2.length) = true := decide_eq_true (Int.ofNat_lt.mp c26)
          clear c26
          obtain ⟨y114, hy114⟩ : ∃ y_ : List Int, y_ = (x5_2.set ((x0_2.length : Int) : Int).toNat ((x6_2) % 4294967296)) := ⟨_, rfl⟩
          replace H : ((mag_Trim.f k2 y114).bind fun t115 => (some t115)) = some r := by first | (rw [hy114]; with_reducible exact H) | (have H2_ := (Option.bind_some _ _).symm.trans H; rw [hy114]; with_reducible exact H2_) | (have H2_ := (Option.bind_some _ _).symm.trans H; with_reducible exact H2_) | with_reducible exact H | (rw [hy114]; exact H) | exact H
          have Ny114 := Aside0.mk hy114
          clear hy114
          replace H := Option.bind_eq_some_iff.mp H
          obtain ⟨t115, A280, H⟩ := H
          replace H : (some t115) = some r := H
          have A28 := Aside0.mk A280
          clear A280
          obtain rfl := Option.some.inj H
          have p27 : 0 ≤ ((x0_2.length : Int) : Int) := of_decide_eq_true aS
          have q27 : ((x0_2.length : Int) : Int) < ((x5_2.length : Int) : Int) := of_decide_eq_true aS
          obtain ⟨go27, co27, eo27, gb27, gl27, cl27, HG27⟩ := Kd.R_form HO_5.out (by omega)
          (first | cases eo27 | (injection eo27 with ea_ en_ ec_; (first | subst ea_ | (injection ea_ with ea_; subst ea_)); subst ec_; clear en_))
          have GB27 := Aside0.mk gb27
          have GG27 := Aside0.mk HG27
          clear gb27 gl27 HG27
          obtain ⟨hx27_0, hf27_0⟩ := Kd.R_celln 0 HO_5.out ((x0_2.length : Int) : Int) p27 q27
          (try simp only [Go.IntWalk.toNatUp] at hx27_0 hf27_0)
          replace p27 := eq_true p27
          replace q27 := eq_true q27
          have HP29 := Kd.R_putg HO_5.out ((x0_2.length : Int) : Int) ((x6_2) % 4294967296)
          go_wp2_with (first | ((with_reducible refine gate_store (t := 36) (p := 55) rfl ?_); refine store_event (t := 36) (p := 55) (v := ?vo_w30) (w1 := (wr.setCell ⟨go27, ((x0_2.length : Int) : Int).toNat, none⟩ (.int .u32 ((x6_2) % 4294967296)))) ?hg ?ho ?hn ?hr ?_; (case ho => rfl); (case hg => rfl); (case hn => rfl); (case hr => first | (go_simp; done) | (go_simp; rfl)); intro w30 hw; have hg : wr.grownBy w30 (some go27) := (by rw [hw]; exact HP29.2); have hp_ : Kd.R (Kd.int .u32) 36 w30 w.heap.size (fun k_ => (w.heap.size ≤ k_)) (.slice (some ⟨go27, 0, none⟩) x5_2.length co27) y114 := (by rw [hw, Ny114.out]; exact HP29.1); clear HP29; have n0_ := Aside0.mk (Kd.V_afterv (v := (.slice (some ⟨go27, 0, none⟩) x5_2.length co27)) (v1 := (.slice (some ⟨go27, 0, none⟩) x5_2.length co27)) (ok := (fun k_ => ((P0_ k_ ∨ P1_ k_) ∨ w.heap.size ≤ k_))) (dV HO_0.out) hg (.inl rfl)); have n1_ := Aside0.mk (Kd.V_afterv (v := (.slice (some ⟨go27, 0, none⟩) x5_2.length co27)) (v1 := (.slice (some ⟨go27, 0, none⟩) x5_2.length co27)) (ok := (fun k_ => ((P0_ k_ ∨ P1_ k_) ∨ w.heap.size ≤ k_))) (dV HO_1.out) hg (.inl rfl)); have n2_ := Aside0.mk (hp_); have n3_ := Aside0.mk (Kd.V_afterv (v := (.slice (some ⟨go27, 0, none⟩) x5_2.length co27)) (v1 := (.slice (some ⟨go27, 0, none⟩) x5_2.length co27)) (ok := (fun k_ => ((P0_ k_ ∨ P1_ k_) ∨ w.heap.size ≤ k_))) (dV HO_20.out) hg (.inl rfl)); have n4_ := Aside0.mk ((by rw [hw]; exact below_set (HB.out) GB27.out : Below w.heap.size w w30)); clear HO_0 HO_1 HO_5 HO_20 HB; have HO_0 := n0_; have HO_1 := n1_; have HO_5 := n2_; have HO_20 := n3_; have HB := n4_; clear n0_ n1_ n2_ n3_ n4_; clear hg hw hp_) | ((with_reducible refine gate_callee (f := 66) rfl ?_); refine goesL_ (some 57) rfl rfl Try.func66 (by kernel_rfl) rfl #[.slice (some ⟨go27, 0, none⟩) y114.length co27] rfl (by (try simp only [List.map_toArray, List.map_cons, List.map_nil]); first | done | (rw [show y114.length = x5_2.length from (Kd.R_reads' HO_5.out).1.symm] <;> rfl) | rfl | (simp only [List.length_drop, List.length_take]; rfl)) ?_; (with_reducible refine (mag_Trim.calls k2 (fun k_ => some k_ = (.slice (some ⟨go27, 0, none⟩) x5_2.length co27 : Value).ownBlock) _ _ y114 t115 _ ?side1 A28.out).mono ?_); (case side1 => rw [show y114.length = x5_2.length from (Kd.R_reads' HO_5.out).1.symm]; exact Kd.R_V (Kd.R_tight rfl (HO_5.out))); rintro e w31 ⟨v116, rfl, ho0, hb⟩; refine ⟨_, rfl, ?_⟩; have n0_ := Aside0.mk (Kd.V_below (dV HO_0.out) hb); have n1_ := Aside0.mk (Kd.V_below (dV HO_1.out) hb); have n2_ := Aside0.mk (Kd.R_below (dR HO_5.out) hb); have n3_ := Aside0.mk (Kd.V_below (dV HO_20.out) hb); have n4_ := Aside0.mk (Kd.V_lower (Kd.V_mono (ok' := fun k_ => ((P0_ k_ ∨ P1_ k_) ∨ w.heap.size ≤ k_)) ho0 (fun k_ hk_ => Or.elim hk_ (fun hs_ => (.inr (((HO_5.out).1 k_ hs_.symm)))) (fun hn_ => (.inr (Nat.le_trans (below_size (bB)) hn_))))) (below_size (bB))); have n5_ := Aside0.mk (below_step (bB) hb); clear HO_0 HO_1 HO_5 HO_20 HB; have HO_0 := n0_; have HO_1 := n1_; have HO_5 := n2_; have HO_20 := n3_; have HO117 := n4_; have HB := n5_; clear n0_ n1_ n2_ n3_ n4_ n5_; (try clear hb); (try clear hb2); (try clear hk); (try clear hi); (try clear ho0)))
          go_ret
          exact ⟨_, by first | rfl | (simp [errW_none, errW_some] <;> rfl) | (simp only [← hji5]; first | rfl | (simp [errW_none, errW_some] <;> rfl)) | (simp [*, errW_none, errW_some] <;> rfl), by (with_reducible repeat (first | apply Kd.V_alloc | apply Kd.V_drewN | apply Kd.V_drew)); exact HO117.out, by repeat (first | (with_reducible first | exact HB.out | apply below_alloc | apply pw_below_drewN | apply below_drew1) | exact HB.out)⟩
         ·rw [if_neg c26] at H
          exact absurd H (by simp)
        ·rw [if_neg c25] at H
         exact absurd H (by simp)
    ·rw [if_neg c7] at H
     exact absurd H (by simp)
   ·rw [if_neg c6] at H
    exact absurd H (by simp)
set_option maxHeartbeats 8000000 in
set_option maxRecDepth 100000 in
theorem nat_limited.calls (A0 : Option Addr) (c0 : Nat) (l0 : List Int) (r1 : List Int) (r2 : Int) (w : World) (hr0 : Kd.C (Kd.int .u32) w A0 l0.length l0) (hc0 : l0.length ≤ c0) (h : nat_limited.f l0 = some (r1, r2)) :
  Calls Try.prog 52 #[.slice A0 l0.length c0] w fun e w' => ∃ v0_ : Value, e = .returned (.tuple #[v0_, .int .i64 r2]) ∧ Kd.R (Kd.int .u32) 36 w' w.heap.size (fun _ => True) v0_ r1 ∧ Below w.heap.size w w' := by
 have HR0 := Aside0.mk hr0
 have HC0 := Aside0.mk hc0
 clear hr0 hc0
 have HB := Aside0.mk (Below.refl w.heap.size w)
 have H : (if (l0.length : Int) > 4096 then (some (([] : List Int), 2)) else (if ([] : List Int).length + l0.length < 35184372088832 then (some ((([] : List Int) ++ l0), 0)) else (none))) = some (r1, r2) := h
 clear h
 by_cases c2 : (l0.length : Int) > 4096
 ·rw [if_pos c2] at H
  have c2b0 : decide (4096 < (l0.length : Int)) = true := decide_eq_true c2
  have c2b1 : decide (4096 < l0.length) = true := decide_eq_true (by omega)
  clear c2
  simp only [Option.some.injEq, Prod.mk.injEq] at H
  obtain ⟨rfl, rfl⟩ := H
  go_enter Try.func52, Try.ntmps52
  go_wp2
  go_ret2
  exact ⟨_, by first | rfl | (simp [errW_none, errW_some] <;> rfl) | (simp [*, errW_none, errW_some] <;> rfl), by first | exact Kd.R_nil _ _ _ _ _ | exact Kd.N_nil _ _ _ _ _ | exact Kd.V_nil _ _ _ _ _ | exact Kd.Q_nil _ _ _ _ _ | exact Kd.S_nil _ _ _ _ _, by repeat (first | (with_reducible first | exact HB.out | apply below_alloc | apply pw_below_drewN | apply below_drew1) | exact HB.out)⟩
 ·rw [if_neg c2] at H
  have c2b0 : decide (4096 < (l0.length : Int)) = false := decide_eq_false c2
  have c2b1 : decide (4096 < l0.length) = false := decide_eq_false (by omega)
  clear c2
  by_cases c3 : ([] : List Int).length + l0.length < 35184372088832
  ·rw [if_pos c3] at H
   have LMc3 := Aside0.mk c3
   clear c3
   obtain ⟨y118, hy118⟩ : ∃ y_ : List Int, y_ = (([] : List Int) ++ l0) := ⟨_, rfl⟩
   replace H : (some (y118, 0)) = some (r1, r2) := by first | (rw [hy118]; with_reducible exact H) | (have H2_ := (Option.bind_some _ _).symm.trans H; rw [hy118]; with_reducible exact H2_) | (have H2_ := (Option.bind_some _ _).symm.trans H; with_reducible exact H2_) | with_reducible exact H | (rw [hy118]; exact H) | exact H
   have Ny118 := Aside0.mk hy118
   clear hy118
   simp only [Option.some.injEq, Prod.mk.injEq] at H
   obtain ⟨rfl, rfl⟩ := H
   go_enter Try.func52, Try.ntmps52
   go_wp2_with (first | ((with_reducible refine gate_builtin (b := .append) (xs := #[.const (.slice none 0 0), .tmp 7]) rfl ?_); at_builtin; refine Kd.R_append_rows (Kd.int .u32) (w0 := w) w.heap.size rfl (.const (.slice none 0 0)) (.tmp 7) 22 36 (.int .u32 0) 4 rfl Try.underlying22 info36 rfl (by decide) (by omega) (.slice none 0 0) ([] : List Int) l0 _ _ _ (fun _ => True) (fun _ => False) rfl rfl ?aO ?aR (fun _ _ h => h) (fun _ h => h.elim) ?aF ?aB ?aS ?aL ?_; (case aR => exact dC HR0.out); (case aB => exact (bB)); (case aF => exact (fun _ _ => trivial)); (case aO => exact ((Kd.R_nil _ _ _ _ (fun _ => True)))); (case aS => exact (below_size (bB))); (case aL => have := LMc3.out; omega); intro v119 w4 ho hb hg hat; rw [← Ny118.out] at ho; have n0_ := Aside0.mk (hb); have n1_ := Aside0.mk (ho); clear HB; have HB := n0_; have HO120 := n1_; clear n0_ n1_; clear ho hb hg hat))
   go_ret2
   exact ⟨_, by first | rfl | (simp [errW_none, errW_some] <;> rfl) | (simp [*, errW_none, errW_some] <;> rfl), by (with_reducible repeat (first | apply Kd.R_alloc | apply Kd.R_drewN | apply Kd.R_drew)); exact HO120.out, by repeat (first | (with_reducible first | exact HB.out | apply below_alloc | apply pw_below_drewN | apply below_drew1) | exact HB.out)⟩
  ·rw [if_neg c3] at H
   exact absurd H (by simp)
end Go.Proofs.Ytfmobogdnlmdbaa.P
end
section
namespace Go.Proofs.Ytfmobogdnlmdbaa.P
open Go.RowKit Go.Proofs.YtfmobogdnlmdbaaW.PrintWords Go.Proofs.YtfmobogdnlmdbaaW.PrintLast Go.Proofs.YtfmobogdnlmdbaaW.PrintMore Go.Proofs.YtfmobogdnlmdbaaW
attribute [local go_sem] max2_int min2_int max_two min_two max_three min_three max_four min_four
set_option linter.unusedVariables false
set_option linter.unusedSimpArgs false
set_option maxRecDepth 100000 in
theorem nat_Valid_calls_p0 {P : Prop} (h : P := by
 go_enter Try.func45, Try.ntmps45
 go_wp2
 go_ret
 exact ⟨by first | rfl | (simp; done) | (simp [*]; done), by repeat (first | exact Drawn0.refl _ | apply Drawn0.step)⟩) : P := h
set_option maxHeartbeats 8000000 in
set_option maxRecDepth 100000 in
theorem nat_Valid.calls (A0 : Option Addr) (c0 : Nat) (l0 : List Int) (r : Bool) (w : World) (hr0 : Kd.C (Kd.int .u32) w A0 l0.length l0) (hc0 : l0.length ≤ c0) (h : nat_Valid.f l0 = some r) :
  Calls Try.prog 45 #[.slice A0 l0.length c0] w fun e w' => e = .returned (.bool r) ∧ Drawn0 w w' := by
 have HR0 := Aside0.mk hr0
 have HC0 := Aside0.mk hc0
 clear hr0 hc0
 have H : (if (l0.length : Int) ≤ 4096 then (if (l0.length : Int) = 0 then (some true) else (if 0 ≤ (wrap64 ((l0.length : Int) - 1)) then (if (wrap64 ((l0.length : Int) - 1)) < (l0.length : Int) then (some ((rd l0 (wrap64 ((l0.length : Int) - 1))) != 0)) else (none)) else (none))) else (some false)) = some r := h
 clear h
 by_cases c2 : (l0.length : Int) ≤ 4096
 ·rw [if_pos c2] at H
  have c2b0 : decide ((l0.length : Int) ≤ 4096) = true := decide_eq_true c2
  have c2b1 : decide (l0.length ≤ 4096) = true := decide_eq_true (by omega)
  clear c2
  by_cases c3 : (l0.length : Int) = 0
  ·rw [if_pos c3] at H
   have c3b0 : ((l0.length : Int) == 0) = true := beq_iff_eq.mpr c3
   have c3b1 : ((l0.length : Int) != 0) = false := bne_eq_false_iff_eq.mpr c3
   clear c3
   obtain rfl := Option.some.inj H
   exact nat_Valid_calls_p0
  ·rw [if_neg c3] at H
   have c3b0 : ((l0.length : Int) == 0) = false := beq_eq_false_iff_ne.mpr c3
   have c3b1 : ((l0.length : Int) != 0) = true := bne_iff_ne.mpr c3
   have c3b2 : ¬ (l0 = []) := fun h_ => c3 (by rw [h_]; rfl)
   obtain ⟨ji4, hji4⟩ : ∃ j_ : Int, (wrap64 ((l0.length : Int) - 1)) = j_ := ⟨_, rfl⟩
   replace H : (if 0 ≤ (ji4) then (if (ji4) < (l0.length : Int) then (some ((rd l0 (ji4)) != 0)) else (none)) else (none)) = some r := by first | (rw [hji4] at H; exact H) | (simp only [hji4] at H ⊢; exact H)
   have hji4w : (IntKind.i64.wrap ((l0.length : Int) - 1)) = ji4 := (i64_w _).trans hji4
   by_cases c5 : 0 ≤ (ji4)
   ·rw [if_pos c5] at H
    have c5b0 : decide (0 ≤ (ji4)) = true := decide_eq_true c5
    clear c5
    by_cases c6 : (ji4) < (l0.length : Int)
    ·rw [if_pos c6] at H
     have c6b0 : decide ((ji4) < (l0.length : Int)) = true := decide_eq_true c6
     clear c6
     obtain rfl := Option.some.inj H
     have p121 : 0 ≤ ((ji4) : Int) := of_decide_eq_true aS
     have q121 : (ji4) < (l0.length : Int) := of_decide_eq_true aS
     obtain ⟨ad121, e121, hx121_0⟩ := Kd.at_int HR0.out (ji4) p121 q121
     cases e121
     replace p121 := eq_true p121
     replace q121 := eq_true q121
     go_enter Try.func45, Try.ntmps45
     go_wp2
     go_ret
     exact ⟨by first | rfl | (simp; done) | (simp only [← hji4] <;> (first | rfl | simp)) | (simp [*]; done), by repeat (first | exact Drawn0.refl _ | apply Drawn0.step)⟩
    ·rw [if_neg c6] at H
     exact absurd H (by simp)
   ·rw [if_neg c5] at H
    exact absurd H (by simp)
 ·rw [if_neg c2] at H
  have c2b0 : decide ((l0.length : Int) ≤ 4096) = false := decide_eq_false c2
  have c2b1 : decide (l0.length ≤ 4096) = false := decide_eq_false (by omega)
  clear c2
  obtain rfl := Option.some.inj H
  exact nat_Valid_calls_p0
set_option maxHeartbeats 8000000 in
set_option maxRecDepth 100000 in
theorem nat_both.calls (A0 : Option Addr) (c0 : Nat) (l0 : List Int) (A1 : Option Addr) (c1 : Nat) (l1 : List Int) (r : Bool) (w : World) (hr0 : Kd.C (Kd.int .u32) w A0 l0.length l0) (hc0 : l0.length ≤ c0) (hr1 : Kd.C (Kd.int .u32) w A1 l1.length l1) (hc1 : l1.length ≤ c1) (h : nat_both.f l0 l1 = some r) :
  Calls Try.prog 54 #[.slice A0 l0.length c0, .slice A1 l1.length c1] w fun e w' => e = .returned (.bool r) ∧ Drawn0 w w' := by
 have HR0 := Aside0.mk hr0
 have HC0 := Aside0.mk hc0
 clear hr0 hc0
 have HR1 := Aside0.mk hr1
 have HC1 := Aside0.mk hc1
 clear hr1 hc1
 have H : ((nat_Valid.f l0).bind fun t122 => (if t122 = true then ((nat_Valid.f l1).bind fun t123 => (some t123)) else (some false))) = some r := h
 clear h
 replace H := Option.bind_eq_some_iff.mp H
 obtain ⟨t122, A30, H⟩ := H
 replace H : (if t122 = true then ((nat_Valid.f l1).bind fun t123 => (some t123)) else (some false)) = some r := H
 have A3 := Aside0.mk A30
 clear A30
 by_cases c4 : t122 = true
 ·subst c4
  have H1 : ((nat_Valid.f l1).bind fun t123 => (some t123)) = some r := by rw [if_pos rfl] at H; exact H
  clear H
  have H := H1
  clear H1
  replace H := Option.bind_eq_some_iff.mp H
  obtain ⟨t123, A50, H⟩ := H
  replace H : (some t123) = some r := H
  have A5 := Aside0.mk A50
  clear A50
  obtain rfl := Option.some.inj H
  go_enter Try.func54, Try.ntmps54
  go_wp2_with (first | ((with_reducible refine gate_callee (f := 45) rfl ?_); refine goesL_ (some 6) rfl rfl Try.func45 (by kernel_rfl) rfl #[.slice A0 l0.length c0] rfl (by (try simp only [List.map_toArray, List.map_cons, List.map_nil]); first | done | rfl | (simp only [List.length_drop, List.length_take]; rfl)) ?_; (with_reducible refine (nat_Valid.calls _ _ l0 true _ ?side1 ?side2 A3.out).mono ?_); (case side1 => exact dC HR0.out); (case side2 => exact HC0.out); rintro e w' ⟨rfl, ⟨nd, rfl⟩⟩; refine ⟨_, rfl, ?_⟩) | (go_at_call 45; (with_reducible refine (nat_Valid.calls _ _ l1 t123 _ ?side1 ?side2 A5.out).mono ?_); (case side1 => exact dC HR1.out); (case side2 => exact HC1.out); rintro e w' ⟨rfl, ⟨nd, rfl⟩⟩))
  go_ret
  exact ⟨by first | rfl | (simp; done) | (simp [*]; done), by repeat (first | exact Drawn0.refl _ | apply Drawn0.step)⟩
 ·replace c4 := Bool.eq_false_iff.mpr c4
  subst c4
  have H1 : (some false) = some r := by rw [if_neg (show ¬ (false = true) by decide)] at H; exact H
  clear H
  have H := H1
  clear H1
  obtain rfl := Option.some.inj H
  go_enter Try.func54, Try.ntmps54
  go_wp2_with (first | ((with_reducible refine gate_callee (f := 45) rfl ?_); refine goesL_ (some 6) rfl rfl Try.func45 (by kernel_rfl) rfl #[.slice A0 l0.length c0] rfl (by (try simp only [List.map_toArray, List.map_cons, List.map_nil]); first | done | rfl | (simp only [List.length_drop, List.length_take]; rfl)) ?_; (with_reducible refine (nat_Valid.calls _ _ l0 false _ ?side1 ?side2 A3.out).mono ?_); (case side1 => exact dC HR0.out); (case side2 => exact HC0.out); rintro e w' ⟨rfl, ⟨nd, rfl⟩⟩; refine ⟨_, rfl, ?_⟩))
  go_ret
  exact ⟨by first | rfl | (simp; done) | (simp [*]; done), by repeat (first | exact Drawn0.refl _ | apply Drawn0.step)⟩
set_option maxHeartbeats 8000000 in
set_option maxRecDepth 100000 in
theorem nat_Add.calls (k : Nat) (A0 : Option Addr) (c0 : Nat) (l0 : List Int) (A1 : Option Addr) (c1 : Nat) (l1 : List Int) (r1 : List Int) (r2 : Int) (w : World) (hr0 : Kd.C (Kd.int .u32) w A0 l0.length l0) (hc0 : l0.length ≤ c0) (hr1 : Kd.C (Kd.int .u32) w A1 l1.length l1) (hc1 : l1.length ≤ c1) (h : nat_Add.f k l0 l1 = some (r1, r2)) :
  Calls Try.prog 20 #[.slice A0 l0.length c0, .slice A1 l1.length c1] w fun e w' => ∃ v0_ : Value, e = .returned (.tuple #[v0_, .int .i64 r2]) ∧ Kd.R (Kd.int .u32) 36 w' w.heap.size (fun _ => True) v0_ r1 ∧ Below w.heap.size w w' := by
 have HR0 := Aside0.mk hr0
 have HC0 := Aside0.mk hc0
 clear hr0 hc0
 have HR1 := Aside0.mk hr1
 have HC1 := Aside0.mk hc1
 clear hr1 hc1
 have HB := Aside0.mk (Below.refl w.heap.size w)
 have H : ((nat_both.f l0 l1).bind fun t124 => (if t124 = true then ((mag_Add.f k l0 l1).bind fun t125 => ((nat_limited.f t125).bind fun bt128 => (some (bt128.1, bt128.2)))) else (some (([] : List Int), 3)))) = some (r1, r2) := h
 clear h
 replace H := Option.bind_eq_some_iff.mp H
 obtain ⟨t124, A30, H⟩ := H
 replace H : (if t124 = true then ((mag_Add.f k l0 l1).bind fun t125 => ((nat_limited.f t125).bind fun bt128 => (some (bt128.1, bt128.2)))) else (some (([] : List Int), 3))) = some (r1, r2) := H
 have A3 := Aside0.mk A30
 clear A30
 by_cases c4 : t124 = true
 ·subst c4
  have H1 : ((mag_Add.f k l0 l1).bind fun t125 => ((nat_limited.f t125).bind fun bt128 => (some (bt128.1, bt128.2)))) = some (r1, r2) := by rw [if_pos rfl] at H; exact H
  clear H
  have H := H1
  clear H1
  replace H := Option.bind_eq_some_iff.mp H
  obtain ⟨t125, A50, H⟩ := H
  replace H : ((nat_limited.f t125).bind fun bt128 => (some (bt128.1, bt128.2))) = some (r1, r2) := H
  have A5 := Aside0.mk A50
  clear A50
  replace H := Option.bind_eq_some_iff.mp H
  obtain ⟨⟨t128, t129⟩, A60, H⟩ := H
  replace H : (some (t128, t129)) = some (r1, r2) := H
  have A6 := Aside0.mk A60
  clear A60
  simp only [Option.some.injEq, Prod.mk.injEq] at H
  obtain ⟨rfl, rfl⟩ := H
  go_enter Try.func20, Try.ntmps20
  go_wp2_with (first | ((with_reducible refine gate_callee (f := 54) rfl ?_); refine goesL_ (some 8) rfl rfl Try.func54 (by kernel_rfl) rfl #[.slice A0 l0.length c0, .slice A1 l1.length c1] rfl (by (try simp only [List.map_toArray, List.map_cons, List.map_nil]); first | done | rfl | (simp only [List.length_drop, List.length_take]; rfl)) ?_; (with_reducible refine (nat_both.calls _ _ l0 _ _ l1 true _ ?side1 ?side2 ?side3 ?side4 A3.out).mono ?_); (case side1 => exact dC HR0.out); (case side2 => exact HC0.out); (case side3 => exact dC HR1.out); (case side4 => exact HC1.out); rintro e w' ⟨rfl, ⟨nd, rfl⟩⟩; refine ⟨_, rfl, ?_⟩) | ((with_reducible refine gate_callee (f := 50) rfl ?_); refine goesL_ (some 12) rfl rfl Try.func50 (by kernel_rfl) rfl #[.slice A0 l0.length c0, .slice A1 l1.length c1] rfl (by (try simp only [List.map_toArray, List.map_cons, List.map_nil]); first | done | rfl | (simp only [List.length_drop, List.length_take]; rfl)) ?_; (with_reducible refine (mag_Add.calls k (fun k_ => k_ < w.heap.size) _ _ l0 (fun k_ => k_ < w.heap.size) _ _ l1 t125 _ ?side1 ?side2 A5.out).mono ?_); (case side1 => exact Kd.V_mk HC0.out (Kd.F_below (Kd.C_F (Kd.heap_int .u32) HR0.out) (bB))); (case side2 => exact Kd.V_mk HC1.out (Kd.F_below (Kd.C_F (Kd.heap_int .u32) HR1.out) (bB))); rintro e w7 ⟨v126, rfl, ho0, hb⟩; refine ⟨_, rfl, ?_⟩; have n0_ := Aside0.mk (Kd.V_lower (Kd.V_mono (ok' := fun k_ => True) ho0 (fun k_ hk_ => trivial)) (below_size (bB))); have n1_ := Aside0.mk (below_step (bB) hb); clear HB; have HO127 := n0_; have HB := n1_; clear n0_ n1_; (try clear hb); (try clear hb2); (try clear hk); (try clear hi); (try clear ho0); obtain ⟨Ao8, co8, eo8⟩ := Kd.V_slice HO127.out; subst eo8) | ((with_reducible refine gate_callee (f := 52) rfl ?_); refine goesL_ (some 13) rfl rfl Try.func52 (by kernel_rfl) rfl #[.slice Ao8 t125.length co8] rfl (by (try simp only [List.map_toArray, List.map_cons, List.map_nil]); first | done | rfl | (simp only [List.length_drop, List.length_take]; rfl)) ?_; (with_reducible refine (nat_limited.calls _ _ t125 t128 t129 _ ?side1 ?side2 A6.out).mono ?_); (case side1 => exact dC (Kd.V_reads' HO127.out).2.2); (case side2 => exact (Kd.V_reads' HO127.out).2.1); rintro e w9 ⟨v130, rfl, ho0, hb⟩; refine ⟨_, rfl, ?_⟩; have n0_ := Aside0.mk (Kd.V_elder' (dV HO127.out) (Kd.R_base ho0) hb); have n1_ := Aside0.mk (Kd.R_lower ho0 (below_size (bB))); have n2_ := Aside0.mk (below_step (bB) hb); clear HO127 HB; have HO127 := n0_; have HO131 := n1_; have HB := n2_; clear n0_ n1_ n2_; (try clear hb); (try clear hb2); (try clear hk); (try clear hi); (try clear ho0)))
  go_ret2
  exact ⟨_, by first | rfl | (simp [errW_none, errW_some] <;> rfl) | (simp [*, errW_none, errW_some] <;> rfl), by (with_reducible repeat (first | apply Kd.R_alloc | apply Kd.R_drewN | apply Kd.R_drew)); exact HO131.out, by repeat (first | (with_reducible first | exact HB.out | apply below_alloc | apply pw_below_drewN | apply below_drew1) | exact HB.out)⟩
 ·replace c4 := Bool.eq_false_iff.mpr c4
  subst c4
  have H1 : (some (([] : List Int), 3)) = some (r1, r2) := by rw [if_neg (show ¬ (false = true) by decide)] at H; exact H
  clear H
  have H := H1
  clear H1
  simp only [Option.some.injEq, Prod.mk.injEq] at H
  obtain ⟨rfl, rfl⟩ := H
  go_enter Try.func20, Try.ntmps20
  go_wp2_with (first | ((with_reducible refine gate_callee (f := 54) rfl ?_); refine goesL_ (some 8) rfl rfl Try.func54 (by kernel_rfl) rfl #[.slice A0 l0.length c0, .slice A1 l1.length c1] rfl (by (try simp only [List.map_toArray, List.map_cons, List.map_nil]); first | done | rfl | (simp only [List.length_drop, List.length_take]; rfl)) ?_; (with_reducible refine (nat_both.calls _ _ l0 _ _ l1 false _ ?side1 ?side2 ?side3 ?side4 A3.out).mono ?_); (case side1 => exact dC HR0.out); (case side2 => exact HC0.out); (case side3 => exact dC HR1.out); (case side4 => exact HC1.out); rintro e w' ⟨rfl, ⟨nd, rfl⟩⟩; refine ⟨_, rfl, ?_⟩))
  go_ret2
  exact ⟨_, by first | rfl | (simp [errW_none, errW_some] <;> rfl) | (simp [*, errW_none, errW_some] <;> rfl), by first | exact Kd.R_nil _ _ _ _ _ | exact Kd.N_nil _ _ _ _ _ | exact Kd.V_nil _ _ _ _ _ | exact Kd.Q_nil _ _ _ _ _ | exact Kd.S_nil _ _ _ _ _, by repeat (first | (with_reducible first | exact HB.out | apply below_alloc | apply pw_below_drewN | apply below_drew1) | exact HB.out)⟩
end Go.Proofs.Ytfmobogdnlmdbaa.P
end
