/- RatTexts: the texts of rational numbers, written and read (the last of 6 texts). No condition beyond the statement's own. -/
import Derived.Lib.Bytes
import Derived.Lib.IndexLaws
import Derived.SizedLaws
import Derived.ChangeSlices
import Derived.Test.YtfpolhoabfadnaaRows
import Derived.WalkKit
import Derived.ProofKit
import Derived.OpenShut
import Derived.ShutString
import Derived.ChangeOld
import Derived.Below
import Derived.KernelRfl
import Derived.Test.YtfpolhoabfadnaaTexts5
set_option linter.unusedSimpArgs false
section
namespace Go.Proofs.Ytfpolhoabfadnaa.P
open Go.RowKit Go.Proofs.YtfpolhoabfadnaaW.PrintWords Go.Proofs.YtfpolhoabfadnaaW.PrintLast Go.Proofs.YtfpolhoabfadnaaW.PrintMore
set_option linter.unusedVariables false
def LehmerR (n m : Int) (R : List Int × List Int × Bool) : Prop := R.2.2 = true → ∃ C D, Can WW R.1 C ∧ Can WW R.2.1 D ∧ gI C D = gI n m ∧ D ≤ C ∧ D < m ∧ C ≤ n
theorem lehmer_j2 {a b : List Int} {n m p q r s : Int} (la : a.length < 1073741824) (lb : b.length < 1073741824) (ha : Can WW a n) (hb : Can WW b m)
    (h1 : (0 ≤ p ∧ q ≤ 0) ∨ (p ≤ 0 ∧ 0 ≤ q)) (h2 : (0 ≤ r ∧ s ≤ 0) ∨ (r ≤ 0 ∧ 0 ≤ s))
    (bp : -2147483648 ≤ p ∧ p ≤ 2147483648) (bq : -2147483648 ≤ q ∧ q ≤ 2147483648) (br : -2147483648 ≤ r ∧ r ≤ 2147483648) (bs : -2147483648 ≤ s ∧ s ≤ 2147483648)
    (hA : 0 ≤ p * n + q * m) (hB : 0 ≤ r * n + s * m) (hg : gI (p * n + q * m) (r * n + s * m) = gI n m) (hn : p * n + q * m ≤ n) (hBA : r * n + s * m ≤ p * n + q * m) (hm : q ≠ 0 → r * n + s * m < m) :
    ∃ R, Ev (fun k => mag_lehmer.j2 k a b p q r s) R ∧ LehmerR n m R := by
  by_cases c : q = 0
  · refine ⟨([], [], false), ?_, fun h => by simp at h⟩
    refine Ev.step (fun k => by rw [mag_lehmer.j2]) ?_
    exact evp c (evs _)
  · obtain ⟨x, x1, x2⟩ := combine_sp la lb ha hb h1 (by omega) (by omega) hA
    obtain ⟨y, y1, y2⟩ := combine_sp la lb ha hb h2 (by omega) (by omega) hB
    refine ⟨(x, y, true), ?_, fun _ => ⟨_, _, x2, y2, hg, hBA, hm c, hn⟩⟩
    refine Ev.step (fun k => by rw [mag_lehmer.j2]) ?_
    exact evn c (Ev.bind x1 (Ev.bind y1 (evs _)))
theorem lehmer_l0 {a b : List Int} {n m x y T a' b' : Int} (la : a.length < 1073741824) (lb : b.length < 1073741824) (ha : Can WW a n) (hb : Can WW b m) (hT : 0 < T) (hn : n = T * x + a') (hm : m = T * y + b') (ha' : 0 ≤ a' ∧ a' < T) (hb' : 0 ≤ b' ∧ b' < T) (c : Nat) :
    ∀ p q r s u v : Int, (v + r).toNat = c → u = p * x + q * y → v = r * x + s * y →
    ((0 ≤ p ∧ q ≤ 0 ∧ r ≤ 0 ∧ 0 ≤ s) ∨ (p ≤ 0 ∧ 0 ≤ q ∧ 0 ≤ r ∧ s ≤ 0)) →
    (0 ≤ u + p ∧ u + p ≤ 2147483648) → (0 ≤ u + q ∧ u + q ≤ 2147483648) → (0 ≤ v + r ∧ v + r ≤ 2147483648) → (0 ≤ v + s ∧ v + s ≤ 2147483648) →
    gI (p * n + q * m) (r * n + s * m) = gI n m → r * n + s * m ≤ m → p * n + q * m ≤ n → r * n + s * m ≤ p * n + q * m → (q ≠ 0 → r * n + s * m < m) → m ≤ n →
    ∃ R, Ev (fun k => mag_lehmer.l0 k a b p q r s u v) R ∧ LehmerR n m R := by
  induction c using Nat.strongRecOn with
  | _ c ih =>
    intro p q r s u v hc hu hv hs bp bq br bs hg hBm hAn hBA hq hmn
    have hA : 0 ≤ p * n + q * m := by
      have := lin_ge (p := p) (q := q) (x := x) (y := y) (d := 0) hT ha' hb' (by omega) (by rw [← hu]; omega) (by rw [← hu]; omega)
      rw [hn, hm]; omega
    have hB : 0 ≤ r * n + s * m := by
      have := lin_ge (p := r) (q := s) (x := x) (y := y) (d := 0) hT ha' hb' (by omega) (by rw [← hv]; omega) (by rw [← hv]; omega)
      rw [hn, hm]; omega
    obtain ⟨R0, e1, e2⟩ := lehmer_j2 (p := p) (q := q) (r := r) (s := s) la lb ha hb (by omega) (by omega) (by omega) (by omega) (by omega) (by omega) hA hB hg hAn hBA hq
    have stop : Ev (fun k => mag_lehmer.j1 k a b p q r s u v false) R0 := by
      refine Ev.step (fun k => by rw [mag_lehmer.j1]) ?_
      exact evn (by simp) e1
    by_cases c1 : v + r = 0
    · refine ⟨R0, ?_, e2⟩
      refine Ev.step (fun k => by rw [mag_lehmer.l0]) ?_
      rw [w64 (x := v + r) (by omega) (by omega)]
      exact evp c1 stop
    · by_cases c2 : v + s = 0
      · refine ⟨R0, ?_, e2⟩
        refine Ev.step (fun k => by rw [mag_lehmer.l0]) ?_
        rw [w64 (x := v + r) (by omega) (by omega), w64 (x := v + s) (by omega) (by omega), show (v + s != 0) = false by simp [c2]]
        exact evn c1 stop
      · have step : ∀ R, Ev (fun k => mag_lehmer.j1 k a b p q r s u v true) R → Ev (fun k => mag_lehmer.l0 k a b p q r s u v) R := by
          intro R h
          refine Ev.step (fun k => by rw [mag_lehmer.l0]) ?_
          rw [w64 (x := v + r) (by omega) (by omega), w64 (x := v + s) (by omega) (by omega), show (v + s != 0) = true by simp [c2]]
          exact evn c1 h
        have k0 : 0 ≤ (u + p) / (v + r) := Int.ediv_nonneg (by omega) (by omega)
        have k1 : (u + p) / (v + r) ≤ u + p := Int.ediv_le_self _ (by omega)
        have g0 : 0 ≤ (u + q) / (v + s) := Int.ediv_nonneg (by omega) (by omega)
        have g1 : (u + q) / (v + s) ≤ u + q := Int.ediv_le_self _ (by omega)
        have d1 := Int.mul_ediv_add_emod (u + p) (v + r)
        have d2 := Int.emod_nonneg (u + p) (show v + r ≠ 0 by omega)
        have d3 := Int.emod_lt_of_pos (u + p) (show 0 < v + r by omega)
        have f1 := Int.mul_ediv_add_emod (u + q) (v + s)
        have f2 := Int.emod_nonneg (u + q) (show v + s ≠ 0 by omega)
        have f3 := Int.emod_lt_of_pos (u + q) (show 0 < v + s by omega)
        generalize hk : (u + p) / (v + r) = K at k0 k1 d1
        generalize hk2 : (u + q) / (v + s) = K2 at g0 g1 f1
        generalize (u + p) % (v + r) = w1 at d1 d2 d3
        generalize (u + q) % (v + s) = w2 at f1 f2 f3
        have tests : ∀ R, (K = K2 → Ev (fun k => mag_lehmer.l0 k a b r s (p - K * r) (q - K * s) v (u - K * v)) R) → (K ≠ K2 → Ev (fun k => mag_lehmer.j2 k a b p q r s) R) → Ev (fun k => mag_lehmer.j1 k a b p q r s u v true) R := by
          intro R h1 h2
          refine Ev.step (fun k => by rw [mag_lehmer.j1]) ?_
          have m1 := mul_bound (k := K) (r := r) ⟨k0, by omega⟩ (by omega)
          have m2 := mul_bound (k := K) (r := s) ⟨k0, by omega⟩ (by omega)
          have m3 := mul_bound (k := K) (r := v) ⟨k0, by omega⟩ (by omega)
          rw [w64 (x := v + r) (by omega) (by omega), w64 (x := v + s) (by omega) (by omega), w64 (x := u + p) (by omega) (by omega), w64 (x := u + q) (by omega) (by omega), tdiv_nn (x := u + p) (by omega), tdiv_nn (x := u + q) (by omega), hk, hk2,
            w64 (x := K) (by omega) (by omega), w64 (x := K2) (by omega) (by omega), w64 (x := K * r) (by omega) (by omega), w64 (x := K * s) (by omega) (by omega), w64 (x := K * v) (by omega) (by omega), w64 (x := p - K * r) (by omega) (by omega), w64 (x := q - K * s) (by omega) (by omega), w64 (x := u - K * v) (by omega) (by omega)]
          refine evp rfl (evn c1 (evn c2 ?_))
          by_cases c3 : K = K2
          · exact evp c3 (h1 c3)
          · exact evn c3 (h2 c3)
        by_cases c3 : K = K2
        · subst c3
          have s1 : (u - K * v) + (p - K * r) = w1 := by rw [alg_l4, Int.mul_comm K]; omega
          have s2 : (u - K * v) + (q - K * s) = w2 := by rw [alg_l4, Int.mul_comm K]; omega
          have sg : (0 ≤ r ∧ s ≤ 0 ∧ p - K * r ≤ 0 ∧ 0 ≤ q - K * s) ∨ (r ≤ 0 ∧ 0 ≤ s ∧ 0 ≤ p - K * r ∧ q - K * s ≤ 0) := by
            rcases hs with ⟨t1, t2, t3, t4⟩ | ⟨t1, t2, t3, t4⟩
            · have i1 := Int.mul_nonpos_of_nonneg_of_nonpos k0 t3
              have i2 := Int.mul_nonneg k0 t4
              exact .inr ⟨t3, t4, by omega, by omega⟩
            · have i1 := Int.mul_nonneg k0 t3
              have i2 := Int.mul_nonpos_of_nonneg_of_nonpos k0 t4
              exact .inl ⟨t3, t4, by omega, by omega⟩
          have lt : (p - K * r) * n + (q - K * s) * m < r * n + s * m := by
            have i := lin_ge (p := (K + 1) * r - p) (q := (K + 1) * s - q) (x := x) (y := y) (d := 1) hT ha' hb' (by
              rw [alg_l6, alg_l6]
              omega) (by
              rw [alg_l5 hu hv, alg_l6, Int.mul_comm K]
              omega) (by
              rw [alg_l5 hu hv, alg_l6, Int.mul_comm K]
              omega)
            rw [← hn, ← hm, alg_l3, alg_l6] at i
            rw [alg_l2]
            omega
          obtain ⟨R, r1, r2⟩ := ih (u - K * v + (p - K * r)).toNat (by rw [s1]; omega) r s (p - K * r) (q - K * s) v (u - K * v) rfl hv (alg_l1 hu hv) sg (by omega) (by omega) (by omega) (by omega)
            (by rw [alg_l2, gI_sub]; exact hg) (by omega) (by omega) (by omega) (fun _ => by omega) hmn
          exact ⟨R, step R (tests R (fun _ => r1) (fun h => absurd rfl h)), r2⟩
        · exact ⟨R0, step R0 (tests R0 (fun h => absurd h c3) (fun _ => e1)), e2⟩
theorem lehmer_sp {a b : List Int} {n m : Int} (la : a.length < 1073741824) (lb : b.length < 1073741824) (hb2 : 2 < b.length) (ha : Can WW a n) (hb : Can WW b m) (hmn : m ≤ n) : ∃ R, Ev (fun k => mag_lehmer.f k a b) R ∧ LehmerR n m R := by
  have lba := can_len_le ha hb hmn
  have n0 := ha.nonneg WW_pos
  have m0 := hb.nonneg WW_pos
  have mz := hb.len_iff WW_pos
  have m1 : m ≠ 0 := fun h => by have := mz.2 h; omega
  obtain ⟨A, A1, A2, A3, A4⟩ := mag_Bits_sp (by omega) ha
  obtain ⟨B, B1, B2, B3, B4⟩ := mag_Bits_sp (by omega) hb
  obtain ⟨A5, A6, A7, A8⟩ := A4 (by omega)
  clear A3 A4 B3 B4
  unfold mag_lehmer.f
  rw [A1, B1]
  simp only [Option.bind_some]
  rw [w64 (x := (A : Int) - 20) (by omega) (by omega), w64 (x := (A : Int) - 31) (by omega) (by omega), show (A : Int) - 31 = ((A - 31 : Nat) : Int) by omega]
  by_cases c : (B : Int) < (A : Int) - 20
  · exact ⟨([], [], false), evp c (evs _), fun h => by simp at h⟩
  · obtain ⟨x, x1, x2, x3⟩ := mag_Shr_sp (A - 31) (by omega) (by omega) ha
    obtain ⟨y, y1, y2, y3⟩ := mag_Shr_sp (A - 31) (by omega) (by omega) hb
    have hT := two_pos (A - 31)
    have e : (2 : Int) ^ A = 2 ^ (A - 31) * 2147483648 := by
      rw [show (2147483648 : Int) = 2 ^ 31 by decide, ← Int.pow_add]
      congr 1
      omega
    rw [e] at A6
    clear e A5
    generalize (2 : Int) ^ (A - 31) = T at hT A6 x2 y2
    have q1 : n / T < 2147483648 := Int.ediv_lt_of_lt_mul hT (by rw [Int.mul_comm]; exact A6)
    have q2 : m / T ≤ n / T := Int.ediv_le_ediv hT hmn
    have q3 : 0 ≤ m / T := Int.ediv_nonneg m0 (by omega)
    have hW2 : WW ^ 2 = 18446744073709551616 := by decide
    have sx := mag_Small2_sp x2 (x2.len_le (k := 2) WW_one (by omega))
    have sy := mag_Small2_sp y2 (y2.len_le (k := 2) WW_one (by omega))
    have i1 := Int.emod_nonneg n (show T ≠ 0 by omega)
    have i2 := Int.emod_lt_of_pos n hT
    have i3 := Int.emod_nonneg m (show T ≠ 0 by omega)
    have i4 := Int.emod_lt_of_pos m hT
    have j1 := Int.mul_ediv_add_emod n T
    have j2 := Int.mul_ediv_add_emod m T
    obtain ⟨R, r1, r2⟩ := lehmer_l0 la lb ha hb hT j1.symm j2.symm ⟨i1, i2⟩ ⟨i3, i4⟩ _ 1 0 0 1 (n / T) (m / T) rfl (by omega) (by omega) (by omega) (by omega) (by omega) (by omega) (by omega)
      (by rw [Int.one_mul, Int.zero_mul, Int.zero_mul, Int.one_mul, Int.add_zero, Int.zero_add]) (by omega) (by omega) (by omega) (fun h => absurd rfl h) hmn
    refine ⟨R, evn c (Ev.bind x1 (evb sx (Ev.bind y1 (evb sy ?_)))), r2⟩
    show Ev (fun k => mag_lehmer.l0 k a b 1 0 0 1 (wrap64 (n / T)) (wrap64 (m / T))) R
    rw [w64 (x := n / T) (by omega) (by omega), w64 (x := m / T) (by omega) (by omega)]
    exact r1
theorem mag_gcd_l1 (c : Nat) : ∀ x y : Int, y.toNat = c → 0 ≤ x → x < 18446744073709551616 → 0 ≤ y → y < 18446744073709551616 → ∃ r, Ev (fun k => mag_GCD.l1 k x y) r ∧ Can WW r (gI x y) := by
  induction c using Nat.strongRecOn with
  | _ c ih =>
    intro x y hc x0 x1 y0 y1
    by_cases c1 : y = 0
    · subst c1
      obtain ⟨r, r1, r2⟩ := mag_From_sp x0 x1
      rw [gI_zero x0]
      refine ⟨r, ?_, r2⟩
      refine Ev.step (fun k => by rw [mag_GCD.l1]) ?_
      exact evp rfl (Ev.bind r1 (evs _))
    · have m0 := Int.emod_nonneg x (show y ≠ 0 by omega)
      have m1 := Int.emod_lt_of_pos x (show 0 < y by omega)
      obtain ⟨r, r1, r2⟩ := ih (x % y).toNat (by omega) y (x % y) rfl y0 y1 m0 (by omega)
      rw [gI_mod] at r2
      refine ⟨r, ?_, r2⟩
      refine Ev.step (fun k => by rw [mag_GCD.l1]) ?_
      rw [tmod_nn x0]
      exact evn c1 r1
theorem mag_gcd_l0 (c : Nat) : ∀ (a b : List Int) (n m : Int), m.toNat = c → a.length < 1073741824 → Can WW a n → Can WW b m → m ≤ n → ∃ r, Ev (fun k => mag_GCD.l0 k a b) r ∧ Can WW r (gI n m) := by
  induction c using Nat.strongRecOn with
  | _ c ih =>
    intro a b n m hc la ha hb hmn
    have lba := can_len_le ha hb hmn
    have n0 := ha.nonneg WW_pos
    have m0 := hb.nonneg WW_pos
    have hz := hb.len_iff WW_pos
    have hW2 : WW ^ 2 = 18446744073709551616 := by decide
    by_cases c1 : 2 < b.length
    · have mp : 0 < m := by
        rcases Int.lt_or_le 0 m with h | h
        · exact h
        · have := hz.2 (by omega)
          omega
      obtain ⟨R, r1, r2⟩ := lehmer_sp la (by omega) c1 ha hb hmn
      obtain ⟨x, y, f⟩ := R
      cases f with
      | true =>
        obtain ⟨C, D, s1, s2, s3, s4, s5, s6⟩ := r2 rfl
        have D0 := s2.nonneg WW_pos
        have lc := can_len_le ha s1 s6
        obtain ⟨z, z1, z2⟩ := ih D.toNat (by omega) x y C D rfl (by show x.length < _; have : x.length ≤ a.length := lc; omega) s1 s2 s4
        rw [s3] at z2
        refine ⟨z, ?_, z2⟩
        refine Ev.step (fun k => by rw [mag_GCD.l0]) ?_
        exact evp (by omega) (Ev.bind r1 (evp rfl z1))
      | false =>
        have q0 := Int.emod_nonneg n (show m ≠ 0 by omega)
        have q1 := Int.emod_lt_of_pos n mp
        obtain ⟨q, r, d1, d2, d3⟩ := mag_DivMod_sp (by omega) ha hb mp
        obtain ⟨z, z1, z2⟩ := ih (n % m).toNat (by omega) b r m (n % m) rfl (by omega) hb d3 (by omega)
        rw [gI_mod] at z2
        refine ⟨z, ?_, z2⟩
        refine Ev.step (fun k => by rw [mag_GCD.l0]) ?_
        exact evp (by omega) (Ev.bind r1 (evn (by simp) (Ev.bind d1 z1)))
    · by_cases c2 : b.length = 0
      · rw [hz.1 c2, gI_zero n0]
        refine ⟨a, ?_, ha⟩
        refine Ev.step (fun k => by rw [mag_GCD.l0]) ?_
        exact evn (by omega) (evp (by omega) (evp (by simp; omega) (evs _)))
      · have mp : 0 < m := by
          rcases Int.lt_or_le 0 m with h | h
          · exact h
          · have := hz.2 (by omega)
            omega
        have q0 := Int.emod_nonneg n (show m ≠ 0 by omega)
        have q1 := Int.emod_lt_of_pos n mp
        obtain ⟨q, r, d1, d2, d3⟩ := mag_DivMod_sp (by omega) ha hb mp
        have hlt := hb.lt WW_pos
        have h4 := pow_le (B := WW) (by decide) (show b.length ≤ 2 by omega)
        have l3 := d3.len_le (k := 2) WW_one (by omega)
        have e1 := mag_Small2_sp hb (by omega)
        have e2 := mag_Small2_sp d3 l3
        obtain ⟨z, z1, z2⟩ := mag_gcd_l1 _ m (n % m) rfl m0 (by omega) q0 (by omega)
        rw [gI_mod] at z2
        refine ⟨z, ?_, z2⟩
        refine Ev.step (fun k => by rw [mag_GCD.l0]) ?_
        exact evn (by omega) (evn (by omega) (Ev.bind d1 (evb e1 (evb e2 z1))))
theorem mag_GCD_sp {a b : List Int} {n m : Int} (la : a.length < 1073741824) (lb : b.length < 1073741824) (ha : Can WW a n) (hb : Can WW b m) : ∃ r, Ev (fun k => mag_GCD.f k a b) r ∧ Can WW r (gI n m) := by
  have hc := mag_Cmp_sp (by omega) ha hb
  unfold mag_GCD.f
  by_cases c : n < m
  · obtain ⟨r, r1, r2⟩ := mag_gcd_l0 _ b a m n rfl lb hb ha (by omega)
    rw [gI_comm] at r2
    refine ⟨r, Ev.bind hc (evp ?_ ?_), r2⟩
    · unfold cmpi; rw [if_pos c]; omega
    · exact Ev.step (fun k => by rw [mag_GCD.j0]) r1
  · obtain ⟨r, r1, r2⟩ := mag_gcd_l0 _ a b n m rfl la ha hb (by omega)
    refine ⟨r, Ev.bind hc (evn ?_ ?_), r2⟩
    · unfold cmpi; rw [if_neg c]; split <;> omega
    · exact Ev.step (fun k => by rw [mag_GCD.j0]) r1
end Go.Proofs.Ytfpolhoabfadnaa.P
end
section
namespace Go.Proofs.Ytfpolhoabfadnaa.P
open Go.RowKit Go.Proofs.YtfpolhoabfadnaaW.PrintWords Go.Proofs.YtfpolhoabfadnaaW.PrintLast Go.Proofs.YtfpolhoabfadnaaW.PrintMore
set_option linter.unusedVariables false
abbrev TT : Int := 10
theorem TT_pos : (0 : Int) < TT := by decide
theorem TT_one : (1 : Int) < TT := by decide
theorem TT_eq : TT = 10 := rfl
abbrev BB9 : Int := 1000000000
theorem BB9_pos : (0 : Int) < BB9 := by decide
theorem BB9_eq : BB9 = 1000000000 := rfl
def asc (D : List Int) : List Int := D.reverse.map (· + 48)
theorem asc_append (a b : List Int) : asc (a ++ b) = asc b ++ asc a := by simp [asc]
theorem asc_len (D : List Int) : (asc D).length = D.length := by simp [asc]
theorem rev_ev (a : List Int) (hn : a.length < 4611686018427387904) (d : Nat) : ∀ (i : Nat) (o : List Int), a.length - i = d → i ≤ a.length → o.length = a.length → (∀ p : Nat, p < a.length → rd o (p : Int) = if p < i ∨ a.length ≤ p + i then rd a ((a.length - 1 - p : Nat) : Int) else rd a (p : Int)) →
    Ev (fun k => nat_digits.l1 k o (i : Int) ((a.length : Int) - 1 - (i : Int))) a.reverse := by
  induction d with
  | zero =>
    intro i o h1 h2 h3 h4
    have e : o = a.reverse := by
      apply List.ext_getElem
      · simp [h3]
      · intro p p1 p2
        have h := h4 p (by omega)
        rw [if_pos (by omega), rd_lt o p p1, rd_lt a _ (by omega)] at h
        rw [h, List.getElem_reverse]
    subst e
    refine Ev.step (fun k => by rw [nat_digits.l1]) ?_
    exact evn (by omega) (evs _)
  | succ d ih =>
    intro i o h1 h2 h3 h4
    by_cases c : 2 * i + 1 < a.length
    · have hk : (a.length : Int) - 1 - (i : Int) = ((a.length - 1 - i : Nat) : Int) := by omega
      have gi := h4 i (by omega)
      have gk := h4 (a.length - 1 - i) (by omega)
      rw [if_neg (by omega)] at gi
      rw [if_neg (by omega)] at gk
      refine Ev.step (fun k => by rw [nat_digits.l1]) ?_
      rw [hk, gi, gk, wsucc (i := i) (by omega), w64 (x := ((a.length - 1 - i : Nat) : Int) - 1) (by omega) (by omega)]
      refine evp (by omega) (evp (by omega) (evp (by omega) (evp (by omega) (evp (by omega) ?_))))
      have e : ((a.length - 1 - i : Nat) : Int) - 1 = (a.length : Int) - 1 - ((i + 1 : Nat) : Int) := by omega
      rw [e]
      refine ih (i + 1) _ (by omega) (by omega) (by simpa using h3) ?_
      intro p hp
      by_cases p1 : p = a.length - 1 - i
      · subst p1
        rw [rd_set_eq _ _ _ (by simp; omega), if_pos (by omega), show a.length - 1 - (a.length - 1 - i) = i by omega]
      · rw [rd_set_ne _ _ _ _ (by omega)]
        by_cases p2 : p = i
        · subst p2
          rw [rd_set_eq _ _ _ (by omega), if_pos (by omega)]
        · rw [rd_set_ne _ _ _ _ (by omega), h4 p hp]
          by_cases p3 : p < i ∨ a.length ≤ p + i
          · rw [if_pos p3, if_pos (by omega)]
          · rw [if_neg p3, if_neg (by omega)]
    · have e : o = a.reverse := by
        apply List.ext_getElem
        · simp [h3]
        · intro p p1 p2
          have h := h4 p (by omega)
          rw [List.getElem_reverse, ← rd_lt o p p1, h, ← rd_lt a (a.length - 1 - p) (by omega)]
          split
          · rfl
          · congr 1
            omega
      subst e
      refine Ev.step (fun k => by rw [nat_digits.l1]) ?_
      exact evn (by omega) (evs _)
theorem nm_snoc' (l : List Int) (x : Int) (h : x ≠ 0) : Nm (l ++ [x]) := fun h' => by rw [getLast_snoc]; exact h
theorem alg_dg {vo c P n v c' R : Int} (h : vo + c * P = n) (h2 : v + R * c' = c) : vo + v * P + c' * (R * P) = n := by grind
theorem nat_digits_ev {x : Int} (hx : 0 ≤ x ∧ x < 9223372036854775808) {m : Nat} (hm : m ≤ 20) (c : Nat) : ∀ (z : Int) (D : List Int), z.toNat + (m - D.length) < c → 0 ≤ z → z < 9223372036854775808 → D.length ≤ 64 → (0 < z → z * 10 ^ D.length ≤ x) → Dg TT D → vl TT D + z * TT ^ D.length = x → (z = 0 → m = 0 → Nm D) → (x < 10 ^ m → D.length ≤ m) →
    ∃ D', Ev (fun k => nat_digits.l0 k z (m : Int) (D.map (· + 48))) (asc D') ∧ Dg TT D' ∧ vl TT D' = x ∧ (m = 0 → Nm D') ∧ (x < 10 ^ m → D'.length = m) := by
  induction c with
  | zero => intro z D h; exact absurd h (Nat.not_lt_zero _)
  | succ c ih =>
    intro z D h1 h2 h3 h4 h5 h6 h7 h8 h9
    have hlen : (D.map (· + 48)).length = D.length := by simp
    have more : (z > 0 ∨ D.length < m) → ∃ D', Ev (fun k => nat_digits.l0 k (IntKind.u64.wrap (Int.tdiv z 10)) (m : Int) (D.map (· + 48) ++ [(IntKind.u64.wrap (48 + (Int.tmod z 10))) % 256])) (asc D') ∧ Dg TT D' ∧ vl TT D' = x ∧ (m = 0 → Nm D') ∧ (x < 10 ^ m → D'.length = m) := by
      intro hc
      have e0 : (48 + z % 10) % 256 = z % 10 + 48 := by omega
      have e1 : D.map (· + 48) ++ [(IntKind.u64.wrap (48 + (Int.tmod z 10))) % 256] = (D ++ [z % 10]).map (· + 48) := by
        rw [tmod_nn h2, u64 (x := 48 + z % 10) (by omega) (by omega), e0, List.map_append]
        rfl
      rw [e1, tdiv_nn h2, u64 (x := z / 10) (by omega) (by omega)]
      have hl : (D ++ [z % 10]).length = D.length + 1 := by simp
      have hlt : D.length < 20 := by
        rcases hc with hc | hc
        · rcases Nat.lt_or_ge D.length 20 with q | q
          · exact q
          · exfalso
            have a1 := h5 hc
            have a2 : (10 : Int) ^ 20 ≤ 10 ^ D.length := pow_le (by decide) q
            have a3 : (1 : Int) * 10 ^ D.length ≤ z * 10 ^ D.length := Int.mul_le_mul_of_nonneg_right (by omega) (by omega)
            omega
        · omega
      refine ih (z / 10) (D ++ [z % 10]) ?_ (by omega) (by omega) (by omega) ?_ (h6.append (Dg.mk (by omega) (by rw [TT_eq]; omega) (Dg.nil _))) ?_ ?_ ?_
      · rw [hl]
        rcases hc with hc | hc <;> omega
      · intro hz
        have a1 := h5 (by omega)
        rw [hl, Int.pow_succ]
        have a2 : (0 : Int) < 10 ^ D.length := Int.pow_pos (by decide)
        have a3 : (z / 10 * 10) * 10 ^ D.length ≤ z * 10 ^ D.length := Int.mul_le_mul_of_nonneg_right (by omega) (by omega)
        have a4 : z / 10 * (10 ^ D.length * 10) = (z / 10 * 10) * 10 ^ D.length := by grind
        omega
      · rw [vl_snoc, hl, Int.pow_succ, Int.mul_comm (TT ^ D.length) TT]
        exact alg_dg h7 (by rw [TT_eq]; omega)
      · intro hz hm0
        refine nm_snoc' _ _ ?_
        rcases hc with hc | hc <;> omega
      · intro hxm
        rw [hl]
        rcases hc with hc | hc
        · have a1 := h5 hc
          rcases Nat.lt_or_ge D.length m with q | q
          · omega
          · exfalso
            have a2 : (10 : Int) ^ m ≤ 10 ^ D.length := pow_le (by decide) q
            have a3 : (1 : Int) * 10 ^ D.length ≤ z * 10 ^ D.length := Int.mul_le_mul_of_nonneg_right (by omega) (Int.le_of_lt (Int.pow_pos (by decide)))
            omega
        · omega
    by_cases c1 : z > 0
    · obtain ⟨D', d1, d2⟩ := more (.inl c1)
      refine ⟨D', ?_, d2⟩
      refine Ev.step (fun k => by rw [nat_digits.l0]) ?_
      exact evp c1 (evp (by omega) d1)
    · by_cases c2 : D.length < m
      · obtain ⟨D', d1, d2⟩ := more (.inr c2)
        refine ⟨D', ?_, d2⟩
        refine Ev.step (fun k => by rw [nat_digits.l0]) ?_
        exact evn c1 (evp (by omega) (evp (by omega) d1))
      · have ez : z = 0 := by omega
        subst ez
        rw [Int.zero_mul, Int.add_zero] at h7
        refine ⟨D, ?_, h6, h7, h8 rfl, fun h => by have := h9 h; omega⟩
        refine Ev.step (fun k => by rw [nat_digits.l0]) ?_
        rw [w64 (x := ((D.map (· + 48)).length : Int) - 1) (by omega) (by omega)]
        refine evn c1 (evn (by omega) ?_)
        have := rev_ev (D.map (· + 48)) (by omega) _ 0 (D.map (· + 48)) rfl (by omega) rfl (fun p hp => by rw [if_neg (by omega)])
        rw [← List.map_reverse] at this
        simpa [asc] using this
end Go.Proofs.Ytfpolhoabfadnaa.P
end
section
namespace Go.Proofs.Ytfpolhoabfadnaa.P
open Go.RowKit Go.Proofs.YtfpolhoabfadnaaW.PrintWords Go.Proofs.YtfpolhoabfadnaaW.PrintLast Go.Proofs.YtfpolhoabfadnaaW.PrintMore
set_option linter.unusedVariables false
theorem nat_digits_sp {x : Int} (hx : 0 ≤ x ∧ x < 9223372036854775808) {m : Nat} (hm : m ≤ 20) :
    ∃ D, Ev (fun k => nat_digits.f k x (m : Int)) (asc D) ∧ Dg TT D ∧ vl TT D = x ∧ (m = 0 → Nm D) ∧ (x < 10 ^ m → D.length = m) := by
  obtain ⟨D, d1, d2⟩ := nat_digits_ev hx hm _ x [] (Nat.lt_succ_self _) hx.1 hx.2 (by simp) (fun _ => by simp) (Dg.nil _) (by simp [vl]) (fun _ _ => Nm.nil) (fun _ => by simp)
  exact ⟨D, by unfold nat_digits.f; exact d1, d2⟩
theorem mag_Small_sp {r : List Int} {v : Int} (hr : Can WW r v) (hv : v < 4294967296) : mag_Small.f r = some (v, true) := by
  have hl := hr.len_le (k := 1) WW_one (by rw [show WW ^ 1 = 4294967296 from rfl]; exact hv)
  unfold mag_Small.f
  by_cases c : r.length = 0
  · rw [(hr.len_iff WW_pos).1 c, if_pos (by omega)]
  · have e := last_vl (a := r) (by omega)
    have h1 : r.length = 1 := by omega
    rw [hr.2.2, h1] at e
    have e2 : v = rd r 0 := by simpa [vl] using e
    have := hr.nonneg WW_pos
    rw [if_neg (by omega), if_pos (by omega), if_pos (by omega), ← e2, u64 (x := v) (by omega) (by omega)]
theorem cpy9 {t : List Int} (h : t.length = 9) : cpy (List.replicate 9 0) t = t := by
  unfold cpy
  rw [List.length_replicate, h, Nat.min_self, ← h, List.take_length, List.drop_eq_nil_of_le (by simp), List.append_nil]
theorem nm_app {a b : List Int} (h : Nm b) (hb : b ≠ []) : Nm (a ++ b) := fun h' => by
  rw [List.getLast_append_of_ne_nil _ hb]
  exact h hb
theorem nat_Text_l1 {P : List Int} (hl : P.length ≤ 64) (hP : Dg BB9 P) (d : Nat) : ∀ (i : Nat) (D : List Int), i = d → i < P.length → Can TT D (vl BB9 (P.drop i)) → D ≠ [] → D.length + 9 * i ≤ 9 * P.length →
    ∃ D', Ev (fun k => nat_Text.l1 k P (asc D) ((i : Int) - 1)) (strOfNums (asc D'), 0) ∧ Can TT D' (vl BB9 P) ∧ D' ≠ [] ∧ D'.length ≤ 9 * P.length := by
  induction d with
  | zero =>
    rintro i D rfl h1 h2 h3 h4
    refine ⟨D, ?_, by simpa using h2, h3, by omega⟩
    refine Ev.step (fun k => by rw [nat_Text.l1]) ?_
    exact evn (by omega) (evs _)
  | succ d ih =>
    rintro i D rfl h1 h2 h3 h4
    have hx := dg_rd hP (d : Int) (by omega) (by omega)
    rw [BB9_eq] at hx
    obtain ⟨N, n1, n2, n3, n4, n5⟩ := nat_digits_sp (x := rd P (d : Int)) ⟨hx.1, by omega⟩ (m := 9) (by omega)
    have ln := n5 (by omega)
    have hv : vl TT (N ++ D) = vl BB9 (P.drop d) := by
      rw [vl_append, ln, n3, h2.2.2, drop_rd P d (by omega), vl]
      rfl
    have hne : N ++ D ≠ [] := by simp [h3]
    obtain ⟨D', d1, d2⟩ := ih d (N ++ D) rfl (by omega) ⟨n2.append h2.1, nm_app h2.2.1 h3, hv⟩ hne (by rw [List.length_append]; omega)
    refine ⟨D', ?_, d2⟩
    refine Ev.step (fun k => by rw [nat_Text.l1]) ?_
    have lc : (asc N).length = 9 := by rw [asc_len, ln]
    rw [show (((d + 1 : Nat) : Int) - 1) = (d : Int) by omega, w64 (x := (d : Int) - 1) (by omega) (by omega)]
    refine evp (by omega) (evp (by omega) (evp (by omega) (evp (by omega) (Ev.bind n1 (evb rfl ?_)))))
    rw [cpy9 lc, ← asc_append]
    exact evp (by rw [asc_len, asc_len]; omega) d1
theorem alg_tx {vo c P n v c' R : Int} (h : vo + c * P = n) (h2 : v + R * c' = c) : vo + v * P + c' * (R * P) = n := by grind
theorem nat_Text_l0 {n : Int} (hn : 0 < n) (hnW : n < WW ^ 40) {b : List Int} (hb : Can WW b 1000000000) (c : Nat) : ∀ (m : Int) (a P : List Int), m.toNat < c → a.length ≤ 4096 → Can WW a m → Dg BB9 P → vl BB9 P + m * BB9 ^ P.length = n → (m = 0 → Nm P) → (m = 0 → P.length ≤ 46) →
    ∃ D, Ev (fun k => nat_Text.l0 k a P b) (strOfNums (asc D), 0) ∧ Can TT D n ∧ D ≠ [] ∧ D.length ≤ 576 := by
  induction c with
  | zero => intro m a P h; exact absurd h (Nat.not_lt_zero _)
  | succ c ih =>
    intro m a P h1 h2 h3 h4 h5 h6 h7
    have m0 := h3.nonneg WW_pos
    have hp : (0 : Int) < BB9 ^ P.length := pow_pos' BB9_pos _
    by_cases c1 : a.length = 0
    · have em := (h3.len_iff WW_pos).1 c1
      subst em
      rw [Int.zero_mul, Int.add_zero] at h5
      have hl := h7 rfl
      have hne : P.length ≠ 0 := by
        intro h0
        rw [List.length_eq_zero_iff.1 h0, vl] at h5
        omega
      have hx := dg_rd h4 ((P.length : Int) - 1) (by omega) (by omega)
      have hz := (h6 rfl).rd (by omega)
      rw [BB9_eq] at hx
      obtain ⟨N, n1, n2, n3, n4, n5⟩ := nat_digits_sp (x := rd P ((P.length : Int) - 1)) ⟨hx.1, by omega⟩ (m := 0) (by omega)
      have hN : N ≠ [] := by
        intro h
        rw [h, vl] at n3
        exact hz n3.symm
      have cn : Can TT N (rd P ((P.length : Int) - 1)) := ⟨n2, n4 rfl, n3⟩
      have ln : N.length ≤ 9 := cn.len_le TT_one (by rw [show TT ^ 9 = 1000000000 from rfl]; exact hx.2)
      have e1 : vl BB9 (P.drop (P.length - 1)) = rd P ((P.length : Int) - 1) := by
        rw [drop_rd P (P.length - 1) (by omega), vl, List.drop_eq_nil_of_le (by omega), vl, show ((P.length - 1 : Nat) : Int) = (P.length : Int) - 1 by omega]
        omega
      obtain ⟨D', d1, d2, d3, d4⟩ := nat_Text_l1 (by omega) h4 (P.length - 1) (P.length - 1) N rfl (by omega) (by rw [e1]; exact cn) hN (by omega)
      rw [h5] at d2
      refine ⟨D', ?_, d2, d3, by omega⟩
      refine Ev.step (fun k => by rw [nat_Text.l0]) ?_
      rw [w64 (x := (P.length : Int) - 1) (by omega) (by omega), w64 (x := (P.length : Int) - 2) (by omega) (by omega)]
      refine evn (by omega) (evp (by omega) (evp (by omega) (Ev.bind n1 ?_)))
      rw [show (P.length : Int) - 2 = ((P.length - 1 : Nat) : Int) - 1 by omega]
      exact d1
    · have hm : m ≠ 0 := fun h => c1 ((h3.len_iff WW_pos).2 h)
      have hlP : P.length ≤ 45 := by
        rcases Nat.lt_or_ge P.length 46 with q | q
        · omega
        · exfalso
          have a1 : BB9 ^ 46 ≤ BB9 ^ P.length := pow_le (by decide) q
          have a2 : (1 : Int) * BB9 ^ P.length ≤ m * BB9 ^ P.length := Int.mul_le_mul_of_nonneg_right (by omega) (by omega)
          have a3 := vl_nonneg BB9_pos h4
          have a4 : WW ^ 40 < BB9 ^ 46 := by decide
          omega
      obtain ⟨q, r, q1, q2, q3⟩ := mag_DivMod_sp (by omega) h3 hb (by omega)
      have r0 := Int.emod_nonneg m (show (1000000000 : Int) ≠ 0 by omega)
      have r1 := Int.emod_lt_of_pos m (show (0 : Int) < 1000000000 by omega)
      have hs := mag_Small_sp q3 (by omega)
      have lq := can_len_le h3 q2 (by omega)
      obtain ⟨D, d1, d2⟩ := ih (m / 1000000000) q (P ++ [m % 1000000000]) (by omega) (by omega) q2 (h4.append (Dg.mk r0 (by rw [BB9_eq]; exact r1) (Dg.nil _)))
        (by
          rw [vl_snoc, List.length_append, List.length_singleton, Int.pow_succ, Int.mul_comm (BB9 ^ P.length) BB9]
          exact alg_tx h5 (by rw [BB9_eq]; omega))
        (fun h => nm_snoc' _ _ (by omega)) (fun _ => by simp; omega)
      refine ⟨D, ?_, d2⟩
      refine Ev.step (fun k => by rw [nat_Text.l0]) ?_
      exact evp (by omega) (Ev.bind q1 (evb hs (evp (by omega) d1)))
theorem nat_Text_sp {a : List Int} {n : Int} (hl : a.length ≤ 40) (ha : Can WW a n) (hn : 0 < n) : ∃ D, Ev (fun k => nat_Text.f k a) (strOfNums (asc D), 0) ∧ Can TT D n ∧ D ≠ [] ∧ D.length ≤ 576 := by
  have hlt : n < WW ^ 40 := Int.lt_of_lt_of_le (ha.lt WW_pos) (pow_le (by decide) hl)
  have hc : a.length ≠ 0 := fun h => by have := (ha.len_iff WW_pos).1 h; omega
  obtain ⟨b, b1, b2⟩ := mag_From_sp (a := 1000000000) (by omega) (by omega)
  obtain ⟨D, d1, d2⟩ := nat_Text_l0 hn hlt b2 _ n a [] (Nat.lt_succ_self _) (by omega) ha (Dg.nil _) (by simp [vl]) (fun h => by omega) (fun h => by omega)
  refine ⟨D, ?_, d2⟩
  unfold nat_Text.f
  exact evb (nat_valid (by omega) ha.2.1) (evp rfl (evn (by omega) (Ev.bind b1 d1)))
end Go.Proofs.Ytfpolhoabfadnaa.P
end
section
namespace Go.Proofs.Ytfpolhoabfadnaa.P
open Go.RowKit Go.Proofs.YtfpolhoabfadnaaW.PrintWords Go.Proofs.YtfpolhoabfadnaaW.PrintLast Go.Proofs.YtfpolhoabfadnaaW.PrintMore
set_option linter.unusedVariables false
theorem limited_any' (z : List Int) : ∃ R, nat_limited.f z = some R ∧ (z.length ≤ 4096 → R = (z, 0)) := by
  by_cases c : z.length ≤ 4096
  · exact ⟨_, limited_sp c, fun _ => rfl⟩
  · refine ⟨([], 2), ?_, fun h => absurd h c⟩
    unfold nat_limited.f
    rw [if_pos (by omega)]
theorem size_data (s : ByteArray) : s.size = s.data.toList.length := by rw [Array.length_toList]; rfl
theorem toList_nil (s : ByteArray) : s.toList = [] ↔ s.size = 0 := by
  rw [ByteArray.toList_eq, size_data, List.length_eq_zero_iff]
def Dig (s : ByteArray) (i : Nat) : Prop := 48 ≤ bt s (i : Int) ∧ bt s (i : Int) ≤ 57
def sv (s : ByteArray) : Nat → Int
  | 0 => 0
  | i + 1 => sv s i * 10 + (bt s (i : Int) - 48)
theorem sv_bd (s : ByteArray) (i : Nat) (h : ∀ p, p < i → Dig s p) : 0 ≤ sv s i ∧ sv s i < 10 ^ i := by
  induction i with
  | zero => exact ⟨Int.le_refl 0, Int.zero_lt_one⟩
  | succ i ih =>
    obtain ⟨h1, h2⟩ := ih (fun p hp => h p (by omega))
    obtain ⟨h3, h4⟩ := h i (by omega)
    have e : sv s (i + 1) = sv s i * 10 + (bt s (i : Int) - 48) := rfl
    rw [e, Int.pow_succ]
    generalize (10 : Int) ^ i = Q at *
    omega
theorem ten_W (i : Nat) : (10 : Int) ^ i ≤ WW ^ i := by
  have : 10 ^ i ≤ 4294967296 ^ i := Nat.pow_le_pow_left (by decide) i
  have e : WW ^ i = ((4294967296 ^ i : Nat) : Int) := by simp
  rw [e]
  exact_mod_cast this
theorem sv_len {s : ByteArray} {i : Nat} (h : ∀ p, p < i → Dig s p) {z : List Int} {v : Int} (hz : Can WW z v) (hv : v ≤ sv s i) : z.length ≤ i := by
  obtain ⟨h1, h2⟩ := sv_bd s i h
  have := ten_W i
  exact hz.len_le WW_one (by omega)
theorem alg_p1 {V S p x v : Int} (h : V * S + p = v) : V * (S * 10) + (p * 10 + x) = v * 10 + x := by grind
theorem parse_ev {s : ByteArray} (hs : s.size ≤ 20000) (d : Nat) : ∀ (i : Nat) (o : List Int) (V part : Int) (j : Nat), s.size - i = d → i ≤ s.size → (∀ p, p < i → Dig s p) → Can WW o V → 0 ≤ part → part < 10 ^ j → j ≤ 9 → V * 10 ^ j + part = sv s i →
    ∃ R, Ev (fun k => nat_Parse.l0 k s o part (10 ^ j) (i : Int)) R ∧ ((∀ p, p < s.size → Dig s p) → ∃ z, Can WW z (sv s s.size) ∧ nat_limited.f z = some R) ∧ ((¬ ∀ p, p < s.size → Dig s p) → R = ([], 90)) := by
  have flush : ∀ (i : Nat) (o : List Int) (V part : Int) (j : Nat), i ≤ s.size → (∀ p, p < i → Dig s p) → Can WW o V → 0 ≤ part → part < 10 ^ j → j ≤ 9 → V * 10 ^ j + part = sv s i → ∃ a b c z, Ev (fun k => mag_From.f k (10 ^ j)) a ∧ Ev (fun k => mag_Mul.f k o a) b ∧ Ev (fun k => mag_From.f k part) c ∧ Ev (fun k => mag_Add.f k b c) z ∧ Can WW z (sv s i) := by
    intro i o V part j h2 h3 h4 h5 h6 h7 h8
    have hj : (10 : Int) ^ j ≤ 10 ^ 9 := pow_le (by decide) h7
    have hj0 : (0 : Int) < 10 ^ j := Int.pow_pos (by decide)
    have hj9 : (10 : Int) ^ j ≤ 1000000000 := hj
    have V0 := h4.nonneg WW_pos
    have hVs : V ≤ sv s i := by
      have : V * 1 ≤ V * 10 ^ j := Int.mul_le_mul_of_nonneg_left (by omega) V0
      omega
    have lo := sv_len h3 h4 hVs
    obtain ⟨a, a1, a2⟩ := mag_From_sp (a := 10 ^ j) (by omega) (by omega)
    have la : a.length ≤ 1 := a2.len_le WW_one (by rw [show WW ^ 1 = 4294967296 from rfl]; omega)
    obtain ⟨b, b1, b2, b3⟩ := mag_Mul_sp (by omega) h4 a2
    obtain ⟨c, c1, c2⟩ := mag_From_sp (a := part) h5 (by omega)
    have lc : c.length ≤ 1 := c2.len_le WW_one (by rw [show WW ^ 1 = 4294967296 from rfl]; omega)
    obtain ⟨z, z1, z2, z3⟩ := mag_Add_sp (by omega) (by omega) b2 c2
    rw [h8] at z2
    exact ⟨a, b, c, z, a1, b1, c1, z1, z2⟩
  induction d with
  | zero =>
    intro i o V part j h1 h2 h3 h4 h5 h6 h7 h8
    have ei : i = s.size := by omega
    subst ei
    obtain ⟨a, b, c, z, a1, b1, c1, z1, z2⟩ := flush _ o V part j (Nat.le_refl _) h3 h4 h5 h6 h7 h8
    obtain ⟨R, hR, _⟩ := limited_any' z
    refine ⟨R, ?_, fun _ => ⟨z, z2, hR⟩, fun h => absurd h3 h⟩
    refine Ev.step (fun k => by rw [nat_Parse.l0]) ?_
    exact evp rfl (Ev.bind a1 (Ev.bind b1 (Ev.bind c1 (Ev.bind z1 (evb hR (evs _))))))
  | succ d ih =>
    intro i o V part j h1 h2 h3 h4 h5 h6 h7 h8
    have hb := bt_range s (i : Int)
    by_cases hd : Dig s i
    · obtain ⟨g1, g2⟩ := hd
      have g3 : ∀ p, p < i + 1 → Dig s p := fun p hp => by
        rcases Nat.lt_or_ge p i with q | q
        · exact h3 p q
        · have : p = i := by omega
          subst this
          exact ⟨g1, g2⟩
      have em : (bt s (i : Int) - 48) % 256 = bt s (i : Int) - 48 := by omega
      have hj9 : (10 : Int) ^ j ≤ 1000000000 := pow_le (B := 10) (by decide) h7
      have hj0 : (0 : Int) < 10 ^ j := Int.pow_pos (by decide)
      have step : ∀ R, Ev (fun k => nat_Parse.j1 k s o part (10 ^ j) (i : Int) false) R → Ev (fun k => nat_Parse.l0 k s o part (10 ^ j) (i : Int)) R := by
        intro R hR
        refine Ev.step (fun k => by rw [nat_Parse.l0]) ?_
        have hdd : decide (bt s (i : Int) > 57) = false := decide_eq_false (by omega)
        rw [hdd]
        exact evn (by omega) (evp (by omega) (evp (by omega) (evn (by omega) hR)))
      by_cases c9 : j = 9
      · subst c9
        obtain ⟨a, b, c, z, a1, b1, c1, z1, z2⟩ := flush i o V part 9 h2 h3 h4 h5 h6 h7 h8
        obtain ⟨R, r1, r2⟩ := ih (i + 1) z (sv s i) (0 * 10 + (bt s (i : Int) - 48)) 1 (by omega) (by omega) g3 z2 (by omega) (by rw [Int.pow_succ, Int.pow_zero]; omega) (by omega) (by
          show sv s i * 10 ^ 1 + (0 * 10 + (bt s (i : Int) - 48)) = sv s i * 10 + (bt s (i : Int) - 48)
          rw [show (10 : Int) ^ 1 = 10 from rfl]; omega)
        refine ⟨R, step R ?_, r2⟩
        refine Ev.step (fun k => by rw [nat_Parse.j1]) ?_
        rw [em, wsucc (i := i) (by omega)]
        exact evn (by simp) (evp rfl (Ev.bind a1 (Ev.bind b1 (Ev.bind c1 (Ev.bind z1 (evp (by omega) (evp (by omega) r1)))))))
      · have hj8 : (10 : Int) ^ j ≤ 100000000 := pow_le (B := 10) (by decide) (show j ≤ 8 by omega)
        obtain ⟨R, r1, r2⟩ := ih (i + 1) o V (part * 10 + (bt s (i : Int) - 48)) (j + 1) (by omega) (by omega) g3 h4 (by omega) (by rw [Int.pow_succ]; omega) (by omega) (by
          show V * 10 ^ (j + 1) + (part * 10 + (bt s (i : Int) - 48)) = sv s i * 10 + (bt s (i : Int) - 48)
          rw [Int.pow_succ]
          exact alg_p1 h8)
        refine ⟨R, step R ?_, r2⟩
        refine Ev.step (fun k => by rw [nat_Parse.j1]) ?_
        rw [em, wsucc (i := i) (by omega), u64 (x := part * 10) (by omega) (by omega), u64 (x := part * 10 + (bt s (i : Int) - 48)) (by omega) (by omega), u64 (x := 10 ^ j * 10) (by omega) (by omega)]
        exact evn (by simp) (evn (by omega) (evp (by omega) (evp (by omega) r1)))
    · refine ⟨([], 90), ?_, fun h => absurd (h i (by omega)) hd, fun _ => rfl⟩
      have fin : Ev (fun k => nat_Parse.j1 k s o part (10 ^ j) (i : Int) true) ([], 90) := by
        refine Ev.step (fun k => by rw [nat_Parse.j1]) ?_
        exact evp rfl (evs _)
      refine Ev.step (fun k => by rw [nat_Parse.l0]) ?_
      refine evn (by omega) (evp (by omega) (evp (by omega) ?_))
      by_cases c1 : bt s (i : Int) < 48
      · exact evp c1 fin
      · have : decide (bt s (i : Int) > 57) = true := decide_eq_true (by
          rcases Int.lt_or_le 57 (bt s (i : Int)) with q | q
          · exact q
          · exact absurd ⟨by omega, q⟩ hd)
        rw [this]
        exact evn c1 fin
theorem nat_Parse_sp (s : ByteArray) : ∃ R, Ev (fun k => nat_Parse.f k s) R ∧ (20000 < s.size → R = ([], 2)) ∧ (s.size ≤ 20000 → 0 < s.size → (∀ p, p < s.size → Dig s p) → ∃ z, Can WW z (sv s s.size) ∧ nat_limited.f z = some R) ∧ (s.size ≤ 20000 → ¬ (0 < s.size ∧ ∀ p, p < s.size → Dig s p) → R = ([], 90)) := by
  by_cases c1 : 20000 < s.size
  · refine ⟨([], 2), ?_, fun _ => rfl, fun h => absurd c1 (by omega), fun h => absurd c1 (by omega)⟩
    unfold nat_Parse.f
    exact evp (by omega) (evs _)
  · by_cases c2 : s.size = 0
    · refine ⟨([], 90), ?_, fun h => absurd h c1, fun _ h => by omega, fun _ _ => rfl⟩
      unfold nat_Parse.f
      exact evn (by omega) (evp ((toList_nil s).2 c2) (evs _))
    · obtain ⟨R, r1, r2, r3⟩ := parse_ev (s := s) (by omega) s.size 0 [] 0 0 0 (by omega) (by omega) (fun p hp => absurd hp (Nat.not_lt_zero _)) (Can.zero _) (by omega) (by decide) (by omega) (by simp [sv])
      refine ⟨R, ?_, fun h => absurd h c1, fun _ _ h => r2 h, fun _ h => r3 (fun h2 => h ⟨by omega, h2⟩)⟩
      unfold nat_Parse.f
      exact evn (by omega) (evn (fun h => c2 ((toList_nil s).1 h)) r1)
end Go.Proofs.Ytfpolhoabfadnaa.P
end
section
namespace Go.Proofs.Ytfpolhoabfadnaa.P
open Go.RowKit Go.Proofs.YtfpolhoabfadnaaW.PrintWords Go.Proofs.YtfpolhoabfadnaaW.PrintLast Go.Proofs.YtfpolhoabfadnaaW.PrintMore
set_option linter.unusedVariables false
theorem txt_in {a D : List Int} {v : Int} {i : Nat} {e : Int} {R : ByteArray} (hi : i < a.length) (ha : Dg RR a) (hl : D.length < 1099511627776) (he : 0 < e) (he2 : e ≤ 1000) (hD : Can TT D v)
    (h : ∀ D', Can TT D' (v * 10 + rd a (i : Int) / e % 10) → D'.length ≤ D.length + 1 → Ev (fun k => isochroneref01_Text.l1 k a (asc D') (i : Int) (e / 10)) R) : Ev (fun k => isochroneref01_Text.l1 k a (asc D) (i : Int) e) R := by
  have hx := dg_rd ha (i : Int) (by omega) (by omega)
  rw [RR_eq] at hx
  have q0 : 0 ≤ rd a (i : Int) / e := Int.ediv_nonneg hx.1 (by omega)
  have q1 : rd a (i : Int) / e ≤ rd a (i : Int) := Int.ediv_le_self _ hx.1
  have d0 := Int.emod_nonneg (rd a (i : Int) / e) (show (10 : Int) ≠ 0 by omega)
  have d1 := Int.emod_lt_of_pos (rd a (i : Int) / e) (show (0 : Int) < 10 by omega)
  have em : (48 + rd a (i : Int) / e % 10) % 256 = rd a (i : Int) / e % 10 + 48 := by omega
  refine Ev.step (fun k => by rw [isochroneref01_Text.l1]) ?_
  rw [tdiv_nn hx.1, w64 (x := rd a (i : Int) / e) (by omega) (by omega), tmod_nn q0, tdiv_nn (Int.le_of_lt he), w64 (x := e / 10) (by omega) (by omega), w64 (x := 48 + rd a (i : Int) / e % 10) (by omega) (by omega), em, asc_len]
  generalize rd a (i : Int) / e % 10 = d at *
  refine evp he (evp (by omega) (evp (by omega) (evn (by omega) ?_)))
  have e1 : asc D ++ [d + 48] = asc ([d] ++ D) := by rw [asc_append]; rfl
  have dd : Dg TT ([d] ++ D) := Dg.append (Dg.mk d0 (by rw [TT_eq]; exact d1) (Dg.nil _)) hD.1
  have vv : vl TT ([d] ++ D) = v * 10 + d := by
    show d + 10 * vl TT D = v * 10 + d
    rw [hD.2.2]; omega
  by_cases c1 : 0 < D.length
  · rw [e1]
    have := h ([d] ++ D) ⟨dd, nm_app hD.2.1 (fun h0 => by rw [h0] at c1; simp at c1), vv⟩ (by simp)
    exact evp (by omega) (evp (by omega) this)
  · have hn : D = [] := List.eq_nil_of_length_eq_zero (by omega)
    by_cases c2 : d > 0
    · rw [e1]
      have := h ([d] ++ D) ⟨dd, by subst hn; exact nm_snoc' [] d (by omega), vv⟩ (by simp)
      exact evn (by omega) (evp c2 (evp (by omega) this))
    · have ed : d = 0 := by omega
      have ev : v = 0 := by rw [← hD.2.2, hn]; rfl
      subst ed
      have := h D (by rw [ev] at hD ⊢; exact hD) (by omega)
      exact evn (by omega) (evn (by omega) this)
theorem r_Text_ev {a Z : List Int} {n : Int} (hn : a.length < 68719476736) (ha : Can RR a n) (hZ : Can TT Z n) (d : Nat) : ∀ (i : Nat) (D : List Int), i = d → i ≤ a.length → Can TT D (vl RR (a.drop i)) → D.length + 4 * i ≤ 4 * a.length →
    Ev (fun k => isochroneref01_Text.l0 k a (asc D) ((i : Int) - 1)) (strOfNums (asc Z)) := by
  induction d with
  | zero =>
    rintro i D rfl h1 h2 h3
    rw [List.drop_zero, ha.2.2] at h2
    have := can_uniq TT_pos h2 hZ
    subst this
    refine Ev.step (fun k => by rw [isochroneref01_Text.l0]) ?_
    exact evn (by omega) (evs _)
  | succ d ih =>
    rintro i D rfl h1 h2 h3
    have hx := dg_rd ha.1 (d : Int) (by omega) (by omega)
    rw [RR_eq] at hx
    refine Ev.step (fun k => by rw [isochroneref01_Text.l0]) ?_
    rw [show (((d + 1 : Nat) : Int) - 1) = (d : Int) by omega]
    refine evp (by omega) ?_
    refine txt_in (by omega) ha.1 (by omega) (by omega) (by omega) h2 (fun D1 c1 l1 => ?_)
    rw [show (1000 : Int) / 10 = 100 from rfl]
    refine txt_in (by omega) ha.1 (by omega) (by omega) (by omega) c1 (fun D2 c2 l2 => ?_)
    rw [show (100 : Int) / 10 = 10 from rfl]
    refine txt_in (by omega) ha.1 (by omega) (by omega) (by omega) c2 (fun D3 c3 l3 => ?_)
    rw [show (10 : Int) / 10 = 1 from rfl]
    refine txt_in (by omega) ha.1 (by omega) (by omega) (by omega) c3 (fun D4 c4 l4 => ?_)
    rw [show (1 : Int) / 10 = 0 from rfl]
    refine Ev.step (fun k => by rw [isochroneref01_Text.l1]) ?_
    rw [w64 (x := (d : Int) - 1) (by omega) (by omega)]
    refine evn (by omega) (ih d D4 rfl (by omega) ?_ (by omega))
    rw [drop_rd a d (by omega), vl]
    have e : ((((vl RR (a.drop (d + 1)) * 10 + rd a (d : Int) / 1000 % 10) * 10 + rd a (d : Int) / 100 % 10) * 10 + rd a (d : Int) / 10 % 10) * 10 + rd a (d : Int) / 1 % 10) = rd a (d : Int) + RR * vl RR (a.drop (d + 1)) := by rw [RR_eq]; omega
    rw [← e]
    exact c4
theorem r_Text_sp {a Z : List Int} {n : Int} (hn : a.length < 68719476736) (ha : Can RR a n) (hZ : Can TT Z n) (hp : 0 < n) : Ev (fun k => isochroneref01_Text.f k a) (strOfNums (asc Z)) := by
  have hc : a.length ≠ 0 := fun h => by have := (ha.len_iff RR_pos).1 h; omega
  have h := r_Text_ev hn ha hZ a.length a.length [] rfl (Nat.le_refl _) (by rw [List.drop_length]; exact Can.zero _) (by simp)
  unfold isochroneref01_Text.f
  rw [w64 (x := (a.length : Int) - 1) (by omega) (by omega)]
  exact evn (by omega) h
theorem r_Decimal_ev {s : ByteArray} (hs : s.size ≤ 20000) (d : Nat) : ∀ i : Nat, s.size - i = d → i ≤ s.size → (∀ p, p < i → Dig s p) → ∃ t, Ev (fun k => isochroneref01_Decimal.l0 k s (s.size : Int) (i : Int)) t ∧ (t = true ↔ 0 < s.size ∧ ∀ p, p < s.size → Dig s p) := by
  induction d with
  | zero =>
    intro i h1 h2 h3
    have e : i = s.size := by omega
    subst e
    refine ⟨s.toList != [], ?_, ?_⟩
    · refine Ev.step (fun k => by rw [isochroneref01_Decimal.l0]) ?_
      exact evn (by omega) (evs _)
    · rw [bne_iff_ne, Ne, toList_nil]
      exact ⟨fun h => ⟨by omega, h3⟩, fun h => by omega⟩
  | succ d ih =>
    intro i h1 h2 h3
    by_cases hd : Dig s i
    · obtain ⟨g1, g2⟩ := hd
      obtain ⟨t, t1, t2⟩ := ih (i + 1) (by omega) (by omega) (fun p hp => by
        rcases Nat.lt_or_ge p i with q | q
        · exact h3 p q
        · have : p = i := by omega
          subst this
          exact ⟨g1, g2⟩)
      refine ⟨t, ?_, t2⟩
      refine Ev.step (fun k => by rw [isochroneref01_Decimal.l0]) ?_
      rw [wsucc (i := i) (by omega)]
      exact evp (by omega) (evp (by omega) (evp (by omega) (evn (by omega) (evn (by omega) t1))))
    · refine ⟨false, ?_, by simp only [Bool.false_eq_true, false_iff]; exact fun h => hd (h.2 i (by omega))⟩
      refine Ev.step (fun k => by rw [isochroneref01_Decimal.l0]) ?_
      refine evp (by omega) (evp (by omega) (evp (by omega) ?_))
      by_cases c1 : bt s (i : Int) < 48
      · exact evp c1 (evs _)
      · refine evn c1 (evp ?_ (evs _))
        rcases Int.lt_or_le 57 (bt s (i : Int)) with q | q
        · exact q
        · exact absurd ⟨by omega, q⟩ hd
theorem r_Decimal_sp {s : ByteArray} (hs : s.size ≤ 20000) : ∃ t, Ev (fun k => isochroneref01_Decimal.f k s) t ∧ (t = true ↔ 0 < s.size ∧ ∀ p, p < s.size → Dig s p) := by
  obtain ⟨t, t1, t2⟩ := r_Decimal_ev hs s.size 0 (by omega) (by omega) (fun p hp => absurd hp (Nat.not_lt_zero _))
  exact ⟨t, by unfold isochroneref01_Decimal.f; exact t1, t2⟩
theorem alg_g {d S Q v x : Int} (h : d + S * Q = v) : (d * 10 + x) + S * (Q * 10) = v * 10 + x := by grind
theorem digits_in {s : ByteArray} (hs : s.size ≤ 20000) (hall : ∀ p, p < s.size → Dig s p) (o : List Int) (lo e : Nat) (hlo : lo ≤ e) (h4 : e ≤ lo + 4) (he : e ≤ s.size) (R : List Int)
    (h : ∀ d, 0 ≤ d → d < 10 ^ (e - lo) → d + sv s lo * 10 ^ (e - lo) = sv s e → Ev (fun k => isochroneref01_Digits.l1 k s o (e : Int) d (e : Int)) R) (c : Nat) : ∀ (i : Nat) (d : Int), e - i = c → lo ≤ i → i ≤ e → 0 ≤ d → d < 10 ^ (i - lo) → d + sv s lo * 10 ^ (i - lo) = sv s i → Ev (fun k => isochroneref01_Digits.l1 k s o (e : Int) d (i : Int)) R := by
  induction c with
  | zero =>
    intro i d h1 h2 h3 h5 h6 h7
    have e1 : i = e := by omega
    subst e1
    exact h d h5 h6 h7
  | succ c ih =>
    intro i d h1 h2 h3 h5 h6 h7
    obtain ⟨g1, g2⟩ := hall i (by omega)
    have em : (bt s (i : Int) - 48) % 256 = bt s (i : Int) - 48 := by omega
    have hq : (10 : Int) ^ (i - lo) ≤ 1000 := pow_le (B := 10) (by decide) (show i - lo ≤ 3 by omega)
    have ep : i + 1 - lo = (i - lo) + 1 := by omega
    have := ih (i + 1) (d * 10 + (bt s (i : Int) - 48)) (by omega) (by omega) (by omega) (by omega) (by rw [ep, Int.pow_succ]; omega) (by
      rw [ep, Int.pow_succ]
      exact alg_g h7)
    refine Ev.step (fun k => by rw [isochroneref01_Digits.l1]) ?_
    rw [em, w64 (x := d * 10) (by omega) (by omega), w64 (x := d * 10 + (bt s (i : Int) - 48)) (by omega) (by omega), wsucc (i := i) (by omega)]
    exact evp (by omega) (evp (by omega) (evp (by omega) this))
theorem alg_gg {vo P S d v n Q : Int} (h : vo + P * v = n) (h2 : d + S * Q = v) : (vo + d * P) + (P * Q) * S = n := by grind
theorem r_Digits_ev {s : ByteArray} (hs : s.size ≤ 20000) (hall : ∀ p, p < s.size → Dig s p) (c : Nat) : ∀ (e : Int) (o : List Int), e.toNat < c → e + 4 * o.length ≤ s.size + 4 → e ≤ s.size → Dg RR o → vl RR o + RR ^ o.length * sv s e.toNat = sv s s.size → -4 ≤ e →
    ∃ r, Ev (fun k => isochroneref01_Digits.l0 k s o e) r ∧ Can RR r (sv s s.size) ∧ r.length ≤ 5002 := by
  induction c with
  | zero => intro e o h; exact absurd h (Nat.not_lt_zero _)
  | succ c ih =>
    intro e o h1 h2 h3 h4 h5 h6
    by_cases c1 : e > 0
    · obtain ⟨E, rfl⟩ := Int.eq_ofNat_of_zero_le (show 0 ≤ e by omega)
      rw [Int.toNat_natCast] at h5
      have next : ∀ d, 0 ≤ d → d < 10 ^ (E - (E - 4)) → d + sv s (E - 4) * 10 ^ (E - (E - 4)) = sv s E → ∃ r, Ev (fun k => isochroneref01_Digits.l0 k s (o ++ [d]) ((E : Int) - 4)) r ∧ Can RR r (sv s s.size) ∧ r.length ≤ 5002 := by
        intro d d0 d1 d2
        have hq : (10 : Int) ^ (E - (E - 4)) ≤ 10000 := pow_le (B := 10) (by decide) (show E - (E - 4) ≤ 4 by omega)
        refine ih ((E : Int) - 4) (o ++ [d]) (by omega) (by simp; omega) (by omega) (h4.append (Dg.mk d0 (by rw [RR_eq]; omega) (Dg.nil _))) ?_ (by omega)
        rw [vl_snoc, List.length_append, List.length_singleton, Int.pow_succ, show ((E : Int) - 4).toNat = E - 4 by omega]
        by_cases c4 : 4 ≤ E
        · rw [show E - (E - 4) = 4 by omega] at d2
          exact alg_gg h5 d2
        · have e0 : E - 4 = 0 := by omega
          rw [e0, show sv s 0 = 0 from rfl, Int.zero_mul, Int.add_zero] at d2
          rw [e0, show sv s 0 = 0 from rfl, Int.mul_zero, Int.add_zero, d2, Int.mul_comm (sv s E)]
          exact h5
      obtain ⟨dd, dd0, dd1, dd2⟩ : ∃ d, 0 ≤ d ∧ d < 10 ^ (E - (E - 4)) ∧ d + sv s (E - 4) * 10 ^ (E - (E - 4)) = sv s E := by
        have key : ∀ j, (E - 4) + j ≤ E → ∃ d, 0 ≤ d ∧ d < 10 ^ j ∧ d + sv s (E - 4) * 10 ^ j = sv s (E - 4 + j) := by
          intro j
          induction j with
          | zero => intro _; exact ⟨0, Int.le_refl _, by decide, by simp⟩
          | succ j ihj =>
            intro hj
            obtain ⟨d, a1, a2, a3⟩ := ihj (by omega)
            obtain ⟨g1, g2⟩ := hall (E - 4 + j) (by omega)
            refine ⟨d * 10 + (bt s ((E - 4 + j : Nat) : Int) - 48), by omega, by rw [Int.pow_succ]; omega, ?_⟩
            rw [Int.pow_succ]
            exact alg_g a3
        obtain ⟨d, a1, a2, a3⟩ := key (E - (E - 4)) (by omega)
        rw [show E - 4 + (E - (E - 4)) = E by omega] at a3
        exact ⟨d, a1, a2, a3⟩
      obtain ⟨r, r1, r2⟩ := next dd dd0 dd1 dd2
      refine ⟨r, ?_, r2⟩
      refine Ev.step (fun k => by rw [isochroneref01_Digits.l0]) ?_
      have em : mx 0 (wrap64 ((E : Int) - 4)) = ((E - 4 : Nat) : Int) := by
        rw [w64 (by omega) (by omega)]
        unfold mx
        split <;> omega
      rw [em]
      refine evp c1 (digits_in hs hall o (E - 4) E (by omega) (by omega) (by omega) r ?_ (E - (E - 4)) (E - 4) 0 rfl (Nat.le_refl _) (by omega) (Int.le_refl _) (by rw [Nat.sub_self]; decide) (by simp))
      intro d d0 d1 d2
      have : d = dd := by omega
      subst this
      refine Ev.step (fun k => by rw [isochroneref01_Digits.l1]) ?_
      rw [w64 (x := (E : Int) - 4) (by omega) (by omega)]
      exact evn (by omega) (evp (by omega) r1)
    · rw [show e.toNat = 0 by omega, show sv s 0 = 0 from rfl, Int.mul_zero, Int.add_zero] at h5
      obtain ⟨r, r1, r2, r3⟩ := r_trim_sp (l := o) (by omega) h4
      rw [h5] at r2
      refine ⟨r, ?_, r2, by omega⟩
      refine Ev.step (fun k => by rw [isochroneref01_Digits.l0]) ?_
      exact evn c1 (Ev.bind r1 (evs _))
theorem r_Digits_sp {s : ByteArray} (hs : s.size ≤ 20000) (hall : ∀ p, p < s.size → Dig s p) : ∃ r, Ev (fun k => isochroneref01_Digits.f k s) r ∧ Can RR r (sv s s.size) ∧ r.length ≤ 5002 := by
  obtain ⟨r, r1, r2⟩ := r_Digits_ev hs hall _ (s.size : Int) [] (Nat.lt_succ_self _) (by simp; omega) (Int.le_refl _) (Dg.nil _) (by simp [vl]) (by omega)
  exact ⟨r, by unfold isochroneref01_Digits.f; exact r1, r2⟩
end Go.Proofs.Ytfpolhoabfadnaa.P
end
section
namespace Go.Proofs.Ytfpolhoabfadnaa.P
open Go.RowKit Go.Proofs.YtfpolhoabfadnaaW.PrintWords Go.Proofs.YtfpolhoabfadnaaW.PrintLast Go.Proofs.YtfpolhoabfadnaaW.PrintMore
set_option linter.unusedVariables false
theorem len64_sp {x : Int} (h0 : 0 ≤ x) (h1 : x < 4294967296) : ∃ L : Nat, Ev (fun k => bits_Len64.f k x) (L : Int) ∧ L ≤ 32 ∧ x < 2 ^ L := by
  have key : ∃ L : Nat, Ev (fun k => bits_Len64.j0 k x 0) (L : Int) ∧ L ≤ 32 ∧ x < 2 ^ L := by
    by_cases c1 : x ≥ 65536
    · by_cases c2 : x / 65536 ≥ 256
      · have e : x / 65536 / 256 % 256 = x / 2 ^ 24 := by omega
        obtain ⟨L, t1, t2, t3, t4⟩ := tab_len' (x := x / 2 ^ 24) (by omega) (by omega)
        obtain ⟨t5, t6⟩ := t4 (by omega)
        obtain ⟨t7, t8⟩ := sh_pow h0 rfl t3 t5 t6
        refine ⟨24 + L, ?_, by omega, t7⟩
        refine Ev.step (fun k => by rw [bits_Len64.j0]) (evk ?_)
        rw [if_pos c1, if_pos c2, e, if_pos (by omega), if_pos (by omega), t1, w64 (x := (L : Int)) (by omega) (by omega), w64 (x := 0 + 16) (by omega) (by omega), w64 (x := 0 + 16 + 8) (by omega) (by omega), w64 (by omega) (by omega)]
        exact congrArg some (by omega)
      · have e : x / 65536 % 256 = x / 2 ^ 16 := by omega
        obtain ⟨L, t1, t2, t3, t4⟩ := tab_len' (x := x / 2 ^ 16) (by omega) (by omega)
        obtain ⟨t5, t6⟩ := t4 (by omega)
        obtain ⟨t7, t8⟩ := sh_pow h0 rfl t3 t5 t6
        refine ⟨16 + L, ?_, by omega, t7⟩
        refine Ev.step (fun k => by rw [bits_Len64.j0]) (evk ?_)
        rw [if_pos c1, if_neg c2, e, if_pos (by omega), if_pos (by omega), t1, w64 (x := (L : Int)) (by omega) (by omega), w64 (x := 0 + 16) (by omega) (by omega), w64 (by omega) (by omega)]
        exact congrArg some (by omega)
    · by_cases c2 : x ≥ 256
      · have e : x / 256 % 256 = x / 2 ^ 8 := by omega
        obtain ⟨L, t1, t2, t3, t4⟩ := tab_len' (x := x / 2 ^ 8) (by omega) (by omega)
        obtain ⟨t5, t6⟩ := t4 (by omega)
        obtain ⟨t7, t8⟩ := sh_pow h0 rfl t3 t5 t6
        refine ⟨8 + L, ?_, by omega, t7⟩
        refine Ev.step (fun k => by rw [bits_Len64.j0]) (evk ?_)
        rw [if_neg c1, if_pos c2, e, if_pos (by omega), if_pos (by omega), t1, w64 (x := (L : Int)) (by omega) (by omega), w64 (x := 0 + 8) (by omega) (by omega), w64 (by omega) (by omega)]
        exact congrArg some (by omega)
      · have e : x % 256 = x := by omega
        obtain ⟨L, t1, t2, t3, t4⟩ := tab_len' (x := x) (by omega) (by omega)
        refine ⟨L, ?_, by omega, t3⟩
        refine Ev.step (fun k => by rw [bits_Len64.j0]) (evk ?_)
        rw [if_neg c1, if_neg c2, e, if_pos (by omega), if_pos (by omega), t1, w64 (x := (L : Int)) (by omega) (by omega), w64 (by omega) (by omega)]
        exact congrArg some (by omega)
  obtain ⟨L, k1, k2⟩ := key
  exact ⟨L, by unfold bits_Len64.f; exact evn (by omega) k1, k2⟩
theorem shr_i64 {x : Int} {c : Nat} (hc : c ≤ 63) : shr .i64 x (c : Int) = x / 2 ^ c := by
  have hm : min c IntKind.i64.bits = c := by
    have : IntKind.i64.bits = 64 := rfl
    omega
  unfold shr
  rw [Int.toNat_natCast, hm]
theorem and1 {x : Int} (h0 : 0 ≤ x) (h1 : x < 4294967296) : Go.bits .and .i64 x 1 = x % 2 :=
  bits_mask .i64 32 (by decide) (fun n h0 h1 => by rw [IntKind.wrap_i64]; omega) 1 (by decide) x h0 h1
theorem nat_Pow_ev {a : List Int} {v : Int} {N : Nat} (hl : a.length ≤ 4) (ha : Can WW a v) (hv : 1 ≤ v) (hN : N ≤ 131072) {z : List Int} {R : List Int × Int} (hz : Can WW z (v ^ N)) (hR : nat_limited.f z = some R) (c : Nat) : c ≤ 32 → ∀ o : List Int, Can WW o (v ^ (N / 2 ^ c)) →
    Ev (fun k => nat_Pow.l0 k a (N : Int) o ((c : Int) - 1)) R := by
  have hvW : v < WW ^ 4 := Int.lt_of_lt_of_le (ha.lt WW_pos) (pow_le (by decide) hl)
  have big : ∀ m : Nat, m ≤ 131072 → ∀ l : List Int, Can WW l (v ^ m) → l.length ≤ 524289 := by
    intro m hm l hl
    have h1 : v ^ m ≤ (WW ^ 4) ^ m := by
      have : v.toNat ^ m ≤ (WW ^ 4).toNat ^ m := Nat.pow_le_pow_left (by omega) m
      have e1 : v = (v.toNat : Int) := by omega
      have e2 : (WW ^ 4 : Int) = ((WW ^ 4).toNat : Int) := by decide
      rw [e1, e2]
      exact_mod_cast this
    rw [← Int.pow_mul] at h1
    have h2 : v ^ m < WW ^ (4 * m + 1) := by
      rw [Int.pow_succ]
      have h3 : (0 : Int) < WW ^ (4 * m) := pow_pos' WW_pos _
      have h4 : WW ^ (4 * m) * 1 < WW ^ (4 * m) * WW := Int.mul_lt_mul_of_pos_left (by decide) h3
      omega
    have h5 := hl.len_le WW_one h2
    have : 4 * m + 1 ≤ 524289 := by omega
    omega
  induction c with
  | zero =>
    intro _ o ho
    rw [Nat.pow_zero, Nat.div_one] at ho
    have e := can_uniq WW_pos ho hz
    subst e
    refine Ev.step (fun k => by rw [nat_Pow.l0]) ?_
    exact evn (by omega) (evb hR (evs _))
  | succ c ih =>
    intro hc o ho
    have hdiv : N / 2 ^ (c + 1) = N / 2 ^ c / 2 := by rw [Nat.pow_succ, Nat.div_div_eq_div_mul]
    have hle : N / 2 ^ c ≤ N := Nat.div_le_self _ _
    have hsh : (N : Int) / 2 ^ c = ((N / 2 ^ c : Nat) : Int) := by exact_mod_cast rfl
    generalize hm : N / 2 ^ c = m at *
    rw [hdiv] at ho
    have lo := big _ (by omega) o ho
    obtain ⟨p, p1, p2, p3⟩ := mag_Mul_sp (by omega) ho ho
    rw [← Int.pow_add] at p2
    refine Ev.step (fun k => by rw [nat_Pow.l0]) ?_
    rw [show ((c + 1 : Nat) : Int) - 1 = (c : Int) by omega, shr_i64 (by omega), hsh, and1 (by omega) (by omega), w64 (x := (c : Int) - 1) (by omega) (by omega)]
    refine evp (by omega) (Ev.bind p1 (evp (by omega) ?_))
    by_cases c1 : (m : Int) % 2 = 1
    · have lp := big _ (by omega) p p2
      obtain ⟨q, q1, q2, q3⟩ := mag_Mul_sp (by omega) p2 ha
      rw [← Int.pow_succ, show (m / 2 + m / 2).succ = m by omega] at q2
      exact evp c1 (Ev.bind q1 (ih (by omega) q q2))
    · rw [show m / 2 + m / 2 = m by omega] at p2
      exact evn c1 (ih (by omega) p p2)
theorem r_Pow_ev {a : List Int} {v : Int} (hl : a.length ≤ 16) (ha : Can RR a v) (N : Nat) (hN : N ≤ 1000) (d : Nat) : ∀ (i : Nat) (o : List Int), N - i = d → i ≤ N → Can RR o (v ^ i) → o.length ≤ 16 * i + 1 →
    ∃ r, Ev (fun k => isochroneref01_Pow.l0 k a o (N : Int) (i : Int)) r ∧ Can RR r (v ^ N) ∧ r.length ≤ 16 * N + 1 := by
  induction d with
  | zero =>
    intro i o h1 h2 h3 h4
    have e : i = N := by omega
    subst e
    refine ⟨o, ?_, h3, h4⟩
    refine Ev.step (fun k => by rw [isochroneref01_Pow.l0]) ?_
    exact evn (by omega) (evs _)
  | succ d ih =>
    intro i o h1 h2 h3 h4
    obtain ⟨p, p1, p2, p3⟩ := r_Mul_sp (by omega) h3 ha
    rw [← Int.pow_succ] at p2
    obtain ⟨r, r1, r2⟩ := ih (i + 1) p (by omega) (by omega) p2 (by omega)
    refine ⟨r, ?_, r2⟩
    refine Ev.step (fun k => by rw [isochroneref01_Pow.l0]) ?_
    rw [wsucc (i := i) (by omega)]
    exact evp (by omega) (Ev.bind p1 r1)
theorem r_Pow_sp {a : List Int} {v : Int} (hl : a.length ≤ 16) (ha : Can RR a v) (N : Nat) (hN : N ≤ 1000) : ∃ r, Ev (fun k => isochroneref01_Pow.f k a (N : Int)) r ∧ Can RR r (v ^ N) ∧ r.length ≤ 16 * N + 1 := by
  obtain ⟨r, r1, r2⟩ := r_Pow_ev hl ha N hN N 0 [1] (by omega) (by omega) (by rw [Int.pow_zero]; exact ⟨Dg.mk (by decide) (by decide) (Dg.nil _), fun h => by simp, by decide⟩) (by simp)
  exact ⟨r, by unfold isochroneref01_Pow.f; exact r1, r2⟩
end Go.Proofs.Ytfpolhoabfadnaa.P
end
section
namespace Go.Proofs.Ytfpolhoabfadnaa.Q
open Go.RowKit Go.Proofs.YtfpolhoabfadnaaW.PrintWords Go.Proofs.YtfpolhoabfadnaaW.PrintMore Go.Proofs.Ytfpolhoabfadnaa.V Go.Proofs.Ytfpolhoabfadnaa.E
open Go.Proofs.Ytfpolhoabfadnaa.P (Dg Nm vl WW RR can_uniq gI evs evk evb cmpi WW_pos WW_one)
set_option linter.unusedVariables false
theorem bT {α : Type} {c : Bool} {f g : Nat → Option α} {r : α} (hc : c = true) (h : Ev f r) : Ev (fun k => bif c then f k else g k) r := by subst hc; exact h
theorem bF {α : Type} {c : Bool} {f g : Nat → Option α} {r : α} (hc : c = false) (h : Ev g r) : Ev (fun k => bif c then f k else g k) r := by subst hc; exact h
theorem iT {α : Type} {c : Prop} [Decidable c] {f : Nat → Option α} {r : α} (hc : c) (h : Ev f r) : Ev (fun k => if c then f k else none) r := by simpa only [if_pos hc] using h
theorem evmap {α β : Type} {f : Nat → Option α} {g : α → β} {r : α} (h : Ev f r) : Ev (fun k => (f k).map g) (g r) := by
  obtain ⟨K, h⟩ := h
  exact ⟨K, fun k hk => by simp only [h k hk, Option.map_some]⟩
def sg (s : Bool) (x : Int) : Int := if s then -x else x
def RB (B : Int) (v : RatD) (q : Rat) : Prop := v.1 = decide (q.num < 0) ∧ P.Can B v.2.1 (q.num.natAbs : Int) ∧ P.Can B v.2.2.1 (q.den : Int)
theorem can1 {B : Int} (h : 1 < B) : P.Can B [1] 1 := ⟨Dg.mk (by decide) h (Dg.nil _), fun h => by simp, by simp [vl]⟩
theorem rb_zero {B : Int} (h : 1 < B) : RB B (false, [], [1], ()) 0 := ⟨rfl, P.Can.zero B, can1 h⟩
theorem rb_uniq {B : Int} (hB : 0 < B) {v w : RatD} {q : Rat} (hv : RB B v q) (hw : RB B w q) : v = w := by
  obtain ⟨a, b, c, d⟩ := v
  obtain ⟨a', b', c', d'⟩ := w
  obtain ⟨h1, h2, h3⟩ := hv
  obtain ⟨g1, g2, g3⟩ := hw
  have e1 : a = a' := h1.trans g1.symm
  have e2 : b = b' := can_uniq hB h2 g2
  have e3 : c = c' := can_uniq hB h3 g3
  subst e1 e2 e3
  rfl
theorem gI_swap (x y : Int) : ((y.gcd x : Nat) : Int) = gI x y := by unfold gI; rw [Int.gcd_comm]
theorem rb_frac {B : Int} {s : Bool} {l d : List Int} {x y : Int} (hx : 0 < x) (hy : 0 < y) (hl : P.Can B l (x / gI x y)) (hd : P.Can B d (y / gI x y)) : RB B (s, l, d, ()) (Rat.divInt (sg s x) y) := by
  have hg : 0 < gI x y := by
    unfold gI
    have := Int.gcd_pos_of_ne_zero_left y (show x ≠ 0 by omega)
    omega
  have hgx : gI x y ∣ x := Int.gcd_dvd_left ..
  have hgy : gI x y ∣ y := Int.gcd_dvd_right ..
  have hq : 0 < x / gI x y := Int.ediv_pos_of_pos_of_dvd hx (by omega) hgx
  have hr : 0 < y / gI x y := Int.ediv_pos_of_pos_of_dvd hy (by omega) hgy
  have hsg : ((y.gcd (sg s x) : Nat) : Int) = gI x y := by
    unfold sg
    cases s with
    | true => simp only [if_true, Int.gcd_neg]; exact gI_swap x y
    | false => exact gI_swap x y
  have hnum : (Rat.divInt (sg s x) y).num = sg s (x / gI x y) := by
    rw [Rat.num_divInt, hsg, Int.sign_eq_one_of_pos hy, Int.one_mul]
    unfold sg
    cases s with
    | true => simp only [if_true]; exact Int.neg_ediv_of_dvd hgx
    | false => rfl
  have hden : ((Rat.divInt (sg s x) y).den : Int) = y / gI x y := by
    rw [Rat.den_divInt, if_neg (by omega), Int.natCast_ediv, hsg]
    congr 1
    omega
  refine ⟨?_, ?_, ?_⟩
  · show s = _
    rw [hnum]
    unfold sg
    cases s with
    | true => simp only [if_true]; exact (decide_eq_true (by omega)).symm
    | false => exact (decide_eq_false (by simp; omega)).symm
  · show P.Can B l _
    rw [hnum]
    have : ((sg s (x / gI x y)).natAbs : Int) = x / gI x y := by
      unfold sg
      cases s with
      | true => simp only [if_true]; omega
      | false => simp; omega
    rw [this]
    exact hl
  · show P.Can B d _
    rw [hden]
    exact hd
theorem frac_zero (s : Bool) (y : Int) : Rat.divInt (sg s 0) y = 0 := by unfold sg; cases s <;> simp
theorem sg_val {B : Int} {v : RatD} {q : Rat} (h : RB B v q) : sg v.1 q.num.natAbs = q.num := by
  unfold sg
  rw [h.1]
  by_cases c : q.num < 0
  · rw [if_pos (decide_eq_true c)]; omega
  · rw [if_neg (by simpa using c)]; omega
theorem den_pos' (q : Rat) : (0 : Int) < q.den := by have := q.den_pos; omega
def Sz (B : Int) (K : Nat) (q : Rat) : Prop := (q.num.natAbs : Int) < B ^ K ∧ (q.den : Int) < B ^ K
theorem sz_of {B : Int} (hB : 0 < B) {v : RatD} {q : Rat} (h : RB B v q) {K : Nat} (h1 : v.2.1.length ≤ K) (h2 : v.2.2.1.length ≤ K) : Sz B K q :=
  ⟨Int.lt_of_lt_of_le (h.2.1.lt hB) (P.pow_le (by omega) h1), Int.lt_of_lt_of_le (h.2.2.lt hB) (P.pow_le (by omega) h2)⟩
theorem sz_len {B : Int} (hB : 1 < B) {v : RatD} {q : Rat} (h : RB B v q) {K : Nat} (hs : Sz B K q) : v.2.1.length ≤ K ∧ v.2.2.1.length ≤ K := ⟨h.2.1.len_le hB hs.1, h.2.2.len_le hB hs.2⟩
theorem sz_mono {B : Int} (hB : 0 < B) {q : Rat} {K L : Nat} (hs : Sz B K q) (h : K ≤ L) : Sz B L q := ⟨Int.lt_of_lt_of_le hs.1 (P.pow_le (by omega) h), Int.lt_of_lt_of_le hs.2 (P.pow_le (by omega) h)⟩
theorem sz_frac {B : Int} {s : Bool} {x y : Int} {K : Nat} (hx : 0 ≤ x) (hy : 0 < y) (h1 : x < B ^ K) (h2 : y < B ^ K) : Sz B K (Rat.divInt (sg s x) y) := by
  have hsx : (sg s x).natAbs = x.natAbs := by unfold sg; cases s <;> simp
  constructor
  · rw [Rat.num_divInt, Int.sign_eq_one_of_pos hy, Int.one_mul]
    have : ((sg s x) / ((y.gcd (sg s x) : Nat) : Int)).natAbs ≤ (sg s x).natAbs := by
      rw [Int.natAbs_ediv_of_dvd (Int.gcd_dvd_right ..)]
      exact Nat.div_le_self ..
    omega
  · rw [Rat.den_divInt, if_neg (by omega)]
    have : y.natAbs / (y.gcd (sg s x)) ≤ y.natAbs := Nat.div_le_self ..
    omega
end Go.Proofs.Ytfpolhoabfadnaa.Q
end
section
namespace Go.Proofs.Ytfpolhoabfadnaa.Q
open Go.RowKit Go.Proofs.YtfpolhoabfadnaaW.PrintWords Go.Proofs.YtfpolhoabfadnaaW.PrintMore Go.Proofs.Ytfpolhoabfadnaa.V Go.Proofs.Ytfpolhoabfadnaa.E
open Go.Proofs.Ytfpolhoabfadnaa.P (Dg Nm vl WW RR can_uniq gI evs evk evb cmpi WW_pos WW_one w64 u64)
set_option linter.unusedVariables false
section
variable {a b : List Int} {n m : Int}
theorem q_Mul (hn : a.length + b.length < 1099511627776) (ha : P.Can WW a n) (hb : P.Can WW b m) : ∃ r, Ev (fun k => mag_Mul k a b) r ∧ P.Can WW r (n * m) ∧ r.length ≤ a.length + b.length := by
  obtain ⟨r, h1, h2⟩ := P.mag_Mul_sp hn ha hb
  exact ⟨r, Ev.step (fun k => mag_Mul_eq k a b) h1, h2⟩
theorem q_Add (hla : a.length < 1099511627776) (hlb : b.length < 1099511627776) (ha : P.Can WW a n) (hb : P.Can WW b m) : ∃ r, Ev (fun k => mag_Add k a b) r ∧ P.Can WW r (n + m) ∧ r.length ≤ max a.length b.length + 1 := by
  obtain ⟨r, h1, h2⟩ := P.mag_Add_sp hla hlb ha hb
  exact ⟨r, Ev.step (fun k => mag_Add_eq k a b) h1, h2⟩
theorem q_Sub (hn : a.length < 1099511627776) (ha : P.Can WW a n) (hb : P.Can WW b m) (hle : m ≤ n) : ∃ r, Ev (fun k => mag_Sub k a b) r ∧ P.Can WW r (n - m) ∧ r.length ≤ a.length := by
  obtain ⟨r, h1, h2⟩ := P.mag_Sub_sp hn ha hb hle
  exact ⟨r, Ev.step (fun k => mag_Sub_eq k a b) h1, h2⟩
theorem q_Cmp (hn : a.length < 4611686018427387904) (ha : P.Can WW a n) (hb : P.Can WW b m) : Ev (fun k => mag_Cmp k a b) (cmpi n m) := Ev.step (fun k => mag_Cmp_eq k a b) (P.mag_Cmp_sp hn ha hb)
theorem q_GCD (la : a.length < 1073741824) (lb : b.length < 1073741824) (ha : P.Can WW a n) (hb : P.Can WW b m) : ∃ r, Ev (fun k => mag_GCD k a b) r ∧ P.Can WW r (gI n m) := by
  obtain ⟨r, h1, h2⟩ := P.mag_GCD_sp la lb ha hb
  exact ⟨r, Ev.step (fun k => mag_GCD_eq k a b) h1, h2⟩
theorem q_DivMod (hn : a.length < 17179869184) (ha : P.Can WW a n) (hb : P.Can WW b m) (hm : 0 < m) : ∃ q r, Ev (fun k => mag_DivMod k a b) (q, r, ()) ∧ P.Can WW q (n / m) ∧ P.Can WW r (n % m) := by
  obtain ⟨q, r, h1, h2⟩ := P.mag_DivMod_sp hn ha hb hm
  exact ⟨q, r, Ev.step (fun k => mag_DivMod_eq k a b) (evmap (g := fun r : List Int × List Int => (r.1, r.2, ())) h1), h2⟩
theorem gcd_pos {x y : Int} (hy : 0 < y) : 0 < gI x y := by
  unfold P.gI
  have := Int.gcd_pos_of_ne_zero_right x (show y ≠ 0 by omega)
  omega
theorem one_tst {l : List Int} {z : Int} (h : P.Can WW l z) (hz : 0 < z) (h1 : z ≠ 1) : (bif (List.length l : Int) != (1 : Int) then some true else if 0 ≤ (0 : Int) ∧ (0 : Int) < (List.length l : Int) then some ((rdT (t := (.int .u32)) l (0 : Int) : Int) != (1 : Int)) else none) = some true := by
  match l, h with
  | [], h => rfl
  | [x], h =>
    have hx : x = z := by have := h.2.2; simp [vl] at this; exact this
    have hr : (rdT (t := (.int .u32)) [x] (0 : Int) : Int) = x := rfl
    rw [hr]
    have : (x != (1 : Int)) = true := by simp; omega
    rw [this]
    simp
  | x :: y :: t, h =>
    have : ((List.length (x :: y :: t) : Int) != (1 : Int)) = true := by simp; omega
    rw [this]
    rfl
theorem one_tst' {l : List Int} {z : Int} (h : P.Can WW l z) (hz : z = 1) : (bif (List.length l : Int) != (1 : Int) then some true else if 0 ≤ (0 : Int) ∧ (0 : Int) < (List.length l : Int) then some ((rdT (t := (.int .u32)) l (0 : Int) : Int) != (1 : Int)) else none) = some false := by
  subst hz
  rw [can_uniq WW_pos h (can1 WW_one)]
  rfl
theorem num_Zero_ev : Ev (fun k => num_Zero k) (false, [], [1], ()) := Ev.step (fun k => num_Zero_eq k) (evs _)
theorem len_ne {B : Int} (hB : 0 < B) {l : List Int} {x : Int} (h : P.Can B l x) (hx : x ≠ 0) : ((List.length l : Int) == (0 : Int)) = false := by
  have := h.len_iff hB
  have : l.length ≠ 0 := fun e => hx (this.1 e)
  simp
  intro e
  exact this (by simp [e])
theorem len_eq {B : Int} (hB : 0 < B) {l : List Int} {x : Int} (h : P.Can B l x) (hx : x = 0) : l = [] := (h.nil_iff hB).2 hx
theorem num_Make_sp {s : Bool} (la : a.length < 1073741824) (lb : b.length < 1073741824) (ha : P.Can WW a n) (hb : P.Can WW b m) (hm : 0 < m) : ∃ r, Ev (fun k => num_Make k s a b) r ∧ RB WW r (Rat.divInt (sg s n) m) := by
  have n0 := ha.nonneg WW_pos
  by_cases hn : n = 0
  · obtain rfl := len_eq WW_pos ha hn
    refine ⟨_, Ev.step (fun k => num_Make_eq k s [] b) (bT rfl (Ev.bind num_Zero_ev (evs _))), ?_⟩
    rw [hn, frac_zero]
    exact rb_zero WW_one
  · obtain ⟨g, g1, g2⟩ := q_GCD la lb ha hb
    have gp := gcd_pos (x := n) hm
    have fin : ∀ {u v : List Int}, u.length ≤ a.length → v.length ≤ b.length → P.Can WW u (n / gI n m) → P.Can WW v (m / gI n m) → Ev (fun k => num_Make.j0 k s u v (false, [], [], ())) (s, u, v, ()) := fun h1 h2 _ _ => by
      unfold num_Make.j0
      exact iT (by omega) (iT (by omega) (evs _))
    by_cases h1 : gI n m = 1
    · have e1 : n / gI n m = n := by rw [h1]; omega
      have e2 : m / gI n m = m := by rw [h1]; omega
      have ca : P.Can WW a (n / gI n m) := by rw [e1]; exact ha
      have cb : P.Can WW b (m / gI n m) := by rw [e2]; exact hb
      exact ⟨_, Ev.step (fun k => num_Make_eq k s a b) (bF (len_ne WW_pos ha hn) (Ev.bind g1 (Ev.bind (evk (one_tst' g2 h1)) (bF rfl (fin (Nat.le_refl _) (Nat.le_refl _) ca cb))))), rb_frac (by omega) hm ca cb⟩
    · obtain ⟨u, u', u1, u2, u3⟩ := q_DivMod (by omega) ha g2 gp
      obtain ⟨v, v', v1, v2, v3⟩ := q_DivMod (by omega) hb g2 gp
      have lu : u.length ≤ a.length := u2.len_le WW_one (Int.lt_of_le_of_lt (Int.ediv_le_self _ n0) (ha.lt WW_pos))
      have lv : v.length ≤ b.length := v2.len_le WW_one (Int.lt_of_le_of_lt (Int.ediv_le_self _ (by omega)) (hb.lt WW_pos))
      exact ⟨_, Ev.step (fun k => num_Make_eq k s a b) (bF (len_ne WW_pos ha hn) (Ev.bind g1 (Ev.bind (evk (one_tst g2 gp h1)) (bT rfl (Ev.bind u1 (Ev.bind v1 (fin lu lv u2 v2))))))), rb_frac (by omega) hm u2 v2⟩
end
end Go.Proofs.Ytfpolhoabfadnaa.Q
end
section
namespace Go.Proofs.Ytfpolhoabfadnaa.Q
open Go.RowKit Go.Proofs.YtfpolhoabfadnaaW.PrintWords Go.Proofs.YtfpolhoabfadnaaW.PrintMore Go.Proofs.Ytfpolhoabfadnaa.V Go.Proofs.Ytfpolhoabfadnaa.E
open Go.Proofs.Ytfpolhoabfadnaa.P (Dg Nm vl WW RR can_uniq gI evs evk evb cmpi WW_pos WW_one w64 u64)
set_option linter.unusedVariables false
section
variable {v w : RatD} {p q : Rat} {K L : Nat}
theorem sg_mul_pos (s : Bool) (x y : Int) : sg s x * y = sg s (x * y) := by
  unfold sg
  cases s <;> simp [Int.neg_mul]
theorem mul_pos' {x y : Int} (hx : 0 < x) (hy : 0 < y) : 0 < x * y := Int.mul_pos hx hy
theorem beq_ne {s t : Bool} (h : ¬ s = t) : (s == t) = false := by cases s <;> cases t <;> simp_all
theorem num_Add_j {x y d : List Int} {X Y D : Int} {s t : Bool} {u u' c : RatD} (hu : u.1 = s) (hu' : u'.1 = t) (lx : x.length < 536870912) (ly : y.length < 536870912) (ld : d.length < 1073741824) (hx : P.Can WW x X) (hy : P.Can WW y Y) (hd : P.Can WW d D) (hD : 0 < D) :
    ∃ r, Ev (fun k => num_Add.j0 k x y d u u' c) r ∧ RB WW r (Rat.divInt (sg s X + sg t Y) D) := by
  by_cases hst : s = t
  · obtain ⟨z, z1, z2, z3⟩ := q_Add (by omega) (by omega) hx hy
    obtain ⟨r, r1, r2⟩ := num_Make_sp (s := s) (by omega) ld z2 hd hD
    refine ⟨r, ?_, ?_⟩
    · unfold num_Add.j0
      rw [hu, hu']
      exact bT (by subst hst; simp) (Ev.bind z1 (Ev.bind r1 (evs _)))
    · have : sg s X + sg t Y = sg s (X + Y) := by subst hst; unfold sg; cases s <;> simp <;> omega
      rw [this]
      exact r2
  · have hc := q_Cmp (by omega) hx hy
    by_cases hxy : Y ≤ X
    · obtain ⟨z, z1, z2, z3⟩ := q_Sub (by omega) hx hy hxy
      obtain ⟨r, r1, r2⟩ := num_Make_sp (s := s) (by omega) ld z2 hd hD
      refine ⟨r, ?_, ?_⟩
      · unfold num_Add.j0
        rw [hu, hu']
        refine bF (beq_ne hst) (Ev.bind hc (bT (decide_eq_true ?_) (Ev.bind z1 (Ev.bind r1 (evs _)))))
        unfold P.cmpi
        split
        · omega
        · split <;> omega
      · have : sg s X + sg t Y = sg s (X - Y) := by
          unfold sg
          cases s <;> cases t <;> simp at hst ⊢ <;> omega
        rw [this]
        exact r2
    · obtain ⟨z, z1, z2, z3⟩ := q_Sub (by omega) hy hx (by omega)
      obtain ⟨r, r1, r2⟩ := num_Make_sp (s := t) (by omega) ld z2 hd hD
      refine ⟨r, ?_, ?_⟩
      · unfold num_Add.j0
        rw [hu, hu']
        refine bF (beq_ne hst) (Ev.bind hc (bF (decide_eq_false ?_) (Ev.bind z1 (Ev.bind r1 (evs _)))))
        unfold P.cmpi
        rw [if_pos (by omega)]
        omega
      · have : sg s X + sg t Y = sg t (Y - X) := by
          unfold sg
          cases s <;> cases t <;> simp at hst ⊢ <;> omega
        rw [this]
        exact r2
theorem add_frac (p q : Rat) : p + q = Rat.divInt (p.num * q.den + q.num * p.den) ((p.den : Int) * q.den) := by
  have h := Rat.divInt_add_divInt p.num q.num (d₁ := (p.den : Int)) (d₂ := (q.den : Int)) (by have := den_pos' p; omega) (by have := den_pos' q; omega)
  rw [Rat.num_divInt_den, Rat.num_divInt_den] at h
  exact h
theorem add_frac' (p q : Rat) (h : p.den = q.den) : p + q = Rat.divInt (p.num + q.num) (p.den : Int) := by
  rw [add_frac, ← h, ← Int.add_mul]
  exact Rat.divInt_mul_right (by have := den_pos' p; omega)
theorem sz_add (hp : Sz WW K p) (hq : Sz WW L q) : Sz WW (K + L + 1) (p + q) := by
  have hK : (0 : Int) < WW ^ K := Int.pow_pos (by decide)
  have hL : (0 : Int) < WW ^ L := Int.pow_pos (by decide)
  have e : (WW : Int) ^ (K + L + 1) = WW ^ K * WW ^ L * 4294967296 := by rw [Int.pow_succ, Int.pow_add]
  obtain ⟨p1, p2⟩ := hp
  obtain ⟨q1, q2⟩ := hq
  have dp := den_pos' p
  have dq := den_pos' q
  have a1 : (p.num.natAbs : Int) * q.den ≤ WW ^ K * WW ^ L := Int.mul_le_mul (by omega) (by omega) (by omega) (by omega)
  have a2 : (q.num.natAbs : Int) * p.den ≤ WW ^ L * WW ^ K := Int.mul_le_mul (by omega) (by omega) (by omega) (by omega)
  have a3 : (p.den : Int) * q.den ≤ WW ^ K * WW ^ L := Int.mul_le_mul (by omega) (by omega) (by omega) (by omega)
  rw [Int.mul_comm (WW ^ L)] at a2
  have hKL : (0 : Int) < WW ^ K * WW ^ L := mul_pos' hK hL
  have hn : ((p.num * q.den + q.num * p.den).natAbs : Int) ≤ (p.num.natAbs : Int) * q.den + (q.num.natAbs : Int) * p.den := by
    have h1 := Int.natAbs_add_le (p.num * q.den) (q.num * p.den)
    rw [Int.natAbs_mul, Int.natAbs_mul] at h1
    simp only [Int.natAbs_natCast] at h1
    have : ((p.num.natAbs * q.den + q.num.natAbs * p.den : Nat) : Int) = (p.num.natAbs : Int) * q.den + (q.num.natAbs : Int) * p.den := by
      rw [Int.natCast_add, Int.natCast_mul, Int.natCast_mul]
    omega
  rw [add_frac]
  constructor
  · rw [Rat.num_divInt, Int.sign_eq_one_of_pos (mul_pos' dp dq), Int.one_mul]
    have : ((p.num * q.den + q.num * p.den) / ((((p.den : Int) * q.den).gcd (p.num * q.den + q.num * p.den) : Nat) : Int)).natAbs ≤ (p.num * q.den + q.num * p.den).natAbs := by
      rw [Int.natAbs_ediv_of_dvd (Int.gcd_dvd_right ..)]
      exact Nat.div_le_self ..
    omega
  · rw [Rat.den_divInt, if_neg (by have := mul_pos' dp dq; omega)]
    have : ((p.den : Int) * q.den).natAbs / (((p.den : Int) * q.den).gcd (p.num * q.den + q.num * p.den)) ≤ ((p.den : Int) * q.den).natAbs := Nat.div_le_self ..
    have := mul_pos' dp dq
    omega
theorem num_Add_sp (hv : RB WW v p) (hw : RB WW w q) (hp : Sz WW K p) (hq : Sz WW L q) (h : K + L < 268435456) : ∃ r, Ev (fun k => num_Add k v w) r ∧ RB WW r (p + q) ∧ Sz WW (K + L + 1) (p + q) := by
  obtain ⟨lv1, lv2⟩ := sz_len WW_one hv hp
  obtain ⟨lw1, lw2⟩ := sz_len WW_one hw hq
  have hc := q_Cmp (by omega) hv.2.2 hw.2.2
  refine (show ∃ r, Ev (fun k => num_Add k v w) r ∧ RB WW r (p + q) from ?_).elim fun r hr => ⟨r, hr.1, hr.2, sz_add hp hq⟩
  by_cases hd : (p.den : Int) = q.den
  · obtain ⟨r, r1, r2⟩ := num_Add_j (c := (false, [], [], ())) (u := v) (u' := w) rfl rfl (by omega) (by omega) (by omega) hv.2.1 hw.2.1 hv.2.2 (den_pos' p)
    rw [sg_val hv, sg_val hw, ← add_frac' p q (by omega)] at r2
    refine ⟨r, Ev.step (fun k => num_Add_eq k v w) (Ev.bind hc (bF ?_ r1)), r2⟩
    unfold P.cmpi
    rw [if_neg (by omega), if_pos hd]
    rfl
  · obtain ⟨x, x1, x2, x3⟩ := q_Mul (by omega) hv.2.1 hw.2.2
    obtain ⟨y, y1, y2, y3⟩ := q_Mul (by omega) hw.2.1 hv.2.2
    obtain ⟨d, d1, d2, d3⟩ := q_Mul (by omega) hv.2.2 hw.2.2
    obtain ⟨r, r1, r2⟩ := num_Add_j (c := (false, [], [], ())) (u := v) (u' := w) rfl rfl (by omega) (by omega) (by omega) x2 y2 d2 (mul_pos' (den_pos' p) (den_pos' q))
    rw [← sg_mul_pos, ← sg_mul_pos, sg_val hv, sg_val hw, ← add_frac p q] at r2
    refine ⟨r, Ev.step (fun k => num_Add_eq k v w) (Ev.bind hc (bT ?_ (Ev.bind x1 (Ev.bind y1 (Ev.bind d1 r1))))), r2⟩
    unfold P.cmpi
    split
    · rfl
    · rfl
end
end Go.Proofs.Ytfpolhoabfadnaa.Q
end
section
namespace Go.Proofs.Ytfpolhoabfadnaa.Q
open Go.RowKit Go.Proofs.YtfpolhoabfadnaaW.PrintWords Go.Proofs.YtfpolhoabfadnaaW.PrintMore Go.Proofs.Ytfpolhoabfadnaa.V Go.Proofs.Ytfpolhoabfadnaa.E
open Go.Proofs.Ytfpolhoabfadnaa.P (Dg Nm vl WW RR can_uniq gI evs evk evb cmpi WW_pos WW_one w64 u64)
set_option linter.unusedVariables false
section
variable {v w : RatD} {p q : Rat} {K L : Nat}
theorem num_Fits_sp (hv : RB WW v p) (N : Nat) : ∃ t, Ev (fun k => num_Fits k v (N : Int)) t ∧ (t = true ↔ Sz WW N p) := by
  refine ⟨decide (v.2.1.length ≤ N) && decide (v.2.2.1.length ≤ N), Ev.step (fun k => num_Fits_eq k v _) (Ev.bind ?_ (evs _)), ?_⟩
  · by_cases c : v.2.1.length ≤ N
    · rw [decide_eq_true c]
      refine bT (decide_eq_true (by omega)) ?_
      have : decide ((List.length v.2.2.1 : Int) ≤ N) = (true && decide (v.2.2.1.length ≤ N)) := by
        rw [Bool.true_and]; exact decide_eq_decide.2 (by omega)
      rw [this]
      exact evs _
    · rw [decide_eq_false c]
      exact bF (decide_eq_false (by omega)) (evs _)
  · rw [Bool.and_eq_true, decide_eq_true_eq, decide_eq_true_eq]
    exact ⟨fun h => sz_of WW_pos hv h.1 h.2, fun h => sz_len WW_one hv h⟩
end
end Go.Proofs.Ytfpolhoabfadnaa.Q
end
section
namespace Go.Proofs.Ytfpolhoabfadnaa.Q
open Go.RowKit Go.Proofs.YtfpolhoabfadnaaW.PrintWords Go.Proofs.YtfpolhoabfadnaaW.PrintMore Go.Proofs.Ytfpolhoabfadnaa.V Go.Proofs.Ytfpolhoabfadnaa.E
open Go.Proofs.Ytfpolhoabfadnaa.P (Dg Nm vl WW RR can_uniq gI evs evk evb cmpi WW_pos WW_one RR_pos w64 u64)
set_option linter.unusedVariables false
def Ev2 {α : Type} (g : Nat → Nat → Option α) (r : α) : Prop := ∃ K, ∀ k m, K ≤ k → K ≤ m → g k m = some r
section
variable {α β : Type} {g f : Nat → Nat → Option α} {r : α}
theorem Ev2.diag (h : Ev2 g r) : Ev (fun k => g k k) r := by
  obtain ⟨K, h⟩ := h
  exact ⟨K, fun k hk => h k k hk hk⟩
theorem Ev2.step (h : ∀ k m, g k (m + 1) = f k m) (k : Ev2 f r) : Ev2 g r := by
  obtain ⟨K, k⟩ := k
  refine ⟨K + 1, fun n m hn hm => ?_⟩
  obtain ⟨q, rfl⟩ : ∃ q, m = q + 1 := ⟨m - 1, by omega⟩
  rw [h]
  exact k n q (by omega) (by omega)
theorem Ev2.bind {g : Nat → Option β} {f : Nat → Nat → β → Option α} {a : β} (h : Ev g a) (k : Ev2 (fun n m => f n m a) r) : Ev2 (fun n m => (g n).bind (f n m)) r := by
  obtain ⟨K, h⟩ := h
  obtain ⟨K', k⟩ := k
  refine ⟨max K K', fun n m hn hm => ?_⟩
  have h1 := h n (by omega)
  simp only [h1, Option.bind_some]
  exact k n m (by omega) (by omega)
theorem Ev2.bT {c : Bool} (hc : c = true) (h : Ev2 f r) : Ev2 (fun k m => bif c then f k m else g k m) r := by subst hc; exact h
theorem Ev2.bF {c : Bool} (hc : c = false) (h : Ev2 g r) : Ev2 (fun k m => bif c then f k m else g k m) r := by subst hc; exact h
theorem Ev2.iT {c : Prop} [Decidable c] (hc : c) (h : Ev2 f r) : Ev2 (fun k m => if c then f k m else none) r := by simpa only [if_pos hc] using h
theorem Ev2.of {g : Nat → Option α} (h : Ev g r) : Ev2 (fun k _ => g k) r := by
  obtain ⟨K, h⟩ := h
  exact ⟨K, fun k m hk _ => h k hk⟩
end
theorem RR_one : (1 : Int) < RR := by decide
section
variable {a b : List Int} {n m : Int}
theorem s_Cmp (hn : a.length < 4611686018427387904) (ha : P.Can RR a n) (hb : P.Can RR b m) : Ev (fun k => isochroneref01_Cmp k a b) (cmpi n m) := Ev.step (fun k => isochroneref01_Cmp_eq k a b) (P.isochroneref01_Cmp_sp hn ha hb)
theorem s_GCD (la : a.length < 1073741824) (lb : b.length < 1073741824) (ha : P.Can RR a n) (hb : P.Can RR b m) : ∃ r, Ev (fun k => isochroneref01_GCD k a b) r ∧ P.Can RR r (gI n m) := by
  obtain ⟨r, h1, h2⟩ := P.r_GCD_sp la lb ha hb
  exact ⟨r, Ev.step (fun k => isochroneref01_GCD_eq k a b) h1, h2⟩
theorem s_DivMod (hn : a.length < 1073741824) (hb : b.length < 1073741824) (ha : P.Can RR a n) (cb : P.Can RR b m) (hm : 0 < m) : ∃ q r, Ev (fun k => isochroneref01_DivMod k a b) (q, r, ()) ∧ P.Can RR q (n / m) ∧ P.Can RR r (n % m) := by
  obtain ⟨q, r, h1, h2, h3, _⟩ := P.r_DivMod_sp hn hb ha cb hm
  exact ⟨q, r, Ev.step (fun k => isochroneref01_DivMod_eq k a b) (evmap (g := fun r : List Int × List Int => (r.1, r.2, ())) h1), h2, h3⟩
theorem s_Words (hn : a.length < 1073741824) (ha : P.Can RR a n) : ∃ r, Ev (fun k => isochroneref01_Words k a) r ∧ P.Can WW r n := by
  obtain ⟨r, h1, h2⟩ := P.r_Words_sp hn ha
  exact ⟨r, Ev.step (fun k => isochroneref01_Words_eq k a) h1, h2⟩
theorem s_Small {k0 c0 : Int} (hn : a.length < 549755813888) (ha : P.Can RR a n) (hk : 0 ≤ k0 ∧ k0 ≤ 65536) (hc : 0 ≤ c0 ∧ c0 ≤ 65536) : ∃ r, Ev (fun k => isochroneref01_Small k a k0 c0) r ∧ P.Can RR r (n * k0 + c0) ∧ r.length ≤ a.length + 2 := by
  obtain ⟨r, h1, h2⟩ := P.r_Small_sp hn ha hk hc
  exact ⟨r, Ev.step (fun k => isochroneref01_Small_eq k a k0 c0) h1, h2⟩
theorem s_Pow {v : Int} (hl : a.length ≤ 16) (ha : P.Can RR a v) (N : Nat) (hN : N ≤ 1000) : ∃ r, Ev (fun k => isochroneref01_Pow k a (N : Int)) r ∧ P.Can RR r (v ^ N) ∧ r.length ≤ 16 * N + 1 := by
  obtain ⟨r, h1, h2⟩ := P.r_Pow_sp hl ha N hN
  exact ⟨r, Ev.step (fun k => isochroneref01_Pow_eq k a _) h1, h2⟩
theorem rdT_rd (l : List Int) (i : Int) : (rdT (t := (.int .u32)) l i : Int) = rd l i := rfl
theorem s_Of_ev {a : List Int} (hn : a.length < 137438953472) (ha : Dg WW a) (d : Nat) : ∀ (i : Nat) (o : List Int), i = d → i ≤ a.length → P.Can RR o (vl WW (a.drop i)) → o.length ≤ 4 * (a.length - i) → ∃ r, Ev2 (fun k m => isochroneref01_Of.l0 k m a o ((i : Int) - 1)) r ∧ P.Can RR r (vl WW a) ∧ r.length ≤ 4 * a.length := by
  induction d with
  | zero =>
    rintro i o rfl h1 h2 h3
    exact ⟨o, Ev2.step (fun k m => isochroneref01_Of.l0_succ k m _ _ _) (Ev2.bF (decide_eq_false (by omega)) (Ev2.of (evs _))), by simpa using h2, by omega⟩
  | succ d ih =>
    rintro i o rfl h1 h2 h3
    have e1 : (((d + 1 : Nat) : Int) - 1) = (d : Int) := by omega
    have hx := P.dg_rd ha (d : Int) (by omega) (by omega)
    rw [P.WW_eq] at hx
    obtain ⟨p, h4, h5, h6⟩ := s_Small (k0 := 65536) (c0 := rd a d / 65536) (by omega) h2 (by omega) (by omega)
    obtain ⟨q, h7, h8, h9⟩ := s_Small (k0 := 65536) (c0 := rd a d % 65536) (by omega) h5 (by omega) (by omega)
    have ea : a.drop d = rd a d :: a.drop (d + 1) := by rw [P.rd_lt a d (by omega)]; exact (List.drop_eq_getElem_cons (by omega))
    have ev : (vl WW (a.drop (d + 1)) * 65536 + rd a d / 65536) * 65536 + rd a d % 65536 = vl WW (a.drop d) := by
      rw [ea, vl, P.WW_eq]
      omega
    rw [ev] at h8
    obtain ⟨r, h10, h11⟩ := ih d q rfl (by omega) h8 (by omega)
    refine ⟨r, Ev2.step (fun k m => isochroneref01_Of.l0_succ k m _ _ _) ?_, h11⟩
    have e2 : shr .u32 (rd a (d : Int)) 16 = rd a d / 65536 := rfl
    rw [e1]
    simp only [rdT_rd]
    rw [e2, P.and16 hx.1 hx.2, w64 (x := rd a d / 65536) (by omega) (by omega), w64 (x := rd a d % 65536) (by omega) (by omega), w64 (x := (d : Int) - 1) (by omega) (by omega)]
    exact Ev2.bT (decide_eq_true (by omega)) (Ev2.iT (by omega) (Ev2.bind h4 (Ev2.iT (by omega) (Ev2.bind h7 h10))))
theorem s_Of {a : List Int} {n : Int} (hn : a.length < 137438953472) (ha : P.Can WW a n) : ∃ r, Ev (fun k => isochroneref01_Of k a) r ∧ P.Can RR r n ∧ r.length ≤ 4 * a.length := by
  obtain ⟨r, h1, h2⟩ := s_Of_ev hn ha.1 a.length a.length [] rfl (Nat.le_refl _) (by rw [List.drop_length]; exact P.Can.zero _) (by simp)
  rw [ha.2.2] at h2
  refine ⟨r, Ev.step (fun k => isochroneref01_Of_eq k a) ?_, h2⟩
  rw [w64 (x := (a.length : Int) - 1) (by omega) (by omega)]
  exact h1.diag
end
end Go.Proofs.Ytfpolhoabfadnaa.Q
end
section
namespace Go.Proofs.Ytfpolhoabfadnaa.Q
open Go.RowKit Go.Proofs.YtfpolhoabfadnaaW.PrintWords Go.Proofs.YtfpolhoabfadnaaW.PrintMore Go.Proofs.Ytfpolhoabfadnaa.V Go.Proofs.Ytfpolhoabfadnaa.E
open Go.Proofs.Ytfpolhoabfadnaa.P (Dg Nm vl WW RR can_uniq gI evs evk evb cmpi WW_pos WW_one RR_pos w64 u64)
set_option linter.unusedVariables false
section
variable {a b : List Int} {n m : Int} {v w : RatD} {p q : Rat} {K L : Nat}
theorem is_one {l : List Int} {z : Int} (h : P.Can RR l z) : (bif (List.length l : Int) == (1 : Int) then if 0 ≤ (0 : Int) ∧ (0 : Int) < (List.length l : Int) then some ((rdT (t := (.int .i64)) l (0 : Int) : Int) == (1 : Int)) else none else some false) = some (decide (z = 1)) := by
  match l, h with
  | [], h =>
    have : z = 0 := by have := h.2.2; simp [vl] at this; exact this.symm
    subst this
    rfl
  | [x], h =>
    have hx : x = z := by have := h.2.2; simp [vl] at this; exact this
    have hr : (rdT (t := (.int .i64)) [x] (0 : Int) : Int) = x := rfl
    rw [hr, hx]
    simp
    by_cases c : z = 1 <;> simp [c]
  | x :: y :: t, h =>
    have h1 : ((List.length (x :: y :: t) : Int) == (1 : Int)) = false := by simp; omega
    have h2 : RR ≤ z := by
      have := h.ge RR_pos (by simp)
      refine Int.le_trans ?_ this
      have := P.pow_le (B := RR) (by decide) (i := 1) (j := (x :: y :: t).length - 1) (by simp)
      rw [Int.pow_succ, Int.pow_zero, Int.one_mul] at this
      exact this
    have : RR = 10000 := rfl
    rw [h1, decide_eq_false (by omega)]
    rfl
theorem is_one' {l : List Int} {z : Int} (h : P.Can WW l z) : (bif (List.length l : Int) == (1 : Int) then if 0 ≤ (0 : Int) ∧ (0 : Int) < (List.length l : Int) then some ((rdT (t := (.int .u32)) l (0 : Int) : Int) == (1 : Int)) else none else some false) = some (decide (z = 1)) := by
  match l, h with
  | [], h =>
    have : z = 0 := by have := h.2.2; simp [vl] at this; exact this.symm
    subst this
    rfl
  | [x], h =>
    have hx : x = z := by have := h.2.2; simp [vl] at this; exact this
    have hr : (rdT (t := (.int .u32)) [x] (0 : Int) : Int) = x := rfl
    rw [hr, hx]
    simp
    by_cases c : z = 1 <;> simp [c]
  | x :: y :: t, h =>
    have h1 : ((List.length (x :: y :: t) : Int) == (1 : Int)) = false := by simp; omega
    have h2 : WW ≤ z := by
      have := h.ge WW_pos (by simp)
      refine Int.le_trans ?_ this
      have := P.pow_le (B := WW) (by decide) (i := 1) (j := (x :: y :: t).length - 1) (by simp)
      rw [Int.pow_succ, Int.pow_zero, Int.one_mul] at this
      exact this
    have : WW = 4294967296 := rfl
    rw [h1, decide_eq_false (by omega)]
    rfl
theorem ref_Zero_ev : Ev (fun k => isochroneref02_Zero k) (false, [], [1], ()) := Ev.step (fun k => isochroneref02_Zero_eq k) (evs _)
theorem ref_Make_sp {s : Bool} (la : a.length < 1073741824) (lb : b.length < 1073741824) (ha : P.Can RR a n) (hb : P.Can RR b m) (hm : 0 < m) : ∃ r, Ev (fun k => isochroneref02_Make k s a b) r ∧ RB RR r (Rat.divInt (sg s n) m) := by
  have n0 := ha.nonneg RR_pos
  by_cases hn : n = 0
  · obtain rfl := len_eq RR_pos ha hn
    refine ⟨_, Ev.step (fun k => isochroneref02_Make_eq k s [] b) (bT rfl (Ev.bind ref_Zero_ev (evs _))), ?_⟩
    rw [hn, frac_zero]
    exact rb_zero RR_one
  · have done : gI n m = 1 → RB RR (s, a, b, ()) (Rat.divInt (sg s n) m) := fun h1 => by
      have e1 : n / gI n m = n := by rw [h1]; omega
      have e2 : m / gI n m = m := by rw [h1]; omega
      exact rb_frac (by omega) hm (by rw [e1]; exact ha) (by rw [e2]; exact hb)
    by_cases hm1 : m = 1
    · refine ⟨(s, a, b, ()), Ev.step (fun k => isochroneref02_Make_eq k s a b) (bF (len_ne RR_pos ha hn) (Ev.bind (evk (is_one hb)) (bT (decide_eq_true hm1) (evs _)))), done ?_⟩
      unfold P.gI
      rw [hm1]
      simp
    · obtain ⟨g, g1, g2⟩ := s_GCD la lb ha hb
      have gp := gcd_pos (x := n) hm
      by_cases h1 : gI n m = 1
      · exact ⟨(s, a, b, ()), Ev.step (fun k => isochroneref02_Make_eq k s a b) (bF (len_ne RR_pos ha hn) (Ev.bind (evk (is_one hb)) (bF (decide_eq_false hm1) (Ev.bind g1 (Ev.bind (evk (is_one g2)) (bT (decide_eq_true h1) (evs _))))))), done h1⟩
      · have gl : g.length < 1073741824 := Nat.lt_of_le_of_lt (g2.len_le RR_one (Int.lt_of_le_of_lt (P.gI_le hm) (hb.lt RR_pos))) lb
        obtain ⟨u, u', u1, u2, u3⟩ := s_DivMod la gl ha g2 gp
        obtain ⟨v, v', v1, v2, v3⟩ := s_DivMod lb gl hb g2 gp
        exact ⟨(s, u, v, ()), Ev.step (fun k => isochroneref02_Make_eq k s a b) (bF (len_ne RR_pos ha hn) (Ev.bind (evk (is_one hb)) (bF (decide_eq_false hm1) (Ev.bind g1 (Ev.bind (evk (is_one g2)) (bF (decide_eq_false h1) (Ev.bind u1 (Ev.bind v1 (evs _)))))))))
, rb_frac (by omega) hm u2 v2⟩
theorem ref_Of_sp (hv : RB WW v p) (hp : Sz WW K p) (h : K < 1073741824) : ∃ r, Ev (fun k => isochroneref02_Of k v) r ∧ RB RR r p ∧ Sz RR (4 * K) p := by
  obtain ⟨lv1, lv2⟩ := sz_len WW_one hv hp
  obtain ⟨x, x1, x2, x3⟩ := s_Of (by omega) hv.2.1
  obtain ⟨y, y1, y2, y3⟩ := s_Of (by omega) hv.2.2
  have hr : RB RR (v.1, x, y, ()) p := ⟨hv.1, x2, y2⟩
  exact ⟨_, Ev.step (fun k => isochroneref02_Of_eq k v) (Ev.bind x1 (Ev.bind y1 (evs _))), hr, sz_of RR_pos hr (by simp; omega) (by simp; omega)⟩
theorem ref_To_sp (hv : RB RR v p) (hp : Sz RR K p) (h : K < 1073741824) : ∃ r, Ev (fun k => isochroneref02_To k v) r ∧ RB WW r p := by
  obtain ⟨lv1, lv2⟩ := sz_len RR_one hv hp
  obtain ⟨x, x1, x2⟩ := s_Words (by omega) hv.2.1
  obtain ⟨y, y1, y2⟩ := s_Words (by omega) hv.2.2
  exact ⟨(v.1, x, y, ()), Ev.step (fun k => isochroneref02_To_eq k v) (Ev.bind x1 (Ev.bind y1 (evs _))), hv.1, x2, y2⟩
theorem q_Equal (a b : List Int) (hn : a.length < 4611686018427387904) : ∃ r, Ev (fun k => slices_Equal_uint32_uint32 k a b) r ∧ (r = true ↔ a = b) := by
  obtain ⟨r, h1, h2⟩ := P.eq_sp a b hn
  exact ⟨r, Ev.step (fun k => slices_Equal_uint32_uint32_eq k a b) h1, h2⟩
theorem ref_Same_sp (v w : RatD) (h1 : v.2.1.length < 4611686018427387904) (h2 : v.2.2.1.length < 4611686018427387904) : Ev (fun k => isochroneref02_Same k v w) (decide (v = w)) := by
  obtain ⟨a, x, y, _⟩ := v
  obtain ⟨b, x', y', _⟩ := w
  obtain ⟨r, r1, r2⟩ := q_Equal x x' h1
  obtain ⟨s, s1, s2⟩ := q_Equal y y' h2
  have er : r = decide (x = x') := by
    by_cases c : x = x'
    · rw [decide_eq_true c]; exact r2.2 c
    · rw [decide_eq_false c]; exact Bool.eq_false_iff.2 (fun e => c (r2.1 e))
  have es : s = decide (y = y') := by
    by_cases c : y = y'
    · rw [decide_eq_true c]; exact s2.2 c
    · rw [decide_eq_false c]; exact Bool.eq_false_iff.2 (fun e => c (s2.1 e))
  have e : decide ((a, x, y, ()) = ((b, x', y', ()) : RatD)) = ((a == b) && r && s) := by
    rw [er, es]
    have : (a == b) = decide (a = b) := by cases a <;> cases b <;> rfl
    rw [this, ← Bool.decide_and, ← Bool.decide_and]
    refine decide_eq_decide.2 ?_
    simp [and_assoc]
  rw [e]
  refine Ev.step (fun k => isochroneref02_Same_eq k _ _) (Ev.bind (a := (a == b) && r) ?_ (Ev.bind (a := (a == b) && r && s) ?_ (evs _)))
  · by_cases c : (a == b) = true
    · rw [c]
      exact bT rfl (Ev.bind r1 (by rw [Bool.true_and]; exact evs _))
    · rw [Bool.eq_false_iff.2 c]
      exact bF rfl (evs _)
  · by_cases c : ((a == b) && r) = true
    · rw [c]
      exact bT rfl (Ev.bind s1 (by rw [Bool.true_and]; exact evs _))
    · rw [Bool.eq_false_iff.2 c]
      exact bF rfl (evs _)
theorem ref_Is_sp (hv : RB WW v p) (hw : RB RR w p) (hp : Sz RR K p) (h : K < 1073741824) (hl : v.2.1.length < 4611686018427387904) (hl' : v.2.2.1.length < 4611686018427387904) : Ev (fun k => isochroneref02_Is k v w) true := by
  obtain ⟨r, r1, r2⟩ := ref_To_sp hw hp h
  have e := ref_Same_sp v r hl hl'
  rw [decide_eq_true (rb_uniq WW_pos hv r2)] at e
  exact Ev.step (fun k => isochroneref02_Is_eq k v w) (Ev.bind r1 (Ev.bind e (evs _)))
end
end Go.Proofs.Ytfpolhoabfadnaa.Q
end
section
namespace Go.Proofs.Ytfpolhoabfadnaa.Q
open Go.RowKit Go.Proofs.YtfpolhoabfadnaaW.PrintWords Go.Proofs.YtfpolhoabfadnaaW.PrintMore Go.Proofs.Ytfpolhoabfadnaa.V Go.Proofs.Ytfpolhoabfadnaa.E
open Go.Proofs.Ytfpolhoabfadnaa.P (Dg Nm vl WW RR can_uniq gI evs evk evb cmpi WW_pos WW_one RR_pos w64 u64)
set_option linter.unusedVariables false
def Arg (v : RatD) : Prop := Dg WW v.2.1 ∧ Dg WW v.2.2.1 ∧ True ∧ True
def Vd (v : RatD) : Prop := ∃ q, RB WW v q ∧ Sz WW 4096 q
section
variable {v w : RatD} {p q : Rat} {K L : Nat}
theorem gcd_num_den (q : Rat) : gI (q.num.natAbs : Int) q.den = 1 := by
  unfold P.gI
  have := q.reduced
  unfold Nat.Coprime at this
  simp only [Int.gcd, Int.natAbs_natCast, this]
  rfl
theorem val_iff {s : Bool} {a b : List Int} (da : Dg WW a) (db : Dg WW b) : (∃ q, RB WW (s, a, b, ()) q) ↔ Nm a ∧ Nm b ∧ vl WW b ≠ 0 ∧ (vl WW a = 0 → s = false ∧ vl WW b = 1) ∧ (vl WW a ≠ 0 → gI (vl WW a) (vl WW b) = 1) := by
  constructor
  · rintro ⟨q, h1, h2, h3⟩
    have e2 : vl WW a = (q.num.natAbs : Int) := h2.2.2
    have e3 : vl WW b = (q.den : Int) := h3.2.2
    have dp := den_pos' q
    refine ⟨h2.2.1, h3.2.1, by omega, fun h => ?_, fun h => ?_⟩
    · have h0 : q = 0 := Rat.num_eq_zero.1 (by omega)
      refine ⟨?_, ?_⟩
      · have : s = decide (q.num < 0) := h1
        rw [this, h0]; rfl
      · rw [e3, h0]; rfl
    · rw [e2, e3]
      exact gcd_num_den q
  · rintro ⟨na, nb, hb, h0, h1⟩
    have a0 := P.vl_nonneg WW_pos da
    have b0 := P.vl_nonneg WW_pos db
    by_cases c : vl WW a = 0
    · obtain ⟨rfl, e⟩ := h0 c
      refine ⟨0, rfl, ?_, ?_⟩
      · exact ⟨da, na, c⟩
      · exact ⟨db, nb, e⟩
    · have g := h1 c
      refine ⟨Rat.divInt (sg s (vl WW a)) (vl WW b), rb_frac (by omega) (by omega) ?_ ?_⟩
      · rw [g, Int.ediv_one]; exact ⟨da, na, rfl⟩
      · rw [g, Int.ediv_one]; exact ⟨db, nb, rfl⟩
theorem vd_iff (ha : Arg v) : Vd v ↔ v.2.1.length ≤ 4096 ∧ v.2.2.1.length ≤ 4096 ∧ Nm v.2.1 ∧ Nm v.2.2.1 ∧ vl WW v.2.2.1 ≠ 0 ∧ (vl WW v.2.1 = 0 → v.1 = false ∧ vl WW v.2.2.1 = 1) ∧ (vl WW v.2.1 ≠ 0 → gI (vl WW v.2.1) (vl WW v.2.2.1) = 1) := by
  obtain ⟨s, a, b, _⟩ := v
  have h := val_iff (s := s) ha.1 ha.2.1
  constructor
  · rintro ⟨q, h1, h2⟩
    obtain ⟨l1, l2⟩ := sz_len WW_one h1 h2
    exact ⟨l1, l2, h.1 ⟨q, h1⟩⟩
  · rintro ⟨l1, l2, h3⟩
    obtain ⟨q, hq⟩ := h.2 h3
    exact ⟨q, hq, sz_of WW_pos hq l1 l2⟩
theorem valid_any (l : List Int) : ∃ b, P.isochroneref01_Valid.f l = some b ∧ P.nat_Valid.f l = some b ∧ (b = true ↔ l.length ≤ 4096 ∧ Nm l) := by
  by_cases h1 : l.length ≤ 4096
  · exact P.valid_sp l (by omega)
  · refine ⟨false, ?_, ?_, by simp; omega⟩
    · unfold P.isochroneref01_Valid.f
      rw [if_neg (by omega)]
    · unfold P.nat_Valid.f
      rw [if_neg (by omega)]
theorem num_valid_sp (l : List Int) (hl : True) : ∃ t, Ev (fun k => num_valid k l 4096) t ∧ (t = true ↔ l.length ≤ 4096 ∧ Nm l) := by
  by_cases h1 : l.length ≤ 4096
  · by_cases h0 : l.length = 0
    · have : l = [] := List.eq_nil_of_length_eq_zero h0
      subst this
      exact ⟨true, Ev.step (fun k => num_valid_eq k _ _) (Ev.bind (bT rfl (Ev.bind (bT rfl (evs _)) (evs _))) (evs _)), by simp; exact P.Nm.nil⟩
    · have e : wrap64 ((l.length : Int) - 1) = (l.length : Int) - 1 := w64 (by omega) (by omega)
      refine ⟨rd l ((l.length : Int) - 1) != 0, Ev.step (fun k => num_valid_eq k _ _) (Ev.bind (bT (decide_eq_true (by omega)) (Ev.bind (bF (by simp; intro e; exact h0 (by simp [e])) ?_) (evs _))) (evs _)), ?_⟩
      · rw [e]
        exact iT (by omega) (evs _)
      · simp only [bne_iff_ne]
        exact ⟨fun h => ⟨h1, P.nm_of_rd (fun _ => h)⟩, fun h => h.2.rd (by omega)⟩
  · exact ⟨false, Ev.step (fun k => num_valid_eq k _ _) (Ev.bind (bF (decide_eq_false (by omega)) (evs _)) (evs _)), by simp; omega⟩
theorem vl0_iff {l : List Int} (hd : Dg WW l) (hn : Nm l) : l.length = 0 ↔ vl WW l = 0 := (show P.Can WW l (vl WW l) from ⟨hd, hn, rfl⟩).len_iff WW_pos
theorem beq_len {l : List Int} (hd : Dg WW l) (hn : Nm l) : ((List.length l : Int) == (0 : Int)) = decide (vl WW l = 0) := by
  by_cases c : vl WW l = 0
  · have := (vl0_iff hd hn).2 c
    rw [decide_eq_true c]; simp [List.eq_nil_of_length_eq_zero this]
  · rw [decide_eq_false c]; exact len_ne WW_pos ⟨hd, hn, rfl⟩ c
theorem rat_Valid_sp (ha : Arg v) : ∃ t, Ev (fun k => rat_Valid k v) t ∧ (t = true ↔ Vd v) := by
  have hiff := vd_iff ha
  obtain ⟨da, db, la, lb⟩ := ha
  obtain ⟨s, a, b, _⟩ := v
  obtain ⟨t1, e1, i1⟩ := num_valid_sp a la
  obtain ⟨t2, e2, i2⟩ := num_valid_sp b lb
  refine (show ∃ t, Ev (fun k => num_Valid k (s, a, b, ()) 4096) t ∧ (t = true ↔ Vd (s, a, b, ())) from ?_).elim fun t h => ⟨t, Ev.step (fun k => rat_Valid_eq k _) (Ev.bind h.1 (evs _)), h.2⟩
  by_cases c1 : a.length ≤ 4096 ∧ Nm a
  · by_cases c2 : b.length ≤ 4096 ∧ Nm b
    · obtain rfl := i1.2 c1
      obtain rfl := i2.2 c2
      have hb0 := beq_len db c2.2
      have ca : P.Can WW a (vl WW a) := ⟨da, c1.2, rfl⟩
      have cb : P.Can WW b (vl WW b) := ⟨db, c2.2, rfl⟩
      have h1 := is_one' cb
      by_cases c3 : vl WW b = 0
      · refine ⟨false, Ev.step (fun k => num_Valid_eq k _ _) (Ev.bind e1 (Ev.bind (a := false) (bF rfl (Ev.bind e2 (evs _))) (Ev.bind (a := true) (bF rfl ?_) (bT rfl (evs _))))), ?_⟩
        · rw [hb0, decide_eq_true c3]; exact evs _
        · rw [hiff]; simp [c3]
      · refine (?_ : ∃ t, Ev (fun k => bif (List.length a : Int) == (0 : Int) then _ else _) t ∧ _).elim fun t h => ⟨t, Ev.step (fun k => num_Valid_eq k _ _) (Ev.bind e1 (Ev.bind (a := false) (bF rfl (Ev.bind e2 (evs _))) (Ev.bind (a := false) (bF rfl ?_) (bF rfl h.1)))), h.2⟩
        · by_cases c4 : vl WW a = 0
          · have ha0 : ((List.length a : Int) == (0 : Int)) = true := by rw [beq_len da c1.2]; exact decide_eq_true c4
            cases s with
            | true =>
              refine ⟨false, bT ha0 (Ev.bind (a := false) (bF rfl (evs _)) (Ev.bind (bF rfl (evs _)) (evs _))), ?_⟩
              rw [hiff]; simp [c4]
            | false =>
              refine ⟨decide (vl WW b = 1), bT ha0 ?_, ?_⟩
              · by_cases c5 : ((List.length b : Int) == (1 : Int)) = true
                · rw [c5] at h1
                  refine Ev.bind (a := true) (bT rfl (by rw [show (List.length (false, a, b, ()).2.2.1 : Int) = (List.length b : Int) from rfl, c5]; exact evs _)) (Ev.bind (bT rfl ?_) (evs _))
                  have h1' : (if 0 ≤ (0 : Int) ∧ (0 : Int) < (List.length b : Int) then some ((rdT (t := (.int .u32)) b (0 : Int) : Int) == (1 : Int)) else none) = some (decide (vl WW b = 1)) := h1
                  exact evk h1'
                · have c6 := Bool.eq_false_iff.2 c5
                  rw [c6] at h1
                  have h1' : some false = some (decide (vl WW b = 1)) := h1
                  rw [← Option.some.inj h1']
                  exact Ev.bind (a := false) (bT rfl (by rw [show (List.length (false, a, b, ()).2.2.1 : Int) = (List.length b : Int) from rfl, c6]; exact evs _)) (Ev.bind (bF rfl (evs _)) (evs _))
              · rw [hiff, decide_eq_true_eq]
                simp [c4, c1, c2, c3]
          · have ha0 : ((List.length a : Int) == (0 : Int)) = false := len_ne WW_pos ca c4
            by_cases c5 : vl WW b = 1
            · refine ⟨true, bF ha0 (Ev.bind (evk h1) (bT (decide_eq_true c5) (evs _))), ?_⟩
              rw [hiff]
              have : gI (vl WW a) 1 = 1 := by unfold P.gI; simp
              simp [c4, c1, c2, c5, this]
            · obtain ⟨g, g1, g2⟩ := q_GCD (by omega) (by omega) ca cb
              have h2 := is_one' g2
              refine ⟨decide (gI (vl WW a) (vl WW b) = 1), bF ha0 (Ev.bind (evk h1) (bF (decide_eq_false c5) (Ev.bind g1 (Ev.bind (evk h2) (evs _))))), ?_⟩
              rw [hiff, decide_eq_true_eq]
              simp [c4, c1, c2, c3]
        · rw [hb0, decide_eq_false c3]; exact evs _
    · obtain rfl := i1.2 c1
      have : t2 = false := Bool.eq_false_iff.2 (fun e => c2 (i2.1 e))
      subst this
      refine ⟨false, Ev.step (fun k => num_Valid_eq k _ _) (Ev.bind e1 (Ev.bind (a := true) (bF rfl (Ev.bind e2 (evs _))) (Ev.bind (a := true) (bT rfl (evs _)) (bT rfl (evs _))))), ?_⟩
      rw [hiff]
      simp
      intro h1 h2 h3 h4
      exact absurd ⟨h2, h4⟩ c2
  · have : t1 = false := Bool.eq_false_iff.2 (fun e => c1 (i1.1 e))
    subst this
    refine ⟨false, Ev.step (fun k => num_Valid_eq k _ _) (Ev.bind e1 (Ev.bind (a := true) (bT rfl (evs _)) (Ev.bind (a := true) (bT rfl (evs _)) (bT rfl (evs _))))), ?_⟩
    rw [hiff]
    simp
    intro h1 h2 h3 h4
    exact absurd ⟨h1, h3⟩ c1
end
end Go.Proofs.Ytfpolhoabfadnaa.Q
end
section
namespace Go.Proofs.Ytfpolhoabfadnaa.Q
open Go.RowKit Go.Proofs.YtfpolhoabfadnaaW.PrintWords Go.Proofs.YtfpolhoabfadnaaW.PrintMore Go.Proofs.Ytfpolhoabfadnaa.V Go.Proofs.Ytfpolhoabfadnaa.E
open Go.Proofs.Ytfpolhoabfadnaa.P (Dg Nm vl WW RR can_uniq gI evs evk evb cmpi WW_pos WW_one RR_pos w64 u64)
set_option linter.unusedVariables false
section
variable {v w : RatD} {p q : Rat} {K L : Nat}
theorem s_Valid (l : List Int) (hl : True) : ∃ t, Ev (fun k => isochroneref01_Valid k l) t ∧ (t = true ↔ l.length ≤ 4096 ∧ Nm l) := by
  obtain ⟨t, h1, h2, h3⟩ := valid_any l
  exact ⟨t, Ev.step (fun k => isochroneref01_Valid_eq k l) (evk h1), h3⟩
theorem cmpi_beq (x y : Int) : (cmpi x y == (0 : Int)) = decide (x = y) := by
  unfold P.cmpi
  by_cases a : x < y
  · rw [if_pos a, decide_eq_false (by omega)]; rfl
  · by_cases b : x = y
    · rw [if_neg a, if_pos b, decide_eq_true b]; rfl
    · rw [if_neg a, if_neg b, decide_eq_false b]; rfl
theorem ref_Valid_sp (ha : Arg v) : ∃ t, Ev (fun k => isochroneref02_Valid k v) t ∧ (t = true ↔ Vd v) := by
  have hiff := vd_iff ha
  obtain ⟨da, db, la, lb⟩ := ha
  obtain ⟨s, a, b, _⟩ := v
  obtain ⟨t1, e1, i1⟩ := s_Valid a la
  obtain ⟨t2, e2, i2⟩ := s_Valid b lb
  by_cases c1 : a.length ≤ 4096 ∧ Nm a
  · by_cases c2 : b.length ≤ 4096 ∧ Nm b
    · obtain rfl := i1.2 c1
      obtain rfl := i2.2 c2
      have hb0 := beq_len db c2.2
      have ca : P.Can WW a (vl WW a) := ⟨da, c1.2, rfl⟩
      have cb : P.Can WW b (vl WW b) := ⟨db, c2.2, rfl⟩
      have h1 := is_one' cb
      by_cases c3 : vl WW b = 0
      · refine ⟨false, Ev.step (fun k => isochroneref02_Valid_eq k _) (Ev.bind e1 (Ev.bind (a := false) (bF rfl (Ev.bind e2 (evs _))) (Ev.bind (a := true) (bF rfl ?_) (bT rfl (evs _))))), ?_⟩
        · rw [hb0, decide_eq_true c3]; exact evs _
        · rw [hiff]; simp [c3]
      · refine (?_ : ∃ t, Ev (fun k => bif (List.length a : Int) == (0 : Int) then _ else _) t ∧ _).elim fun t h => ⟨t, Ev.step (fun k => isochroneref02_Valid_eq k _) (Ev.bind e1 (Ev.bind (a := false) (bF rfl (Ev.bind e2 (evs _))) (Ev.bind (a := false) (bF rfl ?_) (bF rfl h.1)))), h.2⟩
        · by_cases c4 : vl WW a = 0
          · have ha0 : ((List.length a : Int) == (0 : Int)) = true := by rw [beq_len da c1.2]; exact decide_eq_true c4
            cases s with
            | true =>
              refine ⟨false, bT ha0 (Ev.bind (a := false) (bF rfl (evs _)) (Ev.bind (bF rfl (evs _)) (evs _))), ?_⟩
              rw [hiff]; simp [c4]
            | false =>
              refine ⟨decide (vl WW b = 1), bT ha0 ?_, ?_⟩
              · by_cases c5 : ((List.length b : Int) == (1 : Int)) = true
                · rw [c5] at h1
                  refine Ev.bind (a := true) (bT rfl (by rw [show (List.length (false, a, b, ()).2.2.1 : Int) = (List.length b : Int) from rfl, c5]; exact evs _)) (Ev.bind (bT rfl ?_) (evs _))
                  have h1' : (if 0 ≤ (0 : Int) ∧ (0 : Int) < (List.length b : Int) then some ((rdT (t := (.int .u32)) b (0 : Int) : Int) == (1 : Int)) else none) = some (decide (vl WW b = 1)) := h1
                  exact evk h1'
                · have c6 := Bool.eq_false_iff.2 c5
                  rw [c6] at h1
                  have h1' : some false = some (decide (vl WW b = 1)) := h1
                  rw [← Option.some.inj h1']
                  exact Ev.bind (a := false) (bT rfl (by rw [show (List.length (false, a, b, ()).2.2.1 : Int) = (List.length b : Int) from rfl, c6]; exact evs _)) (Ev.bind (bF rfl (evs _)) (evs _))
              · rw [hiff, decide_eq_true_eq]
                simp [c4, c1, c2, c3]
          · have ha0 : ((List.length a : Int) == (0 : Int)) = false := len_ne WW_pos ca c4
            obtain ⟨x, x1, x2, x3⟩ := s_Of (by omega) ca
            obtain ⟨y, y1, y2, y3⟩ := s_Of (by omega) cb
            obtain ⟨g, g1, g2⟩ := s_GCD (by omega) (by omega) x2 y2
            have b0 : 0 < vl WW b := by
              have h0 : (0 : Int) ≤ vl WW b := P.vl_nonneg WW_pos db
              omega
            have gl : g.length < 4611686018427387904 := by
              have := g2.len_le RR_one (Int.lt_of_le_of_lt (P.gI_le b0) (y2.lt RR_pos))
              omega
            have h2 := s_Cmp gl g2 (can1 RR_one)
            refine ⟨decide (gI (vl WW a) (vl WW b) = 1), bF ha0 (Ev.bind x1 (Ev.bind y1 (Ev.bind g1 (Ev.bind h2 ?_)))), ?_⟩
            · rw [cmpi_beq]; exact evs _
            · rw [hiff, decide_eq_true_eq]
              simp [c4, c1, c2, c3]
        · rw [hb0, decide_eq_false c3]; exact evs _
    · obtain rfl := i1.2 c1
      have : t2 = false := Bool.eq_false_iff.2 (fun e => c2 (i2.1 e))
      subst this
      refine ⟨false, Ev.step (fun k => isochroneref02_Valid_eq k _) (Ev.bind e1 (Ev.bind (a := true) (bF rfl (Ev.bind e2 (evs _))) (Ev.bind (a := true) (bT rfl (evs _)) (bT rfl (evs _))))), ?_⟩
      rw [hiff]
      simp
      intro h1 h2 h3 h4
      exact absurd ⟨h2, h4⟩ c2
  · have : t1 = false := Bool.eq_false_iff.2 (fun e => c1 (i1.1 e))
    subst this
    refine ⟨false, Ev.step (fun k => isochroneref02_Valid_eq k _) (Ev.bind e1 (Ev.bind (a := true) (bT rfl (evs _)) (Ev.bind (a := true) (bT rfl (evs _)) (bT rfl (evs _))))), ?_⟩
    rw [hiff]
    simp
    intro h1 h2 h3 h4
    exact absurd ⟨h1, h3⟩ c1
theorem ref_Short_sp (v : RatD) (N : Nat) : Ev (fun k => isochroneref02_Short k v (N : Int)) (decide (v.2.1.length ≤ N ∧ v.2.2.1.length ≤ N)) := by
  refine Ev.step (fun k => isochroneref02_Short_eq k v _) (Ev.bind ?_ (evs _))
  by_cases c : v.2.1.length ≤ N
  · refine bT (decide_eq_true (by omega)) ?_
    have : decide ((List.length v.2.2.1 : Int) ≤ N) = decide (v.2.1.length ≤ N ∧ v.2.2.1.length ≤ N) := decide_eq_decide.2 (by omega)
    rw [this]
    exact evs _
  · have : decide (v.2.1.length ≤ N ∧ v.2.2.1.length ≤ N) = false := decide_eq_false (fun h => c h.1)
    rw [this]
    exact bF (decide_eq_false (by omega)) (evs _)
abbrev nothing : RatD := (false, [], [], ())
theorem ref_None_ev : Ev (fun k => isochroneref02_None k nothing) true := Ev.step (fun k => isochroneref02_None_eq k _) (Ev.bind (bT rfl (evs _)) (Ev.bind (bT rfl (evs _)) (evs _)))
theorem small_sp (N : Nat) (hv : Arg v) (hw : Arg w) : ∃ t, Ev (fun k => isochronelaw02_small k v w (N : Int)) t ∧ (t = true → ∃ p q, RB WW v p ∧ RB WW w q ∧ Sz WW N p ∧ Sz WW N q ∧ Sz WW 4096 p ∧ Sz WW 4096 q) := by
  obtain ⟨t1, e1, i1⟩ := ref_Valid_sp hv
  obtain ⟨t2, e2, i2⟩ := ref_Valid_sp hw
  have h1 := ref_Short_sp v N
  have h2 := ref_Short_sp w N
  generalize hs1 : decide (v.2.1.length ≤ N ∧ v.2.2.1.length ≤ N) = s1 at h1
  generalize hs2 : decide (w.2.1.length ≤ N ∧ w.2.2.1.length ≤ N) = s2 at h2
  refine ⟨s1 && s2 && t1 && t2, Ev.step (fun k => isochronelaw02_small_eq k v w _) (Ev.bind h1 (Ev.bind (a := s1 && s2) ?_ (Ev.bind (a := s1 && s2 && t1) ?_ (Ev.bind (a := s1 && s2 && t1 && t2) ?_ (evs _))))), ?_⟩
  · cases s1 with
    | true => exact bT rfl (Ev.bind h2 (by rw [Bool.true_and]; exact evs _))
    | false => exact bF rfl (evs _)
  · cases s1 && s2 with
    | true => exact bT rfl (Ev.bind e1 (by rw [Bool.true_and]; exact evs _))
    | false => exact bF rfl (evs _)
  · cases s1 && s2 && t1 with
    | true => exact bT rfl (Ev.bind e2 (by rw [Bool.true_and]; exact evs _))
    | false => exact bF rfl (evs _)
  · intro h
    simp only [Bool.and_eq_true] at h
    obtain ⟨⟨⟨a1, a2⟩, a3⟩, a4⟩ := h
    rw [a1, decide_eq_true_eq] at hs1
    rw [a2, decide_eq_true_eq] at hs2
    obtain ⟨p, p1, p2⟩ := i1.1 a3
    obtain ⟨q, q1, q2⟩ := i2.1 a4
    exact ⟨p, q, p1, q1, sz_of WW_pos p1 hs1.1 hs1.2, sz_of WW_pos q1 hs2.1 hs2.2, p2, q2⟩
theorem rat_limited_sp (hv : RB WW v p) (h : Sz WW 4096 p) : Ev (fun k => rat_limited k v) (v, 0, ()) := by
  obtain ⟨t, t1, t2⟩ := num_Fits_sp hv 4096
  obtain rfl := t2.2 h
  exact Ev.step (fun k => rat_limited_eq k v) (Ev.bind t1 (bF rfl (evs _)))
theorem rat_Valid_ev (ha : Arg v) (h : Vd v) : Ev (fun k => rat_Valid k v) true := by
  obtain ⟨t, t1, t2⟩ := rat_Valid_sp ha
  rw [t2.2 h] at t1
  exact t1
theorem arg_of (hv : RB WW v p) (hp : Sz WW K p) (h : K < 4611686018427387904) : Arg v := by
  obtain ⟨l1, l2⟩ := sz_len WW_one hv hp
  exact ⟨hv.2.1.1, hv.2.2.1, trivial, trivial⟩
theorem rat_Add_sp (hv : RB WW v p) (hw : RB WW w q) (hp : Sz WW K p) (hq : Sz WW L q) (h : K + L + 1 ≤ 4096) : ∃ r, Ev (fun k => rat_Add k v w) (r, 0, ()) ∧ RB WW r (p + q) ∧ Sz WW (K + L + 1) (p + q) := by
  obtain ⟨r, r1, r2, r3⟩ := num_Add_sp hv hw hp hq (by omega)
  have a1 := rat_Valid_ev (arg_of hv hp (by omega)) ⟨p, hv, sz_mono WW_pos hp (by omega)⟩
  have a2 := rat_Valid_ev (arg_of hw hq (by omega)) ⟨q, hw, sz_mono WW_pos hq (by omega)⟩
  have a3 := rat_limited_sp r2 (sz_mono WW_pos r3 h)
  exact ⟨r, Ev.step (fun k => rat_Add_eq k v w) (Ev.bind (Ev.step (fun k => rat_pair_num_Add_eq k v w) (Ev.bind a1 (Ev.bind (a := false) (bF rfl (Ev.bind a2 (evs _))) (bF rfl (Ev.bind r1 (Ev.bind a3 (evs _))))))) (evs _)), r2, r3⟩
end
end Go.Proofs.Ytfpolhoabfadnaa.Q
end
section
namespace Go.Proofs.Ytfpolhoabfadnaa.P
open Go.RowKit Go.Proofs.YtfpolhoabfadnaaW.PrintWords Go.Proofs.YtfpolhoabfadnaaW.PrintLast Go.Proofs.YtfpolhoabfadnaaW.PrintMore
set_option linter.unusedVariables false
theorem bt_nums (l : List Int) (i : Nat) (h : i < l.length) (h0 : 0 ≤ l[i]) (h1 : l[i] < 256) : bt (strOfNums l) (i : Int) = l[i] := by
  have hs : (strOfNums l).size = l.length := strOfNums_size l
  unfold bt
  rw [dif_pos (by rw [Int.toNat_natCast, hs]; exact h)]
  have e : (strOfNums l)[(i : Int).toNat]'(by rw [Int.toNat_natCast, hs]; exact h) = UInt8.ofNat (l[i]).toNat := by
    show (List.map (fun n => UInt8.ofNat n.toNat) l).toArray[(i : Int).toNat]'_ = _
    simp
  rw [e]
  have : (UInt8.ofNat (l[i]).toNat).toNat = (l[i]).toNat % 256 := by simp
  rw [this]
  omega
theorem asc_get (D : List Int) (i : Nat) (h : i < D.length) : (asc D)[i]'(by rw [asc_len]; exact h) = rd D ((D.length - 1 - i : Nat) : Int) + 48 := by
  rw [rd_lt D _ (by omega)]
  simp [asc]
theorem asc_dig {D : List Int} (hD : Dg TT D) (i : Nat) (h : i < D.length) : bt (strOfNums (asc D)) (i : Int) = rd D ((D.length - 1 - i : Nat) : Int) + 48 ∧ Dig (strOfNums (asc D)) i := by
  have hx := dg_rd hD ((D.length - 1 - i : Nat) : Int) (by omega) (by omega)
  rw [TT_eq] at hx
  have e := asc_get D i h
  have b := bt_nums (asc D) i (by rw [asc_len]; exact h) (by rw [e]; omega) (by rw [e]; omega)
  rw [e] at b
  exact ⟨b, by unfold Dig; rw [b]; omega⟩
theorem asc_sv {D : List Int} (hD : Dg TT D) (i : Nat) (h : i ≤ D.length) : sv (strOfNums (asc D)) i = vl TT (D.drop (D.length - i)) := by
  induction i with
  | zero => rw [Nat.sub_zero, List.drop_length]; rfl
  | succ i ih =>
    have e : sv (strOfNums (asc D)) (i + 1) = sv (strOfNums (asc D)) i * 10 + (bt (strOfNums (asc D)) (i : Int) - 48) := rfl
    rw [e, ih (by omega), (asc_dig hD i (by omega)).1, drop_rd D (D.length - (i + 1)) (by omega), vl, show D.length - (i + 1) + 1 = D.length - i by omega, show D.length - 1 - i = D.length - (i + 1) by omega, TT_eq]
    omega
theorem asc_all {D : List Int} {n : Int} (hD : Can TT D n) : (strOfNums (asc D)).size = D.length ∧ (∀ p, p < (strOfNums (asc D)).size → Dig (strOfNums (asc D)) p) ∧ sv (strOfNums (asc D)) (strOfNums (asc D)).size = n := by
  have hs : (strOfNums (asc D)).size = D.length := by rw [strOfNums_size, asc_len]
  refine ⟨hs, fun p hp => (asc_dig hD.1 p (by omega)).2, ?_⟩
  rw [hs, asc_sv hD.1 _ (Nat.le_refl _), Nat.sub_self, List.drop_zero, hD.2.2]
end Go.Proofs.Ytfpolhoabfadnaa.P
end
section
namespace Go.Proofs.Ytfpolhoabfadnaa.Q
open Go.RowKit Go.Proofs.YtfpolhoabfadnaaW.PrintWords Go.Proofs.YtfpolhoabfadnaaW.PrintMore Go.Proofs.Ytfpolhoabfadnaa.V Go.Proofs.Ytfpolhoabfadnaa.E
open Go.Proofs.Ytfpolhoabfadnaa.P (Dg Nm vl WW RR TT asc can_uniq gI evs evk evb cmpi WW_pos WW_one RR_pos w64 u64)
set_option linter.unusedVariables false
theorem rat_Text_eq (k : Nat) (y : RatD) : rat_Text (k + 1) y =
    (rat_Valid k y).bind fun (ok : Bool) => bif ok then
      (nat_Text k y.2.1).bind fun (n : ByteArray × Int × Unit) =>
      (num_Whole k y).bind fun (wh : Bool) => bif wh then
        if n.1.size + 2 ≤ 140737488355328 then some (bif y.1 then (⟨#[45]⟩ : ByteArray) ++ n.1 else n.1, 0, ()) else none
      else
        (nat_Text k y.2.2.1).bind fun (d : ByteArray × Int × Unit) =>
        if n.1.size + d.1.size + 2 ≤ 140737488355328 then some (bif y.1 then (⟨#[45]⟩ : ByteArray) ++ n.1 ++ ((⟨#[47]⟩ : ByteArray) ++ d.1) else n.1 ++ ((⟨#[47]⟩ : ByteArray) ++ d.1), 0, ()) else none
    else some ((⟨#[]⟩ : ByteArray), 3, ()) := by
  kernel_rfl
def Txt (n : Int) (s : ByteArray) : Prop := (n = 0 ∧ s = ⟨#[48]⟩) ∨ (0 < n ∧ ∃ D, P.Can TT D n ∧ D ≠ [] ∧ D.length ≤ 576 ∧ s = strOfNums (asc D))
theorem Txt.size {n : Int} {s : ByteArray} (h : Txt n s) : s.size ≤ 576 := by
  rcases h with ⟨_, rfl⟩ | ⟨_, D, h1, h2, h3, rfl⟩
  · decide
  · rw [(P.asc_all h1).1]
    exact h3
theorem q_Text {a : List Int} {n : Int} (hl : a.length ≤ 40) (ha : P.Can WW a n) : ∃ s, Ev (fun k => nat_Text k a) (s, 0, ()) ∧ Txt n s := by
  have n0 := ha.nonneg WW_pos
  by_cases c : n = 0
  · obtain rfl := len_eq WW_pos ha c
    refine ⟨⟨#[48]⟩, Ev.step (fun k => nat_Text_eq k _) (evmap (g := fun r : ByteArray × Int => (r.1, r.2, ())) (r := ((⟨#[48]⟩ : ByteArray), 0)) ?_), .inl ⟨c, rfl⟩⟩
    unfold P.nat_Text.f
    obtain ⟨t, h1, h2, h3⟩ := P.valid_sp [] (by simp)
    obtain rfl := h3.2 ⟨by simp, P.Nm.nil⟩
    exact evb h2 (P.evp rfl (P.evp rfl (evs _)))
  · obtain ⟨D, d1, d2, d3, d4⟩ := P.nat_Text_sp hl ha (by omega)
    exact ⟨_, Ev.step (fun k => nat_Text_eq k _) (evmap (g := fun r : ByteArray × Int => (r.1, r.2, ())) d1), .inr ⟨by omega, D, d2, d3, d4, rfl⟩⟩
section
variable {v w : RatD} {p q : Rat} {K L : Nat}
theorem num_Whole_sp (hv : RB WW v p) : Ev (fun k => num_Whole k v) (decide (p.den = 1)) := by
  have h := is_one' hv.2.2
  have e : decide ((p.den : Int) = 1) = decide (p.den = 1) := decide_eq_decide.2 (by omega)
  rw [e] at h
  exact Ev.step (fun k => num_Whole_eq k v) (Ev.bind (Ev.step (fun k => num_whole_eq k v) (Ev.bind (evk h) (evs _))) (evs _))
def RTxt (p : Rat) (s : ByteArray) : Prop := ∃ n d, Txt (p.num.natAbs : Int) n ∧ (p.den ≠ 1 → Txt (p.den : Int) d) ∧ s = (bif decide (p.num < 0) then (⟨#[45]⟩ : ByteArray) ++ n else n) ++ (if p.den = 1 then ⟨#[]⟩ else (⟨#[47]⟩ : ByteArray) ++ d)
theorem ba_empty (s : ByteArray) : s ++ (⟨#[]⟩ : ByteArray) = s := by
  apply ByteArray.ext
  simp [ByteArray.data_append]
theorem rat_Text_sp (hv : RB WW v p) (hp : Sz WW K p) (hK : K ≤ 40) : ∃ s, Ev (fun k => rat_Text k v) (s, 0, ()) ∧ RTxt p s := by
  obtain ⟨l1, l2⟩ := sz_len WW_one hv hp
  have a1 := rat_Valid_ev (arg_of hv hp (by omega)) ⟨p, hv, sz_mono WW_pos hp (by omega)⟩
  obtain ⟨n, n1, n2⟩ := q_Text (by omega) hv.2.1
  obtain ⟨d, d1, d2⟩ := q_Text (by omega) hv.2.2
  have w1 := num_Whole_sp hv
  have ns := n2.size
  have ds := d2.size
  by_cases c : p.den = 1
  · refine ⟨_, Ev.step (fun k => rat_Text_eq k v) (Ev.bind a1 (bT rfl (Ev.bind n1 (Ev.bind w1 (bT (decide_eq_true c) (iT (by simp only []; omega) (evs _))))))), n, d, n2, fun h => absurd c h, ?_⟩
    rw [if_pos c, ba_empty, hv.1]
  · refine ⟨_, Ev.step (fun k => rat_Text_eq k v) (Ev.bind a1 (bT rfl (Ev.bind n1 (Ev.bind w1 (bF (decide_eq_false c) (Ev.bind d1 (iT (by simp only []; omega) (evs _)))))))), n, d, n2, fun _ => d2, ?_⟩
    rw [if_neg c, hv.1]
    cases decide (p.num < 0) <;> rfl
end
theorem txt_digit {n : Int} {s : ByteArray} (h : Txt n s) (h0 : 0 < n) (h1 : n < 10) : s = strOfNums [n + 48] := by
  rcases h with ⟨e, _⟩ | ⟨_, D, d1, d2, d3, rfl⟩
  · omega
  · have c : P.Can TT [n] n := ⟨Dg.mk (by omega) (by have : TT = 10 := rfl; omega) (Dg.nil _), fun h => by simp; omega, by simp [vl]⟩
    rw [can_uniq (by decide) d1 c]
    rfl
theorem rb_words {B : Int} {a b : List Int} {x y : Int} (hx : 0 < x) (hy : 0 < y) (hg : gI x y = 1) (ha : P.Can B a x) (hb : P.Can B b y) (s : Bool) : RB B (s, a, b, ()) (Rat.divInt (sg s x) y) := rb_frac hx hy (by rw [hg, Int.ediv_one]; exact ha) (by rw [hg, Int.ediv_one]; exact hb)
theorem can_digit {B x : Int} (h0 : 0 < x) (h1 : x < B) : P.Can B [x] x := ⟨Dg.mk (by omega) h1 (Dg.nil _), fun h => by simp; omega, by simp [vl]⟩
theorem awake_ev : Ev (fun k => isochronelaw02_awake k) true := by
  have h2 := rb_words (B := WW) (a := [1]) (b := [2]) (x := 1) (y := 2) (by decide) (by decide) (by decide) (can_digit (by decide) (by decide)) (can_digit (by decide) (by decide)) false
  have h3 := rb_words (B := WW) (a := [1]) (b := [3]) (x := 1) (y := 3) (by decide) (by decide) (by decide) (can_digit (by decide) (by decide)) (can_digit (by decide) (by decide)) false
  have h6 := rb_words (B := WW) (a := [5]) (b := [6]) (x := 5) (y := 6) (by decide) (by decide) (by decide) (can_digit (by decide) (by decide)) (can_digit (by decide) (by decide)) false
  have e : Rat.divInt (sg false 1) 2 + Rat.divInt (sg false 1) 3 = Rat.divInt (sg false 5) 6 := by
    simp only [Rat.divInt_eq_div, sg]
    grind
  obtain ⟨r, r1, r2, r3⟩ := rat_Add_sp h2 h3 (sz_of WW_pos h2 (K := 1) (by simp) (by simp)) (sz_of WW_pos h3 (K := 1) (by simp) (by simp)) (by omega)
  rw [e] at r2 r3
  obtain rfl := rb_uniq WW_pos r2 h6
  obtain ⟨s, s1, n, d, n2, d2, es⟩ := rat_Text_sp r2 r3 (by omega)
  have en : (Rat.divInt (sg false 5) 6).num.natAbs = 5 := by rw [Rat.num_divInt]; rfl
  have en' : (Rat.divInt (sg false 5) 6).num = 5 := by rw [Rat.num_divInt]; rfl
  have ed : (Rat.divInt (sg false 5) 6).den = 6 := by rw [Rat.den_divInt]; rfl
  rw [en] at n2
  rw [ed] at d2
  have hn := txt_digit n2 (by decide) (by decide)
  have hd := txt_digit (d2 (by decide)) (by decide) (by decide)
  rw [en', ed, hn, hd] at es
  have es' : s.toList = (⟨#[53, 47, 54]⟩ : ByteArray).toList := by rw [es]; decide +kernel
  refine Ev.step (fun k => isochronelaw02_awake_eq k) (Ev.bind r1 (Ev.bind s1 (Ev.bind (bT rfl (evs _)) (Ev.bind (a := true) (bT rfl ?_) (evs _)))))
  have e3 : (s.toList == (⟨#[53, 47, 54]⟩ : ByteArray).toList) = true := by rw [es']; exact beq_self_eq_true _
  show Ev (fun _ => some (s.toList == (⟨#[53, 47, 54]⟩ : ByteArray).toList)) true
  rw [e3]
  exact evs _
end Go.Proofs.Ytfpolhoabfadnaa.Q
end
section
namespace Go.Proofs.Ytfpolhoabfadnaa.Q
open Go.RowKit Go.Proofs.YtfpolhoabfadnaaW.PrintWords Go.Proofs.YtfpolhoabfadnaaW.PrintMore Go.Proofs.Ytfpolhoabfadnaa.V Go.Proofs.Ytfpolhoabfadnaa.E
open Go.Proofs.Ytfpolhoabfadnaa.P (Dg WW dg_wf)
set_option linter.unusedVariables false
theorem tab_ok : tabOk T = true := by kernel_rfl
theorem mixed : T.P.follows .mixedOrders = true := by kernel_rfl
theorem noGo0 : (Try.prog.funcs.toList.all fun f => f.name != "runtime.NumGoroutine") = true := by kernel_rfl
theorem noGo (f : Nat) (fn : Func) (h : T.P.funcs[f]? = some fn) : fn.name ≠ "runtime.NumGoroutine" := by
  have h1 := List.all_eq_true.1 noGo0 fn (by
    rw [Array.mem_toList_iff]
    exact Array.mem_of_getElem? h)
  simpa using h1
theorem arg_rat {y : RatD} (h : Fine c_api_Rat y) : Arg y := by
  obtain ⟨_, h1, h2, _⟩ := h
  exact ⟨dg_wf h1.2, dg_wf h2.2, trivial, trivial⟩
theorem arg_str {s : ByteArray} (h : Fine .str s) : s.size ≤ maxLen := h
end Go.Proofs.Ytfpolhoabfadnaa.Q
end
section
namespace Go.Proofs.Ytfpolhoabfadnaa.Q
open Go.RowKit Go.Proofs.YtfpolhoabfadnaaW.PrintWords Go.Proofs.YtfpolhoabfadnaaW.PrintMore Go.Proofs.Ytfpolhoabfadnaa.V Go.Proofs.Ytfpolhoabfadnaa.E
open Go.Proofs.Ytfpolhoabfadnaa.P (Dg Nm vl WW RR TT asc can_uniq gI evs evk evb cmpi WW_pos WW_one RR_pos w64 u64)
set_option linter.unusedVariables false
section
variable {v w : RatD} {p q : Rat} {K L : Nat}
def down (n : Nat) (p : Rat) : Rat := ((p * ((2 ^ n : Int) : Rat)).floor : Rat) / ((2 ^ n : Int) : Rat)
end
end Go.Proofs.Ytfpolhoabfadnaa.Q
end
section
namespace Go.Proofs.Ytfpolhoabfadnaa.Q
open Go.RowKit Go.Proofs.YtfpolhoabfadnaaW.PrintWords Go.Proofs.YtfpolhoabfadnaaW.PrintMore Go.Proofs.Ytfpolhoabfadnaa.V Go.Proofs.Ytfpolhoabfadnaa.E
open Go.Proofs.Ytfpolhoabfadnaa.P (Dg Nm vl WW RR TT asc can_uniq gI evs evk evb cmpi WW_pos WW_one RR_pos w64 u64 Dig sv)
set_option linter.unusedVariables false
theorem bt_at {s : ByteArray} {i : Nat} (h : i < s.size) : bt s (i : Int) = (s[i]'h).toNat := by
  unfold bt
  rw [dif_pos (by omega)]
  rfl
theorem ba_ext {s t : ByteArray} (hs : s.size = t.size) (h : ∀ i : Nat, i < s.size → bt s i = bt t i) : s = t := by
  apply ByteArray.ext
  apply Array.ext
  · exact hs
  · intro i h1 h2
    have h3 : i < s.size := h1
    have h4 : i < t.size := h2
    have := h i h3
    rw [bt_at h3, bt_at h4] at this
    exact UInt8.toNat.inj (by exact_mod_cast this)
theorem bt_ext {s : ByteArray} {a b i : Nat} (h : i < min b s.size - a) : bt (s.extract a b) (i : Int) = bt s ((a + i : Nat) : Int) := by
  have h1 : i < (s.extract a b).size := by rw [ByteArray.size_extract]; exact h
  rw [bt_at h1, bt_at (s := s) (i := a + i) (by omega), ByteArray.getElem_extract]
theorem bt_app {s t : ByteArray} {i : Nat} : bt (s ++ t) (i : Int) = if i < s.size then bt s (i : Int) else bt t ((i - s.size : Nat) : Int) := by
  by_cases c : i < s.size
  · rw [if_pos c, bt_at (by rw [ByteArray.size_append]; omega), bt_at c, ByteArray.getElem_append_left]
  · rw [if_neg c]
    by_cases d : i < s.size + t.size
    · rw [bt_at (by rw [ByteArray.size_append]; omega), bt_at (by omega), ByteArray.getElem_append_right (by omega)]
    · unfold bt
      rw [dif_neg (by rw [ByteArray.size_append]; omega), dif_neg (by omega)]
theorem sv_congr {s t : ByteArray} (n : Nat) (h : ∀ i : Nat, i < n → bt s i = bt t i) : sv s n = sv t n := by
  induction n with
  | zero => rfl
  | succ n ih =>
    show sv s n * 10 + (bt s (n : Int) - 48) = sv t n * 10 + (bt t (n : Int) - 48)
    rw [ih (fun i hi => h i (by omega)), h n (by omega)]
theorem sv_app (s t : ByteArray) (j : Nat) (hj : j ≤ t.size) : sv (s ++ t) (s.size + j) = sv s s.size * 10 ^ j + sv t j := by
  induction j with
  | zero =>
    rw [Nat.add_zero, Int.pow_zero, Int.mul_one, show sv t 0 = 0 from rfl, Int.add_zero]
    exact sv_congr _ fun i hi => by rw [bt_app, if_pos hi]
  | succ j ih =>
    have e : sv (s ++ t) (s.size + (j + 1)) = sv (s ++ t) (s.size + j) * 10 + (bt (s ++ t) ((s.size + j : Nat) : Int) - 48) := rfl
    have e2 : sv t (j + 1) = sv t j * 10 + (bt t (j : Int) - 48) := rfl
    rw [e, ih (by omega), e2, bt_app, if_neg (by omega), show s.size + j - s.size = j by omega, Int.pow_succ]
    grind
def Dec (s : ByteArray) : Prop := 0 < s.size ∧ ∀ p, p < s.size → Dig s p
theorem dig_ne {s : ByteArray} {i : Nat} (h : Dig s i) {c : Int} (hc : c = 45 ∨ c = 46 ∨ c = 47) : bt s (i : Int) ≠ c := by
  have := h.1
  omega
def MarkAt (s : ByteArray) (p : Nat) (c : Int) : Prop := p < s.size ∧ bt s (p : Int) = c ∧ (c = 46 ∨ c = 47) ∧ ∀ i, i < p → bt s (i : Int) ≠ 46 ∧ bt s (i : Int) ≠ 47
def NoMark (s : ByteArray) : Prop := ∀ i, i < s.size → bt s (i : Int) ≠ 46 ∧ bt s (i : Int) ≠ 47
def head (s : ByteArray) (p : Nat) : ByteArray := s.extract 0 p
def tail (s : ByteArray) (p : Nat) : ByteArray := s.extract (p + 1) s.size
theorem head_size {s : ByteArray} {p : Nat} (h : p ≤ s.size) : (head s p).size = p := by unfold head; rw [ByteArray.size_extract]; omega
theorem tail_size {s : ByteArray} {p : Nat} (h : p < s.size) : (tail s p).size = s.size - p - 1 := by unfold tail; rw [ByteArray.size_extract]; omega
theorem head_bt {s : ByteArray} {p i : Nat} (h : p ≤ s.size) (hi : i < p) : bt (head s p) (i : Int) = bt s (i : Int) := by
  unfold head
  rw [bt_ext (by omega), Nat.zero_add]
theorem tail_bt {s : ByteArray} {p i : Nat} (hi : p + 1 + i < s.size) : bt (tail s p) (i : Int) = bt s ((p + 1 + i : Nat) : Int) := by
  unfold tail
  rw [bt_ext (by omega)]
def Out (B : Int) (neg : Bool) (s : ByteArray) (r : RatD) (e : Int) : Prop :=
  (NoMark s → (Dec s → e = 0 ∧ RB B r (Rat.divInt (sg neg (sv s s.size)) 1)) ∧ (¬ Dec s → e = 90 ∧ r = nothing)) ∧
  (∀ p c, MarkAt s p c → (¬ (Dec (head s p) ∧ Dec (tail s p)) → e = 90 ∧ r = nothing) ∧ (Dec (head s p) → Dec (tail s p) →
    (c = 47 → (sv (tail s p) (tail s p).size = 0 → e = 20 ∧ r = nothing) ∧ (sv (tail s p) (tail s p).size ≠ 0 → e = 0 ∧ RB B r (Rat.divInt (sg neg (sv (head s p) (head s p).size)) (sv (tail s p) (tail s p).size)))) ∧
    (c = 46 → e = 0 ∧ RB B r (Rat.divInt (sg neg (sv (head s p) (head s p).size * 10 ^ (tail s p).size + sv (tail s p) (tail s p).size)) (10 ^ (tail s p).size)))))
theorem mark_uniq {s : ByteArray} {p q : Nat} {c d : Int} (h : MarkAt s p c) (g : MarkAt s q d) : p = q ∧ c = d := by
  have e : p = q := by
    rcases Nat.lt_trichotomy p q with k | k | k
    · have := g.2.2.2 p k; have := h.2.1; have := h.2.2.1; omega
    · exact k
    · have := h.2.2.2 q k; have := g.2.1; have := g.2.2.1; omega
  subst e
  exact ⟨rfl, h.2.1.symm.trans g.2.1⟩
theorem mark_or (s : ByteArray) : NoMark s ∨ ∃ p c, MarkAt s p c := by
  have key : ∀ n, n ≤ s.size → (∀ i, i < n → bt s (i : Int) ≠ 46 ∧ bt s (i : Int) ≠ 47) ∨ ∃ p c, MarkAt s p c := fun n => by
    induction n with
    | zero => exact fun _ => .inl fun i hi => absurd hi (Nat.not_lt_zero _)
    | succ n ih =>
      intro hn
      rcases ih (by omega) with h | h
      · by_cases c : bt s (n : Int) = 46 ∨ bt s (n : Int) = 47
        · exact .inr ⟨n, _, by omega, rfl, c, h⟩
        · exact .inl fun i hi => by
            by_cases e : i = n
            · subst e; omega
            · exact h i (by omega)
      · exact .inr h
  exact key _ (Nat.le_refl _)
theorem out_mark {B : Int} {neg : Bool} {s : ByteArray} {r : RatD} {e : Int} {p : Nat} {c : Int} (m : MarkAt s p c) (h : (¬ (Dec (head s p) ∧ Dec (tail s p)) → e = 90 ∧ r = nothing) ∧ (Dec (head s p) → Dec (tail s p) →
    (c = 47 → (sv (tail s p) (tail s p).size = 0 → e = 20 ∧ r = nothing) ∧ (sv (tail s p) (tail s p).size ≠ 0 → e = 0 ∧ RB B r (Rat.divInt (sg neg (sv (head s p) (head s p).size)) (sv (tail s p) (tail s p).size)))) ∧
    (c = 46 → e = 0 ∧ RB B r (Rat.divInt (sg neg (sv (head s p) (head s p).size * 10 ^ (tail s p).size + sv (tail s p) (tail s p).size)) (10 ^ (tail s p).size))))) : Out B neg s r e := by
  refine ⟨fun n => ?_, fun q d g => ?_⟩
  · have := n p m.1
    have := m.2.1
    have := m.2.2.1
    omega
  · obtain ⟨rfl, rfl⟩ := mark_uniq m g
    exact h
theorem out_none {B : Int} {neg : Bool} {s : ByteArray} {r : RatD} {e : Int} (n : NoMark s) (h : (Dec s → e = 0 ∧ RB B r (Rat.divInt (sg neg (sv s s.size)) 1)) ∧ (¬ Dec s → e = 90 ∧ r = nothing)) : Out B neg s r e := by
  refine ⟨fun _ => h, fun q d m => ?_⟩
  have := n q m.1
  have := m.2.1
  have := m.2.2.1
  omega
theorem no_digit_mark {s : ByteArray} {i : Nat} {c : Int} (hi : i < s.size) (hc : bt s (i : Int) = c) (h : c = 45 ∨ c = 46 ∨ c = 47) : ¬ Dec s := fun d => dig_ne (d.2 i hi) h hc
theorem p10_len (N : Nat) (hN : N ≤ 20000) {z : List Int} (h : P.Can WW z (10 ^ N)) : z.length ≤ 2300 := by
  refine h.len_le WW_one ?_
  have h1 : (10 : Int) ^ N ≤ 10 ^ (9 * 2223) := P.pow_le (by decide) (by omega)
  have h2 : ∀ k : Nat, (10 : Int) ^ (9 * k) ≤ WW ^ k := fun k => by
    induction k with
    | zero => exact Int.le_refl _
    | succ k ih =>
      rw [show 9 * (k + 1) = 9 * k + 9 by omega, Int.pow_add, Int.pow_succ WW]
      exact Int.mul_le_mul ih (by decide) (by decide) (Int.le_of_lt (Int.pow_pos WW_pos))
  exact Int.lt_of_le_of_lt (Int.le_trans h1 (h2 _)) (Int.pow_lt_pow_of_lt (by decide) (by omega))
theorem sv_len {s : ByteArray} (hs : s.size ≤ 20000) (h : Dec s) {z : List Int} (hz : P.Can WW z (sv s s.size)) : z.length ≤ 2300 := by
  have h1 := (P.sv_bd s s.size h.2).2
  obtain ⟨l, hl⟩ := P.can_ex WW_one (n := 10 ^ s.size) (Int.le_of_lt (Int.pow_pos (by decide)))
  have h2 := p10_len _ hs hl
  exact hz.len_le WW_one (Int.lt_of_lt_of_le (Int.lt_trans h1 (hl.lt WW_pos)) (P.pow_le (by decide) h2))
theorem q_Parse (s : ByteArray) (hs : s.size ≤ 20000) : ∃ l e, Ev (fun k => nat_Parse k s) (l, e, ()) ∧ (Dec s → e = 0 ∧ P.Can WW l (sv s s.size) ∧ l.length ≤ 2300) ∧ (¬ Dec s → e = 90) := by
  obtain ⟨R, r1, _, r3, r4⟩ := P.nat_Parse_sp s
  refine ⟨R.1, R.2, Ev.step (fun k => nat_Parse_eq k s) (evmap (g := fun r : List Int × Int => (r.1, r.2, ())) r1), fun h => ?_, fun h => ?_⟩
  · obtain ⟨z, z1, z2⟩ := r3 hs h.1 h.2
    have hl := sv_len hs h z1
    rw [P.limited_sp (by omega)] at z2
    obtain rfl := Option.some.inj z2
    exact ⟨rfl, z1, hl⟩
  · rw [r4 hs h]
theorem can10 : P.Can WW [10] 10 := ⟨Dg.mk (by decide) (by decide) (Dg.nil _), fun h => by simp, by decide⟩
theorem q_Pow10 (N : Nat) (hN : N ≤ 20000) : ∃ z, Ev (fun k => nat_Pow k [10] (N : Int)) (z, 0, ()) ∧ P.Can WW z (10 ^ N) ∧ z.length ≤ 2300 := by
  obtain ⟨z, hz⟩ := P.can_ex WW_one (n := 10 ^ N) (Int.le_of_lt (Int.pow_pos (by decide)))
  have hl := p10_len N hN hz
  refine ⟨z, Ev.step (fun k => nat_Pow_eq k _ _) (evmap (g := fun r : List Int × Int => (r.1, r.2, ())) (r := (z, 0)) ?_), hz, hl⟩
  have hval : P.nat_Valid.f [10] = some true := P.nat_valid (by simp) can10.2.1
  unfold P.nat_Pow.f
  refine evb hval (P.evp rfl (P.evn (by omega) ?_))
  by_cases c0 : N = 0
  · subst c0
    refine P.evp (by omega) ?_
    have e : z = [1] := can_uniq WW_pos hz (by rw [Int.pow_zero]; exact can1 WW_one)
    rw [e]
    exact evs _
  · refine P.evn (by omega) ?_
    refine P.evn (by simp) (P.evp (by simp) (P.evp (by simp) ?_))
    rw [show ((rd [10] 0 : Int) == 1) = false by decide]
    refine Ev.step (fun k => by rw [P.nat_Pow.j0]) ?_
    obtain ⟨b, b1, b2, b3, b4⟩ := P.mag_Bits_sp (by simp) can10
    obtain ⟨b5, b6, b7, b8⟩ := b4 (by decide)
    have hb : b = 4 := by
      rcases Nat.lt_trichotomy b 4 with c | c | c
      · have : (2 : Int) ^ b ≤ 2 ^ 3 := P.pow_le (by decide) (by omega)
        omega
      · exact c
      · have : (2 : Int) ^ 4 ≤ 2 ^ (b - 1) := P.pow_le (by decide) (by omega)
        omega
    subst hb
    refine P.evn (by simp) (P.evn (by omega) (evb b1 ?_))
    rw [show wrap64 (((4 : Nat) : Int) - 1) = 3 by rw [w64 (by omega) (by omega)]; rfl, w64 (x := 3 * (N : Int)) (by omega) (by omega), u64 (x := (N : Int)) (by omega) (by omega)]
    refine P.evn (by omega) ?_
    obtain ⟨L, l1, l2, l3⟩ := P.len64_sp (x := (N : Int)) (by omega) (by omega)
    have hdz : N / 2 ^ L = 0 := Nat.div_eq_of_lt (by exact_mod_cast l3)
    have := P.nat_Pow_ev (by simp) can10 (by decide) (by omega) hz (P.limited_sp (by omega)) L l2 [1] (by rw [hdz, Int.pow_zero]; exact can1 WW_one)
    have hlen : Ev (fun k => P.bits_Len.f k (N : Int)) (L : Int) := by
      unfold P.bits_Len.f
      exact Ev.bind l1 (evs _)
    refine Ev.bind hlen ?_
    rw [w64 (x := (L : Int) - 1) (by omega) (by omega)]
    exact this
theorem bytes1_bt (c : Int) (h0 : 0 ≤ c) (h1 : c < 256) : bt (⟨#[UInt8.ofNat c.toNat]⟩ : ByteArray) 0 = c := by
  have e : bt (⟨#[UInt8.ofNat c.toNat]⟩ : ByteArray) ((0 : Nat) : Int) = _ := bt_at (s := ⟨#[UInt8.ofNat c.toNat]⟩) (i := 0) Nat.zero_lt_one
  rw [show ((0 : Nat) : Int) = 0 from rfl] at e
  rw [e]
  show (((UInt8.ofNat c.toNat).toNat : Nat) : Int) = c
  simp
  omega
theorem ba_list_eq {s t : ByteArray} : (s.toList == t.toList) = decide (s = t) := by
  rw [Bool.eq_iff_iff, beq_iff_eq, decide_eq_true_eq]
  constructor
  · intro h
    rw [ByteArray.toList_eq, ByteArray.toList_eq] at h
    apply ByteArray.ext
    exact Array.toList_inj.1 h
  · intro h; rw [h]
theorem stringslite_IndexByte_eq (k : Nat) (s : ByteArray) (c : Int) : stringslite_IndexByte (k + 1) s c = some (Lib.indexByte s.data.toList c.toNat.toUInt8) := by
  kernel_rfl
theorem idx_sp (s : ByteArray) (c : Int) (h0 : 0 ≤ c) (h1 : c < 256) : ∃ r, Ev (fun k => stringslite_IndexByte k s c) r ∧ ((r = -1 ∧ ∀ i, i < s.size → bt s (i : Int) ≠ c) ∨ ∃ p : Nat, r = p ∧ p < s.size ∧ bt s (p : Int) = c ∧ ∀ i, i < p → bt s (i : Int) ≠ c) := by
  refine ⟨_, Ev.step (fun k => stringslite_IndexByte_eq k s c) (evs _), ?_⟩
  have ge := Lib.indexByte_ge s.data.toList c.toNat.toUInt8
  have hget : ∀ i : Nat, (hi : i < s.size) → (s.data.toList[i]? = some c.toNat.toUInt8 ↔ bt s (i : Int) = c) := fun i hi => by
    rw [bt_at hi, List.getElem?_eq_getElem (by simpa using hi), Option.some.injEq]
    have e : s.data.toList[i]'(by simpa using hi) = s[i] := by simp; rfl
    rw [e]
    constructor
    · intro h
      rw [h]
      simp
      omega
    · intro h
      apply UInt8.toNat.inj
      simp
      omega
  by_cases c1 : Lib.indexByte s.data.toList c.toNat.toUInt8 = -1
  · exact .inl ⟨c1, fun i hi h => Lib.indexByte_none c1 i ((hget i hi).2 h)⟩
  · obtain ⟨p, hp⟩ : ∃ p : Nat, Lib.indexByte s.data.toList c.toNat.toUInt8 = p := ⟨(Lib.indexByte s.data.toList c.toNat.toUInt8).toNat, by omega⟩
    obtain ⟨k1, k2⟩ := Lib.indexByte_some hp
    have hps : p < s.size := by
      rw [List.getElem?_eq_some_iff] at k1
      obtain ⟨h, _⟩ := k1
      simpa using h
    exact .inr ⟨p, hp, hps, (hget p hps).1 k1, fun i hi h => k2 i hi ((hget i (by omega)).2 h)⟩
theorem cut_sp (s t : ByteArray) (c : Int) (ht : t = ⟨#[UInt8.ofNat c.toNat]⟩) (h0 : 0 ≤ c) (h1 : c < 256) (hs : s.size ≤ 20000) :
    (Ev (fun k => strings_Cut k s t) (s, ⟨#[]⟩, false, ()) ∧ ∀ i, i < s.size → bt s (i : Int) ≠ c) ∨ ∃ p : Nat, Ev (fun k => strings_Cut k s t) (head s p, tail s p, true, ()) ∧ p < s.size ∧ bt s (p : Int) = c ∧ ∀ i, i < p → bt s (i : Int) ≠ c := by
  have t1 : t.size = 1 := by subst ht; rfl
  have t2 : bt t (0 : Int) = c := by subst ht; exact bytes1_bt c h0 h1
  obtain ⟨r, r1, r2⟩ := idx_sp s c h0 h1
  have hidx : Ev (fun k => stringslite_Index k s t) r := by
    refine Ev.step (fun k => stringslite_Index_eq k s t) (Ev.bind (a := decide (t = s)) (bF (beq_false_of_ne (by omega)) (by rw [ba_list_eq]; exact evs _)) ?_)
    by_cases e : t = s
    · have hr : r = 0 := by
        rcases r2 with ⟨_, h⟩ | ⟨p, h, h2, _⟩
        · exact absurd t2 (by have := h 0 (by rw [← e, t1]; omega); rw [← e] at this; exact this)
        · rw [← e, t1] at h2
          omega
      rw [hr]
      exact bT (decide_eq_true e) (evs _)
    · refine bF (decide_eq_false e) (bT (beq_iff_eq.2 (by omega)) (iT (by omega) ?_))
      rw [t2]
      exact Ev.bind r1 (evs _)
  rcases r2 with ⟨e, h⟩ | ⟨p, e, h, h2, h3⟩
  · refine .inl ⟨Ev.step (fun k => strings_Cut_eq k s t) (Ev.bind (Ev.step (fun k => stringslite_Cut_eq k s t) (Ev.bind hidx (bF (decide_eq_false (by omega)) (evs _)))) (evs _)), h⟩
  · refine .inr ⟨p, Ev.step (fun k => strings_Cut_eq k s t) (Ev.bind (a := (head s p, tail s p, true, ())) (Ev.step (fun k => stringslite_Cut_eq k s t) (Ev.bind hidx (bT (decide_eq_true (by omega)) (iT (by omega) (iT ?_ ?_))))) (evs _)), h, h2, h3⟩
    · rw [t1, w64 (by omega) (by omega)]; omega
    · rw [t1, w64 (by omega) (by omega), e]
      have : (((p : Nat) : Int) + ((1 : Nat) : Int)).toNat = p + 1 := by omega
      rw [this, Int.toNat_natCast]
      exact evs _
theorem pre_sp (s : ByteArray) (hs : s.size ≤ 20000) : Ev (fun k => strings_HasPrefix k s (⟨#[45]⟩ : ByteArray)) (decide (0 < s.size ∧ bt s 0 = 45)) := by
  refine Ev.step (fun k => strings_HasPrefix_eq k s _) (Ev.bind (Ev.step (fun k => stringslite_HasPrefix_eq k s _) (Ev.bind ?_ (evs _))) (evs _))
  have t1 : (⟨#[45]⟩ : ByteArray).size = 1 := rfl
  rw [t1]
  by_cases c : 0 < s.size
  · refine bT (decide_eq_true (by omega)) (iT (by omega) ?_)
    rw [ba_list_eq]
    have : decide (s.extract 0 (((1 : Nat) : Int)).toNat = (⟨#[45]⟩ : ByteArray)) = decide (0 < s.size ∧ bt s 0 = 45) := by
      refine decide_eq_decide.2 ⟨fun h => ⟨c, ?_⟩, fun h => ba_ext ?_ fun i hi => ?_⟩
      · have hb : bt (s.extract 0 1) ((0 : Nat) : Int) = bt s ((0 + 0 : Nat) : Int) := bt_ext (by omega)
        have hh : s.extract 0 1 = (⟨#[45]⟩ : ByteArray) := h
        rw [hh] at hb
        have h5 : bt (⟨#[45]⟩ : ByteArray) 0 = 45 := bytes1_bt 45 (by decide) (by decide)
        exact hb.symm.trans h5
      · show (s.extract 0 1).size = 1
        rw [ByteArray.size_extract]; omega
      · have hi' : i < (s.extract 0 1).size := hi
        rw [ByteArray.size_extract] at hi'
        have : i = 0 := by omega
        subst this
        have h5 : bt (⟨#[45]⟩ : ByteArray) 0 = 45 := bytes1_bt 45 (by decide) (by decide)
        have hb : bt (s.extract 0 1) ((0 : Nat) : Int) = bt s ((0 + 0 : Nat) : Int) := bt_ext (by omega)
        exact hb.trans (h.2.trans h5.symm)
    rw [this]
    exact evs _
  · have : decide (0 < s.size ∧ bt s 0 = 45) = false := decide_eq_false (fun h => c h.1)
    rw [this]
    exact bF (decide_eq_false (by omega)) (evs _)
section
variable {v w r2 : RatD} {p q : Rat} {K L : Nat}
def Short (r : RatD) : Prop := r.2.1.length ≤ 4096 ∧ r.2.2.1.length ≤ 4096
theorem short_no : Short nothing := ⟨Nat.zero_le _, Nat.zero_le _⟩
theorem parse_j2 {neg : Bool} {x y : List Int} {n d : Int} (hx : P.Can WW x n) (hy : P.Can WW y d) (hd : 0 < d) (lx : x.length ≤ 4096) (ly : y.length ≤ 4096) : ∃ r, Ev (fun k => rat_Parse.j2 k neg x y r2) (r, 0, ()) ∧ RB WW r (Rat.divInt (sg neg n) d) ∧ Short r := by
  obtain ⟨r, h1, h2⟩ := num_Make_sp (s := neg) (by omega) (by omega) hx hy hd
  have s : Sz WW 4096 (Rat.divInt (sg neg n) d) := sz_frac (hx.nonneg WW_pos) hd (Int.lt_of_lt_of_le (hx.lt WW_pos) (P.pow_le (by decide) lx)) (Int.lt_of_lt_of_le (hy.lt WW_pos) (P.pow_le (by decide) ly))
  exact ⟨r, Ev.bind h1 (Ev.bind (rat_limited_sp h2 s) (evs _)), h2, sz_len WW_one h2 s⟩
theorem sv_nonneg {s : ByteArray} (h : Dec s) : 0 ≤ sv s s.size := (P.sv_bd s s.size h.2).1
theorem parse_j0 (neg : Bool) (s : ByteArray) (hs : s.size ≤ 20000) : ∃ r e, Ev (fun k => rat_Parse.j0 k s neg r2) (r, e, ()) ∧ Out WW neg s r e ∧ Short r := by
  rcases cut_sp s ⟨#[47]⟩ 47 rfl (by decide) (by decide) hs with ⟨k1, k2⟩ | ⟨p, k1, k2, k3, k4⟩
  · rcases cut_sp s ⟨#[46]⟩ 46 rfl (by decide) (by decide) hs with ⟨m1, m2⟩ | ⟨p, m1, m2, m3, m4⟩
    · have hn : NoMark s := fun i hi => ⟨m2 i hi, k2 i hi⟩
      obtain ⟨l, e, l1, l2, l3⟩ := q_Parse s hs
      by_cases c : Dec s
      · obtain ⟨rfl, l5, l6⟩ := l2 c
        obtain ⟨r, r1, r3, r4⟩ := parse_j2 (neg := neg) (r2 := r2) l5 (can1 WW_one) (by decide) (by omega) (by simp)
        exact ⟨r, 0, Ev.bind k1 (bT rfl (Ev.bind m1 (Ev.bind l1 (bF rfl (bF rfl (bF rfl r1)))))), out_none hn ⟨fun _ => ⟨rfl, r3⟩, fun h => absurd c h⟩, r4⟩
      · obtain rfl := l3 c
        exact ⟨nothing, 90, Ev.bind k1 (bT rfl (Ev.bind m1 (Ev.bind l1 (bT rfl (evs _))))), out_none hn ⟨fun h => absurd h c, fun _ => ⟨rfl, rfl⟩⟩, short_no⟩
    · have hm : MarkAt s p 46 := ⟨m2, m3, .inl rfl, fun i hi => ⟨m4 i hi, k2 i (by omega)⟩⟩
      have hh := head_size (s := s) (p := p) (by omega)
      have ht := tail_size (s := s) (p := p) m2
      obtain ⟨l, e, l1, l2, l3⟩ := q_Parse (head s p) (by omega)
      by_cases c : Dec (head s p)
      · obtain ⟨rfl, l5, l6⟩ := l2 c
        obtain ⟨t, f, t1, t2, t3⟩ := q_Parse (tail s p) (by omega)
        by_cases d : Dec (tail s p)
        · obtain ⟨rfl, t5, t6⟩ := t2 d
          obtain ⟨z, z1, z2, z3⟩ := q_Pow10 (tail s p).size (by omega)
          obtain ⟨u, u1, u2, u3⟩ := q_Mul (by omega) l5 z2
          obtain ⟨w, w1, w2, w3⟩ := q_Add (by omega) (by omega) u2 t5
          have wl : w.length ≤ 4096 := by
            have h1 : sv (head s p) (head s p).size * 10 ^ (tail s p).size + sv (tail s p) (tail s p).size < WW ^ 2300 := by
              obtain ⟨l', hl'⟩ := P.can_ex WW_one (n := 10 ^ ((head s p).size + (tail s p).size)) (Int.le_of_lt (Int.pow_pos (by decide)))
              have g1 := p10_len _ (by omega) hl'
              have g2 : (10 : Int) ^ ((head s p).size + (tail s p).size) < WW ^ 2300 := Int.lt_of_lt_of_le (hl'.lt WW_pos) (P.pow_le (by decide) g1)
              have b1 := P.sv_bd _ _ c.2
              have b2 := P.sv_bd _ _ d.2
              rw [Int.pow_add] at g2
              have b3 : (sv (head s p) (head s p).size + 1) * 10 ^ (tail s p).size ≤ 10 ^ (head s p).size * 10 ^ (tail s p).size := Int.mul_le_mul_of_nonneg_right (by omega) (Int.le_of_lt (Int.pow_pos (by decide)))
              rw [Int.add_mul, Int.one_mul] at b3
              omega
            have := w2.len_le WW_one h1
            omega
          obtain ⟨r, r1, r3, r4⟩ := parse_j2 (neg := neg) (r2 := r2) w2 z2 (Int.pow_pos (by decide)) wl (by omega)
          exact ⟨r, 0, Ev.bind k1 (bT rfl (Ev.bind m1 (Ev.bind l1 (bF rfl (bF rfl (bT rfl (Ev.bind t1 (bF rfl (Ev.bind z1 (Ev.bind u1 (Ev.bind w1 r1))))))))))), out_mark hm ⟨fun h => absurd ⟨c, d⟩ h, fun _ _ => ⟨fun h => by omega, fun _ => ⟨rfl, r3⟩⟩⟩, r4⟩
        · obtain rfl := t3 d
          exact ⟨nothing, 90, Ev.bind k1 (bT rfl (Ev.bind m1 (Ev.bind l1 (bF rfl (bF rfl (bT rfl (Ev.bind t1 (bT rfl (evs _)))))))))
            , out_mark hm ⟨fun _ => ⟨rfl, rfl⟩, fun _ h => absurd h d⟩, short_no⟩
      · obtain rfl := l3 c
        exact ⟨nothing, 90, Ev.bind k1 (bT rfl (Ev.bind m1 (Ev.bind l1 (bT rfl (evs _))))), out_mark hm ⟨fun _ => ⟨rfl, rfl⟩, fun h => absurd h c⟩, short_no⟩
  · have hh := head_size (s := s) (p := p) (by omega)
    have ht := tail_size (s := s) (p := p) k2
    obtain ⟨l, e, l1, l2, l3⟩ := q_Parse (head s p) (by omega)
    by_cases pt : ∃ i, i < p ∧ bt s (i : Int) = 46
    · obtain ⟨i, i1, i2⟩ := pt
      have c : ¬ Dec (head s p) := no_digit_mark (i := i) (c := 46) (by omega) (by rw [head_bt (by omega) i1]; exact i2) (by omega)
      obtain rfl := l3 c
      refine ⟨nothing, 90, Ev.bind k1 (bF rfl (Ev.bind l1 (bT rfl (evs _)))), ?_, short_no⟩
      rcases mark_or s with h | ⟨q, d, h⟩
      · exact absurd i2 (h i (by omega)).1
      · have hq : q ≤ i := Nat.not_lt.1 fun g => absurd i2 (h.2.2.2 i g).1
        have htq := tail_size (s := s) (p := q) h.1
        have nt : ¬ Dec (tail s q) := no_digit_mark (i := p - q - 1) (c := 47) (by omega) (by rw [tail_bt (by omega), show q + 1 + (p - q - 1) = p by omega]; exact k3) (by omega)
        exact out_mark h ⟨fun _ => ⟨rfl, rfl⟩, fun _ g => absurd g nt⟩
    · have hm : MarkAt s p 47 := ⟨k2, k3, .inr rfl, fun i hi => ⟨fun h => pt ⟨i, hi, h⟩, k4 i hi⟩⟩
      by_cases c : Dec (head s p)
      · obtain ⟨rfl, l5, l6⟩ := l2 c
        obtain ⟨t, f, t1, t2, t3⟩ := q_Parse (tail s p) (by omega)
        by_cases d : Dec (tail s p)
        · obtain ⟨rfl, t5, t6⟩ := t2 d
          by_cases z : sv (tail s p) (tail s p).size = 0
          · have tl := len_eq WW_pos t5 z
            exact ⟨nothing, 20, Ev.bind k1 (bF rfl (Ev.bind l1 (bF rfl (bT rfl (Ev.bind t1 (bF rfl (bT (by rw [tl]; rfl) (evs _)))))))), out_mark hm ⟨fun h => absurd ⟨c, d⟩ h, fun _ _ => ⟨fun _ => ⟨fun _ => ⟨rfl, rfl⟩, fun h => absurd z h⟩, fun h => by omega⟩⟩, short_no⟩
          · have z0 := sv_nonneg d
            obtain ⟨r, r1, r3, r4⟩ := parse_j2 (neg := neg) (r2 := r2) l5 t5 (by omega) (by omega) (by omega)
            exact ⟨r, 0, Ev.bind k1 (bF rfl (Ev.bind l1 (bF rfl (bT rfl (Ev.bind t1 (bF rfl (bF (len_ne WW_pos t5 z) r1))))))), out_mark hm ⟨fun h => absurd ⟨c, d⟩ h, fun _ _ => ⟨fun _ => ⟨fun h => absurd h z, fun _ => ⟨rfl, r3⟩⟩, fun h => by omega⟩⟩, r4⟩
        · obtain rfl := t3 d
          exact ⟨nothing, 90, Ev.bind k1 (bF rfl (Ev.bind l1 (bF rfl (bT rfl (Ev.bind t1 (bT rfl (evs _))))))), out_mark hm ⟨fun _ => ⟨rfl, rfl⟩, fun _ h => absurd h d⟩, short_no⟩
      · obtain rfl := l3 c
        exact ⟨nothing, 90, Ev.bind k1 (bF rfl (Ev.bind l1 (bT rfl (evs _)))), out_mark hm ⟨fun _ => ⟨rfl, rfl⟩, fun h => absurd h c⟩, short_no⟩
def unsign (s : ByteArray) : ByteArray := if 0 < s.size ∧ bt s 0 = 45 then s.extract 1 s.size else s
def signed (s : ByteArray) : Bool := decide (0 < s.size ∧ bt s 0 = 45)
theorem unsign_size (s : ByteArray) : (unsign s).size ≤ s.size := by
  unfold unsign
  split
  · rw [ByteArray.size_extract]; omega
  · exact Nat.le_refl _
theorem rat_Parse_sp (s : ByteArray) (hs : s.size ≤ 20000) : ∃ r e, Ev (fun k => rat_Parse k s) (r, e, ()) ∧ Out WW (signed s) (unsign s) r e ∧ Short r := by
  have h1 := pre_sp s hs
  have hu := unsign_size s
  obtain ⟨r, e, r1, r3⟩ := parse_j0 (r2 := nothing) (signed s) (unsign s) (by omega)
  refine ⟨r, e, Ev.step (fun k => rat_Parse_eq k s) (bF (decide_eq_false (by omega)) (Ev.bind h1 ?_)), r3⟩
  by_cases c : 0 < s.size ∧ bt s 0 = 45
  · refine bT (decide_eq_true c) (iT (by omega) ?_)
    have e1 : unsign s = s.extract ((1 : Int)).toNat s.size := if_pos c
    rw [e1] at r1
    exact r1
  · refine bF (decide_eq_false c) ?_
    have e1 : unsign s = s := if_neg c
    rw [e1] at r1
    exact r1
end
end Go.Proofs.Ytfpolhoabfadnaa.Q
end
section
namespace Go.Proofs.Ytfpolhoabfadnaa.Q
open Go.RowKit Go.Proofs.YtfpolhoabfadnaaW.PrintWords Go.Proofs.YtfpolhoabfadnaaW.PrintMore Go.Proofs.Ytfpolhoabfadnaa.V Go.Proofs.Ytfpolhoabfadnaa.E
open Go.Proofs.Ytfpolhoabfadnaa.P (Dg Nm vl WW RR TT asc can_uniq gI evs evk evb cmpi WW_pos WW_one RR_pos w64 u64 Dig sv)
set_option linter.unusedVariables false
theorem s_Decimal (s : ByteArray) (hs : s.size ≤ 20000) : ∃ t, Ev (fun k => isochroneref01_Decimal k s) t ∧ (t = true ↔ Dec s) := by
  obtain ⟨t, t1, t2⟩ := P.r_Decimal_sp hs
  exact ⟨t, Ev.step (fun k => isochroneref01_Decimal_eq k s) t1, t2⟩
theorem s_Decimal' (s : ByteArray) (hs : s.size ≤ 20000) : (Dec s → Ev (fun k => isochroneref01_Decimal k s) true) ∧ (¬ Dec s → Ev (fun k => isochroneref01_Decimal k s) false) := by
  obtain ⟨t, t1, t2⟩ := s_Decimal s hs
  refine ⟨fun h => ?_, fun h => ?_⟩
  · rw [t2.2 h] at t1; exact t1
  · rw [Bool.eq_false_iff.2 fun e => h (t2.1 e)] at t1; exact t1
theorem s_Digits (s : ByteArray) (hs : s.size ≤ 20000) (h : Dec s) : ∃ r, Ev (fun k => isochroneref01_Digits k s) r ∧ P.Can RR r (sv s s.size) ∧ r.length ≤ 5002 := by
  obtain ⟨r, r1, r2⟩ := P.r_Digits_sp hs h.2
  exact ⟨r, Ev.step (fun k => isochroneref01_Digits_eq k s) r1, r2⟩
theorem canR10 : P.Can RR [10] 10 := ⟨Dg.mk (by decide) (by decide) (Dg.nil _), fun h => by simp, by decide⟩
section
variable {v w r2 : RatD} {p q : Rat} {K L : Nat}
theorem refp_j3 {neg : Bool} {x y : List Int} {n d : Int} (hx : P.Can RR x n) (hy : P.Can RR y d) (hd : 0 < d) (lx : x.length ≤ 100000) (ly : y.length ≤ 100000) : ∃ r, Ev (fun k => isochroneref02_Parse.j3 k neg x y r2) (r, 0, ()) ∧ RB RR r (Rat.divInt (sg neg n) d) := by
  obtain ⟨r, h1, h2⟩ := ref_Make_sp (s := neg) (by omega) (by omega) hx hy hd
  exact ⟨r, Ev.bind h1 (evs _), h2⟩
theorem refp_mark (neg : Bool) (s : ByteArray) (hs : s.size ≤ 200) {p : Nat} {c : Int} (hm : MarkAt s p c) : ∃ r e, Ev (fun k => isochroneref02_Parse.j1 k s neg (p : Int) c r2) (r, e, ()) ∧ Out RR neg s r e := by
  have hp := hm.1
  have hc := hm.2.2.1
  have hh := head_size (s := s) (p := p) (by omega)
  have ht := tail_size (s := s) (p := p) hp
  obtain ⟨h1, h2⟩ := s_Decimal' (head s p) (by omega)
  obtain ⟨t1, t2⟩ := s_Decimal' (tail s p) (by omega)
  have e1 : s.extract 0 (Int.toNat (p : Int)) = head s p := by rw [Int.toNat_natCast]; rfl
  have e0 : wrap64 ((p : Int) + 1) = ((p + 1 : Nat) : Int) := by rw [w64 (by omega) (by omega)]; omega
  have e2 : s.extract (Int.toNat (wrap64 ((p : Int) + 1))) s.size = tail s p := by rw [e0, Int.toNat_natCast]; rfl
  have c0 : (c != (0 : Int)) = true := by simp; omega
  unfold isochroneref02_Parse.j1
  rw [e1, e2, e0]
  by_cases c1 : Dec (head s p)
  · by_cases c2 : Dec (tail s p)
    · have first : ∀ {r : RatD} {e : Int}, Ev (fun k => (isochroneref01_Digits k (head s p)).bind fun (v7 : List Int) => bif c == (47 : Int) then if 0 ≤ ((p + 1 : Nat) : Int) ∧ ((p + 1 : Nat) : Int) ≤ (s.size : Int) then (isochroneref01_Digits k (tail s p)).bind fun (v8 : List Int) => bif (List.length v8 : Int) == (0 : Int) then some ((false, [], [], ()), (20 : Int), ()) else isochroneref02_Parse.j2 k s neg (p : Int) c v7 v8 r2 else none else isochroneref02_Parse.j2 k s neg (p : Int) c v7 ([(1 : Int)]) r2) (r, e, ()) → Out RR neg s r e → ∃ r e, Ev (fun k => if 0 ≤ (p : Int) ∧ (p : Int) ≤ (s.size : Int) then (isochroneref01_Decimal k (head s p)).bind fun (v3 : Bool) => (bif !v3 then some true else (bif c != (0 : Int) then if 0 ≤ ((p + 1 : Nat) : Int) ∧ ((p + 1 : Nat) : Int) ≤ (s.size : Int) then (isochroneref01_Decimal k (tail s p)).bind fun (v4 : Bool) => some (!v4) else none else some false).bind fun (b5 : Bool) => some b5).bind fun (b6 : Bool) => bif b6 then some ((false, [], [], ()), (90 : Int), ()) else if 0 ≤ (p : Int) ∧ (p : Int) ≤ (s.size : Int) then (isochroneref01_Digits k (head s p)).bind fun (v7 : List Int) => bif c == (47 : Int) then if 0 ≤ ((p + 1 : Nat) : Int) ∧ ((p + 1 : Nat) : Int) ≤ (s.size : Int) then (isochroneref01_Digits k (tail s p)).bind fun (v8 : List Int) => bif (List.length v8 : Int) == (0 : Int) then some ((false, [], [], ()), (20 : Int), ()) else isochroneref02_Parse.j2 k s neg (p : Int) c v7 v8 r2 else none else isochroneref02_Parse.j2 k s neg (p : Int) c v7 ([(1 : Int)]) r2 else none else none) (r, e, ()) ∧ Out RR neg s r e := fun {r e} h g =>
        ⟨r, e, iT (by omega) (Ev.bind (h1 c1) (Ev.bind (a := false) (bF rfl (Ev.bind (a := false) (bT c0 (iT (by omega) (Ev.bind (t1 c2) (evs _)))) (evs _))) (bF rfl (iT (by omega) h)))), g⟩
      obtain ⟨x, x1, x2, x3⟩ := s_Digits (head s p) (by omega) c1
      rcases hc with hc | hc
      · subst hc
        obtain ⟨y, y1, y2, y3⟩ := s_Pow (a := [10]) (by simp) canR10 (tail s p).size (by omega)
        have dd : Dec (head s p ++ tail s p) := by
          refine ⟨by rw [ByteArray.size_append]; have := c1.1; omega, fun i hi => ?_⟩
          rw [ByteArray.size_append] at hi
          unfold Dig
          rw [bt_app]
          split
          · exact c1.2 i (by assumption)
          · exact c2.2 _ (by omega)
        obtain ⟨z, z1, z2, z3⟩ := s_Digits (head s p ++ tail s p) (by rw [ByteArray.size_append]; omega) dd
        have ez : sv (head s p ++ tail s p) (head s p ++ tail s p).size = sv (head s p) (head s p).size * 10 ^ (tail s p).size + sv (tail s p) (tail s p).size := by
          rw [ByteArray.size_append]
          exact sv_app _ _ _ (Nat.le_refl _)
        rw [ez] at z2
        obtain ⟨r, r1, r3⟩ := refp_j3 (neg := neg) (r2 := r2) z2 y2 (Int.pow_pos (by decide)) (by omega) (by omega)
        refine first (Ev.bind x1 (bF rfl ?_)) (out_mark hm ⟨fun h => absurd ⟨c1, c2⟩ h, fun _ _ => ⟨fun h => by omega, fun _ => ⟨rfl, r3⟩⟩⟩)
        unfold isochroneref02_Parse.j2
        rw [e1, e2, e0]
        refine bT rfl (iT (by omega) (iT (by omega) (iT (by omega) (Ev.bind z1 ?_))))
        rw [show wrap64 (wrap64 ((s.size : Int) - (p : Int)) - 1) = (((tail s p).size : Nat) : Int) by rw [w64 (x := (s.size : Int) - (p : Int)) (by omega) (by omega), w64 (by omega) (by omega)]; omega]
        exact Ev.bind y1 r1
      · subst hc
        obtain ⟨y, y1, y2, y3⟩ := s_Digits (tail s p) (by omega) c2
        by_cases z : sv (tail s p) (tail s p).size = 0
        · have tl := len_eq RR_pos y2 z
          exact first (r := nothing) (e := 20) (Ev.bind x1 (bT rfl (iT (by omega) (Ev.bind y1 (bT (by rw [tl]; rfl) (evs _)))))) (out_mark hm ⟨fun h => absurd ⟨c1, c2⟩ h, fun _ _ => ⟨fun _ => ⟨fun _ => ⟨rfl, rfl⟩, fun h => absurd z h⟩, fun h => by omega⟩⟩)
        · have z0 := sv_nonneg c2
          obtain ⟨r, r1, r3⟩ := refp_j3 (neg := neg) (r2 := r2) x2 y2 (by omega) (by omega) (by omega)
          exact first (Ev.bind x1 (bT rfl (iT (by omega) (Ev.bind y1 (bF (len_ne RR_pos y2 z) (bF rfl r1)))))) (out_mark hm ⟨fun h => absurd ⟨c1, c2⟩ h, fun _ _ => ⟨fun _ => ⟨fun h => absurd h z, fun _ => ⟨rfl, r3⟩⟩, fun h => by omega⟩⟩)
    · exact ⟨nothing, 90, iT (by omega) (Ev.bind (h1 c1) (Ev.bind (a := true) (bF rfl (Ev.bind (a := true) (bT c0 (iT (by omega) (Ev.bind (t2 c2) (evs _)))) (evs _))) (bT rfl (evs _)))), out_mark hm ⟨fun _ => ⟨rfl, rfl⟩, fun _ h => absurd h c2⟩⟩
  · exact ⟨nothing, 90, iT (by omega) (Ev.bind (h2 c1) (Ev.bind (a := true) (bT rfl (evs _)) (bT rfl (evs _)))), out_mark hm ⟨fun _ => ⟨rfl, rfl⟩, fun h => absurd h c1⟩⟩
theorem refp_none (neg : Bool) (s : ByteArray) (hs : s.size ≤ 200) (hn : NoMark s) : ∃ r e, Ev (fun k => isochroneref02_Parse.j1 k s neg (s.size : Int) 0 r2) (r, e, ()) ∧ Out RR neg s r e := by
  obtain ⟨h1, h2⟩ := s_Decimal' s (by omega)
  have e1 : s.extract 0 (Int.toNat (s.size : Int)) = s := by rw [Int.toNat_natCast]; exact ByteArray.extract_zero_size
  unfold isochroneref02_Parse.j1
  rw [e1]
  by_cases c1 : Dec s
  · obtain ⟨x, x1, x2, x3⟩ := s_Digits s (by omega) c1
    obtain ⟨r, r1, r3⟩ := refp_j3 (neg := neg) (r2 := r2) x2 (can1 RR_one) (by decide) (by omega) (by simp)
    exact ⟨r, 0, iT (by omega) (Ev.bind (h1 c1) (Ev.bind (a := false) (bF rfl (Ev.bind (a := false) (bF rfl (evs _)) (evs _))) (bF rfl (iT (by omega) (Ev.bind x1 (bF rfl (bF rfl r1))))))), out_none hn ⟨fun _ => ⟨rfl, r3⟩, fun h => absurd c1 h⟩⟩
  · exact ⟨nothing, 90, iT (by omega) (Ev.bind (h2 c1) (Ev.bind (a := true) (bT rfl (evs _)) (bT rfl (evs _)))), out_none hn ⟨fun h => absurd h c1, fun _ => ⟨rfl, rfl⟩⟩⟩
theorem refp_l0 (neg : Bool) (s : ByteArray) (hs : s.size ≤ 200) (d : Nat) : ∀ i : Nat, s.size - i = d → i ≤ s.size → (∀ j, j < i → bt s (j : Int) ≠ 46 ∧ bt s (j : Int) ≠ 47) → ∃ r e, Ev2 (fun k m => isochroneref02_Parse.l0 k m s neg (s.size : Int) 0 (s.size : Int) (i : Int) r2) (r, e, ()) ∧ Out RR neg s r e := by
  induction d with
  | zero =>
    intro i h1 h2 h3
    obtain ⟨r, e, r1, r3⟩ := refp_none (r2 := r2) neg s hs fun j hj => h3 j (by omega)
    exact ⟨r, e, Ev2.step (fun k m => isochroneref02_Parse.l0_succ k m _ _ _ _ _ _ _) (Ev2.bF (decide_eq_false (by omega)) (Ev2.of r1)), r3⟩
  | succ d ih =>
    intro i h1 h2 h3
    have hi : i < s.size := by omega
    by_cases c : bt s (i : Int) = 46 ∨ bt s (i : Int) = 47
    · obtain ⟨r, e, r1, r3⟩ := refp_mark (r2 := r2) neg s hs ⟨hi, rfl, c, h3⟩
      refine ⟨r, e, Ev2.step (fun k m => isochroneref02_Parse.l0_succ k m _ _ _ _ _ _ _) (Ev2.bT (decide_eq_true (by omega)) (Ev2.iT (by omega) (Ev2.bind (a := true) ?_ (Ev2.bT rfl (Ev2.iT (by omega) (Ev2.of r1)))))), r3⟩
      by_cases e : bt s (i : Int) = 47
      · exact bT (beq_iff_eq.2 e) (evs _)
      · refine bF (beq_false_of_ne e) (iT (by omega) ?_)
        have : (bt s (i : Int) == (46 : Int)) = true := beq_iff_eq.2 (by omega)
        rw [this]
        exact evs _
    · obtain ⟨r, e, r1, r3⟩ := ih (i + 1) (by omega) (by omega) fun j hj => by
        by_cases e : j = i
        · subst e; omega
        · exact h3 j (by omega)
      refine ⟨r, e, Ev2.step (fun k m => isochroneref02_Parse.l0_succ k m _ _ _ _ _ _ _) (Ev2.bT (decide_eq_true (by omega)) (Ev2.iT (by omega) (Ev2.bind (a := false) ?_ (Ev2.bF rfl ?_)))), r3⟩
      · refine bF (beq_false_of_ne (by omega)) (iT (by omega) ?_)
        have : (bt s (i : Int) == (46 : Int)) = false := beq_false_of_ne (by omega)
        rw [this]
        exact evs _
      · rw [w64 (x := (i : Int) + 1) (by omega) (by omega)]
        exact r1
theorem ref_Parse_sp (s : ByteArray) (hs : s.size ≤ 200) : ∃ r e, Ev (fun k => isochroneref02_Parse k s) (r, e, ()) ∧ Out RR (signed s) (unsign s) r e := by
  have hu := unsign_size s
  obtain ⟨r, e, r1, r3⟩ := refp_l0 (r2 := nothing) (signed s) (unsign s) (by omega) _ 0 rfl (by omega) fun j hj => absurd hj (Nat.not_lt_zero _)
  have h1 : Ev (fun k => bif !(s.toList == (⟨#[]⟩ : ByteArray).toList) then if 0 ≤ (0 : Int) ∧ (0 : Int) < (s.size : Int) then some ((bt s (0 : Int)) == (45 : Int)) else none else some false) (signed s) := by
    rw [ba_list_eq]
    by_cases c : 0 < s.size
    · have ne : decide (s = (⟨#[]⟩ : ByteArray)) = false := decide_eq_false fun h => by rw [h] at c; exact absurd c (Nat.lt_irrefl _)
      refine bT (by rw [ne]; rfl) (iT (by omega) ?_)
      have : (bt s 0 == (45 : Int)) = signed s := by
        unfold signed
        rw [Bool.eq_iff_iff, beq_iff_eq, decide_eq_true_eq]
        exact ⟨fun h => ⟨c, h⟩, fun h => h.2⟩
      rw [this]
      exact evs _
    · have ne : decide (s = (⟨#[]⟩ : ByteArray)) = true := decide_eq_true (ba_ext (by show s.size = 0; omega) fun i hi => absurd hi (by omega))
      have sn : signed s = false := decide_eq_false fun h => c h.1
      rw [sn]
      exact bF (by rw [ne]; rfl) (evs _)
  refine ⟨r, e, Ev.step (fun k => isochroneref02_Parse_eq k s) (Ev.bind h1 ?_), r3⟩
  have r1d := r1.diag
  by_cases c : 0 < s.size ∧ bt s 0 = 45
  · have sn : signed s = true := decide_eq_true c
    have e1 : unsign s = s.extract ((1 : Int)).toNat s.size := if_pos c
    rw [sn] at r1d ⊢
    rw [e1] at r1d
    exact bT rfl (iT (by omega) r1d)
  · have sn : signed s = false := decide_eq_false c
    have e1 : unsign s = s := if_neg c
    rw [sn] at r1d ⊢
    rw [e1] at r1d
    exact bF rfl r1d
theorem out_cmp {neg : Bool} {s : ByteArray} {r r' : RatD} {e e' : Int} (h : Out WW neg s r e) (g : Out RR neg s r' e') : e = e' ∧ (e ≠ 0 → r = nothing) ∧ (e = 0 → ∃ q, RB WW r q ∧ RB RR r' q) := by
  rcases mark_or s with n | ⟨p, c, m⟩
  · obtain ⟨h1, h2⟩ := h.1 n
    obtain ⟨g1, g2⟩ := g.1 n
    by_cases d : Dec s
    · obtain ⟨rfl, h4⟩ := h1 d
      obtain ⟨rfl, g4⟩ := g1 d
      exact ⟨rfl, fun h => absurd rfl h, fun _ => ⟨_, h4, g4⟩⟩
    · obtain ⟨rfl, h4⟩ := h2 d
      obtain ⟨rfl, g4⟩ := g2 d
      exact ⟨rfl, fun _ => h4, fun h => by omega⟩
  · obtain ⟨h1, h2⟩ := h.2 p c m
    obtain ⟨g1, g2⟩ := g.2 p c m
    by_cases d : Dec (head s p) ∧ Dec (tail s p)
    · obtain ⟨h3, h4⟩ := h2 d.1 d.2
      obtain ⟨g3, g4⟩ := g2 d.1 d.2
      rcases m.2.2.1 with hc | hc
      · obtain ⟨rfl, h5⟩ := h4 hc
        obtain ⟨rfl, g5⟩ := g4 hc
        exact ⟨rfl, fun h => absurd rfl h, fun _ => ⟨_, h5, g5⟩⟩
      · obtain ⟨h5, h6⟩ := h3 hc
        obtain ⟨g5, g6⟩ := g3 hc
        by_cases z : sv (tail s p) (tail s p).size = 0
        · obtain ⟨rfl, h7⟩ := h5 z
          obtain ⟨rfl, g7⟩ := g5 z
          exact ⟨rfl, fun _ => h7, fun h => by omega⟩
        · obtain ⟨rfl, h7⟩ := h6 z
          obtain ⟨rfl, g7⟩ := g6 z
          exact ⟨rfl, fun h => absurd rfl h, fun _ => ⟨_, h7, g7⟩⟩
    · obtain ⟨rfl, h4⟩ := h1 d
      obtain ⟨rfl, g4⟩ := g1 d
      exact ⟨rfl, fun _ => h4, fun h => by omega⟩
theorem pow3 {a b : Int} (ha : 0 ≤ a) (h : a ≤ b ^ 3) (hb : 0 < b) (k : Nat) : a ^ k ≤ b ^ (3 * k) := by
  induction k with
  | zero => simp
  | succ k ih =>
    have e : b ^ (3 * (k + 1)) = b ^ (3 * k) * b ^ 3 := by rw [← Int.pow_add]; rfl
    rw [e, Int.pow_succ]
    exact Int.mul_le_mul ih h ha (Int.le_of_lt (Int.pow_pos hb))
theorem sz_ww_rr (h : Sz WW 4096 q) : Sz RR 12288 q := by
  have h2 := pow3 (a := WW) (b := RR) (by decide) (by decide) RR_pos 4096
  exact ⟨Int.lt_of_lt_of_le h.1 h2, Int.lt_of_lt_of_le h.2 h2⟩
theorem txt_dec {n : Int} {s : ByteArray} (h : Txt n s) : Dec s ∧ sv s s.size = n := by
  rcases h with ⟨rfl, rfl⟩ | ⟨h0, D, d1, d2, d3, rfl⟩
  · have hb : bt (⟨#[48]⟩ : ByteArray) 0 = 48 := bytes1_bt 48 (by decide) (by decide)
    refine ⟨⟨Nat.zero_lt_one, fun p hp => ?_⟩, ?_⟩
    · have : p = 0 := Nat.lt_one_iff.1 hp
      subst this
      unfold Dig
      rw [show ((0 : Nat) : Int) = 0 from rfl, hb]
      omega
    · show 0 * 10 + (bt (⟨#[48]⟩ : ByteArray) 0 - 48) = 0
      rw [hb]
      rfl
  · obtain ⟨a1, a2, a3⟩ := P.asc_all d1
    have : D.length ≠ 0 := fun h => d2 (List.length_eq_zero_iff.1 h)
    exact ⟨⟨by omega, a2⟩, a3⟩
theorem s_Text {a : List Int} {n : Int} {s : ByteArray} (hl : a.length < 68719476736) (ha : P.Can RR a n) (ht : Txt n s) : Ev (fun k => isochroneref01_Text k a) s := by
  refine Ev.step (fun k => isochroneref01_Text_eq k a) ?_
  rcases ht with ⟨rfl, rfl⟩ | ⟨h0, D, d1, d2, d3, rfl⟩
  · obtain rfl := len_eq RR_pos ha rfl
    unfold P.isochroneref01_Text.f
    exact P.evp (by simp) (evs _)
  · exact P.r_Text_sp hl ha d1 h0
theorem ref_Text_sp (hv : RB RR v p) (hp : Sz RR K p) (h : K < 1000000) {t : ByteArray} (ht : RTxt p t) : Ev (fun k => isochroneref02_Text k v) t := by
  obtain ⟨l1, l2⟩ := sz_len RR_one hv hp
  obtain ⟨n, d, h1, h2, rfl⟩ := ht
  have sn := h1.size
  have n1 := s_Text (by omega) hv.2.1 h1
  have c1 := s_Cmp (by omega) hv.2.2 (can1 RR_one)
  have fin : ∀ x : ByteArray, x.size ≤ 600 → Ev (fun k => isochroneref02_Text.j0 k x v) (x ++ (if p.den = 1 then (⟨#[]⟩ : ByteArray) else (⟨#[47]⟩ : ByteArray) ++ d)) := fun x hx => by
    refine Ev.bind c1 ?_
    by_cases c : p.den = 1
    · rw [if_pos c, ba_empty]
      refine bF ?_ (evs _)
      rw [c]
      rfl
    · rw [if_neg c]
      have sd := (h2 c).size
      have hne : (cmpi (p.den : Int) 1 != 0) = true := by
        have := cmpi_beq (p.den : Int) 1
        rw [bne, this, decide_eq_false (by omega)]
        rfl
      have s1 : (⟨#[47]⟩ : ByteArray).size = 1 := rfl
      exact bT hne (Ev.bind (s_Text (by omega) hv.2.2 (h2 c)) (iT (by omega) (iT (by rw [ByteArray.size_append]; omega) (evs _))))
  refine Ev.step (fun k => isochroneref02_Text_eq k v) (Ev.bind n1 ?_)
  rw [hv.1]
  have s1 : (⟨#[45]⟩ : ByteArray).size = 1 := rfl
  cases decide (p.num < 0) with
  | true => exact bT rfl (iT (by omega) (fin _ (by rw [ByteArray.size_append]; omega)))
  | false => exact bF rfl (fin _ (by omega))
theorem text_back {t : ByteArray} (ht : RTxt p t) : t.size ≤ 20000 ∧ ∀ {r : RatD} {e : Int}, Out WW (signed t) (unsign t) r e → e = 0 ∧ RB WW r p := by
  obtain ⟨n, d, h1, h2, ht⟩ := ht
  have sn := h1.size
  obtain ⟨dn, vn⟩ := txt_dec h1
  have s1 : (⟨#[45]⟩ : ByteArray).size = 1 := rfl
  have s2 : (⟨#[47]⟩ : ByteArray).size = 1 := rfl
  have s3 : (⟨#[]⟩ : ByteArray).size = 0 := rfl
  have b45 : bt (⟨#[45]⟩ : ByteArray) ((0 : Nat) : Int) = 45 := bytes1_bt 45 (by decide) (by decide)
  have b47 : bt (⟨#[47]⟩ : ByteArray) ((0 : Nat) : Int) = 47 := bytes1_bt 47 (by decide) (by decide)
  generalize hu : n ++ (if p.den = 1 then (⟨#[]⟩ : ByteArray) else (⟨#[47]⟩ : ByteArray) ++ d) = u at *
  have hsize : u.size ≤ 1200 := by
    rw [← hu]
    split
    · rw [ByteArray.size_append]; omega
    · rename_i c
      have := (h2 c).size
      rw [ByteArray.size_append, ByteArray.size_append]; omega
  have hub : ∀ i : Nat, i < n.size → bt u (i : Int) = bt n (i : Int) := fun i hi => by rw [← hu, bt_app, if_pos hi]
  have hus : n.size ≤ u.size := by rw [← hu, ByteArray.size_append]; omega
  have hsu : signed t = decide (p.num < 0) ∧ unsign t = u := by
    by_cases c : p.num < 0
    · have et : t = (⟨#[45]⟩ : ByteArray) ++ u := by
        rw [ht, decide_eq_true c, ← hu, ← ByteArray.append_assoc]
        rfl
      have cond : 0 < t.size ∧ bt t 0 = 45 := by
        refine ⟨by rw [et, ByteArray.size_append]; omega, ?_⟩
        have : bt t ((0 : Nat) : Int) = 45 := by rw [et, bt_app, if_pos (by omega)]; exact b45
        exact this
      refine ⟨(decide_eq_true cond).trans (decide_eq_true c).symm, ?_⟩
      unfold unsign
      rw [if_pos cond]
      refine ba_ext ?_ fun i hi => ?_
      · rw [ByteArray.size_extract, et, ByteArray.size_append]; omega
      · rw [ByteArray.size_extract] at hi
        rw [bt_ext (by omega), et, bt_app, if_neg (by omega), show 1 + i - (⟨#[45]⟩ : ByteArray).size = i by omega]
    · have et : t = u := by
        rw [ht, decide_eq_false c, ← hu]
        rfl
      have cond : ¬ (0 < t.size ∧ bt t 0 = 45) := fun h => by
        have h0 := dn.1
        have := hub 0 h0
        rw [← et] at this
        exact dig_ne (dn.2 0 h0) (c := 45) (by omega) (this.symm.trans h.2)
      refine ⟨(decide_eq_false cond).trans (decide_eq_false c).symm, ?_⟩
      unfold unsign
      rw [if_neg cond, et]
  have hts : t.size ≤ 20000 := by
    rw [ht]
    cases decide (p.num < 0) with
    | true =>
      show ((⟨#[45]⟩ : ByteArray) ++ n ++ _).size ≤ _
      rw [ByteArray.append_assoc, hu, ByteArray.size_append]; omega
    | false =>
      show (n ++ _).size ≤ _
      rw [hu]; omega
  refine ⟨hts, fun {r e} ho => ?_⟩
  rw [hsu.1, hsu.2] at ho
  have hval : Rat.divInt (sg (decide (p.num < 0)) (p.num.natAbs : Int)) p.den = p := by
    have : sg (decide (p.num < 0)) (p.num.natAbs : Int) = p.num := by
      unfold sg
      by_cases c : p.num < 0
      · rw [if_pos (decide_eq_true c)]; omega
      · rw [if_neg (by simpa using c)]; omega
    rw [this, Rat.num_divInt_den]
  by_cases c : p.den = 1
  · have eu : u = n := by rw [← hu, if_pos c, ba_empty]
    rw [eu] at ho
    have hn : NoMark n := fun i hi => ⟨dig_ne (dn.2 i hi) (by omega), dig_ne (dn.2 i hi) (by omega)⟩
    obtain ⟨h3, _⟩ := ho.1 hn
    obtain ⟨h4, h5⟩ := h3 dn
    rw [vn] at h5
    have : ((p.den : Nat) : Int) = 1 := by omega
    rw [this] at hval
    rw [hval] at h5
    exact ⟨h4, h5⟩
  · obtain ⟨dd, vd⟩ := txt_dec (h2 c)
    rw [if_neg c] at hu
    have us : u.size = n.size + 1 + d.size := by rw [← hu, ByteArray.size_append, ByteArray.size_append]; omega
    have hm : MarkAt u n.size 47 := by
      refine ⟨by omega, ?_, .inr rfl, fun i hi => ?_⟩
      · rw [← hu, bt_app, if_neg (by omega), Nat.sub_self, bt_app, if_pos (by omega)]; exact b47
      · rw [hub i hi]
        exact ⟨dig_ne (dn.2 i hi) (by omega), dig_ne (dn.2 i hi) (by omega)⟩
    have eh : head u n.size = n := by
      refine ba_ext (head_size (by omega)) fun i hi => ?_
      rw [head_size (by omega)] at hi
      rw [head_bt (by omega) hi, hub i hi]
    have et : tail u n.size = d := by
      refine ba_ext (by rw [tail_size (by omega)]; omega) fun i hi => ?_
      rw [tail_size (by omega)] at hi
      rw [tail_bt (by omega), ← hu, bt_app, if_neg (by omega), bt_app, if_neg (by omega)]
      congr 1
      omega
    obtain ⟨_, h3⟩ := ho.2 _ _ hm
    rw [eh, et] at h3
    obtain ⟨h4, _⟩ := h3 dn dd
    obtain ⟨_, h5⟩ := h4 rfl
    rw [vn, vd] at h5
    obtain ⟨h6, h7⟩ := h5 (by have := p.den_pos; omega)
    rw [hval] at h7
    exact ⟨h6, h7⟩
theorem law_RatTexts {s : ByteArray} (hv : Arg v) (hs : s.size ≤ maxLen) : Ev (fun k => isochronelaw02_RatTexts k v s) true := by
  refine Ev.step (fun k => isochronelaw02_RatTexts_eq k v s) <| Ev.bind awake_ev <| bF rfl ?_
  obtain ⟨t, t1, t2⟩ := small_sp 6 hv hv
  refine Ev.bind t1 ?_
  cases t with
  | false => exact bT rfl (evs _)
  | true =>
    refine bF rfl ?_
    obtain ⟨p, _, hp, _, sp, _, sp', _⟩ := t2 rfl
    obtain ⟨x, x1, x2, x3⟩ := ref_Of_sp hp sp (by omega)
    obtain ⟨t, y1, y2⟩ := rat_Text_sp hp sp (by omega)
    obtain ⟨b1, b2⟩ := text_back y2
    obtain ⟨r, e, r1, r2, r3⟩ := rat_Parse_sp t b1
    obtain ⟨rfl, r4⟩ := b2 r2
    obtain rfl := rb_uniq WW_pos r4 hp
    have rt := ref_Text_sp x2 x3 (by omega) y2
    obtain ⟨l1, l2⟩ := sz_len WW_one hp sp
    have same := ref_Same_sp r r (by omega) (by omega)
    rw [decide_eq_true rfl] at same
    refine Ev.bind y1 <| Ev.bind r1 <| Ev.bind (a := false) (bF rfl (evs _)) <| Ev.bind (a := false) (bF rfl (Ev.bind x1 (Ev.bind rt (by simp only [beq_self_eq_true]; exact evs _)))) <| Ev.bind (a := false) (bF rfl (Ev.bind same (evs _))) <| bF rfl ?_
    by_cases big : s.size > 20000
    · have d : Ev (fun k => rat_Parse k s) (nothing, 2, ()) := Ev.step (fun k => rat_Parse_eq k s) (bT (decide_eq_true (by omega)) (evs _))
      exact Ev.bind d <| bT (decide_eq_true (by omega)) <| Ev.bind (a := true) (bT rfl (Ev.bind ref_None_ev (evs _))) (evs _)
    · obtain ⟨q, e, q1, q2, q3⟩ := rat_Parse_sp s (by omega)
      refine Ev.bind q1 <| bF (decide_eq_false (by omega)) ?_
      by_cases mid : s.size > 200
      · exact bT (decide_eq_true (by omega)) (evs _)
      · refine bF (decide_eq_false (by omega)) ?_
        obtain ⟨q', e', p1, p2⟩ := ref_Parse_sp s (by omega)
        obtain ⟨rfl, c1, c2⟩ := out_cmp q2 p2
        refine Ev.bind p1 ?_
        by_cases z : e = 0
        · subst z
          obtain ⟨u, u1, u2⟩ := c2 rfl
          have hi := ref_Is_sp u1 u2 (sz_ww_rr (sz_of WW_pos u1 q3.1 q3.2)) (by omega) (by have := q3.1; omega) (by have := q3.2; omega)
          exact bF rfl <| Ev.bind (a := true) (bT rfl (Ev.bind hi (evs _))) (evs _)
        · obtain rfl := c1 z
          exact bT (by simp; exact z) <| Ev.bind (a := true) (bT (by simp) (Ev.bind ref_None_ev (evs _))) (evs _)
end
end Go.Proofs.Ytfpolhoabfadnaa.Q
end
section
namespace Go.Proofs.Ytfpolhoabfadnaa.ratTexts
open Go.ChangeShapes Go.WideShapes Go.ChangeAt Go.RowKit
open Go.ChangeMaps (open_string shut_string)
open Go.Proofs.Ytfpolhoabfadnaa.V Go.Proofs.Ytfpolhoabfadnaa.E
theorem own : ownKnob Try.prog.godebug = none := by kernel_rfl
theorem laidOut : laidOutB Try.prog = true := by kernel_rfl
set_option maxRecDepth 100000 in
theorem lifted (os : Os) (started : os.Started) (H : Type) (enc : TypeId × Value → H) :
    ReturnsInHanded {} Try.checked os 9 .any (Rows.ratTextsSpec.pre6 enc Try.prog Try.f9 Rows.ratTextsRow.domain false) (Rows.ratTextsSpec.post enc Try.prog Try.f9 false true false false) := by
  refine returnsInHanded_of_change_sized (C := Try.checked) own started (by kernel_rfl) Try.func9
    (ChangeSpec.witness6 (enc := enc) (C := Try.checked) false ⟨#[], #[.agg #[.bool false, .slice none 0 0, .slice none 0 0], .string ⟨#[]⟩], []⟩ 8 (by kernel_rfl) (by kernel_rfl) (by kernel_rfl) (by kernel_rfl)) ?_
  intro W base args ds gs before hval0 hW hcnd hsz0 _
  have hval : ∀ (j : Nat) t v, Try.f9.params[j]? = some t → args[j]? = some v → Value.okWide Try.prog W .any base t v := hval0
  have hW' := hW
  obtain ⟨p, q, hA0, hV, rfl, hfz, hnd⟩ := hW
  have hA : DataW.TrodAll enc Try.prog W 0 (fun _ => true) true Try.f9.params.toList args.toList ds p := hA0
  rw [Try.params9] at hA hval
  obtain ⟨v0, vs0, d0, ds0, p0, q0, hargs, rfl, rfl, h0, r0⟩ := trodAll_cons hA
  obtain ⟨v1, vs1, d1, ds1, p1, q1, rfl, rfl, rfl, h1, r1⟩ := trodAll_cons r0
  obtain ⟨rfl, rfl, rfl⟩ := trodAll_nil r1
  obtain rfl : args = #[v0, v1] := by cases args; simp_all
  obtain ⟨rfl, rfl⟩ := trodVars_none hV
  have k0 := h0
  have lt0 : ∀ x ∈ p0, x.block < W.heap.size := by obtain ⟨m, hm⟩ := k0; exact DataW.trod_lt m _ _ _ hm
  obtain ⟨y0, f0, g0⟩ := arg_den Q.tab_ok (n := 8) (t := 25) (c := c_api_Rat) (by kernel_rfl) (by kernel_rfl) (hval 0 25 v0 rfl rfl) h0
  have k1 := h1
  have lt1 : ∀ x ∈ p1, x.block < W.heap.size := by obtain ⟨m, hm⟩ := k1; exact DataW.trod_lt m _ _ _ hm
  obtain ⟨y1, f1, g1⟩ := arg_den Q.tab_ok (n := 8) (t := 9) (c := .str) (by kernel_rfl) (by kernel_rfl) (hval 1 9 v1 rfl rfl) h1
  clear hA0 hval0 hsz0
  obtain ⟨k, hk⟩ := (Q.law_RatTexts (Q.arg_rat f0) (Q.arg_str f1)).rounds
  obtain ⟨_, pv, hp, hF⟩ := (fn_sound Q.tab_ok orc_ok Q.mixed Q.noGo k).fn 9 [.v c_api_Rat y0, .v .str y1] true rfl hk
  obtain rfl := Option.some.inj hp
  refine (hF (fun b => b < W.heap.size) W #[v0, v1] (fun b h => h) rfl (fun i h => ?_)).mono fun e W' ⟨v, he, bel, hv⟩ => ?_
  · match i, h with
    | 0, h => exact g0
    | 1, h => exact g1
    | i + 2, h => exact absurd h (by simp only [List.length_map, List.length_cons, List.length_nil]; omega)
  · have hb := vrel_lit hv
    subst hb
    subst he
    exact ⟨_, rfl, _, _, _, [], _, [], hW', trodAll_mk1 (shut_bool Try.underlying4 _), (trodAll_cons_mk (Below.trod laidOut (by kernel_rfl) (of_decide_eq_true (by kernel_rfl)) k0 bel lt0) (trodAll_cons_mk (Below.trod laidOut (by kernel_rfl) (of_decide_eq_true (by kernel_rfl)) k1 bel lt1) trodAll_mk0)), rfl, bel.frame _, fun h => by cases h⟩
theorem over : Rows.ratTextsRow.holds Try.pinned (OpenSpec.ofChange Rows.ratTextsSpec) :=
  OpenClaim.holds_of_wide 9 Try.f9 rfl rfl rfl rfl rfl rfl rfl ⟨rfl, rfl, rfl, rfl, rfl⟩ rfl rfl rfl rfl rfl (by kernel_rfl) Try.func9 (by kernel_rfl)
    (of_decide_eq_true (by kernel_rfl)) (by unfold Func.isWrapper; first | (rw [if_pos (by decide +kernel)]; kernel_rfl) | (rw [if_neg (by decide +kernel)]; exact ⟨rfl, rfl⟩))
    (fun os started H enc _ => lifted os started H enc)
theorem proved : Rows.RatTextsSaid := over
#print axioms proved
end Go.Proofs.Ytfpolhoabfadnaa.ratTexts
namespace Go.Proofs.Ytfpolhoabfadnaa
theorem ratTexts_holds : Rows.RatTextsSaid := ratTexts.proved
end Go.Proofs.Ytfpolhoabfadnaa
end
