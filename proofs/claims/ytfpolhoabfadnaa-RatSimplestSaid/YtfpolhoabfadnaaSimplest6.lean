/- RatSimplest: the number of an interval with the least denominator, and with the numerator nearest to zero (the last of 6 texts). No condition beyond the statement's own. -/
import Derived.Lib.Bytes
import Derived.SizedLaws
import Derived.ChangeSlices
import Derived.Test.YtfpolhoabfadnaaRows
import Derived.WalkKit
import Derived.ProofKit
import Derived.OpenShut
import Derived.ShutString
import Derived.ChangeOld
import Derived.Below
import Derived.KernelRfl
import Derived.Test.YtfpolhoabfadnaaSimplest5
set_option linter.unusedSimpArgs false
section
namespace Go.Proofs.Ytfpolhoabfadnaa.P
open Go.RowKit Go.Proofs.YtfpolhoabfadnaaW.PrintWords Go.Proofs.YtfpolhoabfadnaaW.PrintLast Go.Proofs.YtfpolhoabfadnaaW.PrintMore
set_option linter.unusedVariables false
def LehmerR (n m : Int) (R : List Int × List Int × Bool) : Prop := R.2.2 = true → ∃ C D, Can WW R.1 C ∧ Can WW R.2.1 D ∧ gI C D = gI n m ∧ D ≤ C ∧ D < m ∧ C ≤ n
theorem lehmer_j2 {a b : List Int} {n m p q r s : Int} (la : a.length < 1073741824) (lb : b.length < 1073741824) (ha : Can WW a n) (hb : Can WW b m)
    (h1 : (0 ≤ p ∧ q ≤ 0) ∨ (p ≤ 0 ∧ 0 ≤ q)) (h2 : (0 ≤ r ∧ s ≤ 0) ∨ (r ≤ 0 ∧ 0 ≤ s))
    (bp : -2147483648 ≤ p ∧ p ≤ 2147483648) (bq : -2147483648 ≤ q ∧ q ≤ 2147483648) (br : -2147483648 ≤ r ∧ r ≤ 2147483648) (bs : -2147483648 ≤ s ∧ s ≤ 2147483648)
    (hA : 0 ≤ p * n + q * m) (hB : 0 ≤ r * n + s * m) (hg : gI (p * n + q * m) (r * n + s * m) = gI n m) (hn : p * n + q * m ≤ n) (hBA : r * n + s * m ≤ p * n + q * m) (hm : q ≠ 0 → r * n + s * m < m) :
    ∃ R, Ev (fun k => mag_lehmer.j2 k a b p q r s) R ∧ LehmerR n m R := by
  by_cases c : q = 0
  · refine ⟨([], [], false), ?_, fun h => by simp at h⟩
    refine Ev.step (fun k => by rw [mag_lehmer.j2]) ?_
    exact evp c (evs _)
  · obtain ⟨x, x1, x2⟩ := combine_sp la lb ha hb h1 (by omega) (by omega) hA
    obtain ⟨y, y1, y2⟩ := combine_sp la lb ha hb h2 (by omega) (by omega) hB
    refine ⟨(x, y, true), ?_, fun _ => ⟨_, _, x2, y2, hg, hBA, hm c, hn⟩⟩
    refine Ev.step (fun k => by rw [mag_lehmer.j2]) ?_
    exact evn c (Ev.bind x1 (Ev.bind y1 (evs _)))
theorem lehmer_l0 {a b : List Int} {n m x y T a' b' : Int} (la : a.length < 1073741824) (lb : b.length < 1073741824) (ha : Can WW a n) (hb : Can WW b m) (hT : 0 < T) (hn : n = T * x + a') (hm : m = T * y + b') (ha' : 0 ≤ a' ∧ a' < T) (hb' : 0 ≤ b' ∧ b' < T) (c : Nat) :
    ∀ p q r s u v : Int, (v + r).toNat = c → u = p * x + q * y → v = r * x + s * y →
    ((0 ≤ p ∧ q ≤ 0 ∧ r ≤ 0 ∧ 0 ≤ s) ∨ (p ≤ 0 ∧ 0 ≤ q ∧ 0 ≤ r ∧ s ≤ 0)) →
    (0 ≤ u + p ∧ u + p ≤ 2147483648) → (0 ≤ u + q ∧ u + q ≤ 2147483648) → (0 ≤ v + r ∧ v + r ≤ 2147483648) → (0 ≤ v + s ∧ v + s ≤ 2147483648) →
    gI (p * n + q * m) (r * n + s * m) = gI n m → r * n + s * m ≤ m → p * n + q * m ≤ n → r * n + s * m ≤ p * n + q * m → (q ≠ 0 → r * n + s * m < m) → m ≤ n →
    ∃ R, Ev (fun k => mag_lehmer.l0 k a b p q r s u v) R ∧ LehmerR n m R := by
  induction c using Nat.strongRecOn with
  | _ c ih =>
    intro p q r s u v hc hu hv hs bp bq br bs hg hBm hAn hBA hq hmn
    have hA : 0 ≤ p * n + q * m := by
      have := lin_ge (p := p) (q := q) (x := x) (y := y) (d := 0) hT ha' hb' (by omega) (by rw [← hu]; omega) (by rw [← hu]; omega)
      rw [hn, hm]; omega
    have hB : 0 ≤ r * n + s * m := by
      have := lin_ge (p := r) (q := s) (x := x) (y := y) (d := 0) hT ha' hb' (by omega) (by rw [← hv]; omega) (by rw [← hv]; omega)
      rw [hn, hm]; omega
    obtain ⟨R0, e1, e2⟩ := lehmer_j2 (p := p) (q := q) (r := r) (s := s) la lb ha hb (by omega) (by omega) (by omega) (by omega) (by omega) (by omega) hA hB hg hAn hBA hq
    have stop : Ev (fun k => mag_lehmer.j1 k a b p q r s u v false) R0 := by
      refine Ev.step (fun k => by rw [mag_lehmer.j1]) ?_
      exact evn (by simp) e1
    by_cases c1 : v + r = 0
    · refine ⟨R0, ?_, e2⟩
      refine Ev.step (fun k => by rw [mag_lehmer.l0]) ?_
      rw [w64 (x := v + r) (by omega) (by omega)]
      exact evp c1 stop
    · by_cases c2 : v + s = 0
      · refine ⟨R0, ?_, e2⟩
        refine Ev.step (fun k => by rw [mag_lehmer.l0]) ?_
        rw [w64 (x := v + r) (by omega) (by omega), w64 (x := v + s) (by omega) (by omega), show (v + s != 0) = false by simp [c2]]
        exact evn c1 stop
      · have step : ∀ R, Ev (fun k => mag_lehmer.j1 k a b p q r s u v true) R → Ev (fun k => mag_lehmer.l0 k a b p q r s u v) R := by
          intro R h
          refine Ev.step (fun k => by rw [mag_lehmer.l0]) ?_
          rw [w64 (x := v + r) (by omega) (by omega), w64 (x := v + s) (by omega) (by omega), show (v + s != 0) = true by simp [c2]]
          exact evn c1 h
        have k0 : 0 ≤ (u + p) / (v + r) := Int.ediv_nonneg (by omega) (by omega)
        have k1 : (u + p) / (v + r) ≤ u + p := Int.ediv_le_self _ (by omega)
        have g0 : 0 ≤ (u + q) / (v + s) := Int.ediv_nonneg (by omega) (by omega)
        have g1 : (u + q) / (v + s) ≤ u + q := Int.ediv_le_self _ (by omega)
        have d1 := Int.mul_ediv_add_emod (u + p) (v + r)
        have d2 := Int.emod_nonneg (u + p) (show v + r ≠ 0 by omega)
        have d3 := Int.emod_lt_of_pos (u + p) (show 0 < v + r by omega)
        have f1 := Int.mul_ediv_add_emod (u + q) (v + s)
        have f2 := Int.emod_nonneg (u + q) (show v + s ≠ 0 by omega)
        have f3 := Int.emod_lt_of_pos (u + q) (show 0 < v + s by omega)
        generalize hk : (u + p) / (v + r) = K at k0 k1 d1
        generalize hk2 : (u + q) / (v + s) = K2 at g0 g1 f1
        generalize (u + p) % (v + r) = w1 at d1 d2 d3
        generalize (u + q) % (v + s) = w2 at f1 f2 f3
        have tests : ∀ R, (K = K2 → Ev (fun k => mag_lehmer.l0 k a b r s (p - K * r) (q - K * s) v (u - K * v)) R) → (K ≠ K2 → Ev (fun k => mag_lehmer.j2 k a b p q r s) R) → Ev (fun k => mag_lehmer.j1 k a b p q r s u v true) R := by
          intro R h1 h2
          refine Ev.step (fun k => by rw [mag_lehmer.j1]) ?_
          have m1 := mul_bound (k := K) (r := r) ⟨k0, by omega⟩ (by omega)
          have m2 := mul_bound (k := K) (r := s) ⟨k0, by omega⟩ (by omega)
          have m3 := mul_bound (k := K) (r := v) ⟨k0, by omega⟩ (by omega)
          rw [w64 (x := v + r) (by omega) (by omega), w64 (x := v + s) (by omega) (by omega), w64 (x := u + p) (by omega) (by omega), w64 (x := u + q) (by omega) (by omega), tdiv_nn (x := u + p) (by omega), tdiv_nn (x := u + q) (by omega), hk, hk2,
            w64 (x := K) (by omega) (by omega), w64 (x := K2) (by omega) (by omega), w64 (x := K * r) (by omega) (by omega), w64 (x := K * s) (by omega) (by omega), w64 (x := K * v) (by omega) (by omega), w64 (x := p - K * r) (by omega) (by omega), w64 (x := q - K * s) (by omega) (by omega), w64 (x := u - K * v) (by omega) (by omega)]
          refine evp rfl (evn c1 (evn c2 ?_))
          by_cases c3 : K = K2
          · exact evp c3 (h1 c3)
          · exact evn c3 (h2 c3)
        by_cases c3 : K = K2
        · subst c3
          have s1 : (u - K * v) + (p - K * r) = w1 := by rw [alg_l4, Int.mul_comm K]; omega
          have s2 : (u - K * v) + (q - K * s) = w2 := by rw [alg_l4, Int.mul_comm K]; omega
          have sg : (0 ≤ r ∧ s ≤ 0 ∧ p - K * r ≤ 0 ∧ 0 ≤ q - K * s) ∨ (r ≤ 0 ∧ 0 ≤ s ∧ 0 ≤ p - K * r ∧ q - K * s ≤ 0) := by
            rcases hs with ⟨t1, t2, t3, t4⟩ | ⟨t1, t2, t3, t4⟩
            · have i1 := Int.mul_nonpos_of_nonneg_of_nonpos k0 t3
              have i2 := Int.mul_nonneg k0 t4
              exact .inr ⟨t3, t4, by omega, by omega⟩
            · have i1 := Int.mul_nonneg k0 t3
              have i2 := Int.mul_nonpos_of_nonneg_of_nonpos k0 t4
              exact .inl ⟨t3, t4, by omega, by omega⟩
          have lt : (p - K * r) * n + (q - K * s) * m < r * n + s * m := by
            have i := lin_ge (p := (K + 1) * r - p) (q := (K + 1) * s - q) (x := x) (y := y) (d := 1) hT ha' hb' (by
              rw [alg_l6, alg_l6]
              omega) (by
              rw [alg_l5 hu hv, alg_l6, Int.mul_comm K]
              omega) (by
              rw [alg_l5 hu hv, alg_l6, Int.mul_comm K]
              omega)
            rw [← hn, ← hm, alg_l3, alg_l6] at i
            rw [alg_l2]
            omega
          obtain ⟨R, r1, r2⟩ := ih (u - K * v + (p - K * r)).toNat (by rw [s1]; omega) r s (p - K * r) (q - K * s) v (u - K * v) rfl hv (alg_l1 hu hv) sg (by omega) (by omega) (by omega) (by omega)
            (by rw [alg_l2, gI_sub]; exact hg) (by omega) (by omega) (by omega) (fun _ => by omega) hmn
          exact ⟨R, step R (tests R (fun _ => r1) (fun h => absurd rfl h)), r2⟩
        · exact ⟨R0, step R0 (tests R0 (fun h => absurd h c3) (fun _ => e1)), e2⟩
theorem lehmer_sp {a b : List Int} {n m : Int} (la : a.length < 1073741824) (lb : b.length < 1073741824) (hb2 : 2 < b.length) (ha : Can WW a n) (hb : Can WW b m) (hmn : m ≤ n) : ∃ R, Ev (fun k => mag_lehmer.f k a b) R ∧ LehmerR n m R := by
  have lba := can_len_le ha hb hmn
  have n0 := ha.nonneg WW_pos
  have m0 := hb.nonneg WW_pos
  have mz := hb.len_iff WW_pos
  have m1 : m ≠ 0 := fun h => by have := mz.2 h; omega
  obtain ⟨A, A1, A2, A3, A4⟩ := mag_Bits_sp (by omega) ha
  obtain ⟨B, B1, B2, B3, B4⟩ := mag_Bits_sp (by omega) hb
  obtain ⟨A5, A6, A7, A8⟩ := A4 (by omega)
  clear A3 A4 B3 B4
  unfold mag_lehmer.f
  rw [A1, B1]
  simp only [Option.bind_some]
  rw [w64 (x := (A : Int) - 20) (by omega) (by omega), w64 (x := (A : Int) - 31) (by omega) (by omega), show (A : Int) - 31 = ((A - 31 : Nat) : Int) by omega]
  by_cases c : (B : Int) < (A : Int) - 20
  · exact ⟨([], [], false), evp c (evs _), fun h => by simp at h⟩
  · obtain ⟨x, x1, x2, x3⟩ := mag_Shr_sp (A - 31) (by omega) (by omega) ha
    obtain ⟨y, y1, y2, y3⟩ := mag_Shr_sp (A - 31) (by omega) (by omega) hb
    have hT := two_pos (A - 31)
    have e : (2 : Int) ^ A = 2 ^ (A - 31) * 2147483648 := by
      rw [show (2147483648 : Int) = 2 ^ 31 by decide, ← Int.pow_add]
      congr 1
      omega
    rw [e] at A6
    clear e A5
    generalize (2 : Int) ^ (A - 31) = T at hT A6 x2 y2
    have q1 : n / T < 2147483648 := Int.ediv_lt_of_lt_mul hT (by rw [Int.mul_comm]; exact A6)
    have q2 : m / T ≤ n / T := Int.ediv_le_ediv hT hmn
    have q3 : 0 ≤ m / T := Int.ediv_nonneg m0 (by omega)
    have hW2 : WW ^ 2 = 18446744073709551616 := by decide
    have sx := mag_Small2_sp x2 (x2.len_le (k := 2) WW_one (by omega))
    have sy := mag_Small2_sp y2 (y2.len_le (k := 2) WW_one (by omega))
    have i1 := Int.emod_nonneg n (show T ≠ 0 by omega)
    have i2 := Int.emod_lt_of_pos n hT
    have i3 := Int.emod_nonneg m (show T ≠ 0 by omega)
    have i4 := Int.emod_lt_of_pos m hT
    have j1 := Int.mul_ediv_add_emod n T
    have j2 := Int.mul_ediv_add_emod m T
    obtain ⟨R, r1, r2⟩ := lehmer_l0 la lb ha hb hT j1.symm j2.symm ⟨i1, i2⟩ ⟨i3, i4⟩ _ 1 0 0 1 (n / T) (m / T) rfl (by omega) (by omega) (by omega) (by omega) (by omega) (by omega) (by omega)
      (by rw [Int.one_mul, Int.zero_mul, Int.zero_mul, Int.one_mul, Int.add_zero, Int.zero_add]) (by omega) (by omega) (by omega) (fun h => absurd rfl h) hmn
    refine ⟨R, evn c (Ev.bind x1 (evb sx (Ev.bind y1 (evb sy ?_)))), r2⟩
    show Ev (fun k => mag_lehmer.l0 k a b 1 0 0 1 (wrap64 (n / T)) (wrap64 (m / T))) R
    rw [w64 (x := n / T) (by omega) (by omega), w64 (x := m / T) (by omega) (by omega)]
    exact r1
theorem mag_gcd_l1 (c : Nat) : ∀ x y : Int, y.toNat = c → 0 ≤ x → x < 18446744073709551616 → 0 ≤ y → y < 18446744073709551616 → ∃ r, Ev (fun k => mag_GCD.l1 k x y) r ∧ Can WW r (gI x y) := by
  induction c using Nat.strongRecOn with
  | _ c ih =>
    intro x y hc x0 x1 y0 y1
    by_cases c1 : y = 0
    · subst c1
      obtain ⟨r, r1, r2⟩ := mag_From_sp x0 x1
      rw [gI_zero x0]
      refine ⟨r, ?_, r2⟩
      refine Ev.step (fun k => by rw [mag_GCD.l1]) ?_
      exact evp rfl (Ev.bind r1 (evs _))
    · have m0 := Int.emod_nonneg x (show y ≠ 0 by omega)
      have m1 := Int.emod_lt_of_pos x (show 0 < y by omega)
      obtain ⟨r, r1, r2⟩ := ih (x % y).toNat (by omega) y (x % y) rfl y0 y1 m0 (by omega)
      rw [gI_mod] at r2
      refine ⟨r, ?_, r2⟩
      refine Ev.step (fun k => by rw [mag_GCD.l1]) ?_
      rw [tmod_nn x0]
      exact evn c1 r1
theorem mag_gcd_l0 (c : Nat) : ∀ (a b : List Int) (n m : Int), m.toNat = c → a.length < 1073741824 → Can WW a n → Can WW b m → m ≤ n → ∃ r, Ev (fun k => mag_GCD.l0 k a b) r ∧ Can WW r (gI n m) := by
  induction c using Nat.strongRecOn with
  | _ c ih =>
    intro a b n m hc la ha hb hmn
    have lba := can_len_le ha hb hmn
    have n0 := ha.nonneg WW_pos
    have m0 := hb.nonneg WW_pos
    have hz := hb.len_iff WW_pos
    have hW2 : WW ^ 2 = 18446744073709551616 := by decide
    by_cases c1 : 2 < b.length
    · have mp : 0 < m := by
        rcases Int.lt_or_le 0 m with h | h
        · exact h
        · have := hz.2 (by omega)
          omega
      obtain ⟨R, r1, r2⟩ := lehmer_sp la (by omega) c1 ha hb hmn
      obtain ⟨x, y, f⟩ := R
      cases f with
      | true =>
        obtain ⟨C, D, s1, s2, s3, s4, s5, s6⟩ := r2 rfl
        have D0 := s2.nonneg WW_pos
        have lc := can_len_le ha s1 s6
        obtain ⟨z, z1, z2⟩ := ih D.toNat (by omega) x y C D rfl (by show x.length < _; have : x.length ≤ a.length := lc; omega) s1 s2 s4
        rw [s3] at z2
        refine ⟨z, ?_, z2⟩
        refine Ev.step (fun k => by rw [mag_GCD.l0]) ?_
        exact evp (by omega) (Ev.bind r1 (evp rfl z1))
      | false =>
        have q0 := Int.emod_nonneg n (show m ≠ 0 by omega)
        have q1 := Int.emod_lt_of_pos n mp
        obtain ⟨q, r, d1, d2, d3⟩ := mag_DivMod_sp (by omega) ha hb mp
        obtain ⟨z, z1, z2⟩ := ih (n % m).toNat (by omega) b r m (n % m) rfl (by omega) hb d3 (by omega)
        rw [gI_mod] at z2
        refine ⟨z, ?_, z2⟩
        refine Ev.step (fun k => by rw [mag_GCD.l0]) ?_
        exact evp (by omega) (Ev.bind r1 (evn (by simp) (Ev.bind d1 z1)))
    · by_cases c2 : b.length = 0
      · rw [hz.1 c2, gI_zero n0]
        refine ⟨a, ?_, ha⟩
        refine Ev.step (fun k => by rw [mag_GCD.l0]) ?_
        exact evn (by omega) (evp (by omega) (evp (by simp; omega) (evs _)))
      · have mp : 0 < m := by
          rcases Int.lt_or_le 0 m with h | h
          · exact h
          · have := hz.2 (by omega)
            omega
        have q0 := Int.emod_nonneg n (show m ≠ 0 by omega)
        have q1 := Int.emod_lt_of_pos n mp
        obtain ⟨q, r, d1, d2, d3⟩ := mag_DivMod_sp (by omega) ha hb mp
        have hlt := hb.lt WW_pos
        have h4 := pow_le (B := WW) (by decide) (show b.length ≤ 2 by omega)
        have l3 := d3.len_le (k := 2) WW_one (by omega)
        have e1 := mag_Small2_sp hb (by omega)
        have e2 := mag_Small2_sp d3 l3
        obtain ⟨z, z1, z2⟩ := mag_gcd_l1 _ m (n % m) rfl m0 (by omega) q0 (by omega)
        rw [gI_mod] at z2
        refine ⟨z, ?_, z2⟩
        refine Ev.step (fun k => by rw [mag_GCD.l0]) ?_
        exact evn (by omega) (evn (by omega) (Ev.bind d1 (evb e1 (evb e2 z1))))
theorem mag_GCD_sp {a b : List Int} {n m : Int} (la : a.length < 1073741824) (lb : b.length < 1073741824) (ha : Can WW a n) (hb : Can WW b m) : ∃ r, Ev (fun k => mag_GCD.f k a b) r ∧ Can WW r (gI n m) := by
  have hc := mag_Cmp_sp (by omega) ha hb
  unfold mag_GCD.f
  by_cases c : n < m
  · obtain ⟨r, r1, r2⟩ := mag_gcd_l0 _ b a m n rfl lb hb ha (by omega)
    rw [gI_comm] at r2
    refine ⟨r, Ev.bind hc (evp ?_ ?_), r2⟩
    · unfold cmpi; rw [if_pos c]; omega
    · exact Ev.step (fun k => by rw [mag_GCD.j0]) r1
  · obtain ⟨r, r1, r2⟩ := mag_gcd_l0 _ a b n m rfl la ha hb (by omega)
    refine ⟨r, Ev.bind hc (evn ?_ ?_), r2⟩
    · unfold cmpi; rw [if_neg c]; split <;> omega
    · exact Ev.step (fun k => by rw [mag_GCD.j0]) r1
end Go.Proofs.Ytfpolhoabfadnaa.P
end
section
namespace Go.Proofs.Ytfpolhoabfadnaa.P
open Go.RowKit Go.Proofs.YtfpolhoabfadnaaW.PrintWords Go.Proofs.YtfpolhoabfadnaaW.PrintLast Go.Proofs.YtfpolhoabfadnaaW.PrintMore
set_option linter.unusedVariables false
abbrev TT : Int := 10
theorem TT_one : (1 : Int) < TT := by decide
theorem TT_eq : TT = 10 := rfl
abbrev BB9 : Int := 1000000000
theorem BB9_pos : (0 : Int) < BB9 := by decide
theorem BB9_eq : BB9 = 1000000000 := rfl
def asc (D : List Int) : List Int := D.reverse.map (· + 48)
theorem asc_append (a b : List Int) : asc (a ++ b) = asc b ++ asc a := by simp [asc]
theorem asc_len (D : List Int) : (asc D).length = D.length := by simp [asc]
theorem rev_ev (a : List Int) (hn : a.length < 4611686018427387904) (d : Nat) : ∀ (i : Nat) (o : List Int), a.length - i = d → i ≤ a.length → o.length = a.length → (∀ p : Nat, p < a.length → rd o (p : Int) = if p < i ∨ a.length ≤ p + i then rd a ((a.length - 1 - p : Nat) : Int) else rd a (p : Int)) →
    Ev (fun k => nat_digits.l1 k o (i : Int) ((a.length : Int) - 1 - (i : Int))) a.reverse := by
  induction d with
  | zero =>
    intro i o h1 h2 h3 h4
    have e : o = a.reverse := by
      apply List.ext_getElem
      · simp [h3]
      · intro p p1 p2
        have h := h4 p (by omega)
        rw [if_pos (by omega), rd_lt o p p1, rd_lt a _ (by omega)] at h
        rw [h, List.getElem_reverse]
    subst e
    refine Ev.step (fun k => by rw [nat_digits.l1]) ?_
    exact evn (by omega) (evs _)
  | succ d ih =>
    intro i o h1 h2 h3 h4
    by_cases c : 2 * i + 1 < a.length
    · have hk : (a.length : Int) - 1 - (i : Int) = ((a.length - 1 - i : Nat) : Int) := by omega
      have gi := h4 i (by omega)
      have gk := h4 (a.length - 1 - i) (by omega)
      rw [if_neg (by omega)] at gi
      rw [if_neg (by omega)] at gk
      refine Ev.step (fun k => by rw [nat_digits.l1]) ?_
      rw [hk, gi, gk, wsucc (i := i) (by omega), w64 (x := ((a.length - 1 - i : Nat) : Int) - 1) (by omega) (by omega)]
      refine evp (by omega) (evp (by omega) (evp (by omega) (evp (by omega) (evp (by omega) ?_))))
      have e : ((a.length - 1 - i : Nat) : Int) - 1 = (a.length : Int) - 1 - ((i + 1 : Nat) : Int) := by omega
      rw [e]
      refine ih (i + 1) _ (by omega) (by omega) (by simpa using h3) ?_
      intro p hp
      by_cases p1 : p = a.length - 1 - i
      · subst p1
        rw [rd_set_eq _ _ _ (by simp; omega), if_pos (by omega), show a.length - 1 - (a.length - 1 - i) = i by omega]
      · rw [rd_set_ne _ _ _ _ (by omega)]
        by_cases p2 : p = i
        · subst p2
          rw [rd_set_eq _ _ _ (by omega), if_pos (by omega)]
        · rw [rd_set_ne _ _ _ _ (by omega), h4 p hp]
          by_cases p3 : p < i ∨ a.length ≤ p + i
          · rw [if_pos p3, if_pos (by omega)]
          · rw [if_neg p3, if_neg (by omega)]
    · have e : o = a.reverse := by
        apply List.ext_getElem
        · simp [h3]
        · intro p p1 p2
          have h := h4 p (by omega)
          rw [List.getElem_reverse, ← rd_lt o p p1, h, ← rd_lt a (a.length - 1 - p) (by omega)]
          split
          · rfl
          · congr 1
            omega
      subst e
      refine Ev.step (fun k => by rw [nat_digits.l1]) ?_
      exact evn (by omega) (evs _)
theorem nm_snoc' (l : List Int) (x : Int) (h : x ≠ 0) : Nm (l ++ [x]) := fun h' => by rw [getLast_snoc]; exact h
theorem alg_dg {vo c P n v c' R : Int} (h : vo + c * P = n) (h2 : v + R * c' = c) : vo + v * P + c' * (R * P) = n := by grind
theorem nat_digits_ev {x : Int} (hx : 0 ≤ x ∧ x < 9223372036854775808) {m : Nat} (hm : m ≤ 20) (c : Nat) : ∀ (z : Int) (D : List Int), z.toNat + (m - D.length) < c → 0 ≤ z → z < 9223372036854775808 → D.length ≤ 64 → (0 < z → z * 10 ^ D.length ≤ x) → Dg TT D → vl TT D + z * TT ^ D.length = x → (z = 0 → m = 0 → Nm D) → (x < 10 ^ m → D.length ≤ m) →
    ∃ D', Ev (fun k => nat_digits.l0 k z (m : Int) (D.map (· + 48))) (asc D') ∧ Dg TT D' ∧ vl TT D' = x ∧ (m = 0 → Nm D') ∧ (x < 10 ^ m → D'.length = m) := by
  induction c with
  | zero => intro z D h; exact absurd h (Nat.not_lt_zero _)
  | succ c ih =>
    intro z D h1 h2 h3 h4 h5 h6 h7 h8 h9
    have hlen : (D.map (· + 48)).length = D.length := by simp
    have more : (z > 0 ∨ D.length < m) → ∃ D', Ev (fun k => nat_digits.l0 k (IntKind.u64.wrap (Int.tdiv z 10)) (m : Int) (D.map (· + 48) ++ [(IntKind.u64.wrap (48 + (Int.tmod z 10))) % 256])) (asc D') ∧ Dg TT D' ∧ vl TT D' = x ∧ (m = 0 → Nm D') ∧ (x < 10 ^ m → D'.length = m) := by
      intro hc
      have e0 : (48 + z % 10) % 256 = z % 10 + 48 := by omega
      have e1 : D.map (· + 48) ++ [(IntKind.u64.wrap (48 + (Int.tmod z 10))) % 256] = (D ++ [z % 10]).map (· + 48) := by
        rw [tmod_nn h2, u64 (x := 48 + z % 10) (by omega) (by omega), e0, List.map_append]
        rfl
      rw [e1, tdiv_nn h2, u64 (x := z / 10) (by omega) (by omega)]
      have hl : (D ++ [z % 10]).length = D.length + 1 := by simp
      have hlt : D.length < 20 := by
        rcases hc with hc | hc
        · rcases Nat.lt_or_ge D.length 20 with q | q
          · exact q
          · exfalso
            have a1 := h5 hc
            have a2 : (10 : Int) ^ 20 ≤ 10 ^ D.length := pow_le (by decide) q
            have a3 : (1 : Int) * 10 ^ D.length ≤ z * 10 ^ D.length := Int.mul_le_mul_of_nonneg_right (by omega) (by omega)
            omega
        · omega
      refine ih (z / 10) (D ++ [z % 10]) ?_ (by omega) (by omega) (by omega) ?_ (h6.append (Dg.mk (by omega) (by rw [TT_eq]; omega) (Dg.nil _))) ?_ ?_ ?_
      · rw [hl]
        rcases hc with hc | hc <;> omega
      · intro hz
        have a1 := h5 (by omega)
        rw [hl, Int.pow_succ]
        have a2 : (0 : Int) < 10 ^ D.length := Int.pow_pos (by decide)
        have a3 : (z / 10 * 10) * 10 ^ D.length ≤ z * 10 ^ D.length := Int.mul_le_mul_of_nonneg_right (by omega) (by omega)
        have a4 : z / 10 * (10 ^ D.length * 10) = (z / 10 * 10) * 10 ^ D.length := by grind
        omega
      · rw [vl_snoc, hl, Int.pow_succ, Int.mul_comm (TT ^ D.length) TT]
        exact alg_dg h7 (by rw [TT_eq]; omega)
      · intro hz hm0
        refine nm_snoc' _ _ ?_
        rcases hc with hc | hc <;> omega
      · intro hxm
        rw [hl]
        rcases hc with hc | hc
        · have a1 := h5 hc
          rcases Nat.lt_or_ge D.length m with q | q
          · omega
          · exfalso
            have a2 : (10 : Int) ^ m ≤ 10 ^ D.length := pow_le (by decide) q
            have a3 : (1 : Int) * 10 ^ D.length ≤ z * 10 ^ D.length := Int.mul_le_mul_of_nonneg_right (by omega) (Int.le_of_lt (Int.pow_pos (by decide)))
            omega
        · omega
    by_cases c1 : z > 0
    · obtain ⟨D', d1, d2⟩ := more (.inl c1)
      refine ⟨D', ?_, d2⟩
      refine Ev.step (fun k => by rw [nat_digits.l0]) ?_
      exact evp c1 (evp (by omega) d1)
    · by_cases c2 : D.length < m
      · obtain ⟨D', d1, d2⟩ := more (.inr c2)
        refine ⟨D', ?_, d2⟩
        refine Ev.step (fun k => by rw [nat_digits.l0]) ?_
        exact evn c1 (evp (by omega) (evp (by omega) d1))
      · have ez : z = 0 := by omega
        subst ez
        rw [Int.zero_mul, Int.add_zero] at h7
        refine ⟨D, ?_, h6, h7, h8 rfl, fun h => by have := h9 h; omega⟩
        refine Ev.step (fun k => by rw [nat_digits.l0]) ?_
        rw [w64 (x := ((D.map (· + 48)).length : Int) - 1) (by omega) (by omega)]
        refine evn c1 (evn (by omega) ?_)
        have := rev_ev (D.map (· + 48)) (by omega) _ 0 (D.map (· + 48)) rfl (by omega) rfl (fun p hp => by rw [if_neg (by omega)])
        rw [← List.map_reverse] at this
        simpa [asc] using this
end Go.Proofs.Ytfpolhoabfadnaa.P
end
section
namespace Go.Proofs.Ytfpolhoabfadnaa.P
open Go.RowKit Go.Proofs.YtfpolhoabfadnaaW.PrintWords Go.Proofs.YtfpolhoabfadnaaW.PrintLast Go.Proofs.YtfpolhoabfadnaaW.PrintMore
set_option linter.unusedVariables false
theorem nat_digits_sp {x : Int} (hx : 0 ≤ x ∧ x < 9223372036854775808) {m : Nat} (hm : m ≤ 20) :
    ∃ D, Ev (fun k => nat_digits.f k x (m : Int)) (asc D) ∧ Dg TT D ∧ vl TT D = x ∧ (m = 0 → Nm D) ∧ (x < 10 ^ m → D.length = m) := by
  obtain ⟨D, d1, d2⟩ := nat_digits_ev hx hm _ x [] (Nat.lt_succ_self _) hx.1 hx.2 (by simp) (fun _ => by simp) (Dg.nil _) (by simp [vl]) (fun _ _ => Nm.nil) (fun _ => by simp)
  exact ⟨D, by unfold nat_digits.f; exact d1, d2⟩
theorem mag_Small_sp {r : List Int} {v : Int} (hr : Can WW r v) (hv : v < 4294967296) : mag_Small.f r = some (v, true) := by
  have hl := hr.len_le (k := 1) WW_one (by rw [show WW ^ 1 = 4294967296 from rfl]; exact hv)
  unfold mag_Small.f
  by_cases c : r.length = 0
  · rw [(hr.len_iff WW_pos).1 c, if_pos (by omega)]
  · have e := last_vl (a := r) (by omega)
    have h1 : r.length = 1 := by omega
    rw [hr.2.2, h1] at e
    have e2 : v = rd r 0 := by simpa [vl] using e
    have := hr.nonneg WW_pos
    rw [if_neg (by omega), if_pos (by omega), if_pos (by omega), ← e2, u64 (x := v) (by omega) (by omega)]
theorem cpy9 {t : List Int} (h : t.length = 9) : cpy (List.replicate 9 0) t = t := by
  unfold cpy
  rw [List.length_replicate, h, Nat.min_self, ← h, List.take_length, List.drop_eq_nil_of_le (by simp), List.append_nil]
theorem nm_app {a b : List Int} (h : Nm b) (hb : b ≠ []) : Nm (a ++ b) := fun h' => by
  rw [List.getLast_append_of_ne_nil _ hb]
  exact h hb
theorem nat_Text_l1 {P : List Int} (hl : P.length ≤ 64) (hP : Dg BB9 P) (d : Nat) : ∀ (i : Nat) (D : List Int), i = d → i < P.length → Can TT D (vl BB9 (P.drop i)) → D ≠ [] → D.length + 9 * i ≤ 9 * P.length →
    ∃ D', Ev (fun k => nat_Text.l1 k P (asc D) ((i : Int) - 1)) (strOfNums (asc D'), 0) ∧ Can TT D' (vl BB9 P) ∧ D' ≠ [] ∧ D'.length ≤ 9 * P.length := by
  induction d with
  | zero =>
    rintro i D rfl h1 h2 h3 h4
    refine ⟨D, ?_, by simpa using h2, h3, by omega⟩
    refine Ev.step (fun k => by rw [nat_Text.l1]) ?_
    exact evn (by omega) (evs _)
  | succ d ih =>
    rintro i D rfl h1 h2 h3 h4
    have hx := dg_rd hP (d : Int) (by omega) (by omega)
    rw [BB9_eq] at hx
    obtain ⟨N, n1, n2, n3, n4, n5⟩ := nat_digits_sp (x := rd P (d : Int)) ⟨hx.1, by omega⟩ (m := 9) (by omega)
    have ln := n5 (by omega)
    have hv : vl TT (N ++ D) = vl BB9 (P.drop d) := by
      rw [vl_append, ln, n3, h2.2.2, drop_rd P d (by omega), vl]
      rfl
    have hne : N ++ D ≠ [] := by simp [h3]
    obtain ⟨D', d1, d2⟩ := ih d (N ++ D) rfl (by omega) ⟨n2.append h2.1, nm_app h2.2.1 h3, hv⟩ hne (by rw [List.length_append]; omega)
    refine ⟨D', ?_, d2⟩
    refine Ev.step (fun k => by rw [nat_Text.l1]) ?_
    have lc : (asc N).length = 9 := by rw [asc_len, ln]
    rw [show (((d + 1 : Nat) : Int) - 1) = (d : Int) by omega, w64 (x := (d : Int) - 1) (by omega) (by omega)]
    refine evp (by omega) (evp (by omega) (evp (by omega) (evp (by omega) (Ev.bind n1 (evb rfl ?_)))))
    rw [cpy9 lc, ← asc_append]
    exact evp (by rw [asc_len, asc_len]; omega) d1
theorem alg_tx {vo c P n v c' R : Int} (h : vo + c * P = n) (h2 : v + R * c' = c) : vo + v * P + c' * (R * P) = n := by grind
theorem nat_Text_l0 {n : Int} (hn : 0 < n) (hnW : n < WW ^ 40) {b : List Int} (hb : Can WW b 1000000000) (c : Nat) : ∀ (m : Int) (a P : List Int), m.toNat < c → a.length ≤ 4096 → Can WW a m → Dg BB9 P → vl BB9 P + m * BB9 ^ P.length = n → (m = 0 → Nm P) → (m = 0 → P.length ≤ 46) →
    ∃ D, Ev (fun k => nat_Text.l0 k a P b) (strOfNums (asc D), 0) ∧ Can TT D n ∧ D ≠ [] ∧ D.length ≤ 576 := by
  induction c with
  | zero => intro m a P h; exact absurd h (Nat.not_lt_zero _)
  | succ c ih =>
    intro m a P h1 h2 h3 h4 h5 h6 h7
    have m0 := h3.nonneg WW_pos
    have hp : (0 : Int) < BB9 ^ P.length := pow_pos' BB9_pos _
    by_cases c1 : a.length = 0
    · have em := (h3.len_iff WW_pos).1 c1
      subst em
      rw [Int.zero_mul, Int.add_zero] at h5
      have hl := h7 rfl
      have hne : P.length ≠ 0 := by
        intro h0
        rw [List.length_eq_zero_iff.1 h0, vl] at h5
        omega
      have hx := dg_rd h4 ((P.length : Int) - 1) (by omega) (by omega)
      have hz := (h6 rfl).rd (by omega)
      rw [BB9_eq] at hx
      obtain ⟨N, n1, n2, n3, n4, n5⟩ := nat_digits_sp (x := rd P ((P.length : Int) - 1)) ⟨hx.1, by omega⟩ (m := 0) (by omega)
      have hN : N ≠ [] := by
        intro h
        rw [h, vl] at n3
        exact hz n3.symm
      have cn : Can TT N (rd P ((P.length : Int) - 1)) := ⟨n2, n4 rfl, n3⟩
      have ln : N.length ≤ 9 := cn.len_le TT_one (by rw [show TT ^ 9 = 1000000000 from rfl]; exact hx.2)
      have e1 : vl BB9 (P.drop (P.length - 1)) = rd P ((P.length : Int) - 1) := by
        rw [drop_rd P (P.length - 1) (by omega), vl, List.drop_eq_nil_of_le (by omega), vl, show ((P.length - 1 : Nat) : Int) = (P.length : Int) - 1 by omega]
        omega
      obtain ⟨D', d1, d2, d3, d4⟩ := nat_Text_l1 (by omega) h4 (P.length - 1) (P.length - 1) N rfl (by omega) (by rw [e1]; exact cn) hN (by omega)
      rw [h5] at d2
      refine ⟨D', ?_, d2, d3, by omega⟩
      refine Ev.step (fun k => by rw [nat_Text.l0]) ?_
      rw [w64 (x := (P.length : Int) - 1) (by omega) (by omega), w64 (x := (P.length : Int) - 2) (by omega) (by omega)]
      refine evn (by omega) (evp (by omega) (evp (by omega) (Ev.bind n1 ?_)))
      rw [show (P.length : Int) - 2 = ((P.length - 1 : Nat) : Int) - 1 by omega]
      exact d1
    · have hm : m ≠ 0 := fun h => c1 ((h3.len_iff WW_pos).2 h)
      have hlP : P.length ≤ 45 := by
        rcases Nat.lt_or_ge P.length 46 with q | q
        · omega
        · exfalso
          have a1 : BB9 ^ 46 ≤ BB9 ^ P.length := pow_le (by decide) q
          have a2 : (1 : Int) * BB9 ^ P.length ≤ m * BB9 ^ P.length := Int.mul_le_mul_of_nonneg_right (by omega) (by omega)
          have a3 := vl_nonneg BB9_pos h4
          have a4 : WW ^ 40 < BB9 ^ 46 := by decide
          omega
      obtain ⟨q, r, q1, q2, q3⟩ := mag_DivMod_sp (by omega) h3 hb (by omega)
      have r0 := Int.emod_nonneg m (show (1000000000 : Int) ≠ 0 by omega)
      have r1 := Int.emod_lt_of_pos m (show (0 : Int) < 1000000000 by omega)
      have hs := mag_Small_sp q3 (by omega)
      have lq := can_len_le h3 q2 (by omega)
      obtain ⟨D, d1, d2⟩ := ih (m / 1000000000) q (P ++ [m % 1000000000]) (by omega) (by omega) q2 (h4.append (Dg.mk r0 (by rw [BB9_eq]; exact r1) (Dg.nil _)))
        (by
          rw [vl_snoc, List.length_append, List.length_singleton, Int.pow_succ, Int.mul_comm (BB9 ^ P.length) BB9]
          exact alg_tx h5 (by rw [BB9_eq]; omega))
        (fun h => nm_snoc' _ _ (by omega)) (fun _ => by simp; omega)
      refine ⟨D, ?_, d2⟩
      refine Ev.step (fun k => by rw [nat_Text.l0]) ?_
      exact evp (by omega) (Ev.bind q1 (evb hs (evp (by omega) d1)))
theorem nat_Text_sp {a : List Int} {n : Int} (hl : a.length ≤ 40) (ha : Can WW a n) (hn : 0 < n) : ∃ D, Ev (fun k => nat_Text.f k a) (strOfNums (asc D), 0) ∧ Can TT D n ∧ D ≠ [] ∧ D.length ≤ 576 := by
  have hlt : n < WW ^ 40 := Int.lt_of_lt_of_le (ha.lt WW_pos) (pow_le (by decide) hl)
  have hc : a.length ≠ 0 := fun h => by have := (ha.len_iff WW_pos).1 h; omega
  obtain ⟨b, b1, b2⟩ := mag_From_sp (a := 1000000000) (by omega) (by omega)
  obtain ⟨D, d1, d2⟩ := nat_Text_l0 hn hlt b2 _ n a [] (Nat.lt_succ_self _) (by omega) ha (Dg.nil _) (by simp [vl]) (fun h => by omega) (fun h => by omega)
  refine ⟨D, ?_, d2⟩
  unfold nat_Text.f
  exact evb (nat_valid (by omega) ha.2.1) (evp rfl (evn (by omega) (Ev.bind b1 d1)))
end Go.Proofs.Ytfpolhoabfadnaa.P
end
section
namespace Go.Proofs.Ytfpolhoabfadnaa.P
open Go.RowKit Go.Proofs.YtfpolhoabfadnaaW.PrintWords Go.Proofs.YtfpolhoabfadnaaW.PrintLast Go.Proofs.YtfpolhoabfadnaaW.PrintMore
set_option linter.unusedVariables false
def Dig (s : ByteArray) (i : Nat) : Prop := 48 ≤ bt s (i : Int) ∧ bt s (i : Int) ≤ 57
def sv (s : ByteArray) : Nat → Int
  | 0 => 0
  | i + 1 => sv s i * 10 + (bt s (i : Int) - 48)
end Go.Proofs.Ytfpolhoabfadnaa.P
end
section
namespace Go.Proofs.Ytfpolhoabfadnaa.Q
open Go.RowKit Go.Proofs.YtfpolhoabfadnaaW.PrintWords Go.Proofs.YtfpolhoabfadnaaW.PrintMore Go.Proofs.Ytfpolhoabfadnaa.V Go.Proofs.Ytfpolhoabfadnaa.E
open Go.Proofs.Ytfpolhoabfadnaa.P (Dg Nm vl WW RR can_uniq gI evs evk evb cmpi WW_pos WW_one)
set_option linter.unusedVariables false
theorem bT {α : Type} {c : Bool} {f g : Nat → Option α} {r : α} (hc : c = true) (h : Ev f r) : Ev (fun k => bif c then f k else g k) r := by subst hc; exact h
theorem bF {α : Type} {c : Bool} {f g : Nat → Option α} {r : α} (hc : c = false) (h : Ev g r) : Ev (fun k => bif c then f k else g k) r := by subst hc; exact h
theorem iT {α : Type} {c : Prop} [Decidable c] {f : Nat → Option α} {r : α} (hc : c) (h : Ev f r) : Ev (fun k => if c then f k else none) r := by simpa only [if_pos hc] using h
theorem evmap {α β : Type} {f : Nat → Option α} {g : α → β} {r : α} (h : Ev f r) : Ev (fun k => (f k).map g) (g r) := by
  obtain ⟨K, h⟩ := h
  exact ⟨K, fun k hk => by simp only [h k hk, Option.map_some]⟩
def sg (s : Bool) (x : Int) : Int := if s then -x else x
def RB (B : Int) (v : RatD) (q : Rat) : Prop := v.1 = decide (q.num < 0) ∧ P.Can B v.2.1 (q.num.natAbs : Int) ∧ P.Can B v.2.2.1 (q.den : Int)
theorem can1 {B : Int} (h : 1 < B) : P.Can B [1] 1 := ⟨Dg.mk (by decide) h (Dg.nil _), fun h => by simp, by simp [vl]⟩
theorem rb_zero {B : Int} (h : 1 < B) : RB B (false, [], [1], ()) 0 := ⟨rfl, P.Can.zero B, can1 h⟩
theorem rb_one {B : Int} (h : 1 < B) : RB B (false, [1], [1], ()) 1 := ⟨rfl, can1 h, can1 h⟩
theorem rb_uniq {B : Int} (hB : 0 < B) {v w : RatD} {q : Rat} (hv : RB B v q) (hw : RB B w q) : v = w := by
  obtain ⟨a, b, c, d⟩ := v
  obtain ⟨a', b', c', d'⟩ := w
  obtain ⟨h1, h2, h3⟩ := hv
  obtain ⟨g1, g2, g3⟩ := hw
  have e1 : a = a' := h1.trans g1.symm
  have e2 : b = b' := can_uniq hB h2 g2
  have e3 : c = c' := can_uniq hB h3 g3
  subst e1 e2 e3
  rfl
theorem gI_swap (x y : Int) : ((y.gcd x : Nat) : Int) = gI x y := by unfold gI; rw [Int.gcd_comm]
theorem rb_frac {B : Int} {s : Bool} {l d : List Int} {x y : Int} (hx : 0 < x) (hy : 0 < y) (hl : P.Can B l (x / gI x y)) (hd : P.Can B d (y / gI x y)) : RB B (s, l, d, ()) (Rat.divInt (sg s x) y) := by
  have hg : 0 < gI x y := by
    unfold gI
    have := Int.gcd_pos_of_ne_zero_left y (show x ≠ 0 by omega)
    omega
  have hgx : gI x y ∣ x := Int.gcd_dvd_left ..
  have hgy : gI x y ∣ y := Int.gcd_dvd_right ..
  have hq : 0 < x / gI x y := Int.ediv_pos_of_pos_of_dvd hx (by omega) hgx
  have hr : 0 < y / gI x y := Int.ediv_pos_of_pos_of_dvd hy (by omega) hgy
  have hsg : ((y.gcd (sg s x) : Nat) : Int) = gI x y := by
    unfold sg
    cases s with
    | true => simp only [if_true, Int.gcd_neg]; exact gI_swap x y
    | false => exact gI_swap x y
  have hnum : (Rat.divInt (sg s x) y).num = sg s (x / gI x y) := by
    rw [Rat.num_divInt, hsg, Int.sign_eq_one_of_pos hy, Int.one_mul]
    unfold sg
    cases s with
    | true => simp only [if_true]; exact Int.neg_ediv_of_dvd hgx
    | false => rfl
  have hden : ((Rat.divInt (sg s x) y).den : Int) = y / gI x y := by
    rw [Rat.den_divInt, if_neg (by omega), Int.natCast_ediv, hsg]
    congr 1
    omega
  refine ⟨?_, ?_, ?_⟩
  · show s = _
    rw [hnum]
    unfold sg
    cases s with
    | true => simp only [if_true]; exact (decide_eq_true (by omega)).symm
    | false => exact (decide_eq_false (by simp; omega)).symm
  · show P.Can B l _
    rw [hnum]
    have : ((sg s (x / gI x y)).natAbs : Int) = x / gI x y := by
      unfold sg
      cases s with
      | true => simp only [if_true]; omega
      | false => simp; omega
    rw [this]
    exact hl
  · show P.Can B d _
    rw [hden]
    exact hd
theorem frac_zero (s : Bool) (y : Int) : Rat.divInt (sg s 0) y = 0 := by unfold sg; cases s <;> simp
theorem sg_val {B : Int} {v : RatD} {q : Rat} (h : RB B v q) : sg v.1 q.num.natAbs = q.num := by
  unfold sg
  rw [h.1]
  by_cases c : q.num < 0
  · rw [if_pos (decide_eq_true c)]; omega
  · rw [if_neg (by simpa using c)]; omega
theorem den_pos' (q : Rat) : (0 : Int) < q.den := by have := q.den_pos; omega
def Sz (B : Int) (K : Nat) (q : Rat) : Prop := (q.num.natAbs : Int) < B ^ K ∧ (q.den : Int) < B ^ K
theorem sz_of {B : Int} (hB : 0 < B) {v : RatD} {q : Rat} (h : RB B v q) {K : Nat} (h1 : v.2.1.length ≤ K) (h2 : v.2.2.1.length ≤ K) : Sz B K q :=
  ⟨Int.lt_of_lt_of_le (h.2.1.lt hB) (P.pow_le (by omega) h1), Int.lt_of_lt_of_le (h.2.2.lt hB) (P.pow_le (by omega) h2)⟩
theorem sz_len {B : Int} (hB : 1 < B) {v : RatD} {q : Rat} (h : RB B v q) {K : Nat} (hs : Sz B K q) : v.2.1.length ≤ K ∧ v.2.2.1.length ≤ K := ⟨h.2.1.len_le hB hs.1, h.2.2.len_le hB hs.2⟩
theorem sz_mono {B : Int} (hB : 0 < B) {q : Rat} {K L : Nat} (hs : Sz B K q) (h : K ≤ L) : Sz B L q := ⟨Int.lt_of_lt_of_le hs.1 (P.pow_le (by omega) h), Int.lt_of_lt_of_le hs.2 (P.pow_le (by omega) h)⟩
theorem sz_frac {B : Int} {s : Bool} {x y : Int} {K : Nat} (hx : 0 ≤ x) (hy : 0 < y) (h1 : x < B ^ K) (h2 : y < B ^ K) : Sz B K (Rat.divInt (sg s x) y) := by
  have hsx : (sg s x).natAbs = x.natAbs := by unfold sg; cases s <;> simp
  constructor
  · rw [Rat.num_divInt, Int.sign_eq_one_of_pos hy, Int.one_mul]
    have : ((sg s x) / ((y.gcd (sg s x) : Nat) : Int)).natAbs ≤ (sg s x).natAbs := by
      rw [Int.natAbs_ediv_of_dvd (Int.gcd_dvd_right ..)]
      exact Nat.div_le_self ..
    omega
  · rw [Rat.den_divInt, if_neg (by omega)]
    have : y.natAbs / (y.gcd (sg s x)) ≤ y.natAbs := Nat.div_le_self ..
    omega
end Go.Proofs.Ytfpolhoabfadnaa.Q
end
section
namespace Go.Proofs.Ytfpolhoabfadnaa.Q
open Go.RowKit Go.Proofs.YtfpolhoabfadnaaW.PrintWords Go.Proofs.YtfpolhoabfadnaaW.PrintMore Go.Proofs.Ytfpolhoabfadnaa.V Go.Proofs.Ytfpolhoabfadnaa.E
open Go.Proofs.Ytfpolhoabfadnaa.P (Dg Nm vl WW RR can_uniq gI evs evk evb cmpi WW_pos WW_one w64 u64)
set_option linter.unusedVariables false
section
variable {a b : List Int} {n m : Int}
theorem q_Mul (hn : a.length + b.length < 1099511627776) (ha : P.Can WW a n) (hb : P.Can WW b m) : ∃ r, Ev (fun k => mag_Mul k a b) r ∧ P.Can WW r (n * m) ∧ r.length ≤ a.length + b.length := by
  obtain ⟨r, h1, h2⟩ := P.mag_Mul_sp hn ha hb
  exact ⟨r, Ev.step (fun k => mag_Mul_eq k a b) h1, h2⟩
theorem q_Add (hla : a.length < 1099511627776) (hlb : b.length < 1099511627776) (ha : P.Can WW a n) (hb : P.Can WW b m) : ∃ r, Ev (fun k => mag_Add k a b) r ∧ P.Can WW r (n + m) ∧ r.length ≤ max a.length b.length + 1 := by
  obtain ⟨r, h1, h2⟩ := P.mag_Add_sp hla hlb ha hb
  exact ⟨r, Ev.step (fun k => mag_Add_eq k a b) h1, h2⟩
theorem q_Sub (hn : a.length < 1099511627776) (ha : P.Can WW a n) (hb : P.Can WW b m) (hle : m ≤ n) : ∃ r, Ev (fun k => mag_Sub k a b) r ∧ P.Can WW r (n - m) ∧ r.length ≤ a.length := by
  obtain ⟨r, h1, h2⟩ := P.mag_Sub_sp hn ha hb hle
  exact ⟨r, Ev.step (fun k => mag_Sub_eq k a b) h1, h2⟩
theorem q_Cmp (hn : a.length < 4611686018427387904) (ha : P.Can WW a n) (hb : P.Can WW b m) : Ev (fun k => mag_Cmp k a b) (cmpi n m) := Ev.step (fun k => mag_Cmp_eq k a b) (P.mag_Cmp_sp hn ha hb)
theorem q_GCD (la : a.length < 1073741824) (lb : b.length < 1073741824) (ha : P.Can WW a n) (hb : P.Can WW b m) : ∃ r, Ev (fun k => mag_GCD k a b) r ∧ P.Can WW r (gI n m) := by
  obtain ⟨r, h1, h2⟩ := P.mag_GCD_sp la lb ha hb
  exact ⟨r, Ev.step (fun k => mag_GCD_eq k a b) h1, h2⟩
theorem q_DivMod (hn : a.length < 17179869184) (ha : P.Can WW a n) (hb : P.Can WW b m) (hm : 0 < m) : ∃ q r, Ev (fun k => mag_DivMod k a b) (q, r, ()) ∧ P.Can WW q (n / m) ∧ P.Can WW r (n % m) := by
  obtain ⟨q, r, h1, h2⟩ := P.mag_DivMod_sp hn ha hb hm
  exact ⟨q, r, Ev.step (fun k => mag_DivMod_eq k a b) (evmap (g := fun r : List Int × List Int => (r.1, r.2, ())) h1), h2⟩
theorem gcd_pos {x y : Int} (hy : 0 < y) : 0 < gI x y := by
  unfold P.gI
  have := Int.gcd_pos_of_ne_zero_right x (show y ≠ 0 by omega)
  omega
theorem one_tst {l : List Int} {z : Int} (h : P.Can WW l z) (hz : 0 < z) (h1 : z ≠ 1) : (bif (List.length l : Int) != (1 : Int) then some true else if 0 ≤ (0 : Int) ∧ (0 : Int) < (List.length l : Int) then some ((rdT (t := (.int .u32)) l (0 : Int) : Int) != (1 : Int)) else none) = some true := by
  match l, h with
  | [], h => rfl
  | [x], h =>
    have hx : x = z := by have := h.2.2; simp [vl] at this; exact this
    have hr : (rdT (t := (.int .u32)) [x] (0 : Int) : Int) = x := rfl
    rw [hr]
    have : (x != (1 : Int)) = true := by simp; omega
    rw [this]
    simp
  | x :: y :: t, h =>
    have : ((List.length (x :: y :: t) : Int) != (1 : Int)) = true := by simp; omega
    rw [this]
    rfl
theorem one_tst' {l : List Int} {z : Int} (h : P.Can WW l z) (hz : z = 1) : (bif (List.length l : Int) != (1 : Int) then some true else if 0 ≤ (0 : Int) ∧ (0 : Int) < (List.length l : Int) then some ((rdT (t := (.int .u32)) l (0 : Int) : Int) != (1 : Int)) else none) = some false := by
  subst hz
  rw [can_uniq WW_pos h (can1 WW_one)]
  rfl
theorem num_Zero_ev : Ev (fun k => num_Zero k) (false, [], [1], ()) := Ev.step (fun k => num_Zero_eq k) (evs _)
theorem len_ne {B : Int} (hB : 0 < B) {l : List Int} {x : Int} (h : P.Can B l x) (hx : x ≠ 0) : ((List.length l : Int) == (0 : Int)) = false := by
  have := h.len_iff hB
  have : l.length ≠ 0 := fun e => hx (this.1 e)
  simp
  intro e
  exact this (by simp [e])
theorem len_eq {B : Int} (hB : 0 < B) {l : List Int} {x : Int} (h : P.Can B l x) (hx : x = 0) : l = [] := (h.nil_iff hB).2 hx
theorem num_Make_sp {s : Bool} (la : a.length < 1073741824) (lb : b.length < 1073741824) (ha : P.Can WW a n) (hb : P.Can WW b m) (hm : 0 < m) : ∃ r, Ev (fun k => num_Make k s a b) r ∧ RB WW r (Rat.divInt (sg s n) m) := by
  have n0 := ha.nonneg WW_pos
  by_cases hn : n = 0
  · obtain rfl := len_eq WW_pos ha hn
    refine ⟨_, Ev.step (fun k => num_Make_eq k s [] b) (bT rfl (Ev.bind num_Zero_ev (evs _))), ?_⟩
    rw [hn, frac_zero]
    exact rb_zero WW_one
  · obtain ⟨g, g1, g2⟩ := q_GCD la lb ha hb
    have gp := gcd_pos (x := n) hm
    have fin : ∀ {u v : List Int}, u.length ≤ a.length → v.length ≤ b.length → P.Can WW u (n / gI n m) → P.Can WW v (m / gI n m) → Ev (fun k => num_Make.j0 k s u v (false, [], [], ())) (s, u, v, ()) := fun h1 h2 _ _ => by
      unfold num_Make.j0
      exact iT (by omega) (iT (by omega) (evs _))
    by_cases h1 : gI n m = 1
    · have e1 : n / gI n m = n := by rw [h1]; omega
      have e2 : m / gI n m = m := by rw [h1]; omega
      have ca : P.Can WW a (n / gI n m) := by rw [e1]; exact ha
      have cb : P.Can WW b (m / gI n m) := by rw [e2]; exact hb
      exact ⟨_, Ev.step (fun k => num_Make_eq k s a b) (bF (len_ne WW_pos ha hn) (Ev.bind g1 (Ev.bind (evk (one_tst' g2 h1)) (bF rfl (fin (Nat.le_refl _) (Nat.le_refl _) ca cb))))), rb_frac (by omega) hm ca cb⟩
    · obtain ⟨u, u', u1, u2, u3⟩ := q_DivMod (by omega) ha g2 gp
      obtain ⟨v, v', v1, v2, v3⟩ := q_DivMod (by omega) hb g2 gp
      have lu : u.length ≤ a.length := u2.len_le WW_one (Int.lt_of_le_of_lt (Int.ediv_le_self _ n0) (ha.lt WW_pos))
      have lv : v.length ≤ b.length := v2.len_le WW_one (Int.lt_of_le_of_lt (Int.ediv_le_self _ (by omega)) (hb.lt WW_pos))
      exact ⟨_, Ev.step (fun k => num_Make_eq k s a b) (bF (len_ne WW_pos ha hn) (Ev.bind g1 (Ev.bind (evk (one_tst g2 gp h1)) (bT rfl (Ev.bind u1 (Ev.bind v1 (fin lu lv u2 v2))))))), rb_frac (by omega) hm u2 v2⟩
end
end Go.Proofs.Ytfpolhoabfadnaa.Q
end
section
namespace Go.Proofs.Ytfpolhoabfadnaa.Q
open Go.RowKit Go.Proofs.YtfpolhoabfadnaaW.PrintWords Go.Proofs.YtfpolhoabfadnaaW.PrintMore Go.Proofs.Ytfpolhoabfadnaa.V Go.Proofs.Ytfpolhoabfadnaa.E
open Go.Proofs.Ytfpolhoabfadnaa.P (Dg Nm vl WW RR can_uniq gI evs evk evb cmpi WW_pos WW_one w64 u64)
set_option linter.unusedVariables false
section
variable {v w : RatD} {p q : Rat} {K L : Nat}
theorem sg_mul (s t : Bool) (x y : Int) : sg (s != t) (x * y) = sg s x * sg t y := by
  unfold sg
  cases s <;> cases t <;> simp [Int.neg_mul, Int.mul_neg]
theorem sg_mul_pos (s : Bool) (x y : Int) : sg s x * y = sg s (x * y) := by
  unfold sg
  cases s <;> simp [Int.neg_mul]
theorem mul_pos' {x y : Int} (hx : 0 < x) (hy : 0 < y) : 0 < x * y := Int.mul_pos hx hy
theorem num_Mul_sp (hv : RB WW v p) (hw : RB WW w q) (hp : Sz WW K p) (hq : Sz WW L q) (h : K + L < 1073741824) : ∃ r, Ev (fun k => num_Mul k v w) r ∧ RB WW r (p * q) ∧ Sz WW (K + L) (p * q) := by
  obtain ⟨lv1, lv2⟩ := sz_len WW_one hv hp
  obtain ⟨lw1, lw2⟩ := sz_len WW_one hw hq
  obtain ⟨x, x1, x2, x3⟩ := q_Mul (by omega) hv.2.1 hw.2.1
  obtain ⟨y, y1, y2, y3⟩ := q_Mul (by omega) hv.2.2 hw.2.2
  have hd : (0 : Int) < (p.den : Int) * q.den := mul_pos' (den_pos' p) (den_pos' q)
  obtain ⟨r, r1, r2⟩ := num_Make_sp (s := v.1 != w.1) (by omega) (by omega) x2 y2 hd
  have e : Rat.divInt (sg (v.1 != w.1) ((p.num.natAbs : Int) * q.num.natAbs)) ((p.den : Int) * q.den) = p * q := by
    rw [sg_mul, sg_val hv, sg_val hw, ← Rat.divInt_mul_divInt, Rat.num_divInt_den, Rat.num_divInt_den]
  have hs : Sz WW (K + L) (p * q) := by
    rw [← e]
    refine sz_frac (Int.mul_nonneg (by omega) (by omega)) hd ?_ ?_
    · exact Int.lt_of_lt_of_le (x2.lt WW_pos) (P.pow_le (by decide) (by omega))
    · exact Int.lt_of_lt_of_le (y2.lt WW_pos) (P.pow_le (by decide) (by omega))
  rw [e] at r2
  exact ⟨r, Ev.step (fun k => num_Mul_eq k v w) (Ev.bind x1 (Ev.bind y1 (Ev.bind r1 (evs _)))), r2, hs⟩
theorem beq_ne {s t : Bool} (h : ¬ s = t) : (s == t) = false := by cases s <;> cases t <;> simp_all
theorem num_Add_j {x y d : List Int} {X Y D : Int} {s t : Bool} {u u' c : RatD} (hu : u.1 = s) (hu' : u'.1 = t) (lx : x.length < 536870912) (ly : y.length < 536870912) (ld : d.length < 1073741824) (hx : P.Can WW x X) (hy : P.Can WW y Y) (hd : P.Can WW d D) (hD : 0 < D) :
    ∃ r, Ev (fun k => num_Add.j0 k x y d u u' c) r ∧ RB WW r (Rat.divInt (sg s X + sg t Y) D) := by
  by_cases hst : s = t
  · obtain ⟨z, z1, z2, z3⟩ := q_Add (by omega) (by omega) hx hy
    obtain ⟨r, r1, r2⟩ := num_Make_sp (s := s) (by omega) ld z2 hd hD
    refine ⟨r, ?_, ?_⟩
    · unfold num_Add.j0
      rw [hu, hu']
      exact bT (by subst hst; simp) (Ev.bind z1 (Ev.bind r1 (evs _)))
    · have : sg s X + sg t Y = sg s (X + Y) := by subst hst; unfold sg; cases s <;> simp <;> omega
      rw [this]
      exact r2
  · have hc := q_Cmp (by omega) hx hy
    by_cases hxy : Y ≤ X
    · obtain ⟨z, z1, z2, z3⟩ := q_Sub (by omega) hx hy hxy
      obtain ⟨r, r1, r2⟩ := num_Make_sp (s := s) (by omega) ld z2 hd hD
      refine ⟨r, ?_, ?_⟩
      · unfold num_Add.j0
        rw [hu, hu']
        refine bF (beq_ne hst) (Ev.bind hc (bT (decide_eq_true ?_) (Ev.bind z1 (Ev.bind r1 (evs _)))))
        unfold P.cmpi
        split
        · omega
        · split <;> omega
      · have : sg s X + sg t Y = sg s (X - Y) := by
          unfold sg
          cases s <;> cases t <;> simp at hst ⊢ <;> omega
        rw [this]
        exact r2
    · obtain ⟨z, z1, z2, z3⟩ := q_Sub (by omega) hy hx (by omega)
      obtain ⟨r, r1, r2⟩ := num_Make_sp (s := t) (by omega) ld z2 hd hD
      refine ⟨r, ?_, ?_⟩
      · unfold num_Add.j0
        rw [hu, hu']
        refine bF (beq_ne hst) (Ev.bind hc (bF (decide_eq_false ?_) (Ev.bind z1 (Ev.bind r1 (evs _)))))
        unfold P.cmpi
        rw [if_pos (by omega)]
        omega
      · have : sg s X + sg t Y = sg t (Y - X) := by
          unfold sg
          cases s <;> cases t <;> simp at hst ⊢ <;> omega
        rw [this]
        exact r2
theorem add_frac (p q : Rat) : p + q = Rat.divInt (p.num * q.den + q.num * p.den) ((p.den : Int) * q.den) := by
  have h := Rat.divInt_add_divInt p.num q.num (d₁ := (p.den : Int)) (d₂ := (q.den : Int)) (by have := den_pos' p; omega) (by have := den_pos' q; omega)
  rw [Rat.num_divInt_den, Rat.num_divInt_den] at h
  exact h
theorem add_frac' (p q : Rat) (h : p.den = q.den) : p + q = Rat.divInt (p.num + q.num) (p.den : Int) := by
  rw [add_frac, ← h, ← Int.add_mul]
  exact Rat.divInt_mul_right (by have := den_pos' p; omega)
theorem sz_add (hp : Sz WW K p) (hq : Sz WW L q) : Sz WW (K + L + 1) (p + q) := by
  have hK : (0 : Int) < WW ^ K := Int.pow_pos (by decide)
  have hL : (0 : Int) < WW ^ L := Int.pow_pos (by decide)
  have e : (WW : Int) ^ (K + L + 1) = WW ^ K * WW ^ L * 4294967296 := by rw [Int.pow_succ, Int.pow_add]
  obtain ⟨p1, p2⟩ := hp
  obtain ⟨q1, q2⟩ := hq
  have dp := den_pos' p
  have dq := den_pos' q
  have a1 : (p.num.natAbs : Int) * q.den ≤ WW ^ K * WW ^ L := Int.mul_le_mul (by omega) (by omega) (by omega) (by omega)
  have a2 : (q.num.natAbs : Int) * p.den ≤ WW ^ L * WW ^ K := Int.mul_le_mul (by omega) (by omega) (by omega) (by omega)
  have a3 : (p.den : Int) * q.den ≤ WW ^ K * WW ^ L := Int.mul_le_mul (by omega) (by omega) (by omega) (by omega)
  rw [Int.mul_comm (WW ^ L)] at a2
  have hKL : (0 : Int) < WW ^ K * WW ^ L := mul_pos' hK hL
  have hn : ((p.num * q.den + q.num * p.den).natAbs : Int) ≤ (p.num.natAbs : Int) * q.den + (q.num.natAbs : Int) * p.den := by
    have h1 := Int.natAbs_add_le (p.num * q.den) (q.num * p.den)
    rw [Int.natAbs_mul, Int.natAbs_mul] at h1
    simp only [Int.natAbs_natCast] at h1
    have : ((p.num.natAbs * q.den + q.num.natAbs * p.den : Nat) : Int) = (p.num.natAbs : Int) * q.den + (q.num.natAbs : Int) * p.den := by
      rw [Int.natCast_add, Int.natCast_mul, Int.natCast_mul]
    omega
  rw [add_frac]
  constructor
  · rw [Rat.num_divInt, Int.sign_eq_one_of_pos (mul_pos' dp dq), Int.one_mul]
    have : ((p.num * q.den + q.num * p.den) / ((((p.den : Int) * q.den).gcd (p.num * q.den + q.num * p.den) : Nat) : Int)).natAbs ≤ (p.num * q.den + q.num * p.den).natAbs := by
      rw [Int.natAbs_ediv_of_dvd (Int.gcd_dvd_right ..)]
      exact Nat.div_le_self ..
    omega
  · rw [Rat.den_divInt, if_neg (by have := mul_pos' dp dq; omega)]
    have : ((p.den : Int) * q.den).natAbs / (((p.den : Int) * q.den).gcd (p.num * q.den + q.num * p.den)) ≤ ((p.den : Int) * q.den).natAbs := Nat.div_le_self ..
    have := mul_pos' dp dq
    omega
theorem num_Add_sp (hv : RB WW v p) (hw : RB WW w q) (hp : Sz WW K p) (hq : Sz WW L q) (h : K + L < 268435456) : ∃ r, Ev (fun k => num_Add k v w) r ∧ RB WW r (p + q) ∧ Sz WW (K + L + 1) (p + q) := by
  obtain ⟨lv1, lv2⟩ := sz_len WW_one hv hp
  obtain ⟨lw1, lw2⟩ := sz_len WW_one hw hq
  have hc := q_Cmp (by omega) hv.2.2 hw.2.2
  refine (show ∃ r, Ev (fun k => num_Add k v w) r ∧ RB WW r (p + q) from ?_).elim fun r hr => ⟨r, hr.1, hr.2, sz_add hp hq⟩
  by_cases hd : (p.den : Int) = q.den
  · obtain ⟨r, r1, r2⟩ := num_Add_j (c := (false, [], [], ())) (u := v) (u' := w) rfl rfl (by omega) (by omega) (by omega) hv.2.1 hw.2.1 hv.2.2 (den_pos' p)
    rw [sg_val hv, sg_val hw, ← add_frac' p q (by omega)] at r2
    refine ⟨r, Ev.step (fun k => num_Add_eq k v w) (Ev.bind hc (bF ?_ r1)), r2⟩
    unfold P.cmpi
    rw [if_neg (by omega), if_pos hd]
    rfl
  · obtain ⟨x, x1, x2, x3⟩ := q_Mul (by omega) hv.2.1 hw.2.2
    obtain ⟨y, y1, y2, y3⟩ := q_Mul (by omega) hw.2.1 hv.2.2
    obtain ⟨d, d1, d2, d3⟩ := q_Mul (by omega) hv.2.2 hw.2.2
    obtain ⟨r, r1, r2⟩ := num_Add_j (c := (false, [], [], ())) (u := v) (u' := w) rfl rfl (by omega) (by omega) (by omega) x2 y2 d2 (mul_pos' (den_pos' p) (den_pos' q))
    rw [← sg_mul_pos, ← sg_mul_pos, sg_val hv, sg_val hw, ← add_frac p q] at r2
    refine ⟨r, Ev.step (fun k => num_Add_eq k v w) (Ev.bind hc (bT ?_ (Ev.bind x1 (Ev.bind y1 (Ev.bind d1 r1))))), r2⟩
    unfold P.cmpi
    split
    · rfl
    · rfl
end
end Go.Proofs.Ytfpolhoabfadnaa.Q
end
section
namespace Go.Proofs.Ytfpolhoabfadnaa.Q
open Go.RowKit Go.Proofs.YtfpolhoabfadnaaW.PrintWords Go.Proofs.YtfpolhoabfadnaaW.PrintMore Go.Proofs.Ytfpolhoabfadnaa.V Go.Proofs.Ytfpolhoabfadnaa.E
open Go.Proofs.Ytfpolhoabfadnaa.P (Dg Nm vl WW RR can_uniq gI evs evk evb cmpi WW_pos WW_one w64 u64)
set_option linter.unusedVariables false
section
variable {v w : RatD} {p q : Rat} {K L : Nat}
theorem num_Copy_sp (hv : RB WW v p) (hp : Sz WW K p) (h : K < 1073741824) : Ev (fun k => num_Copy k v) v := by
  obtain ⟨lv1, lv2⟩ := sz_len WW_one hv hp
  obtain ⟨s, a, b, _⟩ := v
  exact Ev.step (fun k => num_Copy_eq k _) (iT (by simp at lv1 ⊢; omega) (iT (by simp at lv2 ⊢; omega) (evs _)))
theorem len_gt {B : Int} (hB : 0 < B) {l : List Int} {x : Int} (h : P.Can B l x) : decide ((List.length l : Int) > 0) = decide (x ≠ 0) := by
  have := h.len_iff hB
  by_cases c : x = 0
  · rw [decide_eq_false (by omega), decide_eq_false (by simpa using c)]
  · rw [decide_eq_true (by omega), decide_eq_true c]
theorem sz_neg {B : Int} (hp : Sz B K p) : Sz B K (-p) := by
  obtain ⟨h1, h2⟩ := hp
  refine ⟨?_, ?_⟩
  · rw [Rat.neg_num, Int.natAbs_neg]; exact h1
  · rw [Rat.neg_den]; exact h2
theorem rb_neg {B : Int} (hv : RB B v p) : RB B ((!v.1 && decide (p.num ≠ 0)), v.2) (-p) := by
  obtain ⟨h1, h2, h3⟩ := hv
  refine ⟨?_, ?_, ?_⟩
  · show (!v.1 && decide (p.num ≠ 0)) = decide ((-p).num < 0)
    rw [Rat.neg_num, h1]
    by_cases c : p.num < 0
    · rw [decide_eq_true c, decide_eq_false (show ¬ -p.num < 0 by omega)]; rfl
    · rw [decide_eq_false c]
      by_cases d : p.num = 0
      · rw [decide_eq_false (by simpa using d), decide_eq_false (by omega)]; rfl
      · rw [decide_eq_true d, decide_eq_true (by omega)]; rfl
  · rw [Rat.neg_num, Int.natAbs_neg]; exact h2
  · rw [Rat.neg_den]; exact h3
theorem num_Neg_sp (hv : RB WW v p) (hp : Sz WW K p) (h : K < 1073741824) : ∃ r, Ev (fun k => num_Neg k v) r ∧ RB WW r (-p) ∧ Sz WW K (-p) := by
  refine ⟨_, Ev.step (fun k => num_Neg_eq k v) (Ev.bind (num_Copy_sp hv hp h) (Ev.bind (?_ : Ev _ (!v.1 && decide (p.num ≠ 0))) (evs _))), rb_neg hv, sz_neg hp⟩
  rw [len_gt WW_pos hv.2.1]
  have e : decide ((p.num.natAbs : Int) ≠ 0) = decide (p.num ≠ 0) := by
    by_cases c : p.num = 0
    · rw [c]; rfl
    · rw [decide_eq_true (by omega), decide_eq_true c]
  rw [e]
  cases v.1 with
  | true => exact evs _
  | false => exact evs _
theorem num_Sub_sp (hv : RB WW v p) (hw : RB WW w q) (hp : Sz WW K p) (hq : Sz WW L q) (h : K + L < 268435456) : ∃ r, Ev (fun k => num_Sub k v w) r ∧ RB WW r (p - q) ∧ Sz WW (K + L + 1) (p - q) := by
  obtain ⟨x, x1, x2, x3⟩ := num_Neg_sp hw hq (by omega)
  obtain ⟨r, r1, r2, r3⟩ := num_Add_sp hv x2 hp x3 h
  rw [← Rat.sub_eq_add_neg] at r2 r3
  exact ⟨r, Ev.step (fun k => num_Sub_eq k v w) (Ev.bind x1 (Ev.bind r1 (evs _))), r2, r3⟩
theorem sz_inv {B : Int} (hp : Sz B K p) (h0 : p ≠ 0) : Sz B K p⁻¹ := by
  have hn : p.num ≠ 0 := fun e => h0 (Rat.num_eq_zero.1 e)
  obtain ⟨h1, h2⟩ := hp
  refine ⟨?_, ?_⟩
  · rw [Rat.num_inv, Int.natAbs_mul, Int.natAbs_sign_of_ne_zero hn]; omega
  · rw [Rat.den_inv, if_neg hn]; exact h1
theorem rb_inv {B : Int} (hv : RB B v p) (h0 : p ≠ 0) : RB B (v.1, v.2.2.1, v.2.1, ()) p⁻¹ := by
  have hn : p.num ≠ 0 := fun e => h0 (Rat.num_eq_zero.1 e)
  obtain ⟨h1, h2, h3⟩ := hv
  have dp := den_pos' p
  refine ⟨?_, ?_, ?_⟩
  · show v.1 = _
    rw [h1, Rat.num_inv]
    by_cases c : p.num < 0
    · rw [Int.sign_eq_neg_one_of_neg c, decide_eq_true c, decide_eq_true (by omega)]
    · rw [Int.sign_eq_one_of_pos (by omega), decide_eq_false c, decide_eq_false (by omega)]
  · rw [Rat.num_inv, Int.natAbs_mul, Int.natAbs_sign_of_ne_zero hn]
    simpa using h3
  · rw [Rat.den_inv, if_neg hn]; exact h2
theorem num_Inv_sp (hv : RB WW v p) (hp : Sz WW K p) (h0 : p ≠ 0) (h : K < 1073741824) : ∃ r, Ev (fun k => num_Inv k v) r ∧ RB WW r p⁻¹ ∧ Sz WW K p⁻¹ := by
  obtain ⟨lv1, lv2⟩ := sz_len WW_one hv hp
  exact ⟨_, Ev.step (fun k => num_Inv_eq k v) (iT (by omega) (iT (by omega) (evs _))), rb_inv hv h0, sz_inv hp h0⟩
theorem num_Div_sp (hv : RB WW v p) (hw : RB WW w q) (hp : Sz WW K p) (hq : Sz WW L q) (h0 : q ≠ 0) (h : K + L < 1073741824) : ∃ r, Ev (fun k => num_Div k v w) r ∧ RB WW r (p / q) ∧ Sz WW (K + L) (p / q) := by
  obtain ⟨x, x1, x2, x3⟩ := num_Inv_sp hw hq h0 (by omega)
  obtain ⟨r, r1, r2, r3⟩ := num_Mul_sp hv x2 hp x3 h
  rw [← Rat.div_def] at r2 r3
  exact ⟨r, Ev.step (fun k => num_Div_eq k v w) (Ev.bind x1 (Ev.bind r1 (evs _))), r2, r3⟩
def sgn (q : Rat) : Int := if q < 0 then -1 else if q = 0 then 0 else 1
theorem num_lt_zero {q : Rat} : q.num < 0 ↔ q < 0 := by
  rw [Rat.lt_iff]
  simp
theorem len_beq {B : Int} (hB : 0 < B) (hv : RB B v p) : ((List.length v.2.1 : Int) == (0 : Int)) = decide (p = 0) := by
  by_cases c : p = 0
  · rw [len_eq hB hv.2.1 (by rw [c]; rfl), decide_eq_true c]
    rfl
  · rw [decide_eq_false c]
    exact len_ne hB hv.2.1 (fun e => c (Rat.num_eq_zero.1 (by omega)))
theorem num_Sign_sp (hv : RB WW v p) : Ev (fun k => num_Sign k v) (sgn p) := by
  refine Ev.step (fun k => num_Sign_eq k v) ?_
  rw [len_beq WW_pos hv, hv.1]
  unfold sgn
  by_cases c : p = 0
  · refine bT (decide_eq_true c) ?_
    rw [if_neg (by rw [c]; exact Rat.lt_irrefl), if_pos c]
    exact evs _
  · refine bF (decide_eq_false c) ?_
    by_cases d : p < 0
    · rw [if_pos d]
      exact bT (decide_eq_true (num_lt_zero.2 d)) (evs _)
    · rw [if_neg d, if_neg c]
      exact bF (decide_eq_false (fun e => d (num_lt_zero.1 e))) (evs _)
def cmpq (p q : Rat) : Int := if p < q then -1 else if p = q then 0 else 1
theorem sgn_vals (p : Rat) : (sgn p = -1 ∧ p < 0) ∨ (sgn p = 0 ∧ p = 0) ∨ (sgn p = 1 ∧ 0 < p) := by
  unfold sgn
  by_cases c : p < 0
  · exact .inl ⟨if_pos c, c⟩
  · by_cases d : p = 0
    · exact .inr (.inl ⟨by rw [if_neg c, if_pos d], d⟩)
    · exact .inr (.inr ⟨by rw [if_neg c, if_neg d], Rat.lt_of_le_of_ne (Rat.not_lt.1 c) (Ne.symm d)⟩)
theorem num_Cmp_sp (hv : RB WW v p) (hw : RB WW w q) (hp : Sz WW K p) (hq : Sz WW L q) (h : K + L < 1073741824) : Ev (fun k => num_Cmp k v w) (cmpq p q) := by
  refine Ev.step (fun k => num_Cmp_eq k v w) (Ev.bind (num_Sign_sp hv) (Ev.bind (num_Sign_sp hw) ?_))
  obtain ⟨lv1, lv2⟩ := sz_len WW_one hv hp
  obtain ⟨lw1, lw2⟩ := sz_len WW_one hw hq
  have lt_of : p < q → cmpq p q = -1 := fun h => by unfold cmpq; rw [if_pos h]
  have gt_of : q < p → cmpq p q = 1 := fun h => by
    unfold cmpq
    rw [if_neg (by grind), if_neg (by grind)]
  by_cases hs : sgn p = sgn q
  · refine bF (by rw [hs]; simp) ?_
    obtain ⟨x, x1, x2, x3⟩ := q_Mul (by omega) hv.2.1 hw.2.2
    obtain ⟨y, y1, y2, y3⟩ := q_Mul (by omega) hw.2.1 hv.2.2
    have hc := q_Cmp (by omega) x2 y2
    refine Ev.bind x1 (Ev.bind y1 (Ev.bind hc ?_))
    have dp := den_pos' p
    have dq := den_pos' q
    have key : cmpq p q = cmpi (p.num * q.den) (q.num * p.den) := by
      unfold cmpq P.cmpi
      simp only [Rat.lt_iff, Rat.eq_iff_mul_eq_mul]
    rw [hv.1]
    by_cases c : p < 0
    · have c' : q < 0 := by
        rcases sgn_vals p with h1 | h1 | h1 <;> rcases sgn_vals q with h2 | h2 | h2 <;> first | exact h2.2 | omega | (exfalso; grind)
      refine bT (decide_eq_true (num_lt_zero.2 c)) ?_
      have e1 : (p.num.natAbs : Int) * q.den = -(p.num * q.den) := by
        rw [← Int.neg_mul]; congr 1; have := num_lt_zero.2 c; omega
      have e2 : (q.num.natAbs : Int) * p.den = -(q.num * p.den) := by
        rw [← Int.neg_mul]; congr 1; have := num_lt_zero.2 c'; omega
      rw [e1, e2, key]
      have : wrap64 (-(cmpi (-(p.num * q.den)) (-(q.num * p.den)))) = cmpi (p.num * q.den) (q.num * p.den) := by
        generalize p.num * q.den = x
        generalize q.num * p.den = y
        unfold P.cmpi
        by_cases h1 : x < y
        · rw [if_pos h1, if_neg (by omega), if_neg (by omega)]; exact w64 (by omega) (by omega)
        · by_cases h2 : x = y
          · rw [if_neg h1, if_pos h2, if_neg (by omega), if_pos (by omega)]; exact w64 (by omega) (by omega)
          · rw [if_neg h1, if_neg h2, if_pos (by omega)]; exact w64 (by omega) (by omega)
      rw [this]
      exact evs _
    · have c' : ¬ q < 0 := by
        rcases sgn_vals p with h1 | h1 | h1 <;> rcases sgn_vals q with h2 | h2 | h2 <;> first | omega | grind
      refine bF (decide_eq_false (fun e => c (num_lt_zero.1 e))) ?_
      have e1 : (p.num.natAbs : Int) = p.num := by have : ¬ p.num < 0 := fun e => c (num_lt_zero.1 e); omega
      have e2 : (q.num.natAbs : Int) = q.num := by have : ¬ q.num < 0 := fun e => c' (num_lt_zero.1 e); omega
      rw [e1, e2, key]
      exact evs _
  · refine bT (by simpa using hs) ?_
    by_cases hl : sgn p < sgn q
    · refine bT (decide_eq_true hl) ?_
      rw [lt_of (by rcases sgn_vals p with h1 | h1 | h1 <;> rcases sgn_vals q with h2 | h2 | h2 <;> first | omega | grind)]
      exact evs _
    · refine bF (decide_eq_false hl) ?_
      rw [gt_of (by rcases sgn_vals p with h1 | h1 | h1 <;> rcases sgn_vals q with h2 | h2 | h2 <;> first | omega | grind)]
      exact evs _
end
end Go.Proofs.Ytfpolhoabfadnaa.Q
end
section
namespace Go.Proofs.Ytfpolhoabfadnaa.Q
open Go.RowKit Go.Proofs.YtfpolhoabfadnaaW.PrintWords Go.Proofs.YtfpolhoabfadnaaW.PrintMore Go.Proofs.Ytfpolhoabfadnaa.V Go.Proofs.Ytfpolhoabfadnaa.E
open Go.Proofs.Ytfpolhoabfadnaa.P (Dg Nm vl WW RR can_uniq gI evs evk evb cmpi WW_pos WW_one w64 u64)
set_option linter.unusedVariables false
section
variable {v w : RatD} {p q : Rat} {K L : Nat}
theorem divInt_one (x : Int) : Rat.divInt x 1 = (x : Rat) := by rw [Rat.divInt_eq_div]; simp; grind
theorem floor_sg (p : Rat) : p.floor = p.num / (p.den : Int) := Rat.floor_def p
theorem floor_mag (p : Rat) : p.floor = (if p.num < 0 then (if (p.num.natAbs : Int) % p.den > 0 then -((p.num.natAbs : Int) / p.den + 1) else -((p.num.natAbs : Int) / p.den)) else (p.num.natAbs : Int) / p.den) := by
  rw [floor_sg]
  have dp := den_pos' p
  generalize (p.den : Int) = d at dp
  by_cases c : p.num < 0
  · rw [if_pos c]
    have e : p.num = -(p.num.natAbs : Int) := by omega
    generalize (p.num.natAbs : Int) = n at e
    rw [e]
    have h1 := Int.emod_add_mul_ediv n d
    have h2 := Int.emod_nonneg n (show d ≠ 0 by omega)
    have h3 := Int.emod_lt_of_pos n dp
    by_cases h : n % d > 0
    · rw [if_pos h]
      exact ((Int.ediv_emod_unique (r := d - n % d) (q := -(n / d + 1)) dp).2 ⟨by grind, by omega, by omega⟩).1
    · rw [if_neg h]
      exact ((Int.ediv_emod_unique (r := 0) (q := -(n / d)) dp).2 ⟨by grind, by omega, by omega⟩).1
  · rw [if_neg c]
    congr 1
    omega
theorem num_Floor_sp (hv : RB WW v p) (hp : Sz WW K p) (h : K < 268435456) : ∃ r, Ev (fun k => num_Floor k v) r ∧ RB WW r (p.floor : Rat) ∧ Sz WW (K + 1) (p.floor : Rat) := by
  obtain ⟨lv1, lv2⟩ := sz_len WW_one hv hp
  obtain ⟨x, y, x1, x2, x3⟩ := q_DivMod (by omega) hv.2.1 hv.2.2 (den_pos' p)
  have n0 : (0 : Int) ≤ (p.num.natAbs : Int) / p.den := Int.ediv_nonneg (by omega) (by omega)
  have lx : x.length ≤ K := x2.len_le WW_one (Int.lt_of_le_of_lt (Int.ediv_le_self _ (by omega)) hp.1)
  have hfl := floor_mag p
  have hK : 1 ≤ K := by
    rcases Nat.eq_zero_or_pos K with c | c
    · have h1 := hp.2
      have h2 := den_pos' p
      rw [c] at h1
      simp at h1
      omega
    · exact c
  have fin : ∀ (z : List Int) (Z : Int), z.length ≤ K + 1 → P.Can WW z Z → sg v.1 Z = p.floor → ∃ r, Ev (fun k => num_Floor.j0 k z v (false, [], [], ())) r ∧ RB WW r (p.floor : Rat) ∧ Sz WW (K + 1) (p.floor : Rat) := fun z Z hz cz e => by
    obtain ⟨r, r1, r2⟩ := num_Make_sp (s := v.1) (by omega) (by simp) cz (can1 WW_one) (by decide)
    rw [e, divInt_one] at r2
    refine ⟨r, ?_, r2, ?_⟩
    · unfold num_Floor.j0
      exact Ev.bind r1 (evs _)
    · have hs := sz_frac (B := WW) (s := v.1) (y := 1) (K := K + 1) (cz.nonneg WW_pos) (by decide) (Int.lt_of_lt_of_le (cz.lt WW_pos) (P.pow_le (by decide) hz)) (Int.lt_of_lt_of_le (show (1 : Int) < WW ^ 1 by decide) (P.pow_le (by decide) (by omega)))
      rw [e, divInt_one] at hs
      exact hs
  have hr : decide ((List.length y : Int) > 0) = decide ((p.num.natAbs : Int) % p.den ≠ 0) := len_gt WW_pos x3
  have hm := Int.emod_nonneg (p.num.natAbs : Int) (show (p.den : Int) ≠ 0 by have := den_pos' p; omega)
  by_cases c : p.num < 0
  · have hv1 : v.1 = true := by rw [hv.1, decide_eq_true c]
    rw [if_pos c] at hfl
    by_cases d : (p.num.natAbs : Int) % p.den > 0
    · rw [if_pos d] at hfl
      obtain ⟨z, z1, z2, z3⟩ := q_Add (by omega) (by simp) x2 (can1 WW_one)
      obtain ⟨r, r1, r2⟩ := fin z _ (by simp at z3; omega) z2 (by rw [hv1, hfl]; rfl)
      refine ⟨r, Ev.step (fun k => num_Floor_eq k v) (Ev.bind x1 (Ev.bind (a := true) ?_ (bT rfl (Ev.bind z1 r1)))), r2⟩
      rw [hv1]
      refine bT rfl ?_
      have : decide ((List.length y : Int) > 0) = true := by rw [hr]; exact decide_eq_true (by omega)
      show Ev (fun _ => some (decide ((List.length y : Int) > 0))) true
      rw [this]
      exact evs _
    · rw [if_neg d] at hfl
      obtain ⟨r, r1, r2⟩ := fin x _ (by omega) x2 (by rw [hv1, hfl]; rfl)
      refine ⟨r, Ev.step (fun k => num_Floor_eq k v) (Ev.bind x1 (Ev.bind (a := false) ?_ (bF rfl r1))), r2⟩
      rw [hv1]
      refine bT rfl ?_
      have : decide ((List.length y : Int) > 0) = false := by rw [hr]; exact decide_eq_false (by omega)
      show Ev (fun _ => some (decide ((List.length y : Int) > 0))) false
      rw [this]
      exact evs _
  · have hv1 : v.1 = false := by rw [hv.1, decide_eq_false c]
    rw [if_neg c] at hfl
    obtain ⟨r, r1, r2⟩ := fin x _ (by omega) x2 (by rw [hv1, hfl]; rfl)
    refine ⟨r, Ev.step (fun k => num_Floor_eq k v) (Ev.bind x1 (Ev.bind (a := false) ?_ (bF rfl r1))), r2⟩
    rw [hv1]
    exact bF rfl (evs _)
theorem num_Equal_sp (hv : RB WW v p) (hw : RB WW w q) (hp : Sz WW K p) (hq : Sz WW L q) (h : K + L < 1073741824) : Ev (fun k => num_Equal k v w) (decide (p = q)) := by
  obtain ⟨lv1, lv2⟩ := sz_len WW_one hv hp
  obtain ⟨lw1, lw2⟩ := sz_len WW_one hw hq
  have c1 := q_Cmp (by omega) hv.2.1 hw.2.1
  have c2 := q_Cmp (by omega) hv.2.2 hw.2.2
  have beq : ∀ x y : Int, (cmpi x y == (0 : Int)) = decide (x = y) := fun x y => by
    unfold P.cmpi
    by_cases a : x < y
    · rw [if_pos a, decide_eq_false (by omega)]; rfl
    · by_cases b : x = y
      · rw [if_neg a, if_pos b, decide_eq_true b]; rfl
      · rw [if_neg a, if_neg b, decide_eq_false b]; rfl
  refine Ev.step (fun k => num_Equal_eq k v w) ?_
  refine Ev.bind (a := (v.1 == w.1) && decide ((p.num.natAbs : Int) = q.num.natAbs)) ?_ (Ev.bind (a := (v.1 == w.1) && decide ((p.num.natAbs : Int) = q.num.natAbs) && decide ((p.den : Int) = q.den)) ?_ ?_)
  · by_cases a : (v.1 == w.1) = true
    · rw [a]
      have := Ev.bind (f := fun _ z => some (z == (0 : Int))) c1 (evs (cmpi (p.num.natAbs : Int) q.num.natAbs == (0 : Int)))
      rw [beq] at this
      exact bT rfl this
    · rw [Bool.eq_false_iff.2 a]
      exact bF rfl (evs _)
  · by_cases a : ((v.1 == w.1) && decide ((p.num.natAbs : Int) = q.num.natAbs)) = true
    · rw [a]
      have := Ev.bind (f := fun _ z => some (z == (0 : Int))) c2 (evs (cmpi (p.den : Int) q.den == (0 : Int)))
      rw [beq] at this
      exact bT rfl this
    · rw [Bool.eq_false_iff.2 a]
      exact bF rfl (evs _)
  · have e : ((v.1 == w.1) && decide ((p.num.natAbs : Int) = q.num.natAbs) && decide ((p.den : Int) = q.den)) = decide (p = q) := by
      rw [hv.1, hw.1]
      by_cases c : p = q
      · subst c; simp
      · rw [decide_eq_false c]
        by_cases d : p.num = q.num
        · by_cases f : p.den = q.den
          · exact absurd (Rat.ext d f) c
          · have : decide ((p.den : Int) = q.den) = false := decide_eq_false (by omega)
            rw [this, Bool.and_false]
        · by_cases s : p.num < 0 <;> by_cases t : q.num < 0 <;> simp [s, t] <;> omega
    rw [e]
    exact evs _
theorem num_One_ev : Ev (fun k => num_One k) (false, [1], [1], ()) := by
  obtain ⟨x, x1, x2⟩ := P.mag_From_sp (a := 1) (by decide) (by decide)
  obtain rfl := can_uniq WW_pos x2 (can1 WW_one)
  obtain ⟨r, r1, r2⟩ := num_Make_sp (s := false) (by simp) (by simp) (can1 WW_one) (can1 WW_one) (by decide)
  have e : Rat.divInt (sg false 1) 1 = 1 := by rw [divInt_one]; rfl
  rw [e] at r2
  rw [rb_uniq WW_pos (rb_one WW_one) r2]
  refine Ev.step (fun k => num_One_eq k) (Ev.bind (Ev.step (fun k => num_Int_eq k 1) (bF (by decide) (Ev.bind (Ev.step (fun k => mag_From_eq k _) (by rw [u64 (by decide) (by decide)]; exact x1)) (Ev.bind r1 (evs _))))) (evs _))
theorem sz_one {B : Int} (h : 1 < B) {K : Nat} (hK : 1 ≤ K) : Sz B K 1 := sz_mono (by omega) (sz_of (by omega) (rb_one h) (K := 1) (by simp) (by simp)) hK
theorem num_Fits_sp (hv : RB WW v p) (N : Nat) : ∃ t, Ev (fun k => num_Fits k v (N : Int)) t ∧ (t = true ↔ Sz WW N p) := by
  refine ⟨decide (v.2.1.length ≤ N) && decide (v.2.2.1.length ≤ N), Ev.step (fun k => num_Fits_eq k v _) (Ev.bind ?_ (evs _)), ?_⟩
  · by_cases c : v.2.1.length ≤ N
    · rw [decide_eq_true c]
      refine bT (decide_eq_true (by omega)) ?_
      have : decide ((List.length v.2.2.1 : Int) ≤ N) = (true && decide (v.2.2.1.length ≤ N)) := by
        rw [Bool.true_and]; exact decide_eq_decide.2 (by omega)
      rw [this]
      exact evs _
    · rw [decide_eq_false c]
      exact bF (decide_eq_false (by omega)) (evs _)
  · rw [Bool.and_eq_true, decide_eq_true_eq, decide_eq_true_eq]
    exact ⟨fun h => sz_of WW_pos hv h.1 h.2, fun h => sz_len WW_one hv h⟩
end
end Go.Proofs.Ytfpolhoabfadnaa.Q
end
section
namespace Go.Proofs.Ytfpolhoabfadnaa.Q
open Go.RowKit Go.Proofs.YtfpolhoabfadnaaW.PrintWords Go.Proofs.YtfpolhoabfadnaaW.PrintMore Go.Proofs.Ytfpolhoabfadnaa.V Go.Proofs.Ytfpolhoabfadnaa.E
open Go.Proofs.Ytfpolhoabfadnaa.P (Dg Nm vl WW RR can_uniq gI evs evk evb cmpi WW_pos WW_one RR_pos w64 u64)
set_option linter.unusedVariables false
def Ev2 {α : Type} (g : Nat → Nat → Option α) (r : α) : Prop := ∃ K, ∀ k m, K ≤ k → K ≤ m → g k m = some r
section
variable {α β : Type} {g f : Nat → Nat → Option α} {r : α}
theorem Ev2.diag (h : Ev2 g r) : Ev (fun k => g k k) r := by
  obtain ⟨K, h⟩ := h
  exact ⟨K, fun k hk => h k k hk hk⟩
theorem Ev2.step (h : ∀ k m, g k (m + 1) = f k m) (k : Ev2 f r) : Ev2 g r := by
  obtain ⟨K, k⟩ := k
  refine ⟨K + 1, fun n m hn hm => ?_⟩
  obtain ⟨q, rfl⟩ : ∃ q, m = q + 1 := ⟨m - 1, by omega⟩
  rw [h]
  exact k n q (by omega) (by omega)
theorem Ev2.bind {g : Nat → Option β} {f : Nat → Nat → β → Option α} {a : β} (h : Ev g a) (k : Ev2 (fun n m => f n m a) r) : Ev2 (fun n m => (g n).bind (f n m)) r := by
  obtain ⟨K, h⟩ := h
  obtain ⟨K', k⟩ := k
  refine ⟨max K K', fun n m hn hm => ?_⟩
  have h1 := h n (by omega)
  simp only [h1, Option.bind_some]
  exact k n m (by omega) (by omega)
theorem Ev2.bT {c : Bool} (hc : c = true) (h : Ev2 f r) : Ev2 (fun k m => bif c then f k m else g k m) r := by subst hc; exact h
theorem Ev2.bF {c : Bool} (hc : c = false) (h : Ev2 g r) : Ev2 (fun k m => bif c then f k m else g k m) r := by subst hc; exact h
theorem Ev2.iT {c : Prop} [Decidable c] (hc : c) (h : Ev2 f r) : Ev2 (fun k m => if c then f k m else none) r := by simpa only [if_pos hc] using h
theorem Ev2.of {g : Nat → Option α} (h : Ev g r) : Ev2 (fun k _ => g k) r := by
  obtain ⟨K, h⟩ := h
  exact ⟨K, fun k m hk _ => h k hk⟩
end
theorem RR_one : (1 : Int) < RR := by decide
section
variable {a b : List Int} {n m : Int}
theorem s_Mul (hn : a.length + b.length < 68719476736) (ha : P.Can RR a n) (hb : P.Can RR b m) : ∃ r, Ev (fun k => isochroneref01_Mul k a b) r ∧ P.Can RR r (n * m) ∧ r.length ≤ a.length + b.length := by
  obtain ⟨r, h1, h2⟩ := P.r_Mul_sp hn ha hb
  exact ⟨r, Ev.step (fun k => isochroneref01_Mul_eq k a b) h1, h2⟩
theorem s_Add (hn : a.length + b.length < 68719476736) (ha : P.Can RR a n) (hb : P.Can RR b m) : ∃ r, Ev (fun k => isochroneref01_Add k a b) r ∧ P.Can RR r (n + m) ∧ r.length ≤ max a.length b.length + 1 := by
  obtain ⟨r, h1, h2⟩ := P.r_Add_sp hn ha hb
  exact ⟨r, Ev.step (fun k => isochroneref01_Add_eq k a b) h1, h2⟩
theorem s_Sub (hn : a.length < 68719476736) (ha : P.Can RR a n) (hb : P.Can RR b m) (hle : m ≤ n) : ∃ r, Ev (fun k => isochroneref01_Sub k a b) r ∧ P.Can RR r (n - m) ∧ r.length ≤ a.length := by
  obtain ⟨r, h1, h2⟩ := P.r_Sub_sp hn ha hb hle
  exact ⟨r, Ev.step (fun k => isochroneref01_Sub_eq k a b) h1, h2⟩
theorem s_Cmp (hn : a.length < 4611686018427387904) (ha : P.Can RR a n) (hb : P.Can RR b m) : Ev (fun k => isochroneref01_Cmp k a b) (cmpi n m) := Ev.step (fun k => isochroneref01_Cmp_eq k a b) (P.isochroneref01_Cmp_sp hn ha hb)
theorem s_GCD (la : a.length < 1073741824) (lb : b.length < 1073741824) (ha : P.Can RR a n) (hb : P.Can RR b m) : ∃ r, Ev (fun k => isochroneref01_GCD k a b) r ∧ P.Can RR r (gI n m) := by
  obtain ⟨r, h1, h2⟩ := P.r_GCD_sp la lb ha hb
  exact ⟨r, Ev.step (fun k => isochroneref01_GCD_eq k a b) h1, h2⟩
theorem s_DivMod (hn : a.length < 1073741824) (hb : b.length < 1073741824) (ha : P.Can RR a n) (cb : P.Can RR b m) (hm : 0 < m) : ∃ q r, Ev (fun k => isochroneref01_DivMod k a b) (q, r, ()) ∧ P.Can RR q (n / m) ∧ P.Can RR r (n % m) := by
  obtain ⟨q, r, h1, h2, h3, _⟩ := P.r_DivMod_sp hn hb ha cb hm
  exact ⟨q, r, Ev.step (fun k => isochroneref01_DivMod_eq k a b) (evmap (g := fun r : List Int × List Int => (r.1, r.2, ())) h1), h2, h3⟩
theorem s_Words (hn : a.length < 1073741824) (ha : P.Can RR a n) : ∃ r, Ev (fun k => isochroneref01_Words k a) r ∧ P.Can WW r n := by
  obtain ⟨r, h1, h2⟩ := P.r_Words_sp hn ha
  exact ⟨r, Ev.step (fun k => isochroneref01_Words_eq k a) h1, h2⟩
theorem s_Small {k0 c0 : Int} (hn : a.length < 549755813888) (ha : P.Can RR a n) (hk : 0 ≤ k0 ∧ k0 ≤ 65536) (hc : 0 ≤ c0 ∧ c0 ≤ 65536) : ∃ r, Ev (fun k => isochroneref01_Small k a k0 c0) r ∧ P.Can RR r (n * k0 + c0) ∧ r.length ≤ a.length + 2 := by
  obtain ⟨r, h1, h2⟩ := P.r_Small_sp hn ha hk hc
  exact ⟨r, Ev.step (fun k => isochroneref01_Small_eq k a k0 c0) h1, h2⟩
theorem s_Int {a : Int} (h0 : 0 ≤ a) (h1 : a < 10000000000000) : ∃ r, Ev (fun k => isochroneref01_Int k a) r ∧ P.Can RR r a := by
  obtain ⟨r, h1, h2⟩ := P.r_Int_sp h0 h1
  exact ⟨r, Ev.step (fun k => isochroneref01_Int_eq k _) h1, h2⟩
theorem rdT_rd (l : List Int) (i : Int) : (rdT (t := (.int .u32)) l i : Int) = rd l i := rfl
theorem s_Of_ev {a : List Int} (hn : a.length < 137438953472) (ha : Dg WW a) (d : Nat) : ∀ (i : Nat) (o : List Int), i = d → i ≤ a.length → P.Can RR o (vl WW (a.drop i)) → o.length ≤ 4 * (a.length - i) → ∃ r, Ev2 (fun k m => isochroneref01_Of.l0 k m a o ((i : Int) - 1)) r ∧ P.Can RR r (vl WW a) ∧ r.length ≤ 4 * a.length := by
  induction d with
  | zero =>
    rintro i o rfl h1 h2 h3
    exact ⟨o, Ev2.step (fun k m => isochroneref01_Of.l0_succ k m _ _ _) (Ev2.bF (decide_eq_false (by omega)) (Ev2.of (evs _))), by simpa using h2, by omega⟩
  | succ d ih =>
    rintro i o rfl h1 h2 h3
    have e1 : (((d + 1 : Nat) : Int) - 1) = (d : Int) := by omega
    have hx := P.dg_rd ha (d : Int) (by omega) (by omega)
    rw [P.WW_eq] at hx
    obtain ⟨p, h4, h5, h6⟩ := s_Small (k0 := 65536) (c0 := rd a d / 65536) (by omega) h2 (by omega) (by omega)
    obtain ⟨q, h7, h8, h9⟩ := s_Small (k0 := 65536) (c0 := rd a d % 65536) (by omega) h5 (by omega) (by omega)
    have ea : a.drop d = rd a d :: a.drop (d + 1) := by rw [P.rd_lt a d (by omega)]; exact (List.drop_eq_getElem_cons (by omega))
    have ev : (vl WW (a.drop (d + 1)) * 65536 + rd a d / 65536) * 65536 + rd a d % 65536 = vl WW (a.drop d) := by
      rw [ea, vl, P.WW_eq]
      omega
    rw [ev] at h8
    obtain ⟨r, h10, h11⟩ := ih d q rfl (by omega) h8 (by omega)
    refine ⟨r, Ev2.step (fun k m => isochroneref01_Of.l0_succ k m _ _ _) ?_, h11⟩
    have e2 : shr .u32 (rd a (d : Int)) 16 = rd a d / 65536 := rfl
    rw [e1]
    simp only [rdT_rd]
    rw [e2, P.and16 hx.1 hx.2, w64 (x := rd a d / 65536) (by omega) (by omega), w64 (x := rd a d % 65536) (by omega) (by omega), w64 (x := (d : Int) - 1) (by omega) (by omega)]
    exact Ev2.bT (decide_eq_true (by omega)) (Ev2.iT (by omega) (Ev2.bind h4 (Ev2.iT (by omega) (Ev2.bind h7 h10))))
theorem s_Of {a : List Int} {n : Int} (hn : a.length < 137438953472) (ha : P.Can WW a n) : ∃ r, Ev (fun k => isochroneref01_Of k a) r ∧ P.Can RR r n ∧ r.length ≤ 4 * a.length := by
  obtain ⟨r, h1, h2⟩ := s_Of_ev hn ha.1 a.length a.length [] rfl (Nat.le_refl _) (by rw [List.drop_length]; exact P.Can.zero _) (by simp)
  rw [ha.2.2] at h2
  refine ⟨r, Ev.step (fun k => isochroneref01_Of_eq k a) ?_, h2⟩
  rw [w64 (x := (a.length : Int) - 1) (by omega) (by omega)]
  exact h1.diag
end
end Go.Proofs.Ytfpolhoabfadnaa.Q
end
section
namespace Go.Proofs.Ytfpolhoabfadnaa.Q
open Go.RowKit Go.Proofs.YtfpolhoabfadnaaW.PrintWords Go.Proofs.YtfpolhoabfadnaaW.PrintMore Go.Proofs.Ytfpolhoabfadnaa.V Go.Proofs.Ytfpolhoabfadnaa.E
open Go.Proofs.Ytfpolhoabfadnaa.P (Dg Nm vl WW RR can_uniq gI evs evk evb cmpi WW_pos WW_one RR_pos w64 u64)
set_option linter.unusedVariables false
section
variable {a b : List Int} {n m : Int} {v w : RatD} {p q : Rat} {K L : Nat}
theorem is_one {l : List Int} {z : Int} (h : P.Can RR l z) : (bif (List.length l : Int) == (1 : Int) then if 0 ≤ (0 : Int) ∧ (0 : Int) < (List.length l : Int) then some ((rdT (t := (.int .i64)) l (0 : Int) : Int) == (1 : Int)) else none else some false) = some (decide (z = 1)) := by
  match l, h with
  | [], h =>
    have : z = 0 := by have := h.2.2; simp [vl] at this; exact this.symm
    subst this
    rfl
  | [x], h =>
    have hx : x = z := by have := h.2.2; simp [vl] at this; exact this
    have hr : (rdT (t := (.int .i64)) [x] (0 : Int) : Int) = x := rfl
    rw [hr, hx]
    simp
    by_cases c : z = 1 <;> simp [c]
  | x :: y :: t, h =>
    have h1 : ((List.length (x :: y :: t) : Int) == (1 : Int)) = false := by simp; omega
    have h2 : RR ≤ z := by
      have := h.ge RR_pos (by simp)
      refine Int.le_trans ?_ this
      have := P.pow_le (B := RR) (by decide) (i := 1) (j := (x :: y :: t).length - 1) (by simp)
      rw [Int.pow_succ, Int.pow_zero, Int.one_mul] at this
      exact this
    have : RR = 10000 := rfl
    rw [h1, decide_eq_false (by omega)]
    rfl
theorem is_one' {l : List Int} {z : Int} (h : P.Can WW l z) : (bif (List.length l : Int) == (1 : Int) then if 0 ≤ (0 : Int) ∧ (0 : Int) < (List.length l : Int) then some ((rdT (t := (.int .u32)) l (0 : Int) : Int) == (1 : Int)) else none else some false) = some (decide (z = 1)) := by
  match l, h with
  | [], h =>
    have : z = 0 := by have := h.2.2; simp [vl] at this; exact this.symm
    subst this
    rfl
  | [x], h =>
    have hx : x = z := by have := h.2.2; simp [vl] at this; exact this
    have hr : (rdT (t := (.int .u32)) [x] (0 : Int) : Int) = x := rfl
    rw [hr, hx]
    simp
    by_cases c : z = 1 <;> simp [c]
  | x :: y :: t, h =>
    have h1 : ((List.length (x :: y :: t) : Int) == (1 : Int)) = false := by simp; omega
    have h2 : WW ≤ z := by
      have := h.ge WW_pos (by simp)
      refine Int.le_trans ?_ this
      have := P.pow_le (B := WW) (by decide) (i := 1) (j := (x :: y :: t).length - 1) (by simp)
      rw [Int.pow_succ, Int.pow_zero, Int.one_mul] at this
      exact this
    have : WW = 4294967296 := rfl
    rw [h1, decide_eq_false (by omega)]
    rfl
theorem ref_Zero_ev : Ev (fun k => isochroneref02_Zero k) (false, [], [1], ()) := Ev.step (fun k => isochroneref02_Zero_eq k) (evs _)
theorem ref_Make_sp {s : Bool} (la : a.length < 1073741824) (lb : b.length < 1073741824) (ha : P.Can RR a n) (hb : P.Can RR b m) (hm : 0 < m) : ∃ r, Ev (fun k => isochroneref02_Make k s a b) r ∧ RB RR r (Rat.divInt (sg s n) m) := by
  have n0 := ha.nonneg RR_pos
  by_cases hn : n = 0
  · obtain rfl := len_eq RR_pos ha hn
    refine ⟨_, Ev.step (fun k => isochroneref02_Make_eq k s [] b) (bT rfl (Ev.bind ref_Zero_ev (evs _))), ?_⟩
    rw [hn, frac_zero]
    exact rb_zero RR_one
  · have done : gI n m = 1 → RB RR (s, a, b, ()) (Rat.divInt (sg s n) m) := fun h1 => by
      have e1 : n / gI n m = n := by rw [h1]; omega
      have e2 : m / gI n m = m := by rw [h1]; omega
      exact rb_frac (by omega) hm (by rw [e1]; exact ha) (by rw [e2]; exact hb)
    by_cases hm1 : m = 1
    · refine ⟨(s, a, b, ()), Ev.step (fun k => isochroneref02_Make_eq k s a b) (bF (len_ne RR_pos ha hn) (Ev.bind (evk (is_one hb)) (bT (decide_eq_true hm1) (evs _)))), done ?_⟩
      unfold P.gI
      rw [hm1]
      simp
    · obtain ⟨g, g1, g2⟩ := s_GCD la lb ha hb
      have gp := gcd_pos (x := n) hm
      by_cases h1 : gI n m = 1
      · exact ⟨(s, a, b, ()), Ev.step (fun k => isochroneref02_Make_eq k s a b) (bF (len_ne RR_pos ha hn) (Ev.bind (evk (is_one hb)) (bF (decide_eq_false hm1) (Ev.bind g1 (Ev.bind (evk (is_one g2)) (bT (decide_eq_true h1) (evs _))))))), done h1⟩
      · have gl : g.length < 1073741824 := Nat.lt_of_le_of_lt (g2.len_le RR_one (Int.lt_of_le_of_lt (P.gI_le hm) (hb.lt RR_pos))) lb
        obtain ⟨u, u', u1, u2, u3⟩ := s_DivMod la gl ha g2 gp
        obtain ⟨v, v', v1, v2, v3⟩ := s_DivMod lb gl hb g2 gp
        exact ⟨(s, u, v, ()), Ev.step (fun k => isochroneref02_Make_eq k s a b) (bF (len_ne RR_pos ha hn) (Ev.bind (evk (is_one hb)) (bF (decide_eq_false hm1) (Ev.bind g1 (Ev.bind (evk (is_one g2)) (bF (decide_eq_false h1) (Ev.bind u1 (Ev.bind v1 (evs _)))))))))
, rb_frac (by omega) hm u2 v2⟩
theorem ref_Mul_sp (hv : RB RR v p) (hw : RB RR w q) (hp : Sz RR K p) (hq : Sz RR L q) (h : K + L < 1073741824) : ∃ r, Ev (fun k => isochroneref02_Mul k v w) r ∧ RB RR r (p * q) ∧ Sz RR (K + L) (p * q) := by
  obtain ⟨lv1, lv2⟩ := sz_len RR_one hv hp
  obtain ⟨lw1, lw2⟩ := sz_len RR_one hw hq
  obtain ⟨x, x1, x2, x3⟩ := s_Mul (by omega) hv.2.1 hw.2.1
  obtain ⟨y, y1, y2, y3⟩ := s_Mul (by omega) hv.2.2 hw.2.2
  have hd : (0 : Int) < (p.den : Int) * q.den := mul_pos' (den_pos' p) (den_pos' q)
  obtain ⟨r, r1, r2⟩ := ref_Make_sp (s := v.1 != w.1) (by omega) (by omega) x2 y2 hd
  have e : Rat.divInt (sg (v.1 != w.1) ((p.num.natAbs : Int) * q.num.natAbs)) ((p.den : Int) * q.den) = p * q := by
    rw [sg_mul, sg_val hv, sg_val hw, ← Rat.divInt_mul_divInt, Rat.num_divInt_den, Rat.num_divInt_den]
  have hs : Sz RR (K + L) (p * q) := by
    rw [← e]
    refine sz_frac (Int.mul_nonneg (by omega) (by omega)) hd ?_ ?_
    · exact Int.lt_of_lt_of_le (x2.lt RR_pos) (P.pow_le (by decide) (by omega))
    · exact Int.lt_of_lt_of_le (y2.lt RR_pos) (P.pow_le (by decide) (by omega))
  rw [e] at r2
  exact ⟨r, Ev.step (fun k => isochroneref02_Mul_eq k v w) (Ev.bind x1 (Ev.bind y1 (Ev.bind r1 (evs _)))), r2, hs⟩
theorem ref_Neg_sp (hv : RB RR v p) (hp : Sz RR K p) : ∃ r, Ev (fun k => isochroneref02_Neg k v) r ∧ RB RR r (-p) ∧ Sz RR K (-p) := by
  by_cases c : p = 0
  · refine ⟨v, Ev.step (fun k => isochroneref02_Neg_eq k v) (bT (by rw [len_beq RR_pos hv]; exact decide_eq_true c) (evs _)), ?_, sz_neg hp⟩
    subst c
    exact hv
  · have hn : p.num ≠ 0 := fun e => c (Rat.num_eq_zero.1 e)
    have h := rb_neg hv
    rw [decide_eq_true hn, Bool.and_true] at h
    obtain ⟨s, x, y, _⟩ := v
    exact ⟨_, Ev.step (fun k => isochroneref02_Neg_eq k _) (bF (by rw [len_beq RR_pos hv]; exact decide_eq_false c) (evs _)), h, sz_neg hp⟩
theorem sz_addR (hp : Sz RR K p) (hq : Sz RR L q) : Sz RR (K + L + 1) (p + q) := by
  have hK : (0 : Int) < RR ^ K := Int.pow_pos (by decide)
  have hL : (0 : Int) < RR ^ L := Int.pow_pos (by decide)
  have e : (RR : Int) ^ (K + L + 1) = RR ^ K * RR ^ L * 10000 := by rw [Int.pow_succ, Int.pow_add]
  obtain ⟨p1, p2⟩ := hp
  obtain ⟨q1, q2⟩ := hq
  have dp := den_pos' p
  have dq := den_pos' q
  have a1 : (p.num.natAbs : Int) * q.den ≤ RR ^ K * RR ^ L := Int.mul_le_mul (by omega) (by omega) (by omega) (by omega)
  have a2 : (q.num.natAbs : Int) * p.den ≤ RR ^ L * RR ^ K := Int.mul_le_mul (by omega) (by omega) (by omega) (by omega)
  have a3 : (p.den : Int) * q.den ≤ RR ^ K * RR ^ L := Int.mul_le_mul (by omega) (by omega) (by omega) (by omega)
  rw [Int.mul_comm (RR ^ L)] at a2
  have hKL : (0 : Int) < RR ^ K * RR ^ L := mul_pos' hK hL
  have hn : ((p.num * q.den + q.num * p.den).natAbs : Int) ≤ (p.num.natAbs : Int) * q.den + (q.num.natAbs : Int) * p.den := by
    have h1 := Int.natAbs_add_le (p.num * q.den) (q.num * p.den)
    rw [Int.natAbs_mul, Int.natAbs_mul] at h1
    simp only [Int.natAbs_natCast] at h1
    have : ((p.num.natAbs * q.den + q.num.natAbs * p.den : Nat) : Int) = (p.num.natAbs : Int) * q.den + (q.num.natAbs : Int) * p.den := by
      rw [Int.natCast_add, Int.natCast_mul, Int.natCast_mul]
    omega
  rw [add_frac]
  constructor
  · rw [Rat.num_divInt, Int.sign_eq_one_of_pos (mul_pos' dp dq), Int.one_mul]
    have : ((p.num * q.den + q.num * p.den) / ((((p.den : Int) * q.den).gcd (p.num * q.den + q.num * p.den) : Nat) : Int)).natAbs ≤ (p.num * q.den + q.num * p.den).natAbs := by
      rw [Int.natAbs_ediv_of_dvd (Int.gcd_dvd_right ..)]
      exact Nat.div_le_self ..
    omega
  · rw [Rat.den_divInt, if_neg (by have := mul_pos' dp dq; omega)]
    have : ((p.den : Int) * q.den).natAbs / (((p.den : Int) * q.den).gcd (p.num * q.den + q.num * p.den)) ≤ ((p.den : Int) * q.den).natAbs := Nat.div_le_self ..
    have := mul_pos' dp dq
    omega
theorem ref_Add_sp (hv : RB RR v p) (hw : RB RR w q) (hp : Sz RR K p) (hq : Sz RR L q) (h : K + L < 268435456) : ∃ r, Ev (fun k => isochroneref02_Add k v w) r ∧ RB RR r (p + q) ∧ Sz RR (K + L + 1) (p + q) := by
  obtain ⟨lv1, lv2⟩ := sz_len RR_one hv hp
  obtain ⟨lw1, lw2⟩ := sz_len RR_one hw hq
  refine (show ∃ r, Ev (fun k => isochroneref02_Add k v w) r ∧ RB RR r (p + q) from ?_).elim fun r hr => ⟨r, hr.1, hr.2, sz_addR hp hq⟩
  obtain ⟨x, x1, x2, x3⟩ := s_Mul (by omega) hv.2.1 hw.2.2
  obtain ⟨y, y1, y2, y3⟩ := s_Mul (by omega) hw.2.1 hv.2.2
  obtain ⟨d, d1, d2, d3⟩ := s_Mul (by omega) hv.2.2 hw.2.2
  have hD := mul_pos' (den_pos' p) (den_pos' q)
  have hadd := add_frac p q
  rw [← sg_val hv, ← sg_val hw, sg_mul_pos, sg_mul_pos] at hadd
  generalize (p.num.natAbs : Int) * q.den = X at x2 hadd
  generalize (q.num.natAbs : Int) * p.den = Y at y2 hadd
  generalize (p.den : Int) * q.den = D at d2 hadd hD
  rw [hadd]
  by_cases hst : v.1 = w.1
  · obtain ⟨z, z1, z2, z3⟩ := s_Add (by omega) x2 y2
    obtain ⟨r, r1, r2⟩ := ref_Make_sp (s := v.1) (by omega) (by omega) z2 d2 hD
    refine ⟨r, Ev.step (fun k => isochroneref02_Add_eq k v w) (Ev.bind x1 (Ev.bind y1 (Ev.bind d1 (bT (by rw [hst]; simp) (Ev.bind z1 (Ev.bind r1 (evs _))))))), ?_⟩
    have : sg v.1 X + sg w.1 Y = sg v.1 (X + Y) := by rw [← hst]; unfold sg; cases v.1 <;> simp <;> omega
    rw [this]
    exact r2
  · have hc := s_Cmp (by omega) x2 y2
    by_cases hxy : Y ≤ X
    · obtain ⟨z, z1, z2, z3⟩ := s_Sub (by omega) x2 y2 hxy
      obtain ⟨r, r1, r2⟩ := ref_Make_sp (s := v.1) (by omega) (by omega) z2 d2 hD
      refine ⟨r, Ev.step (fun k => isochroneref02_Add_eq k v w) (Ev.bind x1 (Ev.bind y1 (Ev.bind d1 (bF (beq_ne hst) (Ev.bind hc (bT (decide_eq_true ?_) (Ev.bind z1 (Ev.bind r1 (evs _))))))))), ?_⟩
      · unfold P.cmpi
        split
        · omega
        · split <;> omega
      · have : sg v.1 X + sg w.1 Y = sg v.1 (X - Y) := by
          unfold sg
          generalize v.1 = s at hst ⊢
          generalize w.1 = t at hst ⊢
          cases s <;> cases t <;> simp at hst ⊢ <;> omega
        rw [this]
        exact r2
    · obtain ⟨z, z1, z2, z3⟩ := s_Sub (by omega) y2 x2 (by omega)
      obtain ⟨r, r1, r2⟩ := ref_Make_sp (s := w.1) (by omega) (by omega) z2 d2 hD
      refine ⟨r, Ev.step (fun k => isochroneref02_Add_eq k v w) (Ev.bind x1 (Ev.bind y1 (Ev.bind d1 (bF (beq_ne hst) (Ev.bind hc (bF (decide_eq_false ?_) (Ev.bind z1 (Ev.bind r1 (evs _))))))))), ?_⟩
      · unfold P.cmpi
        rw [if_pos (by omega)]
        omega
      · have : sg v.1 X + sg w.1 Y = sg w.1 (Y - X) := by
          unfold sg
          generalize v.1 = s at hst ⊢
          generalize w.1 = t at hst ⊢
          cases s <;> cases t <;> simp at hst ⊢ <;> omega
        rw [this]
        exact r2
theorem ref_Sub_sp (hv : RB RR v p) (hw : RB RR w q) (hp : Sz RR K p) (hq : Sz RR L q) (h : K + L < 268435456) : ∃ r, Ev (fun k => isochroneref02_Sub k v w) r ∧ RB RR r (p - q) ∧ Sz RR (K + L + 1) (p - q) := by
  obtain ⟨x, x1, x2, x3⟩ := ref_Neg_sp hw hq
  obtain ⟨r, r1, r2, r3⟩ := ref_Add_sp hv x2 hp x3 h
  rw [← Rat.sub_eq_add_neg] at r2 r3
  exact ⟨r, Ev.step (fun k => isochroneref02_Sub_eq k v w) (Ev.bind x1 (Ev.bind r1 (evs _))), r2, r3⟩
theorem ref_Div_sp (hv : RB RR v p) (hw : RB RR w q) (hp : Sz RR K p) (hq : Sz RR L q) (h0 : q ≠ 0) (h : K + L < 1073741824) : ∃ r, Ev (fun k => isochroneref02_Div k v w) r ∧ RB RR r (p / q) ∧ Sz RR (K + L) (p / q) := by
  obtain ⟨r, r1, r2, r3⟩ := ref_Mul_sp hv (rb_inv hw h0) hp (sz_inv hq h0) h
  rw [← Rat.div_def] at r2 r3
  exact ⟨r, Ev.step (fun k => isochroneref02_Div_eq k v w) (Ev.bind r1 (evs _)), r2, r3⟩
theorem ref_Sign_sp (hv : RB RR v p) : Ev (fun k => isochroneref02_Sign k v) (sgn p) := by
  refine Ev.step (fun k => isochroneref02_Sign_eq k v) ?_
  rw [len_beq RR_pos hv, hv.1]
  unfold sgn
  by_cases c : p = 0
  · refine bT (decide_eq_true c) ?_
    rw [if_neg (by rw [c]; exact Rat.lt_irrefl), if_pos c]
    exact evs _
  · refine bF (decide_eq_false c) ?_
    by_cases d : p < 0
    · rw [if_pos d]
      exact bT (decide_eq_true (num_lt_zero.2 d)) (evs _)
    · rw [if_neg d, if_neg c]
      exact bF (decide_eq_false (fun e => d (num_lt_zero.1 e))) (evs _)
theorem sgn_sub (p q : Rat) : sgn (p - q) = cmpq p q := by
  unfold sgn cmpq
  by_cases h : p < q
  · rw [if_pos h, if_pos (by grind)]
  · rw [if_neg h, if_neg (by grind)]
    by_cases e : p = q
    · rw [if_pos e, if_pos (by grind)]
    · rw [if_neg e, if_neg (by grind)]
theorem ref_Cmp_sp (hv : RB RR v p) (hw : RB RR w q) (hp : Sz RR K p) (hq : Sz RR L q) (h : K + L < 268435456) : Ev (fun k => isochroneref02_Cmp k v w) (cmpq p q) := by
  obtain ⟨r, r1, r2, r3⟩ := ref_Sub_sp hv hw hp hq h
  have hs := ref_Sign_sp r2
  rw [sgn_sub] at hs
  exact Ev.step (fun k => isochroneref02_Cmp_eq k v w) (Ev.bind r1 (Ev.bind hs (evs _)))
theorem ref_Of_sp (hv : RB WW v p) (hp : Sz WW K p) (h : K < 1073741824) : ∃ r, Ev (fun k => isochroneref02_Of k v) r ∧ RB RR r p ∧ Sz RR (4 * K) p := by
  obtain ⟨lv1, lv2⟩ := sz_len WW_one hv hp
  obtain ⟨x, x1, x2, x3⟩ := s_Of (by omega) hv.2.1
  obtain ⟨y, y1, y2, y3⟩ := s_Of (by omega) hv.2.2
  have hr : RB RR (v.1, x, y, ()) p := ⟨hv.1, x2, y2⟩
  exact ⟨_, Ev.step (fun k => isochroneref02_Of_eq k v) (Ev.bind x1 (Ev.bind y1 (evs _))), hr, sz_of RR_pos hr (by simp; omega) (by simp; omega)⟩
theorem ref_To_sp (hv : RB RR v p) (hp : Sz RR K p) (h : K < 1073741824) : ∃ r, Ev (fun k => isochroneref02_To k v) r ∧ RB WW r p := by
  obtain ⟨lv1, lv2⟩ := sz_len RR_one hv hp
  obtain ⟨x, x1, x2⟩ := s_Words (by omega) hv.2.1
  obtain ⟨y, y1, y2⟩ := s_Words (by omega) hv.2.2
  exact ⟨(v.1, x, y, ()), Ev.step (fun k => isochroneref02_To_eq k v) (Ev.bind x1 (Ev.bind y1 (evs _))), hv.1, x2, y2⟩
end
end Go.Proofs.Ytfpolhoabfadnaa.Q
end
section
namespace Go.Proofs.Ytfpolhoabfadnaa.Q
open Go.RowKit Go.Proofs.YtfpolhoabfadnaaW.PrintWords Go.Proofs.YtfpolhoabfadnaaW.PrintMore Go.Proofs.Ytfpolhoabfadnaa.V Go.Proofs.Ytfpolhoabfadnaa.E
open Go.Proofs.Ytfpolhoabfadnaa.P (Dg Nm vl WW RR can_uniq gI evs evk evb cmpi WW_pos WW_one RR_pos w64 u64)
set_option linter.unusedVariables false
def Arg (v : RatD) : Prop := Dg WW v.2.1 ∧ Dg WW v.2.2.1 ∧ True ∧ True
def Vd (v : RatD) : Prop := ∃ q, RB WW v q ∧ Sz WW 4096 q
section
variable {v w : RatD} {p q : Rat} {K L : Nat}
theorem gcd_num_den (q : Rat) : gI (q.num.natAbs : Int) q.den = 1 := by
  unfold P.gI
  have := q.reduced
  unfold Nat.Coprime at this
  simp only [Int.gcd, Int.natAbs_natCast, this]
  rfl
theorem val_iff {s : Bool} {a b : List Int} (da : Dg WW a) (db : Dg WW b) : (∃ q, RB WW (s, a, b, ()) q) ↔ Nm a ∧ Nm b ∧ vl WW b ≠ 0 ∧ (vl WW a = 0 → s = false ∧ vl WW b = 1) ∧ (vl WW a ≠ 0 → gI (vl WW a) (vl WW b) = 1) := by
  constructor
  · rintro ⟨q, h1, h2, h3⟩
    have e2 : vl WW a = (q.num.natAbs : Int) := h2.2.2
    have e3 : vl WW b = (q.den : Int) := h3.2.2
    have dp := den_pos' q
    refine ⟨h2.2.1, h3.2.1, by omega, fun h => ?_, fun h => ?_⟩
    · have h0 : q = 0 := Rat.num_eq_zero.1 (by omega)
      refine ⟨?_, ?_⟩
      · have : s = decide (q.num < 0) := h1
        rw [this, h0]; rfl
      · rw [e3, h0]; rfl
    · rw [e2, e3]
      exact gcd_num_den q
  · rintro ⟨na, nb, hb, h0, h1⟩
    have a0 := P.vl_nonneg WW_pos da
    have b0 := P.vl_nonneg WW_pos db
    by_cases c : vl WW a = 0
    · obtain ⟨rfl, e⟩ := h0 c
      refine ⟨0, rfl, ?_, ?_⟩
      · exact ⟨da, na, c⟩
      · exact ⟨db, nb, e⟩
    · have g := h1 c
      refine ⟨Rat.divInt (sg s (vl WW a)) (vl WW b), rb_frac (by omega) (by omega) ?_ ?_⟩
      · rw [g, Int.ediv_one]; exact ⟨da, na, rfl⟩
      · rw [g, Int.ediv_one]; exact ⟨db, nb, rfl⟩
theorem vd_iff (ha : Arg v) : Vd v ↔ v.2.1.length ≤ 4096 ∧ v.2.2.1.length ≤ 4096 ∧ Nm v.2.1 ∧ Nm v.2.2.1 ∧ vl WW v.2.2.1 ≠ 0 ∧ (vl WW v.2.1 = 0 → v.1 = false ∧ vl WW v.2.2.1 = 1) ∧ (vl WW v.2.1 ≠ 0 → gI (vl WW v.2.1) (vl WW v.2.2.1) = 1) := by
  obtain ⟨s, a, b, _⟩ := v
  have h := val_iff (s := s) ha.1 ha.2.1
  constructor
  · rintro ⟨q, h1, h2⟩
    obtain ⟨l1, l2⟩ := sz_len WW_one h1 h2
    exact ⟨l1, l2, h.1 ⟨q, h1⟩⟩
  · rintro ⟨l1, l2, h3⟩
    obtain ⟨q, hq⟩ := h.2 h3
    exact ⟨q, hq, sz_of WW_pos hq l1 l2⟩
theorem valid_any (l : List Int) : ∃ b, P.isochroneref01_Valid.f l = some b ∧ P.nat_Valid.f l = some b ∧ (b = true ↔ l.length ≤ 4096 ∧ Nm l) := by
  by_cases h1 : l.length ≤ 4096
  · exact P.valid_sp l (by omega)
  · refine ⟨false, ?_, ?_, by simp; omega⟩
    · unfold P.isochroneref01_Valid.f
      rw [if_neg (by omega)]
    · unfold P.nat_Valid.f
      rw [if_neg (by omega)]
theorem num_valid_sp (l : List Int) (hl : True) : ∃ t, Ev (fun k => num_valid k l 4096) t ∧ (t = true ↔ l.length ≤ 4096 ∧ Nm l) := by
  by_cases h1 : l.length ≤ 4096
  · by_cases h0 : l.length = 0
    · have : l = [] := List.eq_nil_of_length_eq_zero h0
      subst this
      exact ⟨true, Ev.step (fun k => num_valid_eq k _ _) (Ev.bind (bT rfl (Ev.bind (bT rfl (evs _)) (evs _))) (evs _)), by simp; exact P.Nm.nil⟩
    · have e : wrap64 ((l.length : Int) - 1) = (l.length : Int) - 1 := w64 (by omega) (by omega)
      refine ⟨rd l ((l.length : Int) - 1) != 0, Ev.step (fun k => num_valid_eq k _ _) (Ev.bind (bT (decide_eq_true (by omega)) (Ev.bind (bF (by simp; intro e; exact h0 (by simp [e])) ?_) (evs _))) (evs _)), ?_⟩
      · rw [e]
        exact iT (by omega) (evs _)
      · simp only [bne_iff_ne]
        exact ⟨fun h => ⟨h1, P.nm_of_rd (fun _ => h)⟩, fun h => h.2.rd (by omega)⟩
  · exact ⟨false, Ev.step (fun k => num_valid_eq k _ _) (Ev.bind (bF (decide_eq_false (by omega)) (evs _)) (evs _)), by simp; omega⟩
theorem vl0_iff {l : List Int} (hd : Dg WW l) (hn : Nm l) : l.length = 0 ↔ vl WW l = 0 := (show P.Can WW l (vl WW l) from ⟨hd, hn, rfl⟩).len_iff WW_pos
theorem beq_len {l : List Int} (hd : Dg WW l) (hn : Nm l) : ((List.length l : Int) == (0 : Int)) = decide (vl WW l = 0) := by
  by_cases c : vl WW l = 0
  · have := (vl0_iff hd hn).2 c
    rw [decide_eq_true c]; simp [List.eq_nil_of_length_eq_zero this]
  · rw [decide_eq_false c]; exact len_ne WW_pos ⟨hd, hn, rfl⟩ c
theorem rat_Valid_sp (ha : Arg v) : ∃ t, Ev (fun k => rat_Valid k v) t ∧ (t = true ↔ Vd v) := by
  have hiff := vd_iff ha
  obtain ⟨da, db, la, lb⟩ := ha
  obtain ⟨s, a, b, _⟩ := v
  obtain ⟨t1, e1, i1⟩ := num_valid_sp a la
  obtain ⟨t2, e2, i2⟩ := num_valid_sp b lb
  refine (show ∃ t, Ev (fun k => num_Valid k (s, a, b, ()) 4096) t ∧ (t = true ↔ Vd (s, a, b, ())) from ?_).elim fun t h => ⟨t, Ev.step (fun k => rat_Valid_eq k _) (Ev.bind h.1 (evs _)), h.2⟩
  by_cases c1 : a.length ≤ 4096 ∧ Nm a
  · by_cases c2 : b.length ≤ 4096 ∧ Nm b
    · obtain rfl := i1.2 c1
      obtain rfl := i2.2 c2
      have hb0 := beq_len db c2.2
      have ca : P.Can WW a (vl WW a) := ⟨da, c1.2, rfl⟩
      have cb : P.Can WW b (vl WW b) := ⟨db, c2.2, rfl⟩
      have h1 := is_one' cb
      by_cases c3 : vl WW b = 0
      · refine ⟨false, Ev.step (fun k => num_Valid_eq k _ _) (Ev.bind e1 (Ev.bind (a := false) (bF rfl (Ev.bind e2 (evs _))) (Ev.bind (a := true) (bF rfl ?_) (bT rfl (evs _))))), ?_⟩
        · rw [hb0, decide_eq_true c3]; exact evs _
        · rw [hiff]; simp [c3]
      · refine (?_ : ∃ t, Ev (fun k => bif (List.length a : Int) == (0 : Int) then _ else _) t ∧ _).elim fun t h => ⟨t, Ev.step (fun k => num_Valid_eq k _ _) (Ev.bind e1 (Ev.bind (a := false) (bF rfl (Ev.bind e2 (evs _))) (Ev.bind (a := false) (bF rfl ?_) (bF rfl h.1)))), h.2⟩
        · by_cases c4 : vl WW a = 0
          · have ha0 : ((List.length a : Int) == (0 : Int)) = true := by rw [beq_len da c1.2]; exact decide_eq_true c4
            cases s with
            | true =>
              refine ⟨false, bT ha0 (Ev.bind (a := false) (bF rfl (evs _)) (Ev.bind (bF rfl (evs _)) (evs _))), ?_⟩
              rw [hiff]; simp [c4]
            | false =>
              refine ⟨decide (vl WW b = 1), bT ha0 ?_, ?_⟩
              · by_cases c5 : ((List.length b : Int) == (1 : Int)) = true
                · rw [c5] at h1
                  refine Ev.bind (a := true) (bT rfl (by rw [show (List.length (false, a, b, ()).2.2.1 : Int) = (List.length b : Int) from rfl, c5]; exact evs _)) (Ev.bind (bT rfl ?_) (evs _))
                  have h1' : (if 0 ≤ (0 : Int) ∧ (0 : Int) < (List.length b : Int) then some ((rdT (t := (.int .u32)) b (0 : Int) : Int) == (1 : Int)) else none) = some (decide (vl WW b = 1)) := h1
                  exact evk h1'
                · have c6 := Bool.eq_false_iff.2 c5
                  rw [c6] at h1
                  have h1' : some false = some (decide (vl WW b = 1)) := h1
                  rw [← Option.some.inj h1']
                  exact Ev.bind (a := false) (bT rfl (by rw [show (List.length (false, a, b, ()).2.2.1 : Int) = (List.length b : Int) from rfl, c6]; exact evs _)) (Ev.bind (bF rfl (evs _)) (evs _))
              · rw [hiff, decide_eq_true_eq]
                simp [c4, c1, c2, c3]
          · have ha0 : ((List.length a : Int) == (0 : Int)) = false := len_ne WW_pos ca c4
            by_cases c5 : vl WW b = 1
            · refine ⟨true, bF ha0 (Ev.bind (evk h1) (bT (decide_eq_true c5) (evs _))), ?_⟩
              rw [hiff]
              have : gI (vl WW a) 1 = 1 := by unfold P.gI; simp
              simp [c4, c1, c2, c5, this]
            · obtain ⟨g, g1, g2⟩ := q_GCD (by omega) (by omega) ca cb
              have h2 := is_one' g2
              refine ⟨decide (gI (vl WW a) (vl WW b) = 1), bF ha0 (Ev.bind (evk h1) (bF (decide_eq_false c5) (Ev.bind g1 (Ev.bind (evk h2) (evs _))))), ?_⟩
              rw [hiff, decide_eq_true_eq]
              simp [c4, c1, c2, c3]
        · rw [hb0, decide_eq_false c3]; exact evs _
    · obtain rfl := i1.2 c1
      have : t2 = false := Bool.eq_false_iff.2 (fun e => c2 (i2.1 e))
      subst this
      refine ⟨false, Ev.step (fun k => num_Valid_eq k _ _) (Ev.bind e1 (Ev.bind (a := true) (bF rfl (Ev.bind e2 (evs _))) (Ev.bind (a := true) (bT rfl (evs _)) (bT rfl (evs _))))), ?_⟩
      rw [hiff]
      simp
      intro h1 h2 h3 h4
      exact absurd ⟨h2, h4⟩ c2
  · have : t1 = false := Bool.eq_false_iff.2 (fun e => c1 (i1.1 e))
    subst this
    refine ⟨false, Ev.step (fun k => num_Valid_eq k _ _) (Ev.bind e1 (Ev.bind (a := true) (bT rfl (evs _)) (Ev.bind (a := true) (bT rfl (evs _)) (bT rfl (evs _))))), ?_⟩
    rw [hiff]
    simp
    intro h1 h2 h3 h4
    exact absurd ⟨h1, h3⟩ c1
end
end Go.Proofs.Ytfpolhoabfadnaa.Q
end
section
namespace Go.Proofs.Ytfpolhoabfadnaa.Q
open Go.RowKit Go.Proofs.YtfpolhoabfadnaaW.PrintWords Go.Proofs.YtfpolhoabfadnaaW.PrintMore Go.Proofs.Ytfpolhoabfadnaa.V Go.Proofs.Ytfpolhoabfadnaa.E
open Go.Proofs.Ytfpolhoabfadnaa.P (Dg Nm vl WW RR can_uniq gI evs evk evb cmpi WW_pos WW_one RR_pos w64 u64)
set_option linter.unusedVariables false
section
variable {v w : RatD} {p q : Rat} {K L : Nat}
theorem s_Valid (l : List Int) (hl : True) : ∃ t, Ev (fun k => isochroneref01_Valid k l) t ∧ (t = true ↔ l.length ≤ 4096 ∧ Nm l) := by
  obtain ⟨t, h1, h2, h3⟩ := valid_any l
  exact ⟨t, Ev.step (fun k => isochroneref01_Valid_eq k l) (evk h1), h3⟩
theorem cmpi_beq (x y : Int) : (cmpi x y == (0 : Int)) = decide (x = y) := by
  unfold P.cmpi
  by_cases a : x < y
  · rw [if_pos a, decide_eq_false (by omega)]; rfl
  · by_cases b : x = y
    · rw [if_neg a, if_pos b, decide_eq_true b]; rfl
    · rw [if_neg a, if_neg b, decide_eq_false b]; rfl
theorem ref_Valid_sp (ha : Arg v) : ∃ t, Ev (fun k => isochroneref02_Valid k v) t ∧ (t = true ↔ Vd v) := by
  have hiff := vd_iff ha
  obtain ⟨da, db, la, lb⟩ := ha
  obtain ⟨s, a, b, _⟩ := v
  obtain ⟨t1, e1, i1⟩ := s_Valid a la
  obtain ⟨t2, e2, i2⟩ := s_Valid b lb
  by_cases c1 : a.length ≤ 4096 ∧ Nm a
  · by_cases c2 : b.length ≤ 4096 ∧ Nm b
    · obtain rfl := i1.2 c1
      obtain rfl := i2.2 c2
      have hb0 := beq_len db c2.2
      have ca : P.Can WW a (vl WW a) := ⟨da, c1.2, rfl⟩
      have cb : P.Can WW b (vl WW b) := ⟨db, c2.2, rfl⟩
      have h1 := is_one' cb
      by_cases c3 : vl WW b = 0
      · refine ⟨false, Ev.step (fun k => isochroneref02_Valid_eq k _) (Ev.bind e1 (Ev.bind (a := false) (bF rfl (Ev.bind e2 (evs _))) (Ev.bind (a := true) (bF rfl ?_) (bT rfl (evs _))))), ?_⟩
        · rw [hb0, decide_eq_true c3]; exact evs _
        · rw [hiff]; simp [c3]
      · refine (?_ : ∃ t, Ev (fun k => bif (List.length a : Int) == (0 : Int) then _ else _) t ∧ _).elim fun t h => ⟨t, Ev.step (fun k => isochroneref02_Valid_eq k _) (Ev.bind e1 (Ev.bind (a := false) (bF rfl (Ev.bind e2 (evs _))) (Ev.bind (a := false) (bF rfl ?_) (bF rfl h.1)))), h.2⟩
        · by_cases c4 : vl WW a = 0
          · have ha0 : ((List.length a : Int) == (0 : Int)) = true := by rw [beq_len da c1.2]; exact decide_eq_true c4
            cases s with
            | true =>
              refine ⟨false, bT ha0 (Ev.bind (a := false) (bF rfl (evs _)) (Ev.bind (bF rfl (evs _)) (evs _))), ?_⟩
              rw [hiff]; simp [c4]
            | false =>
              refine ⟨decide (vl WW b = 1), bT ha0 ?_, ?_⟩
              · by_cases c5 : ((List.length b : Int) == (1 : Int)) = true
                · rw [c5] at h1
                  refine Ev.bind (a := true) (bT rfl (by rw [show (List.length (false, a, b, ()).2.2.1 : Int) = (List.length b : Int) from rfl, c5]; exact evs _)) (Ev.bind (bT rfl ?_) (evs _))
                  have h1' : (if 0 ≤ (0 : Int) ∧ (0 : Int) < (List.length b : Int) then some ((rdT (t := (.int .u32)) b (0 : Int) : Int) == (1 : Int)) else none) = some (decide (vl WW b = 1)) := h1
                  exact evk h1'
                · have c6 := Bool.eq_false_iff.2 c5
                  rw [c6] at h1
                  have h1' : some false = some (decide (vl WW b = 1)) := h1
                  rw [← Option.some.inj h1']
                  exact Ev.bind (a := false) (bT rfl (by rw [show (List.length (false, a, b, ()).2.2.1 : Int) = (List.length b : Int) from rfl, c6]; exact evs _)) (Ev.bind (bF rfl (evs _)) (evs _))
              · rw [hiff, decide_eq_true_eq]
                simp [c4, c1, c2, c3]
          · have ha0 : ((List.length a : Int) == (0 : Int)) = false := len_ne WW_pos ca c4
            obtain ⟨x, x1, x2, x3⟩ := s_Of (by omega) ca
            obtain ⟨y, y1, y2, y3⟩ := s_Of (by omega) cb
            obtain ⟨g, g1, g2⟩ := s_GCD (by omega) (by omega) x2 y2
            have b0 : 0 < vl WW b := by
              have h0 : (0 : Int) ≤ vl WW b := P.vl_nonneg WW_pos db
              omega
            have gl : g.length < 4611686018427387904 := by
              have := g2.len_le RR_one (Int.lt_of_le_of_lt (P.gI_le b0) (y2.lt RR_pos))
              omega
            have h2 := s_Cmp gl g2 (can1 RR_one)
            refine ⟨decide (gI (vl WW a) (vl WW b) = 1), bF ha0 (Ev.bind x1 (Ev.bind y1 (Ev.bind g1 (Ev.bind h2 ?_)))), ?_⟩
            · rw [cmpi_beq]; exact evs _
            · rw [hiff, decide_eq_true_eq]
              simp [c4, c1, c2, c3]
        · rw [hb0, decide_eq_false c3]; exact evs _
    · obtain rfl := i1.2 c1
      have : t2 = false := Bool.eq_false_iff.2 (fun e => c2 (i2.1 e))
      subst this
      refine ⟨false, Ev.step (fun k => isochroneref02_Valid_eq k _) (Ev.bind e1 (Ev.bind (a := true) (bF rfl (Ev.bind e2 (evs _))) (Ev.bind (a := true) (bT rfl (evs _)) (bT rfl (evs _))))), ?_⟩
      rw [hiff]
      simp
      intro h1 h2 h3 h4
      exact absurd ⟨h2, h4⟩ c2
  · have : t1 = false := Bool.eq_false_iff.2 (fun e => c1 (i1.1 e))
    subst this
    refine ⟨false, Ev.step (fun k => isochroneref02_Valid_eq k _) (Ev.bind e1 (Ev.bind (a := true) (bT rfl (evs _)) (Ev.bind (a := true) (bT rfl (evs _)) (bT rfl (evs _))))), ?_⟩
    rw [hiff]
    simp
    intro h1 h2 h3 h4
    exact absurd ⟨h1, h3⟩ c1
theorem ref_Short_sp (v : RatD) (N : Nat) : Ev (fun k => isochroneref02_Short k v (N : Int)) (decide (v.2.1.length ≤ N ∧ v.2.2.1.length ≤ N)) := by
  refine Ev.step (fun k => isochroneref02_Short_eq k v _) (Ev.bind ?_ (evs _))
  by_cases c : v.2.1.length ≤ N
  · refine bT (decide_eq_true (by omega)) ?_
    have : decide ((List.length v.2.2.1 : Int) ≤ N) = decide (v.2.1.length ≤ N ∧ v.2.2.1.length ≤ N) := decide_eq_decide.2 (by omega)
    rw [this]
    exact evs _
  · have : decide (v.2.1.length ≤ N ∧ v.2.2.1.length ≤ N) = false := decide_eq_false (fun h => c h.1)
    rw [this]
    exact bF (decide_eq_false (by omega)) (evs _)
abbrev nothing : RatD := (false, [], [], ())
theorem ref_None_ev : Ev (fun k => isochroneref02_None k nothing) true := Ev.step (fun k => isochroneref02_None_eq k _) (Ev.bind (bT rfl (evs _)) (Ev.bind (bT rfl (evs _)) (evs _)))
theorem rat_limited_sp (hv : RB WW v p) (h : Sz WW 4096 p) : Ev (fun k => rat_limited k v) (v, 0, ()) := by
  obtain ⟨t, t1, t2⟩ := num_Fits_sp hv 4096
  obtain rfl := t2.2 h
  exact Ev.step (fun k => rat_limited_eq k v) (Ev.bind t1 (bF rfl (evs _)))
theorem rat_Valid_ev (ha : Arg v) (h : Vd v) : Ev (fun k => rat_Valid k v) true := by
  obtain ⟨t, t1, t2⟩ := rat_Valid_sp ha
  rw [t2.2 h] at t1
  exact t1
theorem arg_of (hv : RB WW v p) (hp : Sz WW K p) (h : K < 4611686018427387904) : Arg v := by
  obtain ⟨l1, l2⟩ := sz_len WW_one hv hp
  exact ⟨hv.2.1.1, hv.2.2.1, trivial, trivial⟩
theorem rat_Add_sp (hv : RB WW v p) (hw : RB WW w q) (hp : Sz WW K p) (hq : Sz WW L q) (h : K + L + 1 ≤ 4096) : ∃ r, Ev (fun k => rat_Add k v w) (r, 0, ()) ∧ RB WW r (p + q) ∧ Sz WW (K + L + 1) (p + q) := by
  obtain ⟨r, r1, r2, r3⟩ := num_Add_sp hv hw hp hq (by omega)
  have a1 := rat_Valid_ev (arg_of hv hp (by omega)) ⟨p, hv, sz_mono WW_pos hp (by omega)⟩
  have a2 := rat_Valid_ev (arg_of hw hq (by omega)) ⟨q, hw, sz_mono WW_pos hq (by omega)⟩
  have a3 := rat_limited_sp r2 (sz_mono WW_pos r3 h)
  exact ⟨r, Ev.step (fun k => rat_Add_eq k v w) (Ev.bind (Ev.step (fun k => rat_pair_num_Add_eq k v w) (Ev.bind a1 (Ev.bind (a := false) (bF rfl (Ev.bind a2 (evs _))) (bF rfl (Ev.bind r1 (Ev.bind a3 (evs _))))))) (evs _)), r2, r3⟩
end
end Go.Proofs.Ytfpolhoabfadnaa.Q
end
section
namespace Go.Proofs.Ytfpolhoabfadnaa.P
open Go.RowKit Go.Proofs.YtfpolhoabfadnaaW.PrintWords Go.Proofs.YtfpolhoabfadnaaW.PrintLast Go.Proofs.YtfpolhoabfadnaaW.PrintMore
set_option linter.unusedVariables false
theorem bt_nums (l : List Int) (i : Nat) (h : i < l.length) (h0 : 0 ≤ l[i]) (h1 : l[i] < 256) : bt (strOfNums l) (i : Int) = l[i] := by
  have hs : (strOfNums l).size = l.length := strOfNums_size l
  unfold bt
  rw [dif_pos (by rw [Int.toNat_natCast, hs]; exact h)]
  have e : (strOfNums l)[(i : Int).toNat]'(by rw [Int.toNat_natCast, hs]; exact h) = UInt8.ofNat (l[i]).toNat := by
    show (List.map (fun n => UInt8.ofNat n.toNat) l).toArray[(i : Int).toNat]'_ = _
    simp
  rw [e]
  have : (UInt8.ofNat (l[i]).toNat).toNat = (l[i]).toNat % 256 := by simp
  rw [this]
  omega
theorem asc_get (D : List Int) (i : Nat) (h : i < D.length) : (asc D)[i]'(by rw [asc_len]; exact h) = rd D ((D.length - 1 - i : Nat) : Int) + 48 := by
  rw [rd_lt D _ (by omega)]
  simp [asc]
theorem asc_dig {D : List Int} (hD : Dg TT D) (i : Nat) (h : i < D.length) : bt (strOfNums (asc D)) (i : Int) = rd D ((D.length - 1 - i : Nat) : Int) + 48 ∧ Dig (strOfNums (asc D)) i := by
  have hx := dg_rd hD ((D.length - 1 - i : Nat) : Int) (by omega) (by omega)
  rw [TT_eq] at hx
  have e := asc_get D i h
  have b := bt_nums (asc D) i (by rw [asc_len]; exact h) (by rw [e]; omega) (by rw [e]; omega)
  rw [e] at b
  exact ⟨b, by unfold Dig; rw [b]; omega⟩
theorem asc_sv {D : List Int} (hD : Dg TT D) (i : Nat) (h : i ≤ D.length) : sv (strOfNums (asc D)) i = vl TT (D.drop (D.length - i)) := by
  induction i with
  | zero => rw [Nat.sub_zero, List.drop_length]; rfl
  | succ i ih =>
    have e : sv (strOfNums (asc D)) (i + 1) = sv (strOfNums (asc D)) i * 10 + (bt (strOfNums (asc D)) (i : Int) - 48) := rfl
    rw [e, ih (by omega), (asc_dig hD i (by omega)).1, drop_rd D (D.length - (i + 1)) (by omega), vl, show D.length - (i + 1) + 1 = D.length - i by omega, show D.length - 1 - i = D.length - (i + 1) by omega, TT_eq]
    omega
theorem asc_all {D : List Int} {n : Int} (hD : Can TT D n) : (strOfNums (asc D)).size = D.length ∧ (∀ p, p < (strOfNums (asc D)).size → Dig (strOfNums (asc D)) p) ∧ sv (strOfNums (asc D)) (strOfNums (asc D)).size = n := by
  have hs : (strOfNums (asc D)).size = D.length := by rw [strOfNums_size, asc_len]
  refine ⟨hs, fun p hp => (asc_dig hD.1 p (by omega)).2, ?_⟩
  rw [hs, asc_sv hD.1 _ (Nat.le_refl _), Nat.sub_self, List.drop_zero, hD.2.2]
end Go.Proofs.Ytfpolhoabfadnaa.P
end
section
namespace Go.Proofs.Ytfpolhoabfadnaa.Q
open Go.RowKit Go.Proofs.YtfpolhoabfadnaaW.PrintWords Go.Proofs.YtfpolhoabfadnaaW.PrintMore Go.Proofs.Ytfpolhoabfadnaa.V Go.Proofs.Ytfpolhoabfadnaa.E
open Go.Proofs.Ytfpolhoabfadnaa.P (Dg Nm vl WW RR TT asc can_uniq gI evs evk evb cmpi WW_pos WW_one RR_pos w64 u64)
set_option linter.unusedVariables false
theorem rat_Text_eq (k : Nat) (y : RatD) : rat_Text (k + 1) y =
    (rat_Valid k y).bind fun (ok : Bool) => bif ok then
      (nat_Text k y.2.1).bind fun (n : ByteArray × Int × Unit) =>
      (num_Whole k y).bind fun (wh : Bool) => bif wh then
        if n.1.size + 2 ≤ 140737488355328 then some (bif y.1 then (⟨#[45]⟩ : ByteArray) ++ n.1 else n.1, 0, ()) else none
      else
        (nat_Text k y.2.2.1).bind fun (d : ByteArray × Int × Unit) =>
        if n.1.size + d.1.size + 2 ≤ 140737488355328 then some (bif y.1 then (⟨#[45]⟩ : ByteArray) ++ n.1 ++ ((⟨#[47]⟩ : ByteArray) ++ d.1) else n.1 ++ ((⟨#[47]⟩ : ByteArray) ++ d.1), 0, ()) else none
    else some ((⟨#[]⟩ : ByteArray), 3, ()) := by
  kernel_rfl
def Txt (n : Int) (s : ByteArray) : Prop := (n = 0 ∧ s = ⟨#[48]⟩) ∨ (0 < n ∧ ∃ D, P.Can TT D n ∧ D ≠ [] ∧ D.length ≤ 576 ∧ s = strOfNums (asc D))
theorem Txt.size {n : Int} {s : ByteArray} (h : Txt n s) : s.size ≤ 576 := by
  rcases h with ⟨_, rfl⟩ | ⟨_, D, h1, h2, h3, rfl⟩
  · decide
  · rw [(P.asc_all h1).1]
    exact h3
theorem q_Text {a : List Int} {n : Int} (hl : a.length ≤ 40) (ha : P.Can WW a n) : ∃ s, Ev (fun k => nat_Text k a) (s, 0, ()) ∧ Txt n s := by
  have n0 := ha.nonneg WW_pos
  by_cases c : n = 0
  · obtain rfl := len_eq WW_pos ha c
    refine ⟨⟨#[48]⟩, Ev.step (fun k => nat_Text_eq k _) (evmap (g := fun r : ByteArray × Int => (r.1, r.2, ())) (r := ((⟨#[48]⟩ : ByteArray), 0)) ?_), .inl ⟨c, rfl⟩⟩
    unfold P.nat_Text.f
    obtain ⟨t, h1, h2, h3⟩ := P.valid_sp [] (by simp)
    obtain rfl := h3.2 ⟨by simp, P.Nm.nil⟩
    exact evb h2 (P.evp rfl (P.evp rfl (evs _)))
  · obtain ⟨D, d1, d2, d3, d4⟩ := P.nat_Text_sp hl ha (by omega)
    exact ⟨_, Ev.step (fun k => nat_Text_eq k _) (evmap (g := fun r : ByteArray × Int => (r.1, r.2, ())) d1), .inr ⟨by omega, D, d2, d3, d4, rfl⟩⟩
section
variable {v w : RatD} {p q : Rat} {K L : Nat}
theorem num_Whole_sp (hv : RB WW v p) : Ev (fun k => num_Whole k v) (decide (p.den = 1)) := by
  have h := is_one' hv.2.2
  have e : decide ((p.den : Int) = 1) = decide (p.den = 1) := decide_eq_decide.2 (by omega)
  rw [e] at h
  exact Ev.step (fun k => num_Whole_eq k v) (Ev.bind (Ev.step (fun k => num_whole_eq k v) (Ev.bind (evk h) (evs _))) (evs _))
def RTxt (p : Rat) (s : ByteArray) : Prop := ∃ n d, Txt (p.num.natAbs : Int) n ∧ (p.den ≠ 1 → Txt (p.den : Int) d) ∧ s = (bif decide (p.num < 0) then (⟨#[45]⟩ : ByteArray) ++ n else n) ++ (if p.den = 1 then ⟨#[]⟩ else (⟨#[47]⟩ : ByteArray) ++ d)
theorem ba_empty (s : ByteArray) : s ++ (⟨#[]⟩ : ByteArray) = s := by
  apply ByteArray.ext
  simp [ByteArray.data_append]
theorem rat_Text_sp (hv : RB WW v p) (hp : Sz WW K p) (hK : K ≤ 40) : ∃ s, Ev (fun k => rat_Text k v) (s, 0, ()) ∧ RTxt p s := by
  obtain ⟨l1, l2⟩ := sz_len WW_one hv hp
  have a1 := rat_Valid_ev (arg_of hv hp (by omega)) ⟨p, hv, sz_mono WW_pos hp (by omega)⟩
  obtain ⟨n, n1, n2⟩ := q_Text (by omega) hv.2.1
  obtain ⟨d, d1, d2⟩ := q_Text (by omega) hv.2.2
  have w1 := num_Whole_sp hv
  have ns := n2.size
  have ds := d2.size
  by_cases c : p.den = 1
  · refine ⟨_, Ev.step (fun k => rat_Text_eq k v) (Ev.bind a1 (bT rfl (Ev.bind n1 (Ev.bind w1 (bT (decide_eq_true c) (iT (by simp only []; omega) (evs _))))))), n, d, n2, fun h => absurd c h, ?_⟩
    rw [if_pos c, ba_empty, hv.1]
  · refine ⟨_, Ev.step (fun k => rat_Text_eq k v) (Ev.bind a1 (bT rfl (Ev.bind n1 (Ev.bind w1 (bF (decide_eq_false c) (Ev.bind d1 (iT (by simp only []; omega) (evs _)))))))), n, d, n2, fun _ => d2, ?_⟩
    rw [if_neg c, hv.1]
    cases decide (p.num < 0) <;> rfl
end
theorem txt_digit {n : Int} {s : ByteArray} (h : Txt n s) (h0 : 0 < n) (h1 : n < 10) : s = strOfNums [n + 48] := by
  rcases h with ⟨e, _⟩ | ⟨_, D, d1, d2, d3, rfl⟩
  · omega
  · have c : P.Can TT [n] n := ⟨Dg.mk (by omega) (by have : TT = 10 := rfl; omega) (Dg.nil _), fun h => by simp; omega, by simp [vl]⟩
    rw [can_uniq (by decide) d1 c]
    rfl
theorem rb_words {B : Int} {a b : List Int} {x y : Int} (hx : 0 < x) (hy : 0 < y) (hg : gI x y = 1) (ha : P.Can B a x) (hb : P.Can B b y) (s : Bool) : RB B (s, a, b, ()) (Rat.divInt (sg s x) y) := rb_frac hx hy (by rw [hg, Int.ediv_one]; exact ha) (by rw [hg, Int.ediv_one]; exact hb)
theorem can_digit {B x : Int} (h0 : 0 < x) (h1 : x < B) : P.Can B [x] x := ⟨Dg.mk (by omega) h1 (Dg.nil _), fun h => by simp; omega, by simp [vl]⟩
theorem awake_ev : Ev (fun k => isochronelaw02_awake k) true := by
  have h2 := rb_words (B := WW) (a := [1]) (b := [2]) (x := 1) (y := 2) (by decide) (by decide) (by decide) (can_digit (by decide) (by decide)) (can_digit (by decide) (by decide)) false
  have h3 := rb_words (B := WW) (a := [1]) (b := [3]) (x := 1) (y := 3) (by decide) (by decide) (by decide) (can_digit (by decide) (by decide)) (can_digit (by decide) (by decide)) false
  have h6 := rb_words (B := WW) (a := [5]) (b := [6]) (x := 5) (y := 6) (by decide) (by decide) (by decide) (can_digit (by decide) (by decide)) (can_digit (by decide) (by decide)) false
  have e : Rat.divInt (sg false 1) 2 + Rat.divInt (sg false 1) 3 = Rat.divInt (sg false 5) 6 := by
    simp only [Rat.divInt_eq_div, sg]
    grind
  obtain ⟨r, r1, r2, r3⟩ := rat_Add_sp h2 h3 (sz_of WW_pos h2 (K := 1) (by simp) (by simp)) (sz_of WW_pos h3 (K := 1) (by simp) (by simp)) (by omega)
  rw [e] at r2 r3
  obtain rfl := rb_uniq WW_pos r2 h6
  obtain ⟨s, s1, n, d, n2, d2, es⟩ := rat_Text_sp r2 r3 (by omega)
  have en : (Rat.divInt (sg false 5) 6).num.natAbs = 5 := by rw [Rat.num_divInt]; rfl
  have en' : (Rat.divInt (sg false 5) 6).num = 5 := by rw [Rat.num_divInt]; rfl
  have ed : (Rat.divInt (sg false 5) 6).den = 6 := by rw [Rat.den_divInt]; rfl
  rw [en] at n2
  rw [ed] at d2
  have hn := txt_digit n2 (by decide) (by decide)
  have hd := txt_digit (d2 (by decide)) (by decide) (by decide)
  rw [en', ed, hn, hd] at es
  have es' : s.toList = (⟨#[53, 47, 54]⟩ : ByteArray).toList := by rw [es]; decide +kernel
  refine Ev.step (fun k => isochronelaw02_awake_eq k) (Ev.bind r1 (Ev.bind s1 (Ev.bind (bT rfl (evs _)) (Ev.bind (a := true) (bT rfl ?_) (evs _)))))
  have e3 : (s.toList == (⟨#[53, 47, 54]⟩ : ByteArray).toList) = true := by rw [es']; exact beq_self_eq_true _
  show Ev (fun _ => some (s.toList == (⟨#[53, 47, 54]⟩ : ByteArray).toList)) true
  rw [e3]
  exact evs _
end Go.Proofs.Ytfpolhoabfadnaa.Q
end
section
namespace Go.Proofs.Ytfpolhoabfadnaa.Q
open Go.RowKit Go.Proofs.YtfpolhoabfadnaaW.PrintWords Go.Proofs.YtfpolhoabfadnaaW.PrintMore Go.Proofs.Ytfpolhoabfadnaa.V Go.Proofs.Ytfpolhoabfadnaa.E
open Go.Proofs.Ytfpolhoabfadnaa.P (Dg WW)
set_option linter.unusedVariables false
theorem tab_ok : tabOk T = true := by kernel_rfl
theorem mixed : T.P.follows .mixedOrders = true := by kernel_rfl
theorem noGo0 : (Try.prog.funcs.toList.all fun f => f.name != "runtime.NumGoroutine") = true := by kernel_rfl
theorem noGo (f : Nat) (fn : Func) (h : T.P.funcs[f]? = some fn) : fn.name ≠ "runtime.NumGoroutine" := by
  have h1 := List.all_eq_true.1 noGo0 fn (by
    rw [Array.mem_toList_iff]
    exact Array.mem_of_getElem? h)
  simpa using h1
theorem arg_int {k : IntKind} {n : Int} (h : Fine (.int k) n) : (Lit.int k n).wf = true := h
end Go.Proofs.Ytfpolhoabfadnaa.Q
end
section
namespace Go.Proofs.Ytfpolhoabfadnaa.Q
open Go.RowKit Go.Proofs.YtfpolhoabfadnaaW.PrintWords Go.Proofs.YtfpolhoabfadnaaW.PrintMore Go.Proofs.Ytfpolhoabfadnaa.V Go.Proofs.Ytfpolhoabfadnaa.E
open Go.Proofs.Ytfpolhoabfadnaa.P (Dg Nm vl WW RR TT asc can_uniq gI evs evk evb cmpi WW_pos WW_one RR_pos w64 u64)
set_option linter.unusedVariables false
section
variable {v w : RatD} {p q : Rat} {K L : Nat}
def down (n : Nat) (p : Rat) : Rat := ((p * ((2 ^ n : Int) : Rat)).floor : Rat) / ((2 ^ n : Int) : Rat)
def up (n : Nat) (p : Rat) : Rat := (-((-(p * ((2 ^ n : Int) : Rat))).floor : Rat)) / ((2 ^ n : Int) : Rat)
theorem ref_Floor_sp (hv : RB RR v p) (hp : Sz RR K p) (h : K < 268435456) : ∃ r, Ev (fun k => isochroneref02_Floor k v) r ∧ RB RR r (p.floor : Rat) ∧ Sz RR (K + 1) (p.floor : Rat) := by
  obtain ⟨lv1, lv2⟩ := sz_len RR_one hv hp
  obtain ⟨x, y, x1, x2, x3⟩ := s_DivMod (by omega) (by omega) hv.2.1 hv.2.2 (den_pos' p)
  have n0 : (0 : Int) ≤ (p.num.natAbs : Int) / p.den := Int.ediv_nonneg (by omega) (by omega)
  have lx : x.length ≤ K := x2.len_le RR_one (Int.lt_of_le_of_lt (Int.ediv_le_self _ (by omega)) hp.1)
  have hfl := floor_mag p
  have hK : 1 ≤ K := by
    rcases Nat.eq_zero_or_pos K with c | c
    · have h1 := hp.2
      have h2 := den_pos' p
      rw [c] at h1
      simp at h1
      omega
    · exact c
  have fin : ∀ (z : List Int) (Z : Int), z.length ≤ K + 1 → P.Can RR z Z → sg v.1 Z = p.floor → ∃ r, Ev (fun k => isochroneref02_Floor.j0 k z v (false, [], [], ())) r ∧ RB RR r (p.floor : Rat) ∧ Sz RR (K + 1) (p.floor : Rat) := fun z Z hz cz e => by
    have Z0 := cz.nonneg RR_pos
    have hr : RB RR (v.1 && decide (Z ≠ 0), z, [1], ()) (p.floor : Rat) := by
      refine ⟨?_, ?_, can1 RR_one⟩
      · show (v.1 && decide (Z ≠ 0)) = decide (((p.floor : Int) : Rat).num < 0)
        rw [Rat.num_intCast, ← e]
        unfold sg
        cases v.1 with
        | true =>
          simp only [if_true, Bool.true_and]
          exact decide_eq_decide.2 (by omega)
        | false => simp; omega
      · show P.Can RR z ((((p.floor : Int) : Rat).num).natAbs : Int)
        rw [Rat.num_intCast, ← e]
        have : ((sg v.1 Z).natAbs : Int) = Z := by unfold sg; cases v.1 <;> simp <;> omega
        rw [this]
        exact cz
    refine ⟨_, ?_, hr, sz_of RR_pos hr hz (by simp)⟩
    unfold isochroneref02_Floor.j0
    refine Ev.bind (a := v.1 && decide (Z ≠ 0)) ?_ (evs _)
    have hz0 := len_gt RR_pos cz
    cases hv1 : v.1 with
    | true =>
      refine bT rfl ?_
      show Ev (fun _ => some (decide ((List.length z : Int) > 0))) _
      rw [hz0, Bool.true_and]
      exact evs _
    | false => exact bF rfl (evs _)
  have hr : decide ((List.length y : Int) > 0) = decide ((p.num.natAbs : Int) % p.den ≠ 0) := len_gt RR_pos x3
  have hm := Int.emod_nonneg (p.num.natAbs : Int) (show (p.den : Int) ≠ 0 by have := den_pos' p; omega)
  by_cases c : p.num < 0
  · have hv1 : v.1 = true := by rw [hv.1, decide_eq_true c]
    rw [if_pos c] at hfl
    by_cases d : (p.num.natAbs : Int) % p.den > 0
    · rw [if_pos d] at hfl
      obtain ⟨z, z1, z2, z3⟩ := s_Add (by simp; omega) x2 (can1 RR_one)
      obtain ⟨r, r1, r2⟩ := fin z _ (by simp at z3; omega) z2 (by rw [hv1, hfl]; rfl)
      refine ⟨r, Ev.step (fun k => isochroneref02_Floor_eq k v) (Ev.bind x1 (Ev.bind (a := true) ?_ (bT rfl (Ev.bind z1 r1)))), r2⟩
      rw [hv1]
      refine bT rfl ?_
      have : decide ((List.length y : Int) > 0) = true := by rw [hr]; exact decide_eq_true (by omega)
      show Ev (fun _ => some (decide ((List.length y : Int) > 0))) true
      rw [this]
      exact evs _
    · rw [if_neg d] at hfl
      obtain ⟨r, r1, r2⟩ := fin x _ (by omega) x2 (by rw [hv1, hfl]; rfl)
      refine ⟨r, Ev.step (fun k => isochroneref02_Floor_eq k v) (Ev.bind x1 (Ev.bind (a := false) ?_ (bF rfl r1))), r2⟩
      rw [hv1]
      refine bT rfl ?_
      have : decide ((List.length y : Int) > 0) = false := by rw [hr]; exact decide_eq_false (by omega)
      show Ev (fun _ => some (decide ((List.length y : Int) > 0))) false
      rw [this]
      exact evs _
  · have hv1 : v.1 = false := by rw [hv.1, decide_eq_false c]
    rw [if_neg c] at hfl
    obtain ⟨r, r1, r2⟩ := fin x _ (by omega) x2 (by rw [hv1, hfl]; rfl)
    refine ⟨r, Ev.step (fun k => isochroneref02_Floor_eq k v) (Ev.bind x1 (Ev.bind (a := false) ?_ (bF rfl r1))), r2⟩
    rw [hv1]
    exact bF rfl (evs _)
end
end Go.Proofs.Ytfpolhoabfadnaa.Q
end
section
namespace Go.Proofs.Ytfpolhoabfadnaa.Q
open Go.RowKit Go.Proofs.YtfpolhoabfadnaaW.PrintWords Go.Proofs.YtfpolhoabfadnaaW.PrintMore Go.Proofs.Ytfpolhoabfadnaa.V Go.Proofs.Ytfpolhoabfadnaa.E
open Go.Proofs.Ytfpolhoabfadnaa.P (Dg Nm vl WW RR TT asc can_uniq gI evs evk evb cmpi WW_pos WW_one RR_pos w64 u64)
set_option linter.unusedVariables false
section
variable {v w r4 : RatD} {a b x y : Rat} {K L : Nat}
theorem nd_of {n d : Int} (hd : 0 < d) (hc : Int.gcd n d = 1) : (Rat.divInt n d).num = n ∧ ((Rat.divInt n d).den : Int) = d := by
  have h : d.gcd n = 1 := by rw [Int.gcd_comm]; exact hc
  constructor
  · rw [Rat.num_divInt, h, Int.sign_eq_one_of_pos hd]
    simp
  · rw [Rat.den_divInt, if_neg (by omega), h]
    omega
theorem nd_eq {n d : Int} (hd : 0 < d) (hc : Int.gcd n d = 1) (hx : x = Rat.divInt n d) : x.num = n ∧ (x.den : Int) = d := by
  subst hx
  exact nd_of hd hc
theorem gcd_nd (q : Rat) : Int.gcd q.num (q.den : Int) = 1 := by
  have := q.reduced
  rw [Int.gcd, Int.natAbs_natCast]
  exact this
theorem val_nd (q : Rat) : q = (q.num : Rat) / ((q.den : Int) : Rat) := by
  rw [← Rat.divInt_eq_div, Rat.num_divInt_den]
theorem den_ne (q : Rat) : ((q.den : Int) : Rat) ≠ 0 := by
  intro h
  have := den_pos' q
  have h2 := congrArg Rat.num h
  rw [Rat.num_intCast] at h2
  have : ((q.den : Int)) = 0 := by simpa using h2
  omega
theorem int_ne {n : Int} (h : n ≠ 0) : (n : Rat) ≠ 0 := by
  intro e
  have h2 := congrArg Rat.num e
  rw [Rat.num_intCast] at h2
  exact h (by simpa using h2)
theorem sub_nd (q : Rat) (f : Int) : (q - (f : Rat)).num = q.num - f * q.den ∧ ((q - (f : Rat)).den : Int) = q.den := by
  refine nd_eq (den_pos' q) ?_ ?_
  · rw [Int.sub_eq_add_neg, ← Int.neg_mul, Int.gcd_add_mul_right_left]
    exact gcd_nd q
  · rw [Rat.divInt_eq_div, Rat.intCast_sub, Rat.intCast_mul]
    have h1 := val_nd q
    have h2 := den_ne q
    grind
theorem add_nd (q : Rat) (f : Int) : ((f : Rat) + q).num = q.num + f * q.den ∧ (((f : Rat) + q).den : Int) = q.den := by
  have h := sub_nd q (-f)
  have e : q - ((-f : Int) : Rat) = (f : Rat) + q := by rw [Rat.intCast_neg]; grind
  rw [e] at h
  exact ⟨by rw [h.1, Int.neg_mul]; omega, h.2⟩
theorem inv_nd {q : Rat} (h : 0 < q) : q⁻¹.num = q.den ∧ (q⁻¹.den : Int) = q.num := by
  have hn : 0 < q.num := by
    have := (Rat.num_nonneg (q := q)).2 (Rat.le_of_lt h)
    have h2 : q.num ≠ 0 := fun c => by rw [Rat.num_eq_zero] at c; subst c; exact absurd h (by decide)
    omega
  rw [Rat.num_inv, Rat.den_inv, if_neg (by omega), Int.sign_eq_one_of_pos hn]
  exact ⟨by omega, by omega⟩
theorem num_pos' {q : Rat} (h : 0 < q) : 0 < q.num := by
  have := (Rat.num_nonneg (q := q)).2 (Rat.le_of_lt h)
  have h2 : q.num ≠ 0 := fun c => by rw [Rat.num_eq_zero] at c; subst c; exact absurd h (by decide)
  omega
def Simp (a b y : Rat) : Prop := a ≤ y ∧ y ≤ b ∧ ∀ x, a ≤ x → x ≤ b → y.den ≤ x.den ∧ y.num ≤ x.num
theorem simp_int (h0 : 0 < a) (hab : a ≤ b) (h : ((a.floor : Int) : Rat) = a) : Simp a b a := by
  refine ⟨Rat.le_refl, hab, fun x h1 h2 => ?_⟩
  have hd : a.den = 1 := by rw [← h, Rat.den_intCast]
  have hx := x.den_pos
  rw [Rat.le_iff, hd] at h1
  have hn := num_pos' h0
  have h3 : a.num * 1 ≤ a.num * x.den := Int.mul_le_mul_of_nonneg_left (by omega) (by omega)
  exact ⟨by omega, by omega⟩
theorem lt_le {a b c : Rat} (h : a < b) (k : b ≤ c) : a < c := by grind
theorem simp_up (h0 : 0 < a) (hne : ((a.floor : Int) : Rat) ≠ a) (hab : ((a.floor + 1 : Int) : Rat) ≤ b) : Simp a b ((a.floor + 1 : Int) : Rat) := by
  refine ⟨Rat.le_of_lt (Rat.lt_floor_add_one a), hab, fun x h1 h2 => ?_⟩
  have hx := x.den_pos
  rw [Rat.den_intCast, Rat.num_intCast]
  have hf : 0 ≤ a.floor := Rat.le_floor_iff.2 (by simpa using Rat.le_of_lt h0)
  have hxa : ((a.floor : Int) : Rat) < x := lt_le (Rat.lt_of_le_of_ne (Rat.floor_le a) hne) h1
  rw [Rat.lt_iff, Rat.den_intCast, Rat.num_intCast] at hxa
  have h3 : a.floor * 1 ≤ a.floor * x.den := Int.mul_le_mul_of_nonneg_left (by omega) hf
  exact ⟨by omega, by omega⟩
theorem simp_step {f : Int} (hf : 0 ≤ f) (h1 : (f : Rat) < a) (h2 : b < ((f + 1 : Int) : Rat)) (hab : a ≤ b) (hy : Simp (b - f)⁻¹ (a - f)⁻¹ y) : Simp a b ((f : Rat) + y⁻¹) := by
  obtain ⟨k1, k2, k3⟩ := hy
  have pa : 0 < a - f := by grind
  have pb : 0 < b - f := by grind
  have ib : 0 < (b - f)⁻¹ := Rat.inv_pos.2 pb
  have py : 0 < y := lt_le ib k1
  have iy : 0 < y⁻¹ := Rat.inv_pos.2 py
  have anti : ∀ {s t : Rat}, 0 < s → s ≤ t → t⁻¹ ≤ s⁻¹ := fun {s t} hs hst => by
    have ht : 0 < t := lt_le hs hst
    have e1 := Rat.mul_inv_cancel s (by grind)
    have e2 := Rat.mul_inv_cancel t (by grind)
    have it : 0 < t⁻¹ := Rat.inv_pos.2 ht
    have is : 0 < s⁻¹ := Rat.inv_pos.2 hs
    have h : s * (s⁻¹ * t⁻¹) ≤ t * (s⁻¹ * t⁻¹) := Rat.mul_le_mul_of_nonneg_right hst (Rat.le_of_lt (Rat.mul_pos is it))
    have e3 : s * (s⁻¹ * t⁻¹) = t⁻¹ := by rw [← Rat.mul_assoc, e1, Rat.one_mul]
    have e4 : t * (s⁻¹ * t⁻¹) = s⁻¹ := by rw [Rat.mul_comm s⁻¹, ← Rat.mul_assoc, e2, Rat.one_mul]
    rw [e3, e4] at h
    exact h
  refine ⟨?_, ?_, fun x g1 g2 => ?_⟩
  · have := anti py k2
    rw [Rat.inv_inv] at this
    grind
  · have := anti ib k1
    rw [Rat.inv_inv] at this
    grind
  · have px : 0 < x - f := by grind
    obtain ⟨d1, d2⟩ := k3 (x - f)⁻¹ (anti px (by grind)) (anti pa (by grind))
    obtain ⟨n1, n2⟩ := inv_nd px
    obtain ⟨s1, s2⟩ := sub_nd x f
    obtain ⟨m1, m2⟩ := inv_nd py
    obtain ⟨t1, t2⟩ := add_nd y⁻¹ f
    have h3 : f * y.num ≤ f * x.den := Int.mul_le_mul_of_nonneg_left (by omega) hf
    rw [m1, m2] at t1
    rw [m2] at t2
    exact ⟨by omega, by omega⟩
theorem int_sz {n : Int} (h0 : 0 ≤ n) (hn : n < WW ^ K) (hK : 1 ≤ K) : Sz WW K (n : Rat) := by
  constructor
  · rw [Rat.num_intCast]; omega
  · rw [Rat.den_intCast]
    exact Int.lt_of_lt_of_le (show (1 : Int) < WW ^ 1 by decide) (P.pow_le (by decide) hK)
theorem next_sp {p q lp lq f : Int} {vp vq vlp vlq u : RatD} (hp : RB WW vp (p : Rat)) (hq : RB WW vq (q : Rat)) (hlp : RB WW vlp (lp : Rat)) (hlq : RB WW vlq (lq : Rat)) (hu : RB WW u (f : Rat))
    (sp : Sz WW K (p : Rat)) (sq : Sz WW K (q : Rat)) (slp : Sz WW K (lp : Rat)) (slq : Sz WW K (lq : Rat)) (su : Sz WW L (f : Rat)) (h : 2 * K + L < 268435000) :
    ∃ vp' vq', Ev (fun k => rat_convergent_next k (vp, vq, vlp, vlq, ()) u) ((), vp', vq', vp, vq, ()) ∧ RB WW vp' ((f * p + lp : Int) : Rat) ∧ RB WW vq' ((f * q + lq : Int) : Rat) := by
  obtain ⟨x, x1, x2, x3⟩ := num_Mul_sp hu hp su sp (by omega)
  obtain ⟨y, y1, y2, y3⟩ := num_Add_sp x2 hlp x3 slp (by omega)
  obtain ⟨z, z1, z2, z3⟩ := num_Mul_sp hu hq su sq (by omega)
  obtain ⟨t, t1, t2, t3⟩ := num_Add_sp z2 hlq z3 slq (by omega)
  refine ⟨y, t, Ev.step (fun k => rat_convergent_next_eq k _ _) (Ev.bind x1 (Ev.bind y1 (Ev.bind z1 (Ev.bind t1 (evs _))))), ?_, ?_⟩
  · rw [Rat.intCast_add, Rat.intCast_mul]; exact y2
  · rw [Rat.intCast_add, Rat.intCast_mul]; exact t2
theorem simp_fin {P Q : Int} {vp vq vlp vlq : RatD} (hp : RB WW vp (P : Rat)) (hq : RB WW vq (Q : Rat)) (hP : 0 ≤ P) (hQ : 0 < Q) (sP : P < WW ^ K) (sQ : Q < WW ^ K) (hK : 1 ≤ K) (hK2 : K ≤ 4096) :
    ∃ r, Ev (fun k => rat_Simplest.j0 k r4 (vp, vq, vlp, vlq, ())) (r, 0, ()) ∧ RB WW r (Rat.divInt P Q) := by
  obtain ⟨r, r1, r2, r3⟩ := num_Div_sp hp hq (int_sz hP sP hK) (int_sz (by omega) sQ hK) (int_ne (by omega)) (by omega)
  rw [← Rat.divInt_eq_div] at r2 r3
  have s : Sz WW K (Rat.divInt P Q) := sz_frac (s := false) hP hQ sP sQ
  exact ⟨r, Ev.bind r1 (Ev.bind (rat_limited_sp r2 (sz_mono WW_pos s hK2)) (evs _)), r2⟩
theorem step_alg (p lp f n d : Int) : (f * p + lp) * d + p * (n - f * d) = p * n + lp * d := by grind
theorem step_alg' (p lp f n d : Int) : (f * p + lp) * n + p * d = p * (d + f * n) + lp * n := by grind
theorem le_add_mul {p lp n d : Int} (hp : 0 ≤ p) (hl : 0 ≤ lp) (hn : 1 ≤ n) (hd : 1 ≤ d) : p ≤ p * n + lp * d ∧ lp ≤ p * n + lp * d := by
  have h1 : p * 1 ≤ p * n := Int.mul_le_mul_of_nonneg_left hn hp
  have h2 : lp * 1 ≤ lp * d := Int.mul_le_mul_of_nonneg_left hd hl
  omega
theorem simp_l0 (hK : 1 ≤ K) (hK2 : K ≤ 4096) (N : Nat) : ∀ {a b : Rat} {v w : RatD} {p q lp lq : Int} {vp vq vlp vlq : RatD}, a.den + b.den ≤ N → 0 < a → a ≤ b → RB WW v a → RB WW w b → Sz WW K a → Sz WW K b →
    RB WW vp (p : Rat) → RB WW vq (q : Rat) → RB WW vlp (lp : Rat) → RB WW vlq (lq : Rat) → 0 ≤ p → 0 ≤ q → 0 ≤ lp → 0 ≤ lq → 0 < q + lq →
    p * a.num + lp * a.den < WW ^ K → q * a.num + lq * a.den < WW ^ K → p * b.num + lp * b.den < WW ^ K → q * b.num + lq * b.den < WW ^ K →
    ∃ r y, Ev2 (fun k m => rat_Simplest.l0 k m v w r4 (vp, vq, vlp, vlq, ())) (r, 0, ()) ∧ Simp a b y ∧ RB WW r (Rat.divInt (p * y.num + lp * y.den) (q * y.num + lq * y.den)) := by
  induction N with
  | zero => intro a b v w p q lp lq vp vq vlp vlq h; have := a.den_pos; omega
  | succ N ih =>
    intro a b v w p q lp lq vp vq vlp vlq hN h0 hab hv hw sa sb hp hq hlp hlq gp gq glp glq gqq b1 b2 b3 b4
    have na := num_pos' h0
    have da := a.den_pos
    have db := b.den_pos
    have nb := num_pos' (lt_le h0 hab)
    have c1 := le_add_mul gp glp (show 1 ≤ a.num by omega) (show 1 ≤ (a.den : Int) by omega)
    have c2 := le_add_mul gq glq (show 1 ≤ a.num by omega) (show 1 ≤ (a.den : Int) by omega)
    have sp := int_sz gp (show p < WW ^ K by omega) hK
    have sq := int_sz gq (show q < WW ^ K by omega) hK
    have slp := int_sz glp (show lp < WW ^ K by omega) hK
    have slq := int_sz glq (show lq < WW ^ K by omega) hK
    obtain ⟨u, u1, u2, u3⟩ := num_Floor_sp hv sa (by omega)
    have e1 := num_Equal_sp u2 hv u3 sa (by omega)
    have hf : 0 ≤ a.floor := Rat.le_floor_iff.2 (by simpa using Rat.le_of_lt h0)
    by_cases c : ((a.floor : Int) : Rat) = a
    · obtain ⟨vp', vq', n1, n2, n3⟩ := next_sp hp hq hlp hlq u2 sp sq slp slq u3 (by omega)
      have hd : a.den = 1 := by rw [← c, Rat.den_intCast]
      have hn : a.num = a.floor := by rw [show a.num = ((a.floor : Int) : Rat).num by rw [c], Rat.num_intCast]
      have ep : a.floor * p + lp = p * a.num + lp * a.den := by rw [hd, hn]; grind
      have eq : a.floor * q + lq = q * a.num + lq * a.den := by rw [hd, hn]; grind
      rw [ep] at n2
      rw [eq] at n3
      obtain ⟨r, r1, r2⟩ := simp_fin (r4 := r4) (vlp := vp) (vlq := vq) n2 n3 (by omega) (by omega) b1 b2 hK hK2
      refine ⟨r, a, Ev2.step (fun k m => rat_Simplest.l0_succ k m _ _ _ _) (Ev2.bind u1 (Ev2.bind e1 (Ev2.bT (decide_eq_true c) (Ev2.bind n1 (Ev2.of r1))))), simp_int h0 hab c, r2⟩
    · obtain ⟨t, t1, t2, t3⟩ := num_Add_sp u2 (rb_one WW_one) u3 (sz_one WW_one (Nat.le_refl 1)) (by omega)
      have et : ((a.floor : Int) : Rat) + 1 = ((a.floor + 1 : Int) : Rat) := by rw [Rat.intCast_add]; rfl
      rw [et] at t2 t3
      have k1 := num_Cmp_sp t2 hw t3 sb (by omega)
      by_cases d : ((a.floor + 1 : Int) : Rat) ≤ b
      · have hc : decide (cmpq ((a.floor + 1 : Int) : Rat) b ≤ 0) = true := by
          apply decide_eq_true
          unfold cmpq
          split
          · decide
          · rename_i h; rw [if_pos (Rat.le_antisymm d (Rat.not_lt.1 h))]; decide
        obtain ⟨vp', vq', n1, n2, n3⟩ := next_sp hp hq hlp hlq t2 sp sq slp slq t3 (by omega)
        have hbn : a.floor + 1 ≤ b.num := by
          have d2 := d
          rw [Rat.le_iff, Rat.den_intCast, Rat.num_intCast] at d2
          have : (a.floor + 1) * 1 ≤ (a.floor + 1) * b.den := Int.mul_le_mul_of_nonneg_left (by omega) (by omega)
          omega
        have up : ∀ {p lp : Int}, 0 ≤ p → 0 ≤ lp → (a.floor + 1) * p + lp ≤ p * b.num + lp * b.den := fun {p lp} h1 h2 => by
          have h3 : p * (a.floor + 1) ≤ p * b.num := Int.mul_le_mul_of_nonneg_left hbn h1
          have h4 : lp * 1 ≤ lp * b.den := Int.mul_le_mul_of_nonneg_left (by omega) h2
          rw [Int.mul_comm (a.floor + 1)]
          omega
        have u5 := up gp glp
        have u6 := up gq glq
        have p1 : 0 ≤ (a.floor + 1) * p := Int.mul_nonneg (by omega) gp
        have p2 : 1 * q ≤ (a.floor + 1) * q := Int.mul_le_mul_of_nonneg_right (by omega) gq
        obtain ⟨r, r1, r2⟩ := simp_fin (r4 := r4) (vlp := vp) (vlq := vq) n2 n3 (by omega) (by omega) (show _ < WW ^ K by omega) (show _ < WW ^ K by omega) hK hK2
        refine ⟨r, _, Ev2.step (fun k m => rat_Simplest.l0_succ k m _ _ _ _) (Ev2.bind u1 (Ev2.bind e1 (Ev2.bF (decide_eq_false c) (Ev2.bind num_One_ev (Ev2.bind t1 (Ev2.bind k1 (Ev2.bT hc (Ev2.bind n1 (Ev2.of r1)))))))))
          , simp_up h0 c d, ?_⟩
        rw [Rat.den_intCast, Rat.num_intCast, Int.mul_comm p, Int.mul_comm q]
        simpa using r2
      · have hlt : b < ((a.floor + 1 : Int) : Rat) := Rat.not_le.1 d
        have hfa : ((a.floor : Int) : Rat) < a := Rat.lt_of_le_of_ne (Rat.floor_le a) c
        have hc : decide (cmpq ((a.floor + 1 : Int) : Rat) b ≤ 0) = false := by
          apply decide_eq_false
          unfold cmpq
          rw [if_neg (Rat.not_lt.2 (Rat.le_of_lt hlt)), if_neg (fun e => by rw [e] at hlt; exact absurd hlt (Rat.not_lt.2 Rat.le_refl))]
          decide
        obtain ⟨vp', vq', n1, n2, n3⟩ := next_sp hp hq hlp hlq u2 sp sq slp slq u3 (by omega)
        obtain ⟨x, x1, x2, x3⟩ := num_Sub_sp hw u2 sb u3 (by omega)
        obtain ⟨z, z1, z2, z3⟩ := num_Sub_sp hv u2 sa u3 (by omega)
        have pa : 0 < a - ((a.floor : Int) : Rat) := by grind
        have pb : 0 < b - ((a.floor : Int) : Rat) := by grind
        obtain ⟨x', x1', x2', x3'⟩ := num_Inv_sp x2 x3 (by grind) (by omega)
        obtain ⟨z', z1', z2', z3'⟩ := num_Inv_sp z2 z3 (by grind) (by omega)
        obtain ⟨ma1, ma2⟩ := sub_nd a a.floor
        obtain ⟨mb1, mb2⟩ := sub_nd b a.floor
        obtain ⟨ia1, ia2⟩ := inv_nd pa
        obtain ⟨ib1, ib2⟩ := inv_nd pb
        rw [ma1] at ia2
        rw [ma2] at ia1
        rw [mb1] at ib2
        rw [mb2] at ib1
        have la : a.num - a.floor * a.den < a.den := by
          have := Rat.lt_floor_add_one a
          rw [Rat.lt_iff, Rat.den_intCast, Rat.num_intCast, Int.add_mul] at this
          omega
        have lb : b.num - a.floor * b.den < b.den := by
          have h := hlt
          rw [Rat.lt_iff, Rat.den_intCast, Rat.num_intCast, Int.add_mul] at h
          omega
        have pia : 0 < (a - ((a.floor : Int) : Rat))⁻¹ := Rat.inv_pos.2 pa
        have pib : 0 < (b - ((a.floor : Int) : Rat))⁻¹ := Rat.inv_pos.2 pb
        have dpa := (a - ((a.floor : Int) : Rat))⁻¹.den_pos
        have dpb := (b - ((a.floor : Int) : Rat))⁻¹.den_pos
        have hord : (b - ((a.floor : Int) : Rat))⁻¹ ≤ (a - ((a.floor : Int) : Rat))⁻¹ := by
          rw [Rat.le_iff, ia1, ib1, ia2, ib2]
          have h := hab
          rw [Rat.le_iff] at h
          grind
        have s1 : Sz WW K (b - ((a.floor : Int) : Rat))⁻¹ := ⟨by rw [ib1]; have := sb.2; omega, by have := sb.2; omega⟩
        have s2 : Sz WW K (a - ((a.floor : Int) : Rat))⁻¹ := ⟨by rw [ia1]; have := sa.2; omega, by have := sa.2; omega⟩
        obtain ⟨r, y, r1, r2, r3⟩ := ih (a := (b - ((a.floor : Int) : Rat))⁻¹) (b := (a - ((a.floor : Int) : Rat))⁻¹) (by omega) pib hord x2' z2' s1 s2 n2 n3 hp hq
          (by have := Int.mul_nonneg hf gp; omega) (by have := Int.mul_nonneg hf gq; omega) gp gq
          (by
            rcases Int.lt_or_le 0 q with h | h
            · have := Int.mul_nonneg hf gq; omega
            · have : q = 0 := by omega
              subst this
              omega)
          (by rw [ib1, ib2, step_alg]; exact b3) (by rw [ib1, ib2, step_alg]; exact b4) (by rw [ia1, ia2, step_alg]; exact b1) (by rw [ia1, ia2, step_alg]; exact b2)
        have py : 0 < y := lt_le pib r2.1
        obtain ⟨m1, m2⟩ := inv_nd py
        obtain ⟨t1', t2'⟩ := add_nd y⁻¹ a.floor
        rw [m1, m2] at t1'
        rw [m2] at t2'
        refine ⟨r, _, Ev2.step (fun k m => rat_Simplest.l0_succ k m _ _ _ _) (Ev2.bind u1 (Ev2.bind e1 (Ev2.bF (decide_eq_false c) (Ev2.bind num_One_ev (Ev2.bind t1 (Ev2.bind k1 (Ev2.bF hc (Ev2.bind n1 (Ev2.bind x1 (Ev2.bind x1' (Ev2.bind z1 (Ev2.bind z1' r1)))))))))))), simp_step hf hfa hlt hab r2, ?_⟩
        rw [t1', t2', ← step_alg', ← step_alg']
        exact r3
def Near (a b y : Rat) : Prop := a ≤ y ∧ y ≤ b ∧ ∀ x, a ≤ x → x ≤ b → y.den ≤ x.den ∧ y.num.natAbs ≤ x.num.natAbs
theorem near_sz {B : Int} (h : Near a b y) (hab : a ≤ b) (sa : Sz B K a) : Sz B K y := by
  obtain ⟨h1, h2⟩ := h.2.2 a Rat.le_refl hab
  exact ⟨by have := sa.1; omega, by have := sa.2; omega⟩
theorem near_pos (h0 : 0 < a) (h : Simp a b y) : Near a b y := by
  refine ⟨h.1, h.2.1, fun x h1 h2 => ?_⟩
  obtain ⟨d1, d2⟩ := h.2.2 x h1 h2
  have := num_pos' (lt_le h0 h.1)
  exact ⟨d1, by omega⟩
theorem near_neg (h : Near (-b) (-a) y) : Near a b (-y) := by
  refine ⟨by have := h.2.1; grind, by have := h.1; grind, fun x h1 h2 => ?_⟩
  obtain ⟨d1, d2⟩ := h.2.2 (-x) (by grind) (by grind)
  rw [Rat.neg_den] at d1 ⊢
  rw [Rat.neg_num] at d2 ⊢
  exact ⟨d1, by omega⟩
theorem sgn_le (p : Rat) : decide (sgn p ≤ 0) = decide (p ≤ 0) := by
  rcases sgn_vals p with ⟨h, g⟩ | ⟨h, g⟩ | ⟨h, g⟩ <;> rw [h] <;> simp <;> grind
theorem sgn_ge (p : Rat) : decide (sgn p ≥ 0) = decide (0 ≤ p) := by
  rcases sgn_vals p with ⟨h, g⟩ | ⟨h, g⟩ | ⟨h, g⟩ <;> rw [h] <;> simp <;> grind
theorem sgn_lt (p : Rat) : decide (sgn p < 0) = decide (p < 0) := by
  rcases sgn_vals p with ⟨h, g⟩ | ⟨h, g⟩ | ⟨h, g⟩ <;> rw [h] <;> simp <;> grind
theorem cmpq_gt (p q : Rat) : decide (cmpq p q > 0) = decide (q < p) := by
  unfold cmpq
  split
  · simp; grind
  · split
    · simp; grind
    · simp; grind
theorem rat_Simplest_pos (hv : RB WW v a) (hw : RB WW w b) (sa : Sz WW K a) (sb : Sz WW K b) (h0 : 0 < a) (hab : a ≤ b) (hK : 1 ≤ K) (hK2 : K ≤ 4096) :
    ∃ r y, Ev (fun k => rat_Simplest k v w) (r, 0, ()) ∧ RB WW r y ∧ Near a b y := by
  have a1 := rat_Valid_ev (arg_of hv sa (by omega)) ⟨a, hv, sz_mono WW_pos sa hK2⟩
  have a2 := rat_Valid_ev (arg_of hw sb (by omega)) ⟨b, hw, sz_mono WW_pos sb hK2⟩
  have na := num_pos' h0
  have nb := num_pos' (lt_le h0 hab)
  obtain ⟨r, y, r1, r2, r3⟩ := simp_l0 (r4 := nothing) hK hK2 (a.den + b.den) (Nat.le_refl _) h0 hab hv hw sa sb (p := 1) (q := 0) (lp := 0) (lq := 1) (rb_one WW_one) (rb_zero WW_one) (rb_zero WW_one) (rb_one WW_one) (by omega) (by omega) (by omega) (by omega) (by omega)
    (by have := sa.1; omega) (by have := sa.2; omega) (by have := sb.1; omega) (by have := sb.2; omega)
  have e : Rat.divInt (1 * y.num + 0 * y.den) (0 * y.num + 1 * y.den) = y := by
    rw [show 1 * y.num + 0 * y.den = y.num by omega, show 0 * y.num + 1 * (y.den : Int) = y.den by omega, Rat.num_divInt_den]
  rw [e] at r3
  refine ⟨r, y, Ev.step (fun k => rat_Simplest_eq k v w) <| Ev.bind a1 <| Ev.bind (a := false) (bF rfl (Ev.bind a2 (evs _))) <| bF rfl <| Ev.bind (num_Cmp_sp hv hw sa sb (by omega)) <| bF ?_ <| Ev.bind (num_Sign_sp hv) <| Ev.bind (a := false) (bF ?_ (evs _)) <| bF rfl <| Ev.bind (num_Sign_sp hw) <| bF ?_ <| Ev.bind num_One_ev <| Ev.bind num_Zero_ev <| Ev.bind num_Zero_ev <| Ev.bind num_One_ev r1.diag, r3, near_pos h0 r2⟩
  · rw [cmpq_gt]; exact decide_eq_false (Rat.not_lt.2 hab)
  · rw [sgn_le]; exact decide_eq_false (by grind)
  · rw [sgn_lt]; exact decide_eq_false (by grind)
theorem rat_Simplest_sp (hv : RB WW v a) (hw : RB WW w b) (sa : Sz WW K a) (sb : Sz WW K b) (hab : a ≤ b) (hK : 1 ≤ K) (hK2 : K ≤ 4096) :
    ∃ r y, Ev (fun k => rat_Simplest k v w) (r, 0, ()) ∧ RB WW r y ∧ Sz WW K y ∧ Near a b y := by
  have a1 := rat_Valid_ev (arg_of hv sa (by omega)) ⟨a, hv, sz_mono WW_pos sa hK2⟩
  have a2 := rat_Valid_ev (arg_of hw sb (by omega)) ⟨b, hw, sz_mono WW_pos sb hK2⟩
  have kc : decide (cmpq a b > 0) = false := by rw [cmpq_gt]; exact decide_eq_false (Rat.not_lt.2 hab)
  by_cases h0 : 0 < a
  · obtain ⟨r, y, r1, r2, r3⟩ := rat_Simplest_pos hv hw sa sb h0 hab hK hK2
    exact ⟨r, y, r1, r2, near_sz r3 hab sa, r3⟩
  · by_cases h1 : 0 ≤ b
    · refine ⟨_, 0, Ev.step (fun k => rat_Simplest_eq k v w) (Ev.bind a1 (Ev.bind (a := false) (bF rfl (Ev.bind a2 (evs _))) (bF rfl (Ev.bind (num_Cmp_sp hv hw sa sb (by omega)) (bF kc (Ev.bind (num_Sign_sp hv) (Ev.bind (a := true) (bT ?_ (Ev.bind (num_Sign_sp hw) ?_)) (bT rfl (Ev.bind num_Zero_ev (evs _)))))))))), rb_zero WW_one, ⟨Int.pow_pos WW_pos, ?_⟩, by grind, by grind, fun x _ _ => ⟨?_, ?_⟩⟩
      · rw [sgn_le]; exact decide_eq_true (by grind)
      · rw [sgn_ge, decide_eq_true h1]; exact evs _
      · exact (sz_one WW_one hK).2
      · exact x.den_pos
      · exact Nat.zero_le _
    · obtain ⟨s, s1, s2, s3⟩ := num_Neg_sp hw sb (by omega)
      obtain ⟨t, t1, t2, t3⟩ := num_Neg_sp hv sa (by omega)
      obtain ⟨r, y, r1, r2, r3⟩ := rat_Simplest_pos s2 t2 s3 t3 (by grind) (by grind) hK hK2
      have r4 := near_sz r3 (by grind) s3
      obtain ⟨u, u1, u2, u3⟩ := num_Neg_sp r2 r4 (by omega)
      refine ⟨u, -y, Ev.step (fun k => rat_Simplest_eq k v w) <| Ev.bind a1 <| Ev.bind (a := false) (bF rfl (Ev.bind a2 (evs _))) <| bF rfl <| Ev.bind (num_Cmp_sp hv hw sa sb (by omega)) <| bF kc <| Ev.bind (num_Sign_sp hv) <| Ev.bind (a := false) (bT ?_ (Ev.bind (num_Sign_sp hw) ?_)) <| bF rfl <| Ev.bind (num_Sign_sp hw) <| bT ?_ <| Ev.bind s1 <| Ev.bind t1 <| Ev.bind r1 <| bF rfl <| Ev.bind u1 (evs _), u2, u3, near_neg r3⟩
      · rw [sgn_le]; exact decide_eq_true (by grind)
      · rw [sgn_ge, decide_eq_false h1]; exact evs _
      · rw [sgn_lt]; exact decide_eq_true (by grind)
theorem rat_Simplest_err (hv : RB WW v a) (hw : RB WW w b) (sa : Sz WW K a) (sb : Sz WW K b) (hab : b < a) (hK2 : K ≤ 4096) : Ev (fun k => rat_Simplest k v w) (nothing, 1, ()) := by
  have a1 := rat_Valid_ev (arg_of hv sa (by omega)) ⟨a, hv, sz_mono WW_pos sa hK2⟩
  have a2 := rat_Valid_ev (arg_of hw sb (by omega)) ⟨b, hw, sz_mono WW_pos sb hK2⟩
  exact Ev.step (fun k => rat_Simplest_eq k v w) (Ev.bind a1 (Ev.bind (a := false) (bF rfl (Ev.bind a2 (evs _))) (bF rfl (Ev.bind (num_Cmp_sp hv hw sa sb (by omega)) (bT (by rw [cmpq_gt]; exact decide_eq_true hab) (evs _))))))
end
end Go.Proofs.Ytfpolhoabfadnaa.Q
end
section
namespace Go.Proofs.Ytfpolhoabfadnaa.Q
open Go.RowKit Go.Proofs.YtfpolhoabfadnaaW.PrintWords Go.Proofs.YtfpolhoabfadnaaW.PrintMore Go.Proofs.Ytfpolhoabfadnaa.V Go.Proofs.Ytfpolhoabfadnaa.E
open Go.Proofs.Ytfpolhoabfadnaa.P (Dg Nm vl WW RR TT asc can_uniq gI evs evk evb cmpi WW_pos WW_one RR_pos w64 u64)
set_option linter.unusedVariables false
section
variable {v w r4 va vb vy : RatD} {a b x y : Rat} {K L : Nat}
theorem ref_Int_sp {z : Int} (h0 : -1000000000000 < z) (h1 : z < 1000000000000) : ∃ r, Ev (fun k => isochroneref02_Int k z) r ∧ RB RR r (z : Rat) ∧ Sz RR 4 (z : Rat) := by
  have hsz : Sz RR 4 (z : Rat) := by
    constructor
    · rw [Rat.num_intCast]; have : (RR : Int) ^ 4 = 10000000000000000 := by decide
      omega
    · rw [Rat.den_intCast]; decide
  by_cases c : z < 0
  · obtain ⟨x, x1, x2⟩ := s_Int (a := -z) (by omega) (by omega)
    refine ⟨_, Ev.step (fun k => isochroneref02_Int_eq k z) (bT (decide_eq_true c) (Ev.bind (by rw [w64 (x := -z) (by omega) (by omega)]; exact x1) (evs _))), ⟨?_, ?_, can1 RR_one⟩, hsz⟩
    · rw [Rat.num_intCast]; exact (decide_eq_true c).symm
    · rw [Rat.num_intCast, show ((z.natAbs : Nat) : Int) = -z by omega]; exact x2
  · obtain ⟨x, x1, x2⟩ := s_Int (a := z) (by omega) (by omega)
    refine ⟨_, Ev.step (fun k => isochroneref02_Int_eq k z) (bF (decide_eq_false c) (Ev.bind x1 (evs _))), ⟨?_, ?_, can1 RR_one⟩, hsz⟩
    · rw [Rat.num_intCast]; exact (decide_eq_false c).symm
    · rw [Rat.num_intCast, show ((z.natAbs : Nat) : Int) = z by omega]; exact x2
theorem divInt_le {n k : Int} (hk : 0 < k) : ((Rat.divInt n k).den : Int) ≤ k ∧ (Rat.divInt n k).num.natAbs ≤ n.natAbs := by
  constructor
  · rw [Rat.den_divInt, if_neg (by omega)]
    have : k.natAbs / (k.gcd n) ≤ k.natAbs := Nat.div_le_self ..
    omega
  · rw [Rat.num_divInt, Int.sign_eq_one_of_pos hk, Int.one_mul, Int.natAbs_ediv_of_dvd (Int.gcd_dvd_right ..)]
    exact Nat.div_le_self ..
theorem le_divInt {n k : Int} (hk : 0 < k) : a ≤ Rat.divInt n k ↔ a * (k : Rat) ≤ (n : Rat) := by
  rw [Rat.divInt_eq_div]
  have hk' : (0 : Rat) < (k : Rat) := Rat.intCast_pos.2 hk
  constructor
  · intro h
    have := Rat.mul_le_mul_of_nonneg_right h (Rat.le_of_lt hk')
    rwa [Rat.div_mul_cancel (int_ne (by omega))] at this
  · intro h
    refine Rat.le_of_mul_le_mul_right (c := (k : Rat)) ?_ hk'
    rwa [Rat.div_mul_cancel (int_ne (by omega))]
theorem divInt_le' {n k : Int} (hk : 0 < k) : Rat.divInt n k ≤ b ↔ (n : Rat) ≤ b * (k : Rat) := by
  rw [Rat.divInt_eq_div]
  have hk' : (0 : Rat) < (k : Rat) := Rat.intCast_pos.2 hk
  constructor
  · intro h
    have := Rat.mul_le_mul_of_nonneg_right h (Rat.le_of_lt hk')
    rwa [Rat.div_mul_cancel (int_ne (by omega))] at this
  · intro h
    refine Rat.le_of_mul_le_mul_right (c := (k : Rat)) ?_ hk'
    rwa [Rat.div_mul_cancel (int_ne (by omega))]
def lowK (a : Rat) (k : Int) : Int := -(-(a * (k : Rat))).floor
def highK (b : Rat) (k : Int) : Int := (b * (k : Rat)).floor
theorem low_le {n k : Int} (hk : 0 < k) : lowK a k ≤ n ↔ a ≤ Rat.divInt n k := by
  rw [le_divInt hk]
  unfold lowK
  rw [show -(-(a * (k : Rat))).floor ≤ n ↔ -n ≤ (-(a * (k : Rat))).floor by omega, Rat.le_floor_iff, Rat.intCast_neg]
  grind
theorem le_high {n k : Int} (hk : 0 < k) : n ≤ highK b k ↔ Rat.divInt n k ≤ b := by
  rw [divInt_le' hk]
  unfold highK
  exact Rat.le_floor_iff
theorem self_divInt (y : Rat) : Rat.divInt y.num (y.den : Int) = y := Rat.num_divInt_den y
theorem near_low (h : Near a b y) {k : Int} (hk : 0 < k) (hlt : k < y.den) : highK b k < lowK a k := by
  refine Classical.byContradiction fun c => ?_
  have h1 : a ≤ Rat.divInt (lowK a k) k := (low_le hk).1 (Int.le_refl _)
  have h2 : Rat.divInt (lowK a k) k ≤ b := (le_high hk).1 (by omega)
  have := (h.2.2 _ h1 h2).1
  have := (divInt_le (n := lowK a k) hk).1
  omega
theorem near_at (h : Near a b y) : lowK a y.den ≤ y.num ∧ y.num ≤ highK b y.den ∧ (highK b y.den < 0 → y.num = highK b y.den) ∧ (0 ≤ highK b y.den → lowK a y.den ≤ 0 → y.num = 0) ∧ (0 < lowK a y.den → y.num = lowK a y.den) := by
  have hd := den_pos' y
  have h1 : lowK a y.den ≤ y.num := (low_le hd).2 (by rw [self_divInt]; exact h.1)
  have h2 : y.num ≤ highK b y.den := (le_high hd).2 (by rw [self_divInt]; exact h.2.1)
  have key : ∀ z : Int, lowK a y.den ≤ z → z ≤ highK b y.den → y.num.natAbs ≤ z.natAbs := fun z z1 z2 => by
    have := (h.2.2 _ ((low_le hd).1 z1) ((le_high hd).1 z2)).2
    have := (divInt_le (n := z) hd).2
    omega
  refine ⟨h1, h2, fun c => ?_, fun c d => ?_, fun c => ?_⟩
  · have := key _ (by omega) (Int.le_refl _); omega
  · have := key 0 d c; omega
  · have := key _ (Int.le_refl _) (by omega); omega
theorem simplest_l0 (hn : Near a b y) (hy : y.den ≤ 400) (ha : RB RR va a) (hb : RB RR vb b) (hv : RB RR vy y) (sa : Sz RR 40 a) (sb : Sz RR 40 b) (sy : Sz RR 40 y) (t : Nat) :
    ∀ k : Nat, 1 ≤ k → k + t = y.den → Ev2 (fun q m => isochronelaw02_RatSimplest.l0 q m (k : Int) va vb vy) true := by
  induction t with
  | zero =>
    intro k k1 k2
    have hk : (0 : Int) < (k : Int) := by omega
    obtain ⟨i, i1, i2, i3⟩ := ref_Int_sp (z := (k : Int)) (by omega) (by omega)
    obtain ⟨p, p1, p2, p3⟩ := ref_Mul_sp ha i2 sa i3 (by omega)
    obtain ⟨q, q1, q2, q3⟩ := ref_Neg_sp p2 p3
    obtain ⟨f, f1, f2, f3⟩ := ref_Floor_sp q2 q3 (by omega)
    obtain ⟨l, l1, l2, l3⟩ := ref_Neg_sp f2 f3
    obtain ⟨u, u1, u2, u3⟩ := ref_Mul_sp hb i2 sb i3 (by omega)
    obtain ⟨g, g1, g2, g3⟩ := ref_Floor_sp u2 u3 (by omega)
    have c1 := ref_Cmp_sp l2 g2 l3 g3 (by omega)
    have el : -(((-(a * ((k : Int) : Rat))).floor : Int) : Rat) = ((lowK a k : Int) : Rat) := by unfold lowK; rw [Rat.intCast_neg]
    rw [el] at l2 l3 c1
    have eh : (((b * ((k : Int) : Rat)).floor : Int) : Rat) = ((highK b k : Int) : Rat) := rfl
    rw [eh] at g2 g3 c1
    have ek : (y.den : Int) = (k : Int) := by omega
    obtain ⟨n1, n2, n3, n4, n5⟩ := near_at hn
    rw [ek] at n1 n2 n3 n4 n5
    have hc : decide (cmpq ((lowK a k : Int) : Rat) ((highK b k : Int) : Rat) > 0) = false := by
      rw [cmpq_gt]
      refine decide_eq_false (Rat.not_lt.2 (Rat.intCast_le_intCast.2 (by omega)))
    have fin : ∀ (z : RatD) (Z : Int), RB RR z (Z : Rat) → Sz RR 100 (Z : Rat) → y.num = Z → Ev2 (fun q m => isochronelaw02_RatSimplest.j0 q m (k : Int) vy z) true := fun z Z hz sz e => by
      obtain ⟨d, d1, d2, d3⟩ := ref_Div_sp hz i2 sz i3 (int_ne (by omega)) (by omega)
      have c2 := ref_Cmp_sp hv d2 sy d3 (by omega)
      have ey : (Z : Rat) / ((k : Int) : Rat) = y := by rw [← e, ← ek]; exact (val_nd y).symm
      rw [ey] at c2
      refine Ev2.of (Ev.bind i1 (Ev.bind d1 (Ev.bind c2 ?_)))
      have : (cmpq y y == (0 : Int)) = true := by unfold cmpq; rw [if_neg (Rat.not_lt.2 Rat.le_refl), if_pos rfl]; rfl
      rw [this]
      exact evs _
    refine Ev2.step (fun q m => isochronelaw02_RatSimplest.l0_succ q m _ _ _ _) <| Ev2.bT (decide_eq_true (by omega)) <| Ev2.bind i1 <| Ev2.bind p1 <| Ev2.bind q1 <| Ev2.bind f1 <| Ev2.bind l1 <| Ev2.bind i1 <| Ev2.bind u1 <| Ev2.bind g1 <| Ev2.bind c1 <| Ev2.bF hc <| Ev2.bind (ref_Sign_sp g2) ?_
    have sh : decide (sgn ((highK b k : Int) : Rat) < 0) = decide (highK b k < 0) := by rw [sgn_lt]; exact decide_eq_decide.2 Rat.intCast_lt_intCast
    have sl : decide (sgn ((lowK a k : Int) : Rat) ≤ 0) = decide (lowK a k ≤ 0) := by rw [sgn_le]; exact decide_eq_decide.2 Rat.intCast_le_intCast
    by_cases h1 : highK b k < 0
    · exact Ev2.bT (sh.trans (decide_eq_true h1)) (fin g _ g2 (sz_mono RR_pos g3 (by omega)) (n3 h1))
    · refine Ev2.bF (sh.trans (decide_eq_false h1)) (Ev2.bind (ref_Sign_sp l2) ?_)
      by_cases h2 : lowK a k ≤ 0
      · refine Ev2.bT (sl.trans (decide_eq_true h2)) (Ev2.bind ref_Zero_ev (fin _ 0 (rb_zero RR_one) ⟨by decide, by decide⟩ (n4 (by omega) h2)))
      · exact Ev2.bF (sl.trans (decide_eq_false h2)) (fin l _ l2 (sz_mono RR_pos l3 (by omega)) (n5 (by omega)))
  | succ t ih =>
    intro k k1 k2
    have hk : (0 : Int) < (k : Int) := by omega
    obtain ⟨i, i1, i2, i3⟩ := ref_Int_sp (z := (k : Int)) (by omega) (by omega)
    obtain ⟨p, p1, p2, p3⟩ := ref_Mul_sp ha i2 sa i3 (by omega)
    obtain ⟨q, q1, q2, q3⟩ := ref_Neg_sp p2 p3
    obtain ⟨f, f1, f2, f3⟩ := ref_Floor_sp q2 q3 (by omega)
    obtain ⟨l, l1, l2, l3⟩ := ref_Neg_sp f2 f3
    obtain ⟨u, u1, u2, u3⟩ := ref_Mul_sp hb i2 sb i3 (by omega)
    obtain ⟨g, g1, g2, g3⟩ := ref_Floor_sp u2 u3 (by omega)
    have c1 := ref_Cmp_sp l2 g2 l3 g3 (by omega)
    have el : -(((-(a * ((k : Int) : Rat))).floor : Int) : Rat) = ((lowK a k : Int) : Rat) := by unfold lowK; rw [Rat.intCast_neg]
    rw [el] at c1
    have eh : (((b * ((k : Int) : Rat)).floor : Int) : Rat) = ((highK b k : Int) : Rat) := rfl
    rw [eh] at c1
    have hlt := near_low hn hk (by omega)
    have hc : decide (cmpq ((lowK a k : Int) : Rat) ((highK b k : Int) : Rat) > 0) = true := by
      rw [cmpq_gt]
      exact decide_eq_true (Rat.intCast_lt_intCast.2 hlt)
    refine Ev2.step (fun q m => isochronelaw02_RatSimplest.l0_succ q m _ _ _ _) <| Ev2.bT (decide_eq_true (by omega)) <| Ev2.bind i1 <| Ev2.bind p1 <| Ev2.bind q1 <| Ev2.bind f1 <| Ev2.bind l1 <| Ev2.bind i1 <| Ev2.bind u1 <| Ev2.bind g1 <| Ev2.bind c1 <| Ev2.bT hc ?_
    rw [w64 (x := (k : Int) + 1) (by omega) (by omega)]
    exact ih (k + 1) (by omega) (by omega)
theorem i32_range {n : Int} (h : (Lit.int .i32 n).wf = true) : -2147483648 ≤ n ∧ n ≤ 2147483647 := by
  have h2 : IntKind.i32.min = -2147483648 := rfl
  have h3 : IntKind.i32.max = 2147483647 := rfl
  simp only [Lit.wf, Bool.and_eq_true, decide_eq_true_eq, h2, h3] at h
  omega
theorem u16_range {n : Int} (h : (Lit.int .u16 n).wf = true) : 0 ≤ n ∧ n ≤ 65535 := by
  have h2 : IntKind.u16.min = 0 := rfl
  have h3 : IntKind.u16.max = 65535 := rfl
  simp only [Lit.wf, Bool.and_eq_true, decide_eq_true_eq, h2, h3] at h
  omega
theorem end_sp {n d : Int} (h0 : -2147483648 ≤ n) (h1 : n ≤ 2147483647) (d0 : 0 ≤ d) (d1 : d ≤ 65535) : ∃ s t r u, Ev (fun k => isochroneref02_Int k (wrap64 n)) s ∧ Ev (fun k => isochroneref02_Int k (wrap64 ((wrap64 (Int.tmod d (400 : Int))) + (1 : Int)))) t ∧ Ev (fun k => isochroneref02_Div k s t) r ∧ Ev (fun k => isochroneref02_To k r) u ∧
    RB RR r ((n : Rat) / ((d % 400 + 1 : Int) : Rat)) ∧ Sz RR 40 ((n : Rat) / ((d % 400 + 1 : Int) : Rat)) ∧ RB WW u ((n : Rat) / ((d % 400 + 1 : Int) : Rat)) ∧ Sz WW 1 ((n : Rat) / ((d % 400 + 1 : Int) : Rat)) ∧ ((n : Rat) / ((d % 400 + 1 : Int) : Rat)).den ≤ 400 := by
  have hm : Int.tmod d 400 = d % 400 := Int.tmod_eq_emod_of_nonneg d0
  obtain ⟨s, s1, s2, s3⟩ := ref_Int_sp (z := n) (by omega) (by omega)
  obtain ⟨t, t1, t2, t3⟩ := ref_Int_sp (z := d % 400 + 1) (by omega) (by omega)
  obtain ⟨r, r1, r2, r3⟩ := ref_Div_sp s2 t2 s3 t3 (int_ne (by omega)) (by omega)
  obtain ⟨u, u1, u2⟩ := ref_To_sp r2 r3 (by omega)
  have e : (n : Rat) / ((d % 400 + 1 : Int) : Rat) = Rat.divInt n (d % 400 + 1) := (Rat.divInt_eq_div ..).symm
  have hl := divInt_le (n := n) (k := d % 400 + 1) (by omega)
  rw [← e] at hl
  refine ⟨s, t, r, u, ?_, ?_, r1, u1, r2, sz_mono RR_pos r3 (by omega), u2, ⟨?_, ?_⟩, by omega⟩
  · rw [w64 (x := n) (by omega) (by omega)]; exact s1
  · rw [hm, w64 (x := d % 400) (by omega) (by omega), w64 (x := d % 400 + 1) (by omega) (by omega)]; exact t1
  · have : (WW : Int) ^ 1 = 4294967296 := by decide
    omega
  · have : (WW : Int) ^ 1 = 4294967296 := by decide
    omega
theorem law_RatSimplest {n m d w : Int} (hn : (Lit.int .i32 n).wf = true) (hm : (Lit.int .i32 m).wf = true) (hd : (Lit.int .u16 d).wf = true) (hw : (Lit.int .u16 w).wf = true) : Ev (fun k => isochronelaw02_RatSimplest k n m d w) true := by
  obtain ⟨n0, n1⟩ := i32_range hn
  obtain ⟨m0, m1⟩ := i32_range hm
  obtain ⟨d0, d1⟩ := u16_range hd
  obtain ⟨w0, w1⟩ := u16_range hw
  obtain ⟨s, t, r, u, s1, t1, r1, u1, r2, r3, u2, u3, u4⟩ := end_sp n0 n1 d0 d1
  obtain ⟨s', t', r', u', s1', t1', r1', u1', r2', r3', u2', u3', u4'⟩ := end_sp m0 m1 w0 w1
  generalize (n : Rat) / ((d % 400 + 1 : Int) : Rat) = a at *
  generalize (m : Rat) / ((w % 400 + 1 : Int) : Rat) = b at *
  have c1 := ref_Cmp_sp r2 r2' r3 r3' (by omega)
  refine Ev.step (fun k => isochronelaw02_RatSimplest_eq k n m d w) <| Ev.bind awake_ev <| bF rfl <| Ev.bind s1 <| Ev.bind t1 <| Ev.bind r1 <| Ev.bind s1' <| Ev.bind t1' <| Ev.bind r1' <| Ev.bind u1 <| Ev.bind u1' ?_
  by_cases c : b < a
  · refine Ev.bind (rat_Simplest_err u2 u2' u3 u3' c (by omega)) <| Ev.bind c1 <| bT (by rw [cmpq_gt]; exact decide_eq_true c) <| Ev.bind (a := true) (bT rfl (Ev.bind ref_None_ev (evs _))) (evs _)
  · obtain ⟨q, y, q1, q2, q3, q4⟩ := rat_Simplest_sp u2 u2' u3 u3' (Rat.not_lt.1 c) (Nat.le_refl 1) (by omega)
    obtain ⟨z, z1, z2, z3⟩ := ref_Of_sp q2 q3 (by omega)
    obtain ⟨l1, l2⟩ := sz_len WW_one q2 q3
    have hs := ref_Short_sp q 4
    rw [decide_eq_true ⟨by omega, by omega⟩] at hs
    obtain ⟨tv, tv1, tv2⟩ := ref_Valid_sp (arg_of q2 q3 (by omega))
    have : tv = true := tv2.2 ⟨y, q2, sz_mono WW_pos q3 (by omega)⟩
    subst this
    have hyd : y.den ≤ 400 := by have := (q4.2.2 a Rat.le_refl (Rat.not_lt.1 c)).1; omega
    have hl := simplest_l0 q4 hyd r2 r2' z2 r3 r3' (sz_mono RR_pos z3 (by omega)) (y.den - 1) 1 (Nat.le_refl _) (by have := y.den_pos; omega)
    exact Ev.bind q1 <| Ev.bind c1 <| bF (by rw [cmpq_gt]; exact decide_eq_false c) <| Ev.bind (a := false) (bF rfl (Ev.bind hs (evs _))) <| Ev.bind (a := false) (bF rfl (Ev.bind tv1 (evs _))) <| bF rfl <| Ev.bind z1 hl.diag
end
end Go.Proofs.Ytfpolhoabfadnaa.Q
end
section
namespace Go.Proofs.Ytfpolhoabfadnaa.ratSimplest
open Go.ChangeShapes Go.WideShapes Go.ChangeAt Go.RowKit
open Go.ChangeMaps (open_string shut_string)
open Go.Proofs.Ytfpolhoabfadnaa.V Go.Proofs.Ytfpolhoabfadnaa.E
theorem own : ownKnob Try.prog.godebug = none := by kernel_rfl
theorem laidOut : laidOutB Try.prog = true := by kernel_rfl
set_option maxRecDepth 100000 in
theorem lifted (os : Os) (started : os.Started) (H : Type) (enc : TypeId × Value → H) :
    ReturnsInHanded {} Try.checked os 7 .any (Rows.ratSimplestSpec.pre6 enc Try.prog Try.f7 Rows.ratSimplestRow.domain false) (Rows.ratSimplestSpec.post enc Try.prog Try.f7 false true false false) := by
  refine returnsInHanded_of_change_sized (C := Try.checked) own started (by kernel_rfl) Try.func7
    (ChangeSpec.witness6 (enc := enc) (C := Try.checked) false ⟨#[], #[.int .i32 0, .int .i32 0, .int .u16 0, .int .u16 0], []⟩ 8 (by kernel_rfl) (by kernel_rfl) (by kernel_rfl) (by kernel_rfl)) ?_
  intro W base args ds gs before hval0 hW hcnd hsz0 _
  have hval : ∀ (j : Nat) t v, Try.f7.params[j]? = some t → args[j]? = some v → Value.okWide Try.prog W .any base t v := hval0
  have hW' := hW
  obtain ⟨p, q, hA0, hV, rfl, hfz, hnd⟩ := hW
  have hA : DataW.TrodAll enc Try.prog W 0 (fun _ => true) true Try.f7.params.toList args.toList ds p := hA0
  rw [Try.params7] at hA hval
  obtain ⟨v0, vs0, d0, ds0, p0, q0, hargs, rfl, rfl, h0, r0⟩ := trodAll_cons hA
  obtain ⟨v1, vs1, d1, ds1, p1, q1, rfl, rfl, rfl, h1, r1⟩ := trodAll_cons r0
  obtain ⟨v2, vs2, d2, ds2, p2, q2, rfl, rfl, rfl, h2, r2⟩ := trodAll_cons r1
  obtain ⟨v3, vs3, d3, ds3, p3, q3, rfl, rfl, rfl, h3, r3⟩ := trodAll_cons r2
  obtain ⟨rfl, rfl, rfl⟩ := trodAll_nil r3
  obtain rfl : args = #[v0, v1, v2, v3] := by cases args; simp_all
  obtain ⟨rfl, rfl⟩ := trodVars_none hV
  have k0 := h0
  have lt0 : ∀ x ∈ p0, x.block < W.heap.size := by obtain ⟨m, hm⟩ := k0; exact DataW.trod_lt m _ _ _ hm
  obtain ⟨y0, f0, g0⟩ := arg_den Q.tab_ok (n := 8) (t := 21) (c := (.int .i32)) (by kernel_rfl) (by kernel_rfl) (hval 0 21 v0 rfl rfl) h0
  have k1 := h1
  have lt1 : ∀ x ∈ p1, x.block < W.heap.size := by obtain ⟨m, hm⟩ := k1; exact DataW.trod_lt m _ _ _ hm
  obtain ⟨y1, f1, g1⟩ := arg_den Q.tab_ok (n := 8) (t := 21) (c := (.int .i32)) (by kernel_rfl) (by kernel_rfl) (hval 1 21 v1 rfl rfl) h1
  have k2 := h2
  have lt2 : ∀ x ∈ p2, x.block < W.heap.size := by obtain ⟨m, hm⟩ := k2; exact DataW.trod_lt m _ _ _ hm
  obtain ⟨y2, f2, g2⟩ := arg_den Q.tab_ok (n := 8) (t := 60) (c := (.int .u16)) (by kernel_rfl) (by kernel_rfl) (hval 2 60 v2 rfl rfl) h2
  have k3 := h3
  have lt3 : ∀ x ∈ p3, x.block < W.heap.size := by obtain ⟨m, hm⟩ := k3; exact DataW.trod_lt m _ _ _ hm
  obtain ⟨y3, f3, g3⟩ := arg_den Q.tab_ok (n := 8) (t := 60) (c := (.int .u16)) (by kernel_rfl) (by kernel_rfl) (hval 3 60 v3 rfl rfl) h3
  clear hA0 hval0 hsz0
  obtain ⟨k, hk⟩ := (Q.law_RatSimplest (Q.arg_int f0) (Q.arg_int f1) (Q.arg_int f2) (Q.arg_int f3)).rounds
  obtain ⟨_, pv, hp, hF⟩ := (fn_sound Q.tab_ok orc_ok Q.mixed Q.noGo k).fn 7 [.v (.int .i32) y0, .v (.int .i32) y1, .v (.int .u16) y2, .v (.int .u16) y3] true rfl hk
  obtain rfl := Option.some.inj hp
  refine (hF (fun b => b < W.heap.size) W #[v0, v1, v2, v3] (fun b h => h) rfl (fun i h => ?_)).mono fun e W' ⟨v, he, bel, hv⟩ => ?_
  · match i, h with
    | 0, h => exact g0
    | 1, h => exact g1
    | 2, h => exact g2
    | 3, h => exact g3
    | i + 4, h => exact absurd h (by simp only [List.length_map, List.length_cons, List.length_nil]; omega)
  · have hb := vrel_lit hv
    subst hb
    subst he
    exact ⟨_, rfl, _, _, _, [], _, [], hW', trodAll_mk1 (shut_bool Try.underlying4 _), (trodAll_cons_mk (Below.trod laidOut (by kernel_rfl) (of_decide_eq_true (by kernel_rfl)) k0 bel lt0) (trodAll_cons_mk (Below.trod laidOut (by kernel_rfl) (of_decide_eq_true (by kernel_rfl)) k1 bel lt1) (trodAll_cons_mk (Below.trod laidOut (by kernel_rfl) (of_decide_eq_true (by kernel_rfl)) k2 bel lt2) (trodAll_cons_mk (Below.trod laidOut (by kernel_rfl) (of_decide_eq_true (by kernel_rfl)) k3 bel lt3) trodAll_mk0)))), rfl, bel.frame _, fun h => by cases h⟩
theorem over : Rows.ratSimplestRow.holds Try.pinned (OpenSpec.ofChange Rows.ratSimplestSpec) :=
  OpenClaim.holds_of_wide 7 Try.f7 rfl rfl rfl rfl rfl rfl rfl ⟨rfl, rfl, rfl, rfl, rfl⟩ rfl rfl rfl rfl rfl (by kernel_rfl) Try.func7 (by kernel_rfl)
    (of_decide_eq_true (by kernel_rfl)) (by unfold Func.isWrapper; first | (rw [if_pos (by decide +kernel)]; kernel_rfl) | (rw [if_neg (by decide +kernel)]; exact ⟨rfl, rfl⟩))
    (fun os started H enc _ => lifted os started H enc)
theorem proved : Rows.RatSimplestSaid := over
#print axioms proved
end Go.Proofs.Ytfpolhoabfadnaa.ratSimplest
namespace Go.Proofs.Ytfpolhoabfadnaa
theorem ratSimplest_holds : Rows.RatSimplestSaid := ratSimplest.proved
end Go.Proofs.Ytfpolhoabfadnaa
end
