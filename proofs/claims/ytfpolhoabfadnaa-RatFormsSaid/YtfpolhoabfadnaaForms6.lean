/- RatForms: which words are a rational number's, and that every function refuses others before any other error (the last of 6 texts). No condition beyond the statement's own. -/
import Derived.SizedLaws
import Derived.ChangeSlices
import Derived.Test.YtfpolhoabfadnaaRows
import Derived.WalkKit
import Derived.ProofKit
import Derived.OpenShut
import Derived.ShutString
import Derived.ChangeOld
import Derived.Below
import Derived.KernelRfl
import Derived.Test.YtfpolhoabfadnaaForms5
set_option linter.unusedSimpArgs false
section
namespace Go.Proofs.Ytfpolhoabfadnaa.P
open Go.RowKit Go.Proofs.YtfpolhoabfadnaaW.PrintWords Go.Proofs.YtfpolhoabfadnaaW.PrintLast Go.Proofs.YtfpolhoabfadnaaW.PrintMore
set_option linter.unusedVariables false
theorem nat_digits_sp {x : Int} (hx : 0 ≤ x ∧ x < 9223372036854775808) {m : Nat} (hm : m ≤ 20) :
    ∃ D, Ev (fun k => nat_digits.f k x (m : Int)) (asc D) ∧ Dg TT D ∧ vl TT D = x ∧ (m = 0 → Nm D) ∧ (x < 10 ^ m → D.length = m) := by
  obtain ⟨D, d1, d2⟩ := nat_digits_ev hx hm _ x [] (Nat.lt_succ_self _) hx.1 hx.2 (by simp) (fun _ => by simp) (Dg.nil _) (by simp [vl]) (fun _ _ => Nm.nil) (fun _ => by simp)
  exact ⟨D, by unfold nat_digits.f; exact d1, d2⟩
theorem mag_Small_sp {r : List Int} {v : Int} (hr : Can WW r v) (hv : v < 4294967296) : mag_Small.f r = some (v, true) := by
  have hl := hr.len_le (k := 1) WW_one (by rw [show WW ^ 1 = 4294967296 from rfl]; exact hv)
  unfold mag_Small.f
  by_cases c : r.length = 0
  · rw [(hr.len_iff WW_pos).1 c, if_pos (by omega)]
  · have e := last_vl (a := r) (by omega)
    have h1 : r.length = 1 := by omega
    rw [hr.2.2, h1] at e
    have e2 : v = rd r 0 := by simpa [vl] using e
    have := hr.nonneg WW_pos
    rw [if_neg (by omega), if_pos (by omega), if_pos (by omega), ← e2, u64 (x := v) (by omega) (by omega)]
theorem cpy9 {t : List Int} (h : t.length = 9) : cpy (List.replicate 9 0) t = t := by
  unfold cpy
  rw [List.length_replicate, h, Nat.min_self, ← h, List.take_length, List.drop_eq_nil_of_le (by simp), List.append_nil]
theorem nm_app {a b : List Int} (h : Nm b) (hb : b ≠ []) : Nm (a ++ b) := fun h' => by
  rw [List.getLast_append_of_ne_nil _ hb]
  exact h hb
theorem nat_Text_l1 {P : List Int} (hl : P.length ≤ 64) (hP : Dg BB9 P) (d : Nat) : ∀ (i : Nat) (D : List Int), i = d → i < P.length → Can TT D (vl BB9 (P.drop i)) → D ≠ [] → D.length + 9 * i ≤ 9 * P.length →
    ∃ D', Ev (fun k => nat_Text.l1 k P (asc D) ((i : Int) - 1)) (strOfNums (asc D'), 0) ∧ Can TT D' (vl BB9 P) ∧ D' ≠ [] ∧ D'.length ≤ 9 * P.length := by
  induction d with
  | zero =>
    rintro i D rfl h1 h2 h3 h4
    refine ⟨D, ?_, by simpa using h2, h3, by omega⟩
    refine Ev.step (fun k => by rw [nat_Text.l1]) ?_
    exact evn (by omega) (evs _)
  | succ d ih =>
    rintro i D rfl h1 h2 h3 h4
    have hx := dg_rd hP (d : Int) (by omega) (by omega)
    rw [BB9_eq] at hx
    obtain ⟨N, n1, n2, n3, n4, n5⟩ := nat_digits_sp (x := rd P (d : Int)) ⟨hx.1, by omega⟩ (m := 9) (by omega)
    have ln := n5 (by omega)
    have hv : vl TT (N ++ D) = vl BB9 (P.drop d) := by
      rw [vl_append, ln, n3, h2.2.2, drop_rd P d (by omega), vl]
      rfl
    have hne : N ++ D ≠ [] := by simp [h3]
    obtain ⟨D', d1, d2⟩ := ih d (N ++ D) rfl (by omega) ⟨n2.append h2.1, nm_app h2.2.1 h3, hv⟩ hne (by rw [List.length_append]; omega)
    refine ⟨D', ?_, d2⟩
    refine Ev.step (fun k => by rw [nat_Text.l1]) ?_
    have lc : (asc N).length = 9 := by rw [asc_len, ln]
    rw [show (((d + 1 : Nat) : Int) - 1) = (d : Int) by omega, w64 (x := (d : Int) - 1) (by omega) (by omega)]
    refine evp (by omega) (evp (by omega) (evp (by omega) (evp (by omega) (Ev.bind n1 (evb rfl ?_)))))
    rw [cpy9 lc, ← asc_append]
    exact evp (by rw [asc_len, asc_len]; omega) d1
theorem alg_tx {vo c P n v c' R : Int} (h : vo + c * P = n) (h2 : v + R * c' = c) : vo + v * P + c' * (R * P) = n := by grind
theorem nat_Text_l0 {n : Int} (hn : 0 < n) (hnW : n < WW ^ 40) {b : List Int} (hb : Can WW b 1000000000) (c : Nat) : ∀ (m : Int) (a P : List Int), m.toNat < c → a.length ≤ 4096 → Can WW a m → Dg BB9 P → vl BB9 P + m * BB9 ^ P.length = n → (m = 0 → Nm P) → (m = 0 → P.length ≤ 46) →
    ∃ D, Ev (fun k => nat_Text.l0 k a P b) (strOfNums (asc D), 0) ∧ Can TT D n ∧ D ≠ [] ∧ D.length ≤ 576 := by
  induction c with
  | zero => intro m a P h; exact absurd h (Nat.not_lt_zero _)
  | succ c ih =>
    intro m a P h1 h2 h3 h4 h5 h6 h7
    have m0 := h3.nonneg WW_pos
    have hp : (0 : Int) < BB9 ^ P.length := pow_pos' BB9_pos _
    by_cases c1 : a.length = 0
    · have em := (h3.len_iff WW_pos).1 c1
      subst em
      rw [Int.zero_mul, Int.add_zero] at h5
      have hl := h7 rfl
      have hne : P.length ≠ 0 := by
        intro h0
        rw [List.length_eq_zero_iff.1 h0, vl] at h5
        omega
      have hx := dg_rd h4 ((P.length : Int) - 1) (by omega) (by omega)
      have hz := (h6 rfl).rd (by omega)
      rw [BB9_eq] at hx
      obtain ⟨N, n1, n2, n3, n4, n5⟩ := nat_digits_sp (x := rd P ((P.length : Int) - 1)) ⟨hx.1, by omega⟩ (m := 0) (by omega)
      have hN : N ≠ [] := by
        intro h
        rw [h, vl] at n3
        exact hz n3.symm
      have cn : Can TT N (rd P ((P.length : Int) - 1)) := ⟨n2, n4 rfl, n3⟩
      have ln : N.length ≤ 9 := cn.len_le TT_one (by rw [show TT ^ 9 = 1000000000 from rfl]; exact hx.2)
      have e1 : vl BB9 (P.drop (P.length - 1)) = rd P ((P.length : Int) - 1) := by
        rw [drop_rd P (P.length - 1) (by omega), vl, List.drop_eq_nil_of_le (by omega), vl, show ((P.length - 1 : Nat) : Int) = (P.length : Int) - 1 by omega]
        omega
      obtain ⟨D', d1, d2, d3, d4⟩ := nat_Text_l1 (by omega) h4 (P.length - 1) (P.length - 1) N rfl (by omega) (by rw [e1]; exact cn) hN (by omega)
      rw [h5] at d2
      refine ⟨D', ?_, d2, d3, by omega⟩
      refine Ev.step (fun k => by rw [nat_Text.l0]) ?_
      rw [w64 (x := (P.length : Int) - 1) (by omega) (by omega), w64 (x := (P.length : Int) - 2) (by omega) (by omega)]
      refine evn (by omega) (evp (by omega) (evp (by omega) (Ev.bind n1 ?_)))
      rw [show (P.length : Int) - 2 = ((P.length - 1 : Nat) : Int) - 1 by omega]
      exact d1
    · have hm : m ≠ 0 := fun h => c1 ((h3.len_iff WW_pos).2 h)
      have hlP : P.length ≤ 45 := by
        rcases Nat.lt_or_ge P.length 46 with q | q
        · omega
        · exfalso
          have a1 : BB9 ^ 46 ≤ BB9 ^ P.length := pow_le (by decide) q
          have a2 : (1 : Int) * BB9 ^ P.length ≤ m * BB9 ^ P.length := Int.mul_le_mul_of_nonneg_right (by omega) (by omega)
          have a3 := vl_nonneg BB9_pos h4
          have a4 : WW ^ 40 < BB9 ^ 46 := by decide
          omega
      obtain ⟨q, r, q1, q2, q3⟩ := mag_DivMod_sp (by omega) h3 hb (by omega)
      have r0 := Int.emod_nonneg m (show (1000000000 : Int) ≠ 0 by omega)
      have r1 := Int.emod_lt_of_pos m (show (0 : Int) < 1000000000 by omega)
      have hs := mag_Small_sp q3 (by omega)
      have lq := can_len_le h3 q2 (by omega)
      obtain ⟨D, d1, d2⟩ := ih (m / 1000000000) q (P ++ [m % 1000000000]) (by omega) (by omega) q2 (h4.append (Dg.mk r0 (by rw [BB9_eq]; exact r1) (Dg.nil _)))
        (by
          rw [vl_snoc, List.length_append, List.length_singleton, Int.pow_succ, Int.mul_comm (BB9 ^ P.length) BB9]
          exact alg_tx h5 (by rw [BB9_eq]; omega))
        (fun h => nm_snoc' _ _ (by omega)) (fun _ => by simp; omega)
      refine ⟨D, ?_, d2⟩
      refine Ev.step (fun k => by rw [nat_Text.l0]) ?_
      exact evp (by omega) (Ev.bind q1 (evb hs (evp (by omega) d1)))
theorem nat_Text_sp {a : List Int} {n : Int} (hl : a.length ≤ 40) (ha : Can WW a n) (hn : 0 < n) : ∃ D, Ev (fun k => nat_Text.f k a) (strOfNums (asc D), 0) ∧ Can TT D n ∧ D ≠ [] ∧ D.length ≤ 576 := by
  have hlt : n < WW ^ 40 := Int.lt_of_lt_of_le (ha.lt WW_pos) (pow_le (by decide) hl)
  have hc : a.length ≠ 0 := fun h => by have := (ha.len_iff WW_pos).1 h; omega
  obtain ⟨b, b1, b2⟩ := mag_From_sp (a := 1000000000) (by omega) (by omega)
  obtain ⟨D, d1, d2⟩ := nat_Text_l0 hn hlt b2 _ n a [] (Nat.lt_succ_self _) (by omega) ha (Dg.nil _) (by simp [vl]) (fun h => by omega) (fun h => by omega)
  refine ⟨D, ?_, d2⟩
  unfold nat_Text.f
  exact evb (nat_valid (by omega) ha.2.1) (evp rfl (evn (by omega) (Ev.bind b1 d1)))
end Go.Proofs.Ytfpolhoabfadnaa.P
end
section
namespace Go.Proofs.Ytfpolhoabfadnaa.P
open Go.RowKit Go.Proofs.YtfpolhoabfadnaaW.PrintWords Go.Proofs.YtfpolhoabfadnaaW.PrintLast Go.Proofs.YtfpolhoabfadnaaW.PrintMore
set_option linter.unusedVariables false
def Dig (s : ByteArray) (i : Nat) : Prop := 48 ≤ bt s (i : Int) ∧ bt s (i : Int) ≤ 57
def sv (s : ByteArray) : Nat → Int
  | 0 => 0
  | i + 1 => sv s i * 10 + (bt s (i : Int) - 48)
end Go.Proofs.Ytfpolhoabfadnaa.P
end
section
namespace Go.Proofs.Ytfpolhoabfadnaa.Q
open Go.RowKit Go.Proofs.YtfpolhoabfadnaaW.PrintWords Go.Proofs.YtfpolhoabfadnaaW.PrintMore Go.Proofs.Ytfpolhoabfadnaa.V Go.Proofs.Ytfpolhoabfadnaa.E
open Go.Proofs.Ytfpolhoabfadnaa.P (Dg Nm vl WW RR can_uniq gI evs evk evb cmpi WW_pos WW_one)
set_option linter.unusedVariables false
theorem bT {α : Type} {c : Bool} {f g : Nat → Option α} {r : α} (hc : c = true) (h : Ev f r) : Ev (fun k => bif c then f k else g k) r := by subst hc; exact h
theorem bF {α : Type} {c : Bool} {f g : Nat → Option α} {r : α} (hc : c = false) (h : Ev g r) : Ev (fun k => bif c then f k else g k) r := by subst hc; exact h
theorem iT {α : Type} {c : Prop} [Decidable c] {f : Nat → Option α} {r : α} (hc : c) (h : Ev f r) : Ev (fun k => if c then f k else none) r := by simpa only [if_pos hc] using h
theorem evmap {α β : Type} {f : Nat → Option α} {g : α → β} {r : α} (h : Ev f r) : Ev (fun k => (f k).map g) (g r) := by
  obtain ⟨K, h⟩ := h
  exact ⟨K, fun k hk => by simp only [h k hk, Option.map_some]⟩
def sg (s : Bool) (x : Int) : Int := if s then -x else x
def RB (B : Int) (v : RatD) (q : Rat) : Prop := v.1 = decide (q.num < 0) ∧ P.Can B v.2.1 (q.num.natAbs : Int) ∧ P.Can B v.2.2.1 (q.den : Int)
theorem can1 {B : Int} (h : 1 < B) : P.Can B [1] 1 := ⟨Dg.mk (by decide) h (Dg.nil _), fun h => by simp, by simp [vl]⟩
theorem rb_zero {B : Int} (h : 1 < B) : RB B (false, [], [1], ()) 0 := ⟨rfl, P.Can.zero B, can1 h⟩
theorem rb_uniq {B : Int} (hB : 0 < B) {v w : RatD} {q : Rat} (hv : RB B v q) (hw : RB B w q) : v = w := by
  obtain ⟨a, b, c, d⟩ := v
  obtain ⟨a', b', c', d'⟩ := w
  obtain ⟨h1, h2, h3⟩ := hv
  obtain ⟨g1, g2, g3⟩ := hw
  have e1 : a = a' := h1.trans g1.symm
  have e2 : b = b' := can_uniq hB h2 g2
  have e3 : c = c' := can_uniq hB h3 g3
  subst e1 e2 e3
  rfl
theorem gI_swap (x y : Int) : ((y.gcd x : Nat) : Int) = gI x y := by unfold gI; rw [Int.gcd_comm]
theorem rb_frac {B : Int} {s : Bool} {l d : List Int} {x y : Int} (hx : 0 < x) (hy : 0 < y) (hl : P.Can B l (x / gI x y)) (hd : P.Can B d (y / gI x y)) : RB B (s, l, d, ()) (Rat.divInt (sg s x) y) := by
  have hg : 0 < gI x y := by
    unfold gI
    have := Int.gcd_pos_of_ne_zero_left y (show x ≠ 0 by omega)
    omega
  have hgx : gI x y ∣ x := Int.gcd_dvd_left ..
  have hgy : gI x y ∣ y := Int.gcd_dvd_right ..
  have hq : 0 < x / gI x y := Int.ediv_pos_of_pos_of_dvd hx (by omega) hgx
  have hr : 0 < y / gI x y := Int.ediv_pos_of_pos_of_dvd hy (by omega) hgy
  have hsg : ((y.gcd (sg s x) : Nat) : Int) = gI x y := by
    unfold sg
    cases s with
    | true => simp only [if_true, Int.gcd_neg]; exact gI_swap x y
    | false => exact gI_swap x y
  have hnum : (Rat.divInt (sg s x) y).num = sg s (x / gI x y) := by
    rw [Rat.num_divInt, hsg, Int.sign_eq_one_of_pos hy, Int.one_mul]
    unfold sg
    cases s with
    | true => simp only [if_true]; exact Int.neg_ediv_of_dvd hgx
    | false => rfl
  have hden : ((Rat.divInt (sg s x) y).den : Int) = y / gI x y := by
    rw [Rat.den_divInt, if_neg (by omega), Int.natCast_ediv, hsg]
    congr 1
    omega
  refine ⟨?_, ?_, ?_⟩
  · show s = _
    rw [hnum]
    unfold sg
    cases s with
    | true => simp only [if_true]; exact (decide_eq_true (by omega)).symm
    | false => exact (decide_eq_false (by simp; omega)).symm
  · show P.Can B l _
    rw [hnum]
    have : ((sg s (x / gI x y)).natAbs : Int) = x / gI x y := by
      unfold sg
      cases s with
      | true => simp only [if_true]; omega
      | false => simp; omega
    rw [this]
    exact hl
  · show P.Can B d _
    rw [hden]
    exact hd
theorem frac_zero (s : Bool) (y : Int) : Rat.divInt (sg s 0) y = 0 := by unfold sg; cases s <;> simp
theorem sg_val {B : Int} {v : RatD} {q : Rat} (h : RB B v q) : sg v.1 q.num.natAbs = q.num := by
  unfold sg
  rw [h.1]
  by_cases c : q.num < 0
  · rw [if_pos (decide_eq_true c)]; omega
  · rw [if_neg (by simpa using c)]; omega
theorem den_pos' (q : Rat) : (0 : Int) < q.den := by have := q.den_pos; omega
def Sz (B : Int) (K : Nat) (q : Rat) : Prop := (q.num.natAbs : Int) < B ^ K ∧ (q.den : Int) < B ^ K
theorem sz_of {B : Int} (hB : 0 < B) {v : RatD} {q : Rat} (h : RB B v q) {K : Nat} (h1 : v.2.1.length ≤ K) (h2 : v.2.2.1.length ≤ K) : Sz B K q :=
  ⟨Int.lt_of_lt_of_le (h.2.1.lt hB) (P.pow_le (by omega) h1), Int.lt_of_lt_of_le (h.2.2.lt hB) (P.pow_le (by omega) h2)⟩
theorem sz_len {B : Int} (hB : 1 < B) {v : RatD} {q : Rat} (h : RB B v q) {K : Nat} (hs : Sz B K q) : v.2.1.length ≤ K ∧ v.2.2.1.length ≤ K := ⟨h.2.1.len_le hB hs.1, h.2.2.len_le hB hs.2⟩
theorem sz_mono {B : Int} (hB : 0 < B) {q : Rat} {K L : Nat} (hs : Sz B K q) (h : K ≤ L) : Sz B L q := ⟨Int.lt_of_lt_of_le hs.1 (P.pow_le (by omega) h), Int.lt_of_lt_of_le hs.2 (P.pow_le (by omega) h)⟩
end Go.Proofs.Ytfpolhoabfadnaa.Q
end
section
namespace Go.Proofs.Ytfpolhoabfadnaa.Q
open Go.RowKit Go.Proofs.YtfpolhoabfadnaaW.PrintWords Go.Proofs.YtfpolhoabfadnaaW.PrintMore Go.Proofs.Ytfpolhoabfadnaa.V Go.Proofs.Ytfpolhoabfadnaa.E
open Go.Proofs.Ytfpolhoabfadnaa.P (Dg Nm vl WW RR can_uniq gI evs evk evb cmpi WW_pos WW_one w64 u64)
set_option linter.unusedVariables false
section
variable {a b : List Int} {n m : Int}
theorem q_Mul (hn : a.length + b.length < 1099511627776) (ha : P.Can WW a n) (hb : P.Can WW b m) : ∃ r, Ev (fun k => mag_Mul k a b) r ∧ P.Can WW r (n * m) ∧ r.length ≤ a.length + b.length := by
  obtain ⟨r, h1, h2⟩ := P.mag_Mul_sp hn ha hb
  exact ⟨r, Ev.step (fun k => mag_Mul_eq k a b) h1, h2⟩
theorem q_Add (hla : a.length < 1099511627776) (hlb : b.length < 1099511627776) (ha : P.Can WW a n) (hb : P.Can WW b m) : ∃ r, Ev (fun k => mag_Add k a b) r ∧ P.Can WW r (n + m) ∧ r.length ≤ max a.length b.length + 1 := by
  obtain ⟨r, h1, h2⟩ := P.mag_Add_sp hla hlb ha hb
  exact ⟨r, Ev.step (fun k => mag_Add_eq k a b) h1, h2⟩
theorem q_Sub (hn : a.length < 1099511627776) (ha : P.Can WW a n) (hb : P.Can WW b m) (hle : m ≤ n) : ∃ r, Ev (fun k => mag_Sub k a b) r ∧ P.Can WW r (n - m) ∧ r.length ≤ a.length := by
  obtain ⟨r, h1, h2⟩ := P.mag_Sub_sp hn ha hb hle
  exact ⟨r, Ev.step (fun k => mag_Sub_eq k a b) h1, h2⟩
theorem q_Cmp (hn : a.length < 4611686018427387904) (ha : P.Can WW a n) (hb : P.Can WW b m) : Ev (fun k => mag_Cmp k a b) (cmpi n m) := Ev.step (fun k => mag_Cmp_eq k a b) (P.mag_Cmp_sp hn ha hb)
theorem q_GCD (la : a.length < 1073741824) (lb : b.length < 1073741824) (ha : P.Can WW a n) (hb : P.Can WW b m) : ∃ r, Ev (fun k => mag_GCD k a b) r ∧ P.Can WW r (gI n m) := by
  obtain ⟨r, h1, h2⟩ := P.mag_GCD_sp la lb ha hb
  exact ⟨r, Ev.step (fun k => mag_GCD_eq k a b) h1, h2⟩
theorem q_DivMod (hn : a.length < 17179869184) (ha : P.Can WW a n) (hb : P.Can WW b m) (hm : 0 < m) : ∃ q r, Ev (fun k => mag_DivMod k a b) (q, r, ()) ∧ P.Can WW q (n / m) ∧ P.Can WW r (n % m) := by
  obtain ⟨q, r, h1, h2⟩ := P.mag_DivMod_sp hn ha hb hm
  exact ⟨q, r, Ev.step (fun k => mag_DivMod_eq k a b) (evmap (g := fun r : List Int × List Int => (r.1, r.2, ())) h1), h2⟩
theorem gcd_pos {x y : Int} (hy : 0 < y) : 0 < gI x y := by
  unfold P.gI
  have := Int.gcd_pos_of_ne_zero_right x (show y ≠ 0 by omega)
  omega
theorem one_tst {l : List Int} {z : Int} (h : P.Can WW l z) (hz : 0 < z) (h1 : z ≠ 1) : (bif (List.length l : Int) != (1 : Int) then some true else if 0 ≤ (0 : Int) ∧ (0 : Int) < (List.length l : Int) then some ((rdT (t := (.int .u32)) l (0 : Int) : Int) != (1 : Int)) else none) = some true := by
  match l, h with
  | [], h => rfl
  | [x], h =>
    have hx : x = z := by have := h.2.2; simp [vl] at this; exact this
    have hr : (rdT (t := (.int .u32)) [x] (0 : Int) : Int) = x := rfl
    rw [hr]
    have : (x != (1 : Int)) = true := by simp; omega
    rw [this]
    simp
  | x :: y :: t, h =>
    have : ((List.length (x :: y :: t) : Int) != (1 : Int)) = true := by simp; omega
    rw [this]
    rfl
theorem one_tst' {l : List Int} {z : Int} (h : P.Can WW l z) (hz : z = 1) : (bif (List.length l : Int) != (1 : Int) then some true else if 0 ≤ (0 : Int) ∧ (0 : Int) < (List.length l : Int) then some ((rdT (t := (.int .u32)) l (0 : Int) : Int) != (1 : Int)) else none) = some false := by
  subst hz
  rw [can_uniq WW_pos h (can1 WW_one)]
  rfl
theorem num_Zero_ev : Ev (fun k => num_Zero k) (false, [], [1], ()) := Ev.step (fun k => num_Zero_eq k) (evs _)
theorem len_ne {B : Int} (hB : 0 < B) {l : List Int} {x : Int} (h : P.Can B l x) (hx : x ≠ 0) : ((List.length l : Int) == (0 : Int)) = false := by
  have := h.len_iff hB
  have : l.length ≠ 0 := fun e => hx (this.1 e)
  simp
  intro e
  exact this (by simp [e])
theorem len_eq {B : Int} (hB : 0 < B) {l : List Int} {x : Int} (h : P.Can B l x) (hx : x = 0) : l = [] := (h.nil_iff hB).2 hx
theorem num_Make_sp {s : Bool} (la : a.length < 1073741824) (lb : b.length < 1073741824) (ha : P.Can WW a n) (hb : P.Can WW b m) (hm : 0 < m) : ∃ r, Ev (fun k => num_Make k s a b) r ∧ RB WW r (Rat.divInt (sg s n) m) := by
  have n0 := ha.nonneg WW_pos
  by_cases hn : n = 0
  · obtain rfl := len_eq WW_pos ha hn
    refine ⟨_, Ev.step (fun k => num_Make_eq k s [] b) (bT rfl (Ev.bind num_Zero_ev (evs _))), ?_⟩
    rw [hn, frac_zero]
    exact rb_zero WW_one
  · obtain ⟨g, g1, g2⟩ := q_GCD la lb ha hb
    have gp := gcd_pos (x := n) hm
    have fin : ∀ {u v : List Int}, u.length ≤ a.length → v.length ≤ b.length → P.Can WW u (n / gI n m) → P.Can WW v (m / gI n m) → Ev (fun k => num_Make.j0 k s u v (false, [], [], ())) (s, u, v, ()) := fun h1 h2 _ _ => by
      unfold num_Make.j0
      exact iT (by omega) (iT (by omega) (evs _))
    by_cases h1 : gI n m = 1
    · have e1 : n / gI n m = n := by rw [h1]; omega
      have e2 : m / gI n m = m := by rw [h1]; omega
      have ca : P.Can WW a (n / gI n m) := by rw [e1]; exact ha
      have cb : P.Can WW b (m / gI n m) := by rw [e2]; exact hb
      exact ⟨_, Ev.step (fun k => num_Make_eq k s a b) (bF (len_ne WW_pos ha hn) (Ev.bind g1 (Ev.bind (evk (one_tst' g2 h1)) (bF rfl (fin (Nat.le_refl _) (Nat.le_refl _) ca cb))))), rb_frac (by omega) hm ca cb⟩
    · obtain ⟨u, u', u1, u2, u3⟩ := q_DivMod (by omega) ha g2 gp
      obtain ⟨v, v', v1, v2, v3⟩ := q_DivMod (by omega) hb g2 gp
      have lu : u.length ≤ a.length := u2.len_le WW_one (Int.lt_of_le_of_lt (Int.ediv_le_self _ n0) (ha.lt WW_pos))
      have lv : v.length ≤ b.length := v2.len_le WW_one (Int.lt_of_le_of_lt (Int.ediv_le_self _ (by omega)) (hb.lt WW_pos))
      exact ⟨_, Ev.step (fun k => num_Make_eq k s a b) (bF (len_ne WW_pos ha hn) (Ev.bind g1 (Ev.bind (evk (one_tst g2 gp h1)) (bT rfl (Ev.bind u1 (Ev.bind v1 (fin lu lv u2 v2))))))), rb_frac (by omega) hm u2 v2⟩
end
end Go.Proofs.Ytfpolhoabfadnaa.Q
end
section
namespace Go.Proofs.Ytfpolhoabfadnaa.Q
open Go.RowKit Go.Proofs.YtfpolhoabfadnaaW.PrintWords Go.Proofs.YtfpolhoabfadnaaW.PrintMore Go.Proofs.Ytfpolhoabfadnaa.V Go.Proofs.Ytfpolhoabfadnaa.E
open Go.Proofs.Ytfpolhoabfadnaa.P (Dg Nm vl WW RR can_uniq gI evs evk evb cmpi WW_pos WW_one w64 u64)
set_option linter.unusedVariables false
section
variable {v w : RatD} {p q : Rat} {K L : Nat}
theorem sg_mul_pos (s : Bool) (x y : Int) : sg s x * y = sg s (x * y) := by
  unfold sg
  cases s <;> simp [Int.neg_mul]
theorem mul_pos' {x y : Int} (hx : 0 < x) (hy : 0 < y) : 0 < x * y := Int.mul_pos hx hy
theorem beq_ne {s t : Bool} (h : ¬ s = t) : (s == t) = false := by cases s <;> cases t <;> simp_all
theorem num_Add_j {x y d : List Int} {X Y D : Int} {s t : Bool} {u u' c : RatD} (hu : u.1 = s) (hu' : u'.1 = t) (lx : x.length < 536870912) (ly : y.length < 536870912) (ld : d.length < 1073741824) (hx : P.Can WW x X) (hy : P.Can WW y Y) (hd : P.Can WW d D) (hD : 0 < D) :
    ∃ r, Ev (fun k => num_Add.j0 k x y d u u' c) r ∧ RB WW r (Rat.divInt (sg s X + sg t Y) D) := by
  by_cases hst : s = t
  · obtain ⟨z, z1, z2, z3⟩ := q_Add (by omega) (by omega) hx hy
    obtain ⟨r, r1, r2⟩ := num_Make_sp (s := s) (by omega) ld z2 hd hD
    refine ⟨r, ?_, ?_⟩
    · unfold num_Add.j0
      rw [hu, hu']
      exact bT (by subst hst; simp) (Ev.bind z1 (Ev.bind r1 (evs _)))
    · have : sg s X + sg t Y = sg s (X + Y) := by subst hst; unfold sg; cases s <;> simp <;> omega
      rw [this]
      exact r2
  · have hc := q_Cmp (by omega) hx hy
    by_cases hxy : Y ≤ X
    · obtain ⟨z, z1, z2, z3⟩ := q_Sub (by omega) hx hy hxy
      obtain ⟨r, r1, r2⟩ := num_Make_sp (s := s) (by omega) ld z2 hd hD
      refine ⟨r, ?_, ?_⟩
      · unfold num_Add.j0
        rw [hu, hu']
        refine bF (beq_ne hst) (Ev.bind hc (bT (decide_eq_true ?_) (Ev.bind z1 (Ev.bind r1 (evs _)))))
        unfold P.cmpi
        split
        · omega
        · split <;> omega
      · have : sg s X + sg t Y = sg s (X - Y) := by
          unfold sg
          cases s <;> cases t <;> simp at hst ⊢ <;> omega
        rw [this]
        exact r2
    · obtain ⟨z, z1, z2, z3⟩ := q_Sub (by omega) hy hx (by omega)
      obtain ⟨r, r1, r2⟩ := num_Make_sp (s := t) (by omega) ld z2 hd hD
      refine ⟨r, ?_, ?_⟩
      · unfold num_Add.j0
        rw [hu, hu']
        refine bF (beq_ne hst) (Ev.bind hc (bF (decide_eq_false ?_) (Ev.bind z1 (Ev.bind r1 (evs _)))))
        unfold P.cmpi
        rw [if_pos (by omega)]
        omega
      · have : sg s X + sg t Y = sg t (Y - X) := by
          unfold sg
          cases s <;> cases t <;> simp at hst ⊢ <;> omega
        rw [this]
        exact r2
theorem add_frac (p q : Rat) : p + q = Rat.divInt (p.num * q.den + q.num * p.den) ((p.den : Int) * q.den) := by
  have h := Rat.divInt_add_divInt p.num q.num (d₁ := (p.den : Int)) (d₂ := (q.den : Int)) (by have := den_pos' p; omega) (by have := den_pos' q; omega)
  rw [Rat.num_divInt_den, Rat.num_divInt_den] at h
  exact h
theorem add_frac' (p q : Rat) (h : p.den = q.den) : p + q = Rat.divInt (p.num + q.num) (p.den : Int) := by
  rw [add_frac, ← h, ← Int.add_mul]
  exact Rat.divInt_mul_right (by have := den_pos' p; omega)
theorem sz_add (hp : Sz WW K p) (hq : Sz WW L q) : Sz WW (K + L + 1) (p + q) := by
  have hK : (0 : Int) < WW ^ K := Int.pow_pos (by decide)
  have hL : (0 : Int) < WW ^ L := Int.pow_pos (by decide)
  have e : (WW : Int) ^ (K + L + 1) = WW ^ K * WW ^ L * 4294967296 := by rw [Int.pow_succ, Int.pow_add]
  obtain ⟨p1, p2⟩ := hp
  obtain ⟨q1, q2⟩ := hq
  have dp := den_pos' p
  have dq := den_pos' q
  have a1 : (p.num.natAbs : Int) * q.den ≤ WW ^ K * WW ^ L := Int.mul_le_mul (by omega) (by omega) (by omega) (by omega)
  have a2 : (q.num.natAbs : Int) * p.den ≤ WW ^ L * WW ^ K := Int.mul_le_mul (by omega) (by omega) (by omega) (by omega)
  have a3 : (p.den : Int) * q.den ≤ WW ^ K * WW ^ L := Int.mul_le_mul (by omega) (by omega) (by omega) (by omega)
  rw [Int.mul_comm (WW ^ L)] at a2
  have hKL : (0 : Int) < WW ^ K * WW ^ L := mul_pos' hK hL
  have hn : ((p.num * q.den + q.num * p.den).natAbs : Int) ≤ (p.num.natAbs : Int) * q.den + (q.num.natAbs : Int) * p.den := by
    have h1 := Int.natAbs_add_le (p.num * q.den) (q.num * p.den)
    rw [Int.natAbs_mul, Int.natAbs_mul] at h1
    simp only [Int.natAbs_natCast] at h1
    have : ((p.num.natAbs * q.den + q.num.natAbs * p.den : Nat) : Int) = (p.num.natAbs : Int) * q.den + (q.num.natAbs : Int) * p.den := by
      rw [Int.natCast_add, Int.natCast_mul, Int.natCast_mul]
    omega
  rw [add_frac]
  constructor
  · rw [Rat.num_divInt, Int.sign_eq_one_of_pos (mul_pos' dp dq), Int.one_mul]
    have : ((p.num * q.den + q.num * p.den) / ((((p.den : Int) * q.den).gcd (p.num * q.den + q.num * p.den) : Nat) : Int)).natAbs ≤ (p.num * q.den + q.num * p.den).natAbs := by
      rw [Int.natAbs_ediv_of_dvd (Int.gcd_dvd_right ..)]
      exact Nat.div_le_self ..
    omega
  · rw [Rat.den_divInt, if_neg (by have := mul_pos' dp dq; omega)]
    have : ((p.den : Int) * q.den).natAbs / (((p.den : Int) * q.den).gcd (p.num * q.den + q.num * p.den)) ≤ ((p.den : Int) * q.den).natAbs := Nat.div_le_self ..
    have := mul_pos' dp dq
    omega
theorem num_Add_sp (hv : RB WW v p) (hw : RB WW w q) (hp : Sz WW K p) (hq : Sz WW L q) (h : K + L < 268435456) : ∃ r, Ev (fun k => num_Add k v w) r ∧ RB WW r (p + q) ∧ Sz WW (K + L + 1) (p + q) := by
  obtain ⟨lv1, lv2⟩ := sz_len WW_one hv hp
  obtain ⟨lw1, lw2⟩ := sz_len WW_one hw hq
  have hc := q_Cmp (by omega) hv.2.2 hw.2.2
  refine (show ∃ r, Ev (fun k => num_Add k v w) r ∧ RB WW r (p + q) from ?_).elim fun r hr => ⟨r, hr.1, hr.2, sz_add hp hq⟩
  by_cases hd : (p.den : Int) = q.den
  · obtain ⟨r, r1, r2⟩ := num_Add_j (c := (false, [], [], ())) (u := v) (u' := w) rfl rfl (by omega) (by omega) (by omega) hv.2.1 hw.2.1 hv.2.2 (den_pos' p)
    rw [sg_val hv, sg_val hw, ← add_frac' p q (by omega)] at r2
    refine ⟨r, Ev.step (fun k => num_Add_eq k v w) (Ev.bind hc (bF ?_ r1)), r2⟩
    unfold P.cmpi
    rw [if_neg (by omega), if_pos hd]
    rfl
  · obtain ⟨x, x1, x2, x3⟩ := q_Mul (by omega) hv.2.1 hw.2.2
    obtain ⟨y, y1, y2, y3⟩ := q_Mul (by omega) hw.2.1 hv.2.2
    obtain ⟨d, d1, d2, d3⟩ := q_Mul (by omega) hv.2.2 hw.2.2
    obtain ⟨r, r1, r2⟩ := num_Add_j (c := (false, [], [], ())) (u := v) (u' := w) rfl rfl (by omega) (by omega) (by omega) x2 y2 d2 (mul_pos' (den_pos' p) (den_pos' q))
    rw [← sg_mul_pos, ← sg_mul_pos, sg_val hv, sg_val hw, ← add_frac p q] at r2
    refine ⟨r, Ev.step (fun k => num_Add_eq k v w) (Ev.bind hc (bT ?_ (Ev.bind x1 (Ev.bind y1 (Ev.bind d1 r1))))), r2⟩
    unfold P.cmpi
    split
    · rfl
    · rfl
end
end Go.Proofs.Ytfpolhoabfadnaa.Q
end
section
namespace Go.Proofs.Ytfpolhoabfadnaa.Q
open Go.RowKit Go.Proofs.YtfpolhoabfadnaaW.PrintWords Go.Proofs.YtfpolhoabfadnaaW.PrintMore Go.Proofs.Ytfpolhoabfadnaa.V Go.Proofs.Ytfpolhoabfadnaa.E
open Go.Proofs.Ytfpolhoabfadnaa.P (Dg Nm vl WW RR can_uniq gI evs evk evb cmpi WW_pos WW_one w64 u64)
set_option linter.unusedVariables false
section
variable {v w : RatD} {p q : Rat} {K L : Nat}
theorem num_Fits_sp (hv : RB WW v p) (N : Nat) : ∃ t, Ev (fun k => num_Fits k v (N : Int)) t ∧ (t = true ↔ Sz WW N p) := by
  refine ⟨decide (v.2.1.length ≤ N) && decide (v.2.2.1.length ≤ N), Ev.step (fun k => num_Fits_eq k v _) (Ev.bind ?_ (evs _)), ?_⟩
  · by_cases c : v.2.1.length ≤ N
    · rw [decide_eq_true c]
      refine bT (decide_eq_true (by omega)) ?_
      have : decide ((List.length v.2.2.1 : Int) ≤ N) = (true && decide (v.2.2.1.length ≤ N)) := by
        rw [Bool.true_and]; exact decide_eq_decide.2 (by omega)
      rw [this]
      exact evs _
    · rw [decide_eq_false c]
      exact bF (decide_eq_false (by omega)) (evs _)
  · rw [Bool.and_eq_true, decide_eq_true_eq, decide_eq_true_eq]
    exact ⟨fun h => sz_of WW_pos hv h.1 h.2, fun h => sz_len WW_one hv h⟩
end
end Go.Proofs.Ytfpolhoabfadnaa.Q
end
section
namespace Go.Proofs.Ytfpolhoabfadnaa.Q
open Go.RowKit Go.Proofs.YtfpolhoabfadnaaW.PrintWords Go.Proofs.YtfpolhoabfadnaaW.PrintMore Go.Proofs.Ytfpolhoabfadnaa.V Go.Proofs.Ytfpolhoabfadnaa.E
open Go.Proofs.Ytfpolhoabfadnaa.P (Dg Nm vl WW RR can_uniq gI evs evk evb cmpi WW_pos WW_one RR_pos w64 u64)
set_option linter.unusedVariables false
def Ev2 {α : Type} (g : Nat → Nat → Option α) (r : α) : Prop := ∃ K, ∀ k m, K ≤ k → K ≤ m → g k m = some r
section
variable {α β : Type} {g f : Nat → Nat → Option α} {r : α}
theorem Ev2.diag (h : Ev2 g r) : Ev (fun k => g k k) r := by
  obtain ⟨K, h⟩ := h
  exact ⟨K, fun k hk => h k k hk hk⟩
theorem Ev2.step (h : ∀ k m, g k (m + 1) = f k m) (k : Ev2 f r) : Ev2 g r := by
  obtain ⟨K, k⟩ := k
  refine ⟨K + 1, fun n m hn hm => ?_⟩
  obtain ⟨q, rfl⟩ : ∃ q, m = q + 1 := ⟨m - 1, by omega⟩
  rw [h]
  exact k n q (by omega) (by omega)
theorem Ev2.bind {g : Nat → Option β} {f : Nat → Nat → β → Option α} {a : β} (h : Ev g a) (k : Ev2 (fun n m => f n m a) r) : Ev2 (fun n m => (g n).bind (f n m)) r := by
  obtain ⟨K, h⟩ := h
  obtain ⟨K', k⟩ := k
  refine ⟨max K K', fun n m hn hm => ?_⟩
  have h1 := h n (by omega)
  simp only [h1, Option.bind_some]
  exact k n m (by omega) (by omega)
theorem Ev2.bT {c : Bool} (hc : c = true) (h : Ev2 f r) : Ev2 (fun k m => bif c then f k m else g k m) r := by subst hc; exact h
theorem Ev2.bF {c : Bool} (hc : c = false) (h : Ev2 g r) : Ev2 (fun k m => bif c then f k m else g k m) r := by subst hc; exact h
theorem Ev2.iT {c : Prop} [Decidable c] (hc : c) (h : Ev2 f r) : Ev2 (fun k m => if c then f k m else none) r := by simpa only [if_pos hc] using h
theorem Ev2.of {g : Nat → Option α} (h : Ev g r) : Ev2 (fun k _ => g k) r := by
  obtain ⟨K, h⟩ := h
  exact ⟨K, fun k m hk _ => h k hk⟩
end
theorem RR_one : (1 : Int) < RR := by decide
section
variable {a b : List Int} {n m : Int}
theorem s_Cmp (hn : a.length < 4611686018427387904) (ha : P.Can RR a n) (hb : P.Can RR b m) : Ev (fun k => isochroneref01_Cmp k a b) (cmpi n m) := Ev.step (fun k => isochroneref01_Cmp_eq k a b) (P.isochroneref01_Cmp_sp hn ha hb)
theorem s_GCD (la : a.length < 1073741824) (lb : b.length < 1073741824) (ha : P.Can RR a n) (hb : P.Can RR b m) : ∃ r, Ev (fun k => isochroneref01_GCD k a b) r ∧ P.Can RR r (gI n m) := by
  obtain ⟨r, h1, h2⟩ := P.r_GCD_sp la lb ha hb
  exact ⟨r, Ev.step (fun k => isochroneref01_GCD_eq k a b) h1, h2⟩
theorem s_Small {k0 c0 : Int} (hn : a.length < 549755813888) (ha : P.Can RR a n) (hk : 0 ≤ k0 ∧ k0 ≤ 65536) (hc : 0 ≤ c0 ∧ c0 ≤ 65536) : ∃ r, Ev (fun k => isochroneref01_Small k a k0 c0) r ∧ P.Can RR r (n * k0 + c0) ∧ r.length ≤ a.length + 2 := by
  obtain ⟨r, h1, h2⟩ := P.r_Small_sp hn ha hk hc
  exact ⟨r, Ev.step (fun k => isochroneref01_Small_eq k a k0 c0) h1, h2⟩
theorem rdT_rd (l : List Int) (i : Int) : (rdT (t := (.int .u32)) l i : Int) = rd l i := rfl
theorem s_Of_ev {a : List Int} (hn : a.length < 137438953472) (ha : Dg WW a) (d : Nat) : ∀ (i : Nat) (o : List Int), i = d → i ≤ a.length → P.Can RR o (vl WW (a.drop i)) → o.length ≤ 4 * (a.length - i) → ∃ r, Ev2 (fun k m => isochroneref01_Of.l0 k m a o ((i : Int) - 1)) r ∧ P.Can RR r (vl WW a) ∧ r.length ≤ 4 * a.length := by
  induction d with
  | zero =>
    rintro i o rfl h1 h2 h3
    exact ⟨o, Ev2.step (fun k m => isochroneref01_Of.l0_succ k m _ _ _) (Ev2.bF (decide_eq_false (by omega)) (Ev2.of (evs _))), by simpa using h2, by omega⟩
  | succ d ih =>
    rintro i o rfl h1 h2 h3
    have e1 : (((d + 1 : Nat) : Int) - 1) = (d : Int) := by omega
    have hx := P.dg_rd ha (d : Int) (by omega) (by omega)
    rw [P.WW_eq] at hx
    obtain ⟨p, h4, h5, h6⟩ := s_Small (k0 := 65536) (c0 := rd a d / 65536) (by omega) h2 (by omega) (by omega)
    obtain ⟨q, h7, h8, h9⟩ := s_Small (k0 := 65536) (c0 := rd a d % 65536) (by omega) h5 (by omega) (by omega)
    have ea : a.drop d = rd a d :: a.drop (d + 1) := by rw [P.rd_lt a d (by omega)]; exact (List.drop_eq_getElem_cons (by omega))
    have ev : (vl WW (a.drop (d + 1)) * 65536 + rd a d / 65536) * 65536 + rd a d % 65536 = vl WW (a.drop d) := by
      rw [ea, vl, P.WW_eq]
      omega
    rw [ev] at h8
    obtain ⟨r, h10, h11⟩ := ih d q rfl (by omega) h8 (by omega)
    refine ⟨r, Ev2.step (fun k m => isochroneref01_Of.l0_succ k m _ _ _) ?_, h11⟩
    have e2 : shr .u32 (rd a (d : Int)) 16 = rd a d / 65536 := rfl
    rw [e1]
    simp only [rdT_rd]
    rw [e2, P.and16 hx.1 hx.2, w64 (x := rd a d / 65536) (by omega) (by omega), w64 (x := rd a d % 65536) (by omega) (by omega), w64 (x := (d : Int) - 1) (by omega) (by omega)]
    exact Ev2.bT (decide_eq_true (by omega)) (Ev2.iT (by omega) (Ev2.bind h4 (Ev2.iT (by omega) (Ev2.bind h7 h10))))
theorem s_Of {a : List Int} {n : Int} (hn : a.length < 137438953472) (ha : P.Can WW a n) : ∃ r, Ev (fun k => isochroneref01_Of k a) r ∧ P.Can RR r n ∧ r.length ≤ 4 * a.length := by
  obtain ⟨r, h1, h2⟩ := s_Of_ev hn ha.1 a.length a.length [] rfl (Nat.le_refl _) (by rw [List.drop_length]; exact P.Can.zero _) (by simp)
  rw [ha.2.2] at h2
  refine ⟨r, Ev.step (fun k => isochroneref01_Of_eq k a) ?_, h2⟩
  rw [w64 (x := (a.length : Int) - 1) (by omega) (by omega)]
  exact h1.diag
end
end Go.Proofs.Ytfpolhoabfadnaa.Q
end
section
namespace Go.Proofs.Ytfpolhoabfadnaa.Q
open Go.RowKit Go.Proofs.YtfpolhoabfadnaaW.PrintWords Go.Proofs.YtfpolhoabfadnaaW.PrintMore Go.Proofs.Ytfpolhoabfadnaa.V Go.Proofs.Ytfpolhoabfadnaa.E
open Go.Proofs.Ytfpolhoabfadnaa.P (Dg Nm vl WW RR can_uniq gI evs evk evb cmpi WW_pos WW_one RR_pos w64 u64)
set_option linter.unusedVariables false
section
variable {a b : List Int} {n m : Int} {v w : RatD} {p q : Rat} {K L : Nat}
theorem is_one' {l : List Int} {z : Int} (h : P.Can WW l z) : (bif (List.length l : Int) == (1 : Int) then if 0 ≤ (0 : Int) ∧ (0 : Int) < (List.length l : Int) then some ((rdT (t := (.int .u32)) l (0 : Int) : Int) == (1 : Int)) else none else some false) = some (decide (z = 1)) := by
  match l, h with
  | [], h =>
    have : z = 0 := by have := h.2.2; simp [vl] at this; exact this.symm
    subst this
    rfl
  | [x], h =>
    have hx : x = z := by have := h.2.2; simp [vl] at this; exact this
    have hr : (rdT (t := (.int .u32)) [x] (0 : Int) : Int) = x := rfl
    rw [hr, hx]
    simp
    by_cases c : z = 1 <;> simp [c]
  | x :: y :: t, h =>
    have h1 : ((List.length (x :: y :: t) : Int) == (1 : Int)) = false := by simp; omega
    have h2 : WW ≤ z := by
      have := h.ge WW_pos (by simp)
      refine Int.le_trans ?_ this
      have := P.pow_le (B := WW) (by decide) (i := 1) (j := (x :: y :: t).length - 1) (by simp)
      rw [Int.pow_succ, Int.pow_zero, Int.one_mul] at this
      exact this
    have : WW = 4294967296 := rfl
    rw [h1, decide_eq_false (by omega)]
    rfl
end
end Go.Proofs.Ytfpolhoabfadnaa.Q
end
section
namespace Go.Proofs.Ytfpolhoabfadnaa.Q
open Go.RowKit Go.Proofs.YtfpolhoabfadnaaW.PrintWords Go.Proofs.YtfpolhoabfadnaaW.PrintMore Go.Proofs.Ytfpolhoabfadnaa.V Go.Proofs.Ytfpolhoabfadnaa.E
open Go.Proofs.Ytfpolhoabfadnaa.P (Dg Nm vl WW RR can_uniq gI evs evk evb cmpi WW_pos WW_one RR_pos w64 u64)
set_option linter.unusedVariables false
def Arg (v : RatD) : Prop := Dg WW v.2.1 ∧ Dg WW v.2.2.1 ∧ True ∧ True
def Vd (v : RatD) : Prop := ∃ q, RB WW v q ∧ Sz WW 4096 q
section
variable {v w : RatD} {p q : Rat} {K L : Nat}
theorem gcd_num_den (q : Rat) : gI (q.num.natAbs : Int) q.den = 1 := by
  unfold P.gI
  have := q.reduced
  unfold Nat.Coprime at this
  simp only [Int.gcd, Int.natAbs_natCast, this]
  rfl
theorem val_iff {s : Bool} {a b : List Int} (da : Dg WW a) (db : Dg WW b) : (∃ q, RB WW (s, a, b, ()) q) ↔ Nm a ∧ Nm b ∧ vl WW b ≠ 0 ∧ (vl WW a = 0 → s = false ∧ vl WW b = 1) ∧ (vl WW a ≠ 0 → gI (vl WW a) (vl WW b) = 1) := by
  constructor
  · rintro ⟨q, h1, h2, h3⟩
    have e2 : vl WW a = (q.num.natAbs : Int) := h2.2.2
    have e3 : vl WW b = (q.den : Int) := h3.2.2
    have dp := den_pos' q
    refine ⟨h2.2.1, h3.2.1, by omega, fun h => ?_, fun h => ?_⟩
    · have h0 : q = 0 := Rat.num_eq_zero.1 (by omega)
      refine ⟨?_, ?_⟩
      · have : s = decide (q.num < 0) := h1
        rw [this, h0]; rfl
      · rw [e3, h0]; rfl
    · rw [e2, e3]
      exact gcd_num_den q
  · rintro ⟨na, nb, hb, h0, h1⟩
    have a0 := P.vl_nonneg WW_pos da
    have b0 := P.vl_nonneg WW_pos db
    by_cases c : vl WW a = 0
    · obtain ⟨rfl, e⟩ := h0 c
      refine ⟨0, rfl, ?_, ?_⟩
      · exact ⟨da, na, c⟩
      · exact ⟨db, nb, e⟩
    · have g := h1 c
      refine ⟨Rat.divInt (sg s (vl WW a)) (vl WW b), rb_frac (by omega) (by omega) ?_ ?_⟩
      · rw [g, Int.ediv_one]; exact ⟨da, na, rfl⟩
      · rw [g, Int.ediv_one]; exact ⟨db, nb, rfl⟩
theorem vd_iff (ha : Arg v) : Vd v ↔ v.2.1.length ≤ 4096 ∧ v.2.2.1.length ≤ 4096 ∧ Nm v.2.1 ∧ Nm v.2.2.1 ∧ vl WW v.2.2.1 ≠ 0 ∧ (vl WW v.2.1 = 0 → v.1 = false ∧ vl WW v.2.2.1 = 1) ∧ (vl WW v.2.1 ≠ 0 → gI (vl WW v.2.1) (vl WW v.2.2.1) = 1) := by
  obtain ⟨s, a, b, _⟩ := v
  have h := val_iff (s := s) ha.1 ha.2.1
  constructor
  · rintro ⟨q, h1, h2⟩
    obtain ⟨l1, l2⟩ := sz_len WW_one h1 h2
    exact ⟨l1, l2, h.1 ⟨q, h1⟩⟩
  · rintro ⟨l1, l2, h3⟩
    obtain ⟨q, hq⟩ := h.2 h3
    exact ⟨q, hq, sz_of WW_pos hq l1 l2⟩
theorem valid_any (l : List Int) : ∃ b, P.isochroneref01_Valid.f l = some b ∧ P.nat_Valid.f l = some b ∧ (b = true ↔ l.length ≤ 4096 ∧ Nm l) := by
  by_cases h1 : l.length ≤ 4096
  · exact P.valid_sp l (by omega)
  · refine ⟨false, ?_, ?_, by simp; omega⟩
    · unfold P.isochroneref01_Valid.f
      rw [if_neg (by omega)]
    · unfold P.nat_Valid.f
      rw [if_neg (by omega)]
theorem num_valid_sp (l : List Int) (hl : True) : ∃ t, Ev (fun k => num_valid k l 4096) t ∧ (t = true ↔ l.length ≤ 4096 ∧ Nm l) := by
  by_cases h1 : l.length ≤ 4096
  · by_cases h0 : l.length = 0
    · have : l = [] := List.eq_nil_of_length_eq_zero h0
      subst this
      exact ⟨true, Ev.step (fun k => num_valid_eq k _ _) (Ev.bind (bT rfl (Ev.bind (bT rfl (evs _)) (evs _))) (evs _)), by simp; exact P.Nm.nil⟩
    · have e : wrap64 ((l.length : Int) - 1) = (l.length : Int) - 1 := w64 (by omega) (by omega)
      refine ⟨rd l ((l.length : Int) - 1) != 0, Ev.step (fun k => num_valid_eq k _ _) (Ev.bind (bT (decide_eq_true (by omega)) (Ev.bind (bF (by simp; intro e; exact h0 (by simp [e])) ?_) (evs _))) (evs _)), ?_⟩
      · rw [e]
        exact iT (by omega) (evs _)
      · simp only [bne_iff_ne]
        exact ⟨fun h => ⟨h1, P.nm_of_rd (fun _ => h)⟩, fun h => h.2.rd (by omega)⟩
  · exact ⟨false, Ev.step (fun k => num_valid_eq k _ _) (Ev.bind (bF (decide_eq_false (by omega)) (evs _)) (evs _)), by simp; omega⟩
theorem vl0_iff {l : List Int} (hd : Dg WW l) (hn : Nm l) : l.length = 0 ↔ vl WW l = 0 := (show P.Can WW l (vl WW l) from ⟨hd, hn, rfl⟩).len_iff WW_pos
theorem beq_len {l : List Int} (hd : Dg WW l) (hn : Nm l) : ((List.length l : Int) == (0 : Int)) = decide (vl WW l = 0) := by
  by_cases c : vl WW l = 0
  · have := (vl0_iff hd hn).2 c
    rw [decide_eq_true c]; simp [List.eq_nil_of_length_eq_zero this]
  · rw [decide_eq_false c]; exact len_ne WW_pos ⟨hd, hn, rfl⟩ c
theorem rat_Valid_sp (ha : Arg v) : ∃ t, Ev (fun k => rat_Valid k v) t ∧ (t = true ↔ Vd v) := by
  have hiff := vd_iff ha
  obtain ⟨da, db, la, lb⟩ := ha
  obtain ⟨s, a, b, _⟩ := v
  obtain ⟨t1, e1, i1⟩ := num_valid_sp a la
  obtain ⟨t2, e2, i2⟩ := num_valid_sp b lb
  refine (show ∃ t, Ev (fun k => num_Valid k (s, a, b, ()) 4096) t ∧ (t = true ↔ Vd (s, a, b, ())) from ?_).elim fun t h => ⟨t, Ev.step (fun k => rat_Valid_eq k _) (Ev.bind h.1 (evs _)), h.2⟩
  by_cases c1 : a.length ≤ 4096 ∧ Nm a
  · by_cases c2 : b.length ≤ 4096 ∧ Nm b
    · obtain rfl := i1.2 c1
      obtain rfl := i2.2 c2
      have hb0 := beq_len db c2.2
      have ca : P.Can WW a (vl WW a) := ⟨da, c1.2, rfl⟩
      have cb : P.Can WW b (vl WW b) := ⟨db, c2.2, rfl⟩
      have h1 := is_one' cb
      by_cases c3 : vl WW b = 0
      · refine ⟨false, Ev.step (fun k => num_Valid_eq k _ _) (Ev.bind e1 (Ev.bind (a := false) (bF rfl (Ev.bind e2 (evs _))) (Ev.bind (a := true) (bF rfl ?_) (bT rfl (evs _))))), ?_⟩
        · rw [hb0, decide_eq_true c3]; exact evs _
        · rw [hiff]; simp [c3]
      · refine (?_ : ∃ t, Ev (fun k => bif (List.length a : Int) == (0 : Int) then _ else _) t ∧ _).elim fun t h => ⟨t, Ev.step (fun k => num_Valid_eq k _ _) (Ev.bind e1 (Ev.bind (a := false) (bF rfl (Ev.bind e2 (evs _))) (Ev.bind (a := false) (bF rfl ?_) (bF rfl h.1)))), h.2⟩
        · by_cases c4 : vl WW a = 0
          · have ha0 : ((List.length a : Int) == (0 : Int)) = true := by rw [beq_len da c1.2]; exact decide_eq_true c4
            cases s with
            | true =>
              refine ⟨false, bT ha0 (Ev.bind (a := false) (bF rfl (evs _)) (Ev.bind (bF rfl (evs _)) (evs _))), ?_⟩
              rw [hiff]; simp [c4]
            | false =>
              refine ⟨decide (vl WW b = 1), bT ha0 ?_, ?_⟩
              · by_cases c5 : ((List.length b : Int) == (1 : Int)) = true
                · rw [c5] at h1
                  refine Ev.bind (a := true) (bT rfl (by rw [show (List.length (false, a, b, ()).2.2.1 : Int) = (List.length b : Int) from rfl, c5]; exact evs _)) (Ev.bind (bT rfl ?_) (evs _))
                  have h1' : (if 0 ≤ (0 : Int) ∧ (0 : Int) < (List.length b : Int) then some ((rdT (t := (.int .u32)) b (0 : Int) : Int) == (1 : Int)) else none) = some (decide (vl WW b = 1)) := h1
                  exact evk h1'
                · have c6 := Bool.eq_false_iff.2 c5
                  rw [c6] at h1
                  have h1' : some false = some (decide (vl WW b = 1)) := h1
                  rw [← Option.some.inj h1']
                  exact Ev.bind (a := false) (bT rfl (by rw [show (List.length (false, a, b, ()).2.2.1 : Int) = (List.length b : Int) from rfl, c6]; exact evs _)) (Ev.bind (bF rfl (evs _)) (evs _))
              · rw [hiff, decide_eq_true_eq]
                simp [c4, c1, c2, c3]
          · have ha0 : ((List.length a : Int) == (0 : Int)) = false := len_ne WW_pos ca c4
            by_cases c5 : vl WW b = 1
            · refine ⟨true, bF ha0 (Ev.bind (evk h1) (bT (decide_eq_true c5) (evs _))), ?_⟩
              rw [hiff]
              have : gI (vl WW a) 1 = 1 := by unfold P.gI; simp
              simp [c4, c1, c2, c5, this]
            · obtain ⟨g, g1, g2⟩ := q_GCD (by omega) (by omega) ca cb
              have h2 := is_one' g2
              refine ⟨decide (gI (vl WW a) (vl WW b) = 1), bF ha0 (Ev.bind (evk h1) (bF (decide_eq_false c5) (Ev.bind g1 (Ev.bind (evk h2) (evs _))))), ?_⟩
              rw [hiff, decide_eq_true_eq]
              simp [c4, c1, c2, c3]
        · rw [hb0, decide_eq_false c3]; exact evs _
    · obtain rfl := i1.2 c1
      have : t2 = false := Bool.eq_false_iff.2 (fun e => c2 (i2.1 e))
      subst this
      refine ⟨false, Ev.step (fun k => num_Valid_eq k _ _) (Ev.bind e1 (Ev.bind (a := true) (bF rfl (Ev.bind e2 (evs _))) (Ev.bind (a := true) (bT rfl (evs _)) (bT rfl (evs _))))), ?_⟩
      rw [hiff]
      simp
      intro h1 h2 h3 h4
      exact absurd ⟨h2, h4⟩ c2
  · have : t1 = false := Bool.eq_false_iff.2 (fun e => c1 (i1.1 e))
    subst this
    refine ⟨false, Ev.step (fun k => num_Valid_eq k _ _) (Ev.bind e1 (Ev.bind (a := true) (bT rfl (evs _)) (Ev.bind (a := true) (bT rfl (evs _)) (bT rfl (evs _))))), ?_⟩
    rw [hiff]
    simp
    intro h1 h2 h3 h4
    exact absurd ⟨h1, h3⟩ c1
end
end Go.Proofs.Ytfpolhoabfadnaa.Q
end
section
namespace Go.Proofs.Ytfpolhoabfadnaa.Q
open Go.RowKit Go.Proofs.YtfpolhoabfadnaaW.PrintWords Go.Proofs.YtfpolhoabfadnaaW.PrintMore Go.Proofs.Ytfpolhoabfadnaa.V Go.Proofs.Ytfpolhoabfadnaa.E
open Go.Proofs.Ytfpolhoabfadnaa.P (Dg Nm vl WW RR can_uniq gI evs evk evb cmpi WW_pos WW_one RR_pos w64 u64)
set_option linter.unusedVariables false
section
variable {v w : RatD} {p q : Rat} {K L : Nat}
theorem s_Valid (l : List Int) (hl : True) : ∃ t, Ev (fun k => isochroneref01_Valid k l) t ∧ (t = true ↔ l.length ≤ 4096 ∧ Nm l) := by
  obtain ⟨t, h1, h2, h3⟩ := valid_any l
  exact ⟨t, Ev.step (fun k => isochroneref01_Valid_eq k l) (evk h1), h3⟩
theorem cmpi_beq (x y : Int) : (cmpi x y == (0 : Int)) = decide (x = y) := by
  unfold P.cmpi
  by_cases a : x < y
  · rw [if_pos a, decide_eq_false (by omega)]; rfl
  · by_cases b : x = y
    · rw [if_neg a, if_pos b, decide_eq_true b]; rfl
    · rw [if_neg a, if_neg b, decide_eq_false b]; rfl
theorem ref_Valid_sp (ha : Arg v) : ∃ t, Ev (fun k => isochroneref02_Valid k v) t ∧ (t = true ↔ Vd v) := by
  have hiff := vd_iff ha
  obtain ⟨da, db, la, lb⟩ := ha
  obtain ⟨s, a, b, _⟩ := v
  obtain ⟨t1, e1, i1⟩ := s_Valid a la
  obtain ⟨t2, e2, i2⟩ := s_Valid b lb
  by_cases c1 : a.length ≤ 4096 ∧ Nm a
  · by_cases c2 : b.length ≤ 4096 ∧ Nm b
    · obtain rfl := i1.2 c1
      obtain rfl := i2.2 c2
      have hb0 := beq_len db c2.2
      have ca : P.Can WW a (vl WW a) := ⟨da, c1.2, rfl⟩
      have cb : P.Can WW b (vl WW b) := ⟨db, c2.2, rfl⟩
      have h1 := is_one' cb
      by_cases c3 : vl WW b = 0
      · refine ⟨false, Ev.step (fun k => isochroneref02_Valid_eq k _) (Ev.bind e1 (Ev.bind (a := false) (bF rfl (Ev.bind e2 (evs _))) (Ev.bind (a := true) (bF rfl ?_) (bT rfl (evs _))))), ?_⟩
        · rw [hb0, decide_eq_true c3]; exact evs _
        · rw [hiff]; simp [c3]
      · refine (?_ : ∃ t, Ev (fun k => bif (List.length a : Int) == (0 : Int) then _ else _) t ∧ _).elim fun t h => ⟨t, Ev.step (fun k => isochroneref02_Valid_eq k _) (Ev.bind e1 (Ev.bind (a := false) (bF rfl (Ev.bind e2 (evs _))) (Ev.bind (a := false) (bF rfl ?_) (bF rfl h.1)))), h.2⟩
        · by_cases c4 : vl WW a = 0
          · have ha0 : ((List.length a : Int) == (0 : Int)) = true := by rw [beq_len da c1.2]; exact decide_eq_true c4
            cases s with
            | true =>
              refine ⟨false, bT ha0 (Ev.bind (a := false) (bF rfl (evs _)) (Ev.bind (bF rfl (evs _)) (evs _))), ?_⟩
              rw [hiff]; simp [c4]
            | false =>
              refine ⟨decide (vl WW b = 1), bT ha0 ?_, ?_⟩
              · by_cases c5 : ((List.length b : Int) == (1 : Int)) = true
                · rw [c5] at h1
                  refine Ev.bind (a := true) (bT rfl (by rw [show (List.length (false, a, b, ()).2.2.1 : Int) = (List.length b : Int) from rfl, c5]; exact evs _)) (Ev.bind (bT rfl ?_) (evs _))
                  have h1' : (if 0 ≤ (0 : Int) ∧ (0 : Int) < (List.length b : Int) then some ((rdT (t := (.int .u32)) b (0 : Int) : Int) == (1 : Int)) else none) = some (decide (vl WW b = 1)) := h1
                  exact evk h1'
                · have c6 := Bool.eq_false_iff.2 c5
                  rw [c6] at h1
                  have h1' : some false = some (decide (vl WW b = 1)) := h1
                  rw [← Option.some.inj h1']
                  exact Ev.bind (a := false) (bT rfl (by rw [show (List.length (false, a, b, ()).2.2.1 : Int) = (List.length b : Int) from rfl, c6]; exact evs _)) (Ev.bind (bF rfl (evs _)) (evs _))
              · rw [hiff, decide_eq_true_eq]
                simp [c4, c1, c2, c3]
          · have ha0 : ((List.length a : Int) == (0 : Int)) = false := len_ne WW_pos ca c4
            obtain ⟨x, x1, x2, x3⟩ := s_Of (by omega) ca
            obtain ⟨y, y1, y2, y3⟩ := s_Of (by omega) cb
            obtain ⟨g, g1, g2⟩ := s_GCD (by omega) (by omega) x2 y2
            have b0 : 0 < vl WW b := by
              have h0 : (0 : Int) ≤ vl WW b := P.vl_nonneg WW_pos db
              omega
            have gl : g.length < 4611686018427387904 := by
              have := g2.len_le RR_one (Int.lt_of_le_of_lt (P.gI_le b0) (y2.lt RR_pos))
              omega
            have h2 := s_Cmp gl g2 (can1 RR_one)
            refine ⟨decide (gI (vl WW a) (vl WW b) = 1), bF ha0 (Ev.bind x1 (Ev.bind y1 (Ev.bind g1 (Ev.bind h2 ?_)))), ?_⟩
            · rw [cmpi_beq]; exact evs _
            · rw [hiff, decide_eq_true_eq]
              simp [c4, c1, c2, c3]
        · rw [hb0, decide_eq_false c3]; exact evs _
    · obtain rfl := i1.2 c1
      have : t2 = false := Bool.eq_false_iff.2 (fun e => c2 (i2.1 e))
      subst this
      refine ⟨false, Ev.step (fun k => isochroneref02_Valid_eq k _) (Ev.bind e1 (Ev.bind (a := true) (bF rfl (Ev.bind e2 (evs _))) (Ev.bind (a := true) (bT rfl (evs _)) (bT rfl (evs _))))), ?_⟩
      rw [hiff]
      simp
      intro h1 h2 h3 h4
      exact absurd ⟨h2, h4⟩ c2
  · have : t1 = false := Bool.eq_false_iff.2 (fun e => c1 (i1.1 e))
    subst this
    refine ⟨false, Ev.step (fun k => isochroneref02_Valid_eq k _) (Ev.bind e1 (Ev.bind (a := true) (bT rfl (evs _)) (Ev.bind (a := true) (bT rfl (evs _)) (bT rfl (evs _))))), ?_⟩
    rw [hiff]
    simp
    intro h1 h2 h3 h4
    exact absurd ⟨h1, h3⟩ c1
theorem ref_Short_sp (v : RatD) (N : Nat) : Ev (fun k => isochroneref02_Short k v (N : Int)) (decide (v.2.1.length ≤ N ∧ v.2.2.1.length ≤ N)) := by
  refine Ev.step (fun k => isochroneref02_Short_eq k v _) (Ev.bind ?_ (evs _))
  by_cases c : v.2.1.length ≤ N
  · refine bT (decide_eq_true (by omega)) ?_
    have : decide ((List.length v.2.2.1 : Int) ≤ N) = decide (v.2.1.length ≤ N ∧ v.2.2.1.length ≤ N) := decide_eq_decide.2 (by omega)
    rw [this]
    exact evs _
  · have : decide (v.2.1.length ≤ N ∧ v.2.2.1.length ≤ N) = false := decide_eq_false (fun h => c h.1)
    rw [this]
    exact bF (decide_eq_false (by omega)) (evs _)
abbrev nothing : RatD := (false, [], [], ())
theorem ref_None_ev : Ev (fun k => isochroneref02_None k nothing) true := Ev.step (fun k => isochroneref02_None_eq k _) (Ev.bind (bT rfl (evs _)) (Ev.bind (bT rfl (evs _)) (evs _)))
theorem rat_limited_sp (hv : RB WW v p) (h : Sz WW 4096 p) : Ev (fun k => rat_limited k v) (v, 0, ()) := by
  obtain ⟨t, t1, t2⟩ := num_Fits_sp hv 4096
  obtain rfl := t2.2 h
  exact Ev.step (fun k => rat_limited_eq k v) (Ev.bind t1 (bF rfl (evs _)))
theorem rat_Valid_ev (ha : Arg v) (h : Vd v) : Ev (fun k => rat_Valid k v) true := by
  obtain ⟨t, t1, t2⟩ := rat_Valid_sp ha
  rw [t2.2 h] at t1
  exact t1
theorem arg_of (hv : RB WW v p) (hp : Sz WW K p) (h : K < 4611686018427387904) : Arg v := by
  obtain ⟨l1, l2⟩ := sz_len WW_one hv hp
  exact ⟨hv.2.1.1, hv.2.2.1, trivial, trivial⟩
theorem rat_Add_sp (hv : RB WW v p) (hw : RB WW w q) (hp : Sz WW K p) (hq : Sz WW L q) (h : K + L + 1 ≤ 4096) : ∃ r, Ev (fun k => rat_Add k v w) (r, 0, ()) ∧ RB WW r (p + q) ∧ Sz WW (K + L + 1) (p + q) := by
  obtain ⟨r, r1, r2, r3⟩ := num_Add_sp hv hw hp hq (by omega)
  have a1 := rat_Valid_ev (arg_of hv hp (by omega)) ⟨p, hv, sz_mono WW_pos hp (by omega)⟩
  have a2 := rat_Valid_ev (arg_of hw hq (by omega)) ⟨q, hw, sz_mono WW_pos hq (by omega)⟩
  have a3 := rat_limited_sp r2 (sz_mono WW_pos r3 h)
  exact ⟨r, Ev.step (fun k => rat_Add_eq k v w) (Ev.bind (Ev.step (fun k => rat_pair_num_Add_eq k v w) (Ev.bind a1 (Ev.bind (a := false) (bF rfl (Ev.bind a2 (evs _))) (bF rfl (Ev.bind r1 (Ev.bind a3 (evs _))))))) (evs _)), r2, r3⟩
end
end Go.Proofs.Ytfpolhoabfadnaa.Q
end
section
namespace Go.Proofs.Ytfpolhoabfadnaa.P
open Go.RowKit Go.Proofs.YtfpolhoabfadnaaW.PrintWords Go.Proofs.YtfpolhoabfadnaaW.PrintLast Go.Proofs.YtfpolhoabfadnaaW.PrintMore
set_option linter.unusedVariables false
theorem bt_nums (l : List Int) (i : Nat) (h : i < l.length) (h0 : 0 ≤ l[i]) (h1 : l[i] < 256) : bt (strOfNums l) (i : Int) = l[i] := by
  have hs : (strOfNums l).size = l.length := strOfNums_size l
  unfold bt
  rw [dif_pos (by rw [Int.toNat_natCast, hs]; exact h)]
  have e : (strOfNums l)[(i : Int).toNat]'(by rw [Int.toNat_natCast, hs]; exact h) = UInt8.ofNat (l[i]).toNat := by
    show (List.map (fun n => UInt8.ofNat n.toNat) l).toArray[(i : Int).toNat]'_ = _
    simp
  rw [e]
  have : (UInt8.ofNat (l[i]).toNat).toNat = (l[i]).toNat % 256 := by simp
  rw [this]
  omega
theorem asc_get (D : List Int) (i : Nat) (h : i < D.length) : (asc D)[i]'(by rw [asc_len]; exact h) = rd D ((D.length - 1 - i : Nat) : Int) + 48 := by
  rw [rd_lt D _ (by omega)]
  simp [asc]
theorem asc_dig {D : List Int} (hD : Dg TT D) (i : Nat) (h : i < D.length) : bt (strOfNums (asc D)) (i : Int) = rd D ((D.length - 1 - i : Nat) : Int) + 48 ∧ Dig (strOfNums (asc D)) i := by
  have hx := dg_rd hD ((D.length - 1 - i : Nat) : Int) (by omega) (by omega)
  rw [TT_eq] at hx
  have e := asc_get D i h
  have b := bt_nums (asc D) i (by rw [asc_len]; exact h) (by rw [e]; omega) (by rw [e]; omega)
  rw [e] at b
  exact ⟨b, by unfold Dig; rw [b]; omega⟩
theorem asc_sv {D : List Int} (hD : Dg TT D) (i : Nat) (h : i ≤ D.length) : sv (strOfNums (asc D)) i = vl TT (D.drop (D.length - i)) := by
  induction i with
  | zero => rw [Nat.sub_zero, List.drop_length]; rfl
  | succ i ih =>
    have e : sv (strOfNums (asc D)) (i + 1) = sv (strOfNums (asc D)) i * 10 + (bt (strOfNums (asc D)) (i : Int) - 48) := rfl
    rw [e, ih (by omega), (asc_dig hD i (by omega)).1, drop_rd D (D.length - (i + 1)) (by omega), vl, show D.length - (i + 1) + 1 = D.length - i by omega, show D.length - 1 - i = D.length - (i + 1) by omega, TT_eq]
    omega
theorem asc_all {D : List Int} {n : Int} (hD : Can TT D n) : (strOfNums (asc D)).size = D.length ∧ (∀ p, p < (strOfNums (asc D)).size → Dig (strOfNums (asc D)) p) ∧ sv (strOfNums (asc D)) (strOfNums (asc D)).size = n := by
  have hs : (strOfNums (asc D)).size = D.length := by rw [strOfNums_size, asc_len]
  refine ⟨hs, fun p hp => (asc_dig hD.1 p (by omega)).2, ?_⟩
  rw [hs, asc_sv hD.1 _ (Nat.le_refl _), Nat.sub_self, List.drop_zero, hD.2.2]
end Go.Proofs.Ytfpolhoabfadnaa.P
end
section
namespace Go.Proofs.Ytfpolhoabfadnaa.Q
open Go.RowKit Go.Proofs.YtfpolhoabfadnaaW.PrintWords Go.Proofs.YtfpolhoabfadnaaW.PrintMore Go.Proofs.Ytfpolhoabfadnaa.V Go.Proofs.Ytfpolhoabfadnaa.E
open Go.Proofs.Ytfpolhoabfadnaa.P (Dg Nm vl WW RR TT asc can_uniq gI evs evk evb cmpi WW_pos WW_one RR_pos w64 u64)
set_option linter.unusedVariables false
theorem rat_Text_eq (k : Nat) (y : RatD) : rat_Text (k + 1) y =
    (rat_Valid k y).bind fun (ok : Bool) => bif ok then
      (nat_Text k y.2.1).bind fun (n : ByteArray × Int × Unit) =>
      (num_Whole k y).bind fun (wh : Bool) => bif wh then
        if n.1.size + 2 ≤ 140737488355328 then some (bif y.1 then (⟨#[45]⟩ : ByteArray) ++ n.1 else n.1, 0, ()) else none
      else
        (nat_Text k y.2.2.1).bind fun (d : ByteArray × Int × Unit) =>
        if n.1.size + d.1.size + 2 ≤ 140737488355328 then some (bif y.1 then (⟨#[45]⟩ : ByteArray) ++ n.1 ++ ((⟨#[47]⟩ : ByteArray) ++ d.1) else n.1 ++ ((⟨#[47]⟩ : ByteArray) ++ d.1), 0, ()) else none
    else some ((⟨#[]⟩ : ByteArray), 3, ()) := by
  kernel_rfl
def Txt (n : Int) (s : ByteArray) : Prop := (n = 0 ∧ s = ⟨#[48]⟩) ∨ (0 < n ∧ ∃ D, P.Can TT D n ∧ D ≠ [] ∧ D.length ≤ 576 ∧ s = strOfNums (asc D))
theorem Txt.size {n : Int} {s : ByteArray} (h : Txt n s) : s.size ≤ 576 := by
  rcases h with ⟨_, rfl⟩ | ⟨_, D, h1, h2, h3, rfl⟩
  · decide
  · rw [(P.asc_all h1).1]
    exact h3
theorem q_Text {a : List Int} {n : Int} (hl : a.length ≤ 40) (ha : P.Can WW a n) : ∃ s, Ev (fun k => nat_Text k a) (s, 0, ()) ∧ Txt n s := by
  have n0 := ha.nonneg WW_pos
  by_cases c : n = 0
  · obtain rfl := len_eq WW_pos ha c
    refine ⟨⟨#[48]⟩, Ev.step (fun k => nat_Text_eq k _) (evmap (g := fun r : ByteArray × Int => (r.1, r.2, ())) (r := ((⟨#[48]⟩ : ByteArray), 0)) ?_), .inl ⟨c, rfl⟩⟩
    unfold P.nat_Text.f
    obtain ⟨t, h1, h2, h3⟩ := P.valid_sp [] (by simp)
    obtain rfl := h3.2 ⟨by simp, P.Nm.nil⟩
    exact evb h2 (P.evp rfl (P.evp rfl (evs _)))
  · obtain ⟨D, d1, d2, d3, d4⟩ := P.nat_Text_sp hl ha (by omega)
    exact ⟨_, Ev.step (fun k => nat_Text_eq k _) (evmap (g := fun r : ByteArray × Int => (r.1, r.2, ())) d1), .inr ⟨by omega, D, d2, d3, d4, rfl⟩⟩
section
variable {v w : RatD} {p q : Rat} {K L : Nat}
theorem num_Whole_sp (hv : RB WW v p) : Ev (fun k => num_Whole k v) (decide (p.den = 1)) := by
  have h := is_one' hv.2.2
  have e : decide ((p.den : Int) = 1) = decide (p.den = 1) := decide_eq_decide.2 (by omega)
  rw [e] at h
  exact Ev.step (fun k => num_Whole_eq k v) (Ev.bind (Ev.step (fun k => num_whole_eq k v) (Ev.bind (evk h) (evs _))) (evs _))
def RTxt (p : Rat) (s : ByteArray) : Prop := ∃ n d, Txt (p.num.natAbs : Int) n ∧ (p.den ≠ 1 → Txt (p.den : Int) d) ∧ s = (bif decide (p.num < 0) then (⟨#[45]⟩ : ByteArray) ++ n else n) ++ (if p.den = 1 then ⟨#[]⟩ else (⟨#[47]⟩ : ByteArray) ++ d)
theorem ba_empty (s : ByteArray) : s ++ (⟨#[]⟩ : ByteArray) = s := by
  apply ByteArray.ext
  simp [ByteArray.data_append]
theorem rat_Text_sp (hv : RB WW v p) (hp : Sz WW K p) (hK : K ≤ 40) : ∃ s, Ev (fun k => rat_Text k v) (s, 0, ()) ∧ RTxt p s := by
  obtain ⟨l1, l2⟩ := sz_len WW_one hv hp
  have a1 := rat_Valid_ev (arg_of hv hp (by omega)) ⟨p, hv, sz_mono WW_pos hp (by omega)⟩
  obtain ⟨n, n1, n2⟩ := q_Text (by omega) hv.2.1
  obtain ⟨d, d1, d2⟩ := q_Text (by omega) hv.2.2
  have w1 := num_Whole_sp hv
  have ns := n2.size
  have ds := d2.size
  by_cases c : p.den = 1
  · refine ⟨_, Ev.step (fun k => rat_Text_eq k v) (Ev.bind a1 (bT rfl (Ev.bind n1 (Ev.bind w1 (bT (decide_eq_true c) (iT (by simp only []; omega) (evs _))))))), n, d, n2, fun h => absurd c h, ?_⟩
    rw [if_pos c, ba_empty, hv.1]
  · refine ⟨_, Ev.step (fun k => rat_Text_eq k v) (Ev.bind a1 (bT rfl (Ev.bind n1 (Ev.bind w1 (bF (decide_eq_false c) (Ev.bind d1 (iT (by simp only []; omega) (evs _)))))))), n, d, n2, fun _ => d2, ?_⟩
    rw [if_neg c, hv.1]
    cases decide (p.num < 0) <;> rfl
end
theorem txt_digit {n : Int} {s : ByteArray} (h : Txt n s) (h0 : 0 < n) (h1 : n < 10) : s = strOfNums [n + 48] := by
  rcases h with ⟨e, _⟩ | ⟨_, D, d1, d2, d3, rfl⟩
  · omega
  · have c : P.Can TT [n] n := ⟨Dg.mk (by omega) (by have : TT = 10 := rfl; omega) (Dg.nil _), fun h => by simp; omega, by simp [vl]⟩
    rw [can_uniq (by decide) d1 c]
    rfl
theorem rb_words {B : Int} {a b : List Int} {x y : Int} (hx : 0 < x) (hy : 0 < y) (hg : gI x y = 1) (ha : P.Can B a x) (hb : P.Can B b y) (s : Bool) : RB B (s, a, b, ()) (Rat.divInt (sg s x) y) := rb_frac hx hy (by rw [hg, Int.ediv_one]; exact ha) (by rw [hg, Int.ediv_one]; exact hb)
theorem can_digit {B x : Int} (h0 : 0 < x) (h1 : x < B) : P.Can B [x] x := ⟨Dg.mk (by omega) h1 (Dg.nil _), fun h => by simp; omega, by simp [vl]⟩
theorem awake_ev : Ev (fun k => isochronelaw02_awake k) true := by
  have h2 := rb_words (B := WW) (a := [1]) (b := [2]) (x := 1) (y := 2) (by decide) (by decide) (by decide) (can_digit (by decide) (by decide)) (can_digit (by decide) (by decide)) false
  have h3 := rb_words (B := WW) (a := [1]) (b := [3]) (x := 1) (y := 3) (by decide) (by decide) (by decide) (can_digit (by decide) (by decide)) (can_digit (by decide) (by decide)) false
  have h6 := rb_words (B := WW) (a := [5]) (b := [6]) (x := 5) (y := 6) (by decide) (by decide) (by decide) (can_digit (by decide) (by decide)) (can_digit (by decide) (by decide)) false
  have e : Rat.divInt (sg false 1) 2 + Rat.divInt (sg false 1) 3 = Rat.divInt (sg false 5) 6 := by
    simp only [Rat.divInt_eq_div, sg]
    grind
  obtain ⟨r, r1, r2, r3⟩ := rat_Add_sp h2 h3 (sz_of WW_pos h2 (K := 1) (by simp) (by simp)) (sz_of WW_pos h3 (K := 1) (by simp) (by simp)) (by omega)
  rw [e] at r2 r3
  obtain rfl := rb_uniq WW_pos r2 h6
  obtain ⟨s, s1, n, d, n2, d2, es⟩ := rat_Text_sp r2 r3 (by omega)
  have en : (Rat.divInt (sg false 5) 6).num.natAbs = 5 := by rw [Rat.num_divInt]; rfl
  have en' : (Rat.divInt (sg false 5) 6).num = 5 := by rw [Rat.num_divInt]; rfl
  have ed : (Rat.divInt (sg false 5) 6).den = 6 := by rw [Rat.den_divInt]; rfl
  rw [en] at n2
  rw [ed] at d2
  have hn := txt_digit n2 (by decide) (by decide)
  have hd := txt_digit (d2 (by decide)) (by decide) (by decide)
  rw [en', ed, hn, hd] at es
  have es' : s.toList = (⟨#[53, 47, 54]⟩ : ByteArray).toList := by rw [es]; decide +kernel
  refine Ev.step (fun k => isochronelaw02_awake_eq k) (Ev.bind r1 (Ev.bind s1 (Ev.bind (bT rfl (evs _)) (Ev.bind (a := true) (bT rfl ?_) (evs _)))))
  have e3 : (s.toList == (⟨#[53, 47, 54]⟩ : ByteArray).toList) = true := by rw [es']; exact beq_self_eq_true _
  show Ev (fun _ => some (s.toList == (⟨#[53, 47, 54]⟩ : ByteArray).toList)) true
  rw [e3]
  exact evs _
end Go.Proofs.Ytfpolhoabfadnaa.Q
end
section
namespace Go.Proofs.Ytfpolhoabfadnaa.Q
open Go.RowKit Go.Proofs.YtfpolhoabfadnaaW.PrintWords Go.Proofs.YtfpolhoabfadnaaW.PrintMore Go.Proofs.Ytfpolhoabfadnaa.V Go.Proofs.Ytfpolhoabfadnaa.E
open Go.Proofs.Ytfpolhoabfadnaa.P (Dg WW dg_wf)
set_option linter.unusedVariables false
theorem tab_ok : tabOk T = true := by kernel_rfl
theorem mixed : T.P.follows .mixedOrders = true := by kernel_rfl
theorem noGo0 : (Try.prog.funcs.toList.all fun f => f.name != "runtime.NumGoroutine") = true := by kernel_rfl
theorem noGo (f : Nat) (fn : Func) (h : T.P.funcs[f]? = some fn) : fn.name ≠ "runtime.NumGoroutine" := by
  have h1 := List.all_eq_true.1 noGo0 fn (by
    rw [Array.mem_toList_iff]
    exact Array.mem_of_getElem? h)
  simpa using h1
theorem arg_rat {y : RatD} (h : Fine c_api_Rat y) : Arg y := by
  obtain ⟨_, h1, h2, _⟩ := h
  exact ⟨dg_wf h1.2, dg_wf h2.2, trivial, trivial⟩
end Go.Proofs.Ytfpolhoabfadnaa.Q
end
section
namespace Go.Proofs.Ytfpolhoabfadnaa.Q
open Go.RowKit Go.Proofs.YtfpolhoabfadnaaW.PrintWords Go.Proofs.YtfpolhoabfadnaaW.PrintMore Go.Proofs.Ytfpolhoabfadnaa.V Go.Proofs.Ytfpolhoabfadnaa.E
open Go.Proofs.Ytfpolhoabfadnaa.P (Dg Nm vl WW RR TT asc can_uniq gI evs evk evb cmpi WW_pos WW_one RR_pos w64 u64)
set_option linter.unusedVariables false
section
variable {v w : RatD} {p q : Rat} {K L : Nat}
def down (n : Nat) (p : Rat) : Rat := ((p * ((2 ^ n : Int) : Rat)).floor : Rat) / ((2 ^ n : Int) : Rat)
end
end Go.Proofs.Ytfpolhoabfadnaa.Q
end
section
namespace Go.Proofs.Ytfpolhoabfadnaa.Q
open Go.RowKit Go.Proofs.YtfpolhoabfadnaaW.PrintWords Go.Proofs.YtfpolhoabfadnaaW.PrintMore Go.Proofs.Ytfpolhoabfadnaa.V Go.Proofs.Ytfpolhoabfadnaa.E
open Go.Proofs.Ytfpolhoabfadnaa.P (Dg Nm vl WW RR TT asc can_uniq gI evs evk evb cmpi WW_pos WW_one RR_pos w64 u64)
set_option linter.unusedVariables false
section
variable {v w : RatD} {K L : Nat}
theorem bC {α : Type} {c : Bool} {f g : Nat → Option α} {r : α} (h1 : c = true → Ev f r) (h2 : c = false → Ev g r) : Ev (fun k => bif c then f k else g k) r := by cases c with
  | true => exact h1 rfl
  | false => exact h2 rfl
theorem evw {α : Type} {f : Nat → Option α} {r : α} (h : Ev f r := by repeat (first | with_reducible exact evs _ | with_reducible assumption | (with_reducible apply Ev.bind; assumption) | ((with_reducible apply bF); rfl) | ((with_reducible apply bT); rfl) | with_reducible apply Ev.bind | exact evs _)) : Ev f r := h
theorem form2 {s t : Bool} (hs : Ev (fun k => rat_Valid k v) s) (ht : Ev (fun k => rat_Valid k w) t) (h : (s && t) = false) :
    Ev (fun k => rat_Cmp k v w) (0, 3, ()) ∧ Ev (fun k => rat_Add k v w) (nothing, 3, ()) ∧ Ev (fun k => rat_Sub k v w) (nothing, 3, ()) ∧ Ev (fun k => rat_Mul k v w) (nothing, 3, ()) ∧ Ev (fun k => rat_Div k v w) (nothing, 3, ()) ∧ Ev (fun k => rat_Mid k v w) (nothing, 3, ()) ∧ Ev (fun k => rat_Simplest k v w) (nothing, 3, ()) := by
  have hb : Ev (fun k => bif !s then some true else (rat_Valid k w).bind fun (v2 : Bool) => some (!v2)) true := by
    cases s with
    | false => exact bT rfl (evs _)
    | true => cases t with
      | false => exact bF rfl (Ev.bind ht (evs _))
      | true => cases h
  have hc : Ev (fun k => bif s then (rat_Valid k w).bind fun (v2 : Bool) => some v2 else some false) false := by
    cases s with
    | false => exact bF rfl (evs _)
    | true => cases t with
      | false => exact bT rfl (Ev.bind ht (evs _))
      | true => cases h
  refine ⟨Ev.step (fun k => rat_Cmp_eq k v w) evw, Ev.step (fun k => rat_Add_eq k v w) (Ev.bind (a := (nothing, 3, ())) (Ev.step (fun k => rat_pair_num_Add_eq k v w) evw) evw), Ev.step (fun k => rat_Sub_eq k v w) (Ev.bind (a := (nothing, 3, ())) (Ev.step (fun k => rat_pair_num_Sub_eq k v w) evw) evw),
    Ev.step (fun k => rat_Mul_eq k v w) (Ev.bind (a := (nothing, 3, ())) (Ev.step (fun k => rat_pair_num_Mul_eq k v w) evw) evw), Ev.step (fun k => rat_Div_eq k v w) (Ev.bind hs (Ev.bind hc (Ev.bind (bF rfl (evs _)) (bF rfl (Ev.bind (a := (nothing, 3, ())) (Ev.step (fun k => rat_pair_num_Div_eq k v w) evw) evw))))), Ev.step (fun k => rat_Mid_eq k v w) (Ev.bind (a := (nothing, 3, ())) (Ev.step (fun k => rat_pair_num_Mid_eq k v w) evw) evw), Ev.step (fun k => rat_Simplest_eq k v w) evw⟩
theorem form1 (hs : Ev (fun k => rat_Valid k v) false) : Ev (fun k => rat_Sign k v) (0, 3, ()) ∧ Ev (fun k => rat_Neg k v) (nothing, 3, ()) ∧ Ev (fun k => rat_Pow k v 2000) (nothing, 3, ()) ∧ Ev (fun k => rat_Floor k v) (nothing, 3, ()) ∧ Ev (fun k => rat_Down k v (-1)) (nothing, 3, ()) ∧ Ev (fun k => rat_Up k v 1) (nothing, 3, ()) ∧ Ev (fun k => rat_Text k v) ((⟨#[]⟩ : ByteArray), 3, ()) :=
  ⟨Ev.step (fun k => rat_Sign_eq k v) evw, Ev.step (fun k => rat_Neg_eq k v) evw, Ev.step (fun k => rat_Pow_eq k v _) evw, Ev.step (fun k => rat_Floor_eq k v) evw, Ev.step (fun k => rat_Down_eq k v _) (Ev.bind (a := (nothing, 3, ())) (Ev.step (fun k => rat_scaled_num_Floor_eq k v _) evw) evw), Ev.step (fun k => rat_Up_eq k v _) (Ev.bind (a := (nothing, 3, ())) (Ev.step (fun k => rat_scaled_rat_Up_1_eq k v _) evw) evw), Ev.step (fun k => rat_Text_eq k v) evw⟩
theorem same_test {s t : Bool} {P : Prop} (h1 : s = true ↔ P) (h2 : t = true ↔ P) : s = t := Bool.eq_iff_iff.2 (h1.trans h2.symm)
theorem law_RatForms (hv : Arg v) (hw : Arg w) : Ev (fun k => isochronelaw02_RatForms k v w) true := by
  obtain ⟨s, s1, s2⟩ := rat_Valid_sp hv
  obtain ⟨s', s1', s2'⟩ := ref_Valid_sp hv
  obtain rfl := same_test s2 s2'
  obtain ⟨t, t1, t2⟩ := rat_Valid_sp hw
  obtain ⟨t', t1', t2'⟩ := ref_Valid_sp hw
  obtain rfl := same_test t2 t2'
  have h1 := ref_Short_sp v 20
  have h2 := ref_Short_sp w 20
  generalize decide (v.2.1.length ≤ 20 ∧ v.2.2.1.length ≤ 20) = p1 at h1
  generalize decide (w.2.1.length ≤ 20 ∧ w.2.2.1.length ≤ 20) = p2 at h2
  have hn := ref_None_ev
  refine Ev.step (fun k => isochronelaw02_RatForms_eq k v w) <| Ev.bind awake_ev <| bF rfl <| Ev.bind h1 ?_
  refine Ev.bind (a := !(p1 && p2)) (by cases p1 with
    | false => exact bT rfl (evs _)
    | true => exact bF rfl (Ev.bind h2 (by rw [Bool.true_and]; exact evs _))) <| bC (fun _ => evs _) fun _ => Ev.bind s1 <| Ev.bind s1' <| Ev.bind (a := false) (bF (by simp) (Ev.bind t1 (Ev.bind t1' (by simp only [bne_self_eq_false]; exact evs _)))) <| bF rfl <| Ev.bind s1' ?_
  refine Ev.bind (a := s && t) (by cases s with
    | false => exact bF rfl (evs _)
    | true => exact bT rfl (Ev.bind t1' (by rw [Bool.true_and]; exact evs _))) <| bC (fun _ => evs _) fun hst => ?_
  obtain ⟨k1, k2, k3, k4, k5, k6, k7⟩ := form2 s1 t1 hst
  refine Ev.bind k1 <| Ev.bind k2 <| Ev.bind k3 <| Ev.bind k4 <| Ev.bind k5 <| Ev.bind k6 <| Ev.bind k7 <| Ev.bind (a := false) evw <| Ev.bind (a := false) evw <| Ev.bind (a := false) evw <| Ev.bind (a := false) evw <| Ev.bind (a := false) evw <| Ev.bind (a := false) evw <| Ev.bind (a := false) evw <| bF rfl <| Ev.bind hn <| Ev.bind (a := false) evw <| Ev.bind (a := false) evw <| Ev.bind (a := false) evw <| Ev.bind (a := false) evw <| Ev.bind (a := false) evw <| bF rfl <| Ev.bind s1' ?_
  cases s with
  | true => exact bT rfl (evs _)
  | false =>
    obtain ⟨m1, m2, m3, m4, m5, m6, m7⟩ := form1 s1
    exact bF rfl <| Ev.bind m1 <| Ev.bind m2 <| Ev.bind m3 <| Ev.bind m4 <| Ev.bind m5 <| Ev.bind m6 <| Ev.bind m7 <| Ev.bind (a := true) (bT rfl (by simp only [beq_self_eq_true]; exact evs _)) evw
end
end Go.Proofs.Ytfpolhoabfadnaa.Q
end
section
namespace Go.Proofs.Ytfpolhoabfadnaa.ratForms
open Go.ChangeShapes Go.WideShapes Go.ChangeAt Go.RowKit
open Go.ChangeMaps (open_string shut_string)
open Go.Proofs.Ytfpolhoabfadnaa.V Go.Proofs.Ytfpolhoabfadnaa.E
theorem own : ownKnob Try.prog.godebug = none := by kernel_rfl
theorem laidOut : laidOutB Try.prog = true := by kernel_rfl
set_option maxRecDepth 100000 in
theorem lifted (os : Os) (started : os.Started) (H : Type) (enc : TypeId × Value → H) :
    ReturnsInHanded {} Try.checked os 8 .any (Rows.ratFormsSpec.pre6 enc Try.prog Try.f8 Rows.ratFormsRow.domain false) (Rows.ratFormsSpec.post enc Try.prog Try.f8 false true false false) := by
  refine returnsInHanded_of_change_sized (C := Try.checked) own started (by kernel_rfl) Try.func8
    (ChangeSpec.witness6 (enc := enc) (C := Try.checked) false ⟨#[], #[.agg #[.bool false, .slice none 0 0, .slice none 0 0], .agg #[.bool false, .slice none 0 0, .slice none 0 0]], []⟩ 8 (by kernel_rfl) (by kernel_rfl) (by kernel_rfl) (by kernel_rfl)) ?_
  intro W base args ds gs before hval0 hW hcnd hsz0 _
  have hval : ∀ (j : Nat) t v, Try.f8.params[j]? = some t → args[j]? = some v → Value.okWide Try.prog W .any base t v := hval0
  have hW' := hW
  obtain ⟨p, q, hA0, hV, rfl, hfz, hnd⟩ := hW
  have hA : DataW.TrodAll enc Try.prog W 0 (fun _ => true) true Try.f8.params.toList args.toList ds p := hA0
  rw [Try.params8] at hA hval
  obtain ⟨v0, vs0, d0, ds0, p0, q0, hargs, rfl, rfl, h0, r0⟩ := trodAll_cons hA
  obtain ⟨v1, vs1, d1, ds1, p1, q1, rfl, rfl, rfl, h1, r1⟩ := trodAll_cons r0
  obtain ⟨rfl, rfl, rfl⟩ := trodAll_nil r1
  obtain rfl : args = #[v0, v1] := by cases args; simp_all
  obtain ⟨rfl, rfl⟩ := trodVars_none hV
  have k0 := h0
  have lt0 : ∀ x ∈ p0, x.block < W.heap.size := by obtain ⟨m, hm⟩ := k0; exact DataW.trod_lt m _ _ _ hm
  obtain ⟨y0, f0, g0⟩ := arg_den Q.tab_ok (n := 8) (t := 25) (c := c_api_Rat) (by kernel_rfl) (by kernel_rfl) (hval 0 25 v0 rfl rfl) h0
  have k1 := h1
  have lt1 : ∀ x ∈ p1, x.block < W.heap.size := by obtain ⟨m, hm⟩ := k1; exact DataW.trod_lt m _ _ _ hm
  obtain ⟨y1, f1, g1⟩ := arg_den Q.tab_ok (n := 8) (t := 25) (c := c_api_Rat) (by kernel_rfl) (by kernel_rfl) (hval 1 25 v1 rfl rfl) h1
  clear hA0 hval0 hsz0
  obtain ⟨k, hk⟩ := (Q.law_RatForms (Q.arg_rat f0) (Q.arg_rat f1)).rounds
  obtain ⟨_, pv, hp, hF⟩ := (fn_sound Q.tab_ok orc_ok Q.mixed Q.noGo k).fn 8 [.v c_api_Rat y0, .v c_api_Rat y1] true rfl hk
  obtain rfl := Option.some.inj hp
  refine (hF (fun b => b < W.heap.size) W #[v0, v1] (fun b h => h) rfl (fun i h => ?_)).mono fun e W' ⟨v, he, bel, hv⟩ => ?_
  · match i, h with
    | 0, h => exact g0
    | 1, h => exact g1
    | i + 2, h => exact absurd h (by simp only [List.length_map, List.length_cons, List.length_nil]; omega)
  · have hb := vrel_lit hv
    subst hb
    subst he
    exact ⟨_, rfl, _, _, _, [], _, [], hW', trodAll_mk1 (shut_bool Try.underlying4 _), (trodAll_cons_mk (Below.trod laidOut (by kernel_rfl) (of_decide_eq_true (by kernel_rfl)) k0 bel lt0) (trodAll_cons_mk (Below.trod laidOut (by kernel_rfl) (of_decide_eq_true (by kernel_rfl)) k1 bel lt1) trodAll_mk0)), rfl, bel.frame _, fun h => by cases h⟩
theorem over : Rows.ratFormsRow.holds Try.pinned (OpenSpec.ofChange Rows.ratFormsSpec) :=
  OpenClaim.holds_of_wide 8 Try.f8 rfl rfl rfl rfl rfl rfl rfl ⟨rfl, rfl, rfl, rfl, rfl⟩ rfl rfl rfl rfl rfl (by kernel_rfl) Try.func8 (by kernel_rfl)
    (of_decide_eq_true (by kernel_rfl)) (by unfold Func.isWrapper; first | (rw [if_pos (by decide +kernel)]; kernel_rfl) | (rw [if_neg (by decide +kernel)]; exact ⟨rfl, rfl⟩))
    (fun os started H enc _ => lifted os started H enc)
theorem proved : Rows.RatFormsSaid := over
#print axioms proved
end Go.Proofs.Ytfpolhoabfadnaa.ratForms
namespace Go.Proofs.Ytfpolhoabfadnaa
theorem ratForms_holds : Rows.RatFormsSaid := ratForms.proved
end Go.Proofs.Ytfpolhoabfadnaa
end
