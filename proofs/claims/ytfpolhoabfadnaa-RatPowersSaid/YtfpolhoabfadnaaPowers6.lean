/- RatPowers: powers, for negative exponents the inverse ones, and what is refused (the last of 6 texts). No condition beyond the statement's own. -/
import Derived.Lib.Bytes
import Derived.SizedLaws
import Derived.ChangeSlices
import Derived.Test.YtfpolhoabfadnaaRows
import Derived.WalkKit
import Derived.ProofKit
import Derived.OpenShut
import Derived.ShutString
import Derived.ChangeOld
import Derived.Below
import Derived.KernelRfl
import Derived.Test.YtfpolhoabfadnaaPowers5
set_option linter.unusedSimpArgs false
section
namespace Go.Proofs.Ytfpolhoabfadnaa.P
open Go.RowKit Go.Proofs.YtfpolhoabfadnaaW.PrintWords Go.Proofs.YtfpolhoabfadnaaW.PrintLast Go.Proofs.YtfpolhoabfadnaaW.PrintMore
set_option linter.unusedVariables false
abbrev TT : Int := 10
theorem TT_one : (1 : Int) < TT := by decide
theorem TT_eq : TT = 10 := rfl
abbrev BB9 : Int := 1000000000
theorem BB9_pos : (0 : Int) < BB9 := by decide
theorem BB9_eq : BB9 = 1000000000 := rfl
def asc (D : List Int) : List Int := D.reverse.map (· + 48)
theorem asc_append (a b : List Int) : asc (a ++ b) = asc b ++ asc a := by simp [asc]
theorem asc_len (D : List Int) : (asc D).length = D.length := by simp [asc]
theorem rev_ev (a : List Int) (hn : a.length < 4611686018427387904) (d : Nat) : ∀ (i : Nat) (o : List Int), a.length - i = d → i ≤ a.length → o.length = a.length → (∀ p : Nat, p < a.length → rd o (p : Int) = if p < i ∨ a.length ≤ p + i then rd a ((a.length - 1 - p : Nat) : Int) else rd a (p : Int)) →
    Ev (fun k => nat_digits.l1 k o (i : Int) ((a.length : Int) - 1 - (i : Int))) a.reverse := by
  induction d with
  | zero =>
    intro i o h1 h2 h3 h4
    have e : o = a.reverse := by
      apply List.ext_getElem
      · simp [h3]
      · intro p p1 p2
        have h := h4 p (by omega)
        rw [if_pos (by omega), rd_lt o p p1, rd_lt a _ (by omega)] at h
        rw [h, List.getElem_reverse]
    subst e
    refine Ev.step (fun k => by rw [nat_digits.l1]) ?_
    exact evn (by omega) (evs _)
  | succ d ih =>
    intro i o h1 h2 h3 h4
    by_cases c : 2 * i + 1 < a.length
    · have hk : (a.length : Int) - 1 - (i : Int) = ((a.length - 1 - i : Nat) : Int) := by omega
      have gi := h4 i (by omega)
      have gk := h4 (a.length - 1 - i) (by omega)
      rw [if_neg (by omega)] at gi
      rw [if_neg (by omega)] at gk
      refine Ev.step (fun k => by rw [nat_digits.l1]) ?_
      rw [hk, gi, gk, wsucc (i := i) (by omega), w64 (x := ((a.length - 1 - i : Nat) : Int) - 1) (by omega) (by omega)]
      refine evp (by omega) (evp (by omega) (evp (by omega) (evp (by omega) (evp (by omega) ?_))))
      have e : ((a.length - 1 - i : Nat) : Int) - 1 = (a.length : Int) - 1 - ((i + 1 : Nat) : Int) := by omega
      rw [e]
      refine ih (i + 1) _ (by omega) (by omega) (by simpa using h3) ?_
      intro p hp
      by_cases p1 : p = a.length - 1 - i
      · subst p1
        rw [rd_set_eq _ _ _ (by simp; omega), if_pos (by omega), show a.length - 1 - (a.length - 1 - i) = i by omega]
      · rw [rd_set_ne _ _ _ _ (by omega)]
        by_cases p2 : p = i
        · subst p2
          rw [rd_set_eq _ _ _ (by omega), if_pos (by omega)]
        · rw [rd_set_ne _ _ _ _ (by omega), h4 p hp]
          by_cases p3 : p < i ∨ a.length ≤ p + i
          · rw [if_pos p3, if_pos (by omega)]
          · rw [if_neg p3, if_neg (by omega)]
    · have e : o = a.reverse := by
        apply List.ext_getElem
        · simp [h3]
        · intro p p1 p2
          have h := h4 p (by omega)
          rw [List.getElem_reverse, ← rd_lt o p p1, h, ← rd_lt a (a.length - 1 - p) (by omega)]
          split
          · rfl
          · congr 1
            omega
      subst e
      refine Ev.step (fun k => by rw [nat_digits.l1]) ?_
      exact evn (by omega) (evs _)
theorem nm_snoc' (l : List Int) (x : Int) (h : x ≠ 0) : Nm (l ++ [x]) := fun h' => by rw [getLast_snoc]; exact h
theorem alg_dg {vo c P n v c' R : Int} (h : vo + c * P = n) (h2 : v + R * c' = c) : vo + v * P + c' * (R * P) = n := by grind
theorem nat_digits_ev {x : Int} (hx : 0 ≤ x ∧ x < 9223372036854775808) {m : Nat} (hm : m ≤ 20) (c : Nat) : ∀ (z : Int) (D : List Int), z.toNat + (m - D.length) < c → 0 ≤ z → z < 9223372036854775808 → D.length ≤ 64 → (0 < z → z * 10 ^ D.length ≤ x) → Dg TT D → vl TT D + z * TT ^ D.length = x → (z = 0 → m = 0 → Nm D) → (x < 10 ^ m → D.length ≤ m) →
    ∃ D', Ev (fun k => nat_digits.l0 k z (m : Int) (D.map (· + 48))) (asc D') ∧ Dg TT D' ∧ vl TT D' = x ∧ (m = 0 → Nm D') ∧ (x < 10 ^ m → D'.length = m) := by
  induction c with
  | zero => intro z D h; exact absurd h (Nat.not_lt_zero _)
  | succ c ih =>
    intro z D h1 h2 h3 h4 h5 h6 h7 h8 h9
    have hlen : (D.map (· + 48)).length = D.length := by simp
    have more : (z > 0 ∨ D.length < m) → ∃ D', Ev (fun k => nat_digits.l0 k (IntKind.u64.wrap (Int.tdiv z 10)) (m : Int) (D.map (· + 48) ++ [(IntKind.u64.wrap (48 + (Int.tmod z 10))) % 256])) (asc D') ∧ Dg TT D' ∧ vl TT D' = x ∧ (m = 0 → Nm D') ∧ (x < 10 ^ m → D'.length = m) := by
      intro hc
      have e0 : (48 + z % 10) % 256 = z % 10 + 48 := by omega
      have e1 : D.map (· + 48) ++ [(IntKind.u64.wrap (48 + (Int.tmod z 10))) % 256] = (D ++ [z % 10]).map (· + 48) := by
        rw [tmod_nn h2, u64 (x := 48 + z % 10) (by omega) (by omega), e0, List.map_append]
        rfl
      rw [e1, tdiv_nn h2, u64 (x := z / 10) (by omega) (by omega)]
      have hl : (D ++ [z % 10]).length = D.length + 1 := by simp
      have hlt : D.length < 20 := by
        rcases hc with hc | hc
        · rcases Nat.lt_or_ge D.length 20 with q | q
          · exact q
          · exfalso
            have a1 := h5 hc
            have a2 : (10 : Int) ^ 20 ≤ 10 ^ D.length := pow_le (by decide) q
            have a3 : (1 : Int) * 10 ^ D.length ≤ z * 10 ^ D.length := Int.mul_le_mul_of_nonneg_right (by omega) (by omega)
            omega
        · omega
      refine ih (z / 10) (D ++ [z % 10]) ?_ (by omega) (by omega) (by omega) ?_ (h6.append (Dg.mk (by omega) (by rw [TT_eq]; omega) (Dg.nil _))) ?_ ?_ ?_
      · rw [hl]
        rcases hc with hc | hc <;> omega
      · intro hz
        have a1 := h5 (by omega)
        rw [hl, Int.pow_succ]
        have a2 : (0 : Int) < 10 ^ D.length := Int.pow_pos (by decide)
        have a3 : (z / 10 * 10) * 10 ^ D.length ≤ z * 10 ^ D.length := Int.mul_le_mul_of_nonneg_right (by omega) (by omega)
        have a4 : z / 10 * (10 ^ D.length * 10) = (z / 10 * 10) * 10 ^ D.length := by grind
        omega
      · rw [vl_snoc, hl, Int.pow_succ, Int.mul_comm (TT ^ D.length) TT]
        exact alg_dg h7 (by rw [TT_eq]; omega)
      · intro hz hm0
        refine nm_snoc' _ _ ?_
        rcases hc with hc | hc <;> omega
      · intro hxm
        rw [hl]
        rcases hc with hc | hc
        · have a1 := h5 hc
          rcases Nat.lt_or_ge D.length m with q | q
          · omega
          · exfalso
            have a2 : (10 : Int) ^ m ≤ 10 ^ D.length := pow_le (by decide) q
            have a3 : (1 : Int) * 10 ^ D.length ≤ z * 10 ^ D.length := Int.mul_le_mul_of_nonneg_right (by omega) (Int.le_of_lt (Int.pow_pos (by decide)))
            omega
        · omega
    by_cases c1 : z > 0
    · obtain ⟨D', d1, d2⟩ := more (.inl c1)
      refine ⟨D', ?_, d2⟩
      refine Ev.step (fun k => by rw [nat_digits.l0]) ?_
      exact evp c1 (evp (by omega) d1)
    · by_cases c2 : D.length < m
      · obtain ⟨D', d1, d2⟩ := more (.inr c2)
        refine ⟨D', ?_, d2⟩
        refine Ev.step (fun k => by rw [nat_digits.l0]) ?_
        exact evn c1 (evp (by omega) (evp (by omega) d1))
      · have ez : z = 0 := by omega
        subst ez
        rw [Int.zero_mul, Int.add_zero] at h7
        refine ⟨D, ?_, h6, h7, h8 rfl, fun h => by have := h9 h; omega⟩
        refine Ev.step (fun k => by rw [nat_digits.l0]) ?_
        rw [w64 (x := ((D.map (· + 48)).length : Int) - 1) (by omega) (by omega)]
        refine evn c1 (evn (by omega) ?_)
        have := rev_ev (D.map (· + 48)) (by omega) _ 0 (D.map (· + 48)) rfl (by omega) rfl (fun p hp => by rw [if_neg (by omega)])
        rw [← List.map_reverse] at this
        simpa [asc] using this
end Go.Proofs.Ytfpolhoabfadnaa.P
end
section
namespace Go.Proofs.Ytfpolhoabfadnaa.P
open Go.RowKit Go.Proofs.YtfpolhoabfadnaaW.PrintWords Go.Proofs.YtfpolhoabfadnaaW.PrintLast Go.Proofs.YtfpolhoabfadnaaW.PrintMore
set_option linter.unusedVariables false
theorem nat_digits_sp {x : Int} (hx : 0 ≤ x ∧ x < 9223372036854775808) {m : Nat} (hm : m ≤ 20) :
    ∃ D, Ev (fun k => nat_digits.f k x (m : Int)) (asc D) ∧ Dg TT D ∧ vl TT D = x ∧ (m = 0 → Nm D) ∧ (x < 10 ^ m → D.length = m) := by
  obtain ⟨D, d1, d2⟩ := nat_digits_ev hx hm _ x [] (Nat.lt_succ_self _) hx.1 hx.2 (by simp) (fun _ => by simp) (Dg.nil _) (by simp [vl]) (fun _ _ => Nm.nil) (fun _ => by simp)
  exact ⟨D, by unfold nat_digits.f; exact d1, d2⟩
theorem mag_Small_sp {r : List Int} {v : Int} (hr : Can WW r v) (hv : v < 4294967296) : mag_Small.f r = some (v, true) := by
  have hl := hr.len_le (k := 1) WW_one (by rw [show WW ^ 1 = 4294967296 from rfl]; exact hv)
  unfold mag_Small.f
  by_cases c : r.length = 0
  · rw [(hr.len_iff WW_pos).1 c, if_pos (by omega)]
  · have e := last_vl (a := r) (by omega)
    have h1 : r.length = 1 := by omega
    rw [hr.2.2, h1] at e
    have e2 : v = rd r 0 := by simpa [vl] using e
    have := hr.nonneg WW_pos
    rw [if_neg (by omega), if_pos (by omega), if_pos (by omega), ← e2, u64 (x := v) (by omega) (by omega)]
theorem cpy9 {t : List Int} (h : t.length = 9) : cpy (List.replicate 9 0) t = t := by
  unfold cpy
  rw [List.length_replicate, h, Nat.min_self, ← h, List.take_length, List.drop_eq_nil_of_le (by simp), List.append_nil]
theorem nm_app {a b : List Int} (h : Nm b) (hb : b ≠ []) : Nm (a ++ b) := fun h' => by
  rw [List.getLast_append_of_ne_nil _ hb]
  exact h hb
theorem nat_Text_l1 {P : List Int} (hl : P.length ≤ 64) (hP : Dg BB9 P) (d : Nat) : ∀ (i : Nat) (D : List Int), i = d → i < P.length → Can TT D (vl BB9 (P.drop i)) → D ≠ [] → D.length + 9 * i ≤ 9 * P.length →
    ∃ D', Ev (fun k => nat_Text.l1 k P (asc D) ((i : Int) - 1)) (strOfNums (asc D'), 0) ∧ Can TT D' (vl BB9 P) ∧ D' ≠ [] ∧ D'.length ≤ 9 * P.length := by
  induction d with
  | zero =>
    rintro i D rfl h1 h2 h3 h4
    refine ⟨D, ?_, by simpa using h2, h3, by omega⟩
    refine Ev.step (fun k => by rw [nat_Text.l1]) ?_
    exact evn (by omega) (evs _)
  | succ d ih =>
    rintro i D rfl h1 h2 h3 h4
    have hx := dg_rd hP (d : Int) (by omega) (by omega)
    rw [BB9_eq] at hx
    obtain ⟨N, n1, n2, n3, n4, n5⟩ := nat_digits_sp (x := rd P (d : Int)) ⟨hx.1, by omega⟩ (m := 9) (by omega)
    have ln := n5 (by omega)
    have hv : vl TT (N ++ D) = vl BB9 (P.drop d) := by
      rw [vl_append, ln, n3, h2.2.2, drop_rd P d (by omega), vl]
      rfl
    have hne : N ++ D ≠ [] := by simp [h3]
    obtain ⟨D', d1, d2⟩ := ih d (N ++ D) rfl (by omega) ⟨n2.append h2.1, nm_app h2.2.1 h3, hv⟩ hne (by rw [List.length_append]; omega)
    refine ⟨D', ?_, d2⟩
    refine Ev.step (fun k => by rw [nat_Text.l1]) ?_
    have lc : (asc N).length = 9 := by rw [asc_len, ln]
    rw [show (((d + 1 : Nat) : Int) - 1) = (d : Int) by omega, w64 (x := (d : Int) - 1) (by omega) (by omega)]
    refine evp (by omega) (evp (by omega) (evp (by omega) (evp (by omega) (Ev.bind n1 (evb rfl ?_)))))
    rw [cpy9 lc, ← asc_append]
    exact evp (by rw [asc_len, asc_len]; omega) d1
theorem alg_tx {vo c P n v c' R : Int} (h : vo + c * P = n) (h2 : v + R * c' = c) : vo + v * P + c' * (R * P) = n := by grind
theorem nat_Text_l0 {n : Int} (hn : 0 < n) (hnW : n < WW ^ 40) {b : List Int} (hb : Can WW b 1000000000) (c : Nat) : ∀ (m : Int) (a P : List Int), m.toNat < c → a.length ≤ 4096 → Can WW a m → Dg BB9 P → vl BB9 P + m * BB9 ^ P.length = n → (m = 0 → Nm P) → (m = 0 → P.length ≤ 46) →
    ∃ D, Ev (fun k => nat_Text.l0 k a P b) (strOfNums (asc D), 0) ∧ Can TT D n ∧ D ≠ [] ∧ D.length ≤ 576 := by
  induction c with
  | zero => intro m a P h; exact absurd h (Nat.not_lt_zero _)
  | succ c ih =>
    intro m a P h1 h2 h3 h4 h5 h6 h7
    have m0 := h3.nonneg WW_pos
    have hp : (0 : Int) < BB9 ^ P.length := pow_pos' BB9_pos _
    by_cases c1 : a.length = 0
    · have em := (h3.len_iff WW_pos).1 c1
      subst em
      rw [Int.zero_mul, Int.add_zero] at h5
      have hl := h7 rfl
      have hne : P.length ≠ 0 := by
        intro h0
        rw [List.length_eq_zero_iff.1 h0, vl] at h5
        omega
      have hx := dg_rd h4 ((P.length : Int) - 1) (by omega) (by omega)
      have hz := (h6 rfl).rd (by omega)
      rw [BB9_eq] at hx
      obtain ⟨N, n1, n2, n3, n4, n5⟩ := nat_digits_sp (x := rd P ((P.length : Int) - 1)) ⟨hx.1, by omega⟩ (m := 0) (by omega)
      have hN : N ≠ [] := by
        intro h
        rw [h, vl] at n3
        exact hz n3.symm
      have cn : Can TT N (rd P ((P.length : Int) - 1)) := ⟨n2, n4 rfl, n3⟩
      have ln : N.length ≤ 9 := cn.len_le TT_one (by rw [show TT ^ 9 = 1000000000 from rfl]; exact hx.2)
      have e1 : vl BB9 (P.drop (P.length - 1)) = rd P ((P.length : Int) - 1) := by
        rw [drop_rd P (P.length - 1) (by omega), vl, List.drop_eq_nil_of_le (by omega), vl, show ((P.length - 1 : Nat) : Int) = (P.length : Int) - 1 by omega]
        omega
      obtain ⟨D', d1, d2, d3, d4⟩ := nat_Text_l1 (by omega) h4 (P.length - 1) (P.length - 1) N rfl (by omega) (by rw [e1]; exact cn) hN (by omega)
      rw [h5] at d2
      refine ⟨D', ?_, d2, d3, by omega⟩
      refine Ev.step (fun k => by rw [nat_Text.l0]) ?_
      rw [w64 (x := (P.length : Int) - 1) (by omega) (by omega), w64 (x := (P.length : Int) - 2) (by omega) (by omega)]
      refine evn (by omega) (evp (by omega) (evp (by omega) (Ev.bind n1 ?_)))
      rw [show (P.length : Int) - 2 = ((P.length - 1 : Nat) : Int) - 1 by omega]
      exact d1
    · have hm : m ≠ 0 := fun h => c1 ((h3.len_iff WW_pos).2 h)
      have hlP : P.length ≤ 45 := by
        rcases Nat.lt_or_ge P.length 46 with q | q
        · omega
        · exfalso
          have a1 : BB9 ^ 46 ≤ BB9 ^ P.length := pow_le (by decide) q
          have a2 : (1 : Int) * BB9 ^ P.length ≤ m * BB9 ^ P.length := Int.mul_le_mul_of_nonneg_right (by omega) (by omega)
          have a3 := vl_nonneg BB9_pos h4
          have a4 : WW ^ 40 < BB9 ^ 46 := by decide
          omega
      obtain ⟨q, r, q1, q2, q3⟩ := mag_DivMod_sp (by omega) h3 hb (by omega)
      have r0 := Int.emod_nonneg m (show (1000000000 : Int) ≠ 0 by omega)
      have r1 := Int.emod_lt_of_pos m (show (0 : Int) < 1000000000 by omega)
      have hs := mag_Small_sp q3 (by omega)
      have lq := can_len_le h3 q2 (by omega)
      obtain ⟨D, d1, d2⟩ := ih (m / 1000000000) q (P ++ [m % 1000000000]) (by omega) (by omega) q2 (h4.append (Dg.mk r0 (by rw [BB9_eq]; exact r1) (Dg.nil _)))
        (by
          rw [vl_snoc, List.length_append, List.length_singleton, Int.pow_succ, Int.mul_comm (BB9 ^ P.length) BB9]
          exact alg_tx h5 (by rw [BB9_eq]; omega))
        (fun h => nm_snoc' _ _ (by omega)) (fun _ => by simp; omega)
      refine ⟨D, ?_, d2⟩
      refine Ev.step (fun k => by rw [nat_Text.l0]) ?_
      exact evp (by omega) (Ev.bind q1 (evb hs (evp (by omega) d1)))
theorem nat_Text_sp {a : List Int} {n : Int} (hl : a.length ≤ 40) (ha : Can WW a n) (hn : 0 < n) : ∃ D, Ev (fun k => nat_Text.f k a) (strOfNums (asc D), 0) ∧ Can TT D n ∧ D ≠ [] ∧ D.length ≤ 576 := by
  have hlt : n < WW ^ 40 := Int.lt_of_lt_of_le (ha.lt WW_pos) (pow_le (by decide) hl)
  have hc : a.length ≠ 0 := fun h => by have := (ha.len_iff WW_pos).1 h; omega
  obtain ⟨b, b1, b2⟩ := mag_From_sp (a := 1000000000) (by omega) (by omega)
  obtain ⟨D, d1, d2⟩ := nat_Text_l0 hn hlt b2 _ n a [] (Nat.lt_succ_self _) (by omega) ha (Dg.nil _) (by simp [vl]) (fun h => by omega) (fun h => by omega)
  refine ⟨D, ?_, d2⟩
  unfold nat_Text.f
  exact evb (nat_valid (by omega) ha.2.1) (evp rfl (evn (by omega) (Ev.bind b1 d1)))
end Go.Proofs.Ytfpolhoabfadnaa.P
end
section
namespace Go.Proofs.Ytfpolhoabfadnaa.P
open Go.RowKit Go.Proofs.YtfpolhoabfadnaaW.PrintWords Go.Proofs.YtfpolhoabfadnaaW.PrintLast Go.Proofs.YtfpolhoabfadnaaW.PrintMore
set_option linter.unusedVariables false
def Dig (s : ByteArray) (i : Nat) : Prop := 48 ≤ bt s (i : Int) ∧ bt s (i : Int) ≤ 57
def sv (s : ByteArray) : Nat → Int
  | 0 => 0
  | i + 1 => sv s i * 10 + (bt s (i : Int) - 48)
end Go.Proofs.Ytfpolhoabfadnaa.P
end
section
namespace Go.Proofs.Ytfpolhoabfadnaa.P
open Go.RowKit Go.Proofs.YtfpolhoabfadnaaW.PrintWords Go.Proofs.YtfpolhoabfadnaaW.PrintLast Go.Proofs.YtfpolhoabfadnaaW.PrintMore
set_option linter.unusedVariables false
theorem shr_i64 {x : Int} {c : Nat} (hc : c ≤ 63) : shr .i64 x (c : Int) = x / 2 ^ c := by
  have hm : min c IntKind.i64.bits = c := by
    have : IntKind.i64.bits = 64 := rfl
    omega
  unfold shr
  rw [Int.toNat_natCast, hm]
theorem and1 {x : Int} (h0 : 0 ≤ x) (h1 : x < 4294967296) : Go.bits .and .i64 x 1 = x % 2 :=
  bits_mask .i64 32 (by decide) (fun n h0 h1 => by rw [IntKind.wrap_i64]; omega) 1 (by decide) x h0 h1
theorem r_Pow_ev {a : List Int} {v : Int} (hl : a.length ≤ 16) (ha : Can RR a v) (N : Nat) (hN : N ≤ 1000) (d : Nat) : ∀ (i : Nat) (o : List Int), N - i = d → i ≤ N → Can RR o (v ^ i) → o.length ≤ 16 * i + 1 →
    ∃ r, Ev (fun k => isochroneref01_Pow.l0 k a o (N : Int) (i : Int)) r ∧ Can RR r (v ^ N) ∧ r.length ≤ 16 * N + 1 := by
  induction d with
  | zero =>
    intro i o h1 h2 h3 h4
    have e : i = N := by omega
    subst e
    refine ⟨o, ?_, h3, h4⟩
    refine Ev.step (fun k => by rw [isochroneref01_Pow.l0]) ?_
    exact evn (by omega) (evs _)
  | succ d ih =>
    intro i o h1 h2 h3 h4
    obtain ⟨p, p1, p2, p3⟩ := r_Mul_sp (by omega) h3 ha
    rw [← Int.pow_succ] at p2
    obtain ⟨r, r1, r2⟩ := ih (i + 1) p (by omega) (by omega) p2 (by omega)
    refine ⟨r, ?_, r2⟩
    refine Ev.step (fun k => by rw [isochroneref01_Pow.l0]) ?_
    rw [wsucc (i := i) (by omega)]
    exact evp (by omega) (Ev.bind p1 r1)
theorem r_Pow_sp {a : List Int} {v : Int} (hl : a.length ≤ 16) (ha : Can RR a v) (N : Nat) (hN : N ≤ 1000) : ∃ r, Ev (fun k => isochroneref01_Pow.f k a (N : Int)) r ∧ Can RR r (v ^ N) ∧ r.length ≤ 16 * N + 1 := by
  obtain ⟨r, r1, r2⟩ := r_Pow_ev hl ha N hN N 0 [1] (by omega) (by omega) (by rw [Int.pow_zero]; exact ⟨Dg.mk (by decide) (by decide) (Dg.nil _), fun h => by simp, by decide⟩) (by simp)
  exact ⟨r, by unfold isochroneref01_Pow.f; exact r1, r2⟩
end Go.Proofs.Ytfpolhoabfadnaa.P
end
section
namespace Go.Proofs.Ytfpolhoabfadnaa.Q
open Go.RowKit Go.Proofs.YtfpolhoabfadnaaW.PrintWords Go.Proofs.YtfpolhoabfadnaaW.PrintMore Go.Proofs.Ytfpolhoabfadnaa.V Go.Proofs.Ytfpolhoabfadnaa.E
open Go.Proofs.Ytfpolhoabfadnaa.P (Dg Nm vl WW RR can_uniq gI evs evk evb cmpi WW_pos WW_one)
set_option linter.unusedVariables false
theorem bT {α : Type} {c : Bool} {f g : Nat → Option α} {r : α} (hc : c = true) (h : Ev f r) : Ev (fun k => bif c then f k else g k) r := by subst hc; exact h
theorem bF {α : Type} {c : Bool} {f g : Nat → Option α} {r : α} (hc : c = false) (h : Ev g r) : Ev (fun k => bif c then f k else g k) r := by subst hc; exact h
theorem iT {α : Type} {c : Prop} [Decidable c] {f : Nat → Option α} {r : α} (hc : c) (h : Ev f r) : Ev (fun k => if c then f k else none) r := by simpa only [if_pos hc] using h
theorem evmap {α β : Type} {f : Nat → Option α} {g : α → β} {r : α} (h : Ev f r) : Ev (fun k => (f k).map g) (g r) := by
  obtain ⟨K, h⟩ := h
  exact ⟨K, fun k hk => by simp only [h k hk, Option.map_some]⟩
def sg (s : Bool) (x : Int) : Int := if s then -x else x
def RB (B : Int) (v : RatD) (q : Rat) : Prop := v.1 = decide (q.num < 0) ∧ P.Can B v.2.1 (q.num.natAbs : Int) ∧ P.Can B v.2.2.1 (q.den : Int)
theorem can1 {B : Int} (h : 1 < B) : P.Can B [1] 1 := ⟨Dg.mk (by decide) h (Dg.nil _), fun h => by simp, by simp [vl]⟩
theorem rb_zero {B : Int} (h : 1 < B) : RB B (false, [], [1], ()) 0 := ⟨rfl, P.Can.zero B, can1 h⟩
theorem rb_one {B : Int} (h : 1 < B) : RB B (false, [1], [1], ()) 1 := ⟨rfl, can1 h, can1 h⟩
theorem rb_uniq {B : Int} (hB : 0 < B) {v w : RatD} {q : Rat} (hv : RB B v q) (hw : RB B w q) : v = w := by
  obtain ⟨a, b, c, d⟩ := v
  obtain ⟨a', b', c', d'⟩ := w
  obtain ⟨h1, h2, h3⟩ := hv
  obtain ⟨g1, g2, g3⟩ := hw
  have e1 : a = a' := h1.trans g1.symm
  have e2 : b = b' := can_uniq hB h2 g2
  have e3 : c = c' := can_uniq hB h3 g3
  subst e1 e2 e3
  rfl
theorem gI_swap (x y : Int) : ((y.gcd x : Nat) : Int) = gI x y := by unfold gI; rw [Int.gcd_comm]
theorem rb_frac {B : Int} {s : Bool} {l d : List Int} {x y : Int} (hx : 0 < x) (hy : 0 < y) (hl : P.Can B l (x / gI x y)) (hd : P.Can B d (y / gI x y)) : RB B (s, l, d, ()) (Rat.divInt (sg s x) y) := by
  have hg : 0 < gI x y := by
    unfold gI
    have := Int.gcd_pos_of_ne_zero_left y (show x ≠ 0 by omega)
    omega
  have hgx : gI x y ∣ x := Int.gcd_dvd_left ..
  have hgy : gI x y ∣ y := Int.gcd_dvd_right ..
  have hq : 0 < x / gI x y := Int.ediv_pos_of_pos_of_dvd hx (by omega) hgx
  have hr : 0 < y / gI x y := Int.ediv_pos_of_pos_of_dvd hy (by omega) hgy
  have hsg : ((y.gcd (sg s x) : Nat) : Int) = gI x y := by
    unfold sg
    cases s with
    | true => simp only [if_true, Int.gcd_neg]; exact gI_swap x y
    | false => exact gI_swap x y
  have hnum : (Rat.divInt (sg s x) y).num = sg s (x / gI x y) := by
    rw [Rat.num_divInt, hsg, Int.sign_eq_one_of_pos hy, Int.one_mul]
    unfold sg
    cases s with
    | true => simp only [if_true]; exact Int.neg_ediv_of_dvd hgx
    | false => rfl
  have hden : ((Rat.divInt (sg s x) y).den : Int) = y / gI x y := by
    rw [Rat.den_divInt, if_neg (by omega), Int.natCast_ediv, hsg]
    congr 1
    omega
  refine ⟨?_, ?_, ?_⟩
  · show s = _
    rw [hnum]
    unfold sg
    cases s with
    | true => simp only [if_true]; exact (decide_eq_true (by omega)).symm
    | false => exact (decide_eq_false (by simp; omega)).symm
  · show P.Can B l _
    rw [hnum]
    have : ((sg s (x / gI x y)).natAbs : Int) = x / gI x y := by
      unfold sg
      cases s with
      | true => simp only [if_true]; omega
      | false => simp; omega
    rw [this]
    exact hl
  · show P.Can B d _
    rw [hden]
    exact hd
theorem frac_zero (s : Bool) (y : Int) : Rat.divInt (sg s 0) y = 0 := by unfold sg; cases s <;> simp
theorem sg_val {B : Int} {v : RatD} {q : Rat} (h : RB B v q) : sg v.1 q.num.natAbs = q.num := by
  unfold sg
  rw [h.1]
  by_cases c : q.num < 0
  · rw [if_pos (decide_eq_true c)]; omega
  · rw [if_neg (by simpa using c)]; omega
theorem den_pos' (q : Rat) : (0 : Int) < q.den := by have := q.den_pos; omega
def Sz (B : Int) (K : Nat) (q : Rat) : Prop := (q.num.natAbs : Int) < B ^ K ∧ (q.den : Int) < B ^ K
theorem sz_of {B : Int} (hB : 0 < B) {v : RatD} {q : Rat} (h : RB B v q) {K : Nat} (h1 : v.2.1.length ≤ K) (h2 : v.2.2.1.length ≤ K) : Sz B K q :=
  ⟨Int.lt_of_lt_of_le (h.2.1.lt hB) (P.pow_le (by omega) h1), Int.lt_of_lt_of_le (h.2.2.lt hB) (P.pow_le (by omega) h2)⟩
theorem sz_len {B : Int} (hB : 1 < B) {v : RatD} {q : Rat} (h : RB B v q) {K : Nat} (hs : Sz B K q) : v.2.1.length ≤ K ∧ v.2.2.1.length ≤ K := ⟨h.2.1.len_le hB hs.1, h.2.2.len_le hB hs.2⟩
theorem sz_mono {B : Int} (hB : 0 < B) {q : Rat} {K L : Nat} (hs : Sz B K q) (h : K ≤ L) : Sz B L q := ⟨Int.lt_of_lt_of_le hs.1 (P.pow_le (by omega) h), Int.lt_of_lt_of_le hs.2 (P.pow_le (by omega) h)⟩
theorem sz_frac {B : Int} {s : Bool} {x y : Int} {K : Nat} (hx : 0 ≤ x) (hy : 0 < y) (h1 : x < B ^ K) (h2 : y < B ^ K) : Sz B K (Rat.divInt (sg s x) y) := by
  have hsx : (sg s x).natAbs = x.natAbs := by unfold sg; cases s <;> simp
  constructor
  · rw [Rat.num_divInt, Int.sign_eq_one_of_pos hy, Int.one_mul]
    have : ((sg s x) / ((y.gcd (sg s x) : Nat) : Int)).natAbs ≤ (sg s x).natAbs := by
      rw [Int.natAbs_ediv_of_dvd (Int.gcd_dvd_right ..)]
      exact Nat.div_le_self ..
    omega
  · rw [Rat.den_divInt, if_neg (by omega)]
    have : y.natAbs / (y.gcd (sg s x)) ≤ y.natAbs := Nat.div_le_self ..
    omega
end Go.Proofs.Ytfpolhoabfadnaa.Q
end
section
namespace Go.Proofs.Ytfpolhoabfadnaa.Q
open Go.RowKit Go.Proofs.YtfpolhoabfadnaaW.PrintWords Go.Proofs.YtfpolhoabfadnaaW.PrintMore Go.Proofs.Ytfpolhoabfadnaa.V Go.Proofs.Ytfpolhoabfadnaa.E
open Go.Proofs.Ytfpolhoabfadnaa.P (Dg Nm vl WW RR can_uniq gI evs evk evb cmpi WW_pos WW_one w64 u64)
set_option linter.unusedVariables false
section
variable {a b : List Int} {n m : Int}
theorem q_Mul (hn : a.length + b.length < 1099511627776) (ha : P.Can WW a n) (hb : P.Can WW b m) : ∃ r, Ev (fun k => mag_Mul k a b) r ∧ P.Can WW r (n * m) ∧ r.length ≤ a.length + b.length := by
  obtain ⟨r, h1, h2⟩ := P.mag_Mul_sp hn ha hb
  exact ⟨r, Ev.step (fun k => mag_Mul_eq k a b) h1, h2⟩
theorem q_Add (hla : a.length < 1099511627776) (hlb : b.length < 1099511627776) (ha : P.Can WW a n) (hb : P.Can WW b m) : ∃ r, Ev (fun k => mag_Add k a b) r ∧ P.Can WW r (n + m) ∧ r.length ≤ max a.length b.length + 1 := by
  obtain ⟨r, h1, h2⟩ := P.mag_Add_sp hla hlb ha hb
  exact ⟨r, Ev.step (fun k => mag_Add_eq k a b) h1, h2⟩
theorem q_Sub (hn : a.length < 1099511627776) (ha : P.Can WW a n) (hb : P.Can WW b m) (hle : m ≤ n) : ∃ r, Ev (fun k => mag_Sub k a b) r ∧ P.Can WW r (n - m) ∧ r.length ≤ a.length := by
  obtain ⟨r, h1, h2⟩ := P.mag_Sub_sp hn ha hb hle
  exact ⟨r, Ev.step (fun k => mag_Sub_eq k a b) h1, h2⟩
theorem q_Cmp (hn : a.length < 4611686018427387904) (ha : P.Can WW a n) (hb : P.Can WW b m) : Ev (fun k => mag_Cmp k a b) (cmpi n m) := Ev.step (fun k => mag_Cmp_eq k a b) (P.mag_Cmp_sp hn ha hb)
theorem q_GCD (la : a.length < 1073741824) (lb : b.length < 1073741824) (ha : P.Can WW a n) (hb : P.Can WW b m) : ∃ r, Ev (fun k => mag_GCD k a b) r ∧ P.Can WW r (gI n m) := by
  obtain ⟨r, h1, h2⟩ := P.mag_GCD_sp la lb ha hb
  exact ⟨r, Ev.step (fun k => mag_GCD_eq k a b) h1, h2⟩
theorem q_DivMod (hn : a.length < 17179869184) (ha : P.Can WW a n) (hb : P.Can WW b m) (hm : 0 < m) : ∃ q r, Ev (fun k => mag_DivMod k a b) (q, r, ()) ∧ P.Can WW q (n / m) ∧ P.Can WW r (n % m) := by
  obtain ⟨q, r, h1, h2⟩ := P.mag_DivMod_sp hn ha hb hm
  exact ⟨q, r, Ev.step (fun k => mag_DivMod_eq k a b) (evmap (g := fun r : List Int × List Int => (r.1, r.2, ())) h1), h2⟩
theorem gcd_pos {x y : Int} (hy : 0 < y) : 0 < gI x y := by
  unfold P.gI
  have := Int.gcd_pos_of_ne_zero_right x (show y ≠ 0 by omega)
  omega
theorem one_tst {l : List Int} {z : Int} (h : P.Can WW l z) (hz : 0 < z) (h1 : z ≠ 1) : (bif (List.length l : Int) != (1 : Int) then some true else if 0 ≤ (0 : Int) ∧ (0 : Int) < (List.length l : Int) then some ((rdT (t := (.int .u32)) l (0 : Int) : Int) != (1 : Int)) else none) = some true := by
  match l, h with
  | [], h => rfl
  | [x], h =>
    have hx : x = z := by have := h.2.2; simp [vl] at this; exact this
    have hr : (rdT (t := (.int .u32)) [x] (0 : Int) : Int) = x := rfl
    rw [hr]
    have : (x != (1 : Int)) = true := by simp; omega
    rw [this]
    simp
  | x :: y :: t, h =>
    have : ((List.length (x :: y :: t) : Int) != (1 : Int)) = true := by simp; omega
    rw [this]
    rfl
theorem one_tst' {l : List Int} {z : Int} (h : P.Can WW l z) (hz : z = 1) : (bif (List.length l : Int) != (1 : Int) then some true else if 0 ≤ (0 : Int) ∧ (0 : Int) < (List.length l : Int) then some ((rdT (t := (.int .u32)) l (0 : Int) : Int) != (1 : Int)) else none) = some false := by
  subst hz
  rw [can_uniq WW_pos h (can1 WW_one)]
  rfl
theorem num_Zero_ev : Ev (fun k => num_Zero k) (false, [], [1], ()) := Ev.step (fun k => num_Zero_eq k) (evs _)
theorem len_ne {B : Int} (hB : 0 < B) {l : List Int} {x : Int} (h : P.Can B l x) (hx : x ≠ 0) : ((List.length l : Int) == (0 : Int)) = false := by
  have := h.len_iff hB
  have : l.length ≠ 0 := fun e => hx (this.1 e)
  simp
  intro e
  exact this (by simp [e])
theorem len_eq {B : Int} (hB : 0 < B) {l : List Int} {x : Int} (h : P.Can B l x) (hx : x = 0) : l = [] := (h.nil_iff hB).2 hx
theorem num_Make_sp {s : Bool} (la : a.length < 1073741824) (lb : b.length < 1073741824) (ha : P.Can WW a n) (hb : P.Can WW b m) (hm : 0 < m) : ∃ r, Ev (fun k => num_Make k s a b) r ∧ RB WW r (Rat.divInt (sg s n) m) := by
  have n0 := ha.nonneg WW_pos
  by_cases hn : n = 0
  · obtain rfl := len_eq WW_pos ha hn
    refine ⟨_, Ev.step (fun k => num_Make_eq k s [] b) (bT rfl (Ev.bind num_Zero_ev (evs _))), ?_⟩
    rw [hn, frac_zero]
    exact rb_zero WW_one
  · obtain ⟨g, g1, g2⟩ := q_GCD la lb ha hb
    have gp := gcd_pos (x := n) hm
    have fin : ∀ {u v : List Int}, u.length ≤ a.length → v.length ≤ b.length → P.Can WW u (n / gI n m) → P.Can WW v (m / gI n m) → Ev (fun k => num_Make.j0 k s u v (false, [], [], ())) (s, u, v, ()) := fun h1 h2 _ _ => by
      unfold num_Make.j0
      exact iT (by omega) (iT (by omega) (evs _))
    by_cases h1 : gI n m = 1
    · have e1 : n / gI n m = n := by rw [h1]; omega
      have e2 : m / gI n m = m := by rw [h1]; omega
      have ca : P.Can WW a (n / gI n m) := by rw [e1]; exact ha
      have cb : P.Can WW b (m / gI n m) := by rw [e2]; exact hb
      exact ⟨_, Ev.step (fun k => num_Make_eq k s a b) (bF (len_ne WW_pos ha hn) (Ev.bind g1 (Ev.bind (evk (one_tst' g2 h1)) (bF rfl (fin (Nat.le_refl _) (Nat.le_refl _) ca cb))))), rb_frac (by omega) hm ca cb⟩
    · obtain ⟨u, u', u1, u2, u3⟩ := q_DivMod (by omega) ha g2 gp
      obtain ⟨v, v', v1, v2, v3⟩ := q_DivMod (by omega) hb g2 gp
      have lu : u.length ≤ a.length := u2.len_le WW_one (Int.lt_of_le_of_lt (Int.ediv_le_self _ n0) (ha.lt WW_pos))
      have lv : v.length ≤ b.length := v2.len_le WW_one (Int.lt_of_le_of_lt (Int.ediv_le_self _ (by omega)) (hb.lt WW_pos))
      exact ⟨_, Ev.step (fun k => num_Make_eq k s a b) (bF (len_ne WW_pos ha hn) (Ev.bind g1 (Ev.bind (evk (one_tst g2 gp h1)) (bT rfl (Ev.bind u1 (Ev.bind v1 (fin lu lv u2 v2))))))), rb_frac (by omega) hm u2 v2⟩
end
end Go.Proofs.Ytfpolhoabfadnaa.Q
end
section
namespace Go.Proofs.Ytfpolhoabfadnaa.Q
open Go.RowKit Go.Proofs.YtfpolhoabfadnaaW.PrintWords Go.Proofs.YtfpolhoabfadnaaW.PrintMore Go.Proofs.Ytfpolhoabfadnaa.V Go.Proofs.Ytfpolhoabfadnaa.E
open Go.Proofs.Ytfpolhoabfadnaa.P (Dg Nm vl WW RR can_uniq gI evs evk evb cmpi WW_pos WW_one w64 u64)
set_option linter.unusedVariables false
section
variable {v w : RatD} {p q : Rat} {K L : Nat}
theorem sg_mul (s t : Bool) (x y : Int) : sg (s != t) (x * y) = sg s x * sg t y := by
  unfold sg
  cases s <;> cases t <;> simp [Int.neg_mul, Int.mul_neg]
theorem sg_mul_pos (s : Bool) (x y : Int) : sg s x * y = sg s (x * y) := by
  unfold sg
  cases s <;> simp [Int.neg_mul]
theorem mul_pos' {x y : Int} (hx : 0 < x) (hy : 0 < y) : 0 < x * y := Int.mul_pos hx hy
theorem num_Mul_sp (hv : RB WW v p) (hw : RB WW w q) (hp : Sz WW K p) (hq : Sz WW L q) (h : K + L < 1073741824) : ∃ r, Ev (fun k => num_Mul k v w) r ∧ RB WW r (p * q) ∧ Sz WW (K + L) (p * q) := by
  obtain ⟨lv1, lv2⟩ := sz_len WW_one hv hp
  obtain ⟨lw1, lw2⟩ := sz_len WW_one hw hq
  obtain ⟨x, x1, x2, x3⟩ := q_Mul (by omega) hv.2.1 hw.2.1
  obtain ⟨y, y1, y2, y3⟩ := q_Mul (by omega) hv.2.2 hw.2.2
  have hd : (0 : Int) < (p.den : Int) * q.den := mul_pos' (den_pos' p) (den_pos' q)
  obtain ⟨r, r1, r2⟩ := num_Make_sp (s := v.1 != w.1) (by omega) (by omega) x2 y2 hd
  have e : Rat.divInt (sg (v.1 != w.1) ((p.num.natAbs : Int) * q.num.natAbs)) ((p.den : Int) * q.den) = p * q := by
    rw [sg_mul, sg_val hv, sg_val hw, ← Rat.divInt_mul_divInt, Rat.num_divInt_den, Rat.num_divInt_den]
  have hs : Sz WW (K + L) (p * q) := by
    rw [← e]
    refine sz_frac (Int.mul_nonneg (by omega) (by omega)) hd ?_ ?_
    · exact Int.lt_of_lt_of_le (x2.lt WW_pos) (P.pow_le (by decide) (by omega))
    · exact Int.lt_of_lt_of_le (y2.lt WW_pos) (P.pow_le (by decide) (by omega))
  rw [e] at r2
  exact ⟨r, Ev.step (fun k => num_Mul_eq k v w) (Ev.bind x1 (Ev.bind y1 (Ev.bind r1 (evs _)))), r2, hs⟩
theorem beq_ne {s t : Bool} (h : ¬ s = t) : (s == t) = false := by cases s <;> cases t <;> simp_all
theorem num_Add_j {x y d : List Int} {X Y D : Int} {s t : Bool} {u u' c : RatD} (hu : u.1 = s) (hu' : u'.1 = t) (lx : x.length < 536870912) (ly : y.length < 536870912) (ld : d.length < 1073741824) (hx : P.Can WW x X) (hy : P.Can WW y Y) (hd : P.Can WW d D) (hD : 0 < D) :
    ∃ r, Ev (fun k => num_Add.j0 k x y d u u' c) r ∧ RB WW r (Rat.divInt (sg s X + sg t Y) D) := by
  by_cases hst : s = t
  · obtain ⟨z, z1, z2, z3⟩ := q_Add (by omega) (by omega) hx hy
    obtain ⟨r, r1, r2⟩ := num_Make_sp (s := s) (by omega) ld z2 hd hD
    refine ⟨r, ?_, ?_⟩
    · unfold num_Add.j0
      rw [hu, hu']
      exact bT (by subst hst; simp) (Ev.bind z1 (Ev.bind r1 (evs _)))
    · have : sg s X + sg t Y = sg s (X + Y) := by subst hst; unfold sg; cases s <;> simp <;> omega
      rw [this]
      exact r2
  · have hc := q_Cmp (by omega) hx hy
    by_cases hxy : Y ≤ X
    · obtain ⟨z, z1, z2, z3⟩ := q_Sub (by omega) hx hy hxy
      obtain ⟨r, r1, r2⟩ := num_Make_sp (s := s) (by omega) ld z2 hd hD
      refine ⟨r, ?_, ?_⟩
      · unfold num_Add.j0
        rw [hu, hu']
        refine bF (beq_ne hst) (Ev.bind hc (bT (decide_eq_true ?_) (Ev.bind z1 (Ev.bind r1 (evs _)))))
        unfold P.cmpi
        split
        · omega
        · split <;> omega
      · have : sg s X + sg t Y = sg s (X - Y) := by
          unfold sg
          cases s <;> cases t <;> simp at hst ⊢ <;> omega
        rw [this]
        exact r2
    · obtain ⟨z, z1, z2, z3⟩ := q_Sub (by omega) hy hx (by omega)
      obtain ⟨r, r1, r2⟩ := num_Make_sp (s := t) (by omega) ld z2 hd hD
      refine ⟨r, ?_, ?_⟩
      · unfold num_Add.j0
        rw [hu, hu']
        refine bF (beq_ne hst) (Ev.bind hc (bF (decide_eq_false ?_) (Ev.bind z1 (Ev.bind r1 (evs _)))))
        unfold P.cmpi
        rw [if_pos (by omega)]
        omega
      · have : sg s X + sg t Y = sg t (Y - X) := by
          unfold sg
          cases s <;> cases t <;> simp at hst ⊢ <;> omega
        rw [this]
        exact r2
theorem add_frac (p q : Rat) : p + q = Rat.divInt (p.num * q.den + q.num * p.den) ((p.den : Int) * q.den) := by
  have h := Rat.divInt_add_divInt p.num q.num (d₁ := (p.den : Int)) (d₂ := (q.den : Int)) (by have := den_pos' p; omega) (by have := den_pos' q; omega)
  rw [Rat.num_divInt_den, Rat.num_divInt_den] at h
  exact h
theorem add_frac' (p q : Rat) (h : p.den = q.den) : p + q = Rat.divInt (p.num + q.num) (p.den : Int) := by
  rw [add_frac, ← h, ← Int.add_mul]
  exact Rat.divInt_mul_right (by have := den_pos' p; omega)
theorem sz_add (hp : Sz WW K p) (hq : Sz WW L q) : Sz WW (K + L + 1) (p + q) := by
  have hK : (0 : Int) < WW ^ K := Int.pow_pos (by decide)
  have hL : (0 : Int) < WW ^ L := Int.pow_pos (by decide)
  have e : (WW : Int) ^ (K + L + 1) = WW ^ K * WW ^ L * 4294967296 := by rw [Int.pow_succ, Int.pow_add]
  obtain ⟨p1, p2⟩ := hp
  obtain ⟨q1, q2⟩ := hq
  have dp := den_pos' p
  have dq := den_pos' q
  have a1 : (p.num.natAbs : Int) * q.den ≤ WW ^ K * WW ^ L := Int.mul_le_mul (by omega) (by omega) (by omega) (by omega)
  have a2 : (q.num.natAbs : Int) * p.den ≤ WW ^ L * WW ^ K := Int.mul_le_mul (by omega) (by omega) (by omega) (by omega)
  have a3 : (p.den : Int) * q.den ≤ WW ^ K * WW ^ L := Int.mul_le_mul (by omega) (by omega) (by omega) (by omega)
  rw [Int.mul_comm (WW ^ L)] at a2
  have hKL : (0 : Int) < WW ^ K * WW ^ L := mul_pos' hK hL
  have hn : ((p.num * q.den + q.num * p.den).natAbs : Int) ≤ (p.num.natAbs : Int) * q.den + (q.num.natAbs : Int) * p.den := by
    have h1 := Int.natAbs_add_le (p.num * q.den) (q.num * p.den)
    rw [Int.natAbs_mul, Int.natAbs_mul] at h1
    simp only [Int.natAbs_natCast] at h1
    have : ((p.num.natAbs * q.den + q.num.natAbs * p.den : Nat) : Int) = (p.num.natAbs : Int) * q.den + (q.num.natAbs : Int) * p.den := by
      rw [Int.natCast_add, Int.natCast_mul, Int.natCast_mul]
    omega
  rw [add_frac]
  constructor
  · rw [Rat.num_divInt, Int.sign_eq_one_of_pos (mul_pos' dp dq), Int.one_mul]
    have : ((p.num * q.den + q.num * p.den) / ((((p.den : Int) * q.den).gcd (p.num * q.den + q.num * p.den) : Nat) : Int)).natAbs ≤ (p.num * q.den + q.num * p.den).natAbs := by
      rw [Int.natAbs_ediv_of_dvd (Int.gcd_dvd_right ..)]
      exact Nat.div_le_self ..
    omega
  · rw [Rat.den_divInt, if_neg (by have := mul_pos' dp dq; omega)]
    have : ((p.den : Int) * q.den).natAbs / (((p.den : Int) * q.den).gcd (p.num * q.den + q.num * p.den)) ≤ ((p.den : Int) * q.den).natAbs := Nat.div_le_self ..
    have := mul_pos' dp dq
    omega
theorem num_Add_sp (hv : RB WW v p) (hw : RB WW w q) (hp : Sz WW K p) (hq : Sz WW L q) (h : K + L < 268435456) : ∃ r, Ev (fun k => num_Add k v w) r ∧ RB WW r (p + q) ∧ Sz WW (K + L + 1) (p + q) := by
  obtain ⟨lv1, lv2⟩ := sz_len WW_one hv hp
  obtain ⟨lw1, lw2⟩ := sz_len WW_one hw hq
  have hc := q_Cmp (by omega) hv.2.2 hw.2.2
  refine (show ∃ r, Ev (fun k => num_Add k v w) r ∧ RB WW r (p + q) from ?_).elim fun r hr => ⟨r, hr.1, hr.2, sz_add hp hq⟩
  by_cases hd : (p.den : Int) = q.den
  · obtain ⟨r, r1, r2⟩ := num_Add_j (c := (false, [], [], ())) (u := v) (u' := w) rfl rfl (by omega) (by omega) (by omega) hv.2.1 hw.2.1 hv.2.2 (den_pos' p)
    rw [sg_val hv, sg_val hw, ← add_frac' p q (by omega)] at r2
    refine ⟨r, Ev.step (fun k => num_Add_eq k v w) (Ev.bind hc (bF ?_ r1)), r2⟩
    unfold P.cmpi
    rw [if_neg (by omega), if_pos hd]
    rfl
  · obtain ⟨x, x1, x2, x3⟩ := q_Mul (by omega) hv.2.1 hw.2.2
    obtain ⟨y, y1, y2, y3⟩ := q_Mul (by omega) hw.2.1 hv.2.2
    obtain ⟨d, d1, d2, d3⟩ := q_Mul (by omega) hv.2.2 hw.2.2
    obtain ⟨r, r1, r2⟩ := num_Add_j (c := (false, [], [], ())) (u := v) (u' := w) rfl rfl (by omega) (by omega) (by omega) x2 y2 d2 (mul_pos' (den_pos' p) (den_pos' q))
    rw [← sg_mul_pos, ← sg_mul_pos, sg_val hv, sg_val hw, ← add_frac p q] at r2
    refine ⟨r, Ev.step (fun k => num_Add_eq k v w) (Ev.bind hc (bT ?_ (Ev.bind x1 (Ev.bind y1 (Ev.bind d1 r1))))), r2⟩
    unfold P.cmpi
    split
    · rfl
    · rfl
end
end Go.Proofs.Ytfpolhoabfadnaa.Q
end
section
namespace Go.Proofs.Ytfpolhoabfadnaa.Q
open Go.RowKit Go.Proofs.YtfpolhoabfadnaaW.PrintWords Go.Proofs.YtfpolhoabfadnaaW.PrintMore Go.Proofs.Ytfpolhoabfadnaa.V Go.Proofs.Ytfpolhoabfadnaa.E
open Go.Proofs.Ytfpolhoabfadnaa.P (Dg Nm vl WW RR can_uniq gI evs evk evb cmpi WW_pos WW_one w64 u64)
set_option linter.unusedVariables false
section
variable {v w : RatD} {p q : Rat} {K L : Nat}
theorem sz_inv {B : Int} (hp : Sz B K p) (h0 : p ≠ 0) : Sz B K p⁻¹ := by
  have hn : p.num ≠ 0 := fun e => h0 (Rat.num_eq_zero.1 e)
  obtain ⟨h1, h2⟩ := hp
  refine ⟨?_, ?_⟩
  · rw [Rat.num_inv, Int.natAbs_mul, Int.natAbs_sign_of_ne_zero hn]; omega
  · rw [Rat.den_inv, if_neg hn]; exact h1
theorem rb_inv {B : Int} (hv : RB B v p) (h0 : p ≠ 0) : RB B (v.1, v.2.2.1, v.2.1, ()) p⁻¹ := by
  have hn : p.num ≠ 0 := fun e => h0 (Rat.num_eq_zero.1 e)
  obtain ⟨h1, h2, h3⟩ := hv
  have dp := den_pos' p
  refine ⟨?_, ?_, ?_⟩
  · show v.1 = _
    rw [h1, Rat.num_inv]
    by_cases c : p.num < 0
    · rw [Int.sign_eq_neg_one_of_neg c, decide_eq_true c, decide_eq_true (by omega)]
    · rw [Int.sign_eq_one_of_pos (by omega), decide_eq_false c, decide_eq_false (by omega)]
  · rw [Rat.num_inv, Int.natAbs_mul, Int.natAbs_sign_of_ne_zero hn]
    simpa using h3
  · rw [Rat.den_inv, if_neg hn]; exact h2
theorem num_Inv_sp (hv : RB WW v p) (hp : Sz WW K p) (h0 : p ≠ 0) (h : K < 1073741824) : ∃ r, Ev (fun k => num_Inv k v) r ∧ RB WW r p⁻¹ ∧ Sz WW K p⁻¹ := by
  obtain ⟨lv1, lv2⟩ := sz_len WW_one hv hp
  exact ⟨_, Ev.step (fun k => num_Inv_eq k v) (iT (by omega) (iT (by omega) (evs _))), rb_inv hv h0, sz_inv hp h0⟩
def sgn (q : Rat) : Int := if q < 0 then -1 else if q = 0 then 0 else 1
theorem num_lt_zero {q : Rat} : q.num < 0 ↔ q < 0 := by
  rw [Rat.lt_iff]
  simp
theorem len_beq {B : Int} (hB : 0 < B) (hv : RB B v p) : ((List.length v.2.1 : Int) == (0 : Int)) = decide (p = 0) := by
  by_cases c : p = 0
  · rw [len_eq hB hv.2.1 (by rw [c]; rfl), decide_eq_true c]
    rfl
  · rw [decide_eq_false c]
    exact len_ne hB hv.2.1 (fun e => c (Rat.num_eq_zero.1 (by omega)))
theorem num_Sign_sp (hv : RB WW v p) : Ev (fun k => num_Sign k v) (sgn p) := by
  refine Ev.step (fun k => num_Sign_eq k v) ?_
  rw [len_beq WW_pos hv, hv.1]
  unfold sgn
  by_cases c : p = 0
  · refine bT (decide_eq_true c) ?_
    rw [if_neg (by rw [c]; exact Rat.lt_irrefl), if_pos c]
    exact evs _
  · refine bF (decide_eq_false c) ?_
    by_cases d : p < 0
    · rw [if_pos d]
      exact bT (decide_eq_true (num_lt_zero.2 d)) (evs _)
    · rw [if_neg d, if_neg c]
      exact bF (decide_eq_false (fun e => d (num_lt_zero.1 e))) (evs _)
theorem sgn_vals (p : Rat) : (sgn p = -1 ∧ p < 0) ∨ (sgn p = 0 ∧ p = 0) ∨ (sgn p = 1 ∧ 0 < p) := by
  unfold sgn
  by_cases c : p < 0
  · exact .inl ⟨if_pos c, c⟩
  · by_cases d : p = 0
    · exact .inr (.inl ⟨by rw [if_neg c, if_pos d], d⟩)
    · exact .inr (.inr ⟨by rw [if_neg c, if_neg d], Rat.lt_of_le_of_ne (Rat.not_lt.1 c) (Ne.symm d)⟩)
end
end Go.Proofs.Ytfpolhoabfadnaa.Q
end
section
namespace Go.Proofs.Ytfpolhoabfadnaa.Q
open Go.RowKit Go.Proofs.YtfpolhoabfadnaaW.PrintWords Go.Proofs.YtfpolhoabfadnaaW.PrintMore Go.Proofs.Ytfpolhoabfadnaa.V Go.Proofs.Ytfpolhoabfadnaa.E
open Go.Proofs.Ytfpolhoabfadnaa.P (Dg Nm vl WW RR can_uniq gI evs evk evb cmpi WW_pos WW_one w64 u64)
set_option linter.unusedVariables false
section
variable {v w : RatD} {p q : Rat} {K L : Nat}
theorem divInt_one (x : Int) : Rat.divInt x 1 = (x : Rat) := by rw [Rat.divInt_eq_div]; simp; grind
theorem num_One_ev : Ev (fun k => num_One k) (false, [1], [1], ()) := by
  obtain ⟨x, x1, x2⟩ := P.mag_From_sp (a := 1) (by decide) (by decide)
  obtain rfl := can_uniq WW_pos x2 (can1 WW_one)
  obtain ⟨r, r1, r2⟩ := num_Make_sp (s := false) (by simp) (by simp) (can1 WW_one) (can1 WW_one) (by decide)
  have e : Rat.divInt (sg false 1) 1 = 1 := by rw [divInt_one]; rfl
  rw [e] at r2
  rw [rb_uniq WW_pos (rb_one WW_one) r2]
  refine Ev.step (fun k => num_One_eq k) (Ev.bind (Ev.step (fun k => num_Int_eq k 1) (bF (by decide) (Ev.bind (Ev.step (fun k => mag_From_eq k _) (by rw [u64 (by decide) (by decide)]; exact x1)) (Ev.bind r1 (evs _))))) (evs _))
theorem sz_one {B : Int} (h : 1 < B) {K : Nat} (hK : 1 ≤ K) : Sz B K 1 := sz_mono (by omega) (sz_of (by omega) (rb_one h) (K := 1) (by simp) (by simp)) hK
theorem num_Fits_sp (hv : RB WW v p) (N : Nat) : ∃ t, Ev (fun k => num_Fits k v (N : Int)) t ∧ (t = true ↔ Sz WW N p) := by
  refine ⟨decide (v.2.1.length ≤ N) && decide (v.2.2.1.length ≤ N), Ev.step (fun k => num_Fits_eq k v _) (Ev.bind ?_ (evs _)), ?_⟩
  · by_cases c : v.2.1.length ≤ N
    · rw [decide_eq_true c]
      refine bT (decide_eq_true (by omega)) ?_
      have : decide ((List.length v.2.2.1 : Int) ≤ N) = (true && decide (v.2.2.1.length ≤ N)) := by
        rw [Bool.true_and]; exact decide_eq_decide.2 (by omega)
      rw [this]
      exact evs _
    · rw [decide_eq_false c]
      exact bF (decide_eq_false (by omega)) (evs _)
  · rw [Bool.and_eq_true, decide_eq_true_eq, decide_eq_true_eq]
    exact ⟨fun h => sz_of WW_pos hv h.1 h.2, fun h => sz_len WW_one hv h⟩
end
end Go.Proofs.Ytfpolhoabfadnaa.Q
end
section
namespace Go.Proofs.Ytfpolhoabfadnaa.Q
open Go.RowKit Go.Proofs.YtfpolhoabfadnaaW.PrintWords Go.Proofs.YtfpolhoabfadnaaW.PrintMore Go.Proofs.Ytfpolhoabfadnaa.V Go.Proofs.Ytfpolhoabfadnaa.E
open Go.Proofs.Ytfpolhoabfadnaa.P (Dg Nm vl WW RR can_uniq gI evs evk evb cmpi WW_pos WW_one RR_pos w64 u64)
set_option linter.unusedVariables false
def Ev2 {α : Type} (g : Nat → Nat → Option α) (r : α) : Prop := ∃ K, ∀ k m, K ≤ k → K ≤ m → g k m = some r
section
variable {α β : Type} {g f : Nat → Nat → Option α} {r : α}
theorem Ev2.diag (h : Ev2 g r) : Ev (fun k => g k k) r := by
  obtain ⟨K, h⟩ := h
  exact ⟨K, fun k hk => h k k hk hk⟩
theorem Ev2.step (h : ∀ k m, g k (m + 1) = f k m) (k : Ev2 f r) : Ev2 g r := by
  obtain ⟨K, k⟩ := k
  refine ⟨K + 1, fun n m hn hm => ?_⟩
  obtain ⟨q, rfl⟩ : ∃ q, m = q + 1 := ⟨m - 1, by omega⟩
  rw [h]
  exact k n q (by omega) (by omega)
theorem Ev2.bind {g : Nat → Option β} {f : Nat → Nat → β → Option α} {a : β} (h : Ev g a) (k : Ev2 (fun n m => f n m a) r) : Ev2 (fun n m => (g n).bind (f n m)) r := by
  obtain ⟨K, h⟩ := h
  obtain ⟨K', k⟩ := k
  refine ⟨max K K', fun n m hn hm => ?_⟩
  have h1 := h n (by omega)
  simp only [h1, Option.bind_some]
  exact k n m (by omega) (by omega)
theorem Ev2.bT {c : Bool} (hc : c = true) (h : Ev2 f r) : Ev2 (fun k m => bif c then f k m else g k m) r := by subst hc; exact h
theorem Ev2.bF {c : Bool} (hc : c = false) (h : Ev2 g r) : Ev2 (fun k m => bif c then f k m else g k m) r := by subst hc; exact h
theorem Ev2.iT {c : Prop} [Decidable c] (hc : c) (h : Ev2 f r) : Ev2 (fun k m => if c then f k m else none) r := by simpa only [if_pos hc] using h
theorem Ev2.of {g : Nat → Option α} (h : Ev g r) : Ev2 (fun k _ => g k) r := by
  obtain ⟨K, h⟩ := h
  exact ⟨K, fun k m hk _ => h k hk⟩
end
theorem RR_one : (1 : Int) < RR := by decide
section
variable {a b : List Int} {n m : Int}
theorem s_Mul (hn : a.length + b.length < 68719476736) (ha : P.Can RR a n) (hb : P.Can RR b m) : ∃ r, Ev (fun k => isochroneref01_Mul k a b) r ∧ P.Can RR r (n * m) ∧ r.length ≤ a.length + b.length := by
  obtain ⟨r, h1, h2⟩ := P.r_Mul_sp hn ha hb
  exact ⟨r, Ev.step (fun k => isochroneref01_Mul_eq k a b) h1, h2⟩
theorem s_Cmp (hn : a.length < 4611686018427387904) (ha : P.Can RR a n) (hb : P.Can RR b m) : Ev (fun k => isochroneref01_Cmp k a b) (cmpi n m) := Ev.step (fun k => isochroneref01_Cmp_eq k a b) (P.isochroneref01_Cmp_sp hn ha hb)
theorem s_GCD (la : a.length < 1073741824) (lb : b.length < 1073741824) (ha : P.Can RR a n) (hb : P.Can RR b m) : ∃ r, Ev (fun k => isochroneref01_GCD k a b) r ∧ P.Can RR r (gI n m) := by
  obtain ⟨r, h1, h2⟩ := P.r_GCD_sp la lb ha hb
  exact ⟨r, Ev.step (fun k => isochroneref01_GCD_eq k a b) h1, h2⟩
theorem s_DivMod (hn : a.length < 1073741824) (hb : b.length < 1073741824) (ha : P.Can RR a n) (cb : P.Can RR b m) (hm : 0 < m) : ∃ q r, Ev (fun k => isochroneref01_DivMod k a b) (q, r, ()) ∧ P.Can RR q (n / m) ∧ P.Can RR r (n % m) := by
  obtain ⟨q, r, h1, h2, h3, _⟩ := P.r_DivMod_sp hn hb ha cb hm
  exact ⟨q, r, Ev.step (fun k => isochroneref01_DivMod_eq k a b) (evmap (g := fun r : List Int × List Int => (r.1, r.2, ())) h1), h2, h3⟩
theorem s_Words (hn : a.length < 1073741824) (ha : P.Can RR a n) : ∃ r, Ev (fun k => isochroneref01_Words k a) r ∧ P.Can WW r n := by
  obtain ⟨r, h1, h2⟩ := P.r_Words_sp hn ha
  exact ⟨r, Ev.step (fun k => isochroneref01_Words_eq k a) h1, h2⟩
theorem s_Small {k0 c0 : Int} (hn : a.length < 549755813888) (ha : P.Can RR a n) (hk : 0 ≤ k0 ∧ k0 ≤ 65536) (hc : 0 ≤ c0 ∧ c0 ≤ 65536) : ∃ r, Ev (fun k => isochroneref01_Small k a k0 c0) r ∧ P.Can RR r (n * k0 + c0) ∧ r.length ≤ a.length + 2 := by
  obtain ⟨r, h1, h2⟩ := P.r_Small_sp hn ha hk hc
  exact ⟨r, Ev.step (fun k => isochroneref01_Small_eq k a k0 c0) h1, h2⟩
theorem s_Pow {v : Int} (hl : a.length ≤ 16) (ha : P.Can RR a v) (N : Nat) (hN : N ≤ 1000) : ∃ r, Ev (fun k => isochroneref01_Pow k a (N : Int)) r ∧ P.Can RR r (v ^ N) ∧ r.length ≤ 16 * N + 1 := by
  obtain ⟨r, h1, h2⟩ := P.r_Pow_sp hl ha N hN
  exact ⟨r, Ev.step (fun k => isochroneref01_Pow_eq k a _) h1, h2⟩
theorem rdT_rd (l : List Int) (i : Int) : (rdT (t := (.int .u32)) l i : Int) = rd l i := rfl
theorem s_Of_ev {a : List Int} (hn : a.length < 137438953472) (ha : Dg WW a) (d : Nat) : ∀ (i : Nat) (o : List Int), i = d → i ≤ a.length → P.Can RR o (vl WW (a.drop i)) → o.length ≤ 4 * (a.length - i) → ∃ r, Ev2 (fun k m => isochroneref01_Of.l0 k m a o ((i : Int) - 1)) r ∧ P.Can RR r (vl WW a) ∧ r.length ≤ 4 * a.length := by
  induction d with
  | zero =>
    rintro i o rfl h1 h2 h3
    exact ⟨o, Ev2.step (fun k m => isochroneref01_Of.l0_succ k m _ _ _) (Ev2.bF (decide_eq_false (by omega)) (Ev2.of (evs _))), by simpa using h2, by omega⟩
  | succ d ih =>
    rintro i o rfl h1 h2 h3
    have e1 : (((d + 1 : Nat) : Int) - 1) = (d : Int) := by omega
    have hx := P.dg_rd ha (d : Int) (by omega) (by omega)
    rw [P.WW_eq] at hx
    obtain ⟨p, h4, h5, h6⟩ := s_Small (k0 := 65536) (c0 := rd a d / 65536) (by omega) h2 (by omega) (by omega)
    obtain ⟨q, h7, h8, h9⟩ := s_Small (k0 := 65536) (c0 := rd a d % 65536) (by omega) h5 (by omega) (by omega)
    have ea : a.drop d = rd a d :: a.drop (d + 1) := by rw [P.rd_lt a d (by omega)]; exact (List.drop_eq_getElem_cons (by omega))
    have ev : (vl WW (a.drop (d + 1)) * 65536 + rd a d / 65536) * 65536 + rd a d % 65536 = vl WW (a.drop d) := by
      rw [ea, vl, P.WW_eq]
      omega
    rw [ev] at h8
    obtain ⟨r, h10, h11⟩ := ih d q rfl (by omega) h8 (by omega)
    refine ⟨r, Ev2.step (fun k m => isochroneref01_Of.l0_succ k m _ _ _) ?_, h11⟩
    have e2 : shr .u32 (rd a (d : Int)) 16 = rd a d / 65536 := rfl
    rw [e1]
    simp only [rdT_rd]
    rw [e2, P.and16 hx.1 hx.2, w64 (x := rd a d / 65536) (by omega) (by omega), w64 (x := rd a d % 65536) (by omega) (by omega), w64 (x := (d : Int) - 1) (by omega) (by omega)]
    exact Ev2.bT (decide_eq_true (by omega)) (Ev2.iT (by omega) (Ev2.bind h4 (Ev2.iT (by omega) (Ev2.bind h7 h10))))
theorem s_Of {a : List Int} {n : Int} (hn : a.length < 137438953472) (ha : P.Can WW a n) : ∃ r, Ev (fun k => isochroneref01_Of k a) r ∧ P.Can RR r n ∧ r.length ≤ 4 * a.length := by
  obtain ⟨r, h1, h2⟩ := s_Of_ev hn ha.1 a.length a.length [] rfl (Nat.le_refl _) (by rw [List.drop_length]; exact P.Can.zero _) (by simp)
  rw [ha.2.2] at h2
  refine ⟨r, Ev.step (fun k => isochroneref01_Of_eq k a) ?_, h2⟩
  rw [w64 (x := (a.length : Int) - 1) (by omega) (by omega)]
  exact h1.diag
end
end Go.Proofs.Ytfpolhoabfadnaa.Q
end
section
namespace Go.Proofs.Ytfpolhoabfadnaa.Q
open Go.RowKit Go.Proofs.YtfpolhoabfadnaaW.PrintWords Go.Proofs.YtfpolhoabfadnaaW.PrintMore Go.Proofs.Ytfpolhoabfadnaa.V Go.Proofs.Ytfpolhoabfadnaa.E
open Go.Proofs.Ytfpolhoabfadnaa.P (Dg Nm vl WW RR can_uniq gI evs evk evb cmpi WW_pos WW_one RR_pos w64 u64)
set_option linter.unusedVariables false
section
variable {a b : List Int} {n m : Int} {v w : RatD} {p q : Rat} {K L : Nat}
theorem is_one {l : List Int} {z : Int} (h : P.Can RR l z) : (bif (List.length l : Int) == (1 : Int) then if 0 ≤ (0 : Int) ∧ (0 : Int) < (List.length l : Int) then some ((rdT (t := (.int .i64)) l (0 : Int) : Int) == (1 : Int)) else none else some false) = some (decide (z = 1)) := by
  match l, h with
  | [], h =>
    have : z = 0 := by have := h.2.2; simp [vl] at this; exact this.symm
    subst this
    rfl
  | [x], h =>
    have hx : x = z := by have := h.2.2; simp [vl] at this; exact this
    have hr : (rdT (t := (.int .i64)) [x] (0 : Int) : Int) = x := rfl
    rw [hr, hx]
    simp
    by_cases c : z = 1 <;> simp [c]
  | x :: y :: t, h =>
    have h1 : ((List.length (x :: y :: t) : Int) == (1 : Int)) = false := by simp; omega
    have h2 : RR ≤ z := by
      have := h.ge RR_pos (by simp)
      refine Int.le_trans ?_ this
      have := P.pow_le (B := RR) (by decide) (i := 1) (j := (x :: y :: t).length - 1) (by simp)
      rw [Int.pow_succ, Int.pow_zero, Int.one_mul] at this
      exact this
    have : RR = 10000 := rfl
    rw [h1, decide_eq_false (by omega)]
    rfl
theorem is_one' {l : List Int} {z : Int} (h : P.Can WW l z) : (bif (List.length l : Int) == (1 : Int) then if 0 ≤ (0 : Int) ∧ (0 : Int) < (List.length l : Int) then some ((rdT (t := (.int .u32)) l (0 : Int) : Int) == (1 : Int)) else none else some false) = some (decide (z = 1)) := by
  match l, h with
  | [], h =>
    have : z = 0 := by have := h.2.2; simp [vl] at this; exact this.symm
    subst this
    rfl
  | [x], h =>
    have hx : x = z := by have := h.2.2; simp [vl] at this; exact this
    have hr : (rdT (t := (.int .u32)) [x] (0 : Int) : Int) = x := rfl
    rw [hr, hx]
    simp
    by_cases c : z = 1 <;> simp [c]
  | x :: y :: t, h =>
    have h1 : ((List.length (x :: y :: t) : Int) == (1 : Int)) = false := by simp; omega
    have h2 : WW ≤ z := by
      have := h.ge WW_pos (by simp)
      refine Int.le_trans ?_ this
      have := P.pow_le (B := WW) (by decide) (i := 1) (j := (x :: y :: t).length - 1) (by simp)
      rw [Int.pow_succ, Int.pow_zero, Int.one_mul] at this
      exact this
    have : WW = 4294967296 := rfl
    rw [h1, decide_eq_false (by omega)]
    rfl
theorem ref_Zero_ev : Ev (fun k => isochroneref02_Zero k) (false, [], [1], ()) := Ev.step (fun k => isochroneref02_Zero_eq k) (evs _)
theorem ref_One_ev : Ev (fun k => isochroneref02_One k) (false, [1], [1], ()) := Ev.step (fun k => isochroneref02_One_eq k) (evs _)
theorem ref_Make_sp {s : Bool} (la : a.length < 1073741824) (lb : b.length < 1073741824) (ha : P.Can RR a n) (hb : P.Can RR b m) (hm : 0 < m) : ∃ r, Ev (fun k => isochroneref02_Make k s a b) r ∧ RB RR r (Rat.divInt (sg s n) m) := by
  have n0 := ha.nonneg RR_pos
  by_cases hn : n = 0
  · obtain rfl := len_eq RR_pos ha hn
    refine ⟨_, Ev.step (fun k => isochroneref02_Make_eq k s [] b) (bT rfl (Ev.bind ref_Zero_ev (evs _))), ?_⟩
    rw [hn, frac_zero]
    exact rb_zero RR_one
  · have done : gI n m = 1 → RB RR (s, a, b, ()) (Rat.divInt (sg s n) m) := fun h1 => by
      have e1 : n / gI n m = n := by rw [h1]; omega
      have e2 : m / gI n m = m := by rw [h1]; omega
      exact rb_frac (by omega) hm (by rw [e1]; exact ha) (by rw [e2]; exact hb)
    by_cases hm1 : m = 1
    · refine ⟨(s, a, b, ()), Ev.step (fun k => isochroneref02_Make_eq k s a b) (bF (len_ne RR_pos ha hn) (Ev.bind (evk (is_one hb)) (bT (decide_eq_true hm1) (evs _)))), done ?_⟩
      unfold P.gI
      rw [hm1]
      simp
    · obtain ⟨g, g1, g2⟩ := s_GCD la lb ha hb
      have gp := gcd_pos (x := n) hm
      by_cases h1 : gI n m = 1
      · exact ⟨(s, a, b, ()), Ev.step (fun k => isochroneref02_Make_eq k s a b) (bF (len_ne RR_pos ha hn) (Ev.bind (evk (is_one hb)) (bF (decide_eq_false hm1) (Ev.bind g1 (Ev.bind (evk (is_one g2)) (bT (decide_eq_true h1) (evs _))))))), done h1⟩
      · have gl : g.length < 1073741824 := Nat.lt_of_le_of_lt (g2.len_le RR_one (Int.lt_of_le_of_lt (P.gI_le hm) (hb.lt RR_pos))) lb
        obtain ⟨u, u', u1, u2, u3⟩ := s_DivMod la gl ha g2 gp
        obtain ⟨v, v', v1, v2, v3⟩ := s_DivMod lb gl hb g2 gp
        exact ⟨(s, u, v, ()), Ev.step (fun k => isochroneref02_Make_eq k s a b) (bF (len_ne RR_pos ha hn) (Ev.bind (evk (is_one hb)) (bF (decide_eq_false hm1) (Ev.bind g1 (Ev.bind (evk (is_one g2)) (bF (decide_eq_false h1) (Ev.bind u1 (Ev.bind v1 (evs _)))))))))
, rb_frac (by omega) hm u2 v2⟩
theorem ref_Mul_sp (hv : RB RR v p) (hw : RB RR w q) (hp : Sz RR K p) (hq : Sz RR L q) (h : K + L < 1073741824) : ∃ r, Ev (fun k => isochroneref02_Mul k v w) r ∧ RB RR r (p * q) ∧ Sz RR (K + L) (p * q) := by
  obtain ⟨lv1, lv2⟩ := sz_len RR_one hv hp
  obtain ⟨lw1, lw2⟩ := sz_len RR_one hw hq
  obtain ⟨x, x1, x2, x3⟩ := s_Mul (by omega) hv.2.1 hw.2.1
  obtain ⟨y, y1, y2, y3⟩ := s_Mul (by omega) hv.2.2 hw.2.2
  have hd : (0 : Int) < (p.den : Int) * q.den := mul_pos' (den_pos' p) (den_pos' q)
  obtain ⟨r, r1, r2⟩ := ref_Make_sp (s := v.1 != w.1) (by omega) (by omega) x2 y2 hd
  have e : Rat.divInt (sg (v.1 != w.1) ((p.num.natAbs : Int) * q.num.natAbs)) ((p.den : Int) * q.den) = p * q := by
    rw [sg_mul, sg_val hv, sg_val hw, ← Rat.divInt_mul_divInt, Rat.num_divInt_den, Rat.num_divInt_den]
  have hs : Sz RR (K + L) (p * q) := by
    rw [← e]
    refine sz_frac (Int.mul_nonneg (by omega) (by omega)) hd ?_ ?_
    · exact Int.lt_of_lt_of_le (x2.lt RR_pos) (P.pow_le (by decide) (by omega))
    · exact Int.lt_of_lt_of_le (y2.lt RR_pos) (P.pow_le (by decide) (by omega))
  rw [e] at r2
  exact ⟨r, Ev.step (fun k => isochroneref02_Mul_eq k v w) (Ev.bind x1 (Ev.bind y1 (Ev.bind r1 (evs _)))), r2, hs⟩
theorem ref_Div_sp (hv : RB RR v p) (hw : RB RR w q) (hp : Sz RR K p) (hq : Sz RR L q) (h0 : q ≠ 0) (h : K + L < 1073741824) : ∃ r, Ev (fun k => isochroneref02_Div k v w) r ∧ RB RR r (p / q) ∧ Sz RR (K + L) (p / q) := by
  obtain ⟨r, r1, r2, r3⟩ := ref_Mul_sp hv (rb_inv hw h0) hp (sz_inv hq h0) h
  rw [← Rat.div_def] at r2 r3
  exact ⟨r, Ev.step (fun k => isochroneref02_Div_eq k v w) (Ev.bind r1 (evs _)), r2, r3⟩
theorem ref_Sign_sp (hv : RB RR v p) : Ev (fun k => isochroneref02_Sign k v) (sgn p) := by
  refine Ev.step (fun k => isochroneref02_Sign_eq k v) ?_
  rw [len_beq RR_pos hv, hv.1]
  unfold sgn
  by_cases c : p = 0
  · refine bT (decide_eq_true c) ?_
    rw [if_neg (by rw [c]; exact Rat.lt_irrefl), if_pos c]
    exact evs _
  · refine bF (decide_eq_false c) ?_
    by_cases d : p < 0
    · rw [if_pos d]
      exact bT (decide_eq_true (num_lt_zero.2 d)) (evs _)
    · rw [if_neg d, if_neg c]
      exact bF (decide_eq_false (fun e => d (num_lt_zero.1 e))) (evs _)
theorem ref_Of_sp (hv : RB WW v p) (hp : Sz WW K p) (h : K < 1073741824) : ∃ r, Ev (fun k => isochroneref02_Of k v) r ∧ RB RR r p ∧ Sz RR (4 * K) p := by
  obtain ⟨lv1, lv2⟩ := sz_len WW_one hv hp
  obtain ⟨x, x1, x2, x3⟩ := s_Of (by omega) hv.2.1
  obtain ⟨y, y1, y2, y3⟩ := s_Of (by omega) hv.2.2
  have hr : RB RR (v.1, x, y, ()) p := ⟨hv.1, x2, y2⟩
  exact ⟨_, Ev.step (fun k => isochroneref02_Of_eq k v) (Ev.bind x1 (Ev.bind y1 (evs _))), hr, sz_of RR_pos hr (by simp; omega) (by simp; omega)⟩
theorem ref_To_sp (hv : RB RR v p) (hp : Sz RR K p) (h : K < 1073741824) : ∃ r, Ev (fun k => isochroneref02_To k v) r ∧ RB WW r p := by
  obtain ⟨lv1, lv2⟩ := sz_len RR_one hv hp
  obtain ⟨x, x1, x2⟩ := s_Words (by omega) hv.2.1
  obtain ⟨y, y1, y2⟩ := s_Words (by omega) hv.2.2
  exact ⟨(v.1, x, y, ()), Ev.step (fun k => isochroneref02_To_eq k v) (Ev.bind x1 (Ev.bind y1 (evs _))), hv.1, x2, y2⟩
theorem q_Equal (a b : List Int) (hn : a.length < 4611686018427387904) : ∃ r, Ev (fun k => slices_Equal_uint32_uint32 k a b) r ∧ (r = true ↔ a = b) := by
  obtain ⟨r, h1, h2⟩ := P.eq_sp a b hn
  exact ⟨r, Ev.step (fun k => slices_Equal_uint32_uint32_eq k a b) h1, h2⟩
theorem ref_Same_sp (v w : RatD) (h1 : v.2.1.length < 4611686018427387904) (h2 : v.2.2.1.length < 4611686018427387904) : Ev (fun k => isochroneref02_Same k v w) (decide (v = w)) := by
  obtain ⟨a, x, y, _⟩ := v
  obtain ⟨b, x', y', _⟩ := w
  obtain ⟨r, r1, r2⟩ := q_Equal x x' h1
  obtain ⟨s, s1, s2⟩ := q_Equal y y' h2
  have er : r = decide (x = x') := by
    by_cases c : x = x'
    · rw [decide_eq_true c]; exact r2.2 c
    · rw [decide_eq_false c]; exact Bool.eq_false_iff.2 (fun e => c (r2.1 e))
  have es : s = decide (y = y') := by
    by_cases c : y = y'
    · rw [decide_eq_true c]; exact s2.2 c
    · rw [decide_eq_false c]; exact Bool.eq_false_iff.2 (fun e => c (s2.1 e))
  have e : decide ((a, x, y, ()) = ((b, x', y', ()) : RatD)) = ((a == b) && r && s) := by
    rw [er, es]
    have : (a == b) = decide (a = b) := by cases a <;> cases b <;> rfl
    rw [this, ← Bool.decide_and, ← Bool.decide_and]
    refine decide_eq_decide.2 ?_
    simp [and_assoc]
  rw [e]
  refine Ev.step (fun k => isochroneref02_Same_eq k _ _) (Ev.bind (a := (a == b) && r) ?_ (Ev.bind (a := (a == b) && r && s) ?_ (evs _)))
  · by_cases c : (a == b) = true
    · rw [c]
      exact bT rfl (Ev.bind r1 (by rw [Bool.true_and]; exact evs _))
    · rw [Bool.eq_false_iff.2 c]
      exact bF rfl (evs _)
  · by_cases c : ((a == b) && r) = true
    · rw [c]
      exact bT rfl (Ev.bind s1 (by rw [Bool.true_and]; exact evs _))
    · rw [Bool.eq_false_iff.2 c]
      exact bF rfl (evs _)
theorem ref_Is_sp (hv : RB WW v p) (hw : RB RR w p) (hp : Sz RR K p) (h : K < 1073741824) (hl : v.2.1.length < 4611686018427387904) (hl' : v.2.2.1.length < 4611686018427387904) : Ev (fun k => isochroneref02_Is k v w) true := by
  obtain ⟨r, r1, r2⟩ := ref_To_sp hw hp h
  have e := ref_Same_sp v r hl hl'
  rw [decide_eq_true (rb_uniq WW_pos hv r2)] at e
  exact Ev.step (fun k => isochroneref02_Is_eq k v w) (Ev.bind r1 (Ev.bind e (evs _)))
end
end Go.Proofs.Ytfpolhoabfadnaa.Q
end
section
namespace Go.Proofs.Ytfpolhoabfadnaa.Q
open Go.RowKit Go.Proofs.YtfpolhoabfadnaaW.PrintWords Go.Proofs.YtfpolhoabfadnaaW.PrintMore Go.Proofs.Ytfpolhoabfadnaa.V Go.Proofs.Ytfpolhoabfadnaa.E
open Go.Proofs.Ytfpolhoabfadnaa.P (Dg Nm vl WW RR can_uniq gI evs evk evb cmpi WW_pos WW_one RR_pos w64 u64)
set_option linter.unusedVariables false
def Arg (v : RatD) : Prop := Dg WW v.2.1 ∧ Dg WW v.2.2.1 ∧ True ∧ True
def Vd (v : RatD) : Prop := ∃ q, RB WW v q ∧ Sz WW 4096 q
section
variable {v w : RatD} {p q : Rat} {K L : Nat}
theorem gcd_num_den (q : Rat) : gI (q.num.natAbs : Int) q.den = 1 := by
  unfold P.gI
  have := q.reduced
  unfold Nat.Coprime at this
  simp only [Int.gcd, Int.natAbs_natCast, this]
  rfl
theorem val_iff {s : Bool} {a b : List Int} (da : Dg WW a) (db : Dg WW b) : (∃ q, RB WW (s, a, b, ()) q) ↔ Nm a ∧ Nm b ∧ vl WW b ≠ 0 ∧ (vl WW a = 0 → s = false ∧ vl WW b = 1) ∧ (vl WW a ≠ 0 → gI (vl WW a) (vl WW b) = 1) := by
  constructor
  · rintro ⟨q, h1, h2, h3⟩
    have e2 : vl WW a = (q.num.natAbs : Int) := h2.2.2
    have e3 : vl WW b = (q.den : Int) := h3.2.2
    have dp := den_pos' q
    refine ⟨h2.2.1, h3.2.1, by omega, fun h => ?_, fun h => ?_⟩
    · have h0 : q = 0 := Rat.num_eq_zero.1 (by omega)
      refine ⟨?_, ?_⟩
      · have : s = decide (q.num < 0) := h1
        rw [this, h0]; rfl
      · rw [e3, h0]; rfl
    · rw [e2, e3]
      exact gcd_num_den q
  · rintro ⟨na, nb, hb, h0, h1⟩
    have a0 := P.vl_nonneg WW_pos da
    have b0 := P.vl_nonneg WW_pos db
    by_cases c : vl WW a = 0
    · obtain ⟨rfl, e⟩ := h0 c
      refine ⟨0, rfl, ?_, ?_⟩
      · exact ⟨da, na, c⟩
      · exact ⟨db, nb, e⟩
    · have g := h1 c
      refine ⟨Rat.divInt (sg s (vl WW a)) (vl WW b), rb_frac (by omega) (by omega) ?_ ?_⟩
      · rw [g, Int.ediv_one]; exact ⟨da, na, rfl⟩
      · rw [g, Int.ediv_one]; exact ⟨db, nb, rfl⟩
theorem vd_iff (ha : Arg v) : Vd v ↔ v.2.1.length ≤ 4096 ∧ v.2.2.1.length ≤ 4096 ∧ Nm v.2.1 ∧ Nm v.2.2.1 ∧ vl WW v.2.2.1 ≠ 0 ∧ (vl WW v.2.1 = 0 → v.1 = false ∧ vl WW v.2.2.1 = 1) ∧ (vl WW v.2.1 ≠ 0 → gI (vl WW v.2.1) (vl WW v.2.2.1) = 1) := by
  obtain ⟨s, a, b, _⟩ := v
  have h := val_iff (s := s) ha.1 ha.2.1
  constructor
  · rintro ⟨q, h1, h2⟩
    obtain ⟨l1, l2⟩ := sz_len WW_one h1 h2
    exact ⟨l1, l2, h.1 ⟨q, h1⟩⟩
  · rintro ⟨l1, l2, h3⟩
    obtain ⟨q, hq⟩ := h.2 h3
    exact ⟨q, hq, sz_of WW_pos hq l1 l2⟩
theorem valid_any (l : List Int) : ∃ b, P.isochroneref01_Valid.f l = some b ∧ P.nat_Valid.f l = some b ∧ (b = true ↔ l.length ≤ 4096 ∧ Nm l) := by
  by_cases h1 : l.length ≤ 4096
  · exact P.valid_sp l (by omega)
  · refine ⟨false, ?_, ?_, by simp; omega⟩
    · unfold P.isochroneref01_Valid.f
      rw [if_neg (by omega)]
    · unfold P.nat_Valid.f
      rw [if_neg (by omega)]
theorem num_valid_sp (l : List Int) (hl : True) : ∃ t, Ev (fun k => num_valid k l 4096) t ∧ (t = true ↔ l.length ≤ 4096 ∧ Nm l) := by
  by_cases h1 : l.length ≤ 4096
  · by_cases h0 : l.length = 0
    · have : l = [] := List.eq_nil_of_length_eq_zero h0
      subst this
      exact ⟨true, Ev.step (fun k => num_valid_eq k _ _) (Ev.bind (bT rfl (Ev.bind (bT rfl (evs _)) (evs _))) (evs _)), by simp; exact P.Nm.nil⟩
    · have e : wrap64 ((l.length : Int) - 1) = (l.length : Int) - 1 := w64 (by omega) (by omega)
      refine ⟨rd l ((l.length : Int) - 1) != 0, Ev.step (fun k => num_valid_eq k _ _) (Ev.bind (bT (decide_eq_true (by omega)) (Ev.bind (bF (by simp; intro e; exact h0 (by simp [e])) ?_) (evs _))) (evs _)), ?_⟩
      · rw [e]
        exact iT (by omega) (evs _)
      · simp only [bne_iff_ne]
        exact ⟨fun h => ⟨h1, P.nm_of_rd (fun _ => h)⟩, fun h => h.2.rd (by omega)⟩
  · exact ⟨false, Ev.step (fun k => num_valid_eq k _ _) (Ev.bind (bF (decide_eq_false (by omega)) (evs _)) (evs _)), by simp; omega⟩
theorem vl0_iff {l : List Int} (hd : Dg WW l) (hn : Nm l) : l.length = 0 ↔ vl WW l = 0 := (show P.Can WW l (vl WW l) from ⟨hd, hn, rfl⟩).len_iff WW_pos
theorem beq_len {l : List Int} (hd : Dg WW l) (hn : Nm l) : ((List.length l : Int) == (0 : Int)) = decide (vl WW l = 0) := by
  by_cases c : vl WW l = 0
  · have := (vl0_iff hd hn).2 c
    rw [decide_eq_true c]; simp [List.eq_nil_of_length_eq_zero this]
  · rw [decide_eq_false c]; exact len_ne WW_pos ⟨hd, hn, rfl⟩ c
theorem rat_Valid_sp (ha : Arg v) : ∃ t, Ev (fun k => rat_Valid k v) t ∧ (t = true ↔ Vd v) := by
  have hiff := vd_iff ha
  obtain ⟨da, db, la, lb⟩ := ha
  obtain ⟨s, a, b, _⟩ := v
  obtain ⟨t1, e1, i1⟩ := num_valid_sp a la
  obtain ⟨t2, e2, i2⟩ := num_valid_sp b lb
  refine (show ∃ t, Ev (fun k => num_Valid k (s, a, b, ()) 4096) t ∧ (t = true ↔ Vd (s, a, b, ())) from ?_).elim fun t h => ⟨t, Ev.step (fun k => rat_Valid_eq k _) (Ev.bind h.1 (evs _)), h.2⟩
  by_cases c1 : a.length ≤ 4096 ∧ Nm a
  · by_cases c2 : b.length ≤ 4096 ∧ Nm b
    · obtain rfl := i1.2 c1
      obtain rfl := i2.2 c2
      have hb0 := beq_len db c2.2
      have ca : P.Can WW a (vl WW a) := ⟨da, c1.2, rfl⟩
      have cb : P.Can WW b (vl WW b) := ⟨db, c2.2, rfl⟩
      have h1 := is_one' cb
      by_cases c3 : vl WW b = 0
      · refine ⟨false, Ev.step (fun k => num_Valid_eq k _ _) (Ev.bind e1 (Ev.bind (a := false) (bF rfl (Ev.bind e2 (evs _))) (Ev.bind (a := true) (bF rfl ?_) (bT rfl (evs _))))), ?_⟩
        · rw [hb0, decide_eq_true c3]; exact evs _
        · rw [hiff]; simp [c3]
      · refine (?_ : ∃ t, Ev (fun k => bif (List.length a : Int) == (0 : Int) then _ else _) t ∧ _).elim fun t h => ⟨t, Ev.step (fun k => num_Valid_eq k _ _) (Ev.bind e1 (Ev.bind (a := false) (bF rfl (Ev.bind e2 (evs _))) (Ev.bind (a := false) (bF rfl ?_) (bF rfl h.1)))), h.2⟩
        · by_cases c4 : vl WW a = 0
          · have ha0 : ((List.length a : Int) == (0 : Int)) = true := by rw [beq_len da c1.2]; exact decide_eq_true c4
            cases s with
            | true =>
              refine ⟨false, bT ha0 (Ev.bind (a := false) (bF rfl (evs _)) (Ev.bind (bF rfl (evs _)) (evs _))), ?_⟩
              rw [hiff]; simp [c4]
            | false =>
              refine ⟨decide (vl WW b = 1), bT ha0 ?_, ?_⟩
              · by_cases c5 : ((List.length b : Int) == (1 : Int)) = true
                · rw [c5] at h1
                  refine Ev.bind (a := true) (bT rfl (by rw [show (List.length (false, a, b, ()).2.2.1 : Int) = (List.length b : Int) from rfl, c5]; exact evs _)) (Ev.bind (bT rfl ?_) (evs _))
                  have h1' : (if 0 ≤ (0 : Int) ∧ (0 : Int) < (List.length b : Int) then some ((rdT (t := (.int .u32)) b (0 : Int) : Int) == (1 : Int)) else none) = some (decide (vl WW b = 1)) := h1
                  exact evk h1'
                · have c6 := Bool.eq_false_iff.2 c5
                  rw [c6] at h1
                  have h1' : some false = some (decide (vl WW b = 1)) := h1
                  rw [← Option.some.inj h1']
                  exact Ev.bind (a := false) (bT rfl (by rw [show (List.length (false, a, b, ()).2.2.1 : Int) = (List.length b : Int) from rfl, c6]; exact evs _)) (Ev.bind (bF rfl (evs _)) (evs _))
              · rw [hiff, decide_eq_true_eq]
                simp [c4, c1, c2, c3]
          · have ha0 : ((List.length a : Int) == (0 : Int)) = false := len_ne WW_pos ca c4
            by_cases c5 : vl WW b = 1
            · refine ⟨true, bF ha0 (Ev.bind (evk h1) (bT (decide_eq_true c5) (evs _))), ?_⟩
              rw [hiff]
              have : gI (vl WW a) 1 = 1 := by unfold P.gI; simp
              simp [c4, c1, c2, c5, this]
            · obtain ⟨g, g1, g2⟩ := q_GCD (by omega) (by omega) ca cb
              have h2 := is_one' g2
              refine ⟨decide (gI (vl WW a) (vl WW b) = 1), bF ha0 (Ev.bind (evk h1) (bF (decide_eq_false c5) (Ev.bind g1 (Ev.bind (evk h2) (evs _))))), ?_⟩
              rw [hiff, decide_eq_true_eq]
              simp [c4, c1, c2, c3]
        · rw [hb0, decide_eq_false c3]; exact evs _
    · obtain rfl := i1.2 c1
      have : t2 = false := Bool.eq_false_iff.2 (fun e => c2 (i2.1 e))
      subst this
      refine ⟨false, Ev.step (fun k => num_Valid_eq k _ _) (Ev.bind e1 (Ev.bind (a := true) (bF rfl (Ev.bind e2 (evs _))) (Ev.bind (a := true) (bT rfl (evs _)) (bT rfl (evs _))))), ?_⟩
      rw [hiff]
      simp
      intro h1 h2 h3 h4
      exact absurd ⟨h2, h4⟩ c2
  · have : t1 = false := Bool.eq_false_iff.2 (fun e => c1 (i1.1 e))
    subst this
    refine ⟨false, Ev.step (fun k => num_Valid_eq k _ _) (Ev.bind e1 (Ev.bind (a := true) (bT rfl (evs _)) (Ev.bind (a := true) (bT rfl (evs _)) (bT rfl (evs _))))), ?_⟩
    rw [hiff]
    simp
    intro h1 h2 h3 h4
    exact absurd ⟨h1, h3⟩ c1
end
end Go.Proofs.Ytfpolhoabfadnaa.Q
end
section
namespace Go.Proofs.Ytfpolhoabfadnaa.Q
open Go.RowKit Go.Proofs.YtfpolhoabfadnaaW.PrintWords Go.Proofs.YtfpolhoabfadnaaW.PrintMore Go.Proofs.Ytfpolhoabfadnaa.V Go.Proofs.Ytfpolhoabfadnaa.E
open Go.Proofs.Ytfpolhoabfadnaa.P (Dg Nm vl WW RR can_uniq gI evs evk evb cmpi WW_pos WW_one RR_pos w64 u64)
set_option linter.unusedVariables false
section
variable {v w : RatD} {p q : Rat} {K L : Nat}
theorem s_Valid (l : List Int) (hl : True) : ∃ t, Ev (fun k => isochroneref01_Valid k l) t ∧ (t = true ↔ l.length ≤ 4096 ∧ Nm l) := by
  obtain ⟨t, h1, h2, h3⟩ := valid_any l
  exact ⟨t, Ev.step (fun k => isochroneref01_Valid_eq k l) (evk h1), h3⟩
theorem cmpi_beq (x y : Int) : (cmpi x y == (0 : Int)) = decide (x = y) := by
  unfold P.cmpi
  by_cases a : x < y
  · rw [if_pos a, decide_eq_false (by omega)]; rfl
  · by_cases b : x = y
    · rw [if_neg a, if_pos b, decide_eq_true b]; rfl
    · rw [if_neg a, if_neg b, decide_eq_false b]; rfl
theorem ref_Valid_sp (ha : Arg v) : ∃ t, Ev (fun k => isochroneref02_Valid k v) t ∧ (t = true ↔ Vd v) := by
  have hiff := vd_iff ha
  obtain ⟨da, db, la, lb⟩ := ha
  obtain ⟨s, a, b, _⟩ := v
  obtain ⟨t1, e1, i1⟩ := s_Valid a la
  obtain ⟨t2, e2, i2⟩ := s_Valid b lb
  by_cases c1 : a.length ≤ 4096 ∧ Nm a
  · by_cases c2 : b.length ≤ 4096 ∧ Nm b
    · obtain rfl := i1.2 c1
      obtain rfl := i2.2 c2
      have hb0 := beq_len db c2.2
      have ca : P.Can WW a (vl WW a) := ⟨da, c1.2, rfl⟩
      have cb : P.Can WW b (vl WW b) := ⟨db, c2.2, rfl⟩
      have h1 := is_one' cb
      by_cases c3 : vl WW b = 0
      · refine ⟨false, Ev.step (fun k => isochroneref02_Valid_eq k _) (Ev.bind e1 (Ev.bind (a := false) (bF rfl (Ev.bind e2 (evs _))) (Ev.bind (a := true) (bF rfl ?_) (bT rfl (evs _))))), ?_⟩
        · rw [hb0, decide_eq_true c3]; exact evs _
        · rw [hiff]; simp [c3]
      · refine (?_ : ∃ t, Ev (fun k => bif (List.length a : Int) == (0 : Int) then _ else _) t ∧ _).elim fun t h => ⟨t, Ev.step (fun k => isochroneref02_Valid_eq k _) (Ev.bind e1 (Ev.bind (a := false) (bF rfl (Ev.bind e2 (evs _))) (Ev.bind (a := false) (bF rfl ?_) (bF rfl h.1)))), h.2⟩
        · by_cases c4 : vl WW a = 0
          · have ha0 : ((List.length a : Int) == (0 : Int)) = true := by rw [beq_len da c1.2]; exact decide_eq_true c4
            cases s with
            | true =>
              refine ⟨false, bT ha0 (Ev.bind (a := false) (bF rfl (evs _)) (Ev.bind (bF rfl (evs _)) (evs _))), ?_⟩
              rw [hiff]; simp [c4]
            | false =>
              refine ⟨decide (vl WW b = 1), bT ha0 ?_, ?_⟩
              · by_cases c5 : ((List.length b : Int) == (1 : Int)) = true
                · rw [c5] at h1
                  refine Ev.bind (a := true) (bT rfl (by rw [show (List.length (false, a, b, ()).2.2.1 : Int) = (List.length b : Int) from rfl, c5]; exact evs _)) (Ev.bind (bT rfl ?_) (evs _))
                  have h1' : (if 0 ≤ (0 : Int) ∧ (0 : Int) < (List.length b : Int) then some ((rdT (t := (.int .u32)) b (0 : Int) : Int) == (1 : Int)) else none) = some (decide (vl WW b = 1)) := h1
                  exact evk h1'
                · have c6 := Bool.eq_false_iff.2 c5
                  rw [c6] at h1
                  have h1' : some false = some (decide (vl WW b = 1)) := h1
                  rw [← Option.some.inj h1']
                  exact Ev.bind (a := false) (bT rfl (by rw [show (List.length (false, a, b, ()).2.2.1 : Int) = (List.length b : Int) from rfl, c6]; exact evs _)) (Ev.bind (bF rfl (evs _)) (evs _))
              · rw [hiff, decide_eq_true_eq]
                simp [c4, c1, c2, c3]
          · have ha0 : ((List.length a : Int) == (0 : Int)) = false := len_ne WW_pos ca c4
            obtain ⟨x, x1, x2, x3⟩ := s_Of (by omega) ca
            obtain ⟨y, y1, y2, y3⟩ := s_Of (by omega) cb
            obtain ⟨g, g1, g2⟩ := s_GCD (by omega) (by omega) x2 y2
            have b0 : 0 < vl WW b := by
              have h0 : (0 : Int) ≤ vl WW b := P.vl_nonneg WW_pos db
              omega
            have gl : g.length < 4611686018427387904 := by
              have := g2.len_le RR_one (Int.lt_of_le_of_lt (P.gI_le b0) (y2.lt RR_pos))
              omega
            have h2 := s_Cmp gl g2 (can1 RR_one)
            refine ⟨decide (gI (vl WW a) (vl WW b) = 1), bF ha0 (Ev.bind x1 (Ev.bind y1 (Ev.bind g1 (Ev.bind h2 ?_)))), ?_⟩
            · rw [cmpi_beq]; exact evs _
            · rw [hiff, decide_eq_true_eq]
              simp [c4, c1, c2, c3]
        · rw [hb0, decide_eq_false c3]; exact evs _
    · obtain rfl := i1.2 c1
      have : t2 = false := Bool.eq_false_iff.2 (fun e => c2 (i2.1 e))
      subst this
      refine ⟨false, Ev.step (fun k => isochroneref02_Valid_eq k _) (Ev.bind e1 (Ev.bind (a := true) (bF rfl (Ev.bind e2 (evs _))) (Ev.bind (a := true) (bT rfl (evs _)) (bT rfl (evs _))))), ?_⟩
      rw [hiff]
      simp
      intro h1 h2 h3 h4
      exact absurd ⟨h2, h4⟩ c2
  · have : t1 = false := Bool.eq_false_iff.2 (fun e => c1 (i1.1 e))
    subst this
    refine ⟨false, Ev.step (fun k => isochroneref02_Valid_eq k _) (Ev.bind e1 (Ev.bind (a := true) (bT rfl (evs _)) (Ev.bind (a := true) (bT rfl (evs _)) (bT rfl (evs _))))), ?_⟩
    rw [hiff]
    simp
    intro h1 h2 h3 h4
    exact absurd ⟨h1, h3⟩ c1
theorem ref_Short_sp (v : RatD) (N : Nat) : Ev (fun k => isochroneref02_Short k v (N : Int)) (decide (v.2.1.length ≤ N ∧ v.2.2.1.length ≤ N)) := by
  refine Ev.step (fun k => isochroneref02_Short_eq k v _) (Ev.bind ?_ (evs _))
  by_cases c : v.2.1.length ≤ N
  · refine bT (decide_eq_true (by omega)) ?_
    have : decide ((List.length v.2.2.1 : Int) ≤ N) = decide (v.2.1.length ≤ N ∧ v.2.2.1.length ≤ N) := decide_eq_decide.2 (by omega)
    rw [this]
    exact evs _
  · have : decide (v.2.1.length ≤ N ∧ v.2.2.1.length ≤ N) = false := decide_eq_false (fun h => c h.1)
    rw [this]
    exact bF (decide_eq_false (by omega)) (evs _)
abbrev nothing : RatD := (false, [], [], ())
theorem ref_None_ev : Ev (fun k => isochroneref02_None k nothing) true := Ev.step (fun k => isochroneref02_None_eq k _) (Ev.bind (bT rfl (evs _)) (Ev.bind (bT rfl (evs _)) (evs _)))
theorem small_sp (N : Nat) (hv : Arg v) (hw : Arg w) : ∃ t, Ev (fun k => isochronelaw02_small k v w (N : Int)) t ∧ (t = true → ∃ p q, RB WW v p ∧ RB WW w q ∧ Sz WW N p ∧ Sz WW N q ∧ Sz WW 4096 p ∧ Sz WW 4096 q) := by
  obtain ⟨t1, e1, i1⟩ := ref_Valid_sp hv
  obtain ⟨t2, e2, i2⟩ := ref_Valid_sp hw
  have h1 := ref_Short_sp v N
  have h2 := ref_Short_sp w N
  generalize hs1 : decide (v.2.1.length ≤ N ∧ v.2.2.1.length ≤ N) = s1 at h1
  generalize hs2 : decide (w.2.1.length ≤ N ∧ w.2.2.1.length ≤ N) = s2 at h2
  refine ⟨s1 && s2 && t1 && t2, Ev.step (fun k => isochronelaw02_small_eq k v w _) (Ev.bind h1 (Ev.bind (a := s1 && s2) ?_ (Ev.bind (a := s1 && s2 && t1) ?_ (Ev.bind (a := s1 && s2 && t1 && t2) ?_ (evs _))))), ?_⟩
  · cases s1 with
    | true => exact bT rfl (Ev.bind h2 (by rw [Bool.true_and]; exact evs _))
    | false => exact bF rfl (evs _)
  · cases s1 && s2 with
    | true => exact bT rfl (Ev.bind e1 (by rw [Bool.true_and]; exact evs _))
    | false => exact bF rfl (evs _)
  · cases s1 && s2 && t1 with
    | true => exact bT rfl (Ev.bind e2 (by rw [Bool.true_and]; exact evs _))
    | false => exact bF rfl (evs _)
  · intro h
    simp only [Bool.and_eq_true] at h
    obtain ⟨⟨⟨a1, a2⟩, a3⟩, a4⟩ := h
    rw [a1, decide_eq_true_eq] at hs1
    rw [a2, decide_eq_true_eq] at hs2
    obtain ⟨p, p1, p2⟩ := i1.1 a3
    obtain ⟨q, q1, q2⟩ := i2.1 a4
    exact ⟨p, q, p1, q1, sz_of WW_pos p1 hs1.1 hs1.2, sz_of WW_pos q1 hs2.1 hs2.2, p2, q2⟩
theorem rat_limited_sp (hv : RB WW v p) (h : Sz WW 4096 p) : Ev (fun k => rat_limited k v) (v, 0, ()) := by
  obtain ⟨t, t1, t2⟩ := num_Fits_sp hv 4096
  obtain rfl := t2.2 h
  exact Ev.step (fun k => rat_limited_eq k v) (Ev.bind t1 (bF rfl (evs _)))
theorem rat_Valid_ev (ha : Arg v) (h : Vd v) : Ev (fun k => rat_Valid k v) true := by
  obtain ⟨t, t1, t2⟩ := rat_Valid_sp ha
  rw [t2.2 h] at t1
  exact t1
theorem arg_of (hv : RB WW v p) (hp : Sz WW K p) (h : K < 4611686018427387904) : Arg v := by
  obtain ⟨l1, l2⟩ := sz_len WW_one hv hp
  exact ⟨hv.2.1.1, hv.2.2.1, trivial, trivial⟩
theorem rat_Add_sp (hv : RB WW v p) (hw : RB WW w q) (hp : Sz WW K p) (hq : Sz WW L q) (h : K + L + 1 ≤ 4096) : ∃ r, Ev (fun k => rat_Add k v w) (r, 0, ()) ∧ RB WW r (p + q) ∧ Sz WW (K + L + 1) (p + q) := by
  obtain ⟨r, r1, r2, r3⟩ := num_Add_sp hv hw hp hq (by omega)
  have a1 := rat_Valid_ev (arg_of hv hp (by omega)) ⟨p, hv, sz_mono WW_pos hp (by omega)⟩
  have a2 := rat_Valid_ev (arg_of hw hq (by omega)) ⟨q, hw, sz_mono WW_pos hq (by omega)⟩
  have a3 := rat_limited_sp r2 (sz_mono WW_pos r3 h)
  exact ⟨r, Ev.step (fun k => rat_Add_eq k v w) (Ev.bind (Ev.step (fun k => rat_pair_num_Add_eq k v w) (Ev.bind a1 (Ev.bind (a := false) (bF rfl (Ev.bind a2 (evs _))) (bF rfl (Ev.bind r1 (Ev.bind a3 (evs _))))))) (evs _)), r2, r3⟩
theorem sgn_zero : (sgn q == (0 : Int)) = decide (q = 0) := by
  rcases sgn_vals q with ⟨h1, h2⟩ | ⟨h1, h2⟩ | ⟨h1, h2⟩
  · rw [h1, decide_eq_false (Rat.ne_of_lt h2)]; rfl
  · rw [h1, decide_eq_true h2]; rfl
  · rw [h1, decide_eq_false (Rat.ne_of_gt h2)]; rfl
end
end Go.Proofs.Ytfpolhoabfadnaa.Q
end
section
namespace Go.Proofs.Ytfpolhoabfadnaa.P
open Go.RowKit Go.Proofs.YtfpolhoabfadnaaW.PrintWords Go.Proofs.YtfpolhoabfadnaaW.PrintLast Go.Proofs.YtfpolhoabfadnaaW.PrintMore
set_option linter.unusedVariables false
theorem bt_nums (l : List Int) (i : Nat) (h : i < l.length) (h0 : 0 ≤ l[i]) (h1 : l[i] < 256) : bt (strOfNums l) (i : Int) = l[i] := by
  have hs : (strOfNums l).size = l.length := strOfNums_size l
  unfold bt
  rw [dif_pos (by rw [Int.toNat_natCast, hs]; exact h)]
  have e : (strOfNums l)[(i : Int).toNat]'(by rw [Int.toNat_natCast, hs]; exact h) = UInt8.ofNat (l[i]).toNat := by
    show (List.map (fun n => UInt8.ofNat n.toNat) l).toArray[(i : Int).toNat]'_ = _
    simp
  rw [e]
  have : (UInt8.ofNat (l[i]).toNat).toNat = (l[i]).toNat % 256 := by simp
  rw [this]
  omega
theorem asc_get (D : List Int) (i : Nat) (h : i < D.length) : (asc D)[i]'(by rw [asc_len]; exact h) = rd D ((D.length - 1 - i : Nat) : Int) + 48 := by
  rw [rd_lt D _ (by omega)]
  simp [asc]
theorem asc_dig {D : List Int} (hD : Dg TT D) (i : Nat) (h : i < D.length) : bt (strOfNums (asc D)) (i : Int) = rd D ((D.length - 1 - i : Nat) : Int) + 48 ∧ Dig (strOfNums (asc D)) i := by
  have hx := dg_rd hD ((D.length - 1 - i : Nat) : Int) (by omega) (by omega)
  rw [TT_eq] at hx
  have e := asc_get D i h
  have b := bt_nums (asc D) i (by rw [asc_len]; exact h) (by rw [e]; omega) (by rw [e]; omega)
  rw [e] at b
  exact ⟨b, by unfold Dig; rw [b]; omega⟩
theorem asc_sv {D : List Int} (hD : Dg TT D) (i : Nat) (h : i ≤ D.length) : sv (strOfNums (asc D)) i = vl TT (D.drop (D.length - i)) := by
  induction i with
  | zero => rw [Nat.sub_zero, List.drop_length]; rfl
  | succ i ih =>
    have e : sv (strOfNums (asc D)) (i + 1) = sv (strOfNums (asc D)) i * 10 + (bt (strOfNums (asc D)) (i : Int) - 48) := rfl
    rw [e, ih (by omega), (asc_dig hD i (by omega)).1, drop_rd D (D.length - (i + 1)) (by omega), vl, show D.length - (i + 1) + 1 = D.length - i by omega, show D.length - 1 - i = D.length - (i + 1) by omega, TT_eq]
    omega
theorem asc_all {D : List Int} {n : Int} (hD : Can TT D n) : (strOfNums (asc D)).size = D.length ∧ (∀ p, p < (strOfNums (asc D)).size → Dig (strOfNums (asc D)) p) ∧ sv (strOfNums (asc D)) (strOfNums (asc D)).size = n := by
  have hs : (strOfNums (asc D)).size = D.length := by rw [strOfNums_size, asc_len]
  refine ⟨hs, fun p hp => (asc_dig hD.1 p (by omega)).2, ?_⟩
  rw [hs, asc_sv hD.1 _ (Nat.le_refl _), Nat.sub_self, List.drop_zero, hD.2.2]
end Go.Proofs.Ytfpolhoabfadnaa.P
end
section
namespace Go.Proofs.Ytfpolhoabfadnaa.Q
open Go.RowKit Go.Proofs.YtfpolhoabfadnaaW.PrintWords Go.Proofs.YtfpolhoabfadnaaW.PrintMore Go.Proofs.Ytfpolhoabfadnaa.V Go.Proofs.Ytfpolhoabfadnaa.E
open Go.Proofs.Ytfpolhoabfadnaa.P (Dg Nm vl WW RR TT asc can_uniq gI evs evk evb cmpi WW_pos WW_one RR_pos w64 u64)
set_option linter.unusedVariables false
theorem rat_Text_eq (k : Nat) (y : RatD) : rat_Text (k + 1) y =
    (rat_Valid k y).bind fun (ok : Bool) => bif ok then
      (nat_Text k y.2.1).bind fun (n : ByteArray × Int × Unit) =>
      (num_Whole k y).bind fun (wh : Bool) => bif wh then
        if n.1.size + 2 ≤ 140737488355328 then some (bif y.1 then (⟨#[45]⟩ : ByteArray) ++ n.1 else n.1, 0, ()) else none
      else
        (nat_Text k y.2.2.1).bind fun (d : ByteArray × Int × Unit) =>
        if n.1.size + d.1.size + 2 ≤ 140737488355328 then some (bif y.1 then (⟨#[45]⟩ : ByteArray) ++ n.1 ++ ((⟨#[47]⟩ : ByteArray) ++ d.1) else n.1 ++ ((⟨#[47]⟩ : ByteArray) ++ d.1), 0, ()) else none
    else some ((⟨#[]⟩ : ByteArray), 3, ()) := by
  kernel_rfl
def Txt (n : Int) (s : ByteArray) : Prop := (n = 0 ∧ s = ⟨#[48]⟩) ∨ (0 < n ∧ ∃ D, P.Can TT D n ∧ D ≠ [] ∧ D.length ≤ 576 ∧ s = strOfNums (asc D))
theorem Txt.size {n : Int} {s : ByteArray} (h : Txt n s) : s.size ≤ 576 := by
  rcases h with ⟨_, rfl⟩ | ⟨_, D, h1, h2, h3, rfl⟩
  · decide
  · rw [(P.asc_all h1).1]
    exact h3
theorem q_Text {a : List Int} {n : Int} (hl : a.length ≤ 40) (ha : P.Can WW a n) : ∃ s, Ev (fun k => nat_Text k a) (s, 0, ()) ∧ Txt n s := by
  have n0 := ha.nonneg WW_pos
  by_cases c : n = 0
  · obtain rfl := len_eq WW_pos ha c
    refine ⟨⟨#[48]⟩, Ev.step (fun k => nat_Text_eq k _) (evmap (g := fun r : ByteArray × Int => (r.1, r.2, ())) (r := ((⟨#[48]⟩ : ByteArray), 0)) ?_), .inl ⟨c, rfl⟩⟩
    unfold P.nat_Text.f
    obtain ⟨t, h1, h2, h3⟩ := P.valid_sp [] (by simp)
    obtain rfl := h3.2 ⟨by simp, P.Nm.nil⟩
    exact evb h2 (P.evp rfl (P.evp rfl (evs _)))
  · obtain ⟨D, d1, d2, d3, d4⟩ := P.nat_Text_sp hl ha (by omega)
    exact ⟨_, Ev.step (fun k => nat_Text_eq k _) (evmap (g := fun r : ByteArray × Int => (r.1, r.2, ())) d1), .inr ⟨by omega, D, d2, d3, d4, rfl⟩⟩
section
variable {v w : RatD} {p q : Rat} {K L : Nat}
theorem num_Whole_sp (hv : RB WW v p) : Ev (fun k => num_Whole k v) (decide (p.den = 1)) := by
  have h := is_one' hv.2.2
  have e : decide ((p.den : Int) = 1) = decide (p.den = 1) := decide_eq_decide.2 (by omega)
  rw [e] at h
  exact Ev.step (fun k => num_Whole_eq k v) (Ev.bind (Ev.step (fun k => num_whole_eq k v) (Ev.bind (evk h) (evs _))) (evs _))
def RTxt (p : Rat) (s : ByteArray) : Prop := ∃ n d, Txt (p.num.natAbs : Int) n ∧ (p.den ≠ 1 → Txt (p.den : Int) d) ∧ s = (bif decide (p.num < 0) then (⟨#[45]⟩ : ByteArray) ++ n else n) ++ (if p.den = 1 then ⟨#[]⟩ else (⟨#[47]⟩ : ByteArray) ++ d)
theorem ba_empty (s : ByteArray) : s ++ (⟨#[]⟩ : ByteArray) = s := by
  apply ByteArray.ext
  simp [ByteArray.data_append]
theorem rat_Text_sp (hv : RB WW v p) (hp : Sz WW K p) (hK : K ≤ 40) : ∃ s, Ev (fun k => rat_Text k v) (s, 0, ()) ∧ RTxt p s := by
  obtain ⟨l1, l2⟩ := sz_len WW_one hv hp
  have a1 := rat_Valid_ev (arg_of hv hp (by omega)) ⟨p, hv, sz_mono WW_pos hp (by omega)⟩
  obtain ⟨n, n1, n2⟩ := q_Text (by omega) hv.2.1
  obtain ⟨d, d1, d2⟩ := q_Text (by omega) hv.2.2
  have w1 := num_Whole_sp hv
  have ns := n2.size
  have ds := d2.size
  by_cases c : p.den = 1
  · refine ⟨_, Ev.step (fun k => rat_Text_eq k v) (Ev.bind a1 (bT rfl (Ev.bind n1 (Ev.bind w1 (bT (decide_eq_true c) (iT (by simp only []; omega) (evs _))))))), n, d, n2, fun h => absurd c h, ?_⟩
    rw [if_pos c, ba_empty, hv.1]
  · refine ⟨_, Ev.step (fun k => rat_Text_eq k v) (Ev.bind a1 (bT rfl (Ev.bind n1 (Ev.bind w1 (bF (decide_eq_false c) (Ev.bind d1 (iT (by simp only []; omega) (evs _)))))))), n, d, n2, fun _ => d2, ?_⟩
    rw [if_neg c, hv.1]
    cases decide (p.num < 0) <;> rfl
end
theorem txt_digit {n : Int} {s : ByteArray} (h : Txt n s) (h0 : 0 < n) (h1 : n < 10) : s = strOfNums [n + 48] := by
  rcases h with ⟨e, _⟩ | ⟨_, D, d1, d2, d3, rfl⟩
  · omega
  · have c : P.Can TT [n] n := ⟨Dg.mk (by omega) (by have : TT = 10 := rfl; omega) (Dg.nil _), fun h => by simp; omega, by simp [vl]⟩
    rw [can_uniq (by decide) d1 c]
    rfl
theorem rb_words {B : Int} {a b : List Int} {x y : Int} (hx : 0 < x) (hy : 0 < y) (hg : gI x y = 1) (ha : P.Can B a x) (hb : P.Can B b y) (s : Bool) : RB B (s, a, b, ()) (Rat.divInt (sg s x) y) := rb_frac hx hy (by rw [hg, Int.ediv_one]; exact ha) (by rw [hg, Int.ediv_one]; exact hb)
theorem can_digit {B x : Int} (h0 : 0 < x) (h1 : x < B) : P.Can B [x] x := ⟨Dg.mk (by omega) h1 (Dg.nil _), fun h => by simp; omega, by simp [vl]⟩
theorem awake_ev : Ev (fun k => isochronelaw02_awake k) true := by
  have h2 := rb_words (B := WW) (a := [1]) (b := [2]) (x := 1) (y := 2) (by decide) (by decide) (by decide) (can_digit (by decide) (by decide)) (can_digit (by decide) (by decide)) false
  have h3 := rb_words (B := WW) (a := [1]) (b := [3]) (x := 1) (y := 3) (by decide) (by decide) (by decide) (can_digit (by decide) (by decide)) (can_digit (by decide) (by decide)) false
  have h6 := rb_words (B := WW) (a := [5]) (b := [6]) (x := 5) (y := 6) (by decide) (by decide) (by decide) (can_digit (by decide) (by decide)) (can_digit (by decide) (by decide)) false
  have e : Rat.divInt (sg false 1) 2 + Rat.divInt (sg false 1) 3 = Rat.divInt (sg false 5) 6 := by
    simp only [Rat.divInt_eq_div, sg]
    grind
  obtain ⟨r, r1, r2, r3⟩ := rat_Add_sp h2 h3 (sz_of WW_pos h2 (K := 1) (by simp) (by simp)) (sz_of WW_pos h3 (K := 1) (by simp) (by simp)) (by omega)
  rw [e] at r2 r3
  obtain rfl := rb_uniq WW_pos r2 h6
  obtain ⟨s, s1, n, d, n2, d2, es⟩ := rat_Text_sp r2 r3 (by omega)
  have en : (Rat.divInt (sg false 5) 6).num.natAbs = 5 := by rw [Rat.num_divInt]; rfl
  have en' : (Rat.divInt (sg false 5) 6).num = 5 := by rw [Rat.num_divInt]; rfl
  have ed : (Rat.divInt (sg false 5) 6).den = 6 := by rw [Rat.den_divInt]; rfl
  rw [en] at n2
  rw [ed] at d2
  have hn := txt_digit n2 (by decide) (by decide)
  have hd := txt_digit (d2 (by decide)) (by decide) (by decide)
  rw [en', ed, hn, hd] at es
  have es' : s.toList = (⟨#[53, 47, 54]⟩ : ByteArray).toList := by rw [es]; decide +kernel
  refine Ev.step (fun k => isochronelaw02_awake_eq k) (Ev.bind r1 (Ev.bind s1 (Ev.bind (bT rfl (evs _)) (Ev.bind (a := true) (bT rfl ?_) (evs _)))))
  have e3 : (s.toList == (⟨#[53, 47, 54]⟩ : ByteArray).toList) = true := by rw [es']; exact beq_self_eq_true _
  show Ev (fun _ => some (s.toList == (⟨#[53, 47, 54]⟩ : ByteArray).toList)) true
  rw [e3]
  exact evs _
end Go.Proofs.Ytfpolhoabfadnaa.Q
end
section
namespace Go.Proofs.Ytfpolhoabfadnaa.Q
open Go.RowKit Go.Proofs.YtfpolhoabfadnaaW.PrintWords Go.Proofs.YtfpolhoabfadnaaW.PrintMore Go.Proofs.Ytfpolhoabfadnaa.V Go.Proofs.Ytfpolhoabfadnaa.E
open Go.Proofs.Ytfpolhoabfadnaa.P (Dg WW dg_wf)
set_option linter.unusedVariables false
theorem tab_ok : tabOk T = true := by kernel_rfl
theorem mixed : T.P.follows .mixedOrders = true := by kernel_rfl
theorem noGo0 : (Try.prog.funcs.toList.all fun f => f.name != "runtime.NumGoroutine") = true := by kernel_rfl
theorem noGo (f : Nat) (fn : Func) (h : T.P.funcs[f]? = some fn) : fn.name ≠ "runtime.NumGoroutine" := by
  have h1 := List.all_eq_true.1 noGo0 fn (by
    rw [Array.mem_toList_iff]
    exact Array.mem_of_getElem? h)
  simpa using h1
theorem arg_rat {y : RatD} (h : Fine c_api_Rat y) : Arg y := by
  obtain ⟨_, h1, h2, _⟩ := h
  exact ⟨dg_wf h1.2, dg_wf h2.2, trivial, trivial⟩
theorem arg_int {k : IntKind} {n : Int} (h : Fine (.int k) n) : (Lit.int k n).wf = true := h
end Go.Proofs.Ytfpolhoabfadnaa.Q
end
section
namespace Go.Proofs.Ytfpolhoabfadnaa.Q
open Go.RowKit Go.Proofs.YtfpolhoabfadnaaW.PrintWords Go.Proofs.YtfpolhoabfadnaaW.PrintMore Go.Proofs.Ytfpolhoabfadnaa.V Go.Proofs.Ytfpolhoabfadnaa.E
open Go.Proofs.Ytfpolhoabfadnaa.P (Dg Nm vl WW RR TT asc can_uniq gI evs evk evb cmpi WW_pos WW_one RR_pos w64 u64)
set_option linter.unusedVariables false
section
variable {v w : RatD} {p q : Rat} {K L : Nat}
theorem is_ok (hv : RB WW v p) (hs : Sz WW K p) (hw : RB RR w p) (hp : Sz RR L p) (h : K < 1073741824) (h' : L < 1073741824) : Ev (fun k => isochroneref02_Is k v w) true := by
  obtain ⟨l1, l2⟩ := sz_len WW_one hv hs
  exact ref_Is_sp hv hw hp h' (by omega) (by omega)
end
end Go.Proofs.Ytfpolhoabfadnaa.Q
end
section
namespace Go.Proofs.Ytfpolhoabfadnaa.Q
open Go.RowKit Go.Proofs.YtfpolhoabfadnaaW.PrintWords Go.Proofs.YtfpolhoabfadnaaW.PrintMore Go.Proofs.Ytfpolhoabfadnaa.V Go.Proofs.Ytfpolhoabfadnaa.E
open Go.Proofs.Ytfpolhoabfadnaa.P (Dg Nm vl WW RR TT asc can_uniq gI evs evk evb cmpi WW_pos WW_one RR_pos w64 u64)
set_option linter.unusedVariables false
section
variable {v w : RatD} {p q : Rat} {K L : Nat}
theorem i64_range {n : Int} (h : (Lit.int .i64 n).wf = true) : -9223372036854775808 ≤ n ∧ n ≤ 9223372036854775807 := by
  have h2 : IntKind.i64.min = -9223372036854775808 := rfl
  have h3 : IntKind.i64.max = 9223372036854775807 := rfl
  simp only [Lit.wf, Bool.and_eq_true, decide_eq_true_eq, h2, h3] at h
  omega
end
end Go.Proofs.Ytfpolhoabfadnaa.Q
end
section
namespace Go.Proofs.Ytfpolhoabfadnaa.Q
open Go.RowKit Go.Proofs.YtfpolhoabfadnaaW.PrintWords Go.Proofs.YtfpolhoabfadnaaW.PrintMore Go.Proofs.Ytfpolhoabfadnaa.V Go.Proofs.Ytfpolhoabfadnaa.E
open Go.Proofs.Ytfpolhoabfadnaa.P (Dg Nm vl WW RR TT asc can_uniq gI evs evk evb cmpi WW_pos WW_one RR_pos w64 u64)
set_option linter.unusedVariables false
section
variable {v w : RatD} {p q : Rat} {K L : Nat}
def down (n : Nat) (p : Rat) : Rat := ((p * ((2 ^ n : Int) : Rat)).floor : Rat) / ((2 ^ n : Int) : Rat)
end
end Go.Proofs.Ytfpolhoabfadnaa.Q
end
section
namespace Go.Proofs.Ytfpolhoabfadnaa.Q
open Go.RowKit Go.Proofs.YtfpolhoabfadnaaW.PrintWords Go.Proofs.YtfpolhoabfadnaaW.PrintMore Go.Proofs.Ytfpolhoabfadnaa.V Go.Proofs.Ytfpolhoabfadnaa.E
open Go.Proofs.Ytfpolhoabfadnaa.P (Dg Nm vl WW RR TT asc can_uniq gI evs evk evb cmpi WW_pos WW_one RR_pos w64 u64)
set_option linter.unusedVariables false
section
variable {v w o r4 : RatD} {p q : Rat} {K L A C : Nat}
theorem pow_half (p q : Rat) (n : Nat) : (if n % 2 = 1 then q * p else q) * (p * p) ^ (n / 2) = q * p ^ n := by
  have h : ∀ m : Nat, (p * p) ^ m = p ^ (2 * m) := fun m => by
    induction m with
    | zero => simp
    | succ m ih => rw [Rat.pow_succ, ih, show 2 * (m + 1) = 2 * m + 1 + 1 by omega, Rat.pow_succ, Rat.pow_succ]; grind
  rw [h]
  by_cases c : n % 2 = 1
  · rw [if_pos c]
    obtain ⟨e⟩ : Nonempty (n = 2 * (n / 2) + 1) := ⟨by omega⟩
    rw [show p ^ n = p ^ (2 * (n / 2) + 1) from congrArg _ e, Rat.pow_succ]
    grind
  · rw [if_neg c, show 2 * (n / 2) = n by omega]
theorem num_Pow_l (n : Nat) : ∀ {v o : RatD} {p q : Rat} {A C : Nat}, n < 4294967296 → RB WW v p → Sz WW C p → RB WW o q → Sz WW A q → A + 4 * (C * n) < 1073741824 → ∃ r, Ev2 (fun k m => num_Pow.l0 k m (n : Int) v r4 o) r ∧ RB WW r (q * p ^ n) ∧ Sz WW (A + C * n) (q * p ^ n) := by
  induction n using Nat.strongRecOn with
  | _ n ih =>
    intro v o p q A C hn hv hp ho hq hb
    by_cases h0 : n = 0
    · subst h0
      refine ⟨o, Ev2.step (fun k m => num_Pow.l0_succ k m _ _ _ _) (Ev2.bF (decide_eq_false (by decide)) (Ev2.of (evs _))), ?_, ?_⟩
      · simpa using ho
      · simpa using hq
    · have es : shr .i64 (n : Int) (1 : Int) = ((n / 2 : Nat) : Int) := by
        rw [show (1 : Int) = ((1 : Nat) : Int) from rfl, P.shr_i64 (by omega)]
        omega
      have ea : Go.bits .and .i64 (n : Int) 1 = (n : Int) % 2 := P.and1 (by omega) (by omega)
      have b1 : 2 * C * (n / 2) ≤ C * n := by
        rw [Nat.mul_comm 2 C, Nat.mul_assoc]
        exact Nat.mul_le_mul_left _ (by omega)
      have b2 : C * n + C * n = 2 * C * n := by rw [Nat.mul_assoc]; omega
      have hC : C ≤ C * n := Nat.le_mul_of_pos_right _ (by omega)
      have rest : ∀ (o' : RatD) (q' : Rat) (A' : Nat), RB WW o' q' → Sz WW A' q' → A' + 2 * C * (n / 2) ≤ A + C * n → ∃ r, Ev2 (fun k m => num_Pow.j0 k m (n : Int) v r4 o') r ∧ RB WW r (q' * (p * p) ^ (n / 2)) ∧ Sz WW (A' + 2 * C * (n / 2)) (q' * (p * p) ^ (n / 2)) := fun o' q' A' ho' hq' hA' => by
        unfold num_Pow.j0 num_Pow.j1
        rw [es]
        by_cases h1 : n = 1
        · subst h1
          obtain ⟨r, r1, r2, r3⟩ := ih 0 (by omega) (v := v) (by omega) hv hp ho' hq' (by omega)
          refine ⟨r, Ev2.bF (decide_eq_false (by decide)) r1, ?_, ?_⟩
          · simpa using r2
          · simpa using r3
        · obtain ⟨s, s1, s2, s3⟩ := num_Mul_sp hv hv hp hp (by omega)
          obtain ⟨r, r1, r2, r3⟩ := ih (n / 2) (by omega) (by omega) s2 s3 ho' hq' (by
            have e : (C + C) * (n / 2) = 2 * C * (n / 2) := by rw [show C + C = 2 * C by omega]
            omega)
          rw [show C + C = 2 * C by omega] at r3
          exact ⟨r, Ev2.bT (decide_eq_true (by omega)) (Ev2.bind s1 r1), r2, r3⟩
      have hfin := pow_half p q n
      by_cases h2 : n % 2 = 1
      · rw [if_pos h2] at hfin
        obtain ⟨s, s1, s2, s3⟩ := num_Mul_sp ho hv hq hp (by omega)
        have b3 : C + 2 * C * (n / 2) = C * n := by
          have : n = 2 * (n / 2) + 1 := by omega
          calc C + 2 * C * (n / 2) = C * (2 * (n / 2) + 1) := by rw [Nat.mul_add, Nat.mul_one, ← Nat.mul_assoc, Nat.mul_comm C 2]; omega
            _ = C * n := by rw [← this]
        obtain ⟨r, r1, r2, r3⟩ := rest s _ _ s2 s3 (by omega)
        rw [hfin] at r2 r3
        rw [show A + C + 2 * C * (n / 2) = A + C * n by omega] at r3
        refine ⟨r, Ev2.step (fun k m => num_Pow.l0_succ k m _ _ _ _) (Ev2.bT (decide_eq_true (by omega)) (Ev2.bT ?_ (Ev2.bind s1 r1))), r2, r3⟩
        rw [ea]
        exact beq_iff_eq.2 (by omega)
      · rw [if_neg h2] at hfin
        obtain ⟨r, r1, r2, r3⟩ := rest o _ _ ho hq (by omega)
        rw [hfin] at r2 r3
        refine ⟨r, Ev2.step (fun k m => num_Pow.l0_succ k m _ _ _ _) (Ev2.bT (decide_eq_true (by omega)) (Ev2.bF ?_ r1)), r2, sz_mono WW_pos r3 (by omega)⟩
        rw [ea]
        exact beq_false_of_ne (by omega)
theorem num_Pow_sp (hv : RB WW v p) (hp : Sz WW K p) (n : Nat) (h : 4 * (K * n) < 1073741000) (hn : n < 4294967296) : ∃ r, Ev (fun k => num_Pow k v (n : Int)) r ∧ RB WW r (p ^ n) ∧ Sz WW (K * n + 1) (p ^ n) := by
  obtain ⟨r, r1, r2, r3⟩ := num_Pow_l (r4 := (false, [], [], ())) n hn hv hp (rb_one WW_one) (sz_one WW_one (Nat.le_refl 1)) (by omega)
  rw [Rat.one_mul] at r2 r3
  exact ⟨r, Ev.step (fun k => num_Pow_eq k v _) (Ev.bind num_One_ev r1.diag), r2, sz_mono WW_pos r3 (by omega)⟩
theorem q_Bits {a : List Int} {n : Int} (hn : a.length < 68719476736) (ha : P.Can WW a n) : ∃ b : Nat, Ev (fun k => mag_Bits k a) (b : Int) ∧ b ≤ 32 * a.length := by
  obtain ⟨b, b1, b2, _⟩ := P.mag_Bits_sp hn ha
  exact ⟨b, Ev.step (fun k => mag_Bits_eq k a) (by rw [b1]; exact evs _), b2⟩
theorem or2 {a b : Bool} {c d : Prop} [Decidable c] [Decidable d] (r : Bool) (h : (c ∨ d) ↔ r = true) : Ev (fun k => bif decide c then some true else some (decide d)) r := by
  by_cases hc : c
  · rw [decide_eq_true hc, h.1 (.inl hc)]; exact evs _
  · rw [decide_eq_false hc]
    by_cases hd : d
    · rw [decide_eq_true hd, h.1 (.inr hd)]; exact evs _
    · rw [decide_eq_false hd]
      cases r with
      | true => exact absurd (h.2 rfl) (by simp [hc, hd])
      | false => exact evs _
theorem rat_Pow_j (hv : RB WW v p) (hp : Sz WW 2 p) (n : Nat) (hn : n ≤ 1000) : ∃ r, Ev (fun k => rat_Pow.j0 k (n : Int) v o) (r, 0, ()) ∧ RB WW r (p ^ n) ∧ Sz WW (2 * n + 1) (p ^ n) := by
  obtain ⟨l1, l2⟩ := sz_len WW_one hv hp
  obtain ⟨b, b1, b2⟩ := q_Bits (by omega) hv.2.1
  obtain ⟨c, c1, c2⟩ := q_Bits (by omega) hv.2.2
  obtain ⟨r, r1, r2, r3⟩ := num_Pow_sp hv hp n (by omega) (by omega)
  have lim := rat_limited_sp r2 (sz_mono WW_pos r3 (by omega))
  have key : ∀ b : Nat, b ≤ 64 → decide (wrap64 (wrap64 ((b : Int) - 1) * (n : Int)) ≥ 131072) = false := fun b hb => by
    have h1 : ((b : Int) - 1) * (n : Int) ≤ 63 * 1000 := by
      rcases Nat.eq_zero_or_pos b with h | h
      · subst h
        have : ((0 : Nat) : Int) - 1 = -1 := by omega
        rw [this]
        omega
      · exact Int.mul_le_mul (by omega) (by omega) (by omega) (by omega)
    have h2 : -1000 ≤ ((b : Int) - 1) * (n : Int) := by
      rcases Nat.eq_zero_or_pos b with h | h
      · subst h
        have : ((0 : Nat) : Int) - 1 = -1 := by omega
        rw [this]
        omega
      · have := Int.mul_nonneg (a := (b : Int) - 1) (b := (n : Int)) (by omega) (by omega)
        omega
    rw [w64 (x := (b : Int) - 1) (by omega) (by omega), w64 (by omega) (by omega)]
    exact decide_eq_false (by omega)
  refine ⟨r, ?_, r2, r3⟩
  unfold rat_Pow.j0
  refine Ev.bind b1 (Ev.bind (a := false) (bF (key b (by omega)) (Ev.bind c1 ?_)) (bF rfl (Ev.bind r1 (Ev.bind lim (evs _)))))
  rw [key c (by omega)]
  exact evs _
theorem ref_Pow_sp (hv : RB RR v p) (hp : Sz RR 8 p) (n : Nat) (hn : n ≤ 40) : ∃ r, Ev (fun k => isochroneref02_Pow k v (n : Int)) r ∧ RB RR r (p ^ n) ∧ Sz RR 700 (p ^ n) := by
  obtain ⟨l1, l2⟩ := sz_len RR_one hv hp
  obtain ⟨x, x1, x2, x3⟩ := s_Pow (by omega) hv.2.1 n (by omega)
  obtain ⟨y, y1, y2, y3⟩ := s_Pow (by omega) hv.2.2 n (by omega)
  have hs : Ev (fun k => bif v.1 then some ((Int.tmod (n : Int) (2 : Int)) == (1 : Int)) else some false) (decide ((p ^ n).num < 0)) := by
    have e : (p ^ n).num = p.num ^ n := rfl
    rw [e, hv.1]
    by_cases c : p.num < 0
    · refine bT (decide_eq_true c) ?_
      have : ((Int.tmod (n : Int) (2 : Int)) == (1 : Int)) = decide (p.num ^ n < 0) := by
        have ht : Int.tmod (n : Int) 2 = (n : Int) % 2 := Int.tmod_eq_emod_of_nonneg (by omega)
        rw [ht]
        have hpp : 0 < (p.num * p.num) ^ (n / 2) := Int.pow_pos (Int.mul_pos_of_neg_of_neg c c)
        have hsq : p.num ^ (2 * (n / 2)) = (p.num * p.num) ^ (n / 2) := by rw [Int.pow_mul]; congr 1; rw [Int.pow_succ, Int.pow_succ, Int.pow_zero, Int.one_mul]
        rw [← hsq] at hpp
        rw [Bool.eq_iff_iff, beq_iff_eq, decide_eq_true_eq]
        by_cases d : n % 2 = 1
        · have h1 : p.num ^ n = p.num ^ (2 * (n / 2)) * p.num := by rw [← Int.pow_succ]; congr 1; omega
          have h2 : p.num ^ (2 * (n / 2)) * p.num < 0 := Int.mul_neg_of_pos_of_neg hpp c
          constructor
          · intro _; rw [h1]; exact h2
          · intro _; omega
        · have h1 : p.num ^ n = p.num ^ (2 * (n / 2)) := by congr 1; omega
          rw [h1]
          constructor
          · intro _; omega
          · intro _; omega
      rw [this]
      exact evs _
    · refine bF (decide_eq_false c) ?_
      have h2 : 0 ≤ p.num ^ n := Int.pow_nonneg (by omega)
      rw [decide_eq_false (by omega)]
      exact evs _
  have en : ((p.num.natAbs : Int)) ^ n = (((p ^ n).num.natAbs : Nat) : Int) := by
    show _ = (((p.num ^ n).natAbs : Nat) : Int)
    rw [Int.natAbs_pow]
    simp
  have ed : (p.den : Int) ^ n = (((p ^ n).den : Nat) : Int) := by
    show _ = ((p.den ^ n : Nat) : Int)
    simp
  rw [en] at x2
  rw [ed] at y2
  have h : RB RR (decide ((p ^ n).num < 0), x, y, ()) (p ^ n) := ⟨rfl, x2, y2⟩
  exact ⟨_, Ev.step (fun k => isochroneref02_Pow_eq k v _) (Ev.bind hs (Ev.bind x1 (Ev.bind y1 (evs _)))), h, sz_of RR_pos h (by show x.length ≤ 700; omega) (by show y.length ≤ 700; omega)⟩
theorem law_RatPowers {n : Int} (hv : Arg v) (hn : (Lit.int .i64 n).wf = true) : Ev (fun k => isochronelaw02_RatPowers k v n) true := by
  obtain ⟨w0, w1⟩ := i64_range hn
  refine Ev.step (fun k => isochronelaw02_RatPowers_eq k v n) (Ev.bind awake_ev (bF rfl ?_))
  obtain ⟨t, t1, t2⟩ := small_sp 2 hv hv
  refine Ev.bind t1 ?_
  cases t with
  | false => exact bT rfl (evs _)
  | true =>
    refine bF rfl ?_
    obtain ⟨p, _, hp, _, sp, _, sp', _⟩ := t2 rfl
    have a1 := rat_Valid_ev hv ⟨p, hp, sp'⟩
    have sv := num_Sign_sp hp
    by_cases big : n < -1000 ∨ n > 1000
    · have d : Ev (fun k => rat_Pow k v n) (nothing, 1, ()) := Ev.step (fun k => rat_Pow_eq k v n) (Ev.bind a1 (bF rfl (Ev.bind (or2 (a := true) (b := true) true (iff_of_true big rfl)) (bT rfl (evs _)))))
      exact Ev.bind d (Ev.bind (or2 (a := true) (b := true) true (iff_of_true big rfl)) (bT rfl (Ev.bind (a := true) (bT rfl (Ev.bind ref_None_ev (evs _))) (evs _))))
    · have nb : Ev (fun k => bif decide (n < (-1000 : Int)) then some true else some (decide (n > (1000 : Int)))) false := or2 (a := true) (b := true) false (iff_of_false big (by decide))
      obtain ⟨x, x1, x2, x3⟩ := ref_Of_sp hp sp (by omega)
      have s1 := ref_Sign_sp x2
      by_cases z : p = 0 ∧ n < 0
      · have c : Ev (fun k => bif decide (n < (0 : Int)) then (num_Sign k v).bind fun (v3 : Int) => some (v3 == (0 : Int)) else some false) true := by
          refine bT (decide_eq_true z.2) (Ev.bind sv ?_)
          rw [sgn_zero, decide_eq_true z.1]
          exact evs _
        have d : Ev (fun k => rat_Pow k v n) (nothing, 20, ()) := Ev.step (fun k => rat_Pow_eq k v n) (Ev.bind a1 (bF rfl (Ev.bind nb (bF rfl (Ev.bind c (bT rfl (evs _)))))))
        refine Ev.bind d (Ev.bind nb (bF rfl (Ev.bind x1 (Ev.bind s1 (Ev.bind (a := true) ?_ (bT rfl (Ev.bind (a := true) (bT rfl (Ev.bind ref_None_ev (evs _))) (evs _))))))))
        refine bT (sgn_zero.trans (decide_eq_true z.1)) ?_
        rw [decide_eq_true z.2]
        exact evs _
      · have c : Ev (fun k => bif decide (n < (0 : Int)) then (num_Sign k v).bind fun (v3 : Int) => some (v3 == (0 : Int)) else some false) false := by
          by_cases h : n < 0
          · refine bT (decide_eq_true h) (Ev.bind sv ?_)
            rw [sgn_zero, decide_eq_false (fun e => z ⟨e, h⟩)]
            exact evs _
          · exact bF (decide_eq_false h) (evs _)
        have c' : Ev (fun k => bif sgn p == (0 : Int) then some (decide (n < (0 : Int))) else some false) false := by
          by_cases h : p = 0
          · refine bT (sgn_zero.trans (decide_eq_true h)) ?_
            rw [decide_eq_false (fun e => z ⟨h, e⟩)]
            exact evs _
          · exact bF (sgn_zero.trans (decide_eq_false h)) (evs _)
        obtain ⟨N, hN, hN2⟩ : ∃ N : Nat, N ≤ 1000 ∧ (n < 0 → n = -(N : Int) ∧ 0 < N) ∧ (¬ n < 0 → n = N) := ⟨n.natAbs, by omega, fun h => by omega, fun h => by omega⟩
        obtain ⟨r, r1, r2, r3⟩ : ∃ r, Ev (fun k => rat_Pow k v n) (r, 0, ()) ∧ RB WW r (if n < 0 then 1 / p ^ N else p ^ N) ∧ Sz WW (2 * N + 1) (if n < 0 then 1 / p ^ N else p ^ N) := by
          by_cases h : n < 0
          · have p0 : p ≠ 0 := fun e => z ⟨e, h⟩
            obtain ⟨i, i1, i2, i3⟩ := num_Inv_sp hp sp p0 (by omega)
            obtain ⟨r, r1, r2, r3⟩ := rat_Pow_j (o := nothing) i2 i3 N hN
            have e : p⁻¹ ^ N = 1 / p ^ N := by
              have : ∀ m : Nat, p⁻¹ ^ m = (p ^ m)⁻¹ := fun m => by
                induction m with
                | zero => rw [Rat.pow_zero, Rat.pow_zero]; have := Rat.mul_inv_cancel (1 : Rat) (by decide); rw [Rat.one_mul] at this; exact this.symm
                | succ m ih => rw [Rat.pow_succ, Rat.pow_succ, ih]; rw [Rat.inv_mul_rev]; exact Rat.mul_comm _ _
              rw [this, Rat.div_def, Rat.one_mul]
            rw [e] at r2 r3
            rw [if_pos h]
            refine ⟨r, Ev.step (fun k => rat_Pow_eq k v n) (Ev.bind a1 (bF rfl (Ev.bind nb (bF rfl (Ev.bind c (bF rfl (bT (decide_eq_true h) (Ev.bind i1 ?_)))))))), r2, r3⟩
            rw [w64 (x := -n) (by omega) (by omega), show -n = (N : Int) by have := hN2.1 h; omega]
            exact r1
          · obtain ⟨r, r1, r2, r3⟩ := rat_Pow_j (o := nothing) hp sp N hN
            rw [if_neg h]
            refine ⟨r, Ev.step (fun k => rat_Pow_eq k v n) (Ev.bind a1 (bF rfl (Ev.bind nb (bF rfl (Ev.bind c (bF rfl (bF (decide_eq_false h) ?_))))))), r2, r3⟩
            rw [hN2.2 h]
            exact r1
        refine Ev.bind r1 (Ev.bind nb (bF rfl (Ev.bind x1 (Ev.bind s1 (Ev.bind c' (bF rfl ?_))))))
        by_cases m : n < -40 ∨ n > 40
        · exact Ev.bind (or2 (a := true) (b := true) true (iff_of_true m rfl)) (bT rfl (evs _))
        · refine Ev.bind (or2 (a := true) (b := true) false (iff_of_false m (by decide))) (bF rfl ?_)
          obtain ⟨y, y1, y2, y3⟩ := ref_Pow_sp x2 x3 N (by omega)
          by_cases h : n < 0
          · rw [if_pos h] at r2 r3
            have p0 : p ≠ 0 := fun e => z ⟨e, h⟩
            have pn : p ^ N ≠ 0 := fun e => by
              have : p.num ^ N = 0 := congrArg Rat.num e
              have : p.num = 0 := Classical.byContradiction fun c => Int.pow_ne_zero c this
              exact p0 (Rat.num_eq_zero.1 this)
            obtain ⟨u, u1, u2, u3⟩ := ref_Div_sp (rb_one RR_one) y2 (sz_one RR_one (Nat.le_refl 1)) y3 pn (by omega)
            have ii := is_ok r2 r3 u2 u3 (by omega) (by omega)
            refine bT (decide_eq_true h) (Ev.bind (a := true) (bT rfl (Ev.bind ref_One_ev (Ev.bind ?_ (Ev.bind u1 (Ev.bind ii (evs _)))))) (evs _))
            rw [w64 (x := -n) (by omega) (by omega), show -n = (N : Int) by have := hN2.1 h; omega]
            exact y1
          · rw [if_neg h] at r2 r3
            have ii := is_ok r2 r3 y2 y3 (by omega) (by omega)
            refine bF (decide_eq_false h) (Ev.bind (a := true) (bT rfl (Ev.bind ?_ (Ev.bind ii (evs _)))) (evs _))
            rw [hN2.2 h]
            exact y1
end
end Go.Proofs.Ytfpolhoabfadnaa.Q
end
section
namespace Go.Proofs.Ytfpolhoabfadnaa.ratPowers
open Go.ChangeShapes Go.WideShapes Go.ChangeAt Go.RowKit
open Go.ChangeMaps (open_string shut_string)
open Go.Proofs.Ytfpolhoabfadnaa.V Go.Proofs.Ytfpolhoabfadnaa.E
theorem own : ownKnob Try.prog.godebug = none := by kernel_rfl
theorem laidOut : laidOutB Try.prog = true := by kernel_rfl
set_option maxRecDepth 100000 in
theorem lifted (os : Os) (started : os.Started) (H : Type) (enc : TypeId × Value → H) :
    ReturnsInHanded {} Try.checked os 5 .any (Rows.ratPowersSpec.pre6 enc Try.prog Try.f5 Rows.ratPowersRow.domain false) (Rows.ratPowersSpec.post enc Try.prog Try.f5 false true false false) := by
  refine returnsInHanded_of_change_sized (C := Try.checked) own started (by kernel_rfl) Try.func5
    (ChangeSpec.witness6 (enc := enc) (C := Try.checked) false ⟨#[], #[.agg #[.bool false, .slice none 0 0, .slice none 0 0], .int .i64 0], []⟩ 8 (by kernel_rfl) (by kernel_rfl) (by kernel_rfl) (by kernel_rfl)) ?_
  intro W base args ds gs before hval0 hW hcnd hsz0 _
  have hval : ∀ (j : Nat) t v, Try.f5.params[j]? = some t → args[j]? = some v → Value.okWide Try.prog W .any base t v := hval0
  have hW' := hW
  obtain ⟨p, q, hA0, hV, rfl, hfz, hnd⟩ := hW
  have hA : DataW.TrodAll enc Try.prog W 0 (fun _ => true) true Try.f5.params.toList args.toList ds p := hA0
  rw [Try.params5] at hA hval
  obtain ⟨v0, vs0, d0, ds0, p0, q0, hargs, rfl, rfl, h0, r0⟩ := trodAll_cons hA
  obtain ⟨v1, vs1, d1, ds1, p1, q1, rfl, rfl, rfl, h1, r1⟩ := trodAll_cons r0
  obtain ⟨rfl, rfl, rfl⟩ := trodAll_nil r1
  obtain rfl : args = #[v0, v1] := by cases args; simp_all
  obtain ⟨rfl, rfl⟩ := trodVars_none hV
  have k0 := h0
  have lt0 : ∀ x ∈ p0, x.block < W.heap.size := by obtain ⟨m, hm⟩ := k0; exact DataW.trod_lt m _ _ _ hm
  obtain ⟨y0, f0, g0⟩ := arg_den Q.tab_ok (n := 8) (t := 25) (c := c_api_Rat) (by kernel_rfl) (by kernel_rfl) (hval 0 25 v0 rfl rfl) h0
  have k1 := h1
  have lt1 : ∀ x ∈ p1, x.block < W.heap.size := by obtain ⟨m, hm⟩ := k1; exact DataW.trod_lt m _ _ _ hm
  obtain ⟨y1, f1, g1⟩ := arg_den Q.tab_ok (n := 8) (t := 3) (c := (.int .i64)) (by kernel_rfl) (by kernel_rfl) (hval 1 3 v1 rfl rfl) h1
  clear hA0 hval0 hsz0
  obtain ⟨k, hk⟩ := (Q.law_RatPowers (Q.arg_rat f0) (Q.arg_int f1)).rounds
  obtain ⟨_, pv, hp, hF⟩ := (fn_sound Q.tab_ok orc_ok Q.mixed Q.noGo k).fn 5 [.v c_api_Rat y0, .v (.int .i64) y1] true rfl hk
  obtain rfl := Option.some.inj hp
  refine (hF (fun b => b < W.heap.size) W #[v0, v1] (fun b h => h) rfl (fun i h => ?_)).mono fun e W' ⟨v, he, bel, hv⟩ => ?_
  · match i, h with
    | 0, h => exact g0
    | 1, h => exact g1
    | i + 2, h => exact absurd h (by simp only [List.length_map, List.length_cons, List.length_nil]; omega)
  · have hb := vrel_lit hv
    subst hb
    subst he
    exact ⟨_, rfl, _, _, _, [], _, [], hW', trodAll_mk1 (shut_bool Try.underlying4 _), (trodAll_cons_mk (Below.trod laidOut (by kernel_rfl) (of_decide_eq_true (by kernel_rfl)) k0 bel lt0) (trodAll_cons_mk (Below.trod laidOut (by kernel_rfl) (of_decide_eq_true (by kernel_rfl)) k1 bel lt1) trodAll_mk0)), rfl, bel.frame _, fun h => by cases h⟩
theorem over : Rows.ratPowersRow.holds Try.pinned (OpenSpec.ofChange Rows.ratPowersSpec) :=
  OpenClaim.holds_of_wide 5 Try.f5 rfl rfl rfl rfl rfl rfl rfl ⟨rfl, rfl, rfl, rfl, rfl⟩ rfl rfl rfl rfl rfl (by kernel_rfl) Try.func5 (by kernel_rfl)
    (of_decide_eq_true (by kernel_rfl)) (by unfold Func.isWrapper; first | (rw [if_pos (by decide +kernel)]; kernel_rfl) | (rw [if_neg (by decide +kernel)]; exact ⟨rfl, rfl⟩))
    (fun os started H enc _ => lifted os started H enc)
theorem proved : Rows.RatPowersSaid := over
#print axioms proved
end Go.Proofs.Ytfpolhoabfadnaa.ratPowers
namespace Go.Proofs.Ytfpolhoabfadnaa
theorem ratPowers_holds : Rows.RatPowersSaid := ratPowers.proved
end Go.Proofs.Ytfpolhoabfadnaa
end
