/- NatTexts: Text returns the decimal digits of a magnitude of at most 40 words, Parse of them the magnitude; Parse of another string returns its number, ErrSyntax or ErrLimit, for every input. No condition. (text 7 of 7) -/
import Derived.Lib.Bytes
import Derived.SizedLaws
import Derived.ChangeSlices
import Derived.Test.YtfmobogdnlmdbaaRows
import Derived.WalkKit
import Derived.ProofKit
import Derived.OpenShut
import Derived.ShutString
import Derived.ChangeOld
import Derived.Below
import Derived.Test.YtfmobogdnlmdbaaText6
section
namespace Go.Proofs.Ytfmobogdnlmdbaa.P
open Go.RowKit Go.Proofs.YtfmobogdnlmdbaaW.PrintWords Go.Proofs.YtfmobogdnlmdbaaW.PrintLast Go.Proofs.YtfmobogdnlmdbaaW.PrintMore
set_option linter.unusedVariables false
theorem dg_wf {l : List Int} (h : ∀ x ∈ l, (Lit.int .u32 x).wf = true) : Dg WW l := by
  intro x hx
  have h1 := h x hx
  have h2 : IntKind.u32.min = 0 := rfl
  have h3 : IntKind.u32.max = 4294967295 := rfl
  simp only [Lit.wf, Bool.and_eq_true, decide_eq_true_eq, h2, h3] at h1
  rw [WW_eq]
  omega
theorem can_of {l : List Int} (hd : Dg WW l) (hn : Nm l) : Can WW l (vl WW l) := ⟨hd, hn, rfl⟩
theorem small_sp (a b : List Int) (k : Int) (ha : a.length < 4611686018427387904) (hb : b.length < 4611686018427387904) : ∃ t, isochronelaw01_small.f a b k = some t ∧ (t = true ↔ ((a.length : Int) ≤ k ∧ (b.length : Int) ≤ k ∧ a.length ≤ 4096 ∧ b.length ≤ 4096 ∧ Nm a ∧ Nm b)) := by
  obtain ⟨p, h1, _, h2⟩ := valid_sp a ha
  obtain ⟨q, h3, _, h4⟩ := valid_sp b hb
  unfold isochronelaw01_small.f
  by_cases c1 : (a.length : Int) ≤ k
  · by_cases c2 : (b.length : Int) ≤ k
    · rw [if_pos c1, if_pos c2, h1, h3]
      cases p
      · refine ⟨false, rfl, ?_⟩
        simp only [Bool.false_eq_true, false_iff] at h2 ⊢
        exact fun h => h2 ⟨h.2.2.1, h.2.2.2.2.1⟩
      · cases q
        · refine ⟨false, rfl, ?_⟩
          simp only [Bool.false_eq_true, false_iff] at h4 ⊢
          exact fun h => h4 ⟨h.2.2.2.1, h.2.2.2.2.2⟩
        · refine ⟨true, rfl, ?_⟩
          simp only [true_iff] at h2 h4 ⊢
          exact ⟨c1, c2, h2.1, h4.1, h2.2, h4.2⟩
    · refine ⟨false, by rw [if_pos c1, if_neg c2], ?_⟩
      simp only [Bool.false_eq_true, false_iff]
      exact fun h => c2 h.2.1
  · refine ⟨false, by rw [if_neg c1], ?_⟩
    simp only [Bool.false_eq_true, false_iff]
    exact fun h => c1 h.1
theorem limited_sp {a : List Int} (h : a.length ≤ 4096) : nat_limited.f a = some (a, 0) := by
  unfold nat_limited.f
  rw [if_neg (by omega), if_pos (by simp; omega)]
  rfl
end Go.Proofs.Ytfmobogdnlmdbaa.P
end
section
namespace Go.Proofs.Ytfmobogdnlmdbaa.P
open Go.RowKit Go.Proofs.YtfmobogdnlmdbaaW.PrintWords Go.Proofs.YtfmobogdnlmdbaaW.PrintLast Go.Proofs.YtfmobogdnlmdbaaW.PrintMore
set_option linter.unusedVariables false
theorem nat_valid {a : List Int} (hl : a.length ≤ 4096) (hn : Nm a) : nat_Valid.f a = some true := by
  obtain ⟨p, _, h1, h2⟩ := valid_sp a (by omega)
  rw [h1, h2.2 ⟨hl, hn⟩]
end Go.Proofs.Ytfmobogdnlmdbaa.P
end
section
namespace Go.Proofs.Ytfmobogdnlmdbaa.P
open Go.RowKit Go.Proofs.YtfmobogdnlmdbaaW.PrintWords Go.Proofs.YtfmobogdnlmdbaaW.PrintLast Go.Proofs.YtfmobogdnlmdbaaW.PrintMore
set_option linter.unusedVariables false
abbrev TT : Int := 10
theorem TT_pos : (0 : Int) < TT := by decide
theorem TT_one : (1 : Int) < TT := by decide
theorem TT_eq : TT = 10 := rfl
abbrev BB9 : Int := 1000000000
theorem BB9_pos : (0 : Int) < BB9 := by decide
theorem BB9_eq : BB9 = 1000000000 := rfl
def asc (D : List Int) : List Int := D.reverse.map (· + 48)
theorem asc_append (a b : List Int) : asc (a ++ b) = asc b ++ asc a := by simp [asc]
theorem asc_len (D : List Int) : (asc D).length = D.length := by simp [asc]
theorem rev_ev (a : List Int) (hn : a.length < 4611686018427387904) (d : Nat) : ∀ (i : Nat) (o : List Int), a.length - i = d → i ≤ a.length → o.length = a.length → (∀ p : Nat, p < a.length → rd o (p : Int) = if p < i ∨ a.length ≤ p + i then rd a ((a.length - 1 - p : Nat) : Int) else rd a (p : Int)) →
    Ev (fun k => nat_digits.l1 k o (i : Int) ((a.length : Int) - 1 - (i : Int))) a.reverse := by
  induction d with
  | zero =>
    intro i o h1 h2 h3 h4
    have e : o = a.reverse := by
      apply List.ext_getElem
      · simp [h3]
      · intro p p1 p2
        have h := h4 p (by omega)
        rw [if_pos (by omega), rd_lt o p p1, rd_lt a _ (by omega)] at h
        rw [h, List.getElem_reverse]
    subst e
    refine Ev.step (fun k => by rw [nat_digits.l1]) ?_
    exact evn (by omega) (evs _)
  | succ d ih =>
    intro i o h1 h2 h3 h4
    by_cases c : 2 * i + 1 < a.length
    · have hk : (a.length : Int) - 1 - (i : Int) = ((a.length - 1 - i : Nat) : Int) := by omega
      have gi := h4 i (by omega)
      have gk := h4 (a.length - 1 - i) (by omega)
      rw [if_neg (by omega)] at gi
      rw [if_neg (by omega)] at gk
      refine Ev.step (fun k => by rw [nat_digits.l1]) ?_
      rw [hk, gi, gk, wsucc (i := i) (by omega), w64 (x := ((a.length - 1 - i : Nat) : Int) - 1) (by omega) (by omega)]
      refine evp (by omega) (evp (by omega) (evp (by omega) (evp (by omega) (evp (by omega) ?_))))
      have e : ((a.length - 1 - i : Nat) : Int) - 1 = (a.length : Int) - 1 - ((i + 1 : Nat) : Int) := by omega
      rw [e]
      refine ih (i + 1) _ (by omega) (by omega) (by simpa using h3) ?_
      intro p hp
      by_cases p1 : p = a.length - 1 - i
      · subst p1
        rw [rd_set_eq _ _ _ (by simp; omega), if_pos (by omega), show a.length - 1 - (a.length - 1 - i) = i by omega]
      · rw [rd_set_ne _ _ _ _ (by omega)]
        by_cases p2 : p = i
        · subst p2
          rw [rd_set_eq _ _ _ (by omega), if_pos (by omega)]
        · rw [rd_set_ne _ _ _ _ (by omega), h4 p hp]
          by_cases p3 : p < i ∨ a.length ≤ p + i
          · rw [if_pos p3, if_pos (by omega)]
          · rw [if_neg p3, if_neg (by omega)]
    · have e : o = a.reverse := by
        apply List.ext_getElem
        · simp [h3]
        · intro p p1 p2
          have h := h4 p (by omega)
          rw [List.getElem_reverse, ← rd_lt o p p1, h, ← rd_lt a (a.length - 1 - p) (by omega)]
          split
          · rfl
          · congr 1
            omega
      subst e
      refine Ev.step (fun k => by rw [nat_digits.l1]) ?_
      exact evn (by omega) (evs _)
theorem nm_snoc' (l : List Int) (x : Int) (h : x ≠ 0) : Nm (l ++ [x]) := fun h' => by rw [getLast_snoc]; exact h
theorem alg_dg {vo c P n v c' R : Int} (h : vo + c * P = n) (h2 : v + R * c' = c) : vo + v * P + c' * (R * P) = n := by grind
theorem nat_digits_ev {x : Int} (hx : 0 ≤ x ∧ x < 9223372036854775808) {m : Nat} (hm : m ≤ 20) (c : Nat) : ∀ (z : Int) (D : List Int), z.toNat + (m - D.length) < c → 0 ≤ z → z < 9223372036854775808 → D.length ≤ 64 → (0 < z → z * 10 ^ D.length ≤ x) → Dg TT D → vl TT D + z * TT ^ D.length = x → (z = 0 → m = 0 → Nm D) → (x < 10 ^ m → D.length ≤ m) →
    ∃ D', Ev (fun k => nat_digits.l0 k z (m : Int) (D.map (· + 48))) (asc D') ∧ Dg TT D' ∧ vl TT D' = x ∧ (m = 0 → Nm D') ∧ (x < 10 ^ m → D'.length = m) := by
  induction c with
  | zero => intro z D h; exact absurd h (Nat.not_lt_zero _)
  | succ c ih =>
    intro z D h1 h2 h3 h4 h5 h6 h7 h8 h9
    have hlen : (D.map (· + 48)).length = D.length := by simp
    have more : (z > 0 ∨ D.length < m) → ∃ D', Ev (fun k => nat_digits.l0 k (IntKind.u64.wrap (Int.tdiv z 10)) (m : Int) (D.map (· + 48) ++ [(IntKind.u64.wrap (48 + (Int.tmod z 10))) % 256])) (asc D') ∧ Dg TT D' ∧ vl TT D' = x ∧ (m = 0 → Nm D') ∧ (x < 10 ^ m → D'.length = m) := by
      intro hc
      have e0 : (48 + z % 10) % 256 = z % 10 + 48 := by omega
      have e1 : D.map (· + 48) ++ [(IntKind.u64.wrap (48 + (Int.tmod z 10))) % 256] = (D ++ [z % 10]).map (· + 48) := by
        rw [tmod_nn h2, u64 (x := 48 + z % 10) (by omega) (by omega), e0, List.map_append]
        rfl
      rw [e1, tdiv_nn h2, u64 (x := z / 10) (by omega) (by omega)]
      have hl : (D ++ [z % 10]).length = D.length + 1 := by simp
      have hlt : D.length < 20 := by
        rcases hc with hc | hc
        · rcases Nat.lt_or_ge D.length 20 with q | q
          · exact q
          · exfalso
            have a1 := h5 hc
            have a2 : (10 : Int) ^ 20 ≤ 10 ^ D.length := pow_le (by decide) q
            have a3 : (1 : Int) * 10 ^ D.length ≤ z * 10 ^ D.length := Int.mul_le_mul_of_nonneg_right (by omega) (by omega)
            omega
        · omega
      refine ih (z / 10) (D ++ [z % 10]) ?_ (by omega) (by omega) (by omega) ?_ (h6.append (Dg.mk (by omega) (by rw [TT_eq]; omega) (Dg.nil _))) ?_ ?_ ?_
      · rw [hl]
        rcases hc with hc | hc <;> omega
      · intro hz
        have a1 := h5 (by omega)
        rw [hl, Int.pow_succ]
        have a2 : (0 : Int) < 10 ^ D.length := Int.pow_pos (by decide)
        have a3 : (z / 10 * 10) * 10 ^ D.length ≤ z * 10 ^ D.length := Int.mul_le_mul_of_nonneg_right (by omega) (by omega)
        have a4 : z / 10 * (10 ^ D.length * 10) = (z / 10 * 10) * 10 ^ D.length := by grind
        omega
      · rw [vl_snoc, hl, Int.pow_succ, Int.mul_comm (TT ^ D.length) TT]
        exact alg_dg h7 (by rw [TT_eq]; omega)
      · intro hz hm0
        refine nm_snoc' _ _ ?_
        rcases hc with hc | hc <;> omega
      · intro hxm
        rw [hl]
        rcases hc with hc | hc
        · have a1 := h5 hc
          rcases Nat.lt_or_ge D.length m with q | q
          · omega
          · exfalso
            have a2 : (10 : Int) ^ m ≤ 10 ^ D.length := pow_le (by decide) q
            have a3 : (1 : Int) * 10 ^ D.length ≤ z * 10 ^ D.length := Int.mul_le_mul_of_nonneg_right (by omega) (Int.le_of_lt (Int.pow_pos (by decide)))
            omega
        · omega
    by_cases c1 : z > 0
    · obtain ⟨D', d1, d2⟩ := more (.inl c1)
      refine ⟨D', ?_, d2⟩
      refine Ev.step (fun k => by rw [nat_digits.l0]) ?_
      exact evp c1 (evp (by omega) d1)
    · by_cases c2 : D.length < m
      · obtain ⟨D', d1, d2⟩ := more (.inr c2)
        refine ⟨D', ?_, d2⟩
        refine Ev.step (fun k => by rw [nat_digits.l0]) ?_
        exact evn c1 (evp (by omega) (evp (by omega) d1))
      · have ez : z = 0 := by omega
        subst ez
        rw [Int.zero_mul, Int.add_zero] at h7
        refine ⟨D, ?_, h6, h7, h8 rfl, fun h => by have := h9 h; omega⟩
        refine Ev.step (fun k => by rw [nat_digits.l0]) ?_
        rw [w64 (x := ((D.map (· + 48)).length : Int) - 1) (by omega) (by omega)]
        refine evn c1 (evn (by omega) ?_)
        have := rev_ev (D.map (· + 48)) (by omega) _ 0 (D.map (· + 48)) rfl (by omega) rfl (fun p hp => by rw [if_neg (by omega)])
        rw [← List.map_reverse] at this
        simpa [asc] using this
end Go.Proofs.Ytfmobogdnlmdbaa.P
end
section
namespace Go.Proofs.Ytfmobogdnlmdbaa.P
open Go.RowKit Go.Proofs.YtfmobogdnlmdbaaW.PrintWords Go.Proofs.YtfmobogdnlmdbaaW.PrintLast Go.Proofs.YtfmobogdnlmdbaaW.PrintMore
set_option linter.unusedVariables false
theorem nat_digits_sp {x : Int} (hx : 0 ≤ x ∧ x < 9223372036854775808) {m : Nat} (hm : m ≤ 20) :
    ∃ D, Ev (fun k => nat_digits.f k x (m : Int)) (asc D) ∧ Dg TT D ∧ vl TT D = x ∧ (m = 0 → Nm D) ∧ (x < 10 ^ m → D.length = m) := by
  obtain ⟨D, d1, d2⟩ := nat_digits_ev hx hm _ x [] (Nat.lt_succ_self _) hx.1 hx.2 (by simp) (fun _ => by simp) (Dg.nil _) (by simp [vl]) (fun _ _ => Nm.nil) (fun _ => by simp)
  exact ⟨D, by unfold nat_digits.f; exact d1, d2⟩
theorem mag_Small_sp {r : List Int} {v : Int} (hr : Can WW r v) (hv : v < 4294967296) : mag_Small.f r = some (v, true) := by
  have hl := hr.len_le (k := 1) WW_one (by rw [show WW ^ 1 = 4294967296 from rfl]; exact hv)
  unfold mag_Small.f
  by_cases c : r.length = 0
  · rw [(hr.len_iff WW_pos).1 c, if_pos (by omega)]
  · have e := last_vl (a := r) (by omega)
    have h1 : r.length = 1 := by omega
    rw [hr.2.2, h1] at e
    have e2 : v = rd r 0 := by simpa [vl] using e
    have := hr.nonneg WW_pos
    rw [if_neg (by omega), if_pos (by omega), if_pos (by omega), ← e2, u64 (x := v) (by omega) (by omega)]
theorem cpy9 {t : List Int} (h : t.length = 9) : cpy (List.replicate 9 0) t = t := by
  unfold cpy
  rw [List.length_replicate, h, Nat.min_self, ← h, List.take_length, List.drop_eq_nil_of_le (by simp), List.append_nil]
theorem nm_app {a b : List Int} (h : Nm b) (hb : b ≠ []) : Nm (a ++ b) := fun h' => by
  rw [List.getLast_append_of_ne_nil _ hb]
  exact h hb
theorem nat_Text_l1 {P : List Int} (hl : P.length ≤ 64) (hP : Dg BB9 P) (d : Nat) : ∀ (i : Nat) (D : List Int), i = d → i < P.length → Can TT D (vl BB9 (P.drop i)) → D ≠ [] → D.length + 9 * i ≤ 9 * P.length →
    ∃ D', Ev (fun k => nat_Text.l1 k P (asc D) ((i : Int) - 1)) (strOfNums (asc D'), 0) ∧ Can TT D' (vl BB9 P) ∧ D' ≠ [] ∧ D'.length ≤ 9 * P.length := by
  induction d with
  | zero =>
    rintro i D rfl h1 h2 h3 h4
    refine ⟨D, ?_, by simpa using h2, h3, by omega⟩
    refine Ev.step (fun k => by rw [nat_Text.l1]) ?_
    exact evn (by omega) (evs _)
  | succ d ih =>
    rintro i D rfl h1 h2 h3 h4
    have hx := dg_rd hP (d : Int) (by omega) (by omega)
    rw [BB9_eq] at hx
    obtain ⟨N, n1, n2, n3, n4, n5⟩ := nat_digits_sp (x := rd P (d : Int)) ⟨hx.1, by omega⟩ (m := 9) (by omega)
    have ln := n5 (by omega)
    have hv : vl TT (N ++ D) = vl BB9 (P.drop d) := by
      rw [vl_append, ln, n3, h2.2.2, drop_rd P d (by omega), vl]
      rfl
    have hne : N ++ D ≠ [] := by simp [h3]
    obtain ⟨D', d1, d2⟩ := ih d (N ++ D) rfl (by omega) ⟨n2.append h2.1, nm_app h2.2.1 h3, hv⟩ hne (by rw [List.length_append]; omega)
    refine ⟨D', ?_, d2⟩
    refine Ev.step (fun k => by rw [nat_Text.l1]) ?_
    have lc : (asc N).length = 9 := by rw [asc_len, ln]
    rw [show (((d + 1 : Nat) : Int) - 1) = (d : Int) by omega, w64 (x := (d : Int) - 1) (by omega) (by omega)]
    refine evp (by omega) (evp (by omega) (evp (by omega) (evp (by omega) (Ev.bind n1 (evb rfl ?_)))))
    rw [cpy9 lc, ← asc_append]
    exact evp (by rw [asc_len, asc_len]; omega) d1
theorem alg_tx {vo c P n v c' R : Int} (h : vo + c * P = n) (h2 : v + R * c' = c) : vo + v * P + c' * (R * P) = n := by grind
theorem nat_Text_l0 {n : Int} (hn : 0 < n) (hnW : n < WW ^ 40) {b : List Int} (hb : Can WW b 1000000000) (c : Nat) : ∀ (m : Int) (a P : List Int), m.toNat < c → a.length ≤ 4096 → Can WW a m → Dg BB9 P → vl BB9 P + m * BB9 ^ P.length = n → (m = 0 → Nm P) → (m = 0 → P.length ≤ 46) →
    ∃ D, Ev (fun k => nat_Text.l0 k a P b) (strOfNums (asc D), 0) ∧ Can TT D n ∧ D ≠ [] ∧ D.length ≤ 576 := by
  induction c with
  | zero => intro m a P h; exact absurd h (Nat.not_lt_zero _)
  | succ c ih =>
    intro m a P h1 h2 h3 h4 h5 h6 h7
    have m0 := h3.nonneg WW_pos
    have hp : (0 : Int) < BB9 ^ P.length := pow_pos' BB9_pos _
    by_cases c1 : a.length = 0
    · have em := (h3.len_iff WW_pos).1 c1
      subst em
      rw [Int.zero_mul, Int.add_zero] at h5
      have hl := h7 rfl
      have hne : P.length ≠ 0 := by
        intro h0
        rw [List.length_eq_zero_iff.1 h0, vl] at h5
        omega
      have hx := dg_rd h4 ((P.length : Int) - 1) (by omega) (by omega)
      have hz := (h6 rfl).rd (by omega)
      rw [BB9_eq] at hx
      obtain ⟨N, n1, n2, n3, n4, n5⟩ := nat_digits_sp (x := rd P ((P.length : Int) - 1)) ⟨hx.1, by omega⟩ (m := 0) (by omega)
      have hN : N ≠ [] := by
        intro h
        rw [h, vl] at n3
        exact hz n3.symm
      have cn : Can TT N (rd P ((P.length : Int) - 1)) := ⟨n2, n4 rfl, n3⟩
      have ln : N.length ≤ 9 := cn.len_le TT_one (by rw [show TT ^ 9 = 1000000000 from rfl]; exact hx.2)
      have e1 : vl BB9 (P.drop (P.length - 1)) = rd P ((P.length : Int) - 1) := by
        rw [drop_rd P (P.length - 1) (by omega), vl, List.drop_eq_nil_of_le (by omega), vl, show ((P.length - 1 : Nat) : Int) = (P.length : Int) - 1 by omega]
        omega
      obtain ⟨D', d1, d2, d3, d4⟩ := nat_Text_l1 (by omega) h4 (P.length - 1) (P.length - 1) N rfl (by omega) (by rw [e1]; exact cn) hN (by omega)
      rw [h5] at d2
      refine ⟨D', ?_, d2, d3, by omega⟩
      refine Ev.step (fun k => by rw [nat_Text.l0]) ?_
      rw [w64 (x := (P.length : Int) - 1) (by omega) (by omega), w64 (x := (P.length : Int) - 2) (by omega) (by omega)]
      refine evn (by omega) (evp (by omega) (evp (by omega) (Ev.bind n1 ?_)))
      rw [show (P.length : Int) - 2 = ((P.length - 1 : Nat) : Int) - 1 by omega]
      exact d1
    · have hm : m ≠ 0 := fun h => c1 ((h3.len_iff WW_pos).2 h)
      have hlP : P.length ≤ 45 := by
        rcases Nat.lt_or_ge P.length 46 with q | q
        · omega
        · exfalso
          have a1 : BB9 ^ 46 ≤ BB9 ^ P.length := pow_le (by decide) q
          have a2 : (1 : Int) * BB9 ^ P.length ≤ m * BB9 ^ P.length := Int.mul_le_mul_of_nonneg_right (by omega) (by omega)
          have a3 := vl_nonneg BB9_pos h4
          have a4 : WW ^ 40 < BB9 ^ 46 := by decide
          omega
      obtain ⟨q, r, q1, q2, q3⟩ := mag_DivMod_sp (by omega) h3 hb (by omega)
      have r0 := Int.emod_nonneg m (show (1000000000 : Int) ≠ 0 by omega)
      have r1 := Int.emod_lt_of_pos m (show (0 : Int) < 1000000000 by omega)
      have hs := mag_Small_sp q3 (by omega)
      have lq := can_len_le h3 q2 (by omega)
      obtain ⟨D, d1, d2⟩ := ih (m / 1000000000) q (P ++ [m % 1000000000]) (by omega) (by omega) q2 (h4.append (Dg.mk r0 (by rw [BB9_eq]; exact r1) (Dg.nil _)))
        (by
          rw [vl_snoc, List.length_append, List.length_singleton, Int.pow_succ, Int.mul_comm (BB9 ^ P.length) BB9]
          exact alg_tx h5 (by rw [BB9_eq]; omega))
        (fun h => nm_snoc' _ _ (by omega)) (fun _ => by simp; omega)
      refine ⟨D, ?_, d2⟩
      refine Ev.step (fun k => by rw [nat_Text.l0]) ?_
      exact evp (by omega) (Ev.bind q1 (evb hs (evp (by omega) d1)))
theorem nat_Text_sp {a : List Int} {n : Int} (hl : a.length ≤ 40) (ha : Can WW a n) (hn : 0 < n) : ∃ D, Ev (fun k => nat_Text.f k a) (strOfNums (asc D), 0) ∧ Can TT D n ∧ D ≠ [] ∧ D.length ≤ 576 := by
  have hlt : n < WW ^ 40 := Int.lt_of_lt_of_le (ha.lt WW_pos) (pow_le (by decide) hl)
  have hc : a.length ≠ 0 := fun h => by have := (ha.len_iff WW_pos).1 h; omega
  obtain ⟨b, b1, b2⟩ := mag_From_sp (a := 1000000000) (by omega) (by omega)
  obtain ⟨D, d1, d2⟩ := nat_Text_l0 hn hlt b2 _ n a [] (Nat.lt_succ_self _) (by omega) ha (Dg.nil _) (by simp [vl]) (fun h => by omega) (fun h => by omega)
  refine ⟨D, ?_, d2⟩
  unfold nat_Text.f
  exact evb (nat_valid (by omega) ha.2.1) (evp rfl (evn (by omega) (Ev.bind b1 d1)))
end Go.Proofs.Ytfmobogdnlmdbaa.P
end
section
namespace Go.Proofs.Ytfmobogdnlmdbaa.P
open Go.RowKit Go.Proofs.YtfmobogdnlmdbaaW.PrintWords Go.Proofs.YtfmobogdnlmdbaaW.PrintLast Go.Proofs.YtfmobogdnlmdbaaW.PrintMore
set_option linter.unusedVariables false
theorem limited_any' (z : List Int) : ∃ R, nat_limited.f z = some R ∧ (z.length ≤ 4096 → R = (z, 0)) := by
  by_cases c : z.length ≤ 4096
  · exact ⟨_, limited_sp c, fun _ => rfl⟩
  · refine ⟨([], 2), ?_, fun h => absurd h c⟩
    unfold nat_limited.f
    rw [if_pos (by omega)]
theorem size_data (s : ByteArray) : s.size = s.data.toList.length := by rw [Array.length_toList]; rfl
theorem toList_nil (s : ByteArray) : s.toList = [] ↔ s.size = 0 := by
  rw [ByteArray.toList_eq, size_data, List.length_eq_zero_iff]
def Dig (s : ByteArray) (i : Nat) : Prop := 48 ≤ bt s (i : Int) ∧ bt s (i : Int) ≤ 57
def sv (s : ByteArray) : Nat → Int
  | 0 => 0
  | i + 1 => sv s i * 10 + (bt s (i : Int) - 48)
theorem sv_bd (s : ByteArray) (i : Nat) (h : ∀ p, p < i → Dig s p) : 0 ≤ sv s i ∧ sv s i < 10 ^ i := by
  induction i with
  | zero => exact ⟨Int.le_refl 0, Int.zero_lt_one⟩
  | succ i ih =>
    obtain ⟨h1, h2⟩ := ih (fun p hp => h p (by omega))
    obtain ⟨h3, h4⟩ := h i (by omega)
    have e : sv s (i + 1) = sv s i * 10 + (bt s (i : Int) - 48) := rfl
    rw [e, Int.pow_succ]
    generalize (10 : Int) ^ i = Q at *
    omega
theorem ten_W (i : Nat) : (10 : Int) ^ i ≤ WW ^ i := by
  have : 10 ^ i ≤ 4294967296 ^ i := Nat.pow_le_pow_left (by decide) i
  have e : WW ^ i = ((4294967296 ^ i : Nat) : Int) := by simp
  rw [e]
  exact_mod_cast this
theorem sv_len {s : ByteArray} {i : Nat} (h : ∀ p, p < i → Dig s p) {z : List Int} {v : Int} (hz : Can WW z v) (hv : v ≤ sv s i) : z.length ≤ i := by
  obtain ⟨h1, h2⟩ := sv_bd s i h
  have := ten_W i
  exact hz.len_le WW_one (by omega)
theorem alg_p1 {V S p x v : Int} (h : V * S + p = v) : V * (S * 10) + (p * 10 + x) = v * 10 + x := by grind
theorem parse_ev {s : ByteArray} (hs : s.size ≤ 20000) (d : Nat) : ∀ (i : Nat) (o : List Int) (V part : Int) (j : Nat), s.size - i = d → i ≤ s.size → (∀ p, p < i → Dig s p) → Can WW o V → 0 ≤ part → part < 10 ^ j → j ≤ 9 → V * 10 ^ j + part = sv s i →
    ∃ R, Ev (fun k => nat_Parse.l0 k s o part (10 ^ j) (i : Int)) R ∧ ((∀ p, p < s.size → Dig s p) → ∃ z, Can WW z (sv s s.size) ∧ nat_limited.f z = some R) ∧ ((¬ ∀ p, p < s.size → Dig s p) → R = ([], 90)) := by
  have flush : ∀ (i : Nat) (o : List Int) (V part : Int) (j : Nat), i ≤ s.size → (∀ p, p < i → Dig s p) → Can WW o V → 0 ≤ part → part < 10 ^ j → j ≤ 9 → V * 10 ^ j + part = sv s i → ∃ a b c z, Ev (fun k => mag_From.f k (10 ^ j)) a ∧ Ev (fun k => mag_Mul.f k o a) b ∧ Ev (fun k => mag_From.f k part) c ∧ Ev (fun k => mag_Add.f k b c) z ∧ Can WW z (sv s i) := by
    intro i o V part j h2 h3 h4 h5 h6 h7 h8
    have hj : (10 : Int) ^ j ≤ 10 ^ 9 := pow_le (by decide) h7
    have hj0 : (0 : Int) < 10 ^ j := Int.pow_pos (by decide)
    have hj9 : (10 : Int) ^ j ≤ 1000000000 := hj
    have V0 := h4.nonneg WW_pos
    have hVs : V ≤ sv s i := by
      have : V * 1 ≤ V * 10 ^ j := Int.mul_le_mul_of_nonneg_left (by omega) V0
      omega
    have lo := sv_len h3 h4 hVs
    obtain ⟨a, a1, a2⟩ := mag_From_sp (a := 10 ^ j) (by omega) (by omega)
    have la : a.length ≤ 1 := a2.len_le WW_one (by rw [show WW ^ 1 = 4294967296 from rfl]; omega)
    obtain ⟨b, b1, b2, b3⟩ := mag_Mul_sp (by omega) h4 a2
    obtain ⟨c, c1, c2⟩ := mag_From_sp (a := part) h5 (by omega)
    have lc : c.length ≤ 1 := c2.len_le WW_one (by rw [show WW ^ 1 = 4294967296 from rfl]; omega)
    obtain ⟨z, z1, z2, z3⟩ := mag_Add_sp (by omega) (by omega) b2 c2
    rw [h8] at z2
    exact ⟨a, b, c, z, a1, b1, c1, z1, z2⟩
  induction d with
  | zero =>
    intro i o V part j h1 h2 h3 h4 h5 h6 h7 h8
    have ei : i = s.size := by omega
    subst ei
    obtain ⟨a, b, c, z, a1, b1, c1, z1, z2⟩ := flush _ o V part j (Nat.le_refl _) h3 h4 h5 h6 h7 h8
    obtain ⟨R, hR, _⟩ := limited_any' z
    refine ⟨R, ?_, fun _ => ⟨z, z2, hR⟩, fun h => absurd h3 h⟩
    refine Ev.step (fun k => by rw [nat_Parse.l0]) ?_
    exact evp rfl (Ev.bind a1 (Ev.bind b1 (Ev.bind c1 (Ev.bind z1 (evb hR (evs _))))))
  | succ d ih =>
    intro i o V part j h1 h2 h3 h4 h5 h6 h7 h8
    have hb := bt_range s (i : Int)
    by_cases hd : Dig s i
    · obtain ⟨g1, g2⟩ := hd
      have g3 : ∀ p, p < i + 1 → Dig s p := fun p hp => by
        rcases Nat.lt_or_ge p i with q | q
        · exact h3 p q
        · have : p = i := by omega
          subst this
          exact ⟨g1, g2⟩
      have em : (bt s (i : Int) - 48) % 256 = bt s (i : Int) - 48 := by omega
      have hj9 : (10 : Int) ^ j ≤ 1000000000 := pow_le (B := 10) (by decide) h7
      have hj0 : (0 : Int) < 10 ^ j := Int.pow_pos (by decide)
      have step : ∀ R, Ev (fun k => nat_Parse.j1 k s o part (10 ^ j) (i : Int) false) R → Ev (fun k => nat_Parse.l0 k s o part (10 ^ j) (i : Int)) R := by
        intro R hR
        refine Ev.step (fun k => by rw [nat_Parse.l0]) ?_
        have hdd : decide (bt s (i : Int) > 57) = false := decide_eq_false (by omega)
        rw [hdd]
        exact evn (by omega) (evp (by omega) (evp (by omega) (evn (by omega) hR)))
      by_cases c9 : j = 9
      · subst c9
        obtain ⟨a, b, c, z, a1, b1, c1, z1, z2⟩ := flush i o V part 9 h2 h3 h4 h5 h6 h7 h8
        obtain ⟨R, r1, r2⟩ := ih (i + 1) z (sv s i) (0 * 10 + (bt s (i : Int) - 48)) 1 (by omega) (by omega) g3 z2 (by omega) (by rw [Int.pow_succ, Int.pow_zero]; omega) (by omega) (by
          show sv s i * 10 ^ 1 + (0 * 10 + (bt s (i : Int) - 48)) = sv s i * 10 + (bt s (i : Int) - 48)
          rw [show (10 : Int) ^ 1 = 10 from rfl]; omega)
        refine ⟨R, step R ?_, r2⟩
        refine Ev.step (fun k => by rw [nat_Parse.j1]) ?_
        rw [em, wsucc (i := i) (by omega)]
        exact evn (by simp) (evp rfl (Ev.bind a1 (Ev.bind b1 (Ev.bind c1 (Ev.bind z1 (evp (by omega) (evp (by omega) r1)))))))
      · have hj8 : (10 : Int) ^ j ≤ 100000000 := pow_le (B := 10) (by decide) (show j ≤ 8 by omega)
        obtain ⟨R, r1, r2⟩ := ih (i + 1) o V (part * 10 + (bt s (i : Int) - 48)) (j + 1) (by omega) (by omega) g3 h4 (by omega) (by rw [Int.pow_succ]; omega) (by omega) (by
          show V * 10 ^ (j + 1) + (part * 10 + (bt s (i : Int) - 48)) = sv s i * 10 + (bt s (i : Int) - 48)
          rw [Int.pow_succ]
          exact alg_p1 h8)
        refine ⟨R, step R ?_, r2⟩
        refine Ev.step (fun k => by rw [nat_Parse.j1]) ?_
        rw [em, wsucc (i := i) (by omega), u64 (x := part * 10) (by omega) (by omega), u64 (x := part * 10 + (bt s (i : Int) - 48)) (by omega) (by omega), u64 (x := 10 ^ j * 10) (by omega) (by omega)]
        exact evn (by simp) (evn (by omega) (evp (by omega) (evp (by omega) r1)))
    · refine ⟨([], 90), ?_, fun h => absurd (h i (by omega)) hd, fun _ => rfl⟩
      have fin : Ev (fun k => nat_Parse.j1 k s o part (10 ^ j) (i : Int) true) ([], 90) := by
        refine Ev.step (fun k => by rw [nat_Parse.j1]) ?_
        exact evp rfl (evs _)
      refine Ev.step (fun k => by rw [nat_Parse.l0]) ?_
      refine evn (by omega) (evp (by omega) (evp (by omega) ?_))
      by_cases c1 : bt s (i : Int) < 48
      · exact evp c1 fin
      · have : decide (bt s (i : Int) > 57) = true := decide_eq_true (by
          rcases Int.lt_or_le 57 (bt s (i : Int)) with q | q
          · exact q
          · exact absurd ⟨by omega, q⟩ hd)
        rw [this]
        exact evn c1 fin
theorem nat_Parse_sp (s : ByteArray) : ∃ R, Ev (fun k => nat_Parse.f k s) R ∧ (20000 < s.size → R = ([], 2)) ∧ (s.size ≤ 20000 → 0 < s.size → (∀ p, p < s.size → Dig s p) → ∃ z, Can WW z (sv s s.size) ∧ nat_limited.f z = some R) ∧ (s.size ≤ 20000 → ¬ (0 < s.size ∧ ∀ p, p < s.size → Dig s p) → R = ([], 90)) := by
  by_cases c1 : 20000 < s.size
  · refine ⟨([], 2), ?_, fun _ => rfl, fun h => absurd c1 (by omega), fun h => absurd c1 (by omega)⟩
    unfold nat_Parse.f
    exact evp (by omega) (evs _)
  · by_cases c2 : s.size = 0
    · refine ⟨([], 90), ?_, fun h => absurd h c1, fun _ h => by omega, fun _ _ => rfl⟩
      unfold nat_Parse.f
      exact evn (by omega) (evp ((toList_nil s).2 c2) (evs _))
    · obtain ⟨R, r1, r2, r3⟩ := parse_ev (s := s) (by omega) s.size 0 [] 0 0 0 (by omega) (by omega) (fun p hp => absurd hp (Nat.not_lt_zero _)) (Can.zero _) (by omega) (by decide) (by omega) (by simp [sv])
      refine ⟨R, ?_, fun h => absurd h c1, fun _ _ h => r2 h, fun _ h => r3 (fun h2 => h ⟨by omega, h2⟩)⟩
      unfold nat_Parse.f
      exact evn (by omega) (evn (fun h => c2 ((toList_nil s).1 h)) r1)
end Go.Proofs.Ytfmobogdnlmdbaa.P
end
section
namespace Go.Proofs.Ytfmobogdnlmdbaa.P
open Go.RowKit Go.Proofs.YtfmobogdnlmdbaaW.PrintWords Go.Proofs.YtfmobogdnlmdbaaW.PrintLast Go.Proofs.YtfmobogdnlmdbaaW.PrintMore
set_option linter.unusedVariables false
theorem txt_in {a D : List Int} {v : Int} {i : Nat} {e : Int} {R : ByteArray} (hi : i < a.length) (ha : Dg RR a) (hl : D.length < 1099511627776) (he : 0 < e) (he2 : e ≤ 1000) (hD : Can TT D v)
    (h : ∀ D', Can TT D' (v * 10 + rd a (i : Int) / e % 10) → D'.length ≤ D.length + 1 → Ev (fun k => isochroneref01_Text.l1 k a (asc D') (i : Int) (e / 10)) R) : Ev (fun k => isochroneref01_Text.l1 k a (asc D) (i : Int) e) R := by
  have hx := dg_rd ha (i : Int) (by omega) (by omega)
  rw [RR_eq] at hx
  have q0 : 0 ≤ rd a (i : Int) / e := Int.ediv_nonneg hx.1 (by omega)
  have q1 : rd a (i : Int) / e ≤ rd a (i : Int) := Int.ediv_le_self _ hx.1
  have d0 := Int.emod_nonneg (rd a (i : Int) / e) (show (10 : Int) ≠ 0 by omega)
  have d1 := Int.emod_lt_of_pos (rd a (i : Int) / e) (show (0 : Int) < 10 by omega)
  have em : (48 + rd a (i : Int) / e % 10) % 256 = rd a (i : Int) / e % 10 + 48 := by omega
  refine Ev.step (fun k => by rw [isochroneref01_Text.l1]) ?_
  rw [tdiv_nn hx.1, w64 (x := rd a (i : Int) / e) (by omega) (by omega), tmod_nn q0, tdiv_nn (Int.le_of_lt he), w64 (x := e / 10) (by omega) (by omega), w64 (x := 48 + rd a (i : Int) / e % 10) (by omega) (by omega), em, asc_len]
  generalize rd a (i : Int) / e % 10 = d at *
  refine evp he (evp (by omega) (evp (by omega) (evn (by omega) ?_)))
  have e1 : asc D ++ [d + 48] = asc ([d] ++ D) := by rw [asc_append]; rfl
  have dd : Dg TT ([d] ++ D) := Dg.append (Dg.mk d0 (by rw [TT_eq]; exact d1) (Dg.nil _)) hD.1
  have vv : vl TT ([d] ++ D) = v * 10 + d := by
    show d + 10 * vl TT D = v * 10 + d
    rw [hD.2.2]; omega
  by_cases c1 : 0 < D.length
  · rw [e1]
    have := h ([d] ++ D) ⟨dd, nm_app hD.2.1 (fun h0 => by rw [h0] at c1; simp at c1), vv⟩ (by simp)
    exact evp (by omega) (evp (by omega) this)
  · have hn : D = [] := List.eq_nil_of_length_eq_zero (by omega)
    by_cases c2 : d > 0
    · rw [e1]
      have := h ([d] ++ D) ⟨dd, by subst hn; exact nm_snoc' [] d (by omega), vv⟩ (by simp)
      exact evn (by omega) (evp c2 (evp (by omega) this))
    · have ed : d = 0 := by omega
      have ev : v = 0 := by rw [← hD.2.2, hn]; rfl
      subst ed
      have := h D (by rw [ev] at hD ⊢; exact hD) (by omega)
      exact evn (by omega) (evn (by omega) this)
theorem r_Text_ev {a Z : List Int} {n : Int} (hn : a.length < 68719476736) (ha : Can RR a n) (hZ : Can TT Z n) (d : Nat) : ∀ (i : Nat) (D : List Int), i = d → i ≤ a.length → Can TT D (vl RR (a.drop i)) → D.length + 4 * i ≤ 4 * a.length →
    Ev (fun k => isochroneref01_Text.l0 k a (asc D) ((i : Int) - 1)) (strOfNums (asc Z)) := by
  induction d with
  | zero =>
    rintro i D rfl h1 h2 h3
    rw [List.drop_zero, ha.2.2] at h2
    have := can_uniq TT_pos h2 hZ
    subst this
    refine Ev.step (fun k => by rw [isochroneref01_Text.l0]) ?_
    exact evn (by omega) (evs _)
  | succ d ih =>
    rintro i D rfl h1 h2 h3
    have hx := dg_rd ha.1 (d : Int) (by omega) (by omega)
    rw [RR_eq] at hx
    refine Ev.step (fun k => by rw [isochroneref01_Text.l0]) ?_
    rw [show (((d + 1 : Nat) : Int) - 1) = (d : Int) by omega]
    refine evp (by omega) ?_
    refine txt_in (by omega) ha.1 (by omega) (by omega) (by omega) h2 (fun D1 c1 l1 => ?_)
    rw [show (1000 : Int) / 10 = 100 from rfl]
    refine txt_in (by omega) ha.1 (by omega) (by omega) (by omega) c1 (fun D2 c2 l2 => ?_)
    rw [show (100 : Int) / 10 = 10 from rfl]
    refine txt_in (by omega) ha.1 (by omega) (by omega) (by omega) c2 (fun D3 c3 l3 => ?_)
    rw [show (10 : Int) / 10 = 1 from rfl]
    refine txt_in (by omega) ha.1 (by omega) (by omega) (by omega) c3 (fun D4 c4 l4 => ?_)
    rw [show (1 : Int) / 10 = 0 from rfl]
    refine Ev.step (fun k => by rw [isochroneref01_Text.l1]) ?_
    rw [w64 (x := (d : Int) - 1) (by omega) (by omega)]
    refine evn (by omega) (ih d D4 rfl (by omega) ?_ (by omega))
    rw [drop_rd a d (by omega), vl]
    have e : ((((vl RR (a.drop (d + 1)) * 10 + rd a (d : Int) / 1000 % 10) * 10 + rd a (d : Int) / 100 % 10) * 10 + rd a (d : Int) / 10 % 10) * 10 + rd a (d : Int) / 1 % 10) = rd a (d : Int) + RR * vl RR (a.drop (d + 1)) := by rw [RR_eq]; omega
    rw [← e]
    exact c4
theorem r_Text_sp {a Z : List Int} {n : Int} (hn : a.length < 68719476736) (ha : Can RR a n) (hZ : Can TT Z n) (hp : 0 < n) : Ev (fun k => isochroneref01_Text.f k a) (strOfNums (asc Z)) := by
  have hc : a.length ≠ 0 := fun h => by have := (ha.len_iff RR_pos).1 h; omega
  have h := r_Text_ev hn ha hZ a.length a.length [] rfl (Nat.le_refl _) (by rw [List.drop_length]; exact Can.zero _) (by simp)
  unfold isochroneref01_Text.f
  rw [w64 (x := (a.length : Int) - 1) (by omega) (by omega)]
  exact evn (by omega) h
theorem r_Decimal_ev {s : ByteArray} (hs : s.size ≤ 20000) (d : Nat) : ∀ i : Nat, s.size - i = d → i ≤ s.size → (∀ p, p < i → Dig s p) → ∃ t, Ev (fun k => isochroneref01_Decimal.l0 k s (s.size : Int) (i : Int)) t ∧ (t = true ↔ 0 < s.size ∧ ∀ p, p < s.size → Dig s p) := by
  induction d with
  | zero =>
    intro i h1 h2 h3
    have e : i = s.size := by omega
    subst e
    refine ⟨s.toList != [], ?_, ?_⟩
    · refine Ev.step (fun k => by rw [isochroneref01_Decimal.l0]) ?_
      exact evn (by omega) (evs _)
    · rw [bne_iff_ne, Ne, toList_nil]
      exact ⟨fun h => ⟨by omega, h3⟩, fun h => by omega⟩
  | succ d ih =>
    intro i h1 h2 h3
    by_cases hd : Dig s i
    · obtain ⟨g1, g2⟩ := hd
      obtain ⟨t, t1, t2⟩ := ih (i + 1) (by omega) (by omega) (fun p hp => by
        rcases Nat.lt_or_ge p i with q | q
        · exact h3 p q
        · have : p = i := by omega
          subst this
          exact ⟨g1, g2⟩)
      refine ⟨t, ?_, t2⟩
      refine Ev.step (fun k => by rw [isochroneref01_Decimal.l0]) ?_
      rw [wsucc (i := i) (by omega)]
      exact evp (by omega) (evp (by omega) (evp (by omega) (evn (by omega) (evn (by omega) t1))))
    · refine ⟨false, ?_, by simp only [Bool.false_eq_true, false_iff]; exact fun h => hd (h.2 i (by omega))⟩
      refine Ev.step (fun k => by rw [isochroneref01_Decimal.l0]) ?_
      refine evp (by omega) (evp (by omega) (evp (by omega) ?_))
      by_cases c1 : bt s (i : Int) < 48
      · exact evp c1 (evs _)
      · refine evn c1 (evp ?_ (evs _))
        rcases Int.lt_or_le 57 (bt s (i : Int)) with q | q
        · exact q
        · exact absurd ⟨by omega, q⟩ hd
theorem r_Decimal_sp {s : ByteArray} (hs : s.size ≤ 20000) : ∃ t, Ev (fun k => isochroneref01_Decimal.f k s) t ∧ (t = true ↔ 0 < s.size ∧ ∀ p, p < s.size → Dig s p) := by
  obtain ⟨t, t1, t2⟩ := r_Decimal_ev hs s.size 0 (by omega) (by omega) (fun p hp => absurd hp (Nat.not_lt_zero _))
  exact ⟨t, by unfold isochroneref01_Decimal.f; exact t1, t2⟩
theorem alg_g {d S Q v x : Int} (h : d + S * Q = v) : (d * 10 + x) + S * (Q * 10) = v * 10 + x := by grind
theorem digits_in {s : ByteArray} (hs : s.size ≤ 20000) (hall : ∀ p, p < s.size → Dig s p) (o : List Int) (lo e : Nat) (hlo : lo ≤ e) (h4 : e ≤ lo + 4) (he : e ≤ s.size) (R : List Int)
    (h : ∀ d, 0 ≤ d → d < 10 ^ (e - lo) → d + sv s lo * 10 ^ (e - lo) = sv s e → Ev (fun k => isochroneref01_Digits.l1 k s o (e : Int) d (e : Int)) R) (c : Nat) : ∀ (i : Nat) (d : Int), e - i = c → lo ≤ i → i ≤ e → 0 ≤ d → d < 10 ^ (i - lo) → d + sv s lo * 10 ^ (i - lo) = sv s i → Ev (fun k => isochroneref01_Digits.l1 k s o (e : Int) d (i : Int)) R := by
  induction c with
  | zero =>
    intro i d h1 h2 h3 h5 h6 h7
    have e1 : i = e := by omega
    subst e1
    exact h d h5 h6 h7
  | succ c ih =>
    intro i d h1 h2 h3 h5 h6 h7
    obtain ⟨g1, g2⟩ := hall i (by omega)
    have em : (bt s (i : Int) - 48) % 256 = bt s (i : Int) - 48 := by omega
    have hq : (10 : Int) ^ (i - lo) ≤ 1000 := pow_le (B := 10) (by decide) (show i - lo ≤ 3 by omega)
    have ep : i + 1 - lo = (i - lo) + 1 := by omega
    have := ih (i + 1) (d * 10 + (bt s (i : Int) - 48)) (by omega) (by omega) (by omega) (by omega) (by rw [ep, Int.pow_succ]; omega) (by
      rw [ep, Int.pow_succ]
      exact alg_g h7)
    refine Ev.step (fun k => by rw [isochroneref01_Digits.l1]) ?_
    rw [em, w64 (x := d * 10) (by omega) (by omega), w64 (x := d * 10 + (bt s (i : Int) - 48)) (by omega) (by omega), wsucc (i := i) (by omega)]
    exact evp (by omega) (evp (by omega) (evp (by omega) this))
theorem alg_gg {vo P S d v n Q : Int} (h : vo + P * v = n) (h2 : d + S * Q = v) : (vo + d * P) + (P * Q) * S = n := by grind
theorem r_Digits_ev {s : ByteArray} (hs : s.size ≤ 20000) (hall : ∀ p, p < s.size → Dig s p) (c : Nat) : ∀ (e : Int) (o : List Int), e.toNat < c → e + 4 * o.length ≤ s.size + 4 → e ≤ s.size → Dg RR o → vl RR o + RR ^ o.length * sv s e.toNat = sv s s.size → -4 ≤ e →
    ∃ r, Ev (fun k => isochroneref01_Digits.l0 k s o e) r ∧ Can RR r (sv s s.size) ∧ r.length ≤ 5002 := by
  induction c with
  | zero => intro e o h; exact absurd h (Nat.not_lt_zero _)
  | succ c ih =>
    intro e o h1 h2 h3 h4 h5 h6
    by_cases c1 : e > 0
    · obtain ⟨E, rfl⟩ := Int.eq_ofNat_of_zero_le (show 0 ≤ e by omega)
      rw [Int.toNat_natCast] at h5
      have next : ∀ d, 0 ≤ d → d < 10 ^ (E - (E - 4)) → d + sv s (E - 4) * 10 ^ (E - (E - 4)) = sv s E → ∃ r, Ev (fun k => isochroneref01_Digits.l0 k s (o ++ [d]) ((E : Int) - 4)) r ∧ Can RR r (sv s s.size) ∧ r.length ≤ 5002 := by
        intro d d0 d1 d2
        have hq : (10 : Int) ^ (E - (E - 4)) ≤ 10000 := pow_le (B := 10) (by decide) (show E - (E - 4) ≤ 4 by omega)
        refine ih ((E : Int) - 4) (o ++ [d]) (by omega) (by simp; omega) (by omega) (h4.append (Dg.mk d0 (by rw [RR_eq]; omega) (Dg.nil _))) ?_ (by omega)
        rw [vl_snoc, List.length_append, List.length_singleton, Int.pow_succ, show ((E : Int) - 4).toNat = E - 4 by omega]
        by_cases c4 : 4 ≤ E
        · rw [show E - (E - 4) = 4 by omega] at d2
          exact alg_gg h5 d2
        · have e0 : E - 4 = 0 := by omega
          rw [e0, show sv s 0 = 0 from rfl, Int.zero_mul, Int.add_zero] at d2
          rw [e0, show sv s 0 = 0 from rfl, Int.mul_zero, Int.add_zero, d2, Int.mul_comm (sv s E)]
          exact h5
      obtain ⟨dd, dd0, dd1, dd2⟩ : ∃ d, 0 ≤ d ∧ d < 10 ^ (E - (E - 4)) ∧ d + sv s (E - 4) * 10 ^ (E - (E - 4)) = sv s E := by
        have key : ∀ j, (E - 4) + j ≤ E → ∃ d, 0 ≤ d ∧ d < 10 ^ j ∧ d + sv s (E - 4) * 10 ^ j = sv s (E - 4 + j) := by
          intro j
          induction j with
          | zero => intro _; exact ⟨0, Int.le_refl _, by decide, by simp⟩
          | succ j ihj =>
            intro hj
            obtain ⟨d, a1, a2, a3⟩ := ihj (by omega)
            obtain ⟨g1, g2⟩ := hall (E - 4 + j) (by omega)
            refine ⟨d * 10 + (bt s ((E - 4 + j : Nat) : Int) - 48), by omega, by rw [Int.pow_succ]; omega, ?_⟩
            rw [Int.pow_succ]
            exact alg_g a3
        obtain ⟨d, a1, a2, a3⟩ := key (E - (E - 4)) (by omega)
        rw [show E - 4 + (E - (E - 4)) = E by omega] at a3
        exact ⟨d, a1, a2, a3⟩
      obtain ⟨r, r1, r2⟩ := next dd dd0 dd1 dd2
      refine ⟨r, ?_, r2⟩
      refine Ev.step (fun k => by rw [isochroneref01_Digits.l0]) ?_
      have em : mx 0 (wrap64 ((E : Int) - 4)) = ((E - 4 : Nat) : Int) := by
        rw [w64 (by omega) (by omega)]
        unfold mx
        split <;> omega
      rw [em]
      refine evp c1 (digits_in hs hall o (E - 4) E (by omega) (by omega) (by omega) r ?_ (E - (E - 4)) (E - 4) 0 rfl (Nat.le_refl _) (by omega) (Int.le_refl _) (by rw [Nat.sub_self]; decide) (by simp))
      intro d d0 d1 d2
      have : d = dd := by omega
      subst this
      refine Ev.step (fun k => by rw [isochroneref01_Digits.l1]) ?_
      rw [w64 (x := (E : Int) - 4) (by omega) (by omega)]
      exact evn (by omega) (evp (by omega) r1)
    · rw [show e.toNat = 0 by omega, show sv s 0 = 0 from rfl, Int.mul_zero, Int.add_zero] at h5
      obtain ⟨r, r1, r2, r3⟩ := r_trim_sp (l := o) (by omega) h4
      rw [h5] at r2
      refine ⟨r, ?_, r2, by omega⟩
      refine Ev.step (fun k => by rw [isochroneref01_Digits.l0]) ?_
      exact evn c1 (Ev.bind r1 (evs _))
theorem r_Digits_sp {s : ByteArray} (hs : s.size ≤ 20000) (hall : ∀ p, p < s.size → Dig s p) : ∃ r, Ev (fun k => isochroneref01_Digits.f k s) r ∧ Can RR r (sv s s.size) ∧ r.length ≤ 5002 := by
  obtain ⟨r, r1, r2⟩ := r_Digits_ev hs hall _ (s.size : Int) [] (Nat.lt_succ_self _) (by simp; omega) (Int.le_refl _) (Dg.nil _) (by simp [vl]) (by omega)
  exact ⟨r, by unfold isochroneref01_Digits.f; exact r1, r2⟩
end Go.Proofs.Ytfmobogdnlmdbaa.P
end
section
namespace Go.Proofs.Ytfmobogdnlmdbaa.P
open Go.RowKit Go.Proofs.YtfmobogdnlmdbaaW.PrintWords Go.Proofs.YtfmobogdnlmdbaaW.PrintLast Go.Proofs.YtfmobogdnlmdbaaW.PrintMore
set_option linter.unusedVariables false
theorem bt_nums (l : List Int) (i : Nat) (h : i < l.length) (h0 : 0 ≤ l[i]) (h1 : l[i] < 256) : bt (strOfNums l) (i : Int) = l[i] := by
  have hs : (strOfNums l).size = l.length := strOfNums_size l
  unfold bt
  rw [dif_pos (by rw [Int.toNat_natCast, hs]; exact h)]
  have e : (strOfNums l)[(i : Int).toNat]'(by rw [Int.toNat_natCast, hs]; exact h) = UInt8.ofNat (l[i]).toNat := by
    show (List.map (fun n => UInt8.ofNat n.toNat) l).toArray[(i : Int).toNat]'_ = _
    simp
  rw [e]
  have : (UInt8.ofNat (l[i]).toNat).toNat = (l[i]).toNat % 256 := by simp
  rw [this]
  omega
theorem asc_get (D : List Int) (i : Nat) (h : i < D.length) : (asc D)[i]'(by rw [asc_len]; exact h) = rd D ((D.length - 1 - i : Nat) : Int) + 48 := by
  rw [rd_lt D _ (by omega)]
  simp [asc]
theorem asc_dig {D : List Int} (hD : Dg TT D) (i : Nat) (h : i < D.length) : bt (strOfNums (asc D)) (i : Int) = rd D ((D.length - 1 - i : Nat) : Int) + 48 ∧ Dig (strOfNums (asc D)) i := by
  have hx := dg_rd hD ((D.length - 1 - i : Nat) : Int) (by omega) (by omega)
  rw [TT_eq] at hx
  have e := asc_get D i h
  have b := bt_nums (asc D) i (by rw [asc_len]; exact h) (by rw [e]; omega) (by rw [e]; omega)
  rw [e] at b
  exact ⟨b, by unfold Dig; rw [b]; omega⟩
theorem asc_sv {D : List Int} (hD : Dg TT D) (i : Nat) (h : i ≤ D.length) : sv (strOfNums (asc D)) i = vl TT (D.drop (D.length - i)) := by
  induction i with
  | zero => rw [Nat.sub_zero, List.drop_length]; rfl
  | succ i ih =>
    have e : sv (strOfNums (asc D)) (i + 1) = sv (strOfNums (asc D)) i * 10 + (bt (strOfNums (asc D)) (i : Int) - 48) := rfl
    rw [e, ih (by omega), (asc_dig hD i (by omega)).1, drop_rd D (D.length - (i + 1)) (by omega), vl, show D.length - (i + 1) + 1 = D.length - i by omega, show D.length - 1 - i = D.length - (i + 1) by omega, TT_eq]
    omega
theorem asc_all {D : List Int} {n : Int} (hD : Can TT D n) : (strOfNums (asc D)).size = D.length ∧ (∀ p, p < (strOfNums (asc D)).size → Dig (strOfNums (asc D)) p) ∧ sv (strOfNums (asc D)) (strOfNums (asc D)).size = n := by
  have hs : (strOfNums (asc D)).size = D.length := by rw [strOfNums_size, asc_len]
  refine ⟨hs, fun p hp => (asc_dig hD.1 p (by omega)).2, ?_⟩
  rw [hs, asc_sv hD.1 _ (Nat.le_refl _), Nat.sub_self, List.drop_zero, hD.2.2]
theorem texts_j (s : ByteArray) : Ev (fun k => isochronelaw01_NatTexts.j0 k s false) true := by
  obtain ⟨R, r1, r2, r3, r4⟩ := nat_Parse_sp s
  refine Ev.step (fun k => by rw [isochronelaw01_NatTexts.j0]) ?_
  refine evn (by simp) (Ev.bind r1 ?_)
  by_cases c1 : 20000 < s.size
  · have e := r2 c1
    subst e
    refine evp (by omega) (evp rfl ?_)
    exact evs _
  · refine evn (by omega) ?_
    by_cases c2 : 400 < s.size
    · exact evp (by omega) (evs _)
    · refine evn (by omega) ?_
      obtain ⟨t, t1, t2⟩ := r_Decimal_sp (s := s) (by omega)
      refine Ev.bind t1 ?_
      cases t with
      | true =>
        obtain ⟨h1, h2⟩ := t2.1 rfl
        obtain ⟨z, z1, z2⟩ := r3 (by omega) h1 h2
        have hl := sv_len h2 z1 (Int.le_refl _)
        have e : R = (z, 0) := by
          have := z2.symm.trans (limited_sp (show z.length ≤ 4096 by omega))
          exact Option.some.inj this
        subst e
        obtain ⟨r, d1, d2, d3⟩ := r_Digits_sp (s := s) (by omega) h2
        have hl2 : z.length < 4611686018427387904 := by omega
        exact evp rfl (evp rfl (Ev.bind d1 (Ev.bind (is_sp (by omega) hl2 z1 d2) (evs _))))
      | false =>
        have e := r4 (by omega) (fun h => by have := t2.2 h; simp at this)
        subst e
        refine evn (by simp) (evp rfl ?_)
        exact evs _
theorem NatTexts : isochronelaw01_NatTexts.Pure := by
  intro a s ha1 ha2 ha3 hs
  refine Ev.rounds ?_
  unfold isochronelaw01_NatTexts.f
  refine Ev.bind awake_ok (evp rfl ?_)
  obtain ⟨t, ht, hti⟩ := small_sp a [] 40 (by omega) (by simp)
  refine evb ht ?_
  cases t with
  | false => exact evn (by simp) (evs _)
  | true =>
    obtain ⟨c1, c2, c3, c4, na, nb⟩ := hti.1 rfl
    refine evp rfl ?_
    have ca := can_of (dg_wf ha3) na
    generalize hv : vl WW a = n at ca
    have n0 := ca.nonneg WW_pos
    obtain ⟨T, x, T1, x1, x2, xl, T2⟩ : ∃ T x, Ev (fun k => nat_Text.f k a) (T, 0) ∧ Ev (fun k => isochroneref01_Of.f k a) x ∧ Can RR x n ∧ Ev (fun k => isochroneref01_Text.f k x) T ∧ (0 < T.size ∧ T.size ≤ 576 ∧ (∀ p, p < T.size → Dig T p) ∧ sv T T.size = n) := by
      obtain ⟨x, x1, x2, x3⟩ := r_Of_sp (by omega) ca
      by_cases hp : 0 < n
      · obtain ⟨D, d1, d2, d3, d4⟩ := nat_Text_sp (by omega) ca hp
        obtain ⟨e1, e2, e3⟩ := asc_all d2
        refine ⟨_, x, d1, x1, x2, r_Text_sp (by omega) x2 d2 hp, ?_, by omega, e2, e3⟩
        rw [e1]
        exact List.length_pos_iff.2 d3
      · have e : n = 0 := by omega
        subst e
        have la := (ca.len_iff WW_pos).2 rfl
        have lx := (x2.len_iff RR_pos).2 rfl
        have ct : Can TT [] 0 := Can.zero _
        have hsz : (⟨#[48]⟩ : ByteArray).size = 1 := by decide
        have hbt : bt (⟨#[48]⟩ : ByteArray) ((0 : Nat) : Int) = 48 := by decide
        refine ⟨(⟨#[48]⟩ : ByteArray), x, ?_, x1, x2, ?_, by rw [hsz]; omega, by rw [hsz]; omega, ?_, ?_⟩
        · unfold nat_Text.f
          exact evb (nat_valid c3 na) (evp rfl (evp (by omega) (evs _)))
        · unfold isochroneref01_Text.f
          exact evp (by omega) (evs _)
        · intro p hp
          have : p = 0 := by omega
          subst this
          unfold Dig
          rw [hbt]
          omega
        · rw [hsz]
          show 0 * 10 + (bt (⟨#[48]⟩ : ByteArray) ((0 : Nat) : Int) - 48) = 0
          rw [hbt]
          omega
    obtain ⟨p1, p2, p3, p4⟩ := T2
    obtain ⟨R, r1, r2, r3, r4⟩ := nat_Parse_sp T
    obtain ⟨z, z1, z2⟩ := r3 (by omega) p1 p3
    rw [p4] at z1
    have ez := can_uniq WW_pos z1 ca
    subst ez
    have e : R = (z, 0) := Option.some.inj (z2.symm.trans (limited_sp c3))
    subst e
    obtain ⟨t, t1, t2⟩ := eq_sp z z (by omega)
    have et : t = true := t2.2 rfl
    subst et
    refine Ev.bind T1 (Ev.bind r1 (evp rfl (evp rfl (Ev.bind x1 (Ev.bind xl (evp rfl (Ev.bind t1 ?_)))))))
    exact texts_j s
end Go.Proofs.Ytfmobogdnlmdbaa.P
namespace Go.Proofs.Ytfmobogdnlmdbaa.Pure
theorem NatTexts : P.isochronelaw01_NatTexts.Pure := P.NatTexts
end Go.Proofs.Ytfmobogdnlmdbaa.Pure
end
section
namespace Go.Proofs.YtfmobogdnlmdbaaW.PrintWords
open Go.ChangeShapes Go.WideShapes
theorem sized_ints {H : Type} {enc : TypeId × Value → H} {P : Program} {W : World} {base : Nat} {spare : Nat → Bool} {held : Bool} {t e : TypeId} {k : IntKind} {a : Option Addr} {len cap : Nat} {d : DataW H} {ps : List MemPlace} {ts : List TypeId} {ds : List (DataW H)} {j : Nat}
    (hsz : (DataW.weightsEach P ts ds).all (· ≤ reachBytes) = true) (ht : ts[j]? = some t) (hd : ds[j]? = some d) (hu : P.underlying t = some (.slice e)) (he : P.underlying e = some (.int k)) (hc : P.cellsOf e = 1) {B : Nat} (hB : P.bytesOf e = B)
    (h : DataW.Trod enc P W base spare held t (.slice a len cap) d ps) : len * B ≤ 140737488351232 := by
  obtain ⟨fuel, hf⟩ := h
  rcases open_ints hu he hc hf with ⟨hcs, _⟩ | ⟨x, l, c, zs, hcs, _, hl, _, hz, hx, _, _⟩
  · simp [Value.cells] at hcs
    obtain ⟨rfl, rfl, rfl⟩ := hcs
    simp
  · simp [Value.cells] at hcs
    obtain ⟨rfl, rfl, rfl⟩ := hcs
    obtain ⟨hx, _⟩ := Prod.mk.inj hx
    subst hx
    have z := sized_slice hsz ht hd hu
    rw [hB] at z
    have hl2 : len ≤ zs.length := by
      rw [hz]
      split
      · exact hl
      · exact Nat.le_refl _
    have h1 : (lits (H := H) k (zs.take len)).length + (lits (H := H) k (zs.drop len)).length = zs.length := by
      simp [lits]
      omega
    rw [h1] at z
    exact Nat.le_trans (Nat.mul_le_mul_right _ hl2) z
end Go.Proofs.YtfmobogdnlmdbaaW.PrintWords
end
section
namespace Go.Proofs.Ytfmobogdnlmdbaa.natTexts
open Go.ChangeShapes Go.WideShapes Go.ChangeAt Go.RowKit
open Go.ChangeMaps (open_string shut_string)
set_option linter.unusedVariables false
theorem own : ownKnob Try.prog.godebug = none := by kernel_rfl
theorem laidOut : laidOutB Try.prog = true := by kernel_rfl
def IsRow (k : IntKind) (w : World) (a : Option Addr) (len cap : Nat) (zs : List Int) : Prop :=
  (a = none ∧ len = 0 ∧ cap = 0 ∧ zs = []) ∨
  ∃ x, a = some x ∧ len ≤ cap ∧ cap ≤ maxLen ∧ zs.length = cap ∧ (∀ i, i < zs.length → w.cell? (x.add i) = some (.int k (zs.getD i 0))) ∧ ∀ n ∈ zs, (Lit.int k n).wf = true
set_option maxRecDepth 100000 in
theorem lifted (os : Os) (started : os.Started) (H : Type) (enc : TypeId × Value → H) :
    ReturnsInHanded {} Try.checked os 6 .any (Rows.natTextsSpec.pre6 enc Try.prog Try.f6 Rows.natTextsRow.domain false) (Rows.natTextsSpec.post enc Try.prog Try.f6 false true false false) := by
  refine returnsInHanded_of_change_sized (C := Try.checked) own started (by kernel_rfl) Try.func6
    (ChangeSpec.witness6 (enc := enc) (C := Try.checked) false ⟨#[], #[.slice none 0 0, .string ByteArray.empty], []⟩ 8 (by kernel_rfl) (by kernel_rfl) (by kernel_rfl) (by kernel_rfl)) ?_
  intro W base args ds gs before hval0 hW hcnd hsz0 _
  have hsz : (DataW.weightsEach Try.prog (Try.f6.params.toList ++ Rows.natTextsSpec.plain.varTypes Try.prog) (ds ++ gs)).all (· ≤ reachBytes) = true := hsz0
  have hval : ∀ (j : Nat) t v, Try.f6.params[j]? = some t → args[j]? = some v → Value.okWide Try.prog W .any base t v := hval0
  have hW' := hW
  obtain ⟨p, q, hA0, hV, rfl, hfz, hnd⟩ := hW
  have hA : DataW.TrodAll enc Try.prog W 0 (fun _ => true) true Try.f6.params.toList args.toList ds p := hA0
  rw [Try.params6] at hA hval hsz
  obtain ⟨v0, vs0, d0, ds0, p0, q0, hargs, rfl, rfl, h0, r0⟩ := trodAll_cons hA
  obtain ⟨v1, vs1, d1, ds1, p1, q1, rfl, rfl, rfl, h1, r1⟩ := trodAll_cons r0
  obtain ⟨rfl, rfl, rfl⟩ := trodAll_nil r1
  obtain rfl : args = #[v0, v1] := by cases args; simp_all
  obtain ⟨rfl, rfl⟩ := trodVars_none hV
  obtain ⟨a0, len0, cap0, rfl⟩ := okWide_slice Try.underlying22 (hval 0 22 v0 rfl rfl)
  have k0 := h0
  have lt0 : ∀ x ∈ p0, x.block < W.heap.size := by obtain ⟨m, hm⟩ := k0; exact DataW.trod_lt m _ _ _ hm
  obtain ⟨z0, w0⟩ : ∃ zs, IsRow .u32 W a0 len0 cap0 zs := by
    obtain ⟨fuel, hf⟩ := h0
    rcases open_ints Try.underlying22 Try.underlying36 (by kernel_rfl) hf with ⟨hcs, _⟩ | ⟨x, l, c, zs, hcs, _, hl, hm, hz, _, hcell, hwz⟩
    · simp [Value.cells] at hcs
      obtain ⟨rfl, rfl, rfl⟩ := hcs
      exact ⟨[], .inl ⟨rfl, rfl, rfl, rfl⟩⟩
    · simp [Value.cells] at hcs
      obtain ⟨rfl, rfl, rfl⟩ := hcs
      exact ⟨zs, .inr ⟨_, rfl, hl, hm, by simpa using hz, hcell, hwz⟩⟩
  have y0 : len0 * 4 ≤ 140737488351232 := Go.Proofs.YtfmobogdnlmdbaaW.PrintWords.sized_ints hsz (j := 0) (t := 22) rfl rfl Try.underlying22 Try.underlying36 (by kernel_rfl) (by kernel_rfl) h0
  obtain ⟨a1, rfl, rfl, rfl, y1⟩ := open_string Try.underlying9 (hval 1 9 v1 rfl rfl) h1
  have w1 : a1.size ≤ 140737488351232 := by
    have z := sized_string hsz (j := 1) (t := 9) rfl rfl
    rw [Array.length_toList] at z
    exact z
  clear hA0 hval0 hsz0 hsz
  refine (P.isochronelaw01_NatTexts.walk Pure.NatTexts a0 len0 cap0 z0 a1 W w0 y0 w1).mono fun e W' ⟨he, bel⟩ => ?_
  subst he
  exact ⟨_, rfl, _, _, _, [], _, [], hW', trodAll_mk1 (shut_bool Try.underlying4 _), (trodAll_cons_mk (Below.trod laidOut (by kernel_rfl) (of_decide_eq_true (by kernel_rfl)) k0 bel lt0) (trodAll_cons_mk (shut_string Try.underlying9 y1) trodAll_mk0)), rfl, bel.frame _, fun h => by cases h⟩
theorem over : Rows.natTextsRow.holds Try.pinned (OpenSpec.ofChange Rows.natTextsSpec) :=
  OpenClaim.holds_of_wide 6 Try.f6 rfl rfl rfl rfl rfl rfl rfl ⟨rfl, rfl, rfl, rfl, rfl⟩ rfl rfl rfl rfl rfl (by kernel_rfl) Try.func6 (by kernel_rfl)
    (of_decide_eq_true (by kernel_rfl)) (by unfold Func.isWrapper; first | (rw [if_pos (by decide +kernel)]; kernel_rfl) | (rw [if_neg (by decide +kernel)]; exact ⟨rfl, rfl⟩))
    (fun os started H enc _ => lifted os started H enc)
theorem proved : Rows.NatTextsSaid := over
#print axioms proved
end Go.Proofs.Ytfmobogdnlmdbaa.natTexts
namespace Go.Proofs.Ytfmobogdnlmdbaa
theorem natTexts_holds : Rows.NatTextsSaid := natTexts.proved
end Go.Proofs.Ytfmobogdnlmdbaa
end
