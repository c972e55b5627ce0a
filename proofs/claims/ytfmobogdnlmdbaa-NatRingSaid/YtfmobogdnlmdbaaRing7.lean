/- NatRing: Cmp, Add, Mul and Sub of two magnitudes of at most 40 words answer as comparison, sum, product and difference, for every input. No condition. (text 7 of 7) -/
import Derived.SizedLaws
import Derived.ChangeSlices
import Derived.Test.YtfmobogdnlmdbaaRows
import Derived.WalkKit
import Derived.ProofKit
import Derived.OpenShut
import Derived.ShutString
import Derived.ChangeOld
import Derived.Below
import Derived.Test.YtfmobogdnlmdbaaRing6
section
namespace Go.Proofs.Ytfmobogdnlmdbaa.P
open Go.RowKit Go.Proofs.YtfmobogdnlmdbaaW.PrintWords Go.Proofs.YtfmobogdnlmdbaaW.PrintLast Go.Proofs.YtfmobogdnlmdbaaW.PrintMore
set_option linter.unusedVariables false
theorem nm_of_ge {B : Int} {l : List Int} (hB : 0 < B) (hd : Dg B l) (h : B ^ (l.length - 1) ≤ vl B l) : Nm l := by
  refine nm_of_rd (fun hp hz => ?_)
  have e : (l.length : Int) - 1 = ((l.length - 1 : Nat) : Int) := by omega
  rw [e] at hz
  have h1 := vl_take B l (l.length - 1) (by omega)
  rw [hz, show l.length - 1 + 1 = l.length by omega, List.take_length] at h1
  have h2 := vl_lt hB (hd.take (l.length - 1))
  rw [List.length_take, Nat.min_eq_left (by omega)] at h2
  omega
theorem alg_radd {vo va vb P c c' v x y R : Int} (h : vo + c * P = va + vb) (h2 : v + R * c' = c + x + y) : (vo + v * P) + c' * (R * P) = (va + x * P) + (vb + y * P) := by grind
theorem take_over (l : List Int) (i : Nat) (h : l.length ≤ i) : l.take i = l := List.take_of_length_le h
theorem r_Add_ev {a b : List Int} {n m : Int} (hn : a.length + b.length < 68719476736) (ha : Can RR a n) (hb : Can RR b m) (d : Nat) :
    ∀ (i : Nat) (o : List Int) (c : Int), max a.length b.length + 1 - i = d → i ≤ max a.length b.length + 1 → o.length = i → Dg RR o → 0 ≤ c → c ≤ 1 → (max a.length b.length < i → c = 0 ∧ RR ^ (max a.length b.length) ≤ n + m) →
    vl RR o + c * RR ^ i = vl RR (a.take i) + vl RR (b.take i) → ∃ r, Ev (fun k => isochroneref01_Add.l0 k a b o c (i : Int)) r ∧ Can RR r (n + m) ∧ r.length ≤ max a.length b.length + 1 := by
  induction d with
  | zero =>
    intro i o c h1 h2 h3 h4 h5 h6 h7 h8
    obtain ⟨hc, hge⟩ := h7 (by omega)
    subst hc
    rw [take_over a i (by omega), take_over b i (by omega), ha.2.2, hb.2.2, Int.zero_mul, Int.add_zero] at h8
    refine ⟨o, ?_, ⟨h4, nm_of_ge RR_pos h4 ?_, h8⟩, by omega⟩
    · refine Ev.step (fun k => by rw [isochroneref01_Add.l0]) ?_
      refine evn (by omega) (evn (by omega) ?_)
      refine Ev.step (fun k => by rw [isochroneref01_Add.j1]) ?_
      exact evn (by simp) (evs _)
    · rw [h8, h3, show i - 1 = max a.length b.length by omega]
      exact hge
  | succ d ih =>
    intro i o c h1 h2 h3 h4 h5 h6 h7 h8
    have step : ∀ (x y : Int), 0 ≤ x ∧ x < 10000 → 0 ≤ y ∧ y < 10000 → vl RR (a.take (i + 1)) = vl RR (a.take i) + x * RR ^ i → vl RR (b.take (i + 1)) = vl RR (b.take i) + y * RR ^ i → (max a.length b.length < i + 1 → (c + x + y) / 10000 = 0 ∧ RR ^ (max a.length b.length) ≤ n + m) →
        ∃ r, Ev (fun k => isochroneref01_Add.l0 k a b (o ++ [(c + x + y) % 10000]) ((c + x + y) / 10000) ((i + 1 : Nat) : Int)) r ∧ Can RR r (n + m) ∧ r.length ≤ max a.length b.length + 1 := by
      intro x y hx hy ta tb hg
      refine ih (i + 1) _ _ (by omega) (by omega) (by simp; omega) (h4.append (Dg.mk (by omega) (by rw [RR_eq]; omega) (Dg.nil _))) (by omega) (by omega) hg ?_
      rw [vl_snoc, h3, ta, tb, Int.pow_succ, Int.mul_comm (RR ^ i) RR]
      exact alg_radd h8 (by rw [RR_eq]; omega)
    by_cases hia : i < a.length
    · have hx := dg_rd ha.1 (i : Int) (by omega) (by omega)
      rw [RR_eq] at hx
      by_cases hib : i < b.length
      · have hy := dg_rd hb.1 (i : Int) (by omega) (by omega)
        rw [RR_eq] at hy
        obtain ⟨r, q1, q2⟩ := step _ _ hx hy (vl_take RR a i hia) (vl_take RR b i hib) (fun h => by omega)
        refine ⟨r, ?_, q2⟩
        refine Ev.step (fun k => by rw [isochroneref01_Add.l0]) ?_
        refine evp (by omega) ?_
        refine Ev.step (fun k => by rw [isochroneref01_Add.j1]) ?_
        rw [w64 (x := c + rd a i) (by omega) (by omega), w64 (x := c + rd a i + rd b i) (by omega) (by omega), tmod_nn (x := c + rd a i + rd b i) (by omega), tdiv_nn (x := c + rd a i + rd b i) (by omega), w64 (x := (c + rd a i + rd b i) / 10000) (by omega) (by omega), wsucc (i := i) (by omega)]
        exact evp rfl (evp (by omega) (evp (by omega) (evp (by omega) (evp (by omega) q1))))
      · obtain ⟨r, q1, q2⟩ := step _ 0 hx (by omega) (vl_take RR a i hia) (by rw [take_over b i (by omega), take_over b (i + 1) (by omega)]; omega) (fun h => by omega)
        rw [Int.add_zero] at q1
        refine ⟨r, ?_, q2⟩
        refine Ev.step (fun k => by rw [isochroneref01_Add.l0]) ?_
        refine evp (by omega) ?_
        refine Ev.step (fun k => by rw [isochroneref01_Add.j1]) ?_
        rw [w64 (x := c + rd a i) (by omega) (by omega), tmod_nn (x := c + rd a i) (by omega), tdiv_nn (x := c + rd a i) (by omega), w64 (x := (c + rd a i) / 10000) (by omega) (by omega), wsucc (i := i) (by omega)]
        exact evp rfl (evp (by omega) (evp (by omega) (evn (by omega) (evp (by omega) q1))))
    · by_cases hib : i < b.length
      · have hy := dg_rd hb.1 (i : Int) (by omega) (by omega)
        rw [RR_eq] at hy
        obtain ⟨r, q1, q2⟩ := step 0 _ (by omega) hy (by rw [take_over a i (by omega), take_over a (i + 1) (by omega)]; omega) (vl_take RR b i hib) (fun h => by omega)
        rw [Int.add_zero] at q1
        refine ⟨r, ?_, q2⟩
        refine Ev.step (fun k => by rw [isochroneref01_Add.l0]) ?_
        refine evn (by omega) (evp (by omega) ?_)
        refine Ev.step (fun k => by rw [isochroneref01_Add.j1]) ?_
        rw [w64 (x := c + rd b i) (by omega) (by omega), tmod_nn (x := c + rd b i) (by omega), tdiv_nn (x := c + rd b i) (by omega), w64 (x := (c + rd b i) / 10000) (by omega) (by omega), wsucc (i := i) (by omega)]
        exact evp rfl (evn (by omega) (evp (by omega) (evp (by omega) (evp (by omega) q1))))
      · rw [take_over a i (by omega), take_over b i (by omega), ha.2.2, hb.2.2] at h8
        by_cases hc : c = 0
        · subst hc
          rw [Int.zero_mul, Int.add_zero] at h8
          refine ⟨o, ?_, ⟨h4, ?_, h8⟩, by omega⟩
          · refine Ev.step (fun k => by rw [isochroneref01_Add.l0]) ?_
            refine evn (by omega) (evn (by omega) ?_)
            refine Ev.step (fun k => by rw [isochroneref01_Add.j1]) ?_
            exact evn (by simp) (evs _)
          · by_cases hi0 : i = 0
            · have : o = [] := List.eq_nil_of_length_eq_zero (by omega)
              rw [this]
              exact Nm.nil
            · refine nm_of_ge RR_pos h4 ?_
              rw [h8, h3]
              have hna := ha.nonneg RR_pos
              have hnb := hb.nonneg RR_pos
              by_cases hge : b.length ≤ a.length
              · have := ha.ge RR_pos (by omega)
                have h9 := pow_le (B := RR) (by have := RR_one; omega) (show i - 1 ≤ a.length - 1 by omega)
                omega
              · have := hb.ge RR_pos (by omega)
                have h9 := pow_le (B := RR) (by have := RR_one; omega) (show i - 1 ≤ b.length - 1 by omega)
                omega
        · have hc1 : c = 1 := by omega
          subst hc1
          have him : i ≤ max a.length b.length := by
            rcases Nat.lt_or_ge (max a.length b.length) i with h | h
            · have := (h7 h).1
              omega
            · exact h
          have hvo := vl_nonneg RR_pos h4
          obtain ⟨r, q1, q2⟩ := step 0 0 (by omega) (by omega) (by rw [take_over a i (by omega), take_over a (i + 1) (by omega)]; omega) (by rw [take_over b i (by omega), take_over b (i + 1) (by omega)]; omega)
            (fun h => ⟨by omega, by rw [show max a.length b.length = i by omega]; omega⟩)
          refine ⟨r, ?_, q2⟩
          refine Ev.step (fun k => by rw [isochroneref01_Add.l0]) ?_
          refine evn (by omega) (evn (by omega) ?_)
          refine Ev.step (fun k => by rw [isochroneref01_Add.j1]) ?_
          rw [wsucc (i := i) (by omega), show Int.tmod 1 10000 = (1 + 0 + 0) % 10000 by decide, show wrap64 (Int.tdiv 1 10000) = (1 + 0 + 0) / 10000 by decide +kernel]
          exact evp (by simp) (evn (by omega) (evn (by omega) (evp (by omega) q1)))
theorem r_Add_sp {a b : List Int} {n m : Int} (hn : a.length + b.length < 68719476736) (ha : Can RR a n) (hb : Can RR b m) : ∃ r, Ev (fun k => isochroneref01_Add.f k a b) r ∧ Can RR r (n + m) ∧ r.length ≤ max a.length b.length + 1 := by
  obtain ⟨r, h1, h2⟩ := r_Add_ev hn ha hb (max a.length b.length + 1) 0 [] 0 (by omega) (by omega) rfl (Dg.nil _) (by omega) (by omega) (fun h => by omega) (by simp [vl])
  exact ⟨r, Ev.congr (fun k => by rw [isochroneref01_Add.f]; rfl) h1, h2⟩
end Go.Proofs.Ytfmobogdnlmdbaa.P
end
section
namespace Go.Proofs.Ytfmobogdnlmdbaa.P
open Go.RowKit Go.Proofs.YtfmobogdnlmdbaaW.PrintWords Go.Proofs.YtfmobogdnlmdbaaW.PrintLast Go.Proofs.YtfmobogdnlmdbaaW.PrintMore
set_option linter.unusedVariables false
theorem drop_set_ge (l : List Int) (i : Nat) (v : Int) : (l.set i v).drop (i + 1) = l.drop (i + 1) := by rw [List.drop_set_of_lt (by omega)]
theorem rd_of_drop (a o : List Int) (i : Nat) (h : o.drop i = a.drop i) (hi : i < a.length) (hl : o.length = a.length) : rd o i = rd a i := by
  rw [rd_lt o i (by omega), rd_lt a i hi]
  have h1 : (o.drop i)[0]? = (a.drop i)[0]? := by rw [h]
  rw [List.getElem?_drop, List.getElem?_drop, Nat.add_zero, List.getElem?_eq_getElem (by omega), List.getElem?_eq_getElem hi] at h1
  exact Option.some.inj h1
theorem drop_tail (a o : List Int) (i : Nat) (h : o.drop i = a.drop i) : o.drop (i + 1) = a.drop (i + 1) := by
  rw [← List.drop_drop, ← List.drop_drop, h]
theorem r_Sub_ev {a b : List Int} (hba : b.length ≤ a.length) (hle : vl RR b ≤ vl RR a) (hn : a.length < 68719476736) (ha : Dg RR a) (hb : Dg RR b) (d : Nat) :
    ∀ (i : Nat) (o : List Int) (c : Int), a.length - i = d → i ≤ a.length → o.length = a.length → o.drop i = a.drop i → Dg RR (o.take i) → 0 ≤ c → c ≤ 1 → vl RR (o.take i) - c * RR ^ i = vl RR (a.take i) - vl RR (b.take i) →
    ∃ r, Ev (fun k => isochroneref01_Sub.l0 k b o c (a.length : Int) (i : Int)) r ∧ Can RR r (vl RR a - vl RR b) ∧ r.length ≤ a.length := by
  induction d with
  | zero =>
    intro i o c h1 h2 h3 hdr h4 h5 h6 h7
    have e : i = a.length := by omega
    subst e
    rw [List.take_length, List.take_of_length_le hba, ← h3, List.take_length] at h7
    rw [← h3, List.take_length] at h4
    have hlt := vl_lt RR_pos h4
    have hc : c = 0 := by
      rcases Int.lt_or_eq_of_le h6 with h | h
      · omega
      · subst h
        rw [Int.one_mul] at h7
        omega
    subst hc
    rw [Int.zero_mul, Int.sub_zero] at h7
    obtain ⟨r, h8, h9, h10⟩ := r_trim_sp (l := o) (by omega) h4
    refine ⟨r, ?_, by rw [← h7]; exact h9, by omega⟩
    refine Ev.step (fun k => by rw [isochroneref01_Sub.l0]) ?_
    refine evn (by omega) ?_
    exact Ev.bind h8 (evs _)
  | succ d ih =>
    intro i o c h1 h2 h3 hdr h4 h5 h6 h7
    have hi : i < a.length := by omega
    have hx := dg_rd ha (i : Int) (by omega) (by omega)
    rw [RR_eq] at hx
    have hro := rd_of_drop a o i hdr hi h3
    have ti := vl_take RR a i hi
    have ep : RR ^ (i + 1) = RR * RR ^ i := by rw [Int.pow_succ, Int.mul_comm]
    have hdt := drop_tail a o i hdr
    by_cases hib : i < b.length
    · have hy := dg_rd hb (i : Int) (by omega) (by omega)
      rw [RR_eq] at hy
      have tb := vl_take RR b i hib
      by_cases hneg : rd a i - c - rd b i < 0
      · obtain ⟨r, h8, h9⟩ := ih (i + 1) (o.set i (rd a i - c - rd b i + 10000)) 1 (by omega) (by omega) (by simpa using h3) (by rw [drop_set_ge, hdt]) (Dg.take_set (by omega) h4 (by omega) (by rw [RR_eq]; omega)) (by omega) (by omega)
          (by rw [vl_set _ _ _ _ (by omega), ti, tb, ep]; exact alg_sub h7 (by rw [RR_eq]; omega))
        refine ⟨r, ?_, h9⟩
        refine Ev.step (fun k => by rw [isochroneref01_Sub.l0]) ?_
        rw [hro, w64 (x := rd a i - c) (by omega) (by omega), w64 (x := rd a i - c - rd b i) (by omega) (by omega), w64 (x := rd a i - c - rd b i + 10000) (by omega) (by omega), wsucc (i := i) (by omega)]
        exact evp (by omega) (evp (by omega) (evp (by omega) (evp (by omega) (evp hneg h8))))
      · obtain ⟨r, h8, h9⟩ := ih (i + 1) (o.set i (rd a i - c - rd b i)) 0 (by omega) (by omega) (by simpa using h3) (by rw [drop_set_ge, hdt]) (Dg.take_set (by omega) h4 (by omega) (by rw [RR_eq]; omega)) (by omega) (by omega)
          (by rw [vl_set _ _ _ _ (by omega), ti, tb, ep]; exact alg_sub h7 (by rw [RR_eq]; omega))
        refine ⟨r, ?_, h9⟩
        refine Ev.step (fun k => by rw [isochroneref01_Sub.l0]) ?_
        rw [hro, w64 (x := rd a i - c) (by omega) (by omega), w64 (x := rd a i - c - rd b i) (by omega) (by omega), wsucc (i := i) (by omega)]
        exact evp (by omega) (evp (by omega) (evp (by omega) (evp (by omega) (evn hneg h8))))
    · have tb : vl RR (b.take (i + 1)) = vl RR (b.take i) := by rw [List.take_of_length_le (by omega), List.take_of_length_le (by omega)]
      by_cases hneg : rd a i - c < 0
      · obtain ⟨r, h8, h9⟩ := ih (i + 1) (o.set i (rd a i - c + 10000)) 1 (by omega) (by omega) (by simpa using h3) (by rw [drop_set_ge, hdt]) (Dg.take_set (by omega) h4 (by omega) (by rw [RR_eq]; omega)) (by omega) (by omega)
          (by rw [vl_set _ _ _ _ (by omega), ti, tb, ep]; exact alg_sub1 h7 (by rw [RR_eq]; omega))
        refine ⟨r, ?_, h9⟩
        refine Ev.step (fun k => by rw [isochroneref01_Sub.l0]) ?_
        rw [hro, w64 (x := rd a i - c) (by omega) (by omega), w64 (x := rd a i - c + 10000) (by omega) (by omega), wsucc (i := i) (by omega)]
        exact evp (by omega) (evp (by omega) (evp (by omega) (evn (by omega) (evp hneg h8))))
      · obtain ⟨r, h8, h9⟩ := ih (i + 1) (o.set i (rd a i - c)) 0 (by omega) (by omega) (by simpa using h3) (by rw [drop_set_ge, hdt]) (Dg.take_set (by omega) h4 (by omega) (by rw [RR_eq]; omega)) (by omega) (by omega)
          (by rw [vl_set _ _ _ _ (by omega), ti, tb, ep]; exact alg_sub1 h7 (by rw [RR_eq]; omega))
        refine ⟨r, ?_, h9⟩
        refine Ev.step (fun k => by rw [isochroneref01_Sub.l0]) ?_
        rw [hro, w64 (x := rd a i - c) (by omega) (by omega), wsucc (i := i) (by omega)]
        exact evp (by omega) (evp (by omega) (evp (by omega) (evn (by omega) (evn hneg h8))))
theorem canR_len_le {a b : List Int} {n m : Int} (ha : Can RR a n) (hb : Can RR b m) (h : m ≤ n) : b.length ≤ a.length := by
  rcases Nat.lt_or_ge a.length b.length with hl | hl
  · have := Can.len_lt RR_one ha hb hl
    omega
  · exact hl
theorem r_Clone_sp {l : List Int} (h : l.length < 17592186044416) : isochroneref01_Nat_int.f l = some l := by
  unfold isochroneref01_Nat_int.f
  simp [h]
theorem r_Sub_sp {a b : List Int} {n m : Int} (hn : a.length < 68719476736) (ha : Can RR a n) (hb : Can RR b m) (hle : m ≤ n) : ∃ r, Ev (fun k => isochroneref01_Sub.f k a b) r ∧ Can RR r (n - m) ∧ r.length ≤ a.length := by
  have hba := canR_len_le ha hb hle
  rw [← ha.2.2, ← hb.2.2] at *
  obtain ⟨r, h1, h2⟩ := r_Sub_ev hba hle hn ha.1 hb.1 a.length 0 a 0 (by omega) (by omega) rfl rfl (by simp; exact Dg.nil _) (by omega) (by omega) (by simp [vl])
  refine ⟨r, ?_, h2⟩
  unfold isochroneref01_Sub.f
  exact evb (r_Clone_sp (by omega)) h1
theorem vl_set_all (B : Int) (l : List Int) (p : Nat) (v : Int) (h : p < l.length) : vl B (l.set p v) = vl B l + (v - rd l (p : Int)) * B ^ p := by
  have h1 := vl_set_mid B l p l.length v h (Nat.le_refl _)
  rwa [List.take_of_length_le (by simp), List.take_length] at h1
theorem alg_carry {T c P V old v c' W : Int} (h : T + c * P = V) (h2 : v + W * c' = c + old) : (T + (v - old) * P) + c' * (W * P) = V := by grind
theorem r_Mul_c {a b : List Int} {V : Int} (hn : a.length + b.length < 68719476736) (hV : V < RR ^ (a.length + b.length)) (s : Int) (R : List Int)
    (hout : ∀ o : List Int, o.length = a.length + b.length + 1 → Dg RR o → vl RR o = V → Ev (fun k => isochroneref01_Mul.l0 k b o a (a.length : Int) (wrap64 (s + 1))) R) (d : Nat) :
    ∀ (p : Nat) (o : List Int) (c : Int), a.length + b.length + 1 - p = d → p ≤ a.length + b.length + 1 → o.length = a.length + b.length + 1 → Dg RR o → 0 ≤ c → c < 10000 → vl RR o + c * RR ^ p = V →
    Ev (fun k => isochroneref01_Mul.l2 k b o c (p : Int) a (a.length : Int) s) R := by
  induction d with
  | zero =>
    intro p o c h1 h2 h3 h4 h5 h6 h7
    have hvo := vl_nonneg RR_pos h4
    have hc : c = 0 := by
      rcases Int.lt_or_eq_of_le h5 with h | h
      · have h8 := pow_le (B := RR) (by have := RR_one; omega) (show a.length + b.length ≤ p by omega)
        have h9 : 1 * RR ^ p ≤ c * RR ^ p := Int.mul_le_mul_of_nonneg_right (by omega) (Int.le_of_lt (Int.pow_pos RR_pos))
        omega
      · omega
    subst hc
    rw [Int.zero_mul, Int.add_zero] at h7
    refine Ev.step (fun k => by rw [isochroneref01_Mul.l2]) ?_
    exact evn (by omega) (hout o h3 h4 h7)
  | succ d ih =>
    intro p o c h1 h2 h3 h4 h5 h6 h7
    by_cases hc : c = 0
    · subst hc
      rw [Int.zero_mul, Int.add_zero] at h7
      refine Ev.step (fun k => by rw [isochroneref01_Mul.l2]) ?_
      exact evn (by omega) (hout o h3 h4 h7)
    · have ho := dg_rd h4 (p : Int) (by omega) (by omega)
      rw [RR_eq] at ho
      have h8 := ih (p + 1) (o.set p ((c + rd o p) % 10000)) ((c + rd o p) / 10000) (by omega) (by omega) (by simpa using h3) (h4.set _ (by omega) (by rw [RR_eq]; omega)) (by omega) (by omega)
        (by rw [vl_set_all _ _ _ _ (by omega), Int.pow_succ, Int.mul_comm (RR ^ p) RR]; exact alg_carry h7 (by rw [RR_eq]; omega))
      refine Ev.step (fun k => by rw [isochroneref01_Mul.l2]) ?_
      rw [w64 (x := c + rd o p) (by omega) (by omega), tmod_nn (x := c + rd o p) (by omega), tdiv_nn (x := c + rd o p) (by omega), w64 (x := (c + rd o p) / 10000) (by omega) (by omega), wsucc (i := p) (by omega), Int.toNat_natCast]
      exact evp (by omega) (evp (by omega) (evp (by omega) h8))
theorem mul_bd4 {x y : Int} (hx : 0 ≤ x ∧ x < 10000) (hy : 0 ≤ y ∧ y < 10000) : 0 ≤ x * y ∧ x * y ≤ 99980001 := by
  have h1 : 0 ≤ x * y := Int.mul_nonneg hx.1 hy.1
  have h2 : x * y ≤ 9999 * 9999 := Int.mul_le_mul (by omega) (by omega) hy.1 (by omega)
  omega
theorem alg_rmul {T va vb x y old P c c' v W xb Pi Pj : Int} (h : T + c * P = va * vb + x * Pi * xb) (h2 : v + W * c' = c + (old + x * y)) (hP : P = Pi * Pj) : (T + (v - old) * P) + c' * (W * P) = va * vb + x * Pi * (xb + y * Pj) := by grind
theorem r_Mul_in {a b : List Int} (hn : a.length + b.length < 68719476736) (ha : Dg RR a) (hb : Dg RR b) (i : Nat) (hi : i < a.length) (R : List Int)
    (hout : ∀ o : List Int, o.length = a.length + b.length + 1 → Dg RR o → vl RR o = vl RR (a.take (i + 1)) * vl RR b → Ev (fun k => isochroneref01_Mul.l0 k b o a (a.length : Int) ((i + 1 : Nat) : Int)) R) (d : Nat) :
    ∀ (j : Nat) (o : List Int) (c : Int), b.length - j = d → j ≤ b.length → o.length = a.length + b.length + 1 → Dg RR o → 0 ≤ c → c < 10000 →
    vl RR o + c * RR ^ (i + j) = vl RR (a.take i) * vl RR b + rd a i * RR ^ i * vl RR (b.take j) →
    Ev (fun k => isochroneref01_Mul.l1 k b o (i : Int) (rd a i) c a (a.length : Int) (i : Int) b (b.length : Int) (j : Int)) R := by
  have hx := dg_rd ha (i : Int) (by omega) (by omega)
  rw [RR_eq] at hx
  induction d with
  | zero =>
    intro j o c h1 h2 h3 h4 h5 h6 h7
    have e : j = b.length := by omega
    subst e
    rw [List.take_length] at h7
    have h8 := alg_mul2 h7
    rw [← vl_take RR a i hi] at h8
    have hlt : vl RR (a.take (i + 1)) * vl RR b < RR ^ (a.length + b.length) := by
      rw [Int.pow_add]
      have q1 := vl_lt RR_pos (ha.take (i + 1))
      have q2 := pow_le (B := RR) (by have := RR_one; omega) (show (a.take (i + 1)).length ≤ a.length by rw [List.length_take]; omega)
      exact mul_lt' (by omega) (vl_lt RR_pos hb) (vl_nonneg RR_pos (ha.take _)) (vl_nonneg RR_pos hb)
    have h9 := r_Mul_c (a := a) (b := b) (V := vl RR (a.take (i + 1)) * vl RR b) hn hlt (i : Int) R (fun o' q1 q2 q3 => by rw [wsucc (i := i) (by omega)]; exact hout o' q1 q2 q3) (a.length + b.length + 1 - (i + b.length)) (i + b.length) o c rfl (by omega) h3 h4 h5 h6 h8
    have ei : ((i : Int) + (b.length : Int)) = ((i + b.length : Nat) : Int) := by omega
    refine Ev.step (fun k => by rw [isochroneref01_Mul.l1]) ?_
    rw [ei, w64 (x := ((i + b.length : Nat) : Int)) (by omega) (by omega)]
    exact evn (by omega) h9
  | succ d ih =>
    intro j o c h1 h2 h3 h4 h5 h6 h7
    have hy := dg_rd hb (j : Int) (by omega) (by omega)
    have ho := dg_rd h4 ((i + j : Nat) : Int) (by omega) (by omega)
    rw [RR_eq] at hy ho
    have hm := mul_bd4 hx hy
    have h8 := ih (j + 1) (o.set (i + j) ((c + (rd o ((i + j : Nat) : Int) + rd a i * rd b j)) % 10000)) ((c + (rd o ((i + j : Nat) : Int) + rd a i * rd b j)) / 10000) (by omega) (by omega) (by simpa using h3) (h4.set _ (by omega) (by rw [RR_eq]; omega)) (by omega) (by omega)
      (by
        rw [vl_set_all _ _ _ _ (by omega), vl_take RR b j (by omega), show i + (j + 1) = i + j + 1 by omega, Int.pow_succ, Int.mul_comm (RR ^ (i + j)) RR]
        exact alg_rmul h7 (by rw [RR_eq]; omega) (Int.pow_add _ _ _))
    have ei : ((i : Int) + (j : Int)) = ((i + j : Nat) : Int) := by omega
    refine Ev.step (fun k => by rw [isochroneref01_Mul.l1]) ?_
    rw [ei, w64 (x := ((i + j : Nat) : Int)) (by omega) (by omega), w64 (x := rd a i * rd b j) (by omega) (by omega), w64 (x := rd o ((i + j : Nat) : Int) + rd a i * rd b j) (by omega) (by omega), w64 (x := c + (rd o ((i + j : Nat) : Int) + rd a i * rd b j)) (by omega) (by omega),
      tmod_nn (x := c + (rd o ((i + j : Nat) : Int) + rd a i * rd b j)) (by omega), tdiv_nn (x := c + (rd o ((i + j : Nat) : Int) + rd a i * rd b j)) (by omega), w64 (x := (c + (rd o ((i + j : Nat) : Int) + rd a i * rd b j)) / 10000) (by omega) (by omega), wsucc (i := j) (by omega), Int.toNat_natCast]
    exact evp (by omega) (evp (by omega) (evp (by omega) (evp (by omega) (evp (by omega) h8))))
theorem r_Mul_out {a b : List Int} (hn : a.length + b.length < 68719476736) (ha : Dg RR a) (hb : Dg RR b) : ∃ R, Can RR R (vl RR a * vl RR b) ∧ R.length ≤ a.length + b.length ∧ ∀ (d i : Nat) (o : List Int), a.length - i = d → i ≤ a.length → o.length = a.length + b.length + 1 → Dg RR o → vl RR o = vl RR (a.take i) * vl RR b →
    Ev (fun k => isochroneref01_Mul.l0 k b o a (a.length : Int) (i : Int)) R := by
  have hnn : 0 ≤ vl RR a * vl RR b := Int.mul_nonneg (vl_nonneg RR_pos ha) (vl_nonneg RR_pos hb)
  obtain ⟨R, hR⟩ := can_ex RR_one hnn
  have hRl : R.length ≤ a.length + b.length := by
    refine hR.len_le RR_one ?_
    rw [Int.pow_add]
    exact mul_lt' (vl_lt RR_pos ha) (vl_lt RR_pos hb) (vl_nonneg RR_pos ha) (vl_nonneg RR_pos hb)
  refine ⟨R, hR, hRl, ?_⟩
  intro d
  induction d with
  | zero =>
    intro i o h1 h2 h3 h4 h5
    have e : i = a.length := by omega
    subst e
    rw [List.take_length] at h5
    obtain ⟨r, h8, h9, h10⟩ := r_trim_sp (l := o) (by omega) h4
    rw [h5] at h9
    rw [can_uniq RR_pos hR h9]
    refine Ev.step (fun k => by rw [isochroneref01_Mul.l0]) ?_
    exact evn (by omega) (Ev.bind h8 (evs _))
  | succ d ih =>
    intro i o h1 h2 h3 h4 h5
    have h6 := r_Mul_in hn ha hb i (by omega) R (fun o' q1 q2 q3 => ih (i + 1) o' (by omega) (by omega) q1 q2 q3) b.length 0 o 0 (by omega) (by omega) h3 h4 (by omega) (by omega) (by rw [h5]; simp [vl])
    refine Ev.step (fun k => by rw [isochroneref01_Mul.l0]) ?_
    exact evp (by omega) (evp (by omega) (evp (by omega) h6))
theorem r_Mul_sp {a b : List Int} {n m : Int} (hn : a.length + b.length < 68719476736) (ha : Can RR a n) (hb : Can RR b m) : ∃ r, Ev (fun k => isochroneref01_Mul.f k a b) r ∧ Can RR r (n * m) ∧ r.length ≤ a.length + b.length := by
  obtain ⟨R, h1, h2, h3⟩ := r_Mul_out hn ha.1 hb.1
  rw [ha.2.2, hb.2.2] at h1
  refine ⟨R, ?_, h1, h2⟩
  have h4 := h3 a.length 0 (List.replicate (a.length + b.length + 1) 0) (by omega) (by omega) (by simp) (Dg.rep RR_pos _) (by simp [vl, vl_rep])
  unfold isochroneref01_Mul.f
  have e : (a.length : Int) + (b.length : Int) = ((a.length + b.length : Nat) : Int) := by omega
  rw [e, w64 (x := ((a.length + b.length : Nat) : Int)) (by omega) (by omega), wsucc (i := a.length + b.length) (by omega), Int.toNat_natCast]
  exact evp (by omega) (evp (by omega) h4)
end Go.Proofs.Ytfmobogdnlmdbaa.P
end
section
namespace Go.Proofs.Ytfmobogdnlmdbaa.P
open Go.RowKit Go.Proofs.YtfmobogdnlmdbaaW.PrintWords Go.Proofs.YtfmobogdnlmdbaaW.PrintLast Go.Proofs.YtfmobogdnlmdbaaW.PrintMore
set_option linter.unusedVariables false
theorem getLast_snoc (l : List Int) (x : Int) (h : l ++ [x] ≠ []) : (l ++ [x]).getLast h = x := by simp
theorem drop_set_self (l : List Int) (i : Nat) (v : Int) (h : i < l.length) : (l.set i v).drop i = v :: l.drop (i + 1) := by
  rw [List.drop_eq_getElem_cons (by simpa using h), List.getElem_set_self, drop_set_ge]
theorem drop_rd (l : List Int) (i : Nat) (h : i < l.length) : l.drop i = rd l i :: l.drop (i + 1) := by
  rw [rd_lt l i h]
  exact List.drop_eq_getElem_cons h
theorem alg_split {t r va q rr d R K : Int} (h : t * K + r = va) (h2 : q * K + rr = r * R + d) : (q + R * t) * K + rr = d + R * va := by grind
theorem r_Split_ev {a : List Int} (hn : a.length < 68719476736) (ha : Dg RR a) {K : Int} (hK : 1 ≤ K ∧ K ≤ 65536) (d : Nat) : ∀ (i : Nat) (o : List Int) (r : Int), i = d → i ≤ a.length → o.length = a.length → Dg RR (o.drop i) → 0 ≤ r → r < K → vl RR (o.drop i) * K + r = vl RR (a.drop i) →
    ∃ q z, Ev (fun k => isochroneref01_Split.l0 k a K o r ((i : Int) - 1)) (q, z) ∧ (∃ m, Can RR q m ∧ m * K + z = vl RR a) ∧ 0 ≤ z ∧ z < K ∧ q.length ≤ a.length := by
  induction d with
  | zero =>
    rintro i o r rfl h1 h2 h3 h4 h5 h6
    rw [List.drop_zero] at h3 h6
    rw [List.drop_zero] at h6
    obtain ⟨q, h7, h8, h9⟩ := r_trim_sp (l := o) (by omega) h3
    refine ⟨q, r, ?_, ⟨_, h8, h6⟩, h4, h5, by omega⟩
    refine Ev.step (fun k => by rw [isochroneref01_Split.l0]) ?_
    exact evn (by omega) (Ev.bind h7 (evs _))
  | succ d ih =>
    rintro i o r rfl h1 h2 h3 h4 h5 h6
    have e1 : (((d + 1 : Nat) : Int) - 1) = (d : Int) := by omega
    have hx := dg_rd ha (d : Int) (by omega) (by omega)
    rw [RR_eq] at hx
    have hv0 : 0 ≤ r * 10000 + rd a d := by omega
    have hq0 : 0 ≤ (r * 10000 + rd a d) / K := Int.ediv_nonneg hv0 (by omega)
    have hq1 : (r * 10000 + rd a d) / K < 10000 := by
      refine Int.ediv_lt_of_lt_mul (by omega) ?_
      have : (r + 1) * 10000 ≤ K * 10000 := Int.mul_le_mul_of_nonneg_right (by omega) (by omega)
      omega
    have hm0 := Int.emod_nonneg (r * 10000 + rd a d) (show K ≠ 0 by omega)
    have hm1 := Int.emod_lt_of_pos (r * 10000 + rd a d) (show 0 < K by omega)
    have hdv : (r * 10000 + rd a d) / K * K + (r * 10000 + rd a d) % K = r * RR + rd a d := by rw [RR_eq]; exact Int.ediv_mul_add_emod _ _
    obtain ⟨q, z, h7, h8⟩ := ih d (o.set d ((r * 10000 + rd a d) / K)) ((r * 10000 + rd a d) % K) rfl (by omega) (by simpa using h2)
      (by rw [drop_set_self _ _ _ (by omega)]; exact Dg.mk hq0 (by rw [RR_eq]; exact hq1) h3) hm0 hm1
      (by rw [drop_set_self _ _ _ (by omega), drop_rd a d (by omega), vl, vl]; exact alg_split h6 hdv)
    refine ⟨q, z, ?_, h8⟩
    refine Ev.step (fun k => by rw [isochroneref01_Split.l0]) ?_
    rw [e1, w64 (x := r * 10000) (by omega) (by omega), w64 (x := r * 10000 + rd a d) (by omega) (by omega), tdiv_nn hv0, tmod_nn hv0, w64 (x := (r * 10000 + rd a d) / K) (by omega) (by omega), w64 (x := (d : Int) - 1) (by omega) (by omega), Int.toNat_natCast]
    exact evp (by omega) (evp (by omega) (evp (by omega) (evn (by omega) (evp (by omega) h7))))
theorem r_Split_sp {a : List Int} {n K : Int} (hn : a.length < 68719476736) (ha : Can RR a n) (hK : 1 ≤ K ∧ K ≤ 65536) : ∃ q, Ev (fun k => isochroneref01_Split.f k a K) (q, n % K) ∧ Can RR q (n / K) ∧ q.length ≤ a.length := by
  obtain ⟨q, z, h1, ⟨m, h2, h3⟩, h4, h5, h6⟩ := r_Split_ev hn ha.1 hK a.length a.length (List.replicate a.length 0) 0 rfl (Nat.le_refl _) (by simp) (by rw [List.drop_of_length_le (by simp)]; exact Dg.nil _) (by omega) (by omega) (by rw [List.drop_of_length_le (by simp), List.drop_of_length_le (by simp)]; simp [vl])
  rw [ha.2.2] at h3
  have e1 : n % K = z := by rw [← h3, Int.add_comm, Int.add_mul_emod_self_right, Int.emod_eq_of_lt h4 h5]
  have e2 : n / K = m := by
    have h7 := Int.ediv_mul_add_emod n K
    rw [e1] at h7
    exact Int.eq_of_mul_eq_mul_right (a := K) (by omega) (by omega)
  rw [e1, e2]
  refine ⟨q, ?_, h2, h6⟩
  unfold isochroneref01_Split.f
  rw [Int.toNat_natCast, w64 (by omega) (by omega)]
  exact evp (by omega) (evp (by omega) h1)
abbrev HH : Int := 65536
theorem HH_eq : HH = 65536 := rfl
theorem vl2 (h : List Int) (i : Nat) (hi : i + 1 < h.length) : vl HH (h.drop i) = rd h i + 65536 * rd h ((i + 1 : Nat) : Int) + WW * vl HH (h.drop (i + 2)) := by
  rw [drop_rd h i (by omega), vl, drop_rd h (i + 1) hi, vl, WW_eq, HH_eq, show i + 1 + 1 = i + 2 from rfl]
  omega
theorem vl1 (h : List Int) (i : Nat) (hi : i + 1 = h.length) : vl HH (h.drop i) = rd h i := by
  rw [drop_rd h i (by omega), vl, List.drop_of_length_le (by omega)]
  simp [vl]
theorem alg_w {vo P x w V W T : Int} (h : vo + P * T = V) (h2 : T = w + W * x) : (vo + w * P) + (W * P) * x = V := by grind
theorem r_Words_out {h : List Int} (hn : h.length < 68719476736) (hd : Dg HH h) (hnm : Nm h) (n : Int) (d : Nat) : ∀ (i : Nat) (o : List Int), h.length - i = d → i = 2 * o.length → Dg WW o → (h.length ≤ i → Nm o) → vl WW o + WW ^ o.length * vl HH (h.drop i) = n →
    ∃ r, Ev (fun k => isochroneref01_Words.l1 k h o (i : Int)) r ∧ Can WW r n := by
  induction d using Nat.strongRecOn with
  | _ d ih =>
    intro i o h1 h2 h3 h4 h5
    by_cases hi : i < h.length
    · have hx := dg_rd hd (i : Int) (by omega) (by omega)
      rw [HH_eq] at hx
      have ei2 : (i : Int) + 2 = ((i + 2 : Nat) : Int) := by omega
      by_cases hi1 : i + 1 < h.length
      · have hy := dg_rd hd ((i + 1 : Nat) : Int) (by omega) (by omega)
        rw [HH_eq] at hy
        have hl : i + 2 = h.length → rd h ((i + 1 : Nat) : Int) ≠ 0 := by
          intro he
          have h6 := hnm.rd (by omega)
          rw [show (h.length : Int) - 1 = ((i + 1 : Nat) : Int) by omega] at h6
          exact h6
        obtain ⟨r, h7, h8⟩ := ih (h.length - (i + 2)) (by omega) (i + 2) (o ++ [rd h i + 65536 * rd h ((i + 1 : Nat) : Int)]) rfl (by simp; omega) (h3.append (Dg.mk (by omega) (by rw [WW_eq]; omega) (Dg.nil _)))
          (by
            intro hle hne
            rw [getLast_snoc]
            have := hl (by omega)
            omega)
          (by rw [vl_snoc, List.length_append, List.length_singleton, Int.pow_succ, Int.mul_comm (WW ^ o.length) WW]; exact alg_w h5 (vl2 h i hi1))
        refine ⟨r, ?_, h8⟩
        refine Ev.step (fun k => by rw [isochroneref01_Words.l1]) ?_
        have ew : (rd h i % 4294967296 + rd h ((i + 1 : Nat) : Int) % 4294967296 * 65536 % 4294967296) % 4294967296 = rd h i + 65536 * rd h ((i + 1 : Nat) : Int) := by omega
        rw [wsucc (i := i) (by omega), ew, ei2, w64 (x := ((i + 2 : Nat) : Int)) (by omega) (by omega)]
        exact evp (by omega) (evp (by omega) (evp (by omega) (evp (by omega) (evp (by omega) h7))))
      · have hl : rd h (i : Int) ≠ 0 := by
          have h6 := hnm.rd (by omega)
          rw [show (h.length : Int) - 1 = (i : Int) by omega] at h6
          exact h6
        obtain ⟨r, h7, h8⟩ := ih (h.length - (i + 2)) (by omega) (i + 2) (o ++ [rd h i]) rfl (by simp; omega) (h3.append (Dg.mk (by omega) (by rw [WW_eq]; omega) (Dg.nil _)))
          (by
            intro hle hne
            rw [getLast_snoc]
            exact hl)
          (by
            rw [vl_snoc, List.length_append, List.length_singleton, Int.pow_succ, Int.mul_comm (WW ^ o.length) WW]
            refine alg_w (T := vl HH (h.drop i)) h5 ?_
            rw [vl1 h i (by omega), List.drop_of_length_le (by omega)]
            simp [vl])
        refine ⟨r, ?_, h8⟩
        refine Ev.step (fun k => by rw [isochroneref01_Words.l1]) ?_
        have ew : rd h i % 4294967296 = rd h i := by omega
        rw [wsucc (i := i) (by omega), ew, ei2, w64 (x := ((i + 2 : Nat) : Int)) (by omega) (by omega)]
        exact evp (by omega) (evp (by omega) (evn (by omega) (evp (by omega) h7)))
    · rw [List.drop_of_length_le (by omega)] at h5
      refine ⟨o, ?_, h3, h4 (by omega), by simpa [vl] using h5⟩
      refine Ev.step (fun k => by rw [isochroneref01_Words.l1]) ?_
      exact evn (by omega) (evs _)
theorem alg_h {vh P m q r K n : Int} (h : vh + m * P = n) (h2 : q * K + r = m) : (vh + r * P) + q * (K * P) = n := by grind
theorem r_Words_in (n : Int) (c : Nat) : ∀ (a h : List Int) (m : Int), m.toNat = c → Can RR a m → a.length + h.length < 17179869184 → h.length + 4 * a.length < 17179869184 → Dg HH h → (m = 0 → Nm h) → vl HH h + m * HH ^ h.length = n → (∀ a' : List Int, a'.length ≤ a.length → True) →
    ∃ r, Ev (fun k => isochroneref01_Words.l0 k a h) r ∧ Can WW r n := by
  induction c using Nat.strongRecOn with
  | _ c ih =>
    intro a h m hm ha hl hl2 hd hnm hv _
    have hm0 := ha.nonneg RR_pos
    by_cases hz : m = 0
    · have e : a = [] := (ha.nil_iff RR_pos).2 hz
      subst hz
      subst e
      rw [Int.zero_mul, Int.add_zero] at hv
      obtain ⟨r, h1, h2⟩ := r_Words_out (by omega) hd (hnm rfl) n h.length 0 [] (by omega) rfl (Dg.nil _) (fun _ => Nm.nil) (by simpa [vl] using hv)
      refine ⟨r, ?_, h2⟩
      refine Ev.step (fun k => by rw [isochroneref01_Words.l0]) ?_
      exact evn (by simp) h1
    · have hal : a.length ≠ 0 := fun h0 => hz ((ha.len_iff RR_pos).1 h0)
      obtain ⟨q, h1, h2, h3⟩ := r_Split_sp (K := 65536) (by omega) ha (by omega)
      have hq : q.length + 1 ≤ a.length := by
        have h4 := ha.lt RR_pos
        have h5 : m / 65536 < RR ^ (a.length - 1) := by
          have h6 : RR ^ a.length = RR ^ (a.length - 1) * RR := by
            conv => lhs; rw [show a.length = a.length - 1 + 1 by omega, Int.pow_succ]
          rw [h6, RR_eq] at h4
          rw [RR_eq]
          omega
        have := h2.len_le RR_one h5
        omega
      obtain ⟨r, h7, h8⟩ := ih (m / 65536).toNat (by omega) q (h ++ [m % 65536]) (m / 65536) rfl h2 (by simp; omega) (by simp; omega) (hd.append (Dg.mk (by omega) (by rw [HH_eq]; omega) (Dg.nil _)))
        (by
          intro hz2 hne
          rw [getLast_snoc]
          omega)
        (by rw [vl_snoc, List.length_append, List.length_singleton, Int.pow_succ, Int.mul_comm (HH ^ h.length) HH]; exact alg_h hv (by rw [HH_eq]; omega)) (fun _ _ => trivial)
      refine ⟨r, ?_, h8⟩
      refine Ev.step (fun k => by rw [isochroneref01_Words.l0]) ?_
      exact evp (by omega) (Ev.bind h1 (evp (by omega) h7))
theorem r_Words_sp {a : List Int} {n : Int} (hn : a.length < 1073741824) (ha : Can RR a n) : ∃ r, Ev (fun k => isochroneref01_Words.f k a) r ∧ Can WW r n := by
  obtain ⟨r, h1, h2⟩ := r_Words_in n n.toNat a [] n rfl ha (by simp; omega) (by simp; omega) (Dg.nil _) (fun _ => Nm.nil) (by simp [vl]) (fun _ _ => trivial)
  exact ⟨r, Ev.congr (fun k => by rw [isochroneref01_Words.f]) h1, h2⟩
theorem eq_ev {a b : List Int} (hl : a.length = b.length) (hn : a.length < 4611686018427387904) (d : Nat) : ∀ i : Nat, a.length - i = d → i ≤ a.length → a.take i = b.take i → ∃ r, Ev (fun k => slices_Equal_uint32_uint32.l0 k a b (a.length : Int) (i : Int)) r ∧ (r = true ↔ a = b) := by
  induction d with
  | zero =>
    intro i h1 h2 h3
    have e : i = a.length := by omega
    subst e
    rw [List.take_length, List.take_of_length_le (by omega)] at h3
    refine ⟨true, ?_, by simp [h3]⟩
    refine Ev.step (fun k => by rw [slices_Equal_uint32_uint32.l0]) ?_
    exact evn (by omega) (evs _)
  | succ d ih =>
    intro i h1 h2 h3
    by_cases he : rd a i = rd b i
    · obtain ⟨r, h4, h5⟩ := ih (i + 1) (by omega) (by omega) (by
        rw [List.take_succ_eq_append_getElem (by omega), List.take_succ_eq_append_getElem (by omega), h3, ← rd_lt a i (by omega), ← rd_lt b i (by omega), he])
      refine ⟨r, ?_, h5⟩
      refine Ev.step (fun k => by rw [slices_Equal_uint32_uint32.l0]) ?_
      rw [wsucc (i := i) (by omega)]
      exact evp (by omega) (evp (by omega) (evp (by omega) (evp (by omega) (evp he h4))))
    · refine ⟨false, ?_, by
        simp only [Bool.false_eq_true, false_iff]
        rintro rfl
        exact he rfl⟩
      refine Ev.step (fun k => by rw [slices_Equal_uint32_uint32.l0]) ?_
      exact evp (by omega) (evp (by omega) (evp (by omega) (evp (by omega) (evn he (evs _)))))
theorem eq_sp (a b : List Int) (hn : a.length < 4611686018427387904) : ∃ r, Ev (fun k => slices_Equal_uint32_uint32.f k a b) r ∧ (r = true ↔ a = b) := by
  unfold slices_Equal_uint32_uint32.f
  by_cases hl : a.length = b.length
  · obtain ⟨r, h1, h2⟩ := eq_ev hl hn a.length 0 (by omega) (by omega) (by simp)
    exact ⟨r, evp (by omega) h1, h2⟩
  · refine ⟨false, evn (by omega) (evs _), ?_⟩
    simp only [Bool.false_eq_true, false_iff]
    rintro rfl
    exact hl rfl
theorem is_sp {l w : List Int} {n : Int} (hn : w.length < 1073741824) (hl : l.length < 4611686018427387904) (h1 : Can WW l n) (h2 : Can RR w n) : Ev (fun k => isochronelaw01_is.f k l w) true := by
  obtain ⟨r, h3, h4⟩ := r_Words_sp hn h2
  obtain ⟨e, h5, h6⟩ := eq_sp l r hl
  have : e = true := h6.2 (can_uniq WW_pos h1 h4)
  subst this
  unfold isochronelaw01_is.f
  exact Ev.bind h3 (Ev.bind h5 (evs _))
theorem valid_sp (l : List Int) (hl : l.length < 4611686018427387904) : ∃ b, isochroneref01_Valid.f l = some b ∧ nat_Valid.f l = some b ∧ (b = true ↔ l.length ≤ 4096 ∧ Nm l) := by
  unfold isochroneref01_Valid.f nat_Valid.f
  by_cases h1 : l.length ≤ 4096
  · by_cases h0 : l.length = 0
    · refine ⟨true, by rw [if_pos (by omega), if_pos (by omega)], by rw [if_pos (by omega), if_pos (by omega)], ?_⟩
      have : l = [] := List.eq_nil_of_length_eq_zero h0
      subst this
      simp
      exact Nm.nil
    · have e : wrap64 ((l.length : Int) - 1) = (l.length : Int) - 1 := w64 (by omega) (by omega)
      rw [e, if_pos (by omega), if_neg (by omega), if_pos (by omega), if_pos (by omega)]
      refine ⟨_, rfl, rfl, ?_⟩
      simp only [bne_iff_ne]
      constructor
      · intro h
        exact ⟨h1, nm_of_rd (fun _ => h)⟩
      · intro h
        exact h.2.rd (by omega)
  · refine ⟨false, by rw [if_neg (by omega)], by rw [if_neg (by omega)], ?_⟩
    simp
    omega
theorem awake_ok : Ev (fun k => isochronelaw01_awake.f k) true := Ev.of (fun k => isochronelaw01_awake.mono k) (k := 60) (by decide +kernel)
end Go.Proofs.Ytfmobogdnlmdbaa.P
end
section
namespace Go.Proofs.Ytfmobogdnlmdbaa.P
open Go.RowKit Go.Proofs.YtfmobogdnlmdbaaW.PrintWords Go.Proofs.YtfmobogdnlmdbaaW.PrintLast Go.Proofs.YtfmobogdnlmdbaaW.PrintMore
set_option linter.unusedVariables false
theorem dg_wf {l : List Int} (h : ∀ x ∈ l, (Lit.int .u32 x).wf = true) : Dg WW l := by
  intro x hx
  have h1 := h x hx
  have h2 : IntKind.u32.min = 0 := rfl
  have h3 : IntKind.u32.max = 4294967295 := rfl
  simp only [Lit.wf, Bool.and_eq_true, decide_eq_true_eq, h2, h3] at h1
  rw [WW_eq]
  omega
theorem can_of {l : List Int} (hd : Dg WW l) (hn : Nm l) : Can WW l (vl WW l) := ⟨hd, hn, rfl⟩
theorem small_sp (a b : List Int) (k : Int) (ha : a.length < 4611686018427387904) (hb : b.length < 4611686018427387904) : ∃ t, isochronelaw01_small.f a b k = some t ∧ (t = true ↔ ((a.length : Int) ≤ k ∧ (b.length : Int) ≤ k ∧ a.length ≤ 4096 ∧ b.length ≤ 4096 ∧ Nm a ∧ Nm b)) := by
  obtain ⟨p, h1, _, h2⟩ := valid_sp a ha
  obtain ⟨q, h3, _, h4⟩ := valid_sp b hb
  unfold isochronelaw01_small.f
  by_cases c1 : (a.length : Int) ≤ k
  · by_cases c2 : (b.length : Int) ≤ k
    · rw [if_pos c1, if_pos c2, h1, h3]
      cases p
      · refine ⟨false, rfl, ?_⟩
        simp only [Bool.false_eq_true, false_iff] at h2 ⊢
        exact fun h => h2 ⟨h.2.2.1, h.2.2.2.2.1⟩
      · cases q
        · refine ⟨false, rfl, ?_⟩
          simp only [Bool.false_eq_true, false_iff] at h4 ⊢
          exact fun h => h4 ⟨h.2.2.2.1, h.2.2.2.2.2⟩
        · refine ⟨true, rfl, ?_⟩
          simp only [true_iff] at h2 h4 ⊢
          exact ⟨c1, c2, h2.1, h4.1, h2.2, h4.2⟩
    · refine ⟨false, by rw [if_pos c1, if_neg c2], ?_⟩
      simp only [Bool.false_eq_true, false_iff]
      exact fun h => c2 h.2.1
  · refine ⟨false, by rw [if_neg c1], ?_⟩
    simp only [Bool.false_eq_true, false_iff]
    exact fun h => c1 h.1
theorem both_sp {a b : List Int} (ha : a.length ≤ 4096) (hb : b.length ≤ 4096) (na : Nm a) (nb : Nm b) : nat_both.f a b = some true := by
  obtain ⟨p, _, h1, h2⟩ := valid_sp a (by omega)
  obtain ⟨q, _, h3, h4⟩ := valid_sp b (by omega)
  have e1 : p = true := h2.2 ⟨ha, na⟩
  have e2 : q = true := h4.2 ⟨hb, nb⟩
  subst e1
  subst e2
  unfold nat_both.f
  rw [h1, h3]
  rfl
theorem limited_sp {a : List Int} (h : a.length ≤ 4096) : nat_limited.f a = some (a, 0) := by
  unfold nat_limited.f
  rw [if_neg (by omega), if_pos (by simp; omega)]
  rfl
end Go.Proofs.Ytfmobogdnlmdbaa.P
end
section
namespace Go.Proofs.Ytfmobogdnlmdbaa.P
open Go.RowKit Go.Proofs.YtfmobogdnlmdbaaW.PrintWords Go.Proofs.YtfmobogdnlmdbaaW.PrintLast Go.Proofs.YtfmobogdnlmdbaaW.PrintMore
set_option linter.unusedVariables false
theorem NatRing : isochronelaw01_NatRing.Pure := by
  intro a b ha1 ha2 ha3 hb1 hb2 hb3
  refine Ev.rounds ?_
  unfold isochronelaw01_NatRing.f
  refine Ev.bind awake_ok (evp rfl ?_)
  obtain ⟨t, ht, hti⟩ := small_sp a b 40 (by omega) (by omega)
  refine evb ht ?_
  cases t with
  | false => exact evn (by simp) (evs _)
  | true =>
    obtain ⟨c1, c2, c3, c4, na, nb⟩ := hti.1 rfl
    refine evp rfl ?_
    have ca := can_of (dg_wf ha3) na
    have cb := can_of (dg_wf hb3) nb
    obtain ⟨x, x1, x2, x3⟩ := r_Of_sp (by omega) ca
    obtain ⟨y, y1, y2, y3⟩ := r_Of_sp (by omega) cb
    have bo := both_sp c3 c4 na nb
    obtain ⟨s, s1, s2, s3⟩ := mag_Add_sp (by omega) (by omega) ca cb
    obtain ⟨p, p1, p2, p3⟩ := mag_Mul_sp (by omega) ca cb
    have cc := mag_Cmp_sp (by omega) ca cb
    have rc := isochroneref01_Cmp_sp (by omega) x2 y2
    obtain ⟨rs, rs1, rs2, rs3⟩ := r_Add_sp (by omega) x2 y2
    obtain ⟨rp, rp1, rp2, rp3⟩ := r_Mul_sp (by omega) x2 y2
    have i1 := is_sp (by omega) (by omega) s2 rs2
    have i2 := is_sp (by omega) (by omega) p2 rp2
    have hC : Ev (fun k => nat_Cmp.f k a b) (cmpi (vl WW a) (vl WW b), 0) := by
      unfold nat_Cmp.f
      exact evb bo (evp rfl (Ev.bind cc (evs _)))
    have hA : Ev (fun k => nat_Add.f k a b) (s, 0) := by
      unfold nat_Add.f
      exact evb bo (evp rfl (Ev.bind s1 (evb (limited_sp (by omega)) (evs _))))
    have hM : Ev (fun k => nat_Mul.f k a b) (p, 0) := by
      unfold nat_Mul.f
      refine evb bo (evp rfl ?_)
      have hj : Ev (fun k => nat_Mul.j0 k a b false) (p, 0) := by
        refine Ev.step (fun k => by rw [nat_Mul.j0]) ?_
        exact evn (by simp) (Ev.bind p1 (evb (limited_sp (by omega)) (evs _)))
      have hd : decide ((wrap64 ((wrap64 ((a.length : Int) + (b.length : Int))) - 1)) > 4096) = false := by
        rw [w64 (x := (a.length : Int) + (b.length : Int)) (by omega) (by omega), w64 (by omega) (by omega)]
        exact decide_eq_false (by omega)
      rw [hd]
      by_cases z1 : (a.length : Int) > 0
      · refine evp z1 ?_
        by_cases z2 : (b.length : Int) > 0
        · exact evp z2 hj
        · exact evn z2 hj
      · exact evn z1 hj
    refine Ev.bind x1 (Ev.bind y1 (Ev.bind hC (Ev.bind hA (Ev.bind hM ?_))))
    have fin : ∀ d e, (vl WW a < vl WW b → d = [] ∧ e = 1) → (¬ vl WW a < vl WW b → Can WW d (vl WW a - vl WW b) ∧ d.length ≤ 40 ∧ e = 0) → Ev (fun k => isochronelaw01_NatRing.j0 k x y (cmpi (vl WW a) (vl WW b)) d e (!true)) true := by
      intro d e h1 h2
      refine Ev.step (fun k => by rw [isochronelaw01_NatRing.j0]) ?_
      refine evn (by simp) ?_
      by_cases hlt : vl WW a < vl WW b
      · obtain ⟨rfl, rfl⟩ := h1 hlt
        refine evp (by unfold cmpi; rw [if_pos hlt]; omega) (evp rfl ?_)
        exact evs _
      · obtain ⟨h3, h4, rfl⟩ := h2 hlt
        obtain ⟨rd', rd1, rd2, rd3⟩ := r_Sub_sp (by omega) x2 y2 (by omega)
        refine evn (by unfold cmpi; rw [if_neg hlt]; split <;> omega) (evp rfl ?_)
        exact Ev.bind rd1 (Ev.bind (is_sp (by omega) (by omega) h3 rd2) (evs _))
    have hS : ∃ d e, Ev (fun k => nat_Sub.f k a b) (d, e) ∧ (vl WW a < vl WW b → d = [] ∧ e = 1) ∧ (¬ vl WW a < vl WW b → Can WW d (vl WW a - vl WW b) ∧ d.length ≤ 40 ∧ e = 0) := by
      unfold nat_Sub.f
      by_cases hlt : vl WW a < vl WW b
      · refine ⟨[], 1, evb bo (evp rfl (Ev.bind cc (evp ?_ (evs _)))), fun _ => ⟨rfl, rfl⟩, fun h => absurd hlt h⟩
        unfold cmpi
        rw [if_pos hlt]
        omega
      · obtain ⟨d, d1, d2, d3⟩ := mag_Sub_sp (by omega) ca cb (by omega)
        refine ⟨d, 0, evb bo (evp rfl (Ev.bind cc (evn ?_ (Ev.bind d1 (evb (limited_sp (by omega)) (evs _)))))), fun h => absurd h hlt, fun _ => ⟨d2, by omega, rfl⟩⟩
        unfold cmpi
        rw [if_neg hlt]
        split <;> omega
    obtain ⟨d, e, q1, q2, q3⟩ := hS
    refine Ev.bind q1 ?_
    exact evp rfl (evp rfl (evp rfl (Ev.bind rc (evp rfl (Ev.bind rs1 (Ev.bind i1 (evp rfl (Ev.bind rp1 (Ev.bind i2 (fin d e q2 q3))))))))))
end Go.Proofs.Ytfmobogdnlmdbaa.P
namespace Go.Proofs.Ytfmobogdnlmdbaa.Pure
theorem NatRing : P.isochronelaw01_NatRing.Pure := P.NatRing
end Go.Proofs.Ytfmobogdnlmdbaa.Pure
end
section
namespace Go.Proofs.YtfmobogdnlmdbaaW.PrintWords
open Go.ChangeShapes Go.WideShapes
theorem sized_ints {H : Type} {enc : TypeId × Value → H} {P : Program} {W : World} {base : Nat} {spare : Nat → Bool} {held : Bool} {t e : TypeId} {k : IntKind} {a : Option Addr} {len cap : Nat} {d : DataW H} {ps : List MemPlace} {ts : List TypeId} {ds : List (DataW H)} {j : Nat}
    (hsz : (DataW.weightsEach P ts ds).all (· ≤ reachBytes) = true) (ht : ts[j]? = some t) (hd : ds[j]? = some d) (hu : P.underlying t = some (.slice e)) (he : P.underlying e = some (.int k)) (hc : P.cellsOf e = 1) {B : Nat} (hB : P.bytesOf e = B)
    (h : DataW.Trod enc P W base spare held t (.slice a len cap) d ps) : len * B ≤ 140737488351232 := by
  obtain ⟨fuel, hf⟩ := h
  rcases open_ints hu he hc hf with ⟨hcs, _⟩ | ⟨x, l, c, zs, hcs, _, hl, _, hz, hx, _, _⟩
  · simp [Value.cells] at hcs
    obtain ⟨rfl, rfl, rfl⟩ := hcs
    simp
  · simp [Value.cells] at hcs
    obtain ⟨rfl, rfl, rfl⟩ := hcs
    obtain ⟨hx, _⟩ := Prod.mk.inj hx
    subst hx
    have z := sized_slice hsz ht hd hu
    rw [hB] at z
    have hl2 : len ≤ zs.length := by
      rw [hz]
      split
      · exact hl
      · exact Nat.le_refl _
    have h1 : (lits (H := H) k (zs.take len)).length + (lits (H := H) k (zs.drop len)).length = zs.length := by
      simp [lits]
      omega
    rw [h1] at z
    exact Nat.le_trans (Nat.mul_le_mul_right _ hl2) z
end Go.Proofs.YtfmobogdnlmdbaaW.PrintWords
end
section
namespace Go.Proofs.Ytfmobogdnlmdbaa.natRing
open Go.ChangeShapes Go.WideShapes Go.ChangeAt Go.RowKit
open Go.ChangeMaps (open_string shut_string)
set_option linter.unusedVariables false
theorem own : ownKnob Try.prog.godebug = none := by kernel_rfl
theorem laidOut : laidOutB Try.prog = true := by kernel_rfl
def IsRow (k : IntKind) (w : World) (a : Option Addr) (len cap : Nat) (zs : List Int) : Prop :=
  (a = none ∧ len = 0 ∧ cap = 0 ∧ zs = []) ∨
  ∃ x, a = some x ∧ len ≤ cap ∧ cap ≤ maxLen ∧ zs.length = cap ∧ (∀ i, i < zs.length → w.cell? (x.add i) = some (.int k (zs.getD i 0))) ∧ ∀ n ∈ zs, (Lit.int k n).wf = true
set_option maxRecDepth 100000 in
theorem lifted (os : Os) (started : os.Started) (H : Type) (enc : TypeId × Value → H) :
    ReturnsInHanded {} Try.checked os 7 .any (Rows.natRingSpec.pre6 enc Try.prog Try.f7 Rows.natRingRow.domain false) (Rows.natRingSpec.post enc Try.prog Try.f7 false true false false) := by
  refine returnsInHanded_of_change_sized (C := Try.checked) own started (by kernel_rfl) Try.func7
    (ChangeSpec.witness6 (enc := enc) (C := Try.checked) false ⟨#[], #[.slice none 0 0, .slice none 0 0], []⟩ 8 (by kernel_rfl) (by kernel_rfl) (by kernel_rfl) (by kernel_rfl)) ?_
  intro W base args ds gs before hval0 hW hcnd hsz0 _
  have hsz : (DataW.weightsEach Try.prog (Try.f7.params.toList ++ Rows.natRingSpec.plain.varTypes Try.prog) (ds ++ gs)).all (· ≤ reachBytes) = true := hsz0
  have hval : ∀ (j : Nat) t v, Try.f7.params[j]? = some t → args[j]? = some v → Value.okWide Try.prog W .any base t v := hval0
  have hW' := hW
  obtain ⟨p, q, hA0, hV, rfl, hfz, hnd⟩ := hW
  have hA : DataW.TrodAll enc Try.prog W 0 (fun _ => true) true Try.f7.params.toList args.toList ds p := hA0
  rw [Try.params7] at hA hval hsz
  obtain ⟨v0, vs0, d0, ds0, p0, q0, hargs, rfl, rfl, h0, r0⟩ := trodAll_cons hA
  obtain ⟨v1, vs1, d1, ds1, p1, q1, rfl, rfl, rfl, h1, r1⟩ := trodAll_cons r0
  obtain ⟨rfl, rfl, rfl⟩ := trodAll_nil r1
  obtain rfl : args = #[v0, v1] := by cases args; simp_all
  obtain ⟨rfl, rfl⟩ := trodVars_none hV
  obtain ⟨a0, len0, cap0, rfl⟩ := okWide_slice Try.underlying22 (hval 0 22 v0 rfl rfl)
  have k0 := h0
  have lt0 : ∀ x ∈ p0, x.block < W.heap.size := by obtain ⟨m, hm⟩ := k0; exact DataW.trod_lt m _ _ _ hm
  obtain ⟨z0, w0⟩ : ∃ zs, IsRow .u32 W a0 len0 cap0 zs := by
    obtain ⟨fuel, hf⟩ := h0
    rcases open_ints Try.underlying22 Try.underlying36 (by kernel_rfl) hf with ⟨hcs, _⟩ | ⟨x, l, c, zs, hcs, _, hl, hm, hz, _, hcell, hwz⟩
    · simp [Value.cells] at hcs
      obtain ⟨rfl, rfl, rfl⟩ := hcs
      exact ⟨[], .inl ⟨rfl, rfl, rfl, rfl⟩⟩
    · simp [Value.cells] at hcs
      obtain ⟨rfl, rfl, rfl⟩ := hcs
      exact ⟨zs, .inr ⟨_, rfl, hl, hm, by simpa using hz, hcell, hwz⟩⟩
  have y0 : len0 * 4 ≤ 140737488351232 := Go.Proofs.YtfmobogdnlmdbaaW.PrintWords.sized_ints hsz (j := 0) (t := 22) rfl rfl Try.underlying22 Try.underlying36 (by kernel_rfl) (by kernel_rfl) h0
  obtain ⟨a1, len1, cap1, rfl⟩ := okWide_slice Try.underlying22 (hval 1 22 v1 rfl rfl)
  have k1 := h1
  have lt1 : ∀ x ∈ p1, x.block < W.heap.size := by obtain ⟨m, hm⟩ := k1; exact DataW.trod_lt m _ _ _ hm
  obtain ⟨z1, w1⟩ : ∃ zs, IsRow .u32 W a1 len1 cap1 zs := by
    obtain ⟨fuel, hf⟩ := h1
    rcases open_ints Try.underlying22 Try.underlying36 (by kernel_rfl) hf with ⟨hcs, _⟩ | ⟨x, l, c, zs, hcs, _, hl, hm, hz, _, hcell, hwz⟩
    · simp [Value.cells] at hcs
      obtain ⟨rfl, rfl, rfl⟩ := hcs
      exact ⟨[], .inl ⟨rfl, rfl, rfl, rfl⟩⟩
    · simp [Value.cells] at hcs
      obtain ⟨rfl, rfl, rfl⟩ := hcs
      exact ⟨zs, .inr ⟨_, rfl, hl, hm, by simpa using hz, hcell, hwz⟩⟩
  have y1 : len1 * 4 ≤ 140737488351232 := Go.Proofs.YtfmobogdnlmdbaaW.PrintWords.sized_ints hsz (j := 1) (t := 22) rfl rfl Try.underlying22 Try.underlying36 (by kernel_rfl) (by kernel_rfl) h1
  clear hA0 hval0 hsz0 hsz
  refine (P.isochronelaw01_NatRing.walk Pure.NatRing a0 len0 cap0 z0 a1 len1 cap1 z1 W w0 y0 w1 y1).mono fun e W' ⟨he, bel⟩ => ?_
  subst he
  exact ⟨_, rfl, _, _, _, [], _, [], hW', trodAll_mk1 (shut_bool Try.underlying4 _), (trodAll_cons_mk (Below.trod laidOut (by kernel_rfl) (of_decide_eq_true (by kernel_rfl)) k0 bel lt0) (trodAll_cons_mk (Below.trod laidOut (by kernel_rfl) (of_decide_eq_true (by kernel_rfl)) k1 bel lt1) trodAll_mk0)), rfl, bel.frame _, fun h => by cases h⟩
theorem over : Rows.natRingRow.holds Try.pinned (OpenSpec.ofChange Rows.natRingSpec) :=
  OpenClaim.holds_of_wide 7 Try.f7 rfl rfl rfl rfl rfl rfl rfl ⟨rfl, rfl, rfl, rfl, rfl⟩ rfl rfl rfl rfl rfl (by kernel_rfl) Try.func7 (by kernel_rfl)
    (of_decide_eq_true (by kernel_rfl)) (by unfold Func.isWrapper; first | (rw [if_pos (by decide +kernel)]; kernel_rfl) | (rw [if_neg (by decide +kernel)]; exact ⟨rfl, rfl⟩))
    (fun os started H enc _ => lifted os started H enc)
theorem proved : Rows.NatRingSaid := over
#print axioms proved
end Go.Proofs.Ytfmobogdnlmdbaa.natRing
namespace Go.Proofs.Ytfmobogdnlmdbaa
theorem natRing_holds : Rows.NatRingSaid := natRing.proved
end Go.Proofs.Ytfmobogdnlmdbaa
end
