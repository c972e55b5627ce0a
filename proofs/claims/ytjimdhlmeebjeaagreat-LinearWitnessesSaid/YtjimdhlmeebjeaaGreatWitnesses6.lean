/- An evaluator of the program's code, what its functions come to, and what they mean: text 6. No condition. -/
import Derived.Laws.BitsLemmas
import Derived.Test.YtjimdhlmeebjeaaGreatWitnesses5
set_option linter.unusedSimpArgs false
set_option linter.unusedSectionVars false
section
namespace Go.Proofs.YtjimdhlmeebjeaaGreat.P
open Go.RowKit Go.Proofs.YtjimdhlmeebjeaaGreatW.PrintWords Go.Proofs.YtjimdhlmeebjeaaGreatW.PrintLast Go.Proofs.YtjimdhlmeebjeaaGreatW.PrintMore
set_option linter.unusedVariables false
theorem alg_sub {vo va vb P c c' v x y W : Int} (h : vo - c * P = va - vb) (h2 : v - W * c' = x - c - y) : vo + v * P - c' * (W * P) = (va + x * P) - (vb + y * P) := by grind
theorem alg_sub1 {vo va vb P c c' v x W : Int} (h : vo - c * P = va - vb) (h2 : v - W * c' = x - c) : vo + v * P - c' * (W * P) = (va + x * P) - vb := by grind
theorem borrow {x c y : Int} (hx : 0 ≤ x ∧ x < 4294967296) (hc : 0 ≤ c ∧ c ≤ 1) (hy : 0 ≤ y ∧ y < 4294967296) :
    ∃ v c', IntKind.u64.wrap (IntKind.u64.wrap (IntKind.u64.wrap x - c) - y) % 4294967296 = v ∧ IntKind.u64.wrap (IntKind.u64.wrap (IntKind.u64.wrap x - c) - y) / 9223372036854775808 = c' ∧ v - 4294967296 * c' = x - c - y ∧ 0 ≤ v ∧ v < 4294967296 ∧ 0 ≤ c' ∧ c' ≤ 1 := by
  rw [IntKind.wrap_u64, IntKind.wrap_u64, IntKind.wrap_u64]
  refine ⟨_, _, rfl, rfl, ?_, ?_, ?_, ?_, ?_⟩ <;> omega
theorem borrow1 {x c : Int} (hx : 0 ≤ x ∧ x < 4294967296) (hc : 0 ≤ c ∧ c ≤ 1) :
    ∃ v c', IntKind.u64.wrap (IntKind.u64.wrap x - c) % 4294967296 = v ∧ IntKind.u64.wrap (IntKind.u64.wrap x - c) / 9223372036854775808 = c' ∧ v - 4294967296 * c' = x - c ∧ 0 ≤ v ∧ v < 4294967296 ∧ 0 ≤ c' ∧ c' ≤ 1 := by
  rw [IntKind.wrap_u64, IntKind.wrap_u64]
  refine ⟨_, _, rfl, rfl, ?_, ?_, ?_, ?_, ?_⟩ <;> omega
theorem mag_Sub_ev {a b : List Int} (hba : b.length ≤ a.length) (hle : vl WW b ≤ vl WW a) (hn : a.length < 1099511627776) (ha : Dg WW a) (hb : Dg WW b) (d : Nat) :
    ∀ (i : Nat) (o : List Int) (c : Int), a.length - i = d → i ≤ a.length → o.length = a.length → Dg WW (o.take i) → 0 ≤ c → c ≤ 1 → vl WW (o.take i) - c * WW ^ i = vl WW (a.take i) - vl WW (b.take i) →
    ∃ r, Ev (fun k => mag_Sub.l0 k b o c a (a.length : Int) (i : Int)) r ∧ Can WW r (vl WW a - vl WW b) ∧ r.length ≤ a.length := by
  induction d with
  | zero =>
    intro i o c h1 h2 h3 h4 h5 h6 h7
    have e : i = a.length := by omega
    subst e
    rw [List.take_length, List.take_of_length_le hba, ← h3, List.take_length] at h7
    rw [← h3, List.take_length] at h4
    have hlt := vl_lt WW_pos h4
    have hc : c = 0 := by
      rcases Int.lt_or_eq_of_le h6 with h | h
      · omega
      · subst h
        rw [Int.one_mul] at h7
        omega
    subst hc
    rw [Int.zero_mul, Int.sub_zero] at h7
    obtain ⟨r, h8, h9, h10⟩ := mag_Trim_sp (l := o) (by omega) h4
    refine ⟨r, ?_, by rw [← h7]; exact h9, by omega⟩
    refine Ev.step (fun k => by rw [mag_Sub.l0]) ?_
    refine evn (by omega) ?_
    exact Ev.bind h8 (evs _)
  | succ d ih =>
    intro i o c h1 h2 h3 h4 h5 h6 h7
    have hi : i < a.length := by omega
    have hx := dg_rd ha (i : Int) (by omega) (by omega)
    have ti := vl_take WW a i hi
    have ep : WW ^ (i + 1) = WW * WW ^ i := by rw [Int.pow_succ, Int.mul_comm]
    by_cases hib : i < b.length
    · have hy := dg_rd hb (i : Int) (by omega) (by omega)
      have tb := vl_take WW b i hib
      obtain ⟨v, c', e1, e2, e3, v0, v1, c0, c1⟩ := borrow hx ⟨h5, h6⟩ hy
      obtain ⟨r, h8, h9⟩ := ih (i + 1) (o.set i v) c' (by omega) (by omega) (by simpa using h3) (Dg.take_set (by omega) h4 v0 v1) c0 c1
        (by rw [vl_set _ _ _ _ (by omega), ti, tb, ep]; exact alg_sub h7 e3)
      refine ⟨r, ?_, h9⟩
      refine Ev.step (fun k => by rw [mag_Sub.l0]) ?_
      rw [u64 (x := rd b i) hy.1 (by have := hy.2; have := WW_eq; omega), e1, e2, wsucc (by omega)]
      exact evp (by omega) (evp (by omega) (evp (by omega) (evp (by omega) (evp (by omega) h8))))
    · have tb : vl WW (b.take (i + 1)) = vl WW (b.take i) := by rw [List.take_of_length_le (by omega), List.take_of_length_le (by omega)]
      obtain ⟨v, c', e1, e2, e3, v0, v1, c0, c1⟩ := borrow1 hx ⟨h5, h6⟩
      obtain ⟨r, h8, h9⟩ := ih (i + 1) (o.set i v) c' (by omega) (by omega) (by simpa using h3) (Dg.take_set (by omega) h4 v0 v1) c0 c1
        (by rw [vl_set _ _ _ _ (by omega), ti, tb, ep]; exact alg_sub1 h7 e3)
      refine ⟨r, ?_, h9⟩
      refine Ev.step (fun k => by rw [mag_Sub.l0]) ?_
      rw [e1, e2, wsucc (by omega)]
      exact evp (by omega) (evp (by omega) (evp (by omega) (evn (by omega) (evp (by omega) h8))))
theorem can_len_le {a b : List Int} {n m : Int} (ha : Can WW a n) (hb : Can WW b m) (h : m ≤ n) : b.length ≤ a.length := by
  rcases Nat.lt_or_ge a.length b.length with hl | hl
  · have := Can.len_lt WW_one ha hb hl
    omega
  · exact hl
theorem mag_Sub_sp {a b : List Int} {n m : Int} (hn : a.length < 1099511627776) (ha : Can WW a n) (hb : Can WW b m) (hle : m ≤ n) : ∃ r, Ev (fun k => mag_Sub.f k a b) r ∧ Can WW r (n - m) ∧ r.length ≤ a.length := by
  have hba := can_len_le ha hb hle
  rw [← ha.2.2, ← hb.2.2] at *
  obtain ⟨r, h1, h2⟩ := mag_Sub_ev hba hle hn ha.1 hb.1 a.length 0 (List.replicate a.length 0) 0 (by omega) (by omega) (by simp) (by simp; exact Dg.nil _) (by omega) (by omega) (by simp [vl])
  refine ⟨r, ?_, h2⟩
  unfold mag_Sub.f
  rw [Int.toNat_natCast]
  exact evp (by omega) (evp (by omega) h1)
theorem vl_set_mid (B : Int) (l : List Int) (p q : Nat) (v : Int) (h : p < q) (hq : q ≤ l.length) : vl B ((l.set p v).take q) = vl B (l.take q) + (v - rd l (p : Int)) * B ^ p := by
  have h1 := vl_drop B ((l.set p v).take q) (p + 1) (by simp; omega)
  have h2 := vl_drop B (l.take q) (p + 1) (by simp; omega)
  have e1 : ((l.set p v).take q).take (p + 1) = (l.set p v).take (p + 1) := by rw [List.take_take, Nat.min_eq_left (by omega)]
  have e2 : (l.take q).take (p + 1) = l.take (p + 1) := by rw [List.take_take, Nat.min_eq_left (by omega)]
  have e3 : ((l.set p v).take q).drop (p + 1) = (l.take q).drop (p + 1) := by
    rw [List.drop_take, List.drop_take, List.drop_set_of_lt (by omega)]
  rw [e1, e3, vl_set _ _ _ _ (by omega)] at h1
  rw [e2, vl_take _ _ _ (by omega)] at h2
  rw [h1, h2]
  grind
theorem alg_mul {T va vb x y old P c c' v W xb Pi Pj : Int} (h : T + c * P = va * vb + x * Pi * xb) (h2 : v + W * c' = c + (x * y + old)) (hP : P = Pi * Pj) : (T + (v - old) * P) + c' * (W * P) = va * vb + x * Pi * (xb + y * Pj) := by grind
theorem mul_bd {x y : Int} (hx : 0 ≤ x ∧ x < 4294967296) (hy : 0 ≤ y ∧ y < 4294967296) : 0 ≤ x * y ∧ x * y ≤ 18446744065119617025 := by
  have h1 : 0 ≤ x * y := Int.mul_nonneg hx.1 hy.1
  have h2 : x * y ≤ 4294967295 * 4294967295 := Int.mul_le_mul (by omega) (by omega) hy.1 (by omega)
  omega
theorem mulc {x y old c : Int} (hx : 0 ≤ x ∧ x < 4294967296) (hy : 0 ≤ y ∧ y < 4294967296) (ho : 0 ≤ old ∧ old < 4294967296) (hc : 0 ≤ c ∧ c < 4294967296) :
    ∃ v c', IntKind.u64.wrap (c + IntKind.u64.wrap (IntKind.u64.wrap (IntKind.u64.wrap x * IntKind.u64.wrap y) + IntKind.u64.wrap old)) % 4294967296 = v ∧ IntKind.u64.wrap (c + IntKind.u64.wrap (IntKind.u64.wrap (IntKind.u64.wrap x * IntKind.u64.wrap y) + IntKind.u64.wrap old)) / 4294967296 = c' ∧ v + 4294967296 * c' = c + (x * y + old) ∧ 0 ≤ v ∧ v < 4294967296 ∧ 0 ≤ c' ∧ c' < 4294967296 := by
  have hb := mul_bd hx hy
  rw [u64 (x := x) (by omega) (by omega), u64 (x := y) (by omega) (by omega), u64 (x := old) (by omega) (by omega), u64 (x := x * y) (by omega) (by omega), u64 (x := x * y + old) (by omega) (by omega), u64 (x := c + (x * y + old)) (by omega) (by omega)]
  refine ⟨_, _, rfl, rfl, ?_, ?_, ?_, ?_, ?_⟩ <;> omega
theorem alg_mul2 {T c P va vb x Pi : Int} (h : T + c * P = va * vb + x * Pi * vb) : T + c * P = (va + x * Pi) * vb := by rw [h]; grind
theorem mag_Mul_in {a b : List Int} (hn : a.length + b.length < 1099511627776) (ha : Dg WW a) (hb : Dg WW b) (i : Nat) (hi : i < a.length) (R : List Int)
    (hout : ∀ o : List Int, o.length = a.length + b.length → Dg WW o → vl WW (o.take (i + 1 + b.length)) = vl WW (a.take (i + 1)) * vl WW b → Ev (fun k => mag_Mul.l0 k b o a (a.length : Int) ((i + 1 : Nat) : Int)) R) (d : Nat) :
    ∀ (j : Nat) (o : List Int) (c : Int), b.length - j = d → j ≤ b.length → o.length = a.length + b.length → Dg WW o → 0 ≤ c → c < 4294967296 →
    vl WW (o.take (i + b.length)) + c * WW ^ (i + j) = vl WW (a.take i) * vl WW b + rd a i * WW ^ i * vl WW (b.take j) →
    Ev (fun k => mag_Mul.l1 k b o (i : Int) (rd a i) c a (a.length : Int) (i : Int) b (b.length : Int) (j : Int)) R := by
  induction d with
  | zero =>
    intro j o c h1 h2 h3 h4 h5 h6 h7
    have e : j = b.length := by omega
    subst e
    rw [List.take_length] at h7
    have ei : ((i : Int) + (b.length : Int)) = ((i + b.length : Nat) : Int) := by omega
    refine Ev.step (fun k => by rw [mag_Mul.l1]) ?_
    rw [ei, w64 (x := ((i + b.length : Nat) : Int)) (by omega) (by omega), Int.toNat_natCast, wsucc (i := i) (by omega), Int.emod_eq_of_lt h5 h6]
    refine evn (by omega) (evp (by omega) (evp (by omega) ?_))
    refine hout _ (by simpa using h3) (h4.set _ h5 (by rw [WW_eq]; exact h6)) ?_
    rw [show i + 1 + b.length = i + b.length + 1 by omega, vl_set _ _ _ _ (by omega), vl_take WW a i hi]
    exact alg_mul2 h7
  | succ d ih =>
    intro j o c h1 h2 h3 h4 h5 h6 h7
    have hx := dg_rd ha (i : Int) (by omega) (by omega)
    have hy := dg_rd hb (j : Int) (by omega) (by omega)
    have ho := dg_rd h4 ((i + j : Nat) : Int) (by omega) (by omega)
    rw [WW_eq] at hx hy ho
    obtain ⟨v, c', e1, e2, e3, v0, v1, c0, c1⟩ := mulc hx hy ho ⟨h5, h6⟩
    have h8 := ih (j + 1) (o.set (i + j) v) c' (by omega) (by omega) (by simpa using h3) (h4.set _ v0 (by rw [WW_eq]; exact v1)) c0 c1
      (by
        rw [vl_set_mid _ _ _ _ _ (by omega) (by omega), vl_take WW b j (by omega), show i + (j + 1) = i + j + 1 by omega, Int.pow_succ, Int.mul_comm (WW ^ (i + j)) WW]
        exact alg_mul h7 e3 (Int.pow_add _ _ _))
    have ei : ((i : Int) + (j : Int)) = ((i + j : Nat) : Int) := by omega
    refine Ev.step (fun k => by rw [mag_Mul.l1]) ?_
    rw [ei, w64 (x := ((i + j : Nat) : Int)) (by omega) (by omega), e1, e2, wsucc (by omega), Int.toNat_natCast]
    exact evp (by omega) (evp (by omega) (evp (by omega) (evp (by omega) (evp (by omega) h8))))
theorem mul_lt' {n m A C : Int} (h1 : n < A) (h2 : m < C) (h3 : 0 ≤ n) (h4 : 0 ≤ m) : n * m < A * C := by
  have h5 : n * m ≤ n * C := Int.mul_le_mul_of_nonneg_left (by omega) h3
  have h6 : n * C < A * C := Int.mul_lt_mul_of_pos_right h1 (by omega)
  omega
theorem mag_Mul_out {a b : List Int} (hn : a.length + b.length < 1099511627776) (ha : Dg WW a) (hb : Dg WW b) : ∃ R, Can WW R (vl WW a * vl WW b) ∧ R.length ≤ a.length + b.length ∧ ∀ (d i : Nat) (o : List Int), a.length - i = d → i ≤ a.length → o.length = a.length + b.length → Dg WW o → vl WW (o.take (i + b.length)) = vl WW (a.take i) * vl WW b →
    Ev (fun k => mag_Mul.l0 k b o a (a.length : Int) (i : Int)) R := by
  have key : ∀ o : List Int, o.length = a.length + b.length → Dg WW o → vl WW (o.take (a.length + b.length)) = vl WW (a.take a.length) * vl WW b → ∃ r, Ev (fun k => mag_Mul.l0 k b o a (a.length : Int) (a.length : Int)) r ∧ Can WW r (vl WW a * vl WW b) ∧ r.length ≤ a.length + b.length := by
    intro o h1 h2 h3
    obtain ⟨r, h8, h9, h10⟩ := mag_Trim_sp (l := o) (by omega) h2
    rw [← h1, List.take_length, List.take_length] at h3
    refine ⟨r, ?_, by rw [← h3]; exact h9, by omega⟩
    refine Ev.step (fun k => by rw [mag_Mul.l0]) ?_
    exact evn (by omega) (Ev.bind h8 (evs _))
  have hv : ∃ R, Can WW R (vl WW a * vl WW b) ∧ R.length ≤ a.length + b.length := by
    have hnn : 0 ≤ vl WW a * vl WW b := Int.mul_nonneg (vl_nonneg WW_pos ha) (vl_nonneg WW_pos hb)
    obtain ⟨R, hR⟩ := can_ex WW_one hnn
    refine ⟨R, hR, ?_⟩
    refine hR.len_le WW_one ?_
    rw [Int.pow_add]
    have h1 := vl_lt WW_pos ha
    have h2 := vl_lt WW_pos hb
    have h3 := vl_nonneg WW_pos ha
    have h4 := vl_nonneg WW_pos hb
    exact mul_lt' h1 h2 h3 h4
  obtain ⟨R, hR, hRl⟩ := hv
  refine ⟨R, hR, hRl, ?_⟩
  intro d
  induction d with
  | zero =>
    intro i o h1 h2 h3 h4 h5
    have e : i = a.length := by omega
    subst e
    obtain ⟨r, h6, h7, _⟩ := key o h3 h4 h5
    rw [can_uniq WW_pos hR h7]
    exact h6
  | succ d ih =>
    intro i o h1 h2 h3 h4 h5
    have h6 := mag_Mul_in hn ha hb i (by omega) R (fun o' q1 q2 q3 => ih (i + 1) o' (by omega) (by omega) q1 q2 (by rw [q3])) b.length 0 o 0 (by omega) (by omega) h3 h4 (by omega) (by omega) (by rw [h5]; simp [vl])
    refine Ev.step (fun k => by rw [mag_Mul.l0]) ?_
    exact evp (by omega) (evp (by omega) (evp (by omega) h6))
theorem mag_Mul_sp {a b : List Int} {n m : Int} (hn : a.length + b.length < 1099511627776) (ha : Can WW a n) (hb : Can WW b m) : ∃ r, Ev (fun k => mag_Mul.f k a b) r ∧ Can WW r (n * m) ∧ r.length ≤ a.length + b.length := by
  by_cases ha0 : a.length = 0
  · have e : a = [] := List.eq_nil_of_length_eq_zero ha0
    subst e
    have : n = 0 := by rw [← ha.2.2]; rfl
    subst this
    refine ⟨[], ?_, by rw [Int.zero_mul]; exact Can.zero _, Nat.zero_le _⟩
    unfold mag_Mul.f
    refine evp (by simp) ?_
    refine Ev.step (fun k => by rw [mag_Mul.j0]) ?_
    exact evp rfl (evs _)
  · by_cases hb0 : b.length = 0
    · have e : b = [] := List.eq_nil_of_length_eq_zero hb0
      subst e
      have : m = 0 := by rw [← hb.2.2]; rfl
      subst this
      refine ⟨[], ?_, by rw [Int.mul_zero]; exact Can.zero _, Nat.zero_le _⟩
      unfold mag_Mul.f
      refine evn (by omega) ?_
      refine Ev.step (fun k => by rw [mag_Mul.j0]) ?_
      exact evp rfl (evs _)
    · obtain ⟨R, h1, h2, h3⟩ := mag_Mul_out hn ha.1 hb.1
      rw [ha.2.2, hb.2.2] at h1
      refine ⟨R, ?_, h1, h2⟩
      have h4 := h3 a.length 0 (List.replicate (a.length + b.length) 0) (by omega) (by omega) (by simp) (Dg.rep WW_pos _) (by rw [List.take_replicate]; simp [vl, vl_rep])
      unfold mag_Mul.f
      refine evn (by omega) ?_
      refine Ev.step (fun k => by rw [mag_Mul.j0]) ?_
      have e : (a.length : Int) + (b.length : Int) = ((a.length + b.length : Nat) : Int) := by omega
      rw [e, w64 (by omega) (by omega), Int.toNat_natCast]
      refine evn ?_ (evp (by omega) (evp (by omega) h4))
      simp only [beq_iff_eq]
      omega
end Go.Proofs.YtjimdhlmeebjeaaGreat.P
end
section
namespace Go.Proofs.YtjimdhlmeebjeaaGreat.P
open Go.RowKit Go.Proofs.YtjimdhlmeebjeaaGreatW.PrintWords Go.Proofs.YtjimdhlmeebjeaaGreatW.PrintLast Go.Proofs.YtjimdhlmeebjeaaGreatW.PrintMore
set_option linter.unusedVariables false
abbrev RR : Int := 10000
theorem RR_pos : (0 : Int) < RR := by decide
theorem RR_one : (1 : Int) < RR := by decide
theorem RR_eq : RR = 10000 := rfl
theorem r_trim_ev {l : List Int} (hn : l.length < 4611686018427387904) (hd : Dg RR l) (d : Nat) : ∀ i : Nat, i = d → i ≤ l.length → ∃ r, Ev (fun k => isochroneref01_trim.l0 k l (i : Int)) r ∧ Can RR r (vl RR (l.take i)) ∧ r.length ≤ i := by
  induction d with
  | zero =>
    rintro i rfl h
    refine ⟨[], ?_, Can.zero _, Nat.le_refl _⟩
    refine Ev.step (fun k => by rw [isochroneref01_trim.l0]) ?_
    exact evn (by omega) (evp (by omega) (evp (by omega) (evs _)))
  | succ d ih =>
    rintro i rfl h
    have hw : ((d + 1 : Nat) : Int) - 1 = (d : Int) := by omega
    by_cases hz : rd l d = 0
    · obtain ⟨r, h1, h2, h3⟩ := ih d rfl (by omega)
      refine ⟨r, ?_, ?_, by omega⟩
      · refine Ev.step (fun k => by rw [isochroneref01_trim.l0]) ?_
        rw [hw, w64 (x := (d : Int)) (by omega) (by omega)]
        exact evp (by omega) (evp (by omega) (evp (by omega) (evp hz h1)))
      · rw [vl_take RR l d (by omega), hz, Int.zero_mul, Int.add_zero]
        exact h2
    · refine ⟨l.take (d + 1), ?_, ⟨hd.take _, nm_of_rd (fun _ => ?_), rfl⟩, by rw [List.length_take]; omega⟩
      · refine Ev.step (fun k => by rw [isochroneref01_trim.l0]) ?_
        rw [hw, w64 (x := (d : Int)) (by omega) (by omega), Int.toNat_natCast]
        exact evp (by omega) (evp (by omega) (evp (by omega) (evn hz (evp (by omega) (evp (by omega) (evs _))))))
      · rw [List.length_take, Nat.min_eq_left (by omega), hw, rd_take _ _ _ (by omega)]
        exact hz
theorem r_trim_sp {l : List Int} (hn : l.length < 4611686018427387904) (hd : Dg RR l) : ∃ r, Ev (fun k => isochroneref01_trim.f k l) r ∧ Can RR r (vl RR l) ∧ r.length ≤ l.length := by
  obtain ⟨r, h1, h2⟩ := r_trim_ev hn hd l.length l.length rfl (Nat.le_refl _)
  rw [List.take_length] at h2
  exact ⟨r, Ev.congr (fun k => by rw [isochroneref01_trim.f]) h1, h2⟩
theorem isochroneref01_Cmp_ev {a b : List Int} (hl : a.length = b.length) (hn : a.length < 4611686018427387904) (ha : Dg RR a) (hb : Dg RR b) (d : Nat) :
    ∀ (i : Nat), i = d → i ≤ a.length → vl RR (a.drop i) = vl RR (b.drop i) → ∃ r, Ev (fun k => isochroneref01_Cmp.l0 k a b ((i : Int) - 1)) r ∧ (r = -1 ∧ vl RR a < vl RR b ∨ r = 0 ∧ vl RR a = vl RR b ∨ r = 1 ∧ vl RR b < vl RR a) := by
  induction d with
  | zero =>
    rintro i rfl h1 h2
    refine ⟨0, ?_, .inr (.inl ⟨rfl, by simpa using h2⟩)⟩
    refine Ev.step (fun k => by rw [isochroneref01_Cmp.l0]) ?_
    exact evn (by omega) (evs _)
  | succ d ih =>
    rintro i rfl h1 h2
    have e1 : (((d + 1 : Nat) : Int) - 1) = (d : Int) := by omega
    rw [e1]
    have h3 := vl_drop RR a d (by omega)
    have h4 := vl_drop RR b d (by omega)
    have ea : a.drop d = rd a d :: a.drop (d + 1) := by rw [rd_lt a d (by omega)]; exact (List.drop_eq_getElem_cons (by omega))
    have eb : b.drop d = rd b d :: b.drop (d + 1) := by rw [rd_lt b d (by omega)]; exact (List.drop_eq_getElem_cons (by omega))
    have ta := vl_lt RR_pos (ha.take d)
    have tb := vl_lt RR_pos (hb.take d)
    have ta0 := vl_nonneg RR_pos (ha.take d)
    have tb0 := vl_nonneg RR_pos (hb.take d)
    rw [List.length_take, Nat.min_eq_left (by omega)] at ta tb
    by_cases he : rd a d = rd b d
    · obtain ⟨r, h5, h6⟩ := ih d rfl (by omega) (by rw [ea, eb, vl, vl, he, h2])
      refine ⟨r, ?_, h6⟩
      refine Ev.step (fun k => by rw [isochroneref01_Cmp.l0]) ?_
      rw [w64 (by omega) (by omega)]
      exact evp (by omega) (evp (by omega) (evp (by omega) (evp (by omega) (evp he h5))))
    · have h7 : vl RR (a.drop d) = rd a d + RR * vl RR (a.drop (d + 1)) := by rw [ea, vl]
      have h8 : vl RR (b.drop d) = rd b d + RR * vl RR (b.drop (d + 1)) := by rw [eb, vl]
      have hp : 0 < RR ^ d := Int.pow_pos RR_pos
      by_cases hlt : rd a d < rd b d
      · refine ⟨-1, ?_, .inl ⟨rfl, ?_⟩⟩
        · refine Ev.step (fun k => by rw [isochroneref01_Cmp.l0]) ?_
          exact evp (by omega) (evp (by omega) (evp (by omega) (evp (by omega) (evn he (evp hlt (evs _))))))
        · have h9 : RR ^ d * (vl RR (a.drop d) + 1) ≤ RR ^ d * vl RR (b.drop d) := Int.mul_le_mul_of_nonneg_left (by rw [h7, h8, h2]; omega) (by omega)
          rw [Int.mul_add] at h9
          omega
      · refine ⟨1, ?_, .inr (.inr ⟨rfl, ?_⟩)⟩
        · refine Ev.step (fun k => by rw [isochroneref01_Cmp.l0]) ?_
          exact evp (by omega) (evp (by omega) (evp (by omega) (evp (by omega) (evn he (evn hlt (evs _))))))
        · have h9 : RR ^ d * (vl RR (b.drop d) + 1) ≤ RR ^ d * vl RR (a.drop d) := Int.mul_le_mul_of_nonneg_left (by rw [h7, h8, h2]; omega) (by omega)
          rw [Int.mul_add] at h9
          omega
theorem isochroneref01_Cmp_sp {a b : List Int} {n m : Int} (hn : a.length < 4611686018427387904) (ha : Can RR a n) (hb : Can RR b m) : Ev (fun k => isochroneref01_Cmp.f k a b) (cmpi n m) := by
  unfold isochroneref01_Cmp.f
  by_cases hl : a.length = b.length
  · obtain ⟨r, h1, h2⟩ := isochroneref01_Cmp_ev hl hn ha.1 hb.1 a.length a.length rfl (Nat.le_refl _) (by rw [List.drop_length, hl, List.drop_length])
    have e : r = cmpi n m := by
      rw [ha.2.2, hb.2.2] at h2
      unfold cmpi
      rcases h2 with ⟨rfl, h⟩ | ⟨rfl, h⟩ | ⟨rfl, h⟩
      · rw [if_pos h]
      · rw [if_neg (by omega), if_pos h]
      · rw [if_neg (by omega), if_neg (by omega)]
    rw [← e]
    refine evp (by omega) ?_
    rw [w64 (by omega) (by omega)]
    exact h1
  · refine evn (by omega) ?_
    unfold cmpi
    by_cases h : a.length < b.length
    · have := Can.len_lt RR_one ha hb h
      rw [if_pos this]
      exact evp (by omega) (evs _)
    · have := Can.len_lt RR_one hb ha (by omega)
      rw [if_neg (show ¬ n < m by omega), if_neg (show ¬ n = m by omega)]
      exact evn (by omega) (evs _)
theorem tmod_nn {x : Int} (h : 0 ≤ x) (m : Int) : Int.tmod x m = x % m := Int.tmod_eq_emod_of_nonneg h
theorem tdiv_nn {x : Int} (h : 0 ≤ x) (m : Int) : Int.tdiv x m = x / m := Int.tdiv_eq_ediv_of_nonneg h
theorem vl_snoc (B : Int) (l : List Int) (x : Int) : vl B (l ++ [x]) = vl B l + x * B ^ l.length := by
  rw [vl_append]
  simp only [vl]
  grind
theorem alg_sm {vo c P n v c' R : Int} (h : vo + c * P = n) (h2 : v + R * c' = c) : vo + v * P + c' * (R * P) = n := by grind
theorem alg_sm2 {vo c P va x k v c' R c0 : Int} (h : vo + c * P = c0 + k * va) (h2 : v + R * c' = c + x * k) : vo + v * P + c' * (R * P) = c0 + k * (va + x * P) := by grind
theorem r_Small_in (o0 : List Int) (n : Int) (c : Nat) : ∀ (o : List Int) (cc : Int), cc = (c : Int) → cc < 4611686018427387904 → o.length + c < 1099511627776 → Dg RR o → vl RR o + cc * RR ^ o.length = n → ∃ r, Ev (fun k => isochroneref01_Small.l1 k cc o) r ∧ Can RR r n := by
  induction c using Nat.strongRecOn with
  | _ c ih =>
    intro o cc hcc hlt hl hd hv
    by_cases h0 : c = 0
    · subst h0
      have e : cc = 0 := by omega
      subst e
      rw [Int.zero_mul, Int.add_zero] at hv
      obtain ⟨r, h1, h2, _⟩ := r_trim_sp (l := o) (by omega) hd
      refine ⟨r, ?_, by rw [← hv]; exact h2⟩
      refine Ev.step (fun k => by rw [isochroneref01_Small.l1]) ?_
      exact evn (by omega) (Ev.bind h1 (evs _))
    · obtain ⟨r, h1, h2⟩ := ih (c / 10000) (by omega) (o ++ [cc % 10000]) (cc / 10000) (by omega) (by omega) (by simp; omega) (hd.append (Dg.mk (by omega) (by rw [RR_eq]; omega) (Dg.nil _)))
        (by rw [vl_snoc, List.length_append, List.length_singleton, Int.pow_succ, Int.mul_comm (RR ^ o.length) RR]; exact alg_sm hv (by rw [RR_eq]; omega))
      refine ⟨r, ?_, h2⟩
      refine Ev.step (fun k => by rw [isochroneref01_Small.l1]) ?_
      rw [tmod_nn (x := cc) (by omega), tdiv_nn (x := cc) (by omega), w64 (x := cc / 10000) (by omega) (by omega)]
      exact evp (by omega) (evp (by omega) h1)
theorem r_Small_l0 {a : List Int} (hn : a.length < 549755813888) (ha : Dg RR a) {k0 c0 : Int} (hk : 0 ≤ k0 ∧ k0 ≤ 65536) (d : Nat) :
    ∀ (i : Nat) (o : List Int) (c : Int), a.length - i = d → i ≤ a.length → o.length = i → Dg RR o → 0 ≤ c → c ≤ 65536 → vl RR o + c * RR ^ i = c0 + k0 * vl RR (a.take i) →
    ∃ r, Ev (fun k => isochroneref01_Small.l0 k k0 c o a (a.length : Int) (i : Int)) r ∧ Can RR r (c0 + k0 * vl RR a) := by
  induction d with
  | zero =>
    intro i o c h1 h2 h3 h4 h5 h6 h7
    have e : i = a.length := by omega
    subst e
    rw [List.take_length] at h7
    obtain ⟨r, h8, h9⟩ := r_Small_in o (c0 + k0 * vl RR a) c.toNat o c (by omega) (by omega) (by omega) h4 (by rw [h3]; exact h7)
    refine ⟨r, ?_, h9⟩
    refine Ev.step (fun k => by rw [isochroneref01_Small.l0]) ?_
    exact evn (by omega) h8
  | succ d ih =>
    intro i o c h1 h2 h3 h4 h5 h6 h7
    have hx := dg_rd ha (i : Int) (by omega) (by omega)
    rw [RR_eq] at hx
    have hm : 0 ≤ rd a i * k0 := Int.mul_nonneg hx.1 hk.1
    have hm2 : rd a i * k0 ≤ 9999 * 65536 := Int.mul_le_mul (by omega) hk.2 hk.1 (by omega)
    obtain ⟨r, h8, h9⟩ := ih (i + 1) (o ++ [(c + rd a i * k0) % 10000]) ((c + rd a i * k0) / 10000) (by omega) (by omega) (by simp; omega) (h4.append (Dg.mk (by omega) (by rw [RR_eq]; omega) (Dg.nil _))) (by omega) (by omega)
      (by rw [vl_snoc, h3, vl_take RR a i (by omega), Int.pow_succ, Int.mul_comm (RR ^ i) RR]; exact alg_sm2 h7 (by rw [RR_eq]; omega))
    refine ⟨r, ?_, h9⟩
    refine Ev.step (fun k => by rw [isochroneref01_Small.l0]) ?_
    rw [w64 (x := rd a i * k0) (by omega) (by omega), w64 (x := c + rd a i * k0) (by omega) (by omega), tmod_nn (x := c + rd a i * k0) (by omega), tdiv_nn (x := c + rd a i * k0) (by omega), w64 (x := (c + rd a i * k0) / 10000) (by omega) (by omega), wsucc (i := i) (by omega)]
    exact evp (by omega) (evp (by omega) (evp (by omega) (evp (by omega) h8)))
theorem r_Small_sp {a : List Int} {n k0 c0 : Int} (hn : a.length < 549755813888) (ha : Can RR a n) (hk : 0 ≤ k0 ∧ k0 ≤ 65536) (hc : 0 ≤ c0 ∧ c0 ≤ 65536) : ∃ r, Ev (fun k => isochroneref01_Small.f k a k0 c0) r ∧ Can RR r (n * k0 + c0) ∧ r.length ≤ a.length + 2 := by
  obtain ⟨r, h1, h2⟩ := r_Small_l0 hn ha.1 hk (c0 := c0) a.length 0 [] c0 (by omega) (by omega) rfl (Dg.nil _) hc.1 hc.2 (by simp [vl])
  rw [ha.2.2, Int.add_comm, Int.mul_comm] at h2
  refine ⟨r, ?_, h2, ?_⟩
  · unfold isochroneref01_Small.f
    have e : (a.length : Int) + 2 = ((a.length + 2 : Nat) : Int) := by omega
    rw [e, w64 (by omega) (by omega), Int.toNat_natCast]
    exact evp (by omega) (evp (by omega) h1)
  · refine h2.len_le RR_one ?_
    have h3 := ha.lt RR_pos
    have h4 := ha.nonneg RR_pos
    have h5 : n * k0 ≤ n * 65536 := Int.mul_le_mul_of_nonneg_left hk.2 h4
    have h6 : RR ^ (a.length + 2) = RR ^ a.length * 100000000 := by rw [Int.pow_add]; rfl
    rw [h6]
    omega
theorem r_Int_ev (n : Int) (c : Nat) : ∀ (o : List Int) (cc : Int), cc = (c : Int) → cc < 4611686018427387904 → o.length + c < 17592186044416 → Dg RR o → (c = 0 → Nm o) → vl RR o + cc * RR ^ o.length = n → ∃ r, Ev (fun k => isochroneref01_Int.l0 k cc o) r ∧ Can RR r n := by
  induction c using Nat.strongRecOn with
  | _ c ih =>
    intro o cc hcc hlt hl hd hnm hv
    by_cases h0 : c = 0
    · subst h0
      have e : cc = 0 := by omega
      subst e
      rw [Int.zero_mul, Int.add_zero] at hv
      refine ⟨o, ?_, hd, hnm rfl, hv⟩
      refine Ev.step (fun k => by rw [isochroneref01_Int.l0]) ?_
      exact evn (by omega) (evs _)
    · obtain ⟨r, h1, h2⟩ := ih (c / 10000) (by omega) (o ++ [cc % 10000]) (cc / 10000) (by omega) (by omega) (by simp; omega) (hd.append (Dg.mk (by omega) (by rw [RR_eq]; omega) (Dg.nil _)))
        (by
          intro hz hne
          simp only [List.getLast_append, List.getLast_singleton]
          simp
          omega)
        (by rw [vl_snoc, List.length_append, List.length_singleton, Int.pow_succ, Int.mul_comm (RR ^ o.length) RR]; exact alg_sm hv (by rw [RR_eq]; omega))
      refine ⟨r, ?_, h2⟩
      refine Ev.step (fun k => by rw [isochroneref01_Int.l0]) ?_
      rw [tmod_nn (x := cc) (by omega), tdiv_nn (x := cc) (by omega), w64 (x := cc / 10000) (by omega) (by omega)]
      exact evp (by omega) (evp (by omega) h1)
theorem r_Int_sp {a : Int} (h0 : 0 ≤ a) (h1 : a < 10000000000000) : ∃ r, Ev (fun k => isochroneref01_Int.f k a) r ∧ Can RR r a := by
  obtain ⟨r, h2, h3⟩ := r_Int_ev a a.toNat [] a (by omega) (by omega) (by simp; omega) (Dg.nil _) (fun _ => Nm.nil) (by simp [vl])
  exact ⟨r, Ev.congr (fun k => by rw [isochroneref01_Int.f]) h2, h3⟩
theorem and16 {x : Int} (h0 : 0 ≤ x) (h1 : x < 4294967296) : Go.bits .and .u32 x 65535 = x % 65536 :=
  bits_mask .u32 32 (by decide) (fun n h0 h1 => by rw [IntKind.wrap_u32]; omega) 16 (by decide) x h0 h1
end Go.Proofs.YtjimdhlmeebjeaaGreat.P
end
section
namespace Go.Proofs.YtjimdhlmeebjeaaGreat.P
open Go.RowKit Go.Proofs.YtjimdhlmeebjeaaGreatW.PrintWords Go.Proofs.YtjimdhlmeebjeaaGreatW.PrintLast Go.Proofs.YtjimdhlmeebjeaaGreatW.PrintMore
set_option linter.unusedVariables false
theorem nm_of_ge {B : Int} {l : List Int} (hB : 0 < B) (hd : Dg B l) (h : B ^ (l.length - 1) ≤ vl B l) : Nm l := by
  refine nm_of_rd (fun hp hz => ?_)
  have e : (l.length : Int) - 1 = ((l.length - 1 : Nat) : Int) := by omega
  rw [e] at hz
  have h1 := vl_take B l (l.length - 1) (by omega)
  rw [hz, show l.length - 1 + 1 = l.length by omega, List.take_length] at h1
  have h2 := vl_lt hB (hd.take (l.length - 1))
  rw [List.length_take, Nat.min_eq_left (by omega)] at h2
  omega
theorem alg_radd {vo va vb P c c' v x y R : Int} (h : vo + c * P = va + vb) (h2 : v + R * c' = c + x + y) : (vo + v * P) + c' * (R * P) = (va + x * P) + (vb + y * P) := by grind
theorem take_over (l : List Int) (i : Nat) (h : l.length ≤ i) : l.take i = l := List.take_of_length_le h
theorem r_Add_ev {a b : List Int} {n m : Int} (hn : a.length + b.length < 68719476736) (ha : Can RR a n) (hb : Can RR b m) (d : Nat) :
    ∀ (i : Nat) (o : List Int) (c : Int), max a.length b.length + 1 - i = d → i ≤ max a.length b.length + 1 → o.length = i → Dg RR o → 0 ≤ c → c ≤ 1 → (max a.length b.length < i → c = 0 ∧ RR ^ (max a.length b.length) ≤ n + m) →
    vl RR o + c * RR ^ i = vl RR (a.take i) + vl RR (b.take i) → ∃ r, Ev (fun k => isochroneref01_Add.l0 k a b o c (i : Int)) r ∧ Can RR r (n + m) ∧ r.length ≤ max a.length b.length + 1 := by
  induction d with
  | zero =>
    intro i o c h1 h2 h3 h4 h5 h6 h7 h8
    obtain ⟨hc, hge⟩ := h7 (by omega)
    subst hc
    rw [take_over a i (by omega), take_over b i (by omega), ha.2.2, hb.2.2, Int.zero_mul, Int.add_zero] at h8
    refine ⟨o, ?_, ⟨h4, nm_of_ge RR_pos h4 ?_, h8⟩, by omega⟩
    · refine Ev.step (fun k => by rw [isochroneref01_Add.l0]) ?_
      refine evn (by omega) (evn (by omega) ?_)
      refine Ev.step (fun k => by rw [isochroneref01_Add.j1]) ?_
      exact evn (by simp) (evs _)
    · rw [h8, h3, show i - 1 = max a.length b.length by omega]
      exact hge
  | succ d ih =>
    intro i o c h1 h2 h3 h4 h5 h6 h7 h8
    have step : ∀ (x y : Int), 0 ≤ x ∧ x < 10000 → 0 ≤ y ∧ y < 10000 → vl RR (a.take (i + 1)) = vl RR (a.take i) + x * RR ^ i → vl RR (b.take (i + 1)) = vl RR (b.take i) + y * RR ^ i → (max a.length b.length < i + 1 → (c + x + y) / 10000 = 0 ∧ RR ^ (max a.length b.length) ≤ n + m) →
        ∃ r, Ev (fun k => isochroneref01_Add.l0 k a b (o ++ [(c + x + y) % 10000]) ((c + x + y) / 10000) ((i + 1 : Nat) : Int)) r ∧ Can RR r (n + m) ∧ r.length ≤ max a.length b.length + 1 := by
      intro x y hx hy ta tb hg
      refine ih (i + 1) _ _ (by omega) (by omega) (by simp; omega) (h4.append (Dg.mk (by omega) (by rw [RR_eq]; omega) (Dg.nil _))) (by omega) (by omega) hg ?_
      rw [vl_snoc, h3, ta, tb, Int.pow_succ, Int.mul_comm (RR ^ i) RR]
      exact alg_radd h8 (by rw [RR_eq]; omega)
    by_cases hia : i < a.length
    · have hx := dg_rd ha.1 (i : Int) (by omega) (by omega)
      rw [RR_eq] at hx
      by_cases hib : i < b.length
      · have hy := dg_rd hb.1 (i : Int) (by omega) (by omega)
        rw [RR_eq] at hy
        obtain ⟨r, q1, q2⟩ := step _ _ hx hy (vl_take RR a i hia) (vl_take RR b i hib) (fun h => by omega)
        refine ⟨r, ?_, q2⟩
        refine Ev.step (fun k => by rw [isochroneref01_Add.l0]) ?_
        refine evp (by omega) ?_
        refine Ev.step (fun k => by rw [isochroneref01_Add.j1]) ?_
        rw [w64 (x := c + rd a i) (by omega) (by omega), w64 (x := c + rd a i + rd b i) (by omega) (by omega), tmod_nn (x := c + rd a i + rd b i) (by omega), tdiv_nn (x := c + rd a i + rd b i) (by omega), w64 (x := (c + rd a i + rd b i) / 10000) (by omega) (by omega), wsucc (i := i) (by omega)]
        exact evp rfl (evp (by omega) (evp (by omega) (evp (by omega) (evp (by omega) q1))))
      · obtain ⟨r, q1, q2⟩ := step _ 0 hx (by omega) (vl_take RR a i hia) (by rw [take_over b i (by omega), take_over b (i + 1) (by omega)]; omega) (fun h => by omega)
        rw [Int.add_zero] at q1
        refine ⟨r, ?_, q2⟩
        refine Ev.step (fun k => by rw [isochroneref01_Add.l0]) ?_
        refine evp (by omega) ?_
        refine Ev.step (fun k => by rw [isochroneref01_Add.j1]) ?_
        rw [w64 (x := c + rd a i) (by omega) (by omega), tmod_nn (x := c + rd a i) (by omega), tdiv_nn (x := c + rd a i) (by omega), w64 (x := (c + rd a i) / 10000) (by omega) (by omega), wsucc (i := i) (by omega)]
        exact evp rfl (evp (by omega) (evp (by omega) (evn (by omega) (evp (by omega) q1))))
    · by_cases hib : i < b.length
      · have hy := dg_rd hb.1 (i : Int) (by omega) (by omega)
        rw [RR_eq] at hy
        obtain ⟨r, q1, q2⟩ := step 0 _ (by omega) hy (by rw [take_over a i (by omega), take_over a (i + 1) (by omega)]; omega) (vl_take RR b i hib) (fun h => by omega)
        rw [Int.add_zero] at q1
        refine ⟨r, ?_, q2⟩
        refine Ev.step (fun k => by rw [isochroneref01_Add.l0]) ?_
        refine evn (by omega) (evp (by omega) ?_)
        refine Ev.step (fun k => by rw [isochroneref01_Add.j1]) ?_
        rw [w64 (x := c + rd b i) (by omega) (by omega), tmod_nn (x := c + rd b i) (by omega), tdiv_nn (x := c + rd b i) (by omega), w64 (x := (c + rd b i) / 10000) (by omega) (by omega), wsucc (i := i) (by omega)]
        exact evp rfl (evn (by omega) (evp (by omega) (evp (by omega) (evp (by omega) q1))))
      · rw [take_over a i (by omega), take_over b i (by omega), ha.2.2, hb.2.2] at h8
        by_cases hc : c = 0
        · subst hc
          rw [Int.zero_mul, Int.add_zero] at h8
          refine ⟨o, ?_, ⟨h4, ?_, h8⟩, by omega⟩
          · refine Ev.step (fun k => by rw [isochroneref01_Add.l0]) ?_
            refine evn (by omega) (evn (by omega) ?_)
            refine Ev.step (fun k => by rw [isochroneref01_Add.j1]) ?_
            exact evn (by simp) (evs _)
          · by_cases hi0 : i = 0
            · have : o = [] := List.eq_nil_of_length_eq_zero (by omega)
              rw [this]
              exact Nm.nil
            · refine nm_of_ge RR_pos h4 ?_
              rw [h8, h3]
              have hna := ha.nonneg RR_pos
              have hnb := hb.nonneg RR_pos
              by_cases hge : b.length ≤ a.length
              · have := ha.ge RR_pos (by omega)
                have h9 := pow_le (B := RR) (by have := RR_one; omega) (show i - 1 ≤ a.length - 1 by omega)
                omega
              · have := hb.ge RR_pos (by omega)
                have h9 := pow_le (B := RR) (by have := RR_one; omega) (show i - 1 ≤ b.length - 1 by omega)
                omega
        · have hc1 : c = 1 := by omega
          subst hc1
          have him : i ≤ max a.length b.length := by
            rcases Nat.lt_or_ge (max a.length b.length) i with h | h
            · have := (h7 h).1
              omega
            · exact h
          have hvo := vl_nonneg RR_pos h4
          obtain ⟨r, q1, q2⟩ := step 0 0 (by omega) (by omega) (by rw [take_over a i (by omega), take_over a (i + 1) (by omega)]; omega) (by rw [take_over b i (by omega), take_over b (i + 1) (by omega)]; omega)
            (fun h => ⟨by omega, by rw [show max a.length b.length = i by omega]; omega⟩)
          refine ⟨r, ?_, q2⟩
          refine Ev.step (fun k => by rw [isochroneref01_Add.l0]) ?_
          refine evn (by omega) (evn (by omega) ?_)
          refine Ev.step (fun k => by rw [isochroneref01_Add.j1]) ?_
          rw [wsucc (i := i) (by omega), show Int.tmod 1 10000 = (1 + 0 + 0) % 10000 by decide, show wrap64 (Int.tdiv 1 10000) = (1 + 0 + 0) / 10000 by decide +kernel]
          exact evp (by simp) (evn (by omega) (evn (by omega) (evp (by omega) q1)))
theorem r_Add_sp {a b : List Int} {n m : Int} (hn : a.length + b.length < 68719476736) (ha : Can RR a n) (hb : Can RR b m) : ∃ r, Ev (fun k => isochroneref01_Add.f k a b) r ∧ Can RR r (n + m) ∧ r.length ≤ max a.length b.length + 1 := by
  obtain ⟨r, h1, h2⟩ := r_Add_ev hn ha hb (max a.length b.length + 1) 0 [] 0 (by omega) (by omega) rfl (Dg.nil _) (by omega) (by omega) (fun h => by omega) (by simp [vl])
  exact ⟨r, Ev.congr (fun k => by rw [isochroneref01_Add.f]; rfl) h1, h2⟩
end Go.Proofs.YtjimdhlmeebjeaaGreat.P
end
section
namespace Go.Proofs.YtjimdhlmeebjeaaGreat.P
open Go.RowKit Go.Proofs.YtjimdhlmeebjeaaGreatW.PrintWords Go.Proofs.YtjimdhlmeebjeaaGreatW.PrintLast Go.Proofs.YtjimdhlmeebjeaaGreatW.PrintMore
set_option linter.unusedVariables false
theorem drop_set_ge (l : List Int) (i : Nat) (v : Int) : (l.set i v).drop (i + 1) = l.drop (i + 1) := by rw [List.drop_set_of_lt (by omega)]
theorem rd_of_drop (a o : List Int) (i : Nat) (h : o.drop i = a.drop i) (hi : i < a.length) (hl : o.length = a.length) : rd o i = rd a i := by
  rw [rd_lt o i (by omega), rd_lt a i hi]
  have h1 : (o.drop i)[0]? = (a.drop i)[0]? := by rw [h]
  rw [List.getElem?_drop, List.getElem?_drop, Nat.add_zero, List.getElem?_eq_getElem (by omega), List.getElem?_eq_getElem hi] at h1
  exact Option.some.inj h1
theorem drop_tail (a o : List Int) (i : Nat) (h : o.drop i = a.drop i) : o.drop (i + 1) = a.drop (i + 1) := by
  rw [← List.drop_drop, ← List.drop_drop, h]
theorem r_Sub_ev {a b : List Int} (hba : b.length ≤ a.length) (hle : vl RR b ≤ vl RR a) (hn : a.length < 68719476736) (ha : Dg RR a) (hb : Dg RR b) (d : Nat) :
    ∀ (i : Nat) (o : List Int) (c : Int), a.length - i = d → i ≤ a.length → o.length = a.length → o.drop i = a.drop i → Dg RR (o.take i) → 0 ≤ c → c ≤ 1 → vl RR (o.take i) - c * RR ^ i = vl RR (a.take i) - vl RR (b.take i) →
    ∃ r, Ev (fun k => isochroneref01_Sub.l0 k b o c (a.length : Int) (i : Int)) r ∧ Can RR r (vl RR a - vl RR b) ∧ r.length ≤ a.length := by
  induction d with
  | zero =>
    intro i o c h1 h2 h3 hdr h4 h5 h6 h7
    have e : i = a.length := by omega
    subst e
    rw [List.take_length, List.take_of_length_le hba, ← h3, List.take_length] at h7
    rw [← h3, List.take_length] at h4
    have hlt := vl_lt RR_pos h4
    have hc : c = 0 := by
      rcases Int.lt_or_eq_of_le h6 with h | h
      · omega
      · subst h
        rw [Int.one_mul] at h7
        omega
    subst hc
    rw [Int.zero_mul, Int.sub_zero] at h7
    obtain ⟨r, h8, h9, h10⟩ := r_trim_sp (l := o) (by omega) h4
    refine ⟨r, ?_, by rw [← h7]; exact h9, by omega⟩
    refine Ev.step (fun k => by rw [isochroneref01_Sub.l0]) ?_
    refine evn (by omega) ?_
    exact Ev.bind h8 (evs _)
  | succ d ih =>
    intro i o c h1 h2 h3 hdr h4 h5 h6 h7
    have hi : i < a.length := by omega
    have hx := dg_rd ha (i : Int) (by omega) (by omega)
    rw [RR_eq] at hx
    have hro := rd_of_drop a o i hdr hi h3
    have ti := vl_take RR a i hi
    have ep : RR ^ (i + 1) = RR * RR ^ i := by rw [Int.pow_succ, Int.mul_comm]
    have hdt := drop_tail a o i hdr
    by_cases hib : i < b.length
    · have hy := dg_rd hb (i : Int) (by omega) (by omega)
      rw [RR_eq] at hy
      have tb := vl_take RR b i hib
      by_cases hneg : rd a i - c - rd b i < 0
      · obtain ⟨r, h8, h9⟩ := ih (i + 1) (o.set i (rd a i - c - rd b i + 10000)) 1 (by omega) (by omega) (by simpa using h3) (by rw [drop_set_ge, hdt]) (Dg.take_set (by omega) h4 (by omega) (by rw [RR_eq]; omega)) (by omega) (by omega)
          (by rw [vl_set _ _ _ _ (by omega), ti, tb, ep]; exact alg_sub h7 (by rw [RR_eq]; omega))
        refine ⟨r, ?_, h9⟩
        refine Ev.step (fun k => by rw [isochroneref01_Sub.l0]) ?_
        rw [hro, w64 (x := rd a i - c) (by omega) (by omega), w64 (x := rd a i - c - rd b i) (by omega) (by omega), w64 (x := rd a i - c - rd b i + 10000) (by omega) (by omega), wsucc (i := i) (by omega)]
        exact evp (by omega) (evp (by omega) (evp (by omega) (evp (by omega) (evp hneg h8))))
      · obtain ⟨r, h8, h9⟩ := ih (i + 1) (o.set i (rd a i - c - rd b i)) 0 (by omega) (by omega) (by simpa using h3) (by rw [drop_set_ge, hdt]) (Dg.take_set (by omega) h4 (by omega) (by rw [RR_eq]; omega)) (by omega) (by omega)
          (by rw [vl_set _ _ _ _ (by omega), ti, tb, ep]; exact alg_sub h7 (by rw [RR_eq]; omega))
        refine ⟨r, ?_, h9⟩
        refine Ev.step (fun k => by rw [isochroneref01_Sub.l0]) ?_
        rw [hro, w64 (x := rd a i - c) (by omega) (by omega), w64 (x := rd a i - c - rd b i) (by omega) (by omega), wsucc (i := i) (by omega)]
        exact evp (by omega) (evp (by omega) (evp (by omega) (evp (by omega) (evn hneg h8))))
    · have tb : vl RR (b.take (i + 1)) = vl RR (b.take i) := by rw [List.take_of_length_le (by omega), List.take_of_length_le (by omega)]
      by_cases hneg : rd a i - c < 0
      · obtain ⟨r, h8, h9⟩ := ih (i + 1) (o.set i (rd a i - c + 10000)) 1 (by omega) (by omega) (by simpa using h3) (by rw [drop_set_ge, hdt]) (Dg.take_set (by omega) h4 (by omega) (by rw [RR_eq]; omega)) (by omega) (by omega)
          (by rw [vl_set _ _ _ _ (by omega), ti, tb, ep]; exact alg_sub1 h7 (by rw [RR_eq]; omega))
        refine ⟨r, ?_, h9⟩
        refine Ev.step (fun k => by rw [isochroneref01_Sub.l0]) ?_
        rw [hro, w64 (x := rd a i - c) (by omega) (by omega), w64 (x := rd a i - c + 10000) (by omega) (by omega), wsucc (i := i) (by omega)]
        exact evp (by omega) (evp (by omega) (evp (by omega) (evn (by omega) (evp hneg h8))))
      · obtain ⟨r, h8, h9⟩ := ih (i + 1) (o.set i (rd a i - c)) 0 (by omega) (by omega) (by simpa using h3) (by rw [drop_set_ge, hdt]) (Dg.take_set (by omega) h4 (by omega) (by rw [RR_eq]; omega)) (by omega) (by omega)
          (by rw [vl_set _ _ _ _ (by omega), ti, tb, ep]; exact alg_sub1 h7 (by rw [RR_eq]; omega))
        refine ⟨r, ?_, h9⟩
        refine Ev.step (fun k => by rw [isochroneref01_Sub.l0]) ?_
        rw [hro, w64 (x := rd a i - c) (by omega) (by omega), wsucc (i := i) (by omega)]
        exact evp (by omega) (evp (by omega) (evp (by omega) (evn (by omega) (evn hneg h8))))
theorem canR_len_le {a b : List Int} {n m : Int} (ha : Can RR a n) (hb : Can RR b m) (h : m ≤ n) : b.length ≤ a.length := by
  rcases Nat.lt_or_ge a.length b.length with hl | hl
  · have := Can.len_lt RR_one ha hb hl
    omega
  · exact hl
theorem r_Clone_sp {l : List Int} (h : l.length < 17592186044416) : isochroneref01_Nat_int.f l = some l := by
  unfold isochroneref01_Nat_int.f
  simp [h]
theorem r_Sub_sp {a b : List Int} {n m : Int} (hn : a.length < 68719476736) (ha : Can RR a n) (hb : Can RR b m) (hle : m ≤ n) : ∃ r, Ev (fun k => isochroneref01_Sub.f k a b) r ∧ Can RR r (n - m) ∧ r.length ≤ a.length := by
  have hba := canR_len_le ha hb hle
  rw [← ha.2.2, ← hb.2.2] at *
  obtain ⟨r, h1, h2⟩ := r_Sub_ev hba hle hn ha.1 hb.1 a.length 0 a 0 (by omega) (by omega) rfl rfl (by simp; exact Dg.nil _) (by omega) (by omega) (by simp [vl])
  refine ⟨r, ?_, h2⟩
  unfold isochroneref01_Sub.f
  exact evb (r_Clone_sp (by omega)) h1
theorem vl_set_all (B : Int) (l : List Int) (p : Nat) (v : Int) (h : p < l.length) : vl B (l.set p v) = vl B l + (v - rd l (p : Int)) * B ^ p := by
  have h1 := vl_set_mid B l p l.length v h (Nat.le_refl _)
  rwa [List.take_of_length_le (by simp), List.take_length] at h1
theorem alg_carry {T c P V old v c' W : Int} (h : T + c * P = V) (h2 : v + W * c' = c + old) : (T + (v - old) * P) + c' * (W * P) = V := by grind
theorem r_Mul_c {a b : List Int} {V : Int} (hn : a.length + b.length < 68719476736) (hV : V < RR ^ (a.length + b.length)) (s : Int) (R : List Int)
    (hout : ∀ o : List Int, o.length = a.length + b.length + 1 → Dg RR o → vl RR o = V → Ev (fun k => isochroneref01_Mul.l0 k b o a (a.length : Int) (wrap64 (s + 1))) R) (d : Nat) :
    ∀ (p : Nat) (o : List Int) (c : Int), a.length + b.length + 1 - p = d → p ≤ a.length + b.length + 1 → o.length = a.length + b.length + 1 → Dg RR o → 0 ≤ c → c < 10000 → vl RR o + c * RR ^ p = V →
    Ev (fun k => isochroneref01_Mul.l2 k b o c (p : Int) a (a.length : Int) s) R := by
  induction d with
  | zero =>
    intro p o c h1 h2 h3 h4 h5 h6 h7
    have hvo := vl_nonneg RR_pos h4
    have hc : c = 0 := by
      rcases Int.lt_or_eq_of_le h5 with h | h
      · have h8 := pow_le (B := RR) (by have := RR_one; omega) (show a.length + b.length ≤ p by omega)
        have h9 : 1 * RR ^ p ≤ c * RR ^ p := Int.mul_le_mul_of_nonneg_right (by omega) (Int.le_of_lt (Int.pow_pos RR_pos))
        omega
      · omega
    subst hc
    rw [Int.zero_mul, Int.add_zero] at h7
    refine Ev.step (fun k => by rw [isochroneref01_Mul.l2]) ?_
    exact evn (by omega) (hout o h3 h4 h7)
  | succ d ih =>
    intro p o c h1 h2 h3 h4 h5 h6 h7
    by_cases hc : c = 0
    · subst hc
      rw [Int.zero_mul, Int.add_zero] at h7
      refine Ev.step (fun k => by rw [isochroneref01_Mul.l2]) ?_
      exact evn (by omega) (hout o h3 h4 h7)
    · have ho := dg_rd h4 (p : Int) (by omega) (by omega)
      rw [RR_eq] at ho
      have h8 := ih (p + 1) (o.set p ((c + rd o p) % 10000)) ((c + rd o p) / 10000) (by omega) (by omega) (by simpa using h3) (h4.set _ (by omega) (by rw [RR_eq]; omega)) (by omega) (by omega)
        (by rw [vl_set_all _ _ _ _ (by omega), Int.pow_succ, Int.mul_comm (RR ^ p) RR]; exact alg_carry h7 (by rw [RR_eq]; omega))
      refine Ev.step (fun k => by rw [isochroneref01_Mul.l2]) ?_
      rw [w64 (x := c + rd o p) (by omega) (by omega), tmod_nn (x := c + rd o p) (by omega), tdiv_nn (x := c + rd o p) (by omega), w64 (x := (c + rd o p) / 10000) (by omega) (by omega), wsucc (i := p) (by omega), Int.toNat_natCast]
      exact evp (by omega) (evp (by omega) (evp (by omega) h8))
theorem mul_bd4 {x y : Int} (hx : 0 ≤ x ∧ x < 10000) (hy : 0 ≤ y ∧ y < 10000) : 0 ≤ x * y ∧ x * y ≤ 99980001 := by
  have h1 : 0 ≤ x * y := Int.mul_nonneg hx.1 hy.1
  have h2 : x * y ≤ 9999 * 9999 := Int.mul_le_mul (by omega) (by omega) hy.1 (by omega)
  omega
theorem alg_rmul {T va vb x y old P c c' v W xb Pi Pj : Int} (h : T + c * P = va * vb + x * Pi * xb) (h2 : v + W * c' = c + (old + x * y)) (hP : P = Pi * Pj) : (T + (v - old) * P) + c' * (W * P) = va * vb + x * Pi * (xb + y * Pj) := by grind
theorem r_Mul_in {a b : List Int} (hn : a.length + b.length < 68719476736) (ha : Dg RR a) (hb : Dg RR b) (i : Nat) (hi : i < a.length) (R : List Int)
    (hout : ∀ o : List Int, o.length = a.length + b.length + 1 → Dg RR o → vl RR o = vl RR (a.take (i + 1)) * vl RR b → Ev (fun k => isochroneref01_Mul.l0 k b o a (a.length : Int) ((i + 1 : Nat) : Int)) R) (d : Nat) :
    ∀ (j : Nat) (o : List Int) (c : Int), b.length - j = d → j ≤ b.length → o.length = a.length + b.length + 1 → Dg RR o → 0 ≤ c → c < 10000 →
    vl RR o + c * RR ^ (i + j) = vl RR (a.take i) * vl RR b + rd a i * RR ^ i * vl RR (b.take j) →
    Ev (fun k => isochroneref01_Mul.l1 k b o (i : Int) (rd a i) c a (a.length : Int) (i : Int) b (b.length : Int) (j : Int)) R := by
  have hx := dg_rd ha (i : Int) (by omega) (by omega)
  rw [RR_eq] at hx
  induction d with
  | zero =>
    intro j o c h1 h2 h3 h4 h5 h6 h7
    have e : j = b.length := by omega
    subst e
    rw [List.take_length] at h7
    have h8 := alg_mul2 h7
    rw [← vl_take RR a i hi] at h8
    have hlt : vl RR (a.take (i + 1)) * vl RR b < RR ^ (a.length + b.length) := by
      rw [Int.pow_add]
      have q1 := vl_lt RR_pos (ha.take (i + 1))
      have q2 := pow_le (B := RR) (by have := RR_one; omega) (show (a.take (i + 1)).length ≤ a.length by rw [List.length_take]; omega)
      exact mul_lt' (by omega) (vl_lt RR_pos hb) (vl_nonneg RR_pos (ha.take _)) (vl_nonneg RR_pos hb)
    have h9 := r_Mul_c (a := a) (b := b) (V := vl RR (a.take (i + 1)) * vl RR b) hn hlt (i : Int) R (fun o' q1 q2 q3 => by rw [wsucc (i := i) (by omega)]; exact hout o' q1 q2 q3) (a.length + b.length + 1 - (i + b.length)) (i + b.length) o c rfl (by omega) h3 h4 h5 h6 h8
    have ei : ((i : Int) + (b.length : Int)) = ((i + b.length : Nat) : Int) := by omega
    refine Ev.step (fun k => by rw [isochroneref01_Mul.l1]) ?_
    rw [ei, w64 (x := ((i + b.length : Nat) : Int)) (by omega) (by omega)]
    exact evn (by omega) h9
  | succ d ih =>
    intro j o c h1 h2 h3 h4 h5 h6 h7
    have hy := dg_rd hb (j : Int) (by omega) (by omega)
    have ho := dg_rd h4 ((i + j : Nat) : Int) (by omega) (by omega)
    rw [RR_eq] at hy ho
    have hm := mul_bd4 hx hy
    have h8 := ih (j + 1) (o.set (i + j) ((c + (rd o ((i + j : Nat) : Int) + rd a i * rd b j)) % 10000)) ((c + (rd o ((i + j : Nat) : Int) + rd a i * rd b j)) / 10000) (by omega) (by omega) (by simpa using h3) (h4.set _ (by omega) (by rw [RR_eq]; omega)) (by omega) (by omega)
      (by
        rw [vl_set_all _ _ _ _ (by omega), vl_take RR b j (by omega), show i + (j + 1) = i + j + 1 by omega, Int.pow_succ, Int.mul_comm (RR ^ (i + j)) RR]
        exact alg_rmul h7 (by rw [RR_eq]; omega) (Int.pow_add _ _ _))
    have ei : ((i : Int) + (j : Int)) = ((i + j : Nat) : Int) := by omega
    refine Ev.step (fun k => by rw [isochroneref01_Mul.l1]) ?_
    rw [ei, w64 (x := ((i + j : Nat) : Int)) (by omega) (by omega), w64 (x := rd a i * rd b j) (by omega) (by omega), w64 (x := rd o ((i + j : Nat) : Int) + rd a i * rd b j) (by omega) (by omega), w64 (x := c + (rd o ((i + j : Nat) : Int) + rd a i * rd b j)) (by omega) (by omega),
      tmod_nn (x := c + (rd o ((i + j : Nat) : Int) + rd a i * rd b j)) (by omega), tdiv_nn (x := c + (rd o ((i + j : Nat) : Int) + rd a i * rd b j)) (by omega), w64 (x := (c + (rd o ((i + j : Nat) : Int) + rd a i * rd b j)) / 10000) (by omega) (by omega), wsucc (i := j) (by omega), Int.toNat_natCast]
    exact evp (by omega) (evp (by omega) (evp (by omega) (evp (by omega) (evp (by omega) h8))))
theorem r_Mul_out {a b : List Int} (hn : a.length + b.length < 68719476736) (ha : Dg RR a) (hb : Dg RR b) : ∃ R, Can RR R (vl RR a * vl RR b) ∧ R.length ≤ a.length + b.length ∧ ∀ (d i : Nat) (o : List Int), a.length - i = d → i ≤ a.length → o.length = a.length + b.length + 1 → Dg RR o → vl RR o = vl RR (a.take i) * vl RR b →
    Ev (fun k => isochroneref01_Mul.l0 k b o a (a.length : Int) (i : Int)) R := by
  have hnn : 0 ≤ vl RR a * vl RR b := Int.mul_nonneg (vl_nonneg RR_pos ha) (vl_nonneg RR_pos hb)
  obtain ⟨R, hR⟩ := can_ex RR_one hnn
  have hRl : R.length ≤ a.length + b.length := by
    refine hR.len_le RR_one ?_
    rw [Int.pow_add]
    exact mul_lt' (vl_lt RR_pos ha) (vl_lt RR_pos hb) (vl_nonneg RR_pos ha) (vl_nonneg RR_pos hb)
  refine ⟨R, hR, hRl, ?_⟩
  intro d
  induction d with
  | zero =>
    intro i o h1 h2 h3 h4 h5
    have e : i = a.length := by omega
    subst e
    rw [List.take_length] at h5
    obtain ⟨r, h8, h9, h10⟩ := r_trim_sp (l := o) (by omega) h4
    rw [h5] at h9
    rw [can_uniq RR_pos hR h9]
    refine Ev.step (fun k => by rw [isochroneref01_Mul.l0]) ?_
    exact evn (by omega) (Ev.bind h8 (evs _))
  | succ d ih =>
    intro i o h1 h2 h3 h4 h5
    have h6 := r_Mul_in hn ha hb i (by omega) R (fun o' q1 q2 q3 => ih (i + 1) o' (by omega) (by omega) q1 q2 q3) b.length 0 o 0 (by omega) (by omega) h3 h4 (by omega) (by omega) (by rw [h5]; simp [vl])
    refine Ev.step (fun k => by rw [isochroneref01_Mul.l0]) ?_
    exact evp (by omega) (evp (by omega) (evp (by omega) h6))
theorem r_Mul_sp {a b : List Int} {n m : Int} (hn : a.length + b.length < 68719476736) (ha : Can RR a n) (hb : Can RR b m) : ∃ r, Ev (fun k => isochroneref01_Mul.f k a b) r ∧ Can RR r (n * m) ∧ r.length ≤ a.length + b.length := by
  obtain ⟨R, h1, h2, h3⟩ := r_Mul_out hn ha.1 hb.1
  rw [ha.2.2, hb.2.2] at h1
  refine ⟨R, ?_, h1, h2⟩
  have h4 := h3 a.length 0 (List.replicate (a.length + b.length + 1) 0) (by omega) (by omega) (by simp) (Dg.rep RR_pos _) (by simp [vl, vl_rep])
  unfold isochroneref01_Mul.f
  have e : (a.length : Int) + (b.length : Int) = ((a.length + b.length : Nat) : Int) := by omega
  rw [e, w64 (x := ((a.length + b.length : Nat) : Int)) (by omega) (by omega), wsucc (i := a.length + b.length) (by omega), Int.toNat_natCast]
  exact evp (by omega) (evp (by omega) h4)
end Go.Proofs.YtjimdhlmeebjeaaGreat.P
end
section
namespace Go.Proofs.YtjimdhlmeebjeaaGreat.P
open Go.RowKit Go.Proofs.YtjimdhlmeebjeaaGreatW.PrintWords Go.Proofs.YtjimdhlmeebjeaaGreatW.PrintLast Go.Proofs.YtjimdhlmeebjeaaGreatW.PrintMore
set_option linter.unusedVariables false
theorem drop_set_self (l : List Int) (i : Nat) (v : Int) (h : i < l.length) : (l.set i v).drop i = v :: l.drop (i + 1) := by
  rw [List.drop_eq_getElem_cons (by simpa using h), List.getElem_set_self, drop_set_ge]
theorem drop_rd (l : List Int) (i : Nat) (h : i < l.length) : l.drop i = rd l i :: l.drop (i + 1) := by
  rw [rd_lt l i h]
  exact List.drop_eq_getElem_cons h
theorem alg_split {t r va q rr d R K : Int} (h : t * K + r = va) (h2 : q * K + rr = r * R + d) : (q + R * t) * K + rr = d + R * va := by grind
theorem r_Split_ev {a : List Int} (hn : a.length < 68719476736) (ha : Dg RR a) {K : Int} (hK : 1 ≤ K ∧ K ≤ 65536) (d : Nat) : ∀ (i : Nat) (o : List Int) (r : Int), i = d → i ≤ a.length → o.length = a.length → Dg RR (o.drop i) → 0 ≤ r → r < K → vl RR (o.drop i) * K + r = vl RR (a.drop i) →
    ∃ q z, Ev (fun k => isochroneref01_Split.l0 k a K o r ((i : Int) - 1)) (q, z) ∧ (∃ m, Can RR q m ∧ m * K + z = vl RR a) ∧ 0 ≤ z ∧ z < K ∧ q.length ≤ a.length := by
  induction d with
  | zero =>
    rintro i o r rfl h1 h2 h3 h4 h5 h6
    rw [List.drop_zero] at h3 h6
    rw [List.drop_zero] at h6
    obtain ⟨q, h7, h8, h9⟩ := r_trim_sp (l := o) (by omega) h3
    refine ⟨q, r, ?_, ⟨_, h8, h6⟩, h4, h5, by omega⟩
    refine Ev.step (fun k => by rw [isochroneref01_Split.l0]) ?_
    exact evn (by omega) (Ev.bind h7 (evs _))
  | succ d ih =>
    rintro i o r rfl h1 h2 h3 h4 h5 h6
    have e1 : (((d + 1 : Nat) : Int) - 1) = (d : Int) := by omega
    have hx := dg_rd ha (d : Int) (by omega) (by omega)
    rw [RR_eq] at hx
    have hv0 : 0 ≤ r * 10000 + rd a d := by omega
    have hq0 : 0 ≤ (r * 10000 + rd a d) / K := Int.ediv_nonneg hv0 (by omega)
    have hq1 : (r * 10000 + rd a d) / K < 10000 := by
      refine Int.ediv_lt_of_lt_mul (by omega) ?_
      have : (r + 1) * 10000 ≤ K * 10000 := Int.mul_le_mul_of_nonneg_right (by omega) (by omega)
      omega
    have hm0 := Int.emod_nonneg (r * 10000 + rd a d) (show K ≠ 0 by omega)
    have hm1 := Int.emod_lt_of_pos (r * 10000 + rd a d) (show 0 < K by omega)
    have hdv : (r * 10000 + rd a d) / K * K + (r * 10000 + rd a d) % K = r * RR + rd a d := by rw [RR_eq]; exact Int.ediv_mul_add_emod _ _
    obtain ⟨q, z, h7, h8⟩ := ih d (o.set d ((r * 10000 + rd a d) / K)) ((r * 10000 + rd a d) % K) rfl (by omega) (by simpa using h2)
      (by rw [drop_set_self _ _ _ (by omega)]; exact Dg.mk hq0 (by rw [RR_eq]; exact hq1) h3) hm0 hm1
      (by rw [drop_set_self _ _ _ (by omega), drop_rd a d (by omega), vl, vl]; exact alg_split h6 hdv)
    refine ⟨q, z, ?_, h8⟩
    refine Ev.step (fun k => by rw [isochroneref01_Split.l0]) ?_
    rw [e1, w64 (x := r * 10000) (by omega) (by omega), w64 (x := r * 10000 + rd a d) (by omega) (by omega), tdiv_nn hv0, tmod_nn hv0, w64 (x := (r * 10000 + rd a d) / K) (by omega) (by omega), w64 (x := (d : Int) - 1) (by omega) (by omega), Int.toNat_natCast]
    exact evp (by omega) (evp (by omega) (evp (by omega) (evn (by omega) (evp (by omega) h7))))
theorem r_Split_sp {a : List Int} {n K : Int} (hn : a.length < 68719476736) (ha : Can RR a n) (hK : 1 ≤ K ∧ K ≤ 65536) : ∃ q, Ev (fun k => isochroneref01_Split.f k a K) (q, n % K) ∧ Can RR q (n / K) ∧ q.length ≤ a.length := by
  obtain ⟨q, z, h1, ⟨m, h2, h3⟩, h4, h5, h6⟩ := r_Split_ev hn ha.1 hK a.length a.length (List.replicate a.length 0) 0 rfl (Nat.le_refl _) (by simp) (by rw [List.drop_of_length_le (by simp)]; exact Dg.nil _) (by omega) (by omega) (by rw [List.drop_of_length_le (by simp), List.drop_of_length_le (by simp)]; simp [vl])
  rw [ha.2.2] at h3
  have e1 : n % K = z := by rw [← h3, Int.add_comm, Int.add_mul_emod_self_right, Int.emod_eq_of_lt h4 h5]
  have e2 : n / K = m := by
    have h7 := Int.ediv_mul_add_emod n K
    rw [e1] at h7
    exact Int.eq_of_mul_eq_mul_right (a := K) (by omega) (by omega)
  rw [e1, e2]
  refine ⟨q, ?_, h2, h6⟩
  unfold isochroneref01_Split.f
  rw [Int.toNat_natCast, w64 (by omega) (by omega)]
  exact evp (by omega) (evp (by omega) h1)
end Go.Proofs.YtjimdhlmeebjeaaGreat.P
end
section
namespace Go.Proofs.YtjimdhlmeebjeaaGreat.P
open Go.RowKit Go.Proofs.YtjimdhlmeebjeaaGreatW.PrintWords Go.Proofs.YtjimdhlmeebjeaaGreatW.PrintLast Go.Proofs.YtjimdhlmeebjeaaGreatW.PrintMore
set_option linter.unusedVariables false
theorem or_comm' (k : IntKind) (a b : Int) : Go.bits .or k a b = Go.bits .or k b a := by
  simp only [Go.bits]
  rw [BitVec.or_comm]
theorem or64 {h x : Int} (hh : 0 ≤ h ∧ h < 4294967296) (hx : 0 ≤ x ∧ x < 4294967296) : Go.bits .or .u64 (h * 4294967296) x = h * 4294967296 + x :=
  bits_join .u64 64 (by decide) (fun n h0 h1 => by rw [IntKind.wrap_u64]; omega) 32 _ _ (by omega) (by omega) (by omega) hx.1 (by omega) (by omega)
theorem or64' {h x : Int} (hh : 0 ≤ h ∧ h < 4294967296) (hx : 0 ≤ x ∧ x < 4294967296) : Go.bits .or .u64 x (h * 4294967296) = h * 4294967296 + x := by
  rw [or_comm', or64 hh hx]
theorem alg_dw {t r va q rr d R K : Int} (h : t * K + r = va) (h2 : q * K + rr = r * R + d) : (q + R * t) * K + rr = d + R * va := by grind
theorem mag_divWord_ev {a : List Int} (hn : a.length < 68719476736) (ha : Dg WW a) {K : Int} (hK : 1 ≤ K ∧ K < 4294967296) (d : Nat) : ∀ (i : Nat) (o : List Int) (r : Int), i = d → i ≤ a.length → o.length = a.length → Dg WW (o.drop i) → 0 ≤ r → r < K → vl WW (o.drop i) * K + r = vl WW (a.drop i) →
    ∃ q z, Ev (fun k => mag_divWord.l0 k a K o r ((i : Int) - 1)) (q, z) ∧ (∃ m, Can WW q m ∧ m * K + z = vl WW a) ∧ 0 ≤ z ∧ z < K ∧ q.length ≤ a.length := by
  induction d with
  | zero =>
    rintro i o r rfl h1 h2 h3 h4 h5 h6
    rw [List.drop_zero] at h3 h6
    rw [List.drop_zero] at h6
    obtain ⟨q, h7, h8, h9⟩ := mag_Trim_sp (l := o) (by omega) h3
    have er : r % 4294967296 = r := by omega
    refine ⟨q, r, ?_, ⟨_, h8, h6⟩, h4, h5, by omega⟩
    refine Ev.step (fun k => by rw [mag_divWord.l0]) ?_
    rw [er]
    exact evn (by omega) (Ev.bind h7 (evs _))
  | succ d ih =>
    rintro i o r rfl h1 h2 h3 h4 h5 h6
    have e1 : (((d + 1 : Nat) : Int) - 1) = (d : Int) := by omega
    have hx := dg_rd ha (d : Int) (by omega) (by omega)
    rw [WW_eq] at hx
    have hv0 : 0 ≤ r * 4294967296 + rd a d := by omega
    have hq0 : 0 ≤ (r * 4294967296 + rd a d) / K := Int.ediv_nonneg hv0 (by omega)
    have hq1 : (r * 4294967296 + rd a d) / K < 4294967296 := by
      refine Int.ediv_lt_of_lt_mul (by omega) ?_
      have : (r + 1) * 4294967296 ≤ K * 4294967296 := Int.mul_le_mul_of_nonneg_right (by omega) (by omega)
      omega
    have hm0 := Int.emod_nonneg (r * 4294967296 + rd a d) (show K ≠ 0 by omega)
    have hm1 := Int.emod_lt_of_pos (r * 4294967296 + rd a d) (show 0 < K by omega)
    have hdv : (r * 4294967296 + rd a d) / K * K + (r * 4294967296 + rd a d) % K = r * WW + rd a d := by rw [WW_eq]; exact Int.ediv_mul_add_emod _ _
    obtain ⟨q, z, h7, h8⟩ := ih d (o.set d ((r * 4294967296 + rd a d) / K)) ((r * 4294967296 + rd a d) % K) rfl (by omega) (by simpa using h2)
      (by rw [drop_set_self _ _ _ (by omega)]; exact Dg.mk hq0 (by rw [WW_eq]; exact hq1) h3) hm0 hm1
      (by rw [drop_set_self _ _ _ (by omega), drop_rd a d (by omega), vl, vl]; exact alg_dw h6 hdv)
    refine ⟨q, z, ?_, h8⟩
    refine Ev.step (fun k => by rw [mag_divWord.l0]) ?_
    rw [e1, u64 (x := r * 4294967296) (by omega) (by omega), u64 (x := rd a d) (by omega) (by omega), u64 (x := K) (by omega) (by omega), or64 ⟨h4, by omega⟩ hx, tdiv_nn hv0, tmod_nn hv0, u64 (x := (r * 4294967296 + rd a d) / K) (by omega) (by omega), w64 (x := (d : Int) - 1) (by omega) (by omega), Int.toNat_natCast, Int.emod_eq_of_lt hq0 hq1]
    exact evp (by omega) (evp (by omega) (evp (by omega) (evn (by omega) (evp (by omega) h7))))
theorem mag_divWord_sp {a : List Int} {n K : Int} (hn : a.length < 68719476736) (ha : Can WW a n) (hK : 1 ≤ K ∧ K < 4294967296) : ∃ q, Ev (fun k => mag_divWord.f k a K) (q, n % K) ∧ Can WW q (n / K) ∧ q.length ≤ a.length := by
  obtain ⟨q, z, h1, ⟨m, h2, h3⟩, h4, h5, h6⟩ := mag_divWord_ev hn ha.1 hK a.length a.length (List.replicate a.length 0) 0 rfl (Nat.le_refl _) (by simp) (by rw [List.drop_eq_nil_of_le (by simp)]; exact Dg.nil _) (by omega) (by omega) (by rw [List.drop_eq_nil_of_le (by simp), List.drop_length]; simp [vl])
  rw [ha.2.2] at h3
  have e1 : n / K = m := by
    rw [← h3, Int.add_comm, Int.add_mul_ediv_right _ _ (by omega), Int.ediv_eq_zero_of_lt h4 h5]; omega
  have e2 : n % K = z := by
    rw [← h3, Int.add_comm, Int.add_mul_emod_self_right, Int.emod_eq_of_lt h4 h5]
  refine ⟨q, ?_, by rw [e1]; exact h2, h6⟩
  unfold mag_divWord.f
  rw [e2, w64 (x := (a.length : Int) - 1) (by omega) (by omega), Int.toNat_natCast]
  exact evp (by omega) (evp (by omega) h1)
theorem tab_len : ∀ i : Fin 256, ∃ L : Fin 9, bt (⟨#[0, 1, 2, 2, 3, 3, 3, 3, 4, 4, 4, 4, 4, 4, 4, 4, 5, 5, 5, 5, 5, 5, 5, 5, 5, 5, 5, 5, 5, 5, 5, 5, 6, 6, 6, 6, 6, 6, 6, 6, 6, 6, 6, 6, 6, 6, 6, 6, 6, 6, 6, 6, 6, 6, 6, 6, 6, 6, 6, 6, 6, 6, 6, 6, 7, 7, 7, 7, 7, 7, 7, 7, 7, 7, 7, 7, 7, 7, 7, 7, 7, 7, 7, 7, 7, 7, 7, 7, 7, 7, 7, 7, 7, 7, 7, 7, 7, 7, 7, 7, 7, 7, 7, 7, 7, 7, 7, 7, 7, 7, 7, 7, 7, 7, 7, 7, 7, 7, 7, 7, 7, 7, 7, 7, 7, 7, 7, 7, 8, 8, 8, 8, 8, 8, 8, 8, 8, 8, 8, 8, 8, 8, 8, 8, 8, 8, 8, 8, 8, 8, 8, 8, 8, 8, 8, 8, 8, 8, 8, 8, 8, 8, 8, 8, 8, 8, 8, 8, 8, 8, 8, 8, 8, 8, 8, 8, 8, 8, 8, 8, 8, 8, 8, 8, 8, 8, 8, 8, 8, 8, 8, 8, 8, 8, 8, 8, 8, 8, 8, 8, 8, 8, 8, 8, 8, 8, 8, 8, 8, 8, 8, 8, 8, 8, 8, 8, 8, 8, 8, 8, 8, 8, 8, 8, 8, 8, 8, 8, 8, 8, 8, 8, 8, 8, 8, 8, 8, 8, 8, 8, 8, 8, 8, 8, 8, 8, 8, 8, 8, 8, 8, 8, 8, 8, 8, 8]⟩ : ByteArray) ((i.val : Nat) : Int) = (L.val : Int) ∧ i.val < 2 ^ L.val ∧ (i.val ≠ 0 → 2 ^ (L.val - 1) ≤ i.val ∧ 1 ≤ L.val) := by decide +kernel
theorem tab_len' {x : Int} (h0 : 0 ≤ x) (h1 : x < 256) : ∃ L : Nat, bt (⟨#[0, 1, 2, 2, 3, 3, 3, 3, 4, 4, 4, 4, 4, 4, 4, 4, 5, 5, 5, 5, 5, 5, 5, 5, 5, 5, 5, 5, 5, 5, 5, 5, 6, 6, 6, 6, 6, 6, 6, 6, 6, 6, 6, 6, 6, 6, 6, 6, 6, 6, 6, 6, 6, 6, 6, 6, 6, 6, 6, 6, 6, 6, 6, 6, 7, 7, 7, 7, 7, 7, 7, 7, 7, 7, 7, 7, 7, 7, 7, 7, 7, 7, 7, 7, 7, 7, 7, 7, 7, 7, 7, 7, 7, 7, 7, 7, 7, 7, 7, 7, 7, 7, 7, 7, 7, 7, 7, 7, 7, 7, 7, 7, 7, 7, 7, 7, 7, 7, 7, 7, 7, 7, 7, 7, 7, 7, 7, 7, 8, 8, 8, 8, 8, 8, 8, 8, 8, 8, 8, 8, 8, 8, 8, 8, 8, 8, 8, 8, 8, 8, 8, 8, 8, 8, 8, 8, 8, 8, 8, 8, 8, 8, 8, 8, 8, 8, 8, 8, 8, 8, 8, 8, 8, 8, 8, 8, 8, 8, 8, 8, 8, 8, 8, 8, 8, 8, 8, 8, 8, 8, 8, 8, 8, 8, 8, 8, 8, 8, 8, 8, 8, 8, 8, 8, 8, 8, 8, 8, 8, 8, 8, 8, 8, 8, 8, 8, 8, 8, 8, 8, 8, 8, 8, 8, 8, 8, 8, 8, 8, 8, 8, 8, 8, 8, 8, 8, 8, 8, 8, 8, 8, 8, 8, 8, 8, 8, 8, 8, 8, 8, 8, 8, 8, 8, 8, 8]⟩ : ByteArray) x = (L : Int) ∧ L ≤ 8 ∧ x < 2 ^ L ∧ (x ≠ 0 → 2 ^ (L - 1) ≤ x ∧ 1 ≤ L) := by
  obtain ⟨n, rfl⟩ := Int.eq_ofNat_of_zero_le h0
  obtain ⟨L, h2, h3, h4⟩ := tab_len ⟨n, by omega⟩
  refine ⟨L.val, h2, by omega, by exact_mod_cast h3, fun h => ?_⟩
  obtain ⟨h5, h6⟩ := h4 (show n ≠ 0 by omega)
  exact ⟨by exact_mod_cast h5, h6⟩
theorem sh_pow {x y : Int} {L k : Nat} (h0 : 0 ≤ x) (e : y = x / 2 ^ k) (h1 : y < 2 ^ L) (h2 : 2 ^ (L - 1) ≤ y) (h3 : 1 ≤ L) : x < 2 ^ (k + L) ∧ 2 ^ (k + L - 1) ≤ x := by
  have hp : (0 : Int) < 2 ^ k := Int.pow_pos (by decide)
  have d1 := Int.mul_ediv_add_emod x (2 ^ k)
  have d2 := Int.emod_nonneg x (show (2 : Int) ^ k ≠ 0 by omega)
  have d3 := Int.emod_lt_of_pos x hp
  rw [← e] at d1
  have e2 : k + L - 1 = k + (L - 1) := by omega
  rw [e2, Int.pow_add, Int.pow_add]
  have m1 : (2 : Int) ^ k * (y + 1) ≤ 2 ^ k * 2 ^ L := Int.mul_le_mul_of_nonneg_left (by omega) (by omega)
  have m2 : (2 : Int) ^ k * 2 ^ (L - 1) ≤ 2 ^ k * y := Int.mul_le_mul_of_nonneg_left h2 (by omega)
  rw [Int.mul_add] at m1
  omega
theorem len32_sp {x : Int} (h0 : 0 ≤ x) (h1 : x < 4294967296) : ∃ L : Nat, bits_Len32.f x = some (L : Int) ∧ L ≤ 32 ∧ x < 2 ^ L ∧ (x ≠ 0 → 2 ^ (L - 1) ≤ x ∧ 1 ≤ L) := by
  unfold bits_Len32.f
  by_cases c1 : x ≥ 65536
  · by_cases c2 : x / 65536 ≥ 256
    · have e : x / 65536 / 256 % 256 = x / 2 ^ 24 := by omega
      obtain ⟨L, t1, t2, t3, t4⟩ := tab_len' (x := x / 2 ^ 24) (by omega) (by omega)
      obtain ⟨t5, t6⟩ := t4 (by omega)
      obtain ⟨t7, t8⟩ := sh_pow h0 rfl t3 t5 t6
      refine ⟨24 + L, ?_, by omega, t7, fun _ => ⟨t8, by omega⟩⟩
      rw [if_pos c1, if_pos c2, e, if_pos (by omega), if_pos (by omega), t1, w64 (x := (L : Int)) (by omega) (by omega), w64 (by omega) (by omega)]
      exact congrArg some (by omega)
    · have e : x / 65536 % 256 = x / 2 ^ 16 := by omega
      obtain ⟨L, t1, t2, t3, t4⟩ := tab_len' (x := x / 2 ^ 16) (by omega) (by omega)
      obtain ⟨t5, t6⟩ := t4 (by omega)
      obtain ⟨t7, t8⟩ := sh_pow h0 rfl t3 t5 t6
      refine ⟨16 + L, ?_, by omega, t7, fun _ => ⟨t8, by omega⟩⟩
      rw [if_pos c1, if_neg c2, e, if_pos (by omega), if_pos (by omega), t1, w64 (x := (L : Int)) (by omega) (by omega), w64 (by omega) (by omega)]
      exact congrArg some (by omega)
  · by_cases c2 : x ≥ 256
    · have e : x / 256 % 256 = x / 2 ^ 8 := by omega
      obtain ⟨L, t1, t2, t3, t4⟩ := tab_len' (x := x / 2 ^ 8) (by omega) (by omega)
      obtain ⟨t5, t6⟩ := t4 (by omega)
      obtain ⟨t7, t8⟩ := sh_pow h0 rfl t3 t5 t6
      refine ⟨8 + L, ?_, by omega, t7, fun _ => ⟨t8, by omega⟩⟩
      rw [if_neg c1, if_pos c2, e, if_pos (by omega), if_pos (by omega), t1, w64 (x := (L : Int)) (by omega) (by omega), w64 (by omega) (by omega)]
      exact congrArg some (by omega)
    · have e : x % 256 = x := by omega
      obtain ⟨L, t1, t2, t3, t4⟩ := tab_len' (x := x) (by omega) (by omega)
      refine ⟨L, ?_, by omega, t3, t4⟩
      rw [if_neg c1, if_neg c2, e, if_pos (by omega), if_pos (by omega), t1, w64 (x := (L : Int)) (by omega) (by omega), w64 (by omega) (by omega)]
      exact congrArg some (by omega)
theorem lz32_sp {x : Int} (h0 : 0 ≤ x) (h1 : x < 4294967296) : ∃ L : Nat, bits_LeadingZeros32.f x = some ((32 - L : Nat) : Int) ∧ L ≤ 32 ∧ x < 2 ^ L ∧ (x ≠ 0 → 2 ^ (L - 1) ≤ x ∧ 1 ≤ L) := by
  obtain ⟨L, t1, t2, t3⟩ := len32_sp h0 h1
  refine ⟨L, ?_, t2, t3⟩
  unfold bits_LeadingZeros32.f
  rw [t1, Option.bind_some, w64 (by omega) (by omega)]
  exact congrArg some (by omega)
theorem WW_pow (w : Nat) : WW ^ w = 2 ^ (32 * w) := by rw [Int.pow_mul]; rfl
theorem pow_split (s : Nat) : (2 : Int) ^ s = WW ^ (s / 32) * 2 ^ (s % 32) := by
  rw [WW_pow, ← Int.pow_add]; congr 1; omega
theorem last_vl {a : List Int} (h : 0 < a.length) : vl WW a = vl WW (a.take (a.length - 1)) + rd a ((a.length : Int) - 1) * WW ^ (a.length - 1) := by
  have e := vl_take WW a (a.length - 1) (by omega)
  rw [Nat.sub_add_cancel h, List.take_length] at e
  rw [e]
  congr 2
  congr 1
  omega
theorem mag_Bits_sp {a : List Int} {n : Int} (hn : a.length < 68719476736) (ha : Can WW a n) : ∃ b : Nat, mag_Bits.f a = some (b : Int) ∧ b ≤ 32 * a.length ∧ (a.length = 0 → b = 0) ∧ (n ≠ 0 → 2 ^ (b - 1) ≤ n ∧ n < 2 ^ b ∧ 1 ≤ b ∧ 32 * (a.length - 1) < b) := by
  unfold mag_Bits.f
  by_cases c : a.length = 0
  · refine ⟨0, by rw [if_pos (by omega)]; rfl, by omega, fun _ => rfl, fun h => absurd ((ha.len_iff WW_pos).1 c) h⟩
  · have hx := dg_rd ha.1 ((a.length : Int) - 1) (by omega) (by omega)
    have hnz := ha.2.1.rd (by omega)
    rw [WW_eq] at hx
    obtain ⟨L, t1, t2, t3, t4⟩ := lz32_sp hx.1 hx.2
    obtain ⟨t5, t6⟩ := t4 hnz
    refine ⟨32 * a.length - (32 - L), ?_, by omega, fun h => absurd h c, fun _ => ?_⟩
    · rw [if_neg (by omega), w64 (x := (a.length : Int) - 1) (by omega) (by omega), if_pos (by omega), if_pos (by omega), t1, Option.bind_some, w64 (x := 32 * (a.length : Int)) (by omega) (by omega), w64 (by omega) (by omega)]
      congr 1
      omega
    · have lv := last_vl (a := a) (by omega)
      rw [ha.2.2] at lv
      have hd := ha.1.take (a.length - 1)
      have l0 := vl_nonneg WW_pos hd
      have l1 := vl_lt WW_pos hd
      rw [List.length_take, Nat.min_eq_left (by omega)] at l1
      have hP : (0 : Int) < WW ^ (a.length - 1) := pow_pos' WW_pos _
      generalize hr : rd a ((a.length : Int) - 1) = r at *
      have e1 : (2 : Int) ^ (32 * a.length - (32 - L)) = 2 ^ L * WW ^ (a.length - 1) := by rw [WW_pow, ← Int.pow_add]; congr 1; omega
      have e2 : (2 : Int) ^ (32 * a.length - (32 - L) - 1) = 2 ^ (L - 1) * WW ^ (a.length - 1) := by rw [WW_pow, ← Int.pow_add]; congr 1; omega
      have m1 : (r + 1) * WW ^ (a.length - 1) ≤ 2 ^ L * WW ^ (a.length - 1) := Int.mul_le_mul_of_nonneg_right (by omega) (by omega)
      have m2 : 2 ^ (L - 1) * WW ^ (a.length - 1) ≤ r * WW ^ (a.length - 1) := Int.mul_le_mul_of_nonneg_right t5 (by omega)
      rw [Int.add_mul] at m1
      rw [e1, e2]
      exact ⟨by omega, by omega, by omega, by omega⟩
theorem shl_p {x : Int} {p : Nat} (hp : p < 32) (hx : 0 ≤ x ∧ x < 4294967296) : shl .u64 (IntKind.u64.wrap x) (p : Int) = x * 2 ^ p ∧ 0 ≤ x * 2 ^ p ∧ x * 2 ^ p < 4294967296 * 2 ^ p ∧ (2 : Int) ^ p ≤ 2147483648 ∧ (1 : Int) ≤ 2 ^ p := by
  have h1 : (1 : Int) ≤ 2 ^ p := by have : (0 : Int) < 2 ^ p := Int.pow_pos (by decide); omega
  have h2 : (2 : Int) ^ p ≤ 2 ^ 31 := by
    have : 2 ^ p ≤ 2 ^ 31 := Nat.pow_le_pow_right (by decide) (by omega)
    exact_mod_cast this
  have h3 : x * 2 ^ p < 4294967296 * 2 ^ p := Int.mul_lt_mul_of_pos_right hx.2 (by omega)
  have h4 : 0 ≤ x * 2 ^ p := Int.mul_nonneg hx.1 (by omega)
  refine ⟨?_, h4, h3, by omega, h1⟩
  have hm : min p IntKind.u64.bits = p := by
    have : IntKind.u64.bits = 64 := rfl
    omega
  unfold shl
  rw [Int.toNat_natCast, hm, u64 (x := x) (by omega) (by omega), u64 h4 (by omega)]
theorem alg_shl {vo P old lo hi va x M W T Q : Int} (h : vo + old * P = va * M * T) (hy : lo + W * hi = x * M) (hP : P = T * Q) : (vo + (old + lo) * P) + hi * (W * P) = (va + x * Q) * M * T := by grind
theorem or_shl {x old : Int} {p : Nat} (hp : p < 32) (hx : 0 ≤ x ∧ x < 4294967296) (ho : 0 ≤ old ∧ old < 2 ^ p) : Go.bits .or .u32 old (x * 2 ^ p % 4294967296) = old + x * 2 ^ p % 4294967296 := by
  obtain ⟨_, h1, h2, h3, h4⟩ := shl_p hp hx
  have hd : x * 2 ^ p % 4294967296 % 2 ^ p = 0 := by
    have hdv : (2 : Int) ^ p ∣ 4294967296 := by
      have : (4294967296 : Int) = 2 ^ p * 2 ^ (32 - p) := by rw [← Int.pow_add, show p + (32 - p) = 32 by omega]; rfl
      rw [this]; exact Int.dvd_mul_right _ _
    rw [Int.emod_emod_of_dvd _ hdv, Int.mul_emod_left]
  rw [or_comm', bits_join .u32 32 (by decide) (fun n h0 h1 => by rw [IntKind.wrap_u32]; omega) p _ _ (by omega) hd (by omega) ho.1 ho.2 (by omega)]
  omega
theorem or_shl_lt {x old : Int} {p : Nat} (hp : p < 32) (hx : 0 ≤ x ∧ x < 4294967296) (ho : 0 ≤ old ∧ old < 2 ^ p) : old + x * 2 ^ p % 4294967296 < 4294967296 := by
  have h := (bits_within .or .u32 old (x * 2 ^ p % 4294967296)).2
  rw [or_shl hp hx ho] at h
  have e : IntKind.u32.max = 4294967295 := rfl
  rw [e] at h
  exact Int.lt_of_le_of_lt h (by decide)
theorem mag_Shl_ev {a : List Int} {w p : Nat} (hn : a.length + w < 68719476736) (hp : p < 32) (ha : Dg WW a) (d : Nat) : ∀ (i : Nat) (o : List Int), a.length - i = d → i ≤ a.length → o.length = a.length + w + 1 → Dg WW o → vl WW (o.take (i + w + 1)) = vl WW (a.take i) * 2 ^ p * WW ^ w → rd o ((i + w : Nat) : Int) < 2 ^ p →
    ∃ r, Ev (fun k => mag_Shl.l0 k (w : Int) (p : Int) o a (a.length : Int) (i : Int)) r ∧ Can WW r (vl WW a * (WW ^ w * 2 ^ p)) ∧ r.length ≤ a.length + w + 1 := by
  induction d with
  | zero =>
    intro i o h1 h2 h3 h4 h5 h6
    have ei : i = a.length := by omega
    subst ei
    rw [← h3, List.take_length, List.take_length] at h5
    obtain ⟨r, r1, r2, r3⟩ := mag_Trim_sp (l := o) (by omega) h4
    rw [h5] at r2
    refine ⟨r, ?_, by rw [Int.mul_comm (WW ^ w), ← Int.mul_assoc]; exact r2, by omega⟩
    refine Ev.step (fun k => by rw [mag_Shl.l0]) ?_
    exact evn (by omega) (Ev.bind r1 (evs _))
  | succ d ih =>
    intro i o h1 h2 h3 h4 h5 h6
    have hx := dg_rd ha (i : Int) (by omega) (by omega)
    have ho := dg_rd h4 ((i + w : Nat) : Int) (by omega) (by omega)
    rw [WW_eq] at hx ho
    obtain ⟨s2, s3, s4, s5⟩ := (shl_p hp hx).2
    have hy1 : rd a (i : Int) * 2 ^ p % 4294967296 + WW * (rd a (i : Int) * 2 ^ p / 4294967296) = rd a (i : Int) * 2 ^ p := by rw [WW_eq]; exact Int.emod_add_mul_ediv _ _
    have hhi0 : 0 ≤ rd a (i : Int) * 2 ^ p / 4294967296 := by omega
    have hhi1 : rd a (i : Int) * 2 ^ p / 4294967296 < 2 ^ p := Int.ediv_lt_of_lt_mul (by omega) (by omega)
    have hdv := or_shl_lt hp hx ⟨ho.1, h6⟩
    generalize hlo : rd a (i : Int) * 2 ^ p % 4294967296 = lo at *
    generalize hhi : rd a (i : Int) * 2 ^ p / 4294967296 = hi at *
    have hlo0 : 0 ≤ lo := by omega
    have d1 : Dg WW (o.set (i + w) (rd o ((i + w : Nat) : Int) + lo)) := h4.set _ (by omega) (by rw [WW_eq]; omega)
    obtain ⟨r, r1, r2⟩ := ih (i + 1) ((o.set (i + w) (rd o ((i + w : Nat) : Int) + lo)).set (i + w + 1) hi) (by omega) (by omega) (by simpa using h3)
      (d1.set _ hhi0 (by rw [WW_eq]; omega))
      (by
        rw [show i + 1 + w + 1 = i + w + 1 + 1 by omega, vl_set _ _ _ _ (by simp; omega), vl_set _ _ _ _ (by omega), vl_take WW a i (by omega), Int.pow_succ, Int.mul_comm (WW ^ (i + w)) WW]
        rw [vl_take WW o (i + w) (by omega)] at h5
        exact alg_shl h5 hy1 (by rw [Int.pow_add, Int.mul_comm]))
      (by
        rw [show ((i + 1 + w : Nat) : Int) = ((i + w + 1 : Nat) : Int) by omega]
        have := rd_set_eq (o.set (i + w) (rd o ((i + w : Nat) : Int) + lo)) ((i + w + 1 : Nat) : Int) hi (by simp; omega)
        rw [Int.toNat_natCast] at this
        rw [this]
        exact hhi1)
    refine ⟨r, ?_, r2⟩
    refine Ev.step (fun k => by rw [mag_Shl.l0]) ?_
    have e2 : hi % 4294967296 = hi := by omega
    rw [show (i : Int) + (w : Int) = ((i + w : Nat) : Int) by omega, w64 (x := ((i + w : Nat) : Int)) (by omega) (by omega), wsucc (i := i + w) (by omega), wsucc (i := i) (by omega), Int.toNat_natCast, Int.toNat_natCast, (shl_p hp hx).1, hlo, hhi, e2]
    have so := or_shl hp hx ⟨ho.1, h6⟩
    rw [hlo] at so
    rw [so]
    clear so
    exact evp (by omega) (evp (by omega) (evp (by omega) (evp (by omega) (evp (by omega) (evp (by omega) (evp (by omega) (evp (by omega) r1)))))))
theorem mag_Shl_sp {a : List Int} {n : Int} (s : Nat) (hn : a.length + s < 68719476736) (ha : Can WW a n) : ∃ r, Ev (fun k => mag_Shl.f k a (s : Int)) r ∧ Can WW r (n * 2 ^ s) ∧ r.length ≤ a.length + s / 32 + 1 := by
  unfold mag_Shl.f
  by_cases c : a.length = 0
  · refine ⟨[], evp (by omega) (evs _), ?_, by simp⟩
    rw [(ha.len_iff WW_pos).1 c, Int.zero_mul]
    exact Can.zero _
  · obtain ⟨r, r1, r2, r3⟩ := mag_Shl_ev (a := a) (w := s / 32) (p := s % 32) (by omega) (by omega) ha.1 a.length 0 (List.replicate (a.length + s / 32 + 1) 0) (by omega) (by omega) (by simp) (Dg.rep WW_pos _)
      (by rw [List.take_replicate, vl_rep, List.take_zero, vl]; simp)
      (by
        have h1 : (0 : Int) < 2 ^ (s % 32) := Int.pow_pos (by decide)
        have h2 : rd (List.replicate (a.length + s / 32 + 1) (0 : Int)) ((0 + s / 32 : Nat) : Int) = 0 := by
          rw [rd_lt _ _ (by simp; omega)]; simp
        rw [h2]; exact h1)
    rw [← pow_split, ha.2.2] at r2
    refine ⟨r, ?_, r2, r3⟩
    have e1 : wrap64 (Int.tdiv (s : Int) 32) = ((s / 32 : Nat) : Int) := by rw [tdiv_nn (by omega), w64 (by omega) (by omega)]; omega
    have e2 : IntKind.u64.wrap (Int.tmod (s : Int) 32) = ((s % 32 : Nat) : Int) := by rw [tmod_nn (by omega), u64 (by omega) (by omega)]; omega
    have e3 : wrap64 (wrap64 ((a.length : Int) + ((s / 32 : Nat) : Int)) + 1) = ((a.length + s / 32 + 1 : Nat) : Int) := by rw [w64 (x := (a.length : Int) + ((s / 32 : Nat) : Int)) (by omega) (by omega), w64 (by omega) (by omega)]; omega
    rw [e1, e2, e3, Int.toNat_natCast]
    exact evn (by omega) (evp (by omega) (evp (by omega) r1))
end Go.Proofs.YtjimdhlmeebjeaaGreat.P
end
section
namespace Go.Proofs.YtjimdhlmeebjeaaGreat.P
open Go.RowKit Go.Proofs.YtjimdhlmeebjeaaGreatW.PrintWords Go.Proofs.YtjimdhlmeebjeaaGreatW.PrintLast Go.Proofs.YtjimdhlmeebjeaaGreatW.PrintMore
set_option linter.unusedVariables false
theorem two_pos (p : Nat) : (0 : Int) < 2 ^ p := Int.pow_pos (by decide)
theorem shr_p {x : Int} {p : Nat} (hp : p < 32) : shr .u64 x (p : Int) = x / 2 ^ p := by
  have hm : min p IntKind.u64.bits = p := by
    have : IntKind.u64.bits = 64 := rfl
    omega
  unfold shr
  rw [Int.toNat_natCast, hm]
theorem WW_split {p : Nat} (hp : p < 32) : WW = 2 ^ p * 2 ^ (32 - p) := by rw [← Int.pow_add, show p + (32 - p) = 32 by omega]; rfl
theorem shr_word {x T t : Int} {p : Nat} (hp : p < 32) (hx : 0 ≤ x ∧ x < WW) (ht : 0 ≤ t ∧ t < WW) (hT : ∃ u, 0 ≤ u ∧ T = t + WW * u) :
    (t * WW + x) / 2 ^ p % WW + WW * (T / 2 ^ p) = (x + WW * T) / 2 ^ p ∧ 0 ≤ (t * WW + x) / 2 ^ p % WW ∧ (t * WW + x) / 2 ^ p % WW < WW := by
  obtain ⟨u, hu, hT⟩ := hT
  have hM := two_pos p
  have hW := WW_split hp
  have hK := two_pos (32 - p)
  have hWp := WW_pos
  have hWe := WW_eq
  generalize hMM : (2 : Int) ^ p = M at *
  generalize hKK : (2 : Int) ^ (32 - p) = K at *
  refine ⟨?_, Int.emod_nonneg _ (by omega), Int.emod_lt_of_pos _ hWp⟩
  have d1 := Int.mul_ediv_add_emod t M
  have r0 := Int.emod_nonneg t (show M ≠ 0 by omega)
  have r1 := Int.emod_lt_of_pos t hM
  generalize hq : t / M = q at *
  generalize hr : t % M = r at *
  clear hq hr
  have a1 : t * WW + x = (x + WW * r) + M * (WW * q) := by rw [← d1]; grind
  have a2 : T = r + M * (q + K * u) := by rw [hT, ← d1, hW]; grind
  have a3 : x + WW * T = (x + WW * r) + M * (WW * (q + K * u)) := by rw [a2]; grind
  have lo : 0 ≤ x + WW * r := by
    have := Int.mul_nonneg (Int.le_of_lt hWp) r0
    omega
  have hi : x + WW * r < M * WW := by
    have m : WW * (r + 1) ≤ WW * M := Int.mul_le_mul_of_nonneg_left (by omega) (by omega)
    rw [Int.mul_add, Int.mul_comm WW M] at m
    omega
  rw [a1, a3, Int.add_mul_ediv_left _ _ (by omega), Int.add_mul_ediv_left _ _ (by omega)]
  have e2 : T / M = q + K * u := by rw [a2, Int.add_mul_ediv_left _ _ (by omega), Int.ediv_eq_zero_of_lt r0 r1]; omega
  rw [e2]
  have b0 : 0 ≤ (x + WW * r) / M := Int.ediv_nonneg lo (by omega)
  have b1 : (x + WW * r) / M < WW := Int.ediv_lt_of_lt_mul hM (by rw [Int.mul_comm WW M]; exact hi)
  rw [Int.add_mul_emod_self_left, Int.emod_eq_of_lt b0 b1]
theorem alg_shr {vo P d T W V T0 : Int} (h : vo + P * T0 = V) (h2 : d + W * T = T0) : (vo + d * P) + (P * W) * T = V := by grind
theorem vl_dropd (a : List Int) (ha : Dg WW a) (i : Nat) : ∃ t, 0 ≤ t ∧ t < WW ∧ (∃ u, 0 ≤ u ∧ vl WW (a.drop i) = t + WW * u) ∧ (i < a.length → t = rd a (i : Int)) ∧ (a.length ≤ i → t = 0) := by
  by_cases c : i < a.length
  · have hx := dg_rd ha (i : Int) (by omega) (by omega)
    refine ⟨rd a (i : Int), hx.1, hx.2, ⟨vl WW (a.drop (i + 1)), vl_nonneg WW_pos (ha.drop _), by rw [drop_rd a i c, vl]⟩, fun _ => rfl, fun h => by omega⟩
  · exact ⟨0, by decide, by decide, ⟨0, by decide, by rw [List.drop_eq_nil_of_le (by omega), vl]; rfl⟩, fun h => absurd h c, fun _ => rfl⟩
theorem mag_Shr_ev {a : List Int} {w p m : Nat} (hn : a.length < 68719476736) (hw : w + m = a.length) (hp : p < 32) (ha : Dg WW a) (d : Nat) : ∀ (i : Nat) (o : List Int), m - i = d → i ≤ m → o.length = m → Dg WW (o.take i) → vl WW (o.take i) + WW ^ i * (vl WW (a.drop (i + w)) / 2 ^ p) = vl WW (a.drop w) / 2 ^ p →
    ∃ r, Ev (fun k => mag_Shr.l0 k a (w : Int) (p : Int) o (m : Int) (i : Int)) r ∧ Can WW r (vl WW (a.drop w) / 2 ^ p) ∧ r.length ≤ m := by
  induction d with
  | zero =>
    intro i o h1 h2 h3 h4 h5
    have ei : i = m := by omega
    subst ei
    rw [List.drop_eq_nil_of_le (by omega), vl, Int.zero_ediv, Int.mul_zero, Int.add_zero, ← h3, List.take_length] at h5
    rw [← h3, List.take_length] at h4
    obtain ⟨r, r1, r2, r3⟩ := mag_Trim_sp (l := o) (by omega) h4
    rw [h5] at r2
    refine ⟨r, ?_, r2, by omega⟩
    refine Ev.step (fun k => by rw [mag_Shr.l0]) ?_
    exact evn (by omega) (Ev.bind r1 (evs _))
  | succ d ih =>
    intro i o h1 h2 h3 h4 h5
    have hx := dg_rd ha ((i + w : Nat) : Int) (by omega) (by omega)
    obtain ⟨t, t0, t1, t2, t3, t4⟩ := vl_dropd a ha (i + w + 1)
    obtain ⟨s1, s2, s3⟩ := shr_word hp hx ⟨t0, t1⟩ t2
    rw [drop_rd a (i + w) (by omega), vl] at h5
    obtain ⟨r, r1, r2⟩ := ih (i + 1) (o.set i ((t * WW + rd a ((i + w : Nat) : Int)) / 2 ^ p % WW)) (by omega) (by omega) (by simpa using h3)
      (Dg.take_set (by omega) h4 s2 s3)
      (by
        rw [vl_set _ _ _ _ (by omega), show i + 1 + w = i + w + 1 by omega, Int.pow_succ]
        exact alg_shr h5 s1)
    refine ⟨r, ?_, r2⟩
    refine Ev.step (fun k => by rw [mag_Shr.l0]) ?_
    rw [WW_eq] at hx t1
    rw [show (i : Int) + (w : Int) = ((i + w : Nat) : Int) by omega, w64 (x := ((i + w : Nat) : Int)) (by omega) (by omega), wsucc (i := i + w) (by omega), wsucc (i := i) (by omega), Int.toNat_natCast]
    refine evp (by omega) (evp (by omega) (evp (by omega) ?_))
    by_cases c : i + w + 1 < a.length
    · have e := t3 c
      rw [← e, u64 (x := t) (by omega) (by omega), u64 (x := rd a ((i + w : Nat) : Int)) (by omega) (by omega), u64 (x := t * 4294967296) (by omega) (by omega), or64' ⟨t0, t1⟩ hx, shr_p (x := t * 4294967296 + rd a ((i + w : Nat) : Int)) hp]
      exact evp (by omega) (evp (by omega) (evp (by omega) (evp (by omega) (evp (by omega) r1))))
    · have e := t4 (by omega)
      subst e
      rw [Int.zero_mul, Int.zero_add] at r1
      rw [u64 (x := rd a ((i + w : Nat) : Int)) (by omega) (by omega), shr_p (x := rd a ((i + w : Nat) : Int)) hp]
      exact evn (by omega) (evp (by omega) (evp (by omega) (evp (by omega) r1)))
theorem can_shr {a : List Int} {n : Int} (ha : Can WW a n) (s : Nat) : (s / 32 < a.length → n / 2 ^ s = vl WW (a.drop (s / 32)) / 2 ^ (s % 32)) ∧ (a.length ≤ s / 32 → n / 2 ^ s = 0) := by
  have hP := pow_pos' WW_pos (s / 32)
  have hM := two_pos (s % 32)
  rw [pow_split s]
  constructor
  · intro h
    have hd := vl_drop WW a (s / 32) (by omega)
    rw [ha.2.2] at hd
    have l0 := vl_nonneg WW_pos (ha.1.take (s / 32))
    have l1 := vl_lt WW_pos (ha.1.take (s / 32))
    rw [List.length_take, Nat.min_eq_left (by omega)] at l1
    rw [hd, ← Int.ediv_ediv_of_nonneg (by omega), Int.add_mul_ediv_left _ _ (by omega), Int.ediv_eq_zero_of_lt l0 l1, Int.zero_add]
  · intro h
    have h1 := ha.lt WW_pos
    have h2 := pow_le (B := WW) (by decide) h
    refine Int.ediv_eq_zero_of_lt (ha.nonneg WW_pos) ?_
    have h3 : WW ^ (s / 32) * 1 ≤ WW ^ (s / 32) * 2 ^ (s % 32) := Int.mul_le_mul_of_nonneg_left (by omega) (by omega)
    omega
theorem mag_Shr_sp {a : List Int} {n : Int} (s : Nat) (hn : a.length < 68719476736) (hs : s < 68719476736) (ha : Can WW a n) : ∃ r, Ev (fun k => mag_Shr.f k a (s : Int)) r ∧ Can WW r (n / 2 ^ s) ∧ r.length ≤ a.length := by
  obtain ⟨c1, c2⟩ := can_shr ha s
  have e1 : wrap64 (Int.tdiv (s : Int) 32) = ((s / 32 : Nat) : Int) := by rw [tdiv_nn (by omega), w64 (by omega) (by omega)]; omega
  have e2 : IntKind.u64.wrap (Int.tmod (s : Int) 32) = ((s % 32 : Nat) : Int) := by rw [tmod_nn (by omega), u64 (by omega) (by omega)]; omega
  unfold mag_Shr.f
  rw [e1, e2]
  clear e1 e2
  by_cases c : a.length ≤ s / 32
  · refine ⟨[], evp (by omega) (evs _), ?_, by simp⟩
    rw [c2 c]
    exact Can.zero _
  · obtain ⟨r, r1, r2, r3⟩ := mag_Shr_ev (a := a) (w := s / 32) (p := s % 32) (m := a.length - s / 32) hn (by omega) (by omega) ha.1 (a.length - s / 32) 0 (List.replicate (a.length - s / 32) 0) (by omega) (by omega) (by simp) (by rw [List.take_zero]; exact Dg.nil _)
      (by rw [List.take_zero, vl, Int.pow_zero, Nat.zero_add]; omega)
    rw [← c1 (by omega)] at r2
    refine ⟨r, ?_, r2, by omega⟩
    rw [show (a.length : Int) - ((s / 32 : Nat) : Int) = ((a.length - s / 32 : Nat) : Int) by omega, w64 (x := ((a.length - s / 32 : Nat) : Int)) (by omega) (by omega), Int.toNat_natCast]
    refine evn (by omega) (evp (by omega) (evp (by omega) (evb rfl ?_)))
    rw [List.length_replicate]
    exact r1
end Go.Proofs.YtjimdhlmeebjeaaGreat.P
end
section
namespace Go.Proofs.YtjimdhlmeebjeaaGreat.P
open Go.RowKit Go.Proofs.YtjimdhlmeebjeaaGreatW.PrintWords Go.Proofs.YtjimdhlmeebjeaaGreatW.PrintLast Go.Proofs.YtjimdhlmeebjeaaGreatW.PrintMore
set_option linter.unusedVariables false
theorem sub_step {o c b g x : Int} (ho : 0 ≤ o ∧ o < 4294967296) (hc : 0 ≤ c ∧ c < 4294967296) (hb : 0 ≤ b ∧ b ≤ 1) (hg : 0 ≤ g ∧ g < 4294967296) (hx : 0 ≤ x ∧ x < 4294967296) :
    ∃ v c' b', IntKind.u64.wrap (c + IntKind.u64.wrap (g * IntKind.u64.wrap x)) / 4294967296 = c' ∧ IntKind.u64.wrap (IntKind.u64.wrap (IntKind.u64.wrap o - IntKind.u64.wrap (c + IntKind.u64.wrap (g * IntKind.u64.wrap x)) % 4294967296) - b) % 4294967296 = v ∧ IntKind.u64.wrap (IntKind.u64.wrap (IntKind.u64.wrap o - IntKind.u64.wrap (c + IntKind.u64.wrap (g * IntKind.u64.wrap x)) % 4294967296) - b) / 9223372036854775808 = b' ∧ v - 4294967296 * (c' + b') = o - (c + b) - g * x ∧ 0 ≤ v ∧ v < 4294967296 ∧ 0 ≤ c' ∧ c' < 4294967296 ∧ 0 ≤ b' ∧ b' ≤ 1 := by
  have hm := mul_bd hg hx
  rw [u64 (x := x) (by omega) (by omega), u64 (x := g * x) (by omega) (by omega), u64 (x := c + g * x) (by omega) (by omega), u64 (x := o) (by omega) (by omega), IntKind.wrap_u64, IntKind.wrap_u64]
  generalize g * x = t at *
  refine ⟨_, _, _, rfl, rfl, rfl, ?_, ?_, ?_, ?_, ?_, ?_, ?_⟩ <;> omega
theorem sub_last {o c b : Int} (ho : 0 ≤ o ∧ o < 4294967296) (hc : 0 ≤ c ∧ c < 4294967296) (hb : 0 ≤ b ∧ b ≤ 1) :
    ∃ v f, IntKind.u64.wrap (IntKind.u64.wrap (IntKind.u64.wrap o - c) - b) % 4294967296 = v ∧ (IntKind.u64.wrap (IntKind.u64.wrap (IntKind.u64.wrap o - c) - b) / 9223372036854775808 == 1) = f ∧ 0 ≤ v ∧ v < 4294967296 ∧ v = o - (c + b) + (if f = true then 4294967296 else 0) := by
  rw [u64 (x := o) (by omega) (by omega), IntKind.wrap_u64, IntKind.wrap_u64]
  refine ⟨_, _, rfl, rfl, by omega, by omega, ?_⟩
  simp only [beq_iff_eq]
  split <;> omega
theorem alg_s {vo c b P vu g vv v c' b' o x W : Int} (h : vo - (c + b) * P = vu - g * vv) (h2 : v - W * (c' + b') = o - (c + b) - g * x) : (vo + v * P) - (c' + b') * (W * P) = (vu + o * P) - g * (vv + x * P) := by grind
theorem alg_s2 {vo c b P vu g vv v o e W : Int} (h : vo - (c + b) * P = vu - g * vv) (h2 : v = o - (c + b) + e) : vo + v * P = (vu + o * P) - g * vv + e * P := by grind
theorem mag_subtract_ev {u v : List Int} {g : Int} (hl : u.length = v.length + 1) (hn : v.length < 68719476736) (hu : Dg WW u) (hv : Dg WW v) (hg : 0 ≤ g ∧ g < 4294967296) (d : Nat) : ∀ (i : Nat) (o : List Int) (c b : Int), v.length - i = d → i ≤ v.length → o.length = u.length → Dg WW (o.take i) → o.drop i = u.drop i → 0 ≤ c → c < 4294967296 → 0 ≤ b → b ≤ 1 → vl WW (o.take i) - (c + b) * WW ^ i = vl WW (u.take i) - g * vl WW (v.take i) →
    ∃ f r, Ev (fun k => mag_subtract.l0 k o v g c b v (v.length : Int) (i : Int)) (f, r) ∧ Dg WW r ∧ r.length = u.length ∧ vl WW r = vl WW u - g * vl WW v + (if f = true then WW ^ u.length else 0) := by
  induction d with
  | zero =>
    intro i o c b h1 h2 h3 h4 h5 h6 h7 h8 h9 h10
    have ei : i = v.length := by omega
    subst ei
    have ho := dg_rd hu (v.length : Int) (by omega) (by omega)
    rw [WW_eq] at ho
    obtain ⟨z, f, e1, e2, z0, z1, z2⟩ := sub_last ho ⟨h6, h7⟩ ⟨h8, h9⟩
    have er := rd_of_drop u o v.length h5 (by omega) h3
    refine ⟨f, o.set v.length z, ?_, ?_, by simpa using h3, ?_⟩
    · refine Ev.step (fun k => by rw [mag_subtract.l0]) ?_
      refine evn (by omega) (evp (by omega) (evp (by omega) ?_))
      rw [er, e1, e2, Int.toNat_natCast]
      exact evs _
    · have := Dg.take_set (l := o) (i := v.length) (v := z) (by omega) h4 z0 (by rw [WW_eq]; exact z1)
      rw [List.take_of_length_le (by simp; omega)] at this
      exact this
    · have e3 := vl_set WW o v.length z (by omega)
      rw [List.take_of_length_le (by simp; omega)] at e3
      have e4 := vl_take WW u v.length (by omega)
      rw [List.take_of_length_le (by omega)] at e4
      rw [List.take_length] at h10
      rw [e3, e4, alg_s2 (W := WW) h10 z2, hl, Int.pow_succ, Int.mul_comm (WW ^ v.length) WW]
      congr 1
      cases f
      · simp
      · simp
  | succ d ih =>
    intro i o c b h1 h2 h3 h4 h5 h6 h7 h8 h9 h10
    have ho := dg_rd hu (i : Int) (by omega) (by omega)
    have hx := dg_rd hv (i : Int) (by omega) (by omega)
    rw [WW_eq] at ho hx
    obtain ⟨z, c', b', e1, e2, e3, e4, z0, z1, c0, c1, b0, b1⟩ := sub_step ho ⟨h6, h7⟩ ⟨h8, h9⟩ hg hx
    have er := rd_of_drop u o i h5 (by omega) h3
    obtain ⟨f, r, r1, r2⟩ := ih (i + 1) (o.set i z) c' b' (by omega) (by omega) (by simpa using h3) (Dg.take_set (by omega) h4 z0 (by rw [WW_eq]; exact z1))
      (by rw [drop_set_ge]; exact drop_tail u o i h5) c0 c1 b0 b1
      (by
        rw [vl_set _ _ _ _ (by omega), vl_take WW u i (by omega), vl_take WW v i (by omega), Int.pow_succ, Int.mul_comm (WW ^ i) WW]
        exact alg_s h10 e4)
    refine ⟨f, r, ?_, r2⟩
    refine Ev.step (fun k => by rw [mag_subtract.l0]) ?_
    rw [er, e1, e2, e3, wsucc (i := i) (by omega), Int.toNat_natCast]
    clear e1 e2 e3
    exact evp (by omega) (evp (by omega) (evp (by omega) (evp (by omega) r1)))
theorem mag_subtract_sp {u v : List Int} {g : Int} (hl : u.length = v.length + 1) (hn : v.length < 68719476736) (hu : Dg WW u) (hv : Dg WW v) (hg : 0 ≤ g ∧ g < 4294967296) :
    ∃ f r, Ev (fun k => mag_subtract.f k u v g) (f, r) ∧ Dg WW r ∧ r.length = u.length ∧ vl WW r = vl WW u - g * vl WW v + (if f = true then WW ^ u.length else 0) := by
  obtain ⟨f, r, r1, r2⟩ := mag_subtract_ev hl hn hu hv hg v.length 0 u 0 0 (by omega) (by omega) rfl (by rw [List.take_zero]; exact Dg.nil _) rfl (by omega) (by omega) (by omega) (by omega) (by simp [vl])
  exact ⟨f, r, by unfold mag_subtract.f; exact r1, r2⟩
theorem alg_r {vo c P vu vv v c' o x W : Int} (h : vo + c * P = vu + vv) (h2 : v + W * c' = c + (o + x)) : (vo + v * P) + c' * (W * P) = (vu + o * P) + (vv + x * P) := by grind
theorem alg_r2 {vo c P vu vv v o e W : Int} (h : vo + c * P = vu + vv) (h2 : v + W * e = o + c) : vo + v * P + e * (W * P) = (vu + o * P) + vv := by grind
theorem mag_restore_ev {u v : List Int} (hl : u.length = v.length + 1) (hn : v.length < 68719476736) (hu : Dg WW u) (hv : Dg WW v) (d : Nat) : ∀ (i : Nat) (o : List Int) (c : Int), v.length - i = d → i ≤ v.length → o.length = u.length → Dg WW (o.take i) → o.drop i = u.drop i → 0 ≤ c → c ≤ 1 → vl WW (o.take i) + c * WW ^ i = vl WW (u.take i) + vl WW (v.take i) →
    ∃ r e, Ev (fun k => mag_restore.l0 k o v c v (v.length : Int) (i : Int)) r ∧ Dg WW r ∧ r.length = u.length ∧ vl WW r + e * WW ^ u.length = vl WW u + vl WW v ∧ 0 ≤ e := by
  induction d with
  | zero =>
    intro i o c h1 h2 h3 h4 h5 h6 h7 h8
    have ei : i = v.length := by omega
    subst ei
    have ho := dg_rd hu (v.length : Int) (by omega) (by omega)
    rw [WW_eq] at ho
    have er := rd_of_drop u o v.length h5 (by omega) h3
    have ev : (rd u (v.length : Int) + c) % 4294967296 + WW * ((rd u (v.length : Int) + c) / 4294967296) = rd u (v.length : Int) + c := by rw [WW_eq]; exact Int.emod_add_mul_ediv _ _
    refine ⟨o.set v.length ((rd u (v.length : Int) + c) % 4294967296), (rd u (v.length : Int) + c) / 4294967296, ?_, ?_, by simpa using h3, ?_, by omega⟩
    · have ec : c % 4294967296 = c := by omega
      refine Ev.step (fun k => by rw [mag_restore.l0]) ?_
      refine evn (by omega) (evp (by omega) (evp (by omega) ?_))
      rw [er, ec, Int.toNat_natCast]
      exact evs _
    · have := Dg.take_set (l := o) (i := v.length) (v := (rd u (v.length : Int) + c) % 4294967296) (by omega) h4 (by omega) (by rw [WW_eq]; omega)
      rw [List.take_of_length_le (by simp; omega)] at this
      exact this
    · have e3 := vl_set WW o v.length ((rd u (v.length : Int) + c) % 4294967296) (by omega)
      rw [List.take_of_length_le (by simp; omega)] at e3
      have e4 := vl_take WW u v.length (by omega)
      rw [List.take_of_length_le (by omega)] at e4
      rw [List.take_length] at h8
      rw [e3, e4, hl, Int.pow_succ, Int.mul_comm (WW ^ v.length) WW]
      exact alg_r2 h8 ev
  | succ d ih =>
    intro i o c h1 h2 h3 h4 h5 h6 h7 h8
    have ho := dg_rd hu (i : Int) (by omega) (by omega)
    have hx := dg_rd hv (i : Int) (by omega) (by omega)
    rw [WW_eq] at ho hx
    have er := rd_of_drop u o i h5 (by omega) h3
    have ev : (c + (rd u (i : Int) + rd v (i : Int))) % 4294967296 + WW * ((c + (rd u (i : Int) + rd v (i : Int))) / 4294967296) = c + (rd u (i : Int) + rd v (i : Int)) := by rw [WW_eq]; exact Int.emod_add_mul_ediv _ _
    obtain ⟨r, e, r1, r2⟩ := ih (i + 1) (o.set i ((c + (rd u (i : Int) + rd v (i : Int))) % 4294967296)) ((c + (rd u (i : Int) + rd v (i : Int))) / 4294967296) (by omega) (by omega) (by simpa using h3) (Dg.take_set (by omega) h4 (by omega) (by rw [WW_eq]; omega))
      (by rw [drop_set_ge]; exact drop_tail u o i h5) (by omega) (by omega)
      (by
        rw [vl_set _ _ _ _ (by omega), vl_take WW u i (by omega), vl_take WW v i (by omega), Int.pow_succ, Int.mul_comm (WW ^ i) WW]
        exact alg_r h8 ev)
    refine ⟨r, e, ?_, r2⟩
    refine Ev.step (fun k => by rw [mag_restore.l0]) ?_
    rw [er, u64 (x := rd u (i : Int)) (by omega) (by omega), u64 (x := rd v (i : Int)) (by omega) (by omega), u64 (x := rd u (i : Int) + rd v (i : Int)) (by omega) (by omega), u64 (x := c + (rd u (i : Int) + rd v (i : Int))) (by omega) (by omega), wsucc (i := i) (by omega), Int.toNat_natCast]
    exact evp (by omega) (evp (by omega) (evp (by omega) (evp (by omega) r1)))
theorem mag_restore_sp {u v : List Int} (hl : u.length = v.length + 1) (hn : v.length < 68719476736) (hu : Dg WW u) (hv : Dg WW v) :
    ∃ r e, Ev (fun k => mag_restore.f k u v) r ∧ Dg WW r ∧ r.length = u.length ∧ vl WW r + e * WW ^ u.length = vl WW u + vl WW v ∧ 0 ≤ e := by
  obtain ⟨r, e, r1, r2⟩ := mag_restore_ev hl hn hu hv v.length 0 u 0 (by omega) (by omega) rfl (by rw [List.take_zero]; exact Dg.nil _) rfl (by omega) (by omega) (by simp [vl])
  exact ⟨r, e, by unfold mag_restore.f; exact r1, r2⟩
end Go.Proofs.YtjimdhlmeebjeaaGreat.P
end
section
namespace Go.Proofs.YtjimdhlmeebjeaaGreat.P
open Go.RowKit Go.Proofs.YtjimdhlmeebjeaaGreatW.PrintWords Go.Proofs.YtjimdhlmeebjeaaGreatW.PrintLast Go.Proofs.YtjimdhlmeebjeaaGreatW.PrintMore
set_option linter.unusedVariables false
theorem kd_gt {X M P top next x0 high g rest qd W : Int} (hM : (top * W + next) * P ≤ M) (hX : X < (high * W + x0 + 1) * P) (hP : 0 < P) (hq : qd * M ≤ X) (h : g * top + rest = high) (hd : 0 ≤ g) (hM0 : 0 ≤ M) (hne : g * next > rest * W + x0) : qd < g := by
  rcases Int.lt_or_le qd g with h1 | h1
  · exact h1
  · exfalso
    have a1 : g * M ≤ qd * M := Int.mul_le_mul_of_nonneg_right h1 hM0
    have a2 : g * ((top * W + next) * P) ≤ g * M := Int.mul_le_mul_of_nonneg_left hM hd
    have a3 : g * ((top * W + next) * P) = (g * (top * W + next)) * P := by grind
    have a4 : (g * (top * W + next)) * P < (high * W + x0 + 1) * P := by omega
    have a5 := Int.lt_of_mul_lt_mul_right a4 (Int.le_of_lt hP)
    have a6 : g * (top * W + next) = (high - rest) * W + g * next := by rw [← h]; grind
    have a7 : (high - rest) * W = high * W - rest * W := by grind
    omega
theorem kd_le {X M P top next x0 high g rest qd W : Int} (hM : M ≤ (top * W + next + 1) * P) (hM2 : W * P ≤ M) (hX : (high * W + x0) * P ≤ X) (hP : 0 < P) (hq : X < (qd + 1) * M) (h : g * top + rest = high) (hd : 0 ≤ g) (hg : g < W) (hE : g * next ≤ rest * W + x0) : g ≤ qd + 1 := by
  rcases Int.lt_or_le (qd + 1) g with h1 | h1
  · exfalso
    have hM0 : 0 ≤ M := by
      have : 0 ≤ W * P := Int.mul_nonneg (by omega) (by omega)
      omega
    have a1 : (qd + 1) * M ≤ (g - 1) * M := Int.mul_le_mul_of_nonneg_right (by omega) hM0
    have a2 : g * M ≤ g * ((top * W + next + 1) * P) := Int.mul_le_mul_of_nonneg_left hM hd
    have a3 : g * ((top * W + next + 1) * P) = (g * (top * W + next)) * P + g * P := by grind
    have a6 : g * (top * W + next) = (high - rest) * W + g * next := by rw [← h]; grind
    have a7 : (high - rest) * W = high * W - rest * W := by grind
    have a8 : (g * (top * W + next)) * P ≤ (high * W + x0) * P := Int.mul_le_mul_of_nonneg_right (by omega) (by omega)
    have a9 : g * P ≤ W * P := Int.mul_le_mul_of_nonneg_right (by omega) (by omega)
    have a10 : (g - 1) * M = g * M - M := by grind
    omega
  · exact h1
theorem dm_guess {q v u : List Int} {s : Int} {nn j : Nat} {X M P top next x0 high qd : Int} (hn : j + nn < 68719476736) (hnn : 2 ≤ nn) (hju : j + nn < u.length) (hx0 : rd u ((j + nn - 2 : Nat) : Int) = x0)
    (t0 : 0 < top) (t1 : top < 4294967296) (n0 : 0 ≤ next) (n1 : next < 4294967296) (b0 : 0 ≤ x0) (b1 : x0 < 4294967296)
    (hMl : (top * WW + next) * P ≤ M) (hMu : M ≤ (top * WW + next + 1) * P) (hM2 : WW * P ≤ M) (hXl : (high * WW + x0) * P ≤ X) (hXu : X < (high * WW + x0 + 1) * P) (hP : 0 < P) (hq : qd * M ≤ X) (hq2 : X < (qd + 1) * M) (hqW : qd < 4294967296) (hq0 : 0 ≤ qd) (c : Nat) :
    ∀ g rest : Int, (g - qd).toNat = c → g * top + rest = high → 0 ≤ rest → rest < 4294967296 → qd ≤ g → g ≤ 4294967297 → (g = 4294967297 → rest + top < 4294967296) →
    ∃ g', qd ≤ g' ∧ g' ≤ qd + 1 ∧ g' < 4294967296 ∧ ∀ R, Ev (fun k => mag_DivMod.j3 k q s v u (nn : Int) top next (j : Int) g') R → Ev (fun k => mag_DivMod.l1 k q s v u (nn : Int) top next (j : Int) g rest) R := by
  have hM0 : 0 ≤ M := by
    have : 0 ≤ WW * P := Int.mul_nonneg (by decide) (by omega)
    omega
  induction c with
  | zero =>
    intro g rest h1 h2 h3 h4 h5 h6 h7
    have eg : g = qd := by omega
    subst eg
    have hE : ¬ (g * next > rest * WW + x0) := fun hne => by
      have := kd_gt hMl hXu hP hq h2 (by omega) hM0 hne
      omega
    refine ⟨g, by omega, by omega, hqW, fun R hR => ?_⟩
    have hp := mul_bd (x := g) (y := next) ⟨by omega, hqW⟩ ⟨n0, n1⟩
    refine Ev.step (fun k => by rw [mag_DivMod.l1]) ?_
    rw [WW_eq] at hE
    rw [show (j : Int) + (nn : Int) = ((j + nn : Nat) : Int) by omega, w64 (x := ((j + nn : Nat) : Int)) (by omega) (by omega), show ((j + nn : Nat) : Int) - 2 = ((j + nn - 2 : Nat) : Int) by omega, w64 (x := ((j + nn - 2 : Nat) : Int)) (by omega) (by omega), hx0, u64 (x := g * next) (by omega) (by omega), u64 (x := rest * 4294967296) (by omega) (by omega), u64 (x := x0) (by omega) (by omega), or64 ⟨h3, h4⟩ ⟨b0, b1⟩, decide_eq_false hE]
    refine evn (by omega) (evp (by omega) (evp (by omega) ?_))
    refine Ev.step (fun k => by rw [mag_DivMod.j2]) ?_
    exact evn (by simp) hR
  | succ c ih =>
    intro g rest h1 h2 h3 h4 h5 h6 h7
    have hgq : qd < g := by omega
    have down : (g ≥ 4294967296 ∨ g * next > rest * WW + x0) → ∃ g', qd ≤ g' ∧ g' ≤ qd + 1 ∧ g' < 4294967296 ∧ ∀ R, Ev (fun k => mag_DivMod.j3 k q s v u (nn : Int) top next (j : Int) g') R → Ev (fun k => mag_DivMod.j2 k q s v u (nn : Int) top next (j : Int) g rest true) R := by
      intro hc
      by_cases c2 : rest + top ≥ 4294967296
      · have e : (g - 1) * top + (rest + top) = high := by rw [← h2]; grind
        have hp := mul_bd (x := g - 1) (y := next) ⟨by omega, by omega⟩ ⟨n0, n1⟩
        have hE : (g - 1) * next ≤ (rest + top) * WW + x0 := by rw [WW_eq]; omega
        refine ⟨g - 1, by omega, kd_le hMu hM2 hXl hP hq2 e (by omega) (by rw [WW_eq]; omega) hE, by omega, fun R hR => ?_⟩
        refine Ev.step (fun k => by rw [mag_DivMod.j2]) ?_
        rw [u64 (x := rest + top) (by omega) (by omega), u64 (x := g - 1) (by omega) (by omega)]
        exact evp rfl (evp c2 hR)
      · have e : (g - 1) * top + (rest + top) = high := by rw [← h2]; grind
        obtain ⟨g', g1, g2, g3, g4⟩ := ih (g - 1) (rest + top) (by omega) e (by omega) (by omega) (by omega) (by omega) (by omega)
        refine ⟨g', g1, g2, g3, fun R hR => ?_⟩
        refine Ev.step (fun k => by rw [mag_DivMod.j2]) ?_
        rw [u64 (x := rest + top) (by omega) (by omega), u64 (x := g - 1) (by omega) (by omega)]
        exact evp rfl (evn c2 (g4 R hR))
    by_cases c1 : g ≥ 4294967296
    · obtain ⟨g', g1, g2, g3, g4⟩ := down (.inl c1)
      refine ⟨g', g1, g2, g3, fun R hR => ?_⟩
      refine Ev.step (fun k => by rw [mag_DivMod.l1]) ?_
      exact evp c1 (g4 R hR)
    · have hp := mul_bd (x := g) (y := next) ⟨by omega, by omega⟩ ⟨n0, n1⟩
      by_cases c2 : g * next > rest * WW + x0
      · obtain ⟨g', g1, g2, g3, g4⟩ := down (.inr c2)
        refine ⟨g', g1, g2, g3, fun R hR => ?_⟩
        refine Ev.step (fun k => by rw [mag_DivMod.l1]) ?_
        rw [WW_eq] at c2
        rw [show (j : Int) + (nn : Int) = ((j + nn : Nat) : Int) by omega, w64 (x := ((j + nn : Nat) : Int)) (by omega) (by omega), show ((j + nn : Nat) : Int) - 2 = ((j + nn - 2 : Nat) : Int) by omega, w64 (x := ((j + nn - 2 : Nat) : Int)) (by omega) (by omega), hx0, u64 (x := g * next) (by omega) (by omega), u64 (x := rest * 4294967296) (by omega) (by omega), u64 (x := x0) (by omega) (by omega), or64 ⟨h3, h4⟩ ⟨b0, b1⟩, decide_eq_true c2]
        exact evn (by omega) (evp (by omega) (evp (by omega) (g4 R hR)))
      · have hle := kd_le hMu hM2 hXl hP hq2 h2 (by omega) (by rw [WW_eq]; omega) (by omega)
        refine ⟨g, by omega, hle, by omega, fun R hR => ?_⟩
        refine Ev.step (fun k => by rw [mag_DivMod.l1]) ?_
        rw [WW_eq] at c2
        rw [show (j : Int) + (nn : Int) = ((j + nn : Nat) : Int) by omega, w64 (x := ((j + nn : Nat) : Int)) (by omega) (by omega), show ((j + nn : Nat) : Int) - 2 = ((j + nn - 2 : Nat) : Int) by omega, w64 (x := ((j + nn - 2 : Nat) : Int)) (by omega) (by omega), hx0, u64 (x := g * next) (by omega) (by omega), u64 (x := rest * 4294967296) (by omega) (by omega), u64 (x := x0) (by omega) (by omega), or64 ⟨h3, h4⟩ ⟨b0, b1⟩, decide_eq_false c2]
        refine evn (by omega) (evp (by omega) (evp (by omega) ?_))
        refine Ev.step (fun k => by rw [mag_DivMod.j2]) ?_
        exact evn (by simp) hR
end Go.Proofs.YtjimdhlmeebjeaaGreat.P
end
section
namespace Go.Proofs.YtjimdhlmeebjeaaGreat.P
open Go.RowKit Go.Proofs.YtjimdhlmeebjeaaGreatW.PrintWords Go.Proofs.YtjimdhlmeebjeaaGreatW.PrintLast Go.Proofs.YtjimdhlmeebjeaaGreatW.PrintMore
set_option linter.unusedVariables false
theorem seg_len (u : List Int) (j n : Nat) (h : j + n ≤ u.length) : ((u.take (j + n)).drop j).length = n := by
  rw [List.length_drop, List.length_take, Nat.min_eq_left h]; omega
theorem seg_put (u r : List Int) (j n : Nat) (h : j + n ≤ u.length) (hr : r.length = n) :
    ((u.take j ++ r ++ u.drop (j + n)).take (j + n)).drop j = r ∧ (u.take j ++ r ++ u.drop (j + n)).take j = u.take j ∧ (u.take j ++ r ++ u.drop (j + n)).drop (j + n) = u.drop (j + n) ∧ (u.take j ++ r ++ u.drop (j + n)).drop j = r ++ u.drop (j + n) ∧ (u.take j ++ r ++ u.drop (j + n)).length = u.length := by
  have l1 : (u.take j).length = j := by rw [List.length_take, Nat.min_eq_left (by omega)]
  have l2 : (u.take j ++ r).length = j + n := by rw [List.length_append, l1, hr]
  refine ⟨?_, ?_, ?_, ?_, ?_⟩
  · rw [List.take_left' l2, List.drop_left' l1]
  · rw [List.append_assoc, List.take_left' l1]
  · rw [List.drop_left' l2]
  · rw [List.append_assoc, List.drop_left' l1]
  · rw [List.length_append, l2, List.length_drop]; omega
theorem seg_vl (u : List Int) (j n : Nat) (h : j + n ≤ u.length) : vl WW (u.drop j) = vl WW ((u.take (j + n)).drop j) + WW ^ n * vl WW (u.drop (j + n)) := by
  have e := vl_drop WW (u.drop j) n (by rw [List.length_drop]; omega)
  rw [List.drop_drop] at e
  rw [e, List.drop_take, Nat.add_sub_cancel_left]
theorem dm_digit {q v u : List Int} {s top next : Int} {nn j : Nat} {X M qd g : Int} (hn : j + nn < 68719476736) (hv : v.length = nn) (dv : Dg WW v) (eM : vl WW v = M) (hju : j + nn + 1 ≤ u.length) (hjq : j < q.length) (du : Dg WW u)
    (eX : vl WW (u.drop j) = X) (hz : vl WW (u.drop (j + (nn + 1))) = 0) (hq : qd * M ≤ X) (hq2 : X < (qd + 1) * M) (hqW : qd < 4294967296) (hq0 : 0 ≤ qd) (g1 : qd ≤ g) (g2 : g ≤ qd + 1) (g3 : g < 4294967296) :
    ∃ u2, u2.length = u.length ∧ Dg WW u2 ∧ u2.take j = u.take j ∧ vl WW (u2.drop j) = X - qd * M ∧ ∀ R, Ev (fun k => mag_DivMod.l0 k (q.set j qd) s v u2 (nn : Int) top next ((j : Int) - 1)) R → Ev (fun k => mag_DivMod.j3 k q s v u (nn : Int) top next (j : Int) g) R := by
  have sl := seg_len u j (nn + 1) hju
  have sv := seg_vl u j (nn + 1) hju
  rw [hz, Int.mul_zero, Int.add_zero, eX] at sv
  have ds : Dg WW ((u.take (j + (nn + 1))).drop j) := (du.take _).drop _
  obtain ⟨f, r, r1, r2, r3, r4⟩ := mag_subtract_sp (u := (u.take (j + (nn + 1))).drop j) (v := v) (g := g) (by omega) (by omega) ds dv ⟨by omega, g3⟩
  rw [sl] at r3 r4
  rw [← sv, eM] at r4
  have b0 := vl_nonneg WW_pos r2
  have b1 := vl_lt WW_pos r2
  rw [r3] at b1
  obtain ⟨p1, p2, p3, p4, p5⟩ := seg_put u r j (nn + 1) hju r3
  have hb2 : ((((j + nn : Nat) : Int) + 1)).toNat = j + (nn + 1) := by omega
  have hsub : Ev (fun k => mag_subtractAt.f k u (j : Int) (((j + nn : Nat) : Int) + 1) v g) (f, u.take j ++ r ++ u.drop (j + (nn + 1))) := by
    unfold mag_subtractAt.f
    rw [hb2, Int.toNat_natCast]
    exact Ev.bind r1 (evs _)
  have eqd : qd % 4294967296 = qd := by omega
  have hM1 : (qd + 1) * M = qd * M + M := by grind
  have dall : ∀ z : List Int, Dg WW z → Dg WW (u.take j ++ z ++ u.drop (j + (nn + 1))) := fun z hz => ((du.take _).append hz).append (du.drop _)
  cases f
  · have eg : g = qd := by
      rcases Int.lt_or_le qd g with c | c
      · exfalso
        have : g = qd + 1 := by omega
        subst this
        simp only [Bool.false_eq_true, if_false] at r4
        omega
      · omega
    subst eg
    simp only [Bool.false_eq_true, if_false, Int.add_zero] at r4
    refine ⟨_, p5, dall r r2, p2, ?_, fun R hR => ?_⟩
    · rw [p4, vl_append, hz, Int.mul_zero, Int.add_zero, r4]
    · refine Ev.step (fun k => by rw [mag_DivMod.j3]) ?_
      rw [show (j : Int) + (nn : Int) = ((j + nn : Nat) : Int) by omega, w64 (x := ((j + nn : Nat) : Int)) (by omega) (by omega), w64 (x := ((j + nn : Nat) : Int) + 1) (by omega) (by omega), w64 (x := (j : Int) - 1) (by omega) (by omega), eqd, Int.toNat_natCast]
      exact evp (by omega) (evp (by omega) (evp (by omega) (Ev.bind hsub (evn (by simp) (evp (by omega) hR)))))
  · simp only [if_true] at r4
    have eg : g = qd + 1 := by
      rcases Int.lt_or_le qd g with c | c
      · omega
      · exfalso
        have : g = qd := by omega
        subst this
        omega
    subst eg
    rw [hM1] at r4
    obtain ⟨z, e, z1, z2, z3, z4, z5⟩ := mag_restore_sp (u := r) (v := v) (by omega) (by omega) r2 dv
    rw [r3, eM, r4] at z4
    rw [r3] at z3
    have c0 := vl_nonneg WW_pos z2
    have c1 := vl_lt WW_pos z2
    rw [z3] at c1
    have hMW : M < WW ^ (nn + 1) := by
      have h1 := vl_lt WW_pos dv
      have h2 := pow_le (B := WW) (by decide) (show nn ≤ nn + 1 by omega)
      rw [hv, eM] at h1
      omega
    have hz3 : vl WW z = X - qd * M := by
      generalize WW ^ (nn + 1) = Q at *
      have he : e = 1 := by
        rcases Int.lt_or_le e 1 with c | c
        · have : e = 0 := by omega
          subst this
          omega
        · rcases Int.lt_or_le 1 e with c' | c'
          · have : 2 * Q ≤ e * Q := Int.mul_le_mul_of_nonneg_right (by omega) (by omega)
            omega
          · omega
      subst he
      omega
    obtain ⟨t1, t2, t3, t4, t5⟩ := seg_put u z j (nn + 1) hju z3
    have hres : Ev (fun k => mag_restoreAt.f k (u.take j ++ r ++ u.drop (j + (nn + 1))) (j : Int) (((j + nn : Nat) : Int) + 1) v) (u.take j ++ z ++ u.drop (j + (nn + 1))) := by
      unfold mag_restoreAt.f
      rw [hb2, Int.toNat_natCast, p1, p2, p3]
      exact Ev.bind z1 (evs _)
    refine ⟨_, t5, dall z z2, t2, ?_, fun R hR => ?_⟩
    · rw [t4, vl_append, hz, Int.mul_zero, Int.add_zero, hz3]
    · refine Ev.step (fun k => by rw [mag_DivMod.j3]) ?_
      rw [show (j : Int) + (nn : Int) = ((j + nn : Nat) : Int) by omega, w64 (x := ((j + nn : Nat) : Int)) (by omega) (by omega), w64 (x := ((j + nn : Nat) : Int) + 1) (by omega) (by omega), w64 (x := (j : Int) - 1) (by omega) (by omega), show qd + 1 - 1 = qd by omega, u64 (x := qd) (by omega) (by omega), eqd, Int.toNat_natCast]
      exact evp (by omega) (evp (by omega) (evp (by omega) (Ev.bind hsub (evp rfl (Ev.bind hres (evp (by omega) hR))))))
theorem three {u : List Int} (du : Dg WW u) (j nn : Nat) (hnn : 2 ≤ nn) (hju : j + nn + 1 ≤ u.length) (hz : vl WW (u.drop (j + (nn + 1))) = 0) :
    ∃ low, 0 ≤ low ∧ low < WW ^ (nn - 2) ∧ vl WW (u.drop j) = low + (((rd u ((j + nn : Nat) : Int)) * WW + rd u ((j + nn - 1 : Nat) : Int)) * WW + rd u ((j + nn - 2 : Nat) : Int)) * WW ^ (nn - 2) := by
  have e := vl_drop WW (u.drop j) (nn - 2) (by rw [List.length_drop]; omega)
  rw [List.drop_drop] at e
  have d1 : Dg WW ((u.drop j).take (nn - 2)) := (du.drop _).take _
  have l1 := vl_lt WW_pos d1
  rw [List.length_take, List.length_drop, Nat.min_eq_left (by omega)] at l1
  refine ⟨_, vl_nonneg WW_pos d1, l1, ?_⟩
  rw [e, drop_rd u (j + (nn - 2)) (by omega), vl, drop_rd u (j + (nn - 2) + 1) (by omega), vl, drop_rd u (j + (nn - 2) + 1 + 1) (by omega), vl]
  rw [show j + (nn - 2) + 1 + 1 + 1 = j + (nn + 1) by omega, hz, show j + (nn - 2) + 1 + 1 = j + nn by omega, show j + (nn - 2) + 1 = j + nn - 1 by omega, show j + (nn - 2) = j + nn - 2 by omega]
  grind
theorem two {v : List Int} (dv : Dg WW v) (nn : Nat) (hnn : 2 ≤ nn) (hv : v.length = nn) :
    ∃ low, 0 ≤ low ∧ low < WW ^ (nn - 2) ∧ vl WW v = low + (rd v ((nn - 1 : Nat) : Int) * WW + rd v ((nn - 2 : Nat) : Int)) * WW ^ (nn - 2) := by
  have e := vl_drop WW v (nn - 2) (by omega)
  have d1 : Dg WW (v.take (nn - 2)) := dv.take _
  have l1 := vl_lt WW_pos d1
  rw [List.length_take, Nat.min_eq_left (by omega)] at l1
  refine ⟨_, vl_nonneg WW_pos d1, l1, ?_⟩
  rw [e, drop_rd v (nn - 2) (by omega), vl, drop_rd v (nn - 2 + 1) (by omega), vl]
  rw [show nn - 2 + 1 + 1 = nn by omega, List.drop_eq_nil_of_le (by omega), vl, show nn - 2 + 1 = nn - 1 by omega]
  grind
end Go.Proofs.YtjimdhlmeebjeaaGreat.P
end
section
namespace Go.Proofs.YtjimdhlmeebjeaaGreat.P
open Go.RowKit Go.Proofs.YtjimdhlmeebjeaaGreatW.PrintWords Go.Proofs.YtjimdhlmeebjeaaGreatW.PrintLast Go.Proofs.YtjimdhlmeebjeaaGreatW.PrintMore
set_option linter.unusedVariables false
theorem alg_inv {ut Pj X M W qd vq N vu : Int} (h1 : vu = ut + Pj * X) (h2 : vu + M * ((Pj * W) * vq) = N) : (ut + Pj * (X - qd * M)) + M * (Pj * (qd + W * vq)) = N := by grind
theorem lt_of_mul' {a b P : Int} (h : a * P < b * P) (hP : 0 < P) : a < b := Int.lt_of_mul_lt_mul_right h (Int.le_of_lt hP)
theorem dm_l0 {v : List Int} {s nn : Nat} {M top next N : Int} (hs : s < 32) (hn2 : 2 ≤ nn) (hv : v.length = nn) (dv : Dg WW v) (eM : vl WW v = M) (et : rd v ((nn - 1 : Nat) : Int) = top) (en : rd v ((nn - 2 : Nat) : Int) = next) (ht : 2147483648 ≤ top) (d : Nat) :
    ∀ (i : Nat) (q u : List Int), i = d → i + nn ≤ u.length → u.length < 68719476736 → q.length = u.length - nn → Dg WW u → Dg WW (q.drop i) → vl WW (u.drop i) < M → vl WW u + M * (WW ^ i * vl WW (q.drop i)) = N →
    ∃ q' r', Ev (fun k => mag_DivMod.l0 k q (s : Int) v u (nn : Int) top next ((i : Int) - 1)) (q', r') ∧ Can WW q' (N / M) ∧ Can WW r' (N % M / 2 ^ s) := by
  have w0 : (0 : Int) < WW ^ (nn - 2) := pow_pos' WW_pos _
  have bt := dg_rd dv ((nn - 1 : Nat) : Int) (by omega) (by omega)
  have bn := dg_rd dv ((nn - 2 : Nat) : Int) (by omega) (by omega)
  rw [et, WW_eq] at bt
  rw [en, WW_eq] at bn
  obtain ⟨ml, ml0, ml1, hMe⟩ := two dv nn hn2 hv
  rw [et, en, eM] at hMe
  generalize hP : WW ^ (nn - 2) = P at *
  have hMl : (top * WW + next) * P ≤ M := by omega
  have hMu' : M < (top * WW + next + 1) * P := by rw [Int.add_mul _ 1 P, Int.one_mul]; omega
  have hM2 : WW * P ≤ M := by
    have : WW * P ≤ (top * WW + next) * P := Int.mul_le_mul_of_nonneg_right (by rw [WW_eq]; omega) (by omega)
    omega
  have hMpos : 0 < M := by
    have : 0 < WW * P := Int.mul_pos WW_pos w0
    omega
  induction d with
  | zero =>
    rintro i q u rfl h1 h2 h3 h4 h5 h6 h7
    rw [List.drop_zero] at h5 h6 h7
    rw [Int.pow_zero, Int.one_mul] at h7
    have b0 := vl_nonneg WW_pos h4
    have e1 : N / M = vl WW q := by rw [← h7, Int.add_mul_ediv_left _ _ (by omega), Int.ediv_eq_zero_of_lt b0 h6, Int.zero_add]
    have e2 : N % M = vl WW u := by rw [← h7, Int.add_mul_emod_self_left, Int.emod_eq_of_lt b0 h6]
    obtain ⟨q', q1, q2, q3⟩ := mag_Trim_sp (l := q) (by omega) h5
    obtain ⟨x, x1, x2, x3⟩ := mag_Trim_sp (l := u) (by omega) h4
    obtain ⟨y, y1, y2, y3⟩ := mag_Shr_sp s (by omega) (by omega) x2
    refine ⟨q', y, ?_, by rw [e1]; exact q2, by rw [e2]; exact y2⟩
    refine Ev.step (fun k => by rw [mag_DivMod.l0]) ?_
    exact evn (by omega) (Ev.bind q1 (Ev.bind x1 (Ev.bind y1 (evs _))))
  | succ d ih =>
    rintro i q u rfl h1 h2 h3 h4 h5 h6 h7
    have u0 := dg_rd h4 (d : Int) (by omega) (by omega)
    have eX : vl WW (u.drop d) = rd u (d : Int) + WW * vl WW (u.drop (d + 1)) := by rw [drop_rd u d (by omega), vl]
    have nx := vl_nonneg WW_pos (h4.drop (d + 1))
    have hXM : vl WW (u.drop d) < WW * M := by
      have : WW * (vl WW (u.drop (d + 1)) + 1) ≤ WW * M := Int.mul_le_mul_of_nonneg_left (by omega) (by decide)
      rw [Int.mul_add, Int.mul_one] at this
      omega
    have hX0 := vl_nonneg WW_pos (h4.drop d)
    have hMW : M < WW ^ nn := by
      have := vl_lt WW_pos dv
      rw [hv, eM] at this
      exact this
    have hz : vl WW (u.drop (d + (nn + 1))) = 0 := by
      have sv := seg_vl u d (nn + 1) (by omega)
      have g0 := vl_nonneg WW_pos (h4.drop (d + (nn + 1)))
      have g1 := vl_nonneg WW_pos ((h4.take (d + (nn + 1))).drop d)
      rcases Int.lt_or_le 0 (vl WW (u.drop (d + (nn + 1)))) with c | c
      · exfalso
        have hp : (0 : Int) < WW ^ (nn + 1) := pow_pos' WW_pos _
        have a1 : WW ^ (nn + 1) * 1 ≤ WW ^ (nn + 1) * vl WW (u.drop (d + (nn + 1))) := Int.mul_le_mul_of_nonneg_left (by omega) (by omega)
        have a2 : WW * M < WW * WW ^ nn := Int.mul_lt_mul_of_pos_left hMW WW_pos
        rw [Int.pow_succ, Int.mul_comm (WW ^ nn) WW] at a1 sv
        omega
      · omega
    obtain ⟨lo, lo0, lo1, eZ⟩ := three h4 d nn hn2 (by omega) hz
    rw [hP] at eZ lo1
    have b2 := dg_rd h4 ((d + nn : Nat) : Int) (by omega) (by omega)
    have b1 := dg_rd h4 ((d + nn - 1 : Nat) : Int) (by omega) (by omega)
    have b0 := dg_rd h4 ((d + nn - 2 : Nat) : Int) (by omega) (by omega)
    rw [WW_eq] at b2 b1 b0
    have hut := vl_drop WW u d (by omega)
    generalize hX : vl WW (u.drop d) = X at *
    generalize hx2 : rd u ((d + nn : Nat) : Int) = x2 at *
    generalize hx1 : rd u ((d + nn - 1 : Nat) : Int) = x1 at *
    generalize hx0 : rd u ((d + nn - 2 : Nat) : Int) = x0 at *
    have hXl : ((x2 * WW + x1) * WW + x0) * P ≤ X := by omega
    have hXu : X < ((x2 * WW + x1) * WW + x0 + 1) * P := by rw [Int.add_mul _ 1 P, Int.one_mul]; omega
    have hq0 : 0 ≤ X / M := Int.ediv_nonneg hX0 (by omega)
    have hqd := Int.mul_ediv_add_emod X M
    have hqr := Int.emod_nonneg X (show M ≠ 0 by omega)
    have hqs := Int.emod_lt_of_pos X hMpos
    have hq : X / M * M ≤ X := by rw [Int.mul_comm]; omega
    have hq2 : X < (X / M + 1) * M := by rw [Int.add_mul, Int.one_mul, Int.mul_comm]; omega
    have hqW : X / M < 4294967296 := Int.ediv_lt_of_lt_mul hMpos (by rw [← WW_eq]; exact hXM)
    generalize hQ : X / M = qd at *
    have hhi : x2 * WW + x1 ≤ top * WW + next := by
      have a1 : ((x2 * WW + x1) * WW + x0) * P < (WW * (top * WW + next + 1)) * P := by
        have : WW * M < WW * ((top * WW + next + 1) * P) := Int.mul_lt_mul_of_pos_left hMu' WW_pos
        rw [Int.mul_assoc]
        omega
      have a2 := lt_of_mul' a1 w0
      rw [WW_eq] at a2 ⊢
      omega
    have hh0 : 0 ≤ x2 * WW + x1 := by rw [WW_eq]; omega
    have hor := or64 b2 b1
    rw [← WW_eq] at hor
    generalize hH : x2 * WW + x1 = high at *
    have d1 := Int.mul_ediv_add_emod high top
    have d2 := Int.emod_nonneg high (show top ≠ 0 by omega)
    have d3 := Int.emod_lt_of_pos high (show 0 < top by omega)
    have d0 : 0 ≤ high / top := Int.ediv_nonneg hh0 (by omega)
    have gq : qd ≤ high / top := by
      refine Int.le_ediv_of_mul_le (by omega) ?_
      have a1 : qd * ((top * WW + next) * P) ≤ qd * M := Int.mul_le_mul_of_nonneg_left hMl hq0
      have a2 : (qd * (top * WW + next)) * P < (high * WW + x0 + 1) * P := by rw [Int.mul_assoc]; omega
      have a3 := lt_of_mul' a2 w0
      have a4 : qd * (top * WW + next) = (qd * top) * WW + qd * next := by grind
      have a5 : 0 ≤ qd * next := Int.mul_nonneg hq0 bn.1
      rw [WW_eq] at a3 a4
      omega
    have gW : high / top ≤ 4294967297 ∧ (high / top = 4294967297 → high % top + top < 4294967296) := by
      have a1 : top * (high / top) ≤ top * WW + next := by omega
      constructor
      · rcases Int.lt_or_le 4294967297 (high / top) with c | c
        · exfalso
          have : top * 4294967298 ≤ top * (high / top) := Int.mul_le_mul_of_nonneg_left (by omega) (by omega)
          rw [WW_eq] at a1
          omega
        · exact c
      · intro c
        rw [c] at d1
        rw [WW_eq] at hhi
        omega
    obtain ⟨g, g1, g2, g3, g4⟩ := dm_guess (q := q) (v := v) (u := u) (s := (s : Int)) (nn := nn) (j := d) (X := X) (M := M) (P := P) (top := top) (next := next) (x0 := x0) (high := high) (qd := qd) (by omega) hn2 (by omega) hx0 (by omega) bt.2 bn.1 bn.2 b0.1 b0.2 hMl (by omega) hM2 hXl hXu w0 hq hq2 hqW hq0 _ (high / top) (high % top) rfl (by rw [Int.mul_comm]; exact d1) d2 (by omega) gq gW.1 gW.2
    obtain ⟨u2, v1, v2, v3, v4, v5⟩ := dm_digit (q := q) (v := v) (u := u) (s := (s : Int)) (top := top) (next := next) (nn := nn) (j := d) (X := X) (M := M) (qd := qd) (g := g) (by omega) hv dv eM (by omega) (by omega) h4 hX hz hq hq2 hqW hq0 g1 g2 g3
    have hu2 := vl_drop WW u2 d (by omega)
    rw [v3, v4] at hu2
    obtain ⟨q', r', e1, e2⟩ := ih d (q.set d qd) u2 rfl (by omega) (by omega) (by rw [List.length_set, v1]; exact h3) v2
      (by rw [drop_set_self _ _ _ (by omega)]; exact Dg.mk hq0 (by rw [WW_eq]; exact hqW) h5)
      (by rw [v4]; rw [Int.add_mul, Int.one_mul] at hq2; omega)
      (by
        rw [drop_set_self _ _ _ (by omega), vl, hu2]
        rw [Int.pow_succ] at h7
        exact alg_inv hut h7)
    refine ⟨q', r', ?_, e2⟩
    refine Ev.step (fun k => by rw [mag_DivMod.l0]) ?_
    have hgu : high / top < 18446744073709551616 := by omega
    have fin := g4 _ (v5 _ e1)
    rw [show (((d + 1 : Nat) : Int) - 1) = (d : Int) by omega, show (d : Int) + (nn : Int) = ((d + nn : Nat) : Int) by omega, w64 (x := ((d + nn : Nat) : Int)) (by omega) (by omega), show ((d + nn : Nat) : Int) - 1 = ((d + nn - 1 : Nat) : Int) by omega, w64 (x := ((d + nn - 1 : Nat) : Int)) (by omega) (by omega), hx2, hx1, u64 (x := x2) (by omega) (by omega), u64 (x := x1) (by omega) (by omega), u64 (x := x2 * 4294967296) (by omega) (by omega), ← WW_eq, hor, tdiv_nn hh0, tmod_nn hh0, u64 (x := high / top) d0 hgu]
    clear hor
    exact evp (by omega) (evp (by omega) (evp (by omega) (evp (by omega) (evp (by omega) (evn (by omega) fin)))))
end Go.Proofs.YtjimdhlmeebjeaaGreat.P
end
section
namespace Go.Proofs.YtjimdhlmeebjeaaGreat.P
open Go.RowKit Go.Proofs.YtjimdhlmeebjeaaGreatW.PrintWords Go.Proofs.YtjimdhlmeebjeaaGreatW.PrintLast Go.Proofs.YtjimdhlmeebjeaaGreatW.PrintMore
set_option linter.unusedVariables false
theorem cpy_zero {t : List Int} {n : Nat} (h : t.length ≤ n) (dt : Dg WW t) : (cpy (List.replicate n 0) t).length = n ∧ Dg WW (cpy (List.replicate n 0) t) ∧ vl WW (cpy (List.replicate n 0) t) = vl WW t := by
  have e : cpy (List.replicate n 0) t = t ++ List.replicate (n - t.length) 0 := by
    unfold cpy
    rw [List.length_replicate, Nat.min_eq_left h, List.take_length, List.drop_replicate]
  rw [e]
  refine ⟨by simp; omega, dt.append (Dg.rep WW_pos _), ?_⟩
  rw [vl_append, vl_rep, Int.mul_zero, Int.add_zero]
theorem two_le31 {s : Nat} (h : s ≤ 31) : (2 : Int) ^ s ≤ 2147483648 := by
  have h2 : (2 : Int) ^ s ≤ 2 ^ 31 := by
    have : 2 ^ s ≤ 2 ^ 31 := Nat.pow_le_pow_right (by decide) h
    exact_mod_cast this
  exact Int.le_trans h2 (by decide)
theorem normed {b : List Int} {m : Int} {L : Nat} (hb : Can WW b m) (hp : 0 < b.length) (h1 : rd b ((b.length : Int) - 1) < 2 ^ L) (h2 : 2 ^ (L - 1) ≤ rd b ((b.length : Int) - 1)) (hL : 1 ≤ L) (hL2 : L ≤ 32) :
    m * 2 ^ (32 - L) < WW ^ b.length ∧ 2147483648 * WW ^ (b.length - 1) ≤ m * 2 ^ (32 - L) := by
  have lv := last_vl (a := b) hp
  rw [hb.2.2] at lv
  have hd := hb.1.take (b.length - 1)
  have l0 := vl_nonneg WW_pos hd
  have l1 := vl_lt WW_pos hd
  rw [List.length_take, Nat.min_eq_left (by omega)] at l1
  have hP : (0 : Int) < WW ^ (b.length - 1) := pow_pos' WW_pos _
  have hs := two_pos (32 - L)
  have e1 : WW ^ b.length = (2 ^ L * WW ^ (b.length - 1)) * 2 ^ (32 - L) := by
    have : b.length = (b.length - 1) + 1 := by omega
    rw [this, Int.pow_succ, Nat.add_sub_cancel, Int.mul_comm (2 ^ L), Int.mul_assoc, ← Int.pow_add, show L + (32 - L) = 32 by omega]; rfl
  have e2 : 2147483648 * WW ^ (b.length - 1) = (2 ^ (L - 1) * WW ^ (b.length - 1)) * 2 ^ (32 - L) := by
    rw [Int.mul_comm (2 ^ (L - 1)), Int.mul_assoc, ← Int.pow_add, show L - 1 + (32 - L) = 31 by omega, Int.mul_comm]; rfl
  generalize rd b ((b.length : Int) - 1) = x at *
  have m1 : (x + 1) * WW ^ (b.length - 1) ≤ 2 ^ L * WW ^ (b.length - 1) := Int.mul_le_mul_of_nonneg_right (by omega) (by omega)
  have m2 : 2 ^ (L - 1) * WW ^ (b.length - 1) ≤ x * WW ^ (b.length - 1) := Int.mul_le_mul_of_nonneg_right h2 (by omega)
  rw [Int.add_mul] at m1
  rw [e1, e2]
  exact ⟨Int.mul_lt_mul_of_pos_right (by omega) hs, Int.mul_le_mul_of_nonneg_right (by omega) (by omega)⟩
theorem mag_DivMod_sp {a b : List Int} {n m : Int} (hn : a.length < 17179869184) (ha : Can WW a n) (hb : Can WW b m) (hm : 0 < m) :
    ∃ q r, Ev (fun k => mag_DivMod.f k a b) (q, r) ∧ Can WW q (n / m) ∧ Can WW r (n % m) := by
  have n0 := ha.nonneg WW_pos
  have lb : 0 < b.length := by
    rcases Nat.eq_zero_or_pos b.length with c | c
    · have := (hb.len_iff WW_pos).1 c
      omega
    · exact c
  have hc := mag_Cmp_sp (by omega) ha hb
  by_cases c1 : n < m
  · have e : cmpi n m = -1 := by unfold cmpi; rw [if_pos c1]
    rw [e] at hc
    refine ⟨[], a, ?_, ?_, ?_⟩
    · unfold mag_DivMod.f
      refine Ev.bind hc (evp (by omega) (evp (by simp; omega) ?_))
      exact evs _
    · rw [Int.ediv_eq_zero_of_lt n0 c1]; exact Can.zero _
    · rw [Int.emod_eq_of_lt n0 c1]; exact ha
  · have hcm : ¬ cmpi n m < 0 := by unfold cmpi; rw [if_neg c1]; split <;> omega
    have hba : b.length ≤ a.length := can_len_le ha hb (by omega)
    have bx := dg_rd hb.1 ((b.length : Int) - 1) (by omega) (by omega)
    have bz := hb.2.1.rd lb
    rw [WW_eq] at bx
    by_cases c2 : b.length = 1
    · have e1 : m = rd b 0 := by
        have := last_vl (a := b) lb
        rw [hb.2.2, c2] at this
        simpa [vl] using this
      rw [c2] at bx
      have bx' : 0 ≤ m ∧ m < 4294967296 := by rw [e1]; exact bx
      obtain ⟨q, q1, q2, q3⟩ := mag_divWord_sp (by omega) ha (K := m) ⟨by omega, bx'.2⟩
      have r0 := Int.emod_nonneg n (show m ≠ 0 by omega)
      have r1 := Int.emod_lt_of_pos n hm
      obtain ⟨r, r2, r3⟩ := mag_From_sp (a := n % m) r0 (by omega)
      refine ⟨q, r, ?_, q2, r3⟩
      unfold mag_DivMod.f
      refine Ev.bind hc (evn hcm (evp (by omega) (evp (by omega) ?_)))
      rw [← e1]
      refine Ev.bind q1 ?_
      rw [u64 (x := n % m) (by omega) (by omega)]
      exact Ev.bind r2 (evs _)
    · obtain ⟨L, z1, z2, z3, z4⟩ := lz32_sp bx.1 bx.2
      obtain ⟨z5, z6⟩ := z4 bz
      obtain ⟨M1, M2⟩ := normed hb lb z3 z5 z6 z2
      have hs := two_pos (32 - L)
      have hs31 := two_le31 (s := 32 - L) (by omega)
      obtain ⟨v, v1, v2, v3⟩ := mag_Shl_sp (32 - L) (by omega) hb
      obtain ⟨t, t1, t2, t3⟩ := mag_Shl_sp (32 - L) (by omega) ha
      have hvl : v.length = b.length := by
        have h1 := v2.len_le WW_one M1
        have h2 : WW ^ (b.length - 1) ≤ m * 2 ^ (32 - L) := by
          have : (0 : Int) < WW ^ (b.length - 1) := pow_pos' WW_pos _
          omega
        have h3 := v2.len_ge WW_one h2
        omega
      have htop : 2147483648 ≤ rd v ((b.length - 1 : Nat) : Int) := by
        have lv := last_vl (a := v) (by omega)
        rw [v2.2.2, hvl, show (b.length : Int) - 1 = ((b.length - 1 : Nat) : Int) by omega] at lv
        have hd := v2.1.take (b.length - 1)
        have l1 := vl_lt WW_pos hd
        rw [List.length_take, Nat.min_eq_left (by omega)] at l1
        have hP : (0 : Int) < WW ^ (b.length - 1) := pow_pos' WW_pos _
        have h3 : 2147483648 * WW ^ (b.length - 1) < (rd v ((b.length - 1 : Nat) : Int) + 1) * WW ^ (b.length - 1) := by
          rw [Int.add_mul]; omega
        have := lt_of_mul' h3 hP
        omega
      obtain ⟨u1, u2, u3⟩ := cpy_zero (t := t) (n := a.length + 1) (by omega) t2.1
      generalize hu : cpy (List.replicate (a.length + 1) 0) t = u at *
      rw [t2.2.2] at u3
      have htl := dg_rd v2.1 ((b.length - 1 : Nat) : Int) (by omega) (by omega)
      have hnl := dg_rd v2.1 ((b.length - 2 : Nat) : Int) (by omega) (by omega)
      rw [WW_eq] at htl hnl
      have hlow : vl WW (u.drop (a.length + 1 - b.length)) < m * 2 ^ (32 - L) := by
        rcases Int.lt_or_le (vl WW (u.drop (a.length + 1 - b.length))) (m * 2 ^ (32 - L)) with c | c
        · exact c
        · exfalso
          have hd := vl_drop WW u (a.length + 1 - b.length) (by omega)
          rw [u3] at hd
          have l0 := vl_nonneg WW_pos (u2.take (a.length + 1 - b.length))
          have hPi : (0 : Int) < WW ^ (a.length + 1 - b.length) := pow_pos' WW_pos _
          have a1 : WW ^ (a.length + 1 - b.length) * (2147483648 * WW ^ (b.length - 1)) ≤ WW ^ (a.length + 1 - b.length) * vl WW (u.drop (a.length + 1 - b.length)) := Int.mul_le_mul_of_nonneg_left (by omega) (by omega)
          have a2 : WW ^ (a.length + 1 - b.length) * (2147483648 * WW ^ (b.length - 1)) = 2147483648 * WW ^ a.length := by
            rw [Int.mul_left_comm, ← Int.pow_add, show a.length + 1 - b.length + (b.length - 1) = a.length by omega]
          have a3 : n * 2 ^ (32 - L) < WW ^ a.length * 2 ^ (32 - L) := Int.mul_lt_mul_of_pos_right (ha.lt WW_pos) hs
          have hPa : (0 : Int) < WW ^ a.length := pow_pos' WW_pos _
          have a4 : WW ^ a.length * 2 ^ (32 - L) ≤ WW ^ a.length * 2147483648 := Int.mul_le_mul_of_nonneg_left hs31 (by omega)
          omega
      obtain ⟨q, r, r1, r2, r3⟩ := dm_l0 (s := 32 - L) (nn := b.length) (v := v) (N := n * 2 ^ (32 - L)) (by omega) (by omega) hvl v2.1 v2.2.2 rfl rfl htop (a.length + 1 - b.length) (a.length + 1 - b.length) (List.replicate (a.length + 1 - b.length) 0) u rfl (by omega) (by omega) (by rw [List.length_replicate, u1]) u2
        (by rw [List.drop_eq_nil_of_le (by simp)]; exact Dg.nil _) hlow (by rw [List.drop_eq_nil_of_le (by simp), vl, Int.mul_zero, Int.mul_zero, Int.add_zero]; exact u3)
      rw [Int.mul_ediv_mul_of_pos_left _ _ hs] at r2
      rw [Int.mul_comm n, Int.mul_comm m, Int.mul_emod_mul_of_pos _ _ hs, Int.mul_ediv_cancel_left _ (by omega)] at r3
      refine ⟨q, r, ?_, r2, r3⟩
      unfold mag_DivMod.f
      refine Ev.bind hc (evn hcm (evn (by omega) ?_))
      rw [w64 (x := (b.length : Int) - 1) (by omega) (by omega), w64 (x := (a.length : Int) + 1) (by omega) (by omega)]
      refine evp (by omega) (evp (by omega) (evb z1 (Ev.bind v1 (evp (by omega) (evp (by omega) (evb rfl (Ev.bind t1 ?_)))))))
      rw [show ((a.length : Int) + 1).toNat = a.length + 1 by omega, hu, List.length_replicate, hvl, show ((a.length + 1 : Nat) : Int) - (b.length : Int) = ((a.length + 1 - b.length : Nat) : Int) by omega, w64 (x := ((a.length + 1 - b.length : Nat) : Int)) (by omega) (by omega), w64 (x := ((a.length + 1 - b.length : Nat) : Int) - 1) (by omega) (by omega), show (b.length : Int) - 1 = ((b.length - 1 : Nat) : Int) by omega, show (b.length : Int) - 2 = ((b.length - 2 : Nat) : Int) by omega, w64 (x := ((b.length - 1 : Nat) : Int)) (by omega) (by omega), w64 (x := ((b.length - 2 : Nat) : Int)) (by omega) (by omega), u64 (x := rd v ((b.length - 1 : Nat) : Int)) (by omega) (by omega), u64 (x := rd v ((b.length - 2 : Nat) : Int)) (by omega) (by omega), Int.toNat_natCast]
      exact evp (by omega) (evp (by omega) (evp (by omega) (evp (by omega) (evp (by omega) (evp (by omega) r1)))))
end Go.Proofs.YtjimdhlmeebjeaaGreat.P
end
section
namespace Go.Proofs.YtjimdhlmeebjeaaGreat.P
open Go.RowKit Go.Proofs.YtjimdhlmeebjeaaGreatW.PrintWords Go.Proofs.YtjimdhlmeebjeaaGreatW.PrintLast Go.Proofs.YtjimdhlmeebjeaaGreatW.PrintMore
set_option linter.unusedVariables false
theorem dg_wf {l : List Int} (h : ∀ x ∈ l, (Lit.int .u32 x).wf = true) : Dg WW l := by
  intro x hx
  have h1 := h x hx
  have h2 : IntKind.u32.min = 0 := rfl
  have h3 : IntKind.u32.max = 4294967295 := rfl
  simp only [Lit.wf, Bool.and_eq_true, decide_eq_true_eq, h2, h3] at h1
  rw [WW_eq]
  omega
end Go.Proofs.YtjimdhlmeebjeaaGreat.P
end
section
namespace Go.Proofs.YtjimdhlmeebjeaaGreat.P
open Go.RowKit Go.Proofs.YtjimdhlmeebjeaaGreatW.PrintWords Go.Proofs.YtjimdhlmeebjeaaGreatW.PrintLast Go.Proofs.YtjimdhlmeebjeaaGreatW.PrintMore
set_option linter.unusedVariables false
theorem r_little_ev {a : List Int} (hl : a.length ≤ 4) (ha : Dg RR a) (d : Nat) : ∀ (i : Nat) (x : Int), i = d → i ≤ a.length → x = vl RR (a.drop i) → Ev (fun k => isochroneref01_little.l0 k a x ((i : Int) - 1)) (vl RR a, true) := by
  have bd : ∀ i : Nat, i ≤ a.length → 0 ≤ vl RR (a.drop i) ∧ vl RR (a.drop i) < 10000000000000000 := by
    intro i hi
    have h1 := vl_lt RR_pos (ha.drop i)
    have h2 := pow_le (B := RR) (by decide) (show (a.drop i).length ≤ 4 by rw [List.length_drop]; omega)
    have h3 : RR ^ 4 = 10000000000000000 := by decide
    exact ⟨vl_nonneg RR_pos (ha.drop i), by omega⟩
  induction d with
  | zero =>
    rintro i x rfl h1 h2
    rw [List.drop_zero] at h2
    subst h2
    refine Ev.step (fun k => by rw [isochroneref01_little.l0]) ?_
    exact evn (by omega) (evs _)
  | succ d ih =>
    rintro i x rfl h1 h2
    have hx := dg_rd ha (d : Int) (by omega) (by omega)
    rw [RR_eq] at hx
    have b1 := bd (d + 1) (by omega)
    have b0 := bd d (by omega)
    have e : x * 10000 + rd a (d : Int) = vl RR (a.drop d) := by
      rw [h2, drop_rd a d (by omega), vl, RR_eq]; omega
    have next := ih d (x * 10000 + rd a (d : Int)) rfl (by omega) e
    refine Ev.step (fun k => by rw [isochroneref01_little.l0]) ?_
    rw [show (((d + 1 : Nat) : Int) - 1) = (d : Int) by omega, w64 (x := x * 10000) (by omega) (by omega), w64 (x := x * 10000 + rd a (d : Int)) (by omega) (by omega), w64 (x := (d : Int) - 1) (by omega) (by omega)]
    exact evp (by omega) (evp (by omega) (evp (by omega) next))
theorem r_little_sp {a : List Int} {n : Int} (hl : a.length < 4611686018427387904) (ha : Can RR a n) : (a.length ≤ 4 → Ev (fun k => isochroneref01_little.f k a) (n, true)) ∧ (4 < a.length → Ev (fun k => isochroneref01_little.f k a) (0, false)) := by
  constructor
  · intro h
    have := r_little_ev h ha.1 a.length a.length 0 rfl (Nat.le_refl _) (by rw [List.drop_length]; rfl)
    rw [ha.2.2] at this
    unfold isochroneref01_little.f
    rw [w64 (x := (a.length : Int) - 1) (by omega) (by omega)]
    exact evn (by omega) this
  · intro h
    unfold isochroneref01_little.f
    exact evp (by omega) (evs _)
theorem digit_l3 {r b : List Int} {x m : Int} (hr : r.length < 34359738368) (hb : b.length < 34359738368) (cr : Can RR r x) (cb : Can RR b m) (hm : 0 < m) (hx : x < m * 10000) (c : Nat) : ∀ q : Int, (10000 - q).toNat ≤ c → 0 ≤ q → q ≤ 9999 → m * q ≤ x → Ev (fun k => isochroneref01_digit.l3 k r b q) (x / m) := by
  have fin : ∀ q : Int, 0 ≤ q → m * q ≤ x → x < m * (q + 1) → x / m = q := by
    intro q h0 h1 h2
    have d1 := Int.mul_ediv_add_emod x m
    have d2 := Int.emod_nonneg x (show m ≠ 0 by omega)
    have d3 := Int.emod_lt_of_pos x hm
    have l1 : m * q < m * (x / m + 1) := by rw [Int.mul_add]; omega
    have l2 : m * (x / m) < m * (q + 1) := by omega
    have l3 := Int.lt_of_mul_lt_mul_left l1 (Int.le_of_lt hm)
    have l4 := Int.lt_of_mul_lt_mul_left l2 (Int.le_of_lt hm)
    omega
  induction c with
  | zero => intro q h1 h2 h3 h4; omega
  | succ c ih =>
    intro q h1 h2 h3 h4
    refine Ev.step (fun k => by rw [isochroneref01_digit.l3]) ?_
    rw [w64 (x := q + 1) (by omega) (by omega)]
    by_cases c1 : q + 1 < 10000
    · obtain ⟨s, s1, s2, s3⟩ := r_Small_sp (k0 := q + 1) (c0 := 0) (by omega) cb ⟨by omega, by omega⟩ ⟨by omega, by omega⟩
      rw [Int.add_zero] at s2
      have k1 := isochroneref01_Cmp_sp (by omega) s2 cr
      by_cases c2 : m * (q + 1) ≤ x
      · refine evp c1 (Ev.bind s1 (Ev.bind k1 (evp ?_ (ih (q + 1) (by omega) (by omega) (by omega) c2))))
        unfold cmpi; split <;> (try split) <;> omega
      · rw [fin q h2 h4 (by omega)]
        refine evp c1 (Ev.bind s1 (Ev.bind k1 (evn ?_ (evs _))))
        unfold cmpi; rw [if_neg (by omega), if_neg (by omega)]; omega
    · have e : q = 9999 := by omega
      subst e
      rw [fin 9999 h2 h4 (by omega)]
      exact evn c1 (evs _)
theorem digit_l2 {r b : List Int} {x m : Int} (hr : r.length < 34359738368) (hb : b.length < 34359738368) (cr : Can RR r x) (cb : Can RR b m) (hm : 0 < m) (hx : x < m * 10000) (c : Nat) : ∀ q : Int, q.toNat ≤ c → 0 ≤ q → q ≤ 9999 → Ev (fun k => isochroneref01_digit.l2 k r b q) (x / m) := by
  have x0 := cr.nonneg RR_pos
  induction c with
  | zero =>
    intro q h1 h2 h3
    have e : q = 0 := by omega
    subst e
    obtain ⟨s, s1, s2, s3⟩ := r_Small_sp (k0 := 0) (c0 := 0) (by omega) cb ⟨by omega, by omega⟩ ⟨by omega, by omega⟩
    rw [Int.add_zero, Int.mul_zero] at s2
    have k1 := isochroneref01_Cmp_sp (by omega) s2 cr
    refine Ev.step (fun k => by rw [isochroneref01_digit.l2]) ?_
    refine Ev.bind s1 (Ev.bind k1 (evn ?_ (digit_l3 hr hb cr cb hm hx _ 0 (Nat.le_refl _) (by omega) (by omega) (by omega))))
    unfold cmpi; split <;> (try split) <;> omega
  | succ c ih =>
    intro q h1 h2 h3
    obtain ⟨s, s1, s2, s3⟩ := r_Small_sp (k0 := q) (c0 := 0) (by omega) cb ⟨by omega, by omega⟩ ⟨by omega, by omega⟩
    rw [Int.add_zero] at s2
    have k1 := isochroneref01_Cmp_sp (by omega) s2 cr
    refine Ev.step (fun k => by rw [isochroneref01_digit.l2]) ?_
    rw [w64 (x := q - 1) (by omega) (by omega)]
    by_cases c2 : m * q ≤ x
    · refine Ev.bind s1 (Ev.bind k1 (evn ?_ (digit_l3 hr hb cr cb hm hx _ q (Nat.le_refl _) h2 h3 c2)))
      unfold cmpi; split <;> (try split) <;> omega
    · have hq : q ≠ 0 := fun h => by rw [h, Int.mul_zero] at c2; omega
      refine Ev.bind s1 (Ev.bind k1 (evp ?_ (ih (q - 1) (by omega) (by omega) (by omega))))
      unfold cmpi; rw [if_neg (by omega), if_neg (by omega)]; omega
end Go.Proofs.YtjimdhlmeebjeaaGreat.P
end
section
namespace Go.Proofs.YtjimdhlmeebjeaaGreat.P
open Go.RowKit Go.Proofs.YtjimdhlmeebjeaaGreatW.PrintWords Go.Proofs.YtjimdhlmeebjeaaGreatW.PrintLast Go.Proofs.YtjimdhlmeebjeaaGreatW.PrintMore
set_option linter.unusedVariables false
theorem digit_j2 {r b : List Int} {x m t low : Int} (hr : r.length < 34359738368) (hb : b.length < 34359738368) (cr : Can RR r x) (cb : Can RR b m) (hm : 0 < m) (hx : x < m * 10000) (ht : 0 ≤ t ∧ t < 4611686018427387904) (hl : 0 < low) : Ev (fun k => isochroneref01_digit.j2 k r b t low) (x / m) := by
  have q0 : 0 ≤ t / low := Int.ediv_nonneg ht.1 (by omega)
  have q1 : t / low ≤ t := Int.ediv_le_self _ ht.1
  refine Ev.step (fun k => by rw [isochroneref01_digit.j2]) ?_
  rw [tdiv_nn ht.1, w64 (x := t / low) (by omega) (by omega)]
  refine evn (by omega) (digit_l2 hr hb cr cb hm hx _ _ (Nat.le_refl _) ?_ ?_)
  · unfold mn; split <;> omega
  · unfold mn; split <;> omega
theorem digit_l1 {r b : List Int} {x m t : Int} (hr : r.length < 34359738368) (hb : b.length < 34359738368) (cr : Can RR r x) (cb : Can RR b m) (hm : 0 < m) (hx : x < m * 10000) (ht : 0 ≤ t ∧ t < 4611686018427387904) : Ev (fun k => isochroneref01_digit.l1 k r b (b.length : Int) t 0 ((b.length : Int) - 1)) (x / m) := by
  have lb : b.length ≠ 0 := fun h => by have := (cb.len_iff RR_pos).1 h; omega
  have h1 := dg_rd cb.1 ((b.length : Int) - 1) (by omega) (by omega)
  have z1 := cb.2.1.rd (by omega)
  rw [RR_eq] at h1
  by_cases c : b.length = 1
  · rw [c] at h1 z1
    have e0 : ((1 : Nat) : Int) - 1 = 0 := by omega
    rw [e0] at h1 z1
    have hj := digit_j2 hr hb cr cb hm hx ht (low := rd b 0) (by omega)
    have em : mx 0 (wrap64 (((1 : Nat) : Int) - 2)) = 0 := by rw [w64 (by omega) (by omega)]; unfold mx; split <;> omega
    refine Ev.step (fun k => by rw [isochroneref01_digit.l1]) ?_
    rw [c, em, e0, w64 (x := 0 * 10000) (by omega) (by omega), w64 (x := 0 * 10000 + rd b 0) (by omega) (by omega), w64 (x := 0 - 1) (by omega) (by omega)]
    refine evp (by omega) (evp (by omega) (evp (by omega) ?_))
    refine Ev.step (fun k => by rw [isochroneref01_digit.l1]) ?_
    rw [em]
    exact evn (by omega) (evp (by omega) (evp (by omega) hj))
  · have h2 := dg_rd cb.1 ((b.length : Int) - 2) (by omega) (by omega)
    rw [RR_eq] at h2
    have em : mx 0 (wrap64 ((b.length : Int) - 2)) = (b.length : Int) - 2 := by rw [w64 (by omega) (by omega)]; unfold mx; split <;> omega
    have hj := digit_j2 hr hb cr cb hm hx ht (low := (0 * 10000 + rd b ((b.length : Int) - 1)) * 10000 + rd b ((b.length : Int) - 2)) (by omega)
    refine Ev.step (fun k => by rw [isochroneref01_digit.l1]) ?_
    rw [em, w64 (x := 0 * 10000) (by omega) (by omega), w64 (x := 0 * 10000 + rd b ((b.length : Int) - 1)) (by omega) (by omega), w64 (x := (b.length : Int) - 1 - 1) (by omega) (by omega), show (b.length : Int) - 1 - 1 = (b.length : Int) - 2 by omega]
    refine evp (by omega) (evp (by omega) (evp (by omega) ?_))
    refine Ev.step (fun k => by rw [isochroneref01_digit.l1]) ?_
    rw [em, w64 (x := (0 * 10000 + rd b ((b.length : Int) - 1)) * 10000) (by omega) (by omega), w64 (x := (0 * 10000 + rd b ((b.length : Int) - 1)) * 10000 + rd b ((b.length : Int) - 2)) (by omega) (by omega), w64 (x := (b.length : Int) - 2 - 1) (by omega) (by omega)]
    refine evp (by omega) (evp (by omega) (evp (by omega) ?_))
    refine Ev.step (fun k => by rw [isochroneref01_digit.l1]) ?_
    rw [em]
    exact evn (by omega) (evn (by omega) hj)
theorem digit_l0 {r b : List Int} {x m : Int} (hr : r.length < 34359738368) (hb : b.length < 34359738368) (cr : Can RR r x) (cb : Can RR b m) (hm : 0 < m) (hx : x < m * 10000) (c : Nat) : ∀ (t i : Int), (i + 1 - mx 0 ((b.length : Int) - 2)).toNat = c → -1 ≤ i → i ≤ b.length → 0 ≤ t → t < 10000 ^ (3 - c) → c ≤ 3 → Ev (fun k => isochroneref01_digit.l0 k r b (b.length : Int) t 0 i) (x / m) := by
  have em : wrap64 ((b.length : Int) - 2) = (b.length : Int) - 2 := by rw [w64 (by omega) (by omega)]
  have hlo : 0 ≤ mx 0 ((b.length : Int) - 2) := by unfold mx; split <;> omega
  induction c with
  | zero =>
    intro t i h1 h2 h3 h4 h5 h6
    have := digit_l1 hr hb cr cb hm hx (t := t) ⟨h4, Int.lt_trans h5 (by decide)⟩
    refine Ev.step (fun k => by rw [isochroneref01_digit.l0]) ?_
    rw [em, w64 (x := (b.length : Int) - 1) (by omega) (by omega)]
    exact evn (by omega) this
  | succ c ih =>
    intro t i h1 h2 h3 h4 h5 h6
    have hp : (10000 : Int) ^ (3 - (c + 1)) * 10000 = 10000 ^ (3 - c) := by
      rw [← Int.pow_succ]; congr 1; omega
    have hq : (10000 : Int) ^ (3 - c) ≤ 10000 ^ 3 := pow_le (by decide) (by omega)
    have hq3 : (10000 : Int) ^ 3 = 1000000000000 := by decide
    refine Ev.step (fun k => by rw [isochroneref01_digit.l0]) ?_
    rw [em, w64 (x := t * 10000) (by omega) (by omega), w64 (x := i - 1) (by omega) (by omega)]
    refine evp (by omega) ?_
    by_cases c1 : i < (r.length : Int)
    · have hx' := dg_rd cr.1 i (by omega) (by omega)
      rw [RR_eq] at hx'
      rw [w64 (x := t * 10000 + rd r i) (by omega) (by omega)]
      exact evp c1 (evp (by omega) (ih (t * 10000 + rd r i) (i - 1) (by omega) (by omega) (by omega) (by omega) (by omega) (by omega)))
    · exact evn c1 (ih (t * 10000) (i - 1) (by omega) (by omega) (by omega) (by omega) (by omega) (by omega))
theorem r_digit_sp {r b : List Int} {x m : Int} (hr : r.length < 34359738368) (hb : b.length < 34359738368) (cr : Can RR r x) (cb : Can RR b m) (hm : 0 < m) (hx : x < m * 10000) : Ev (fun k => isochroneref01_digit.f k r b) (x / m) := by
  unfold isochroneref01_digit.f
  have hlo : (((b.length : Int) + 1 - mx 0 ((b.length : Int) - 2)).toNat) ≤ 3 := by unfold mx; split <;> omega
  exact digit_l0 hr hb cr cb hm hx _ 0 _ rfl (by omega) (Int.le_refl _) (by omega) (Int.pow_pos (by decide)) hlo
end Go.Proofs.YtjimdhlmeebjeaaGreat.P
end
section
namespace Go.Proofs.YtjimdhlmeebjeaaGreat.P
open Go.RowKit Go.Proofs.YtjimdhlmeebjeaaGreatW.PrintWords Go.Proofs.YtjimdhlmeebjeaaGreatW.PrintLast Go.Proofs.YtjimdhlmeebjeaaGreatW.PrintMore
set_option linter.unusedVariables false
theorem alg_rd {x m q d a R va : Int} (h : x + m * q = va) : (x * R + a - m * d) + m * (d + R * q) = a + R * va := by grind
theorem r_dm_l0 {a b : List Int} {n m : Int} (hn : a.length < 17179869184) (hb : b.length < 17179869184) (ha : Can RR a n) (cb : Can RR b m) (hm : 0 < m) (d : Nat) : ∀ (i : Nat) (q r : List Int) (x : Int), i = d → i ≤ a.length → q.length = a.length → Dg RR (q.drop i) → Can RR r x → x < m → x + m * vl RR (q.drop i) = vl RR (a.drop i) → (∀ j : Nat, j < i → rd q (j : Int) = 0) →
    ∃ q' r', Ev (fun k => isochroneref01_DivMod.l0 k a b q r ((i : Int) - 1)) (q', r') ∧ Can RR q' (n / m) ∧ Can RR r' (n % m) ∧ q'.length ≤ a.length := by
  induction d with
  | zero =>
    rintro i q r x rfl h1 h2 h3 h4 h5 h6 h7
    rw [List.drop_zero, List.drop_zero, ha.2.2] at h6
    rw [List.drop_zero] at h3
    have x0 := h4.nonneg RR_pos
    obtain ⟨t, t1, t2, t3⟩ := r_trim_sp (l := q) (by omega) h3
    have e1 : n / m = vl RR q := by rw [← h6, Int.add_mul_ediv_left _ _ (by omega), Int.ediv_eq_zero_of_lt x0 h5, Int.zero_add]
    have e2 : n % m = x := by rw [← h6, Int.add_mul_emod_self_left, Int.emod_eq_of_lt x0 h5]
    refine ⟨t, r, ?_, by rw [e1]; exact t2, by rw [e2]; exact h4, by omega⟩
    refine Ev.step (fun k => by rw [isochroneref01_DivMod.l0]) ?_
    exact evn (by omega) (Ev.bind t1 (evs _))
  | succ d ih =>
    rintro i q r x rfl h1 h2 h3 h4 h5 h6 h7
    have hx := dg_rd ha.1 (d : Int) (by omega) (by omega)
    rw [RR_eq] at hx
    have x0 := h4.nonneg RR_pos
    have lr := canR_len_le cb h4 (by omega)
    obtain ⟨t, t1, t2, t3⟩ := r_Small_sp (k0 := 10000) (c0 := rd a (d : Int)) (by omega) h4 ⟨by omega, by omega⟩ ⟨hx.1, by omega⟩
    have k1 := isochroneref01_Cmp_sp (by omega) t2 cb
    by_cases c1 : x * 10000 + rd a (d : Int) < m
    · obtain ⟨q', r', e1, e2⟩ := ih d q t (x * 10000 + rd a (d : Int)) rfl (by omega) h2
        (by rw [drop_rd q d (by omega)]; exact Dg.mk (by rw [h7 d (by omega)]; omega) (by rw [h7 d (by omega)]; decide) h3) t2 c1
        (by
          have := alg_rd (R := RR) (a := rd a (d : Int)) (d := 0) h6
          rw [drop_rd q d (by omega), drop_rd a d (by omega), vl, vl, h7 d (by omega)]
          rw [Int.mul_zero, Int.sub_zero] at this
          exact this) (fun j hj => h7 j (by omega))
      refine ⟨q', r', ?_, e2⟩
      refine Ev.step (fun k => by rw [isochroneref01_DivMod.l0]) ?_
      rw [show (((d + 1 : Nat) : Int) - 1) = (d : Int) by omega, w64 (x := (d : Int) - 1) (by omega) (by omega)]
      refine evp (by omega) (evp (by omega) (evp (by omega) (Ev.bind t1 (Ev.bind k1 (evp ?_ e1)))))
      unfold cmpi; rw [if_pos c1]; omega
    · have d1 := Int.mul_ediv_add_emod (x * 10000 + rd a (d : Int)) m
      have d2 := Int.emod_nonneg (x * 10000 + rd a (d : Int)) (show m ≠ 0 by omega)
      have d3 := Int.emod_lt_of_pos (x * 10000 + rd a (d : Int)) hm
      have hg := r_digit_sp (r := t) (b := b) (by omega) (by omega) t2 cb hm (by omega)
      have g0 : 0 ≤ (x * 10000 + rd a (d : Int)) / m := Int.ediv_nonneg (by omega) (by omega)
      have g1 : (x * 10000 + rd a (d : Int)) / m < 10000 := Int.ediv_lt_of_lt_mul hm (by omega)
      generalize hG : (x * 10000 + rd a (d : Int)) / m = g at *
      obtain ⟨s, s1, s2, s3⟩ := r_Small_sp (k0 := g) (c0 := 0) (by omega) cb ⟨by omega, by omega⟩ ⟨by omega, by omega⟩
      rw [Int.add_zero] at s2
      obtain ⟨y, y1, y2, y3⟩ := r_Sub_sp (by omega) t2 s2 (by omega)
      have hs := rd_set_eq q (d : Int) g (by omega)
      rw [Int.toNat_natCast] at hs
      obtain ⟨q', r', e1, e2⟩ := ih d (q.set d g) y (x * 10000 + rd a (d : Int) - m * g) rfl (by omega) (by simpa using h2)
        (by rw [drop_set_self _ _ _ (by omega)]; exact Dg.mk g0 (by rw [RR_eq]; exact g1) h3) y2 (by omega)
        (by
          rw [drop_set_self _ _ _ (by omega), drop_rd a d (by omega), vl, vl]
          exact alg_rd h6)
        (fun j hj => by
          have := rd_set_ne q (d : Int) (j : Int) g (by omega)
          rw [Int.toNat_natCast] at this
          rw [this]
          exact h7 j (by omega))
      refine ⟨q', r', ?_, e2⟩
      refine Ev.step (fun k => by rw [isochroneref01_DivMod.l0]) ?_
      rw [show (((d + 1 : Nat) : Int) - 1) = (d : Int) by omega, w64 (x := (d : Int) - 1) (by omega) (by omega), Int.toNat_natCast]
      refine evp (by omega) (evp (by omega) (evp (by omega) (Ev.bind t1 (Ev.bind k1 (evn ?_ (Ev.bind hg (evp (by omega) (evb rfl ?_))))))))
      · unfold cmpi; rw [if_neg c1]; split <;> omega
      · rw [hs]
        exact Ev.bind s1 (Ev.bind y1 e1)
end Go.Proofs.YtjimdhlmeebjeaaGreat.P
end
section
namespace Go.Proofs.YtjimdhlmeebjeaaGreat.P
open Go.RowKit Go.Proofs.YtjimdhlmeebjeaaGreatW.PrintWords Go.Proofs.YtjimdhlmeebjeaaGreatW.PrintLast Go.Proofs.YtjimdhlmeebjeaaGreatW.PrintMore
set_option linter.unusedVariables false
theorem r_Int_wide {a : Int} (h0 : 0 ≤ a) (h1 : a < 100000000000000000) : ∃ r, Ev (fun k => isochroneref01_Int.f k a) r ∧ Can RR r a := by
  by_cases c : a < 10000000000000
  · exact r_Int_sp h0 c
  · obtain ⟨r, h2, h3⟩ := r_Int_ev a (a / 10000).toNat [a % 10000] (a / 10000) (by omega) (by omega) (by simp; omega) (Dg.mk (by omega) (by rw [RR_eq]; omega) (Dg.nil _)) (fun h => by omega) (by
      show a % 10000 + RR * 0 + a / 10000 * RR ^ 1 = a
      rw [RR_eq]; omega)
    refine ⟨r, ?_, h3⟩
    refine Ev.congr (fun k => by rw [isochroneref01_Int.f]) ?_
    refine Ev.step (fun k => by rw [isochroneref01_Int.l0]) ?_
    rw [tmod_nn h0, tdiv_nn h0, w64 (x := a / 10000) (by omega) (by omega)]
    exact evp (by omega) (evp (by simp) h2)
theorem r_DivMod_sp {a b : List Int} {n m : Int} (hn : a.length < 1073741824) (hb : b.length < 1073741824) (ha : Can RR a n) (cb : Can RR b m) (hm : 0 < m) :
    ∃ q r, Ev (fun k => isochroneref01_DivMod.f k a b) (q, r) ∧ Can RR q (n / m) ∧ Can RR r (n % m) ∧ q.length < 1073741824 ∧ r.length < 1073741824 := by
  have n0 := ha.nonneg RR_pos
  have hc := isochroneref01_Cmp_sp (by omega) ha cb
  have r0 := Int.emod_nonneg n (show m ≠ 0 by omega)
  have r1 := Int.emod_lt_of_pos n hm
  have fin : ∀ q r, Can RR q (n / m) → Can RR r (n % m) → q.length < 1073741824 ∧ r.length < 1073741824 := by
    intro q r hq hr
    have l1 := canR_len_le ha hq (Int.ediv_le_self _ n0)
    have l2 := canR_len_le cb hr (by omega)
    omega
  have key : ∃ q r, Ev (fun k => isochroneref01_DivMod.f k a b) (q, r) ∧ Can RR q (n / m) ∧ Can RR r (n % m) := by
    by_cases c1 : n < m
    · refine ⟨[], a, ?_, by rw [Int.ediv_eq_zero_of_lt n0 c1]; exact Can.zero _, by rw [Int.emod_eq_of_lt n0 c1]; exact ha⟩
      unfold isochroneref01_DivMod.f
      refine Ev.bind hc (evp ?_ (evs _))
      unfold cmpi; rw [if_pos c1]; omega
    · have hcm : ¬ cmpi n m < 0 := by unfold cmpi; rw [if_neg c1]; split <;> omega
      have lba := canR_len_le ha cb (by omega)
      obtain ⟨la1, la2⟩ := r_little_sp (by omega) ha
      obtain ⟨lb1, lb2⟩ := r_little_sp (by omega) cb
      by_cases c2 : a.length ≤ 4
      · have hlt := ha.lt RR_pos
        have h4 := pow_le (B := RR) (by decide) c2
        have h5 : RR ^ 4 = 10000000000000000 := by decide
        have q0 : 0 ≤ n / m := Int.ediv_nonneg n0 (by omega)
        have q1 : n / m ≤ n := Int.ediv_le_self _ n0
        obtain ⟨x, x1, x2⟩ := r_Int_wide (a := n / m) q0 (by omega)
        obtain ⟨y, y1, y2⟩ := r_Int_wide (a := n % m) r0 (by omega)
        refine ⟨x, y, ?_, x2, y2⟩
        unfold isochroneref01_DivMod.f
        refine Ev.bind hc (evn hcm (Ev.bind (la1 c2) (evp rfl (Ev.bind (lb1 (by omega)) (evn (show ¬ m = 0 by omega) ?_)))))
        rw [tdiv_nn n0, tmod_nn n0, w64 (x := n / m) (by omega) (by omega)]
        exact Ev.bind x1 (Ev.bind y1 (evs _))
      · by_cases c3 : b.length = 1
        · have hx := dg_rd cb.1 0 (by omega) (by omega)
          rw [RR_eq] at hx
          have em : m = rd b 0 := by
            have e := vl_take RR b 0 (by omega)
            rw [show 0 + 1 = b.length by omega, List.take_length, cb.2.2] at e
            simpa [vl] using e
          obtain ⟨q, q1, q2, q3⟩ := r_Split_sp (by omega) ha (K := m) ⟨by omega, by omega⟩
          obtain ⟨y, y1, y2⟩ := r_Int_wide (a := n % m) r0 (by omega)
          refine ⟨q, y, ?_, q2, y2⟩
          unfold isochroneref01_DivMod.f
          refine Ev.bind hc (evn hcm (Ev.bind (la2 (by omega)) (evn (by simp) (evp (by omega) (evp (by omega) ?_)))))
          rw [← em]
          exact Ev.bind q1 (Ev.bind y1 (evs _))
        · obtain ⟨q, r, e1, e2, e3, e4⟩ := r_dm_l0 (by omega) (by omega) ha cb hm a.length a.length (List.replicate a.length 0) [] 0 rfl (Nat.le_refl _) (by simp) (by rw [List.drop_eq_nil_of_le (by simp)]; exact Dg.nil _) (Can.zero _) hm (by rw [List.drop_eq_nil_of_le (by simp), List.drop_length]; simp [vl]) (fun j hj => by rw [rd_lt _ _ (by simpa using hj)]; simp)
          refine ⟨q, r, ?_, e2, e3⟩
          unfold isochroneref01_DivMod.f
          refine Ev.bind hc (evn hcm (Ev.bind (la2 (by omega)) (evn (by simp) (evn (by omega) (evp (by omega) (evp (by omega) ?_))))))
          rw [w64 (x := (a.length : Int) - 1) (by omega) (by omega), Int.toNat_natCast]
          exact e1
  obtain ⟨q, r, e1, e2, e3⟩ := key
  exact ⟨q, r, e1, e2, e3, fin q r e2 e3⟩
end Go.Proofs.YtjimdhlmeebjeaaGreat.P
end
section
namespace Go.Proofs.YtjimdhlmeebjeaaGreat.P
open Go.RowKit Go.Proofs.YtjimdhlmeebjeaaGreatW.PrintWords Go.Proofs.YtjimdhlmeebjeaaGreatW.PrintLast Go.Proofs.YtjimdhlmeebjeaaGreatW.PrintMore
set_option linter.unusedVariables false
def gI (a b : Int) : Int := ((Int.gcd a b : Nat) : Int)
theorem gI_comm (a b : Int) : gI a b = gI b a := by unfold gI; rw [Int.gcd_comm]
theorem gI_zero {a : Int} (h : 0 ≤ a) : gI a 0 = a := by
  unfold gI
  rw [Int.gcd_zero_right]
  omega
theorem gI_sub (a b k : Int) : gI b (a - k * b) = gI a b := by
  unfold gI
  rw [Int.gcd_sub_mul_right_right, Int.gcd_comm]
theorem gI_mod (a b : Int) : gI b (a % b) = gI a b := by
  rw [Int.emod_def, Int.mul_comm b]
  exact gI_sub a b (a / b)
theorem gI_le {a b : Int} (h : 0 < b) : gI a b ≤ b := by
  unfold gI
  exact Int.le_of_dvd h (Int.gcd_dvd_right a b)
theorem r_gcd_l1 (c : Nat) : ∀ x y : Int, y.toNat = c → 0 ≤ x → x < 100000000000000000 → 0 ≤ y → y < 100000000000000000 → ∃ r, Ev (fun k => isochroneref01_GCD.l1 k x y) r ∧ Can RR r (gI x y) := by
  induction c using Nat.strongRecOn with
  | _ c ih =>
    intro x y hc x0 x1 y0 y1
    by_cases c1 : y > 0
    · have m0 := Int.emod_nonneg x (show y ≠ 0 by omega)
      have m1 := Int.emod_lt_of_pos x c1
      obtain ⟨r, r1, r2⟩ := ih (x % y).toNat (by omega) y (x % y) rfl y0 y1 m0 (by omega)
      rw [gI_mod] at r2
      refine ⟨r, ?_, r2⟩
      refine Ev.step (fun k => by rw [isochroneref01_GCD.l1]) ?_
      rw [tmod_nn x0]
      exact evp c1 (evn (by omega) r1)
    · have e : y = 0 := by omega
      subst e
      obtain ⟨r, r1, r2⟩ := r_Int_wide x0 x1
      rw [gI_zero x0]
      refine ⟨r, ?_, r2⟩
      refine Ev.step (fun k => by rw [isochroneref01_GCD.l1]) ?_
      exact evn (by omega) (Ev.bind r1 (evs _))
theorem r_gcd_l0 (c : Nat) : ∀ (a b : List Int) (n m : Int), m.toNat = c → a.length < 1073741824 → b.length < 1073741824 → Can RR a n → Can RR b m → ∃ r, Ev (fun k => isochroneref01_GCD.l0 k a b) r ∧ Can RR r (gI n m) := by
  induction c using Nat.strongRecOn with
  | _ c ih =>
    intro a b n m hc la lb ha hb
    have n0 := ha.nonneg RR_pos
    have m0 := hb.nonneg RR_pos
    have hz := hb.len_iff RR_pos
    by_cases c1 : m = 0
    · have e := hz.2 c1
      rw [c1, gI_zero n0]
      refine ⟨a, ?_, ha⟩
      refine Ev.step (fun k => by rw [isochroneref01_GCD.l0]) ?_
      exact evn (by omega) (evs _)
    · have e : b.length ≠ 0 := fun h => c1 (hz.1 h)
      have mp : 0 < m := by omega
      obtain ⟨la1, la2⟩ := r_little_sp (by omega) ha
      obtain ⟨lb1, lb2⟩ := r_little_sp (by omega) hb
      have h5 : RR ^ 4 = 10000000000000000 := by decide
      have slow : ∀ x y, ∃ r, Ev (fun k => isochroneref01_GCD.j1 k a b x y false) r ∧ Can RR r (gI n m) := by
        intro x y
        have r0 := Int.emod_nonneg n (show m ≠ 0 by omega)
        have r1 := Int.emod_lt_of_pos n mp
        obtain ⟨q, r, d1, d2, d3, d4, d5⟩ := r_DivMod_sp la lb ha hb mp
        obtain ⟨z, z1, z2⟩ := ih (n % m).toNat (by omega) b r m (n % m) rfl lb d5 hb d3
        rw [gI_mod] at z2
        refine ⟨z, ?_, z2⟩
        refine Ev.step (fun k => by rw [isochroneref01_GCD.j1]) ?_
        exact evn (by simp) (Ev.bind d1 z1)
      by_cases c2 : a.length ≤ 4
      · by_cases c3 : b.length ≤ 4
        · have hlt := ha.lt RR_pos
          have h4 := pow_le (B := RR) (by decide) c2
          have hlt' := hb.lt RR_pos
          have h4' := pow_le (B := RR) (by decide) c3
          obtain ⟨z, z1, z2⟩ := r_gcd_l1 _ n m rfl n0 (by omega) m0 (by omega)
          refine ⟨z, ?_, z2⟩
          refine Ev.step (fun k => by rw [isochroneref01_GCD.l0]) ?_
          refine evp (by omega) (Ev.bind (la1 c2) (Ev.bind (lb1 c3) (evp rfl ?_)))
          refine Ev.step (fun k => by rw [isochroneref01_GCD.j1]) ?_
          exact evp rfl z1
        · obtain ⟨z, z1, z2⟩ := slow n 0
          refine ⟨z, ?_, z2⟩
          refine Ev.step (fun k => by rw [isochroneref01_GCD.l0]) ?_
          exact evp (by omega) (Ev.bind (la1 c2) (Ev.bind (lb2 (by omega)) (evp rfl z1)))
      · by_cases c3 : b.length ≤ 4
        · obtain ⟨z, z1, z2⟩ := slow 0 m
          refine ⟨z, ?_, z2⟩
          refine Ev.step (fun k => by rw [isochroneref01_GCD.l0]) ?_
          exact evp (by omega) (Ev.bind (la2 (by omega)) (Ev.bind (lb1 c3) (evn (by simp) z1)))
        · obtain ⟨z, z1, z2⟩ := slow 0 0
          refine ⟨z, ?_, z2⟩
          refine Ev.step (fun k => by rw [isochroneref01_GCD.l0]) ?_
          exact evp (by omega) (Ev.bind (la2 (by omega)) (Ev.bind (lb2 (by omega)) (evn (by simp) z1)))
theorem r_GCD_sp {a b : List Int} {n m : Int} (la : a.length < 1073741824) (lb : b.length < 1073741824) (ha : Can RR a n) (hb : Can RR b m) : ∃ r, Ev (fun k => isochroneref01_GCD.f k a b) r ∧ Can RR r (gI n m) := by
  unfold isochroneref01_GCD.f
  exact r_gcd_l0 _ a b n m rfl la lb ha hb
end Go.Proofs.YtjimdhlmeebjeaaGreat.P
end
section
namespace Go.Proofs.YtjimdhlmeebjeaaGreat.P
open Go.RowKit Go.Proofs.YtjimdhlmeebjeaaGreatW.PrintWords Go.Proofs.YtjimdhlmeebjeaaGreatW.PrintLast Go.Proofs.YtjimdhlmeebjeaaGreatW.PrintMore
set_option linter.unusedVariables false
theorem mag_Small2_sp {r : List Int} {v : Int} (hr : Can WW r v) (hl : r.length ≤ 2) : mag_Small.f r = some (v, true) := by
  unfold mag_Small.f
  by_cases c : r.length = 0
  · rw [(hr.len_iff WW_pos).1 c, if_pos (by omega)]
  · have e := last_vl (a := r) (by omega)
    have v0 := hr.nonneg WW_pos
    have h0 := dg_rd hr.1 0 (by omega) (by omega)
    rw [WW_eq] at h0
    rw [hr.2.2] at e
    by_cases h1 : r.length = 1
    · rw [h1] at e
      have e2 : v = rd r 0 := by simpa [vl] using e
      rw [if_neg (by omega), if_pos (by omega), if_pos (by omega), ← e2, u64 (x := v) (by omega) (by omega)]
    · have h2 : r.length = 2 := by omega
      have hx := dg_rd hr.1 1 (by omega) (by omega)
      rw [WW_eq] at hx
      have e3 := vl_take WW r 0 (by omega)
      have e4 : v = rd r 1 * 4294967296 + rd r 0 := by
        rw [h2] at e
        have f1 : ((2 : Nat) : Int) - 1 = 1 := rfl
        have f2 : (2 : Nat) - 1 = 0 + 1 := rfl
        rw [f1, f2, e3, WW_eq, List.take_zero] at e
        simp only [vl] at e
        rw [e]
        have f3 : ((0 : Nat) : Int) = 0 := rfl
        have f4 : (4294967296 : Int) ^ 0 = 1 := rfl
        have f5 : (4294967296 : Int) ^ (0 + 1) = 4294967296 := rfl
        rw [f3, f4, f5]
        omega
      rw [if_neg (by omega), if_neg (by omega), if_pos (by omega), if_pos (by omega), if_pos (by omega), u64 (x := rd r 1) (by omega) (by omega), u64 (x := rd r 0) (by omega) (by omega), u64 (x := rd r 1 * 4294967296) (by omega) (by omega), or64 hx h0, e4]
theorem alg_cb1 {n m p q : Int} : m * q - n * (-p) = p * n + q * m := by grind
theorem alg_cb2 {n m p q : Int} : n * p - m * (-q) = p * n + q * m := by grind
theorem combine_sp {a b : List Int} {n m p q : Int} (la : a.length < 1073741824) (lb : b.length < 1073741824) (ha : Can WW a n) (hb : Can WW b m) (hs : (0 ≤ p ∧ q ≤ 0) ∨ (p ≤ 0 ∧ 0 ≤ q))
    (hp : -4611686018427387904 ≤ p ∧ p ≤ 4611686018427387904) (hq : -4611686018427387904 ≤ q ∧ q ≤ 4611686018427387904) (h : 0 ≤ p * n + q * m) : ∃ r, Ev (fun k => mag_combine.f k a b p q) r ∧ Can WW r (p * n + q * m) := by
  have hW2 : WW ^ 2 = 18446744073709551616 := by decide
  have pos : p ≤ 0 → 0 ≤ q → ∃ r, Ev (fun k => mag_combine.j0 k a b p q true) r ∧ Can WW r (p * n + q * m) := by
    intro p0 q0
    obtain ⟨t, t1, t2⟩ := mag_From_sp (a := q) q0 (by omega)
    have t3 := t2.len_le (k := 2) WW_one (by omega)
    obtain ⟨x, x1, x2, x3⟩ := mag_Mul_sp (by omega) hb t2
    obtain ⟨s, s1, s2⟩ := mag_From_sp (a := -p) (by omega) (by omega)
    have s3 := s2.len_le (k := 2) WW_one (by omega)
    obtain ⟨y, y1, y2, y3⟩ := mag_Mul_sp (by omega) ha s2
    rw [← alg_cb1] at h
    obtain ⟨z, z1, z2, z3⟩ := mag_Sub_sp (by omega) x2 y2 (by omega)
    rw [alg_cb1] at z2
    refine ⟨z, ?_, z2⟩
    refine Ev.step (fun k => by rw [mag_combine.j0]) ?_
    rw [w64 (x := -p) (by omega) (by omega), u64 (x := -p) (by omega) (by omega), u64 (x := q) (by omega) (by omega)]
    exact evp rfl (Ev.bind t1 (Ev.bind x1 (Ev.bind s1 (Ev.bind y1 (Ev.bind z1 (evs _))))))
  have neg : 0 ≤ p → q ≤ 0 → ∃ r, Ev (fun k => mag_combine.j0 k a b p q false) r ∧ Can WW r (p * n + q * m) := by
    intro p0 q0
    obtain ⟨t, t1, t2⟩ := mag_From_sp (a := p) p0 (by omega)
    have t3 := t2.len_le (k := 2) WW_one (by omega)
    obtain ⟨x, x1, x2, x3⟩ := mag_Mul_sp (by omega) ha t2
    obtain ⟨s, s1, s2⟩ := mag_From_sp (a := -q) (by omega) (by omega)
    have s3 := s2.len_le (k := 2) WW_one (by omega)
    obtain ⟨y, y1, y2, y3⟩ := mag_Mul_sp (by omega) hb s2
    rw [← alg_cb2] at h
    obtain ⟨z, z1, z2, z3⟩ := mag_Sub_sp (by omega) x2 y2 (by omega)
    rw [alg_cb2] at z2
    refine ⟨z, ?_, z2⟩
    refine Ev.step (fun k => by rw [mag_combine.j0]) ?_
    rw [w64 (x := -q) (by omega) (by omega), u64 (x := -q) (by omega) (by omega), u64 (x := p) (by omega) (by omega)]
    exact evn (by simp) (Ev.bind t1 (Ev.bind x1 (Ev.bind s1 (Ev.bind y1 (Ev.bind z1 (evs _))))))
  unfold mag_combine.f
  by_cases c1 : p < 0
  · obtain ⟨r, r1, r2⟩ := pos (by omega) (by omega)
    exact ⟨r, evp c1 r1, r2⟩
  · by_cases c2 : q > 0
    · obtain ⟨r, r1, r2⟩ := pos (by omega) (by omega)
      rw [decide_eq_true c2]
      exact ⟨r, evn c1 r1, r2⟩
    · obtain ⟨r, r1, r2⟩ := neg (by omega) (by omega)
      rw [decide_eq_false c2]
      exact ⟨r, evn c1 r1, r2⟩
theorem alg_lin1 {p q x y T a b d : Int} : p * (T * x + a) + q * (T * y + b) = T * (p * x + q * y + q) + p * a + (q * b - q * T) := by grind
theorem alg_lin2 {p q x y T a b d : Int} : p * (T * x + a) + q * (T * y + b) = T * (p * x + q * y + p) + (p * a - p * T) + q * b := by grind
theorem lin_ge {p q x y T a b d : Int} (hT : 0 < T) (ha : 0 ≤ a ∧ a < T) (hb : 0 ≤ b ∧ b < T) (hs : (0 ≤ p ∧ q ≤ 0) ∨ (p ≤ 0 ∧ 0 ≤ q)) (h1 : d ≤ p * x + q * y + p) (h2 : d ≤ p * x + q * y + q) : T * d ≤ p * (T * x + a) + q * (T * y + b) := by
  rcases hs with ⟨h3, h4⟩ | ⟨h3, h4⟩
  · have k1 : 0 ≤ p * a := Int.mul_nonneg h3 ha.1
    have k2 : q * T ≤ q * b := Int.mul_le_mul_of_nonpos_left h4 (by omega)
    have k3 : T * d ≤ T * (p * x + q * y + q) := Int.mul_le_mul_of_nonneg_left h2 (by omega)
    rw [alg_lin1 (d := d)]
    omega
  · have k1 : 0 ≤ q * b := Int.mul_nonneg h4 hb.1
    have k2 : p * T ≤ p * a := Int.mul_le_mul_of_nonpos_left h3 (by omega)
    have k3 : T * d ≤ T * (p * x + q * y + p) := Int.mul_le_mul_of_nonneg_left h1 (by omega)
    rw [alg_lin2 (d := d)]
    omega
theorem mul_bound {k r : Int} (hk : 0 ≤ k ∧ k ≤ 2147483648) (hr : -2147483648 ≤ r ∧ r ≤ 2147483648) : -4611686018427387904 ≤ k * r ∧ k * r ≤ 4611686018427387904 := by
  have h1 : k * r ≤ k * 2147483648 := Int.mul_le_mul_of_nonneg_left hr.2 hk.1
  have h2 : k * (-2147483648) ≤ k * r := Int.mul_le_mul_of_nonneg_left hr.1 hk.1
  omega
theorem alg_l1 {p q r s x y k u v : Int} (hu : u = p * x + q * y) (hv : v = r * x + s * y) : u - k * v = (p - k * r) * x + (q - k * s) * y := by rw [hu, hv]; grind
theorem alg_l2 {p q r s n m k : Int} : (p - k * r) * n + (q - k * s) * m = (p * n + q * m) - k * (r * n + s * m) := by grind
theorem alg_l3 {p q r s n m k : Int} : ((k + 1) * r - p) * n + ((k + 1) * s - q) * m = (k + 1) * (r * n + s * m) - (p * n + q * m) := by grind
theorem alg_l4 {u p v r k : Int} : (u - k * v) + (p - k * r) = (u + p) - k * (v + r) := by grind
theorem alg_l5 {x y p q r s u v k g h : Int} (hu : u = p * x + q * y) (hv : v = r * x + s * y) : ((k + 1) * r - p) * x + ((k + 1) * s - q) * y + ((k + 1) * g - h) = (k + 1) * (v + g) - (u + h) := by rw [hu, hv]; grind
theorem alg_l6 {k A : Int} : (k + 1) * A = k * A + A := by grind
end Go.Proofs.YtjimdhlmeebjeaaGreat.P
end
section
namespace Go.Proofs.YtjimdhlmeebjeaaGreat.P
open Go.RowKit Go.Proofs.YtjimdhlmeebjeaaGreatW.PrintWords Go.Proofs.YtjimdhlmeebjeaaGreatW.PrintLast Go.Proofs.YtjimdhlmeebjeaaGreatW.PrintMore
set_option linter.unusedVariables false
def LehmerR (n m : Int) (R : List Int × List Int × Bool) : Prop := R.2.2 = true → ∃ C D, Can WW R.1 C ∧ Can WW R.2.1 D ∧ gI C D = gI n m ∧ D ≤ C ∧ D < m ∧ C ≤ n
theorem lehmer_j2 {a b : List Int} {n m p q r s : Int} (la : a.length < 1073741824) (lb : b.length < 1073741824) (ha : Can WW a n) (hb : Can WW b m)
    (h1 : (0 ≤ p ∧ q ≤ 0) ∨ (p ≤ 0 ∧ 0 ≤ q)) (h2 : (0 ≤ r ∧ s ≤ 0) ∨ (r ≤ 0 ∧ 0 ≤ s))
    (bp : -2147483648 ≤ p ∧ p ≤ 2147483648) (bq : -2147483648 ≤ q ∧ q ≤ 2147483648) (br : -2147483648 ≤ r ∧ r ≤ 2147483648) (bs : -2147483648 ≤ s ∧ s ≤ 2147483648)
    (hA : 0 ≤ p * n + q * m) (hB : 0 ≤ r * n + s * m) (hg : gI (p * n + q * m) (r * n + s * m) = gI n m) (hn : p * n + q * m ≤ n) (hBA : r * n + s * m ≤ p * n + q * m) (hm : q ≠ 0 → r * n + s * m < m) :
    ∃ R, Ev (fun k => mag_lehmer.j2 k a b p q r s) R ∧ LehmerR n m R := by
  by_cases c : q = 0
  · refine ⟨([], [], false), ?_, fun h => by simp at h⟩
    refine Ev.step (fun k => by rw [mag_lehmer.j2]) ?_
    exact evp c (evs _)
  · obtain ⟨x, x1, x2⟩ := combine_sp la lb ha hb h1 (by omega) (by omega) hA
    obtain ⟨y, y1, y2⟩ := combine_sp la lb ha hb h2 (by omega) (by omega) hB
    refine ⟨(x, y, true), ?_, fun _ => ⟨_, _, x2, y2, hg, hBA, hm c, hn⟩⟩
    refine Ev.step (fun k => by rw [mag_lehmer.j2]) ?_
    exact evn c (Ev.bind x1 (Ev.bind y1 (evs _)))
theorem lehmer_l0 {a b : List Int} {n m x y T a' b' : Int} (la : a.length < 1073741824) (lb : b.length < 1073741824) (ha : Can WW a n) (hb : Can WW b m) (hT : 0 < T) (hn : n = T * x + a') (hm : m = T * y + b') (ha' : 0 ≤ a' ∧ a' < T) (hb' : 0 ≤ b' ∧ b' < T) (c : Nat) :
    ∀ p q r s u v : Int, (v + r).toNat = c → u = p * x + q * y → v = r * x + s * y →
    ((0 ≤ p ∧ q ≤ 0 ∧ r ≤ 0 ∧ 0 ≤ s) ∨ (p ≤ 0 ∧ 0 ≤ q ∧ 0 ≤ r ∧ s ≤ 0)) →
    (0 ≤ u + p ∧ u + p ≤ 2147483648) → (0 ≤ u + q ∧ u + q ≤ 2147483648) → (0 ≤ v + r ∧ v + r ≤ 2147483648) → (0 ≤ v + s ∧ v + s ≤ 2147483648) →
    gI (p * n + q * m) (r * n + s * m) = gI n m → r * n + s * m ≤ m → p * n + q * m ≤ n → r * n + s * m ≤ p * n + q * m → (q ≠ 0 → r * n + s * m < m) → m ≤ n →
    ∃ R, Ev (fun k => mag_lehmer.l0 k a b p q r s u v) R ∧ LehmerR n m R := by
  induction c using Nat.strongRecOn with
  | _ c ih =>
    intro p q r s u v hc hu hv hs bp bq br bs hg hBm hAn hBA hq hmn
    have hA : 0 ≤ p * n + q * m := by
      have := lin_ge (p := p) (q := q) (x := x) (y := y) (d := 0) hT ha' hb' (by omega) (by rw [← hu]; omega) (by rw [← hu]; omega)
      rw [hn, hm]; omega
    have hB : 0 ≤ r * n + s * m := by
      have := lin_ge (p := r) (q := s) (x := x) (y := y) (d := 0) hT ha' hb' (by omega) (by rw [← hv]; omega) (by rw [← hv]; omega)
      rw [hn, hm]; omega
    obtain ⟨R0, e1, e2⟩ := lehmer_j2 (p := p) (q := q) (r := r) (s := s) la lb ha hb (by omega) (by omega) (by omega) (by omega) (by omega) (by omega) hA hB hg hAn hBA hq
    have stop : Ev (fun k => mag_lehmer.j1 k a b p q r s u v false) R0 := by
      refine Ev.step (fun k => by rw [mag_lehmer.j1]) ?_
      exact evn (by simp) e1
    by_cases c1 : v + r = 0
    · refine ⟨R0, ?_, e2⟩
      refine Ev.step (fun k => by rw [mag_lehmer.l0]) ?_
      rw [w64 (x := v + r) (by omega) (by omega)]
      exact evp c1 stop
    · by_cases c2 : v + s = 0
      · refine ⟨R0, ?_, e2⟩
        refine Ev.step (fun k => by rw [mag_lehmer.l0]) ?_
        rw [w64 (x := v + r) (by omega) (by omega), w64 (x := v + s) (by omega) (by omega), show (v + s != 0) = false by simp [c2]]
        exact evn c1 stop
      · have step : ∀ R, Ev (fun k => mag_lehmer.j1 k a b p q r s u v true) R → Ev (fun k => mag_lehmer.l0 k a b p q r s u v) R := by
          intro R h
          refine Ev.step (fun k => by rw [mag_lehmer.l0]) ?_
          rw [w64 (x := v + r) (by omega) (by omega), w64 (x := v + s) (by omega) (by omega), show (v + s != 0) = true by simp [c2]]
          exact evn c1 h
        have k0 : 0 ≤ (u + p) / (v + r) := Int.ediv_nonneg (by omega) (by omega)
        have k1 : (u + p) / (v + r) ≤ u + p := Int.ediv_le_self _ (by omega)
        have g0 : 0 ≤ (u + q) / (v + s) := Int.ediv_nonneg (by omega) (by omega)
        have g1 : (u + q) / (v + s) ≤ u + q := Int.ediv_le_self _ (by omega)
        have d1 := Int.mul_ediv_add_emod (u + p) (v + r)
        have d2 := Int.emod_nonneg (u + p) (show v + r ≠ 0 by omega)
        have d3 := Int.emod_lt_of_pos (u + p) (show 0 < v + r by omega)
        have f1 := Int.mul_ediv_add_emod (u + q) (v + s)
        have f2 := Int.emod_nonneg (u + q) (show v + s ≠ 0 by omega)
        have f3 := Int.emod_lt_of_pos (u + q) (show 0 < v + s by omega)
        generalize hk : (u + p) / (v + r) = K at k0 k1 d1
        generalize hk2 : (u + q) / (v + s) = K2 at g0 g1 f1
        generalize (u + p) % (v + r) = w1 at d1 d2 d3
        generalize (u + q) % (v + s) = w2 at f1 f2 f3
        have tests : ∀ R, (K = K2 → Ev (fun k => mag_lehmer.l0 k a b r s (p - K * r) (q - K * s) v (u - K * v)) R) → (K ≠ K2 → Ev (fun k => mag_lehmer.j2 k a b p q r s) R) → Ev (fun k => mag_lehmer.j1 k a b p q r s u v true) R := by
          intro R h1 h2
          refine Ev.step (fun k => by rw [mag_lehmer.j1]) ?_
          have m1 := mul_bound (k := K) (r := r) ⟨k0, by omega⟩ (by omega)
          have m2 := mul_bound (k := K) (r := s) ⟨k0, by omega⟩ (by omega)
          have m3 := mul_bound (k := K) (r := v) ⟨k0, by omega⟩ (by omega)
          rw [w64 (x := v + r) (by omega) (by omega), w64 (x := v + s) (by omega) (by omega), w64 (x := u + p) (by omega) (by omega), w64 (x := u + q) (by omega) (by omega), tdiv_nn (x := u + p) (by omega), tdiv_nn (x := u + q) (by omega), hk, hk2,
            w64 (x := K) (by omega) (by omega), w64 (x := K2) (by omega) (by omega), w64 (x := K * r) (by omega) (by omega), w64 (x := K * s) (by omega) (by omega), w64 (x := K * v) (by omega) (by omega), w64 (x := p - K * r) (by omega) (by omega), w64 (x := q - K * s) (by omega) (by omega), w64 (x := u - K * v) (by omega) (by omega)]
          refine evp rfl (evn c1 (evn c2 ?_))
          by_cases c3 : K = K2
          · exact evp c3 (h1 c3)
          · exact evn c3 (h2 c3)
        by_cases c3 : K = K2
        · subst c3
          have s1 : (u - K * v) + (p - K * r) = w1 := by rw [alg_l4, Int.mul_comm K]; omega
          have s2 : (u - K * v) + (q - K * s) = w2 := by rw [alg_l4, Int.mul_comm K]; omega
          have sg : (0 ≤ r ∧ s ≤ 0 ∧ p - K * r ≤ 0 ∧ 0 ≤ q - K * s) ∨ (r ≤ 0 ∧ 0 ≤ s ∧ 0 ≤ p - K * r ∧ q - K * s ≤ 0) := by
            rcases hs with ⟨t1, t2, t3, t4⟩ | ⟨t1, t2, t3, t4⟩
            · have i1 := Int.mul_nonpos_of_nonneg_of_nonpos k0 t3
              have i2 := Int.mul_nonneg k0 t4
              exact .inr ⟨t3, t4, by omega, by omega⟩
            · have i1 := Int.mul_nonneg k0 t3
              have i2 := Int.mul_nonpos_of_nonneg_of_nonpos k0 t4
              exact .inl ⟨t3, t4, by omega, by omega⟩
          have lt : (p - K * r) * n + (q - K * s) * m < r * n + s * m := by
            have i := lin_ge (p := (K + 1) * r - p) (q := (K + 1) * s - q) (x := x) (y := y) (d := 1) hT ha' hb' (by
              rw [alg_l6, alg_l6]
              omega) (by
              rw [alg_l5 hu hv, alg_l6, Int.mul_comm K]
              omega) (by
              rw [alg_l5 hu hv, alg_l6, Int.mul_comm K]
              omega)
            rw [← hn, ← hm, alg_l3, alg_l6] at i
            rw [alg_l2]
            omega
          obtain ⟨R, r1, r2⟩ := ih (u - K * v + (p - K * r)).toNat (by rw [s1]; omega) r s (p - K * r) (q - K * s) v (u - K * v) rfl hv (alg_l1 hu hv) sg (by omega) (by omega) (by omega) (by omega)
            (by rw [alg_l2, gI_sub]; exact hg) (by omega) (by omega) (by omega) (fun _ => by omega) hmn
          exact ⟨R, step R (tests R (fun _ => r1) (fun h => absurd rfl h)), r2⟩
        · exact ⟨R0, step R0 (tests R0 (fun h => absurd h c3) (fun _ => e1)), e2⟩
theorem lehmer_sp {a b : List Int} {n m : Int} (la : a.length < 1073741824) (lb : b.length < 1073741824) (hb2 : 2 < b.length) (ha : Can WW a n) (hb : Can WW b m) (hmn : m ≤ n) : ∃ R, Ev (fun k => mag_lehmer.f k a b) R ∧ LehmerR n m R := by
  have lba := can_len_le ha hb hmn
  have n0 := ha.nonneg WW_pos
  have m0 := hb.nonneg WW_pos
  have mz := hb.len_iff WW_pos
  have m1 : m ≠ 0 := fun h => by have := mz.2 h; omega
  obtain ⟨A, A1, A2, A3, A4⟩ := mag_Bits_sp (by omega) ha
  obtain ⟨B, B1, B2, B3, B4⟩ := mag_Bits_sp (by omega) hb
  obtain ⟨A5, A6, A7, A8⟩ := A4 (by omega)
  clear A3 A4 B3 B4
  unfold mag_lehmer.f
  rw [A1, B1]
  simp only [Option.bind_some]
  rw [w64 (x := (A : Int) - 20) (by omega) (by omega), w64 (x := (A : Int) - 31) (by omega) (by omega), show (A : Int) - 31 = ((A - 31 : Nat) : Int) by omega]
  by_cases c : (B : Int) < (A : Int) - 20
  · exact ⟨([], [], false), evp c (evs _), fun h => by simp at h⟩
  · obtain ⟨x, x1, x2, x3⟩ := mag_Shr_sp (A - 31) (by omega) (by omega) ha
    obtain ⟨y, y1, y2, y3⟩ := mag_Shr_sp (A - 31) (by omega) (by omega) hb
    have hT := two_pos (A - 31)
    have e : (2 : Int) ^ A = 2 ^ (A - 31) * 2147483648 := by
      rw [show (2147483648 : Int) = 2 ^ 31 by decide, ← Int.pow_add]
      congr 1
      omega
    rw [e] at A6
    clear e A5
    generalize (2 : Int) ^ (A - 31) = T at hT A6 x2 y2
    have q1 : n / T < 2147483648 := Int.ediv_lt_of_lt_mul hT (by rw [Int.mul_comm]; exact A6)
    have q2 : m / T ≤ n / T := Int.ediv_le_ediv hT hmn
    have q3 : 0 ≤ m / T := Int.ediv_nonneg m0 (by omega)
    have hW2 : WW ^ 2 = 18446744073709551616 := by decide
    have sx := mag_Small2_sp x2 (x2.len_le (k := 2) WW_one (by omega))
    have sy := mag_Small2_sp y2 (y2.len_le (k := 2) WW_one (by omega))
    have i1 := Int.emod_nonneg n (show T ≠ 0 by omega)
    have i2 := Int.emod_lt_of_pos n hT
    have i3 := Int.emod_nonneg m (show T ≠ 0 by omega)
    have i4 := Int.emod_lt_of_pos m hT
    have j1 := Int.mul_ediv_add_emod n T
    have j2 := Int.mul_ediv_add_emod m T
    obtain ⟨R, r1, r2⟩ := lehmer_l0 la lb ha hb hT j1.symm j2.symm ⟨i1, i2⟩ ⟨i3, i4⟩ _ 1 0 0 1 (n / T) (m / T) rfl (by omega) (by omega) (by omega) (by omega) (by omega) (by omega) (by omega)
      (by rw [Int.one_mul, Int.zero_mul, Int.zero_mul, Int.one_mul, Int.add_zero, Int.zero_add]) (by omega) (by omega) (by omega) (fun h => absurd rfl h) hmn
    refine ⟨R, evn c (Ev.bind x1 (evb sx (Ev.bind y1 (evb sy ?_)))), r2⟩
    show Ev (fun k => mag_lehmer.l0 k a b 1 0 0 1 (wrap64 (n / T)) (wrap64 (m / T))) R
    rw [w64 (x := n / T) (by omega) (by omega), w64 (x := m / T) (by omega) (by omega)]
    exact r1
theorem mag_gcd_l1 (c : Nat) : ∀ x y : Int, y.toNat = c → 0 ≤ x → x < 18446744073709551616 → 0 ≤ y → y < 18446744073709551616 → ∃ r, Ev (fun k => mag_GCD.l1 k x y) r ∧ Can WW r (gI x y) := by
  induction c using Nat.strongRecOn with
  | _ c ih =>
    intro x y hc x0 x1 y0 y1
    by_cases c1 : y = 0
    · subst c1
      obtain ⟨r, r1, r2⟩ := mag_From_sp x0 x1
      rw [gI_zero x0]
      refine ⟨r, ?_, r2⟩
      refine Ev.step (fun k => by rw [mag_GCD.l1]) ?_
      exact evp rfl (Ev.bind r1 (evs _))
    · have m0 := Int.emod_nonneg x (show y ≠ 0 by omega)
      have m1 := Int.emod_lt_of_pos x (show 0 < y by omega)
      obtain ⟨r, r1, r2⟩ := ih (x % y).toNat (by omega) y (x % y) rfl y0 y1 m0 (by omega)
      rw [gI_mod] at r2
      refine ⟨r, ?_, r2⟩
      refine Ev.step (fun k => by rw [mag_GCD.l1]) ?_
      rw [tmod_nn x0]
      exact evn c1 r1
theorem mag_gcd_l0 (c : Nat) : ∀ (a b : List Int) (n m : Int), m.toNat = c → a.length < 1073741824 → Can WW a n → Can WW b m → m ≤ n → ∃ r, Ev (fun k => mag_GCD.l0 k a b) r ∧ Can WW r (gI n m) := by
  induction c using Nat.strongRecOn with
  | _ c ih =>
    intro a b n m hc la ha hb hmn
    have lba := can_len_le ha hb hmn
    have n0 := ha.nonneg WW_pos
    have m0 := hb.nonneg WW_pos
    have hz := hb.len_iff WW_pos
    have hW2 : WW ^ 2 = 18446744073709551616 := by decide
    by_cases c1 : 2 < b.length
    · have mp : 0 < m := by
        rcases Int.lt_or_le 0 m with h | h
        · exact h
        · have := hz.2 (by omega)
          omega
      obtain ⟨R, r1, r2⟩ := lehmer_sp la (by omega) c1 ha hb hmn
      obtain ⟨x, y, f⟩ := R
      cases f with
      | true =>
        obtain ⟨C, D, s1, s2, s3, s4, s5, s6⟩ := r2 rfl
        have D0 := s2.nonneg WW_pos
        have lc := can_len_le ha s1 s6
        obtain ⟨z, z1, z2⟩ := ih D.toNat (by omega) x y C D rfl (by show x.length < _; have : x.length ≤ a.length := lc; omega) s1 s2 s4
        rw [s3] at z2
        refine ⟨z, ?_, z2⟩
        refine Ev.step (fun k => by rw [mag_GCD.l0]) ?_
        exact evp (by omega) (Ev.bind r1 (evp rfl z1))
      | false =>
        have q0 := Int.emod_nonneg n (show m ≠ 0 by omega)
        have q1 := Int.emod_lt_of_pos n mp
        obtain ⟨q, r, d1, d2, d3⟩ := mag_DivMod_sp (by omega) ha hb mp
        obtain ⟨z, z1, z2⟩ := ih (n % m).toNat (by omega) b r m (n % m) rfl (by omega) hb d3 (by omega)
        rw [gI_mod] at z2
        refine ⟨z, ?_, z2⟩
        refine Ev.step (fun k => by rw [mag_GCD.l0]) ?_
        exact evp (by omega) (Ev.bind r1 (evn (by simp) (Ev.bind d1 z1)))
    · by_cases c2 : b.length = 0
      · rw [hz.1 c2, gI_zero n0]
        refine ⟨a, ?_, ha⟩
        refine Ev.step (fun k => by rw [mag_GCD.l0]) ?_
        exact evn (by omega) (evp (by omega) (evp (by simp; omega) (evs _)))
      · have mp : 0 < m := by
          rcases Int.lt_or_le 0 m with h | h
          · exact h
          · have := hz.2 (by omega)
            omega
        have q0 := Int.emod_nonneg n (show m ≠ 0 by omega)
        have q1 := Int.emod_lt_of_pos n mp
        obtain ⟨q, r, d1, d2, d3⟩ := mag_DivMod_sp (by omega) ha hb mp
        have hlt := hb.lt WW_pos
        have h4 := pow_le (B := WW) (by decide) (show b.length ≤ 2 by omega)
        have l3 := d3.len_le (k := 2) WW_one (by omega)
        have e1 := mag_Small2_sp hb (by omega)
        have e2 := mag_Small2_sp d3 l3
        obtain ⟨z, z1, z2⟩ := mag_gcd_l1 _ m (n % m) rfl m0 (by omega) q0 (by omega)
        rw [gI_mod] at z2
        refine ⟨z, ?_, z2⟩
        refine Ev.step (fun k => by rw [mag_GCD.l0]) ?_
        exact evn (by omega) (evn (by omega) (Ev.bind d1 (evb e1 (evb e2 z1))))
theorem mag_GCD_sp {a b : List Int} {n m : Int} (la : a.length < 1073741824) (lb : b.length < 1073741824) (ha : Can WW a n) (hb : Can WW b m) : ∃ r, Ev (fun k => mag_GCD.f k a b) r ∧ Can WW r (gI n m) := by
  have hc := mag_Cmp_sp (by omega) ha hb
  unfold mag_GCD.f
  by_cases c : n < m
  · obtain ⟨r, r1, r2⟩ := mag_gcd_l0 _ b a m n rfl lb hb ha (by omega)
    rw [gI_comm] at r2
    refine ⟨r, Ev.bind hc (evp ?_ ?_), r2⟩
    · unfold cmpi; rw [if_pos c]; omega
    · exact Ev.step (fun k => by rw [mag_GCD.j0]) r1
  · obtain ⟨r, r1, r2⟩ := mag_gcd_l0 _ a b n m rfl la ha hb (by omega)
    refine ⟨r, Ev.bind hc (evn ?_ ?_), r2⟩
    · unfold cmpi; rw [if_neg c]; split <;> omega
    · exact Ev.step (fun k => by rw [mag_GCD.j0]) r1
end Go.Proofs.YtjimdhlmeebjeaaGreat.P
end
section
namespace Go.Proofs.YtjimdhlmeebjeaaGreat.P
open Go.RowKit Go.Proofs.YtjimdhlmeebjeaaGreatW.PrintWords Go.Proofs.YtjimdhlmeebjeaaGreatW.PrintLast Go.Proofs.YtjimdhlmeebjeaaGreatW.PrintMore
set_option linter.unusedVariables false
def sv (s : ByteArray) : Nat → Int
  | 0 => 0
  | i + 1 => sv s i * 10 + (bt s (i : Int) - 48)
end Go.Proofs.YtjimdhlmeebjeaaGreat.P
end
section
namespace Go.Proofs.YtjimdhlmeebjeaaGreat.Q
open Go.RowKit Go.Proofs.YtjimdhlmeebjeaaGreatW.PrintWords Go.Proofs.YtjimdhlmeebjeaaGreatW.PrintMore Go.Proofs.YtjimdhlmeebjeaaGreat.V Go.Proofs.YtjimdhlmeebjeaaGreat.E
open Go.Proofs.YtjimdhlmeebjeaaGreat.P (Dg Nm vl WW RR can_uniq gI evs evk evb cmpi WW_pos WW_one)
set_option linter.unusedVariables false
theorem bT {α : Type} {c : Bool} {f g : Nat → Option α} {r : α} (hc : c = true) (h : Ev f r) : Ev (fun k => bif c then f k else g k) r := by subst hc; exact h
theorem bF {α : Type} {c : Bool} {f g : Nat → Option α} {r : α} (hc : c = false) (h : Ev g r) : Ev (fun k => bif c then f k else g k) r := by subst hc; exact h
theorem iT {α : Type} {c : Prop} [Decidable c] {f : Nat → Option α} {r : α} (hc : c) (h : Ev f r) : Ev (fun k => if c then f k else none) r := by simpa only [if_pos hc] using h
theorem evmap {α β : Type} {f : Nat → Option α} {g : α → β} {r : α} (h : Ev f r) : Ev (fun k => (f k).map g) (g r) := by
  obtain ⟨K, h⟩ := h
  exact ⟨K, fun k hk => by simp only [h k hk, Option.map_some]⟩
def sg (s : Bool) (x : Int) : Int := if s then -x else x
def RB (B : Int) (v : RatD) (q : Rat) : Prop := v.1 = decide (q.num < 0) ∧ P.Can B v.2.1 (q.num.natAbs : Int) ∧ P.Can B v.2.2.1 (q.den : Int)
theorem can1 {B : Int} (h : 1 < B) : P.Can B [1] 1 := ⟨Dg.mk (by decide) h (Dg.nil _), fun h => by simp, by simp [vl]⟩
theorem rb_zero {B : Int} (h : 1 < B) : RB B (false, [], [1], ()) 0 := ⟨rfl, P.Can.zero B, can1 h⟩
theorem gI_swap (x y : Int) : ((y.gcd x : Nat) : Int) = gI x y := by unfold gI; rw [Int.gcd_comm]
theorem rb_frac {B : Int} {s : Bool} {l d : List Int} {x y : Int} (hx : 0 < x) (hy : 0 < y) (hl : P.Can B l (x / gI x y)) (hd : P.Can B d (y / gI x y)) : RB B (s, l, d, ()) (Rat.divInt (sg s x) y) := by
  have hg : 0 < gI x y := by
    unfold gI
    have := Int.gcd_pos_of_ne_zero_left y (show x ≠ 0 by omega)
    omega
  have hgx : gI x y ∣ x := Int.gcd_dvd_left ..
  have hgy : gI x y ∣ y := Int.gcd_dvd_right ..
  have hq : 0 < x / gI x y := Int.ediv_pos_of_pos_of_dvd hx (by omega) hgx
  have hr : 0 < y / gI x y := Int.ediv_pos_of_pos_of_dvd hy (by omega) hgy
  have hsg : ((y.gcd (sg s x) : Nat) : Int) = gI x y := by
    unfold sg
    cases s with
    | true => simp only [if_true, Int.gcd_neg]; exact gI_swap x y
    | false => exact gI_swap x y
  have hnum : (Rat.divInt (sg s x) y).num = sg s (x / gI x y) := by
    rw [Rat.num_divInt, hsg, Int.sign_eq_one_of_pos hy, Int.one_mul]
    unfold sg
    cases s with
    | true => simp only [if_true]; exact Int.neg_ediv_of_dvd hgx
    | false => rfl
  have hden : ((Rat.divInt (sg s x) y).den : Int) = y / gI x y := by
    rw [Rat.den_divInt, if_neg (by omega), Int.natCast_ediv, hsg]
    congr 1
    omega
  refine ⟨?_, ?_, ?_⟩
  · show s = _
    rw [hnum]
    unfold sg
    cases s with
    | true => simp only [if_true]; exact (decide_eq_true (by omega)).symm
    | false => exact (decide_eq_false (by simp; omega)).symm
  · show P.Can B l _
    rw [hnum]
    have : ((sg s (x / gI x y)).natAbs : Int) = x / gI x y := by
      unfold sg
      cases s with
      | true => simp only [if_true]; omega
      | false => simp; omega
    rw [this]
    exact hl
  · show P.Can B d _
    rw [hden]
    exact hd
theorem frac_zero (s : Bool) (y : Int) : Rat.divInt (sg s 0) y = 0 := by unfold sg; cases s <;> simp
theorem rb_val {B : Int} {v : RatD} {q : Rat} (h : RB B v q) : Rat.divInt (sg v.1 q.num.natAbs) q.den = q := by
  have : sg v.1 q.num.natAbs = q.num := by
    unfold sg
    rw [h.1]
    by_cases c : q.num < 0
    · rw [if_pos (decide_eq_true c)]; omega
    · rw [if_neg (by simpa using c)]; omega
  rw [this, Rat.num_divInt_den]
theorem sg_val {B : Int} {v : RatD} {q : Rat} (h : RB B v q) : sg v.1 q.num.natAbs = q.num := by
  unfold sg
  rw [h.1]
  by_cases c : q.num < 0
  · rw [if_pos (decide_eq_true c)]; omega
  · rw [if_neg (by simpa using c)]; omega
theorem den_pos' (q : Rat) : (0 : Int) < q.den := by have := q.den_pos; omega
def Sz (B : Int) (K : Nat) (q : Rat) : Prop := (q.num.natAbs : Int) < B ^ K ∧ (q.den : Int) < B ^ K
theorem sz_of {B : Int} (hB : 0 < B) {v : RatD} {q : Rat} (h : RB B v q) {K : Nat} (h1 : v.2.1.length ≤ K) (h2 : v.2.2.1.length ≤ K) : Sz B K q :=
  ⟨Int.lt_of_lt_of_le (h.2.1.lt hB) (P.pow_le (by omega) h1), Int.lt_of_lt_of_le (h.2.2.lt hB) (P.pow_le (by omega) h2)⟩
theorem sz_len {B : Int} (hB : 1 < B) {v : RatD} {q : Rat} (h : RB B v q) {K : Nat} (hs : Sz B K q) : v.2.1.length ≤ K ∧ v.2.2.1.length ≤ K := ⟨h.2.1.len_le hB hs.1, h.2.2.len_le hB hs.2⟩
theorem sz_mono {B : Int} (hB : 0 < B) {q : Rat} {K L : Nat} (hs : Sz B K q) (h : K ≤ L) : Sz B L q := ⟨Int.lt_of_lt_of_le hs.1 (P.pow_le (by omega) h), Int.lt_of_lt_of_le hs.2 (P.pow_le (by omega) h)⟩
theorem sz_frac {B : Int} {s : Bool} {x y : Int} {K : Nat} (hx : 0 ≤ x) (hy : 0 < y) (h1 : x < B ^ K) (h2 : y < B ^ K) : Sz B K (Rat.divInt (sg s x) y) := by
  have hsx : (sg s x).natAbs = x.natAbs := by unfold sg; cases s <;> simp
  constructor
  · rw [Rat.num_divInt, Int.sign_eq_one_of_pos hy, Int.one_mul]
    have : ((sg s x) / ((y.gcd (sg s x) : Nat) : Int)).natAbs ≤ (sg s x).natAbs := by
      rw [Int.natAbs_ediv_of_dvd (Int.gcd_dvd_right ..)]
      exact Nat.div_le_self ..
    omega
  · rw [Rat.den_divInt, if_neg (by omega)]
    have : y.natAbs / (y.gcd (sg s x)) ≤ y.natAbs := Nat.div_le_self ..
    omega
end Go.Proofs.YtjimdhlmeebjeaaGreat.Q
end
section
namespace Go.Proofs.YtjimdhlmeebjeaaGreat.Q
open Go.RowKit Go.Proofs.YtjimdhlmeebjeaaGreatW.PrintWords Go.Proofs.YtjimdhlmeebjeaaGreatW.PrintMore Go.Proofs.YtjimdhlmeebjeaaGreat.V Go.Proofs.YtjimdhlmeebjeaaGreat.E
open Go.Proofs.YtjimdhlmeebjeaaGreat.P (Dg Nm vl WW RR can_uniq gI evs evk evb cmpi WW_pos WW_one w64 u64)
set_option linter.unusedVariables false
section
variable {a b : List Int} {n m : Int}
theorem q_Mul (hn : a.length + b.length < 1099511627776) (ha : P.Can WW a n) (hb : P.Can WW b m) : ∃ r, Ev (fun k => mag_Mul k a b) r ∧ P.Can WW r (n * m) ∧ r.length ≤ a.length + b.length := by
  obtain ⟨r, h1, h2⟩ := P.mag_Mul_sp hn ha hb
  exact ⟨r, Ev.step (fun k => mag_Mul_eq k a b) h1, h2⟩
theorem q_Add (hla : a.length < 1099511627776) (hlb : b.length < 1099511627776) (ha : P.Can WW a n) (hb : P.Can WW b m) : ∃ r, Ev (fun k => mag_Add k a b) r ∧ P.Can WW r (n + m) ∧ r.length ≤ max a.length b.length + 1 := by
  obtain ⟨r, h1, h2⟩ := P.mag_Add_sp hla hlb ha hb
  exact ⟨r, Ev.step (fun k => mag_Add_eq k a b) h1, h2⟩
theorem q_Sub (hn : a.length < 1099511627776) (ha : P.Can WW a n) (hb : P.Can WW b m) (hle : m ≤ n) : ∃ r, Ev (fun k => mag_Sub k a b) r ∧ P.Can WW r (n - m) ∧ r.length ≤ a.length := by
  obtain ⟨r, h1, h2⟩ := P.mag_Sub_sp hn ha hb hle
  exact ⟨r, Ev.step (fun k => mag_Sub_eq k a b) h1, h2⟩
theorem q_Cmp (hn : a.length < 4611686018427387904) (ha : P.Can WW a n) (hb : P.Can WW b m) : Ev (fun k => mag_Cmp k a b) (cmpi n m) := Ev.step (fun k => mag_Cmp_eq k a b) (P.mag_Cmp_sp hn ha hb)
theorem q_GCD (la : a.length < 1073741824) (lb : b.length < 1073741824) (ha : P.Can WW a n) (hb : P.Can WW b m) : ∃ r, Ev (fun k => mag_GCD k a b) r ∧ P.Can WW r (gI n m) := by
  obtain ⟨r, h1, h2⟩ := P.mag_GCD_sp la lb ha hb
  exact ⟨r, Ev.step (fun k => mag_GCD_eq k a b) h1, h2⟩
theorem q_DivMod (hn : a.length < 17179869184) (ha : P.Can WW a n) (hb : P.Can WW b m) (hm : 0 < m) : ∃ q r, Ev (fun k => mag_DivMod k a b) (q, r, ()) ∧ P.Can WW q (n / m) ∧ P.Can WW r (n % m) := by
  obtain ⟨q, r, h1, h2⟩ := P.mag_DivMod_sp hn ha hb hm
  exact ⟨q, r, Ev.step (fun k => mag_DivMod_eq k a b) (evmap (g := fun r : List Int × List Int => (r.1, r.2, ())) h1), h2⟩
theorem gcd_pos {x y : Int} (hy : 0 < y) : 0 < gI x y := by
  unfold P.gI
  have := Int.gcd_pos_of_ne_zero_right x (show y ≠ 0 by omega)
  omega
theorem one_tst {l : List Int} {z : Int} (h : P.Can WW l z) (hz : 0 < z) (h1 : z ≠ 1) : (bif (List.length l : Int) != (1 : Int) then some true else if 0 ≤ (0 : Int) ∧ (0 : Int) < (List.length l : Int) then some ((rdT (t := (.int .u32)) l (0 : Int) : Int) != (1 : Int)) else none) = some true := by
  match l, h with
  | [], h => rfl
  | [x], h =>
    have hx : x = z := by have := h.2.2; simp [vl] at this; exact this
    have hr : (rdT (t := (.int .u32)) [x] (0 : Int) : Int) = x := rfl
    rw [hr]
    have : (x != (1 : Int)) = true := by simp; omega
    rw [this]
    simp
  | x :: y :: t, h =>
    have : ((List.length (x :: y :: t) : Int) != (1 : Int)) = true := by simp; omega
    rw [this]
    rfl
theorem one_tst' {l : List Int} {z : Int} (h : P.Can WW l z) (hz : z = 1) : (bif (List.length l : Int) != (1 : Int) then some true else if 0 ≤ (0 : Int) ∧ (0 : Int) < (List.length l : Int) then some ((rdT (t := (.int .u32)) l (0 : Int) : Int) != (1 : Int)) else none) = some false := by
  subst hz
  rw [can_uniq WW_pos h (can1 WW_one)]
  rfl
theorem num_Zero_ev : Ev (fun k => num_Zero k) (false, [], [1], ()) := Ev.step (fun k => num_Zero_eq k) (evs _)
theorem len_ne {B : Int} (hB : 0 < B) {l : List Int} {x : Int} (h : P.Can B l x) (hx : x ≠ 0) : ((List.length l : Int) == (0 : Int)) = false := by
  have := h.len_iff hB
  have : l.length ≠ 0 := fun e => hx (this.1 e)
  simp
  intro e
  exact this (by simp [e])
theorem len_eq {B : Int} (hB : 0 < B) {l : List Int} {x : Int} (h : P.Can B l x) (hx : x = 0) : l = [] := (h.nil_iff hB).2 hx
theorem num_Make_sp {s : Bool} (la : a.length < 1073741824) (lb : b.length < 1073741824) (ha : P.Can WW a n) (hb : P.Can WW b m) (hm : 0 < m) : ∃ r, Ev (fun k => num_Make k s a b) r ∧ RB WW r (Rat.divInt (sg s n) m) := by
  have n0 := ha.nonneg WW_pos
  by_cases hn : n = 0
  · obtain rfl := len_eq WW_pos ha hn
    refine ⟨_, Ev.step (fun k => num_Make_eq k s [] b) (bT rfl (Ev.bind num_Zero_ev (evs _))), ?_⟩
    rw [hn, frac_zero]
    exact rb_zero WW_one
  · obtain ⟨g, g1, g2⟩ := q_GCD la lb ha hb
    have gp := gcd_pos (x := n) hm
    have fin : ∀ {u v : List Int}, u.length ≤ a.length → v.length ≤ b.length → P.Can WW u (n / gI n m) → P.Can WW v (m / gI n m) → Ev (fun k => num_Make.j0 k s u v (false, [], [], ())) (s, u, v, ()) := fun h1 h2 _ _ => by
      unfold num_Make.j0
      exact iT (by omega) (iT (by omega) (evs _))
    by_cases h1 : gI n m = 1
    · have e1 : n / gI n m = n := by rw [h1]; omega
      have e2 : m / gI n m = m := by rw [h1]; omega
      have ca : P.Can WW a (n / gI n m) := by rw [e1]; exact ha
      have cb : P.Can WW b (m / gI n m) := by rw [e2]; exact hb
      exact ⟨_, Ev.step (fun k => num_Make_eq k s a b) (bF (len_ne WW_pos ha hn) (Ev.bind g1 (Ev.bind (evk (one_tst' g2 h1)) (bF rfl (fin (Nat.le_refl _) (Nat.le_refl _) ca cb))))), rb_frac (by omega) hm ca cb⟩
    · obtain ⟨u, u', u1, u2, u3⟩ := q_DivMod (by omega) ha g2 gp
      obtain ⟨v, v', v1, v2, v3⟩ := q_DivMod (by omega) hb g2 gp
      have lu : u.length ≤ a.length := u2.len_le WW_one (Int.lt_of_le_of_lt (Int.ediv_le_self _ n0) (ha.lt WW_pos))
      have lv : v.length ≤ b.length := v2.len_le WW_one (Int.lt_of_le_of_lt (Int.ediv_le_self _ (by omega)) (hb.lt WW_pos))
      exact ⟨_, Ev.step (fun k => num_Make_eq k s a b) (bF (len_ne WW_pos ha hn) (Ev.bind g1 (Ev.bind (evk (one_tst g2 gp h1)) (bT rfl (Ev.bind u1 (Ev.bind v1 (fin lu lv u2 v2))))))), rb_frac (by omega) hm u2 v2⟩
end
end Go.Proofs.YtjimdhlmeebjeaaGreat.Q
end
section
namespace Go.Proofs.YtjimdhlmeebjeaaGreat.Q
open Go.RowKit Go.Proofs.YtjimdhlmeebjeaaGreatW.PrintWords Go.Proofs.YtjimdhlmeebjeaaGreatW.PrintMore Go.Proofs.YtjimdhlmeebjeaaGreat.V Go.Proofs.YtjimdhlmeebjeaaGreat.E
open Go.Proofs.YtjimdhlmeebjeaaGreat.P (Dg Nm vl WW RR can_uniq gI evs evk evb cmpi WW_pos WW_one w64 u64)
set_option linter.unusedVariables false
section
variable {v w : RatD} {p q : Rat} {K L : Nat}
theorem sg_mul (s t : Bool) (x y : Int) : sg (s != t) (x * y) = sg s x * sg t y := by
  unfold sg
  cases s <;> cases t <;> simp [Int.neg_mul, Int.mul_neg]
theorem sg_mul_pos (s : Bool) (x y : Int) : sg s x * y = sg s (x * y) := by
  unfold sg
  cases s <;> simp [Int.neg_mul]
theorem mul_pos' {x y : Int} (hx : 0 < x) (hy : 0 < y) : 0 < x * y := Int.mul_pos hx hy
theorem num_Mul_sp (hv : RB WW v p) (hw : RB WW w q) (hp : Sz WW K p) (hq : Sz WW L q) (h : K + L < 1073741824) : ∃ r, Ev (fun k => num_Mul k v w) r ∧ RB WW r (p * q) ∧ Sz WW (K + L) (p * q) := by
  obtain ⟨lv1, lv2⟩ := sz_len WW_one hv hp
  obtain ⟨lw1, lw2⟩ := sz_len WW_one hw hq
  obtain ⟨x, x1, x2, x3⟩ := q_Mul (by omega) hv.2.1 hw.2.1
  obtain ⟨y, y1, y2, y3⟩ := q_Mul (by omega) hv.2.2 hw.2.2
  have hd : (0 : Int) < (p.den : Int) * q.den := mul_pos' (den_pos' p) (den_pos' q)
  obtain ⟨r, r1, r2⟩ := num_Make_sp (s := v.1 != w.1) (by omega) (by omega) x2 y2 hd
  have e : Rat.divInt (sg (v.1 != w.1) ((p.num.natAbs : Int) * q.num.natAbs)) ((p.den : Int) * q.den) = p * q := by
    rw [sg_mul, sg_val hv, sg_val hw, ← Rat.divInt_mul_divInt, Rat.num_divInt_den, Rat.num_divInt_den]
  have hs : Sz WW (K + L) (p * q) := by
    rw [← e]
    refine sz_frac (Int.mul_nonneg (by omega) (by omega)) hd ?_ ?_
    · exact Int.lt_of_lt_of_le (x2.lt WW_pos) (P.pow_le (by decide) (by omega))
    · exact Int.lt_of_lt_of_le (y2.lt WW_pos) (P.pow_le (by decide) (by omega))
  rw [e] at r2
  exact ⟨r, Ev.step (fun k => num_Mul_eq k v w) (Ev.bind x1 (Ev.bind y1 (Ev.bind r1 (evs _)))), r2, hs⟩
theorem beq_ne {s t : Bool} (h : ¬ s = t) : (s == t) = false := by cases s <;> cases t <;> simp_all
theorem num_Add_j {x y d : List Int} {X Y D : Int} {s t : Bool} {u u' c : RatD} (hu : u.1 = s) (hu' : u'.1 = t) (lx : x.length < 536870912) (ly : y.length < 536870912) (ld : d.length < 1073741824) (hx : P.Can WW x X) (hy : P.Can WW y Y) (hd : P.Can WW d D) (hD : 0 < D) :
    ∃ r, Ev (fun k => num_Add.j0 k x y d u u' c) r ∧ RB WW r (Rat.divInt (sg s X + sg t Y) D) := by
  by_cases hst : s = t
  · obtain ⟨z, z1, z2, z3⟩ := q_Add (by omega) (by omega) hx hy
    obtain ⟨r, r1, r2⟩ := num_Make_sp (s := s) (by omega) ld z2 hd hD
    refine ⟨r, ?_, ?_⟩
    · unfold num_Add.j0
      rw [hu, hu']
      exact bT (by subst hst; simp) (Ev.bind z1 (Ev.bind r1 (evs _)))
    · have : sg s X + sg t Y = sg s (X + Y) := by subst hst; unfold sg; cases s <;> simp <;> omega
      rw [this]
      exact r2
  · have hc := q_Cmp (by omega) hx hy
    by_cases hxy : Y ≤ X
    · obtain ⟨z, z1, z2, z3⟩ := q_Sub (by omega) hx hy hxy
      obtain ⟨r, r1, r2⟩ := num_Make_sp (s := s) (by omega) ld z2 hd hD
      refine ⟨r, ?_, ?_⟩
      · unfold num_Add.j0
        rw [hu, hu']
        refine bF (beq_ne hst) (Ev.bind hc (bT (decide_eq_true ?_) (Ev.bind z1 (Ev.bind r1 (evs _)))))
        unfold P.cmpi
        split
        · omega
        · split <;> omega
      · have : sg s X + sg t Y = sg s (X - Y) := by
          unfold sg
          cases s <;> cases t <;> simp at hst ⊢ <;> omega
        rw [this]
        exact r2
    · obtain ⟨z, z1, z2, z3⟩ := q_Sub (by omega) hy hx (by omega)
      obtain ⟨r, r1, r2⟩ := num_Make_sp (s := t) (by omega) ld z2 hd hD
      refine ⟨r, ?_, ?_⟩
      · unfold num_Add.j0
        rw [hu, hu']
        refine bF (beq_ne hst) (Ev.bind hc (bF (decide_eq_false ?_) (Ev.bind z1 (Ev.bind r1 (evs _)))))
        unfold P.cmpi
        rw [if_pos (by omega)]
        omega
      · have : sg s X + sg t Y = sg t (Y - X) := by
          unfold sg
          cases s <;> cases t <;> simp at hst ⊢ <;> omega
        rw [this]
        exact r2
theorem add_frac (p q : Rat) : p + q = Rat.divInt (p.num * q.den + q.num * p.den) ((p.den : Int) * q.den) := by
  have h := Rat.divInt_add_divInt p.num q.num (d₁ := (p.den : Int)) (d₂ := (q.den : Int)) (by have := den_pos' p; omega) (by have := den_pos' q; omega)
  rw [Rat.num_divInt_den, Rat.num_divInt_den] at h
  exact h
theorem add_frac' (p q : Rat) (h : p.den = q.den) : p + q = Rat.divInt (p.num + q.num) (p.den : Int) := by
  rw [add_frac, ← h, ← Int.add_mul]
  exact Rat.divInt_mul_right (by have := den_pos' p; omega)
theorem sz_add (hp : Sz WW K p) (hq : Sz WW L q) : Sz WW (K + L + 1) (p + q) := by
  have hK : (0 : Int) < WW ^ K := Int.pow_pos (by decide)
  have hL : (0 : Int) < WW ^ L := Int.pow_pos (by decide)
  have e : (WW : Int) ^ (K + L + 1) = WW ^ K * WW ^ L * 4294967296 := by rw [Int.pow_succ, Int.pow_add]
  obtain ⟨p1, p2⟩ := hp
  obtain ⟨q1, q2⟩ := hq
  have dp := den_pos' p
  have dq := den_pos' q
  have a1 : (p.num.natAbs : Int) * q.den ≤ WW ^ K * WW ^ L := Int.mul_le_mul (by omega) (by omega) (by omega) (by omega)
  have a2 : (q.num.natAbs : Int) * p.den ≤ WW ^ L * WW ^ K := Int.mul_le_mul (by omega) (by omega) (by omega) (by omega)
  have a3 : (p.den : Int) * q.den ≤ WW ^ K * WW ^ L := Int.mul_le_mul (by omega) (by omega) (by omega) (by omega)
  rw [Int.mul_comm (WW ^ L)] at a2
  have hKL : (0 : Int) < WW ^ K * WW ^ L := mul_pos' hK hL
  have hn : ((p.num * q.den + q.num * p.den).natAbs : Int) ≤ (p.num.natAbs : Int) * q.den + (q.num.natAbs : Int) * p.den := by
    have h1 := Int.natAbs_add_le (p.num * q.den) (q.num * p.den)
    rw [Int.natAbs_mul, Int.natAbs_mul] at h1
    simp only [Int.natAbs_natCast] at h1
    have : ((p.num.natAbs * q.den + q.num.natAbs * p.den : Nat) : Int) = (p.num.natAbs : Int) * q.den + (q.num.natAbs : Int) * p.den := by
      rw [Int.natCast_add, Int.natCast_mul, Int.natCast_mul]
    omega
  rw [add_frac]
  constructor
  · rw [Rat.num_divInt, Int.sign_eq_one_of_pos (mul_pos' dp dq), Int.one_mul]
    have : ((p.num * q.den + q.num * p.den) / ((((p.den : Int) * q.den).gcd (p.num * q.den + q.num * p.den) : Nat) : Int)).natAbs ≤ (p.num * q.den + q.num * p.den).natAbs := by
      rw [Int.natAbs_ediv_of_dvd (Int.gcd_dvd_right ..)]
      exact Nat.div_le_self ..
    omega
  · rw [Rat.den_divInt, if_neg (by have := mul_pos' dp dq; omega)]
    have : ((p.den : Int) * q.den).natAbs / (((p.den : Int) * q.den).gcd (p.num * q.den + q.num * p.den)) ≤ ((p.den : Int) * q.den).natAbs := Nat.div_le_self ..
    have := mul_pos' dp dq
    omega
theorem num_Add_sp (hv : RB WW v p) (hw : RB WW w q) (hp : Sz WW K p) (hq : Sz WW L q) (h : K + L < 268435456) : ∃ r, Ev (fun k => num_Add k v w) r ∧ RB WW r (p + q) ∧ Sz WW (K + L + 1) (p + q) := by
  obtain ⟨lv1, lv2⟩ := sz_len WW_one hv hp
  obtain ⟨lw1, lw2⟩ := sz_len WW_one hw hq
  have hc := q_Cmp (by omega) hv.2.2 hw.2.2
  refine (show ∃ r, Ev (fun k => num_Add k v w) r ∧ RB WW r (p + q) from ?_).elim fun r hr => ⟨r, hr.1, hr.2, sz_add hp hq⟩
  by_cases hd : (p.den : Int) = q.den
  · obtain ⟨r, r1, r2⟩ := num_Add_j (c := (false, [], [], ())) (u := v) (u' := w) rfl rfl (by omega) (by omega) (by omega) hv.2.1 hw.2.1 hv.2.2 (den_pos' p)
    rw [sg_val hv, sg_val hw, ← add_frac' p q (by omega)] at r2
    refine ⟨r, Ev.step (fun k => num_Add_eq k v w) (Ev.bind hc (bF ?_ r1)), r2⟩
    unfold P.cmpi
    rw [if_neg (by omega), if_pos hd]
    rfl
  · obtain ⟨x, x1, x2, x3⟩ := q_Mul (by omega) hv.2.1 hw.2.2
    obtain ⟨y, y1, y2, y3⟩ := q_Mul (by omega) hw.2.1 hv.2.2
    obtain ⟨d, d1, d2, d3⟩ := q_Mul (by omega) hv.2.2 hw.2.2
    obtain ⟨r, r1, r2⟩ := num_Add_j (c := (false, [], [], ())) (u := v) (u' := w) rfl rfl (by omega) (by omega) (by omega) x2 y2 d2 (mul_pos' (den_pos' p) (den_pos' q))
    rw [← sg_mul_pos, ← sg_mul_pos, sg_val hv, sg_val hw, ← add_frac p q] at r2
    refine ⟨r, Ev.step (fun k => num_Add_eq k v w) (Ev.bind hc (bT ?_ (Ev.bind x1 (Ev.bind y1 (Ev.bind d1 r1))))), r2⟩
    unfold P.cmpi
    split
    · rfl
    · rfl
end
end Go.Proofs.YtjimdhlmeebjeaaGreat.Q
end
section
namespace Go.Proofs.YtjimdhlmeebjeaaGreat.Q
open Go.RowKit Go.Proofs.YtjimdhlmeebjeaaGreatW.PrintWords Go.Proofs.YtjimdhlmeebjeaaGreatW.PrintMore Go.Proofs.YtjimdhlmeebjeaaGreat.V Go.Proofs.YtjimdhlmeebjeaaGreat.E
open Go.Proofs.YtjimdhlmeebjeaaGreat.P (Dg Nm vl WW RR can_uniq gI evs evk evb cmpi WW_pos WW_one w64 u64)
set_option linter.unusedVariables false
section
variable {v w : RatD} {p q : Rat} {K L : Nat}
theorem sz_neg {B : Int} (hp : Sz B K p) : Sz B K (-p) := by
  obtain ⟨h1, h2⟩ := hp
  refine ⟨?_, ?_⟩
  · rw [Rat.neg_num, Int.natAbs_neg]; exact h1
  · rw [Rat.neg_den]; exact h2
theorem rb_neg {B : Int} (hv : RB B v p) : RB B ((!v.1 && decide (p.num ≠ 0)), v.2) (-p) := by
  obtain ⟨h1, h2, h3⟩ := hv
  refine ⟨?_, ?_, ?_⟩
  · show (!v.1 && decide (p.num ≠ 0)) = decide ((-p).num < 0)
    rw [Rat.neg_num, h1]
    by_cases c : p.num < 0
    · rw [decide_eq_true c, decide_eq_false (show ¬ -p.num < 0 by omega)]; rfl
    · rw [decide_eq_false c]
      by_cases d : p.num = 0
      · rw [decide_eq_false (by simpa using d), decide_eq_false (by omega)]; rfl
      · rw [decide_eq_true d, decide_eq_true (by omega)]; rfl
  · rw [Rat.neg_num, Int.natAbs_neg]; exact h2
  · rw [Rat.neg_den]; exact h3
def sgn (q : Rat) : Int := if q < 0 then -1 else if q = 0 then 0 else 1
theorem num_lt_zero {q : Rat} : q.num < 0 ↔ q < 0 := by
  rw [Rat.lt_iff]
  simp
theorem len_beq {B : Int} (hB : 0 < B) (hv : RB B v p) : ((List.length v.2.1 : Int) == (0 : Int)) = decide (p = 0) := by
  by_cases c : p = 0
  · rw [len_eq hB hv.2.1 (by rw [c]; rfl), decide_eq_true c]
    rfl
  · rw [decide_eq_false c]
    exact len_ne hB hv.2.1 (fun e => c (Rat.num_eq_zero.1 (by omega)))
theorem num_Sign_sp (hv : RB WW v p) : Ev (fun k => num_Sign k v) (sgn p) := by
  refine Ev.step (fun k => num_Sign_eq k v) ?_
  rw [len_beq WW_pos hv, hv.1]
  unfold sgn
  by_cases c : p = 0
  · refine bT (decide_eq_true c) ?_
    rw [if_neg (by rw [c]; exact Rat.lt_irrefl), if_pos c]
    exact evs _
  · refine bF (decide_eq_false c) ?_
    by_cases d : p < 0
    · rw [if_pos d]
      exact bT (decide_eq_true (num_lt_zero.2 d)) (evs _)
    · rw [if_neg d, if_neg c]
      exact bF (decide_eq_false (fun e => d (num_lt_zero.1 e))) (evs _)
def cmpq (p q : Rat) : Int := if p < q then -1 else if p = q then 0 else 1
theorem sgn_vals (p : Rat) : (sgn p = -1 ∧ p < 0) ∨ (sgn p = 0 ∧ p = 0) ∨ (sgn p = 1 ∧ 0 < p) := by
  unfold sgn
  by_cases c : p < 0
  · exact .inl ⟨if_pos c, c⟩
  · by_cases d : p = 0
    · exact .inr (.inl ⟨by rw [if_neg c, if_pos d], d⟩)
    · exact .inr (.inr ⟨by rw [if_neg c, if_neg d], Rat.lt_of_le_of_ne (Rat.not_lt.1 c) (Ne.symm d)⟩)
theorem num_Cmp_sp (hv : RB WW v p) (hw : RB WW w q) (hp : Sz WW K p) (hq : Sz WW L q) (h : K + L < 1073741824) : Ev (fun k => num_Cmp k v w) (cmpq p q) := by
  refine Ev.step (fun k => num_Cmp_eq k v w) (Ev.bind (num_Sign_sp hv) (Ev.bind (num_Sign_sp hw) ?_))
  obtain ⟨lv1, lv2⟩ := sz_len WW_one hv hp
  obtain ⟨lw1, lw2⟩ := sz_len WW_one hw hq
  have lt_of : p < q → cmpq p q = -1 := fun h => by unfold cmpq; rw [if_pos h]
  have gt_of : q < p → cmpq p q = 1 := fun h => by
    unfold cmpq
    rw [if_neg (by grind), if_neg (by grind)]
  by_cases hs : sgn p = sgn q
  · refine bF (by rw [hs]; simp) ?_
    obtain ⟨x, x1, x2, x3⟩ := q_Mul (by omega) hv.2.1 hw.2.2
    obtain ⟨y, y1, y2, y3⟩ := q_Mul (by omega) hw.2.1 hv.2.2
    have hc := q_Cmp (by omega) x2 y2
    refine Ev.bind x1 (Ev.bind y1 (Ev.bind hc ?_))
    have dp := den_pos' p
    have dq := den_pos' q
    have key : cmpq p q = cmpi (p.num * q.den) (q.num * p.den) := by
      unfold cmpq P.cmpi
      simp only [Rat.lt_iff, Rat.eq_iff_mul_eq_mul]
    rw [hv.1]
    by_cases c : p < 0
    · have c' : q < 0 := by
        rcases sgn_vals p with h1 | h1 | h1 <;> rcases sgn_vals q with h2 | h2 | h2 <;> first | exact h2.2 | omega | (exfalso; grind)
      refine bT (decide_eq_true (num_lt_zero.2 c)) ?_
      have e1 : (p.num.natAbs : Int) * q.den = -(p.num * q.den) := by
        rw [← Int.neg_mul]; congr 1; have := num_lt_zero.2 c; omega
      have e2 : (q.num.natAbs : Int) * p.den = -(q.num * p.den) := by
        rw [← Int.neg_mul]; congr 1; have := num_lt_zero.2 c'; omega
      rw [e1, e2, key]
      have : wrap64 (-(cmpi (-(p.num * q.den)) (-(q.num * p.den)))) = cmpi (p.num * q.den) (q.num * p.den) := by
        generalize p.num * q.den = x
        generalize q.num * p.den = y
        unfold P.cmpi
        by_cases h1 : x < y
        · rw [if_pos h1, if_neg (by omega), if_neg (by omega)]; exact w64 (by omega) (by omega)
        · by_cases h2 : x = y
          · rw [if_neg h1, if_pos h2, if_neg (by omega), if_pos (by omega)]; exact w64 (by omega) (by omega)
          · rw [if_neg h1, if_neg h2, if_pos (by omega)]; exact w64 (by omega) (by omega)
      rw [this]
      exact evs _
    · have c' : ¬ q < 0 := by
        rcases sgn_vals p with h1 | h1 | h1 <;> rcases sgn_vals q with h2 | h2 | h2 <;> first | omega | grind
      refine bF (decide_eq_false (fun e => c (num_lt_zero.1 e))) ?_
      have e1 : (p.num.natAbs : Int) = p.num := by have : ¬ p.num < 0 := fun e => c (num_lt_zero.1 e); omega
      have e2 : (q.num.natAbs : Int) = q.num := by have : ¬ q.num < 0 := fun e => c' (num_lt_zero.1 e); omega
      rw [e1, e2, key]
      exact evs _
  · refine bT (by simpa using hs) ?_
    by_cases hl : sgn p < sgn q
    · refine bT (decide_eq_true hl) ?_
      rw [lt_of (by rcases sgn_vals p with h1 | h1 | h1 <;> rcases sgn_vals q with h2 | h2 | h2 <;> first | omega | grind)]
      exact evs _
    · refine bF (decide_eq_false hl) ?_
      rw [gt_of (by rcases sgn_vals p with h1 | h1 | h1 <;> rcases sgn_vals q with h2 | h2 | h2 <;> first | omega | grind)]
      exact evs _
end
end Go.Proofs.YtjimdhlmeebjeaaGreat.Q
end
section
namespace Go.Proofs.YtjimdhlmeebjeaaGreat.Q
open Go.RowKit Go.Proofs.YtjimdhlmeebjeaaGreatW.PrintWords Go.Proofs.YtjimdhlmeebjeaaGreatW.PrintMore Go.Proofs.YtjimdhlmeebjeaaGreat.V Go.Proofs.YtjimdhlmeebjeaaGreat.E
open Go.Proofs.YtjimdhlmeebjeaaGreat.P (Dg Nm vl WW RR can_uniq gI evs evk evb cmpi WW_pos WW_one RR_pos w64 u64)
set_option linter.unusedVariables false
def Ev2 {α : Type} (g : Nat → Nat → Option α) (r : α) : Prop := ∃ K, ∀ k m, K ≤ k → K ≤ m → g k m = some r
section
variable {α β : Type} {g f : Nat → Nat → Option α} {r : α}
theorem Ev2.diag (h : Ev2 g r) : Ev (fun k => g k k) r := by
  obtain ⟨K, h⟩ := h
  exact ⟨K, fun k hk => h k k hk hk⟩
theorem Ev2.step (h : ∀ k m, g k (m + 1) = f k m) (k : Ev2 f r) : Ev2 g r := by
  obtain ⟨K, k⟩ := k
  refine ⟨K + 1, fun n m hn hm => ?_⟩
  obtain ⟨q, rfl⟩ : ∃ q, m = q + 1 := ⟨m - 1, by omega⟩
  rw [h]
  exact k n q (by omega) (by omega)
theorem Ev2.bind {g : Nat → Option β} {f : Nat → Nat → β → Option α} {a : β} (h : Ev g a) (k : Ev2 (fun n m => f n m a) r) : Ev2 (fun n m => (g n).bind (f n m)) r := by
  obtain ⟨K, h⟩ := h
  obtain ⟨K', k⟩ := k
  refine ⟨max K K', fun n m hn hm => ?_⟩
  have h1 := h n (by omega)
  simp only [h1, Option.bind_some]
  exact k n m (by omega) (by omega)
theorem Ev2.bT {c : Bool} (hc : c = true) (h : Ev2 f r) : Ev2 (fun k m => bif c then f k m else g k m) r := by subst hc; exact h
theorem Ev2.bF {c : Bool} (hc : c = false) (h : Ev2 g r) : Ev2 (fun k m => bif c then f k m else g k m) r := by subst hc; exact h
theorem Ev2.iT {c : Prop} [Decidable c] (hc : c) (h : Ev2 f r) : Ev2 (fun k m => if c then f k m else none) r := by simpa only [if_pos hc] using h
theorem Ev2.of {g : Nat → Option α} (h : Ev g r) : Ev2 (fun k _ => g k) r := by
  obtain ⟨K, h⟩ := h
  exact ⟨K, fun k m hk _ => h k hk⟩
end
theorem RR_one : (1 : Int) < RR := by decide
section
variable {a b : List Int} {n m : Int}
theorem s_Mul (hn : a.length + b.length < 68719476736) (ha : P.Can RR a n) (hb : P.Can RR b m) : ∃ r, Ev (fun k => isochroneref01_Mul k a b) r ∧ P.Can RR r (n * m) ∧ r.length ≤ a.length + b.length := by
  obtain ⟨r, h1, h2⟩ := P.r_Mul_sp hn ha hb
  exact ⟨r, Ev.step (fun k => isochroneref01_Mul_eq k a b) h1, h2⟩
theorem s_Add (hn : a.length + b.length < 68719476736) (ha : P.Can RR a n) (hb : P.Can RR b m) : ∃ r, Ev (fun k => isochroneref01_Add k a b) r ∧ P.Can RR r (n + m) ∧ r.length ≤ max a.length b.length + 1 := by
  obtain ⟨r, h1, h2⟩ := P.r_Add_sp hn ha hb
  exact ⟨r, Ev.step (fun k => isochroneref01_Add_eq k a b) h1, h2⟩
theorem s_Sub (hn : a.length < 68719476736) (ha : P.Can RR a n) (hb : P.Can RR b m) (hle : m ≤ n) : ∃ r, Ev (fun k => isochroneref01_Sub k a b) r ∧ P.Can RR r (n - m) ∧ r.length ≤ a.length := by
  obtain ⟨r, h1, h2⟩ := P.r_Sub_sp hn ha hb hle
  exact ⟨r, Ev.step (fun k => isochroneref01_Sub_eq k a b) h1, h2⟩
theorem s_Cmp (hn : a.length < 4611686018427387904) (ha : P.Can RR a n) (hb : P.Can RR b m) : Ev (fun k => isochroneref01_Cmp k a b) (cmpi n m) := Ev.step (fun k => isochroneref01_Cmp_eq k a b) (P.isochroneref01_Cmp_sp hn ha hb)
theorem s_GCD (la : a.length < 1073741824) (lb : b.length < 1073741824) (ha : P.Can RR a n) (hb : P.Can RR b m) : ∃ r, Ev (fun k => isochroneref01_GCD k a b) r ∧ P.Can RR r (gI n m) := by
  obtain ⟨r, h1, h2⟩ := P.r_GCD_sp la lb ha hb
  exact ⟨r, Ev.step (fun k => isochroneref01_GCD_eq k a b) h1, h2⟩
theorem s_DivMod (hn : a.length < 1073741824) (hb : b.length < 1073741824) (ha : P.Can RR a n) (cb : P.Can RR b m) (hm : 0 < m) : ∃ q r, Ev (fun k => isochroneref01_DivMod k a b) (q, r, ()) ∧ P.Can RR q (n / m) ∧ P.Can RR r (n % m) := by
  obtain ⟨q, r, h1, h2, h3, _⟩ := P.r_DivMod_sp hn hb ha cb hm
  exact ⟨q, r, Ev.step (fun k => isochroneref01_DivMod_eq k a b) (evmap (g := fun r : List Int × List Int => (r.1, r.2, ())) h1), h2, h3⟩
theorem s_Small {k0 c0 : Int} (hn : a.length < 549755813888) (ha : P.Can RR a n) (hk : 0 ≤ k0 ∧ k0 ≤ 65536) (hc : 0 ≤ c0 ∧ c0 ≤ 65536) : ∃ r, Ev (fun k => isochroneref01_Small k a k0 c0) r ∧ P.Can RR r (n * k0 + c0) ∧ r.length ≤ a.length + 2 := by
  obtain ⟨r, h1, h2⟩ := P.r_Small_sp hn ha hk hc
  exact ⟨r, Ev.step (fun k => isochroneref01_Small_eq k a k0 c0) h1, h2⟩
theorem rdT_rd (l : List Int) (i : Int) : (rdT (t := (.int .u32)) l i : Int) = rd l i := rfl
theorem s_Of_ev {a : List Int} (hn : a.length < 137438953472) (ha : Dg WW a) (d : Nat) : ∀ (i : Nat) (o : List Int), i = d → i ≤ a.length → P.Can RR o (vl WW (a.drop i)) → o.length ≤ 4 * (a.length - i) → ∃ r, Ev2 (fun k m => isochroneref01_Of.l0 k m a o ((i : Int) - 1)) r ∧ P.Can RR r (vl WW a) ∧ r.length ≤ 4 * a.length := by
  induction d with
  | zero =>
    rintro i o rfl h1 h2 h3
    exact ⟨o, Ev2.step (fun k m => isochroneref01_Of.l0_succ k m _ _ _) (Ev2.bF (decide_eq_false (by omega)) (Ev2.of (evs _))), by simpa using h2, by omega⟩
  | succ d ih =>
    rintro i o rfl h1 h2 h3
    have e1 : (((d + 1 : Nat) : Int) - 1) = (d : Int) := by omega
    have hx := P.dg_rd ha (d : Int) (by omega) (by omega)
    rw [P.WW_eq] at hx
    obtain ⟨p, h4, h5, h6⟩ := s_Small (k0 := 65536) (c0 := rd a d / 65536) (by omega) h2 (by omega) (by omega)
    obtain ⟨q, h7, h8, h9⟩ := s_Small (k0 := 65536) (c0 := rd a d % 65536) (by omega) h5 (by omega) (by omega)
    have ea : a.drop d = rd a d :: a.drop (d + 1) := by rw [P.rd_lt a d (by omega)]; exact (List.drop_eq_getElem_cons (by omega))
    have ev : (vl WW (a.drop (d + 1)) * 65536 + rd a d / 65536) * 65536 + rd a d % 65536 = vl WW (a.drop d) := by
      rw [ea, vl, P.WW_eq]
      omega
    rw [ev] at h8
    obtain ⟨r, h10, h11⟩ := ih d q rfl (by omega) h8 (by omega)
    refine ⟨r, Ev2.step (fun k m => isochroneref01_Of.l0_succ k m _ _ _) ?_, h11⟩
    have e2 : shr .u32 (rd a (d : Int)) 16 = rd a d / 65536 := rfl
    rw [e1]
    simp only [rdT_rd]
    rw [e2, P.and16 hx.1 hx.2, w64 (x := rd a d / 65536) (by omega) (by omega), w64 (x := rd a d % 65536) (by omega) (by omega), w64 (x := (d : Int) - 1) (by omega) (by omega)]
    exact Ev2.bT (decide_eq_true (by omega)) (Ev2.iT (by omega) (Ev2.bind h4 (Ev2.iT (by omega) (Ev2.bind h7 h10))))
theorem s_Of {a : List Int} {n : Int} (hn : a.length < 137438953472) (ha : P.Can WW a n) : ∃ r, Ev (fun k => isochroneref01_Of k a) r ∧ P.Can RR r n ∧ r.length ≤ 4 * a.length := by
  obtain ⟨r, h1, h2⟩ := s_Of_ev hn ha.1 a.length a.length [] rfl (Nat.le_refl _) (by rw [List.drop_length]; exact P.Can.zero _) (by simp)
  rw [ha.2.2] at h2
  refine ⟨r, Ev.step (fun k => isochroneref01_Of_eq k a) ?_, h2⟩
  rw [w64 (x := (a.length : Int) - 1) (by omega) (by omega)]
  exact h1.diag
end
end Go.Proofs.YtjimdhlmeebjeaaGreat.Q
end
section
namespace Go.Proofs.YtjimdhlmeebjeaaGreat.Q
open Go.RowKit Go.Proofs.YtjimdhlmeebjeaaGreatW.PrintWords Go.Proofs.YtjimdhlmeebjeaaGreatW.PrintMore Go.Proofs.YtjimdhlmeebjeaaGreat.V Go.Proofs.YtjimdhlmeebjeaaGreat.E
open Go.Proofs.YtjimdhlmeebjeaaGreat.P (Dg Nm vl WW RR can_uniq gI evs evk evb cmpi WW_pos WW_one RR_pos w64 u64)
set_option linter.unusedVariables false
section
variable {a b : List Int} {n m : Int} {v w : RatD} {p q : Rat} {K L : Nat}
theorem is_one {l : List Int} {z : Int} (h : P.Can RR l z) : (bif (List.length l : Int) == (1 : Int) then if 0 ≤ (0 : Int) ∧ (0 : Int) < (List.length l : Int) then some ((rdT (t := (.int .i64)) l (0 : Int) : Int) == (1 : Int)) else none else some false) = some (decide (z = 1)) := by
  match l, h with
  | [], h =>
    have : z = 0 := by have := h.2.2; simp [vl] at this; exact this.symm
    subst this
    rfl
  | [x], h =>
    have hx : x = z := by have := h.2.2; simp [vl] at this; exact this
    have hr : (rdT (t := (.int .i64)) [x] (0 : Int) : Int) = x := rfl
    rw [hr, hx]
    simp
    by_cases c : z = 1 <;> simp [c]
  | x :: y :: t, h =>
    have h1 : ((List.length (x :: y :: t) : Int) == (1 : Int)) = false := by simp; omega
    have h2 : RR ≤ z := by
      have := h.ge RR_pos (by simp)
      refine Int.le_trans ?_ this
      have := P.pow_le (B := RR) (by decide) (i := 1) (j := (x :: y :: t).length - 1) (by simp)
      rw [Int.pow_succ, Int.pow_zero, Int.one_mul] at this
      exact this
    have : RR = 10000 := rfl
    rw [h1, decide_eq_false (by omega)]
    rfl
theorem is_one' {l : List Int} {z : Int} (h : P.Can WW l z) : (bif (List.length l : Int) == (1 : Int) then if 0 ≤ (0 : Int) ∧ (0 : Int) < (List.length l : Int) then some ((rdT (t := (.int .u32)) l (0 : Int) : Int) == (1 : Int)) else none else some false) = some (decide (z = 1)) := by
  match l, h with
  | [], h =>
    have : z = 0 := by have := h.2.2; simp [vl] at this; exact this.symm
    subst this
    rfl
  | [x], h =>
    have hx : x = z := by have := h.2.2; simp [vl] at this; exact this
    have hr : (rdT (t := (.int .u32)) [x] (0 : Int) : Int) = x := rfl
    rw [hr, hx]
    simp
    by_cases c : z = 1 <;> simp [c]
  | x :: y :: t, h =>
    have h1 : ((List.length (x :: y :: t) : Int) == (1 : Int)) = false := by simp; omega
    have h2 : WW ≤ z := by
      have := h.ge WW_pos (by simp)
      refine Int.le_trans ?_ this
      have := P.pow_le (B := WW) (by decide) (i := 1) (j := (x :: y :: t).length - 1) (by simp)
      rw [Int.pow_succ, Int.pow_zero, Int.one_mul] at this
      exact this
    have : WW = 4294967296 := rfl
    rw [h1, decide_eq_false (by omega)]
    rfl
theorem ref_Zero_ev : Ev (fun k => isochroneref02_Zero k) (false, [], [1], ()) := Ev.step (fun k => isochroneref02_Zero_eq k) (evs _)
theorem ref_Make_sp {s : Bool} (la : a.length < 1073741824) (lb : b.length < 1073741824) (ha : P.Can RR a n) (hb : P.Can RR b m) (hm : 0 < m) : ∃ r, Ev (fun k => isochroneref02_Make k s a b) r ∧ RB RR r (Rat.divInt (sg s n) m) := by
  have n0 := ha.nonneg RR_pos
  by_cases hn : n = 0
  · obtain rfl := len_eq RR_pos ha hn
    refine ⟨_, Ev.step (fun k => isochroneref02_Make_eq k s [] b) (bT rfl (Ev.bind ref_Zero_ev (evs _))), ?_⟩
    rw [hn, frac_zero]
    exact rb_zero RR_one
  · have done : gI n m = 1 → RB RR (s, a, b, ()) (Rat.divInt (sg s n) m) := fun h1 => by
      have e1 : n / gI n m = n := by rw [h1]; omega
      have e2 : m / gI n m = m := by rw [h1]; omega
      exact rb_frac (by omega) hm (by rw [e1]; exact ha) (by rw [e2]; exact hb)
    by_cases hm1 : m = 1
    · refine ⟨(s, a, b, ()), Ev.step (fun k => isochroneref02_Make_eq k s a b) (bF (len_ne RR_pos ha hn) (Ev.bind (evk (is_one hb)) (bT (decide_eq_true hm1) (evs _)))), done ?_⟩
      unfold P.gI
      rw [hm1]
      simp
    · obtain ⟨g, g1, g2⟩ := s_GCD la lb ha hb
      have gp := gcd_pos (x := n) hm
      by_cases h1 : gI n m = 1
      · exact ⟨(s, a, b, ()), Ev.step (fun k => isochroneref02_Make_eq k s a b) (bF (len_ne RR_pos ha hn) (Ev.bind (evk (is_one hb)) (bF (decide_eq_false hm1) (Ev.bind g1 (Ev.bind (evk (is_one g2)) (bT (decide_eq_true h1) (evs _))))))), done h1⟩
      · have gl : g.length < 1073741824 := Nat.lt_of_le_of_lt (g2.len_le RR_one (Int.lt_of_le_of_lt (P.gI_le hm) (hb.lt RR_pos))) lb
        obtain ⟨u, u', u1, u2, u3⟩ := s_DivMod la gl ha g2 gp
        obtain ⟨v, v', v1, v2, v3⟩ := s_DivMod lb gl hb g2 gp
        exact ⟨(s, u, v, ()), Ev.step (fun k => isochroneref02_Make_eq k s a b) (bF (len_ne RR_pos ha hn) (Ev.bind (evk (is_one hb)) (bF (decide_eq_false hm1) (Ev.bind g1 (Ev.bind (evk (is_one g2)) (bF (decide_eq_false h1) (Ev.bind u1 (Ev.bind v1 (evs _)))))))))
, rb_frac (by omega) hm u2 v2⟩
theorem ref_Mul_sp (hv : RB RR v p) (hw : RB RR w q) (hp : Sz RR K p) (hq : Sz RR L q) (h : K + L < 1073741824) : ∃ r, Ev (fun k => isochroneref02_Mul k v w) r ∧ RB RR r (p * q) ∧ Sz RR (K + L) (p * q) := by
  obtain ⟨lv1, lv2⟩ := sz_len RR_one hv hp
  obtain ⟨lw1, lw2⟩ := sz_len RR_one hw hq
  obtain ⟨x, x1, x2, x3⟩ := s_Mul (by omega) hv.2.1 hw.2.1
  obtain ⟨y, y1, y2, y3⟩ := s_Mul (by omega) hv.2.2 hw.2.2
  have hd : (0 : Int) < (p.den : Int) * q.den := mul_pos' (den_pos' p) (den_pos' q)
  obtain ⟨r, r1, r2⟩ := ref_Make_sp (s := v.1 != w.1) (by omega) (by omega) x2 y2 hd
  have e : Rat.divInt (sg (v.1 != w.1) ((p.num.natAbs : Int) * q.num.natAbs)) ((p.den : Int) * q.den) = p * q := by
    rw [sg_mul, sg_val hv, sg_val hw, ← Rat.divInt_mul_divInt, Rat.num_divInt_den, Rat.num_divInt_den]
  have hs : Sz RR (K + L) (p * q) := by
    rw [← e]
    refine sz_frac (Int.mul_nonneg (by omega) (by omega)) hd ?_ ?_
    · exact Int.lt_of_lt_of_le (x2.lt RR_pos) (P.pow_le (by decide) (by omega))
    · exact Int.lt_of_lt_of_le (y2.lt RR_pos) (P.pow_le (by decide) (by omega))
  rw [e] at r2
  exact ⟨r, Ev.step (fun k => isochroneref02_Mul_eq k v w) (Ev.bind x1 (Ev.bind y1 (Ev.bind r1 (evs _)))), r2, hs⟩
theorem ref_Neg_sp (hv : RB RR v p) (hp : Sz RR K p) : ∃ r, Ev (fun k => isochroneref02_Neg k v) r ∧ RB RR r (-p) ∧ Sz RR K (-p) := by
  by_cases c : p = 0
  · refine ⟨v, Ev.step (fun k => isochroneref02_Neg_eq k v) (bT (by rw [len_beq RR_pos hv]; exact decide_eq_true c) (evs _)), ?_, sz_neg hp⟩
    subst c
    exact hv
  · have hn : p.num ≠ 0 := fun e => c (Rat.num_eq_zero.1 e)
    have h := rb_neg hv
    rw [decide_eq_true hn, Bool.and_true] at h
    obtain ⟨s, x, y, _⟩ := v
    exact ⟨_, Ev.step (fun k => isochroneref02_Neg_eq k _) (bF (by rw [len_beq RR_pos hv]; exact decide_eq_false c) (evs _)), h, sz_neg hp⟩
theorem sz_addR (hp : Sz RR K p) (hq : Sz RR L q) : Sz RR (K + L + 1) (p + q) := by
  have hK : (0 : Int) < RR ^ K := Int.pow_pos (by decide)
  have hL : (0 : Int) < RR ^ L := Int.pow_pos (by decide)
  have e : (RR : Int) ^ (K + L + 1) = RR ^ K * RR ^ L * 10000 := by rw [Int.pow_succ, Int.pow_add]
  obtain ⟨p1, p2⟩ := hp
  obtain ⟨q1, q2⟩ := hq
  have dp := den_pos' p
  have dq := den_pos' q
  have a1 : (p.num.natAbs : Int) * q.den ≤ RR ^ K * RR ^ L := Int.mul_le_mul (by omega) (by omega) (by omega) (by omega)
  have a2 : (q.num.natAbs : Int) * p.den ≤ RR ^ L * RR ^ K := Int.mul_le_mul (by omega) (by omega) (by omega) (by omega)
  have a3 : (p.den : Int) * q.den ≤ RR ^ K * RR ^ L := Int.mul_le_mul (by omega) (by omega) (by omega) (by omega)
  rw [Int.mul_comm (RR ^ L)] at a2
  have hKL : (0 : Int) < RR ^ K * RR ^ L := mul_pos' hK hL
  have hn : ((p.num * q.den + q.num * p.den).natAbs : Int) ≤ (p.num.natAbs : Int) * q.den + (q.num.natAbs : Int) * p.den := by
    have h1 := Int.natAbs_add_le (p.num * q.den) (q.num * p.den)
    rw [Int.natAbs_mul, Int.natAbs_mul] at h1
    simp only [Int.natAbs_natCast] at h1
    have : ((p.num.natAbs * q.den + q.num.natAbs * p.den : Nat) : Int) = (p.num.natAbs : Int) * q.den + (q.num.natAbs : Int) * p.den := by
      rw [Int.natCast_add, Int.natCast_mul, Int.natCast_mul]
    omega
  rw [add_frac]
  constructor
  · rw [Rat.num_divInt, Int.sign_eq_one_of_pos (mul_pos' dp dq), Int.one_mul]
    have : ((p.num * q.den + q.num * p.den) / ((((p.den : Int) * q.den).gcd (p.num * q.den + q.num * p.den) : Nat) : Int)).natAbs ≤ (p.num * q.den + q.num * p.den).natAbs := by
      rw [Int.natAbs_ediv_of_dvd (Int.gcd_dvd_right ..)]
      exact Nat.div_le_self ..
    omega
  · rw [Rat.den_divInt, if_neg (by have := mul_pos' dp dq; omega)]
    have : ((p.den : Int) * q.den).natAbs / (((p.den : Int) * q.den).gcd (p.num * q.den + q.num * p.den)) ≤ ((p.den : Int) * q.den).natAbs := Nat.div_le_self ..
    have := mul_pos' dp dq
    omega
theorem ref_Add_sp (hv : RB RR v p) (hw : RB RR w q) (hp : Sz RR K p) (hq : Sz RR L q) (h : K + L < 268435456) : ∃ r, Ev (fun k => isochroneref02_Add k v w) r ∧ RB RR r (p + q) ∧ Sz RR (K + L + 1) (p + q) := by
  obtain ⟨lv1, lv2⟩ := sz_len RR_one hv hp
  obtain ⟨lw1, lw2⟩ := sz_len RR_one hw hq
  refine (show ∃ r, Ev (fun k => isochroneref02_Add k v w) r ∧ RB RR r (p + q) from ?_).elim fun r hr => ⟨r, hr.1, hr.2, sz_addR hp hq⟩
  obtain ⟨x, x1, x2, x3⟩ := s_Mul (by omega) hv.2.1 hw.2.2
  obtain ⟨y, y1, y2, y3⟩ := s_Mul (by omega) hw.2.1 hv.2.2
  obtain ⟨d, d1, d2, d3⟩ := s_Mul (by omega) hv.2.2 hw.2.2
  have hD := mul_pos' (den_pos' p) (den_pos' q)
  have hadd := add_frac p q
  rw [← sg_val hv, ← sg_val hw, sg_mul_pos, sg_mul_pos] at hadd
  generalize (p.num.natAbs : Int) * q.den = X at x2 hadd
  generalize (q.num.natAbs : Int) * p.den = Y at y2 hadd
  generalize (p.den : Int) * q.den = D at d2 hadd hD
  rw [hadd]
  by_cases hst : v.1 = w.1
  · obtain ⟨z, z1, z2, z3⟩ := s_Add (by omega) x2 y2
    obtain ⟨r, r1, r2⟩ := ref_Make_sp (s := v.1) (by omega) (by omega) z2 d2 hD
    refine ⟨r, Ev.step (fun k => isochroneref02_Add_eq k v w) (Ev.bind x1 (Ev.bind y1 (Ev.bind d1 (bT (by rw [hst]; simp) (Ev.bind z1 (Ev.bind r1 (evs _))))))), ?_⟩
    have : sg v.1 X + sg w.1 Y = sg v.1 (X + Y) := by rw [← hst]; unfold sg; cases v.1 <;> simp <;> omega
    rw [this]
    exact r2
  · have hc := s_Cmp (by omega) x2 y2
    by_cases hxy : Y ≤ X
    · obtain ⟨z, z1, z2, z3⟩ := s_Sub (by omega) x2 y2 hxy
      obtain ⟨r, r1, r2⟩ := ref_Make_sp (s := v.1) (by omega) (by omega) z2 d2 hD
      refine ⟨r, Ev.step (fun k => isochroneref02_Add_eq k v w) (Ev.bind x1 (Ev.bind y1 (Ev.bind d1 (bF (beq_ne hst) (Ev.bind hc (bT (decide_eq_true ?_) (Ev.bind z1 (Ev.bind r1 (evs _))))))))), ?_⟩
      · unfold P.cmpi
        split
        · omega
        · split <;> omega
      · have : sg v.1 X + sg w.1 Y = sg v.1 (X - Y) := by
          unfold sg
          generalize v.1 = s at hst ⊢
          generalize w.1 = t at hst ⊢
          cases s <;> cases t <;> simp at hst ⊢ <;> omega
        rw [this]
        exact r2
    · obtain ⟨z, z1, z2, z3⟩ := s_Sub (by omega) y2 x2 (by omega)
      obtain ⟨r, r1, r2⟩ := ref_Make_sp (s := w.1) (by omega) (by omega) z2 d2 hD
      refine ⟨r, Ev.step (fun k => isochroneref02_Add_eq k v w) (Ev.bind x1 (Ev.bind y1 (Ev.bind d1 (bF (beq_ne hst) (Ev.bind hc (bF (decide_eq_false ?_) (Ev.bind z1 (Ev.bind r1 (evs _))))))))), ?_⟩
      · unfold P.cmpi
        rw [if_pos (by omega)]
        omega
      · have : sg v.1 X + sg w.1 Y = sg w.1 (Y - X) := by
          unfold sg
          generalize v.1 = s at hst ⊢
          generalize w.1 = t at hst ⊢
          cases s <;> cases t <;> simp at hst ⊢ <;> omega
        rw [this]
        exact r2
theorem ref_Sub_sp (hv : RB RR v p) (hw : RB RR w q) (hp : Sz RR K p) (hq : Sz RR L q) (h : K + L < 268435456) : ∃ r, Ev (fun k => isochroneref02_Sub k v w) r ∧ RB RR r (p - q) ∧ Sz RR (K + L + 1) (p - q) := by
  obtain ⟨x, x1, x2, x3⟩ := ref_Neg_sp hw hq
  obtain ⟨r, r1, r2, r3⟩ := ref_Add_sp hv x2 hp x3 h
  rw [← Rat.sub_eq_add_neg] at r2 r3
  exact ⟨r, Ev.step (fun k => isochroneref02_Sub_eq k v w) (Ev.bind x1 (Ev.bind r1 (evs _))), r2, r3⟩
theorem ref_Sign_sp (hv : RB RR v p) : Ev (fun k => isochroneref02_Sign k v) (sgn p) := by
  refine Ev.step (fun k => isochroneref02_Sign_eq k v) ?_
  rw [len_beq RR_pos hv, hv.1]
  unfold sgn
  by_cases c : p = 0
  · refine bT (decide_eq_true c) ?_
    rw [if_neg (by rw [c]; exact Rat.lt_irrefl), if_pos c]
    exact evs _
  · refine bF (decide_eq_false c) ?_
    by_cases d : p < 0
    · rw [if_pos d]
      exact bT (decide_eq_true (num_lt_zero.2 d)) (evs _)
    · rw [if_neg d, if_neg c]
      exact bF (decide_eq_false (fun e => d (num_lt_zero.1 e))) (evs _)
theorem sgn_sub (p q : Rat) : sgn (p - q) = cmpq p q := by
  unfold sgn cmpq
  by_cases h : p < q
  · rw [if_pos h, if_pos (by grind)]
  · rw [if_neg h, if_neg (by grind)]
    by_cases e : p = q
    · rw [if_pos e, if_pos (by grind)]
    · rw [if_neg e, if_neg (by grind)]
theorem ref_Cmp_sp (hv : RB RR v p) (hw : RB RR w q) (hp : Sz RR K p) (hq : Sz RR L q) (h : K + L < 268435456) : Ev (fun k => isochroneref02_Cmp k v w) (cmpq p q) := by
  obtain ⟨r, r1, r2, r3⟩ := ref_Sub_sp hv hw hp hq h
  have hs := ref_Sign_sp r2
  rw [sgn_sub] at hs
  exact Ev.step (fun k => isochroneref02_Cmp_eq k v w) (Ev.bind r1 (Ev.bind hs (evs _)))
theorem ref_Of_sp (hv : RB WW v p) (hp : Sz WW K p) (h : K < 1073741824) : ∃ r, Ev (fun k => isochroneref02_Of k v) r ∧ RB RR r p ∧ Sz RR (4 * K) p := by
  obtain ⟨lv1, lv2⟩ := sz_len WW_one hv hp
  obtain ⟨x, x1, x2, x3⟩ := s_Of (by omega) hv.2.1
  obtain ⟨y, y1, y2, y3⟩ := s_Of (by omega) hv.2.2
  have hr : RB RR (v.1, x, y, ()) p := ⟨hv.1, x2, y2⟩
  exact ⟨_, Ev.step (fun k => isochroneref02_Of_eq k v) (Ev.bind x1 (Ev.bind y1 (evs _))), hr, sz_of RR_pos hr (by simp; omega) (by simp; omega)⟩
end
end Go.Proofs.YtjimdhlmeebjeaaGreat.Q
end
section
namespace Go.Proofs.YtjimdhlmeebjeaaGreat.Q
open Go.RowKit Go.Proofs.YtjimdhlmeebjeaaGreatW.PrintWords Go.Proofs.YtjimdhlmeebjeaaGreatW.PrintMore Go.Proofs.YtjimdhlmeebjeaaGreat.V Go.Proofs.YtjimdhlmeebjeaaGreat.E
open Go.Proofs.YtjimdhlmeebjeaaGreat.P (Dg Nm vl WW RR can_uniq gI evs evk evb cmpi WW_pos WW_one RR_pos w64 u64)
set_option linter.unusedVariables false
def Arg (v : RatD) : Prop := Dg WW v.2.1 ∧ Dg WW v.2.2.1 ∧ True ∧ True
def Vd (v : RatD) : Prop := ∃ q, RB WW v q ∧ Sz WW 4096 q
section
variable {v w : RatD} {p q : Rat} {K L : Nat}
theorem gcd_num_den (q : Rat) : gI (q.num.natAbs : Int) q.den = 1 := by
  unfold P.gI
  have := q.reduced
  unfold Nat.Coprime at this
  simp only [Int.gcd, Int.natAbs_natCast, this]
  rfl
theorem val_iff {s : Bool} {a b : List Int} (da : Dg WW a) (db : Dg WW b) : (∃ q, RB WW (s, a, b, ()) q) ↔ Nm a ∧ Nm b ∧ vl WW b ≠ 0 ∧ (vl WW a = 0 → s = false ∧ vl WW b = 1) ∧ (vl WW a ≠ 0 → gI (vl WW a) (vl WW b) = 1) := by
  constructor
  · rintro ⟨q, h1, h2, h3⟩
    have e2 : vl WW a = (q.num.natAbs : Int) := h2.2.2
    have e3 : vl WW b = (q.den : Int) := h3.2.2
    have dp := den_pos' q
    refine ⟨h2.2.1, h3.2.1, by omega, fun h => ?_, fun h => ?_⟩
    · have h0 : q = 0 := Rat.num_eq_zero.1 (by omega)
      refine ⟨?_, ?_⟩
      · have : s = decide (q.num < 0) := h1
        rw [this, h0]; rfl
      · rw [e3, h0]; rfl
    · rw [e2, e3]
      exact gcd_num_den q
  · rintro ⟨na, nb, hb, h0, h1⟩
    have a0 := P.vl_nonneg WW_pos da
    have b0 := P.vl_nonneg WW_pos db
    by_cases c : vl WW a = 0
    · obtain ⟨rfl, e⟩ := h0 c
      refine ⟨0, rfl, ?_, ?_⟩
      · exact ⟨da, na, c⟩
      · exact ⟨db, nb, e⟩
    · have g := h1 c
      refine ⟨Rat.divInt (sg s (vl WW a)) (vl WW b), rb_frac (by omega) (by omega) ?_ ?_⟩
      · rw [g, Int.ediv_one]; exact ⟨da, na, rfl⟩
      · rw [g, Int.ediv_one]; exact ⟨db, nb, rfl⟩
theorem vd_iff (ha : Arg v) : Vd v ↔ v.2.1.length ≤ 4096 ∧ v.2.2.1.length ≤ 4096 ∧ Nm v.2.1 ∧ Nm v.2.2.1 ∧ vl WW v.2.2.1 ≠ 0 ∧ (vl WW v.2.1 = 0 → v.1 = false ∧ vl WW v.2.2.1 = 1) ∧ (vl WW v.2.1 ≠ 0 → gI (vl WW v.2.1) (vl WW v.2.2.1) = 1) := by
  obtain ⟨s, a, b, _⟩ := v
  have h := val_iff (s := s) ha.1 ha.2.1
  constructor
  · rintro ⟨q, h1, h2⟩
    obtain ⟨l1, l2⟩ := sz_len WW_one h1 h2
    exact ⟨l1, l2, h.1 ⟨q, h1⟩⟩
  · rintro ⟨l1, l2, h3⟩
    obtain ⟨q, hq⟩ := h.2 h3
    exact ⟨q, hq, sz_of WW_pos hq l1 l2⟩
theorem vl0_iff {l : List Int} (hd : Dg WW l) (hn : Nm l) : l.length = 0 ↔ vl WW l = 0 := (show P.Can WW l (vl WW l) from ⟨hd, hn, rfl⟩).len_iff WW_pos
theorem beq_len {l : List Int} (hd : Dg WW l) (hn : Nm l) : ((List.length l : Int) == (0 : Int)) = decide (vl WW l = 0) := by
  by_cases c : vl WW l = 0
  · have := (vl0_iff hd hn).2 c
    rw [decide_eq_true c]; simp [List.eq_nil_of_length_eq_zero this]
  · rw [decide_eq_false c]; exact len_ne WW_pos ⟨hd, hn, rfl⟩ c
end
end Go.Proofs.YtjimdhlmeebjeaaGreat.Q
end
section
namespace Go.Proofs.YtjimdhlmeebjeaaGreat.Q
open Go.RowKit Go.Proofs.YtjimdhlmeebjeaaGreatW.PrintWords Go.Proofs.YtjimdhlmeebjeaaGreatW.PrintMore Go.Proofs.YtjimdhlmeebjeaaGreat.V Go.Proofs.YtjimdhlmeebjeaaGreat.E
open Go.Proofs.YtjimdhlmeebjeaaGreat.P (Dg Nm vl WW RR can_uniq gI evs evk evb cmpi WW_pos WW_one RR_pos w64 u64)
set_option linter.unusedVariables false
section
variable {v w : RatD} {p q : Rat} {K L : Nat}
theorem cmpi_beq (x y : Int) : (cmpi x y == (0 : Int)) = decide (x = y) := by
  unfold P.cmpi
  by_cases a : x < y
  · rw [if_pos a, decide_eq_false (by omega)]; rfl
  · by_cases b : x = y
    · rw [if_neg a, if_pos b, decide_eq_true b]; rfl
    · rw [if_neg a, if_neg b, decide_eq_false b]; rfl
theorem ref_Short_sp (v : RatD) (N : Nat) : Ev (fun k => isochroneref02_Short k v (N : Int)) (decide (v.2.1.length ≤ N ∧ v.2.2.1.length ≤ N)) := by
  refine Ev.step (fun k => isochroneref02_Short_eq k v _) (Ev.bind ?_ (evs _))
  by_cases c : v.2.1.length ≤ N
  · refine bT (decide_eq_true (by omega)) ?_
    have : decide ((List.length v.2.2.1 : Int) ≤ N) = decide (v.2.1.length ≤ N ∧ v.2.2.1.length ≤ N) := decide_eq_decide.2 (by omega)
    rw [this]
    exact evs _
  · have : decide (v.2.1.length ≤ N ∧ v.2.2.1.length ≤ N) = false := decide_eq_false (fun h => c h.1)
    rw [this]
    exact bF (decide_eq_false (by omega)) (evs _)
end
end Go.Proofs.YtjimdhlmeebjeaaGreat.Q
end
section
namespace Go.Proofs.YtjimdhlmeebjeaaGreat.Q
open Go.RowKit Go.Proofs.YtjimdhlmeebjeaaGreatW.PrintWords Go.Proofs.YtjimdhlmeebjeaaGreatW.PrintMore Go.Proofs.YtjimdhlmeebjeaaGreat.V Go.Proofs.YtjimdhlmeebjeaaGreat.E
open Go.Proofs.YtjimdhlmeebjeaaGreat.P (Dg WW dg_wf)
set_option linter.unusedVariables false
theorem tab_ok : tabOk T = true := by kernel_rfl
theorem mixed : T.P.follows .mixedOrders = true := by kernel_rfl
theorem noGo0 : (Tryz.prog.funcs.toList.all fun f => f.name != "runtime.NumGoroutine") = true := by kernel_rfl
theorem noGo (f : Nat) (fn : Func) (h : T.P.funcs[f]? = some fn) : fn.name ≠ "runtime.NumGoroutine" := by
  have h1 := List.all_eq_true.1 noGo0 fn (by
    rw [Array.mem_toList_iff]
    exact Array.mem_of_getElem? h)
  simpa using h1
theorem arg_rat {y : RatD} (h : Fine c_api_Rat y) : Arg y := by
  obtain ⟨_, h1, h2, _⟩ := h
  exact ⟨dg_wf h1.2, dg_wf h2.2, trivial, trivial⟩
theorem arg_int {k : IntKind} {n : Int} (h : Fine (.int k) n) : (Lit.int k n).wf = true := h
end Go.Proofs.YtjimdhlmeebjeaaGreat.Q
end
section
namespace Go.Proofs.YtjimdhlmeebjeaaGreat.Q
open Go.RowKit Go.Proofs.YtjimdhlmeebjeaaGreatW.PrintWords Go.Proofs.YtjimdhlmeebjeaaGreatW.PrintMore Go.Proofs.YtjimdhlmeebjeaaGreat.V Go.Proofs.YtjimdhlmeebjeaaGreat.E
open Go.Proofs.YtjimdhlmeebjeaaGreat.P (Dg Nm vl WW RR can_uniq gI evs evk evb cmpi WW_pos WW_one RR_pos w64 u64)
set_option linter.unusedVariables false
section
variable {v w : RatD} {p q : Rat} {K L : Nat}
def down (n : Nat) (p : Rat) : Rat := ((p * ((2 ^ n : Int) : Rat)).floor : Rat) / ((2 ^ n : Int) : Rat)
end
end Go.Proofs.YtjimdhlmeebjeaaGreat.Q
end
section
namespace Go.Proofs.YtjimdhlmeebjeaaGreat.Q
open Go.RowKit Go.Proofs.YtjimdhlmeebjeaaGreatW.PrintWords Go.Proofs.YtjimdhlmeebjeaaGreatW.PrintMore Go.Proofs.YtjimdhlmeebjeaaGreat.V Go.Proofs.YtjimdhlmeebjeaaGreat.E
open Go.Proofs.YtjimdhlmeebjeaaGreat.P (Dg Nm vl WW RR can_uniq gI evs evk evb cmpi WW_pos WW_one RR_pos w64 u64)
set_option linter.unusedVariables false
def Ev3 {α : Type} (g : Nat → Nat → Nat → Option α) (r : α) : Prop := ∃ K, ∀ k m n, K ≤ k → K ≤ m → K ≤ n → g k m n = some r
section
variable {α β : Type} {g f : Nat → Nat → Nat → Option α} {r : α}
theorem Ev3.diag (h : Ev3 g r) : Ev2 (fun k n => g k k n) r := by
  obtain ⟨K, h⟩ := h
  exact ⟨K, fun k n hk hn => h k k n hk hk hn⟩
theorem Ev3.step (h : ∀ k m n, g k (m + 1) n = f k m n) (k : Ev3 f r) : Ev3 g r := by
  obtain ⟨K, k⟩ := k
  refine ⟨K + 1, fun n m q hn hm hq => ?_⟩
  obtain ⟨p, rfl⟩ : ∃ p, m = p + 1 := ⟨m - 1, by omega⟩
  rw [h]
  exact k n p q (by omega) (by omega) (by omega)
theorem Ev3.bind {g : Nat → Option β} {f : Nat → Nat → Nat → β → Option α} {a : β} (h : Ev g a) (k : Ev3 (fun n m q => f n m q a) r) : Ev3 (fun n m q => (g n).bind (f n m q)) r := by
  obtain ⟨K, h⟩ := h
  obtain ⟨K', k⟩ := k
  refine ⟨max K K', fun n m q hn hm hq => ?_⟩
  have h1 := h n (by omega)
  simp only [h1, Option.bind_some]
  exact k n m q (by omega) (by omega) (by omega)
theorem Ev3.bT {c : Bool} (hc : c = true) (h : Ev3 f r) : Ev3 (fun k m n => bif c then f k m n else g k m n) r := by subst hc; exact h
theorem Ev3.bF {c : Bool} (hc : c = false) (h : Ev3 g r) : Ev3 (fun k m n => bif c then f k m n else g k m n) r := by subst hc; exact h
theorem Ev3.iT {c : Prop} [Decidable c] (hc : c) (h : Ev3 f r) : Ev3 (fun k m n => if c then f k m n else none) r := by simpa only [if_pos hc] using h
theorem Ev3.of {g : Nat → Nat → Option α} (h : Ev2 g r) : Ev3 (fun k _ n => g k n) r := by
  obtain ⟨K, h⟩ := h
  exact ⟨K, fun k m n hk _ hn => h k n hk hn⟩
theorem Ev2.ofd {g : Nat → Nat → Option α} (h : Ev2 g r) : Ev2 (fun k _ => g k k) r := by
  obtain ⟨K, h⟩ := h
  exact ⟨K, fun k m hk _ => h k k hk hk⟩
end
def VN (N : Nat) (v : RatD) : Prop := ∃ q, RB WW v q ∧ Sz WW N q
section
variable {v w : RatD} {p q : Rat} {K L : Nat}
theorem r_valid (l : List Int) : ∃ b, P.isochroneref01_Valid.f l = some b ∧ (b = true ↔ l.length ≤ 4096 ∧ Nm l) := by
  unfold P.isochroneref01_Valid.f
  by_cases h1 : l.length ≤ 4096
  · by_cases h0 : l.length = 0
    · refine ⟨true, by rw [if_pos (by omega), if_pos (by omega)], ?_⟩
      have : l = [] := List.eq_nil_of_length_eq_zero h0
      subst this
      simp
      exact P.Nm.nil
    · have e : wrap64 ((l.length : Int) - 1) = (l.length : Int) - 1 := w64 (by omega) (by omega)
      rw [e, if_pos (by omega), if_neg (by omega), if_pos (by omega), if_pos (by omega)]
      refine ⟨_, rfl, ?_⟩
      simp only [bne_iff_ne]
      constructor
      · intro h
        exact ⟨h1, P.nm_of_rd (fun _ => h)⟩
      · intro h
        exact h.2.rd (by omega)
  · refine ⟨false, by rw [if_neg (by omega)], ?_⟩
    simp
    omega
theorem s_Valid (l : List Int) (hl : True) : ∃ t, Ev (fun k => isochroneref01_Valid k l) t ∧ (t = true ↔ l.length ≤ 4096 ∧ Nm l) := by
  obtain ⟨t, h1, h3⟩ := r_valid l
  exact ⟨t, Ev.step (fun k => isochroneref01_Valid_eq k l) (evk h1), h3⟩
theorem ref_Valid_sp (ha : Arg v) : ∃ t, Ev (fun k => isochroneref02_Valid k v) t ∧ (t = true ↔ Vd v) := by
  have hiff := vd_iff ha
  obtain ⟨da, db, la, lb⟩ := ha
  obtain ⟨s, a, b, _⟩ := v
  obtain ⟨t1, e1, i1⟩ := s_Valid a la
  obtain ⟨t2, e2, i2⟩ := s_Valid b lb
  by_cases c1 : a.length ≤ 4096 ∧ Nm a
  · by_cases c2 : b.length ≤ 4096 ∧ Nm b
    · obtain rfl := i1.2 c1
      obtain rfl := i2.2 c2
      have hb0 := beq_len db c2.2
      have ca : P.Can WW a (vl WW a) := ⟨da, c1.2, rfl⟩
      have cb : P.Can WW b (vl WW b) := ⟨db, c2.2, rfl⟩
      have h1 := is_one' cb
      by_cases c3 : vl WW b = 0
      · refine ⟨false, Ev.step (fun k => isochroneref02_Valid_eq k _) (Ev.bind e1 (Ev.bind (a := false) (bF rfl (Ev.bind e2 (evs _))) (Ev.bind (a := true) (bF rfl ?_) (bT rfl (evs _))))), ?_⟩
        · rw [hb0, decide_eq_true c3]; exact evs _
        · rw [hiff]; simp [c3]
      · refine (?_ : ∃ t, Ev (fun k => bif (List.length a : Int) == (0 : Int) then _ else _) t ∧ _).elim fun t h => ⟨t, Ev.step (fun k => isochroneref02_Valid_eq k _) (Ev.bind e1 (Ev.bind (a := false) (bF rfl (Ev.bind e2 (evs _))) (Ev.bind (a := false) (bF rfl ?_) (bF rfl h.1)))), h.2⟩
        · by_cases c4 : vl WW a = 0
          · have ha0 : ((List.length a : Int) == (0 : Int)) = true := by rw [beq_len da c1.2]; exact decide_eq_true c4
            cases s with
            | true =>
              refine ⟨false, bT ha0 (Ev.bind (a := false) (bF rfl (evs _)) (Ev.bind (bF rfl (evs _)) (evs _))), ?_⟩
              rw [hiff]; simp [c4]
            | false =>
              refine ⟨decide (vl WW b = 1), bT ha0 ?_, ?_⟩
              · by_cases c5 : ((List.length b : Int) == (1 : Int)) = true
                · rw [c5] at h1
                  refine Ev.bind (a := true) (bT rfl (by rw [show (List.length (false, a, b, ()).2.2.1 : Int) = (List.length b : Int) from rfl, c5]; exact evs _)) (Ev.bind (bT rfl ?_) (evs _))
                  have h1' : (if 0 ≤ (0 : Int) ∧ (0 : Int) < (List.length b : Int) then some ((rdT (t := (.int .u32)) b (0 : Int) : Int) == (1 : Int)) else none) = some (decide (vl WW b = 1)) := h1
                  exact evk h1'
                · have c6 := Bool.eq_false_iff.2 c5
                  rw [c6] at h1
                  have h1' : some false = some (decide (vl WW b = 1)) := h1
                  rw [← Option.some.inj h1']
                  exact Ev.bind (a := false) (bT rfl (by rw [show (List.length (false, a, b, ()).2.2.1 : Int) = (List.length b : Int) from rfl, c6]; exact evs _)) (Ev.bind (bF rfl (evs _)) (evs _))
              · rw [hiff, decide_eq_true_eq]
                simp [c4, c1, c2, c3]
          · have ha0 : ((List.length a : Int) == (0 : Int)) = false := len_ne WW_pos ca c4
            obtain ⟨x, x1, x2, x3⟩ := s_Of (by omega) ca
            obtain ⟨y, y1, y2, y3⟩ := s_Of (by omega) cb
            obtain ⟨g, g1, g2⟩ := s_GCD (by omega) (by omega) x2 y2
            have b0 : 0 < vl WW b := by
              have h0 : (0 : Int) ≤ vl WW b := P.vl_nonneg WW_pos db
              omega
            have gl : g.length < 4611686018427387904 := by
              have := g2.len_le RR_one (Int.lt_of_le_of_lt (P.gI_le b0) (y2.lt RR_pos))
              omega
            have h2 := s_Cmp gl g2 (can1 RR_one)
            refine ⟨decide (gI (vl WW a) (vl WW b) = 1), bF ha0 (Ev.bind x1 (Ev.bind y1 (Ev.bind g1 (Ev.bind h2 ?_)))), ?_⟩
            · rw [cmpi_beq]; exact evs _
            · rw [hiff, decide_eq_true_eq]
              simp [c4, c1, c2, c3]
        · rw [hb0, decide_eq_false c3]; exact evs _
    · obtain rfl := i1.2 c1
      have : t2 = false := Bool.eq_false_iff.2 (fun e => c2 (i2.1 e))
      subst this
      refine ⟨false, Ev.step (fun k => isochroneref02_Valid_eq k _) (Ev.bind e1 (Ev.bind (a := true) (bF rfl (Ev.bind e2 (evs _))) (Ev.bind (a := true) (bT rfl (evs _)) (bT rfl (evs _))))), ?_⟩
      rw [hiff]
      simp
      intro h1 h2 h3 h4
      exact absurd ⟨h2, h4⟩ c2
  · have : t1 = false := Bool.eq_false_iff.2 (fun e => c1 (i1.1 e))
    subst this
    refine ⟨false, Ev.step (fun k => isochroneref02_Valid_eq k _) (Ev.bind e1 (Ev.bind (a := true) (bT rfl (evs _)) (Ev.bind (a := true) (bT rfl (evs _)) (bT rfl (evs _))))), ?_⟩
    rw [hiff]
    simp
    intro h1 h2 h3 h4
    exact absurd ⟨h1, h3⟩ c1
theorem vn_iff (N : Nat) (ha : Arg v) : VN N v ↔ v.2.1.length ≤ N ∧ v.2.2.1.length ≤ N ∧ Nm v.2.1 ∧ Nm v.2.2.1 ∧ vl WW v.2.2.1 ≠ 0 ∧ (vl WW v.2.1 = 0 → v.1 = false ∧ vl WW v.2.2.1 = 1) ∧ (vl WW v.2.1 ≠ 0 → gI (vl WW v.2.1) (vl WW v.2.2.1) = 1) := by
  obtain ⟨s, a, b, _⟩ := v
  have h := val_iff (s := s) ha.1 ha.2.1
  constructor
  · rintro ⟨q, h1, h2⟩
    obtain ⟨l1, l2⟩ := sz_len WW_one h1 h2
    exact ⟨l1, l2, h.1 ⟨q, h1⟩⟩
  · rintro ⟨l1, l2, h3⟩
    obtain ⟨q, hq⟩ := h.2 h3
    exact ⟨q, hq, sz_of WW_pos hq l1 l2⟩
theorem num_valid_N (N : Nat) (hN : N ≤ 4096) (l : List Int) : ∃ t, Ev (fun k => num_valid k l (N : Int)) t ∧ (t = true ↔ l.length ≤ N ∧ Nm l) := by
  by_cases h1 : l.length ≤ N
  · by_cases h0 : l.length = 0
    · have : l = [] := List.eq_nil_of_length_eq_zero h0
      subst this
      exact ⟨true, Ev.step (fun k => num_valid_eq k _ _) (Ev.bind (bT rfl (Ev.bind (bT rfl (evs _)) (evs _))) (evs _)), by simp; exact P.Nm.nil⟩
    · have e : wrap64 ((l.length : Int) - 1) = (l.length : Int) - 1 := w64 (by omega) (by omega)
      refine ⟨rd l ((l.length : Int) - 1) != 0, Ev.step (fun k => num_valid_eq k _ _) (Ev.bind (bT (decide_eq_true (by omega)) (Ev.bind (bF (by simp; intro e; exact h0 (by simp [e])) ?_) (evs _))) (evs _)), ?_⟩
      · rw [e]
        exact iT (by omega) (evs _)
      · simp only [bne_iff_ne]
        exact ⟨fun h => ⟨h1, P.nm_of_rd (fun _ => h)⟩, fun h => h.2.rd (by omega)⟩
  · exact ⟨false, Ev.step (fun k => num_valid_eq k _ _) (Ev.bind (bF (decide_eq_false (by omega)) (evs _)) (evs _)), by simp; omega⟩
theorem num_Valid_N (N : Nat) (hN : N ≤ 4096) (ha : Arg v) : ∃ t, Ev (fun k => num_Valid k v (N : Int)) t ∧ (t = true ↔ VN N v) := by
  have hiff := vn_iff N ha
  obtain ⟨da, db, la, lb⟩ := ha
  obtain ⟨s, a, b, _⟩ := v
  obtain ⟨t1, e1, i1⟩ := num_valid_N N hN a
  obtain ⟨t2, e2, i2⟩ := num_valid_N N hN b
  show ∃ t, Ev (fun k => num_Valid k (s, a, b, ()) (N : Int)) t ∧ (t = true ↔ VN N (s, a, b, ()))
  by_cases c1 : a.length ≤ N ∧ Nm a
  · by_cases c2 : b.length ≤ N ∧ Nm b
    · obtain rfl := i1.2 c1
      obtain rfl := i2.2 c2
      have hb0 := beq_len db c2.2
      have ca : P.Can WW a (vl WW a) := ⟨da, c1.2, rfl⟩
      have cb : P.Can WW b (vl WW b) := ⟨db, c2.2, rfl⟩
      have h1 := is_one' cb
      by_cases c3 : vl WW b = 0
      · refine ⟨false, Ev.step (fun k => num_Valid_eq k _ _) (Ev.bind e1 (Ev.bind (a := false) (bF rfl (Ev.bind e2 (evs _))) (Ev.bind (a := true) (bF rfl ?_) (bT rfl (evs _))))), ?_⟩
        · rw [hb0, decide_eq_true c3]; exact evs _
        · rw [hiff]; simp [c3]
      · refine (?_ : ∃ t, Ev (fun k => bif (List.length a : Int) == (0 : Int) then _ else _) t ∧ _).elim fun t h => ⟨t, Ev.step (fun k => num_Valid_eq k _ _) (Ev.bind e1 (Ev.bind (a := false) (bF rfl (Ev.bind e2 (evs _))) (Ev.bind (a := false) (bF rfl ?_) (bF rfl h.1)))), h.2⟩
        · by_cases c4 : vl WW a = 0
          · have ha0 : ((List.length a : Int) == (0 : Int)) = true := by rw [beq_len da c1.2]; exact decide_eq_true c4
            cases s with
            | true =>
              refine ⟨false, bT ha0 (Ev.bind (a := false) (bF rfl (evs _)) (Ev.bind (bF rfl (evs _)) (evs _))), ?_⟩
              rw [hiff]; simp [c4]
            | false =>
              refine ⟨decide (vl WW b = 1), bT ha0 ?_, ?_⟩
              · by_cases c5 : ((List.length b : Int) == (1 : Int)) = true
                · rw [c5] at h1
                  refine Ev.bind (a := true) (bT rfl (by rw [show (List.length (false, a, b, ()).2.2.1 : Int) = (List.length b : Int) from rfl, c5]; exact evs _)) (Ev.bind (bT rfl ?_) (evs _))
                  have h1' : (if 0 ≤ (0 : Int) ∧ (0 : Int) < (List.length b : Int) then some ((rdT (t := (.int .u32)) b (0 : Int) : Int) == (1 : Int)) else none) = some (decide (vl WW b = 1)) := h1
                  exact evk h1'
                · have c6 := Bool.eq_false_iff.2 c5
                  rw [c6] at h1
                  have h1' : some false = some (decide (vl WW b = 1)) := h1
                  rw [← Option.some.inj h1']
                  exact Ev.bind (a := false) (bT rfl (by rw [show (List.length (false, a, b, ()).2.2.1 : Int) = (List.length b : Int) from rfl, c6]; exact evs _)) (Ev.bind (bF rfl (evs _)) (evs _))
              · rw [hiff, decide_eq_true_eq]
                simp [c4, c1, c2, c3]
          · have ha0 : ((List.length a : Int) == (0 : Int)) = false := len_ne WW_pos ca c4
            by_cases c5 : vl WW b = 1
            · refine ⟨true, bF ha0 (Ev.bind (evk h1) (bT (decide_eq_true c5) (evs _))), ?_⟩
              rw [hiff]
              have : gI (vl WW a) 1 = 1 := by unfold P.gI; simp
              simp [c4, c1, c2, c5, this]
            · obtain ⟨g, g1, g2⟩ := q_GCD (by omega) (by omega) ca cb
              have h2 := is_one' g2
              refine ⟨decide (gI (vl WW a) (vl WW b) = 1), bF ha0 (Ev.bind (evk h1) (bF (decide_eq_false c5) (Ev.bind g1 (Ev.bind (evk h2) (evs _))))), ?_⟩
              rw [hiff, decide_eq_true_eq]
              simp [c4, c1, c2, c3]
        · rw [hb0, decide_eq_false c3]; exact evs _
    · obtain rfl := i1.2 c1
      have : t2 = false := Bool.eq_false_iff.2 (fun e => c2 (i2.1 e))
      subst this
      refine ⟨false, Ev.step (fun k => num_Valid_eq k _ _) (Ev.bind e1 (Ev.bind (a := true) (bF rfl (Ev.bind e2 (evs _))) (Ev.bind (a := true) (bT rfl (evs _)) (bT rfl (evs _))))), ?_⟩
      rw [hiff]
      simp
      intro h1 h2 h3 h4
      exact absurd ⟨h2, h4⟩ c2
  · have : t1 = false := Bool.eq_false_iff.2 (fun e => c1 (i1.1 e))
    subst this
    refine ⟨false, Ev.step (fun k => num_Valid_eq k _ _) (Ev.bind e1 (Ev.bind (a := true) (bT rfl (evs _)) (Ev.bind (a := true) (bT rfl (evs _)) (bT rfl (evs _))))), ?_⟩
    rw [hiff]
    simp
    intro h1 h2 h3 h4
    exact absurd ⟨h1, h3⟩ c1
end
end Go.Proofs.YtjimdhlmeebjeaaGreat.Q
end
section
namespace Go.Proofs.YtjimdhlmeebjeaaGreat.Q
open Go.RowKit Go.Proofs.YtjimdhlmeebjeaaGreatW.PrintWords Go.Proofs.YtjimdhlmeebjeaaGreatW.PrintMore Go.Proofs.YtjimdhlmeebjeaaGreat.V Go.Proofs.YtjimdhlmeebjeaaGreat.E
open Go.Proofs.YtjimdhlmeebjeaaGreat.P (Dg Nm vl WW RR can_uniq gI evs evk evb cmpi WW_pos WW_one RR_pos w64 u64)
set_option linter.unusedVariables false
noncomputable def dc (p : Prop) : Bool := @decide p (Classical.propDecidable p)
theorem dc_true {p : Prop} (h : p) : dc p = true := @decide_eq_true p (Classical.propDecidable p) h
theorem dc_false {p : Prop} (h : ¬ p) : dc p = false := @decide_eq_false p (Classical.propDecidable p) h
theorem dc_iff {p : Prop} : dc p = true ↔ p := @decide_eq_true_iff p (Classical.propDecidable p)
theorem dc_of {p : Prop} {t : Bool} (h : t = true ↔ p) : t = dc p := by
  cases t with
  | true => exact (dc_true (h.1 rfl)).symm
  | false => exact (dc_false (fun hp => by have := h.2 hp; cases this)).symm
theorem dc_congr {p q : Prop} (h : p ↔ q) : dc p = dc q := dc_of ((@decide_eq_true_iff p (Classical.propDecidable p)).trans h)
theorem walkd {β : Type} {E : Nat → β → Prop} {n : Nat} {t : Nat → Prop} {bad fin : β} (hb : ∀ i, i < n → ¬ t i → E i bad) (hg : ∀ i, i < n → t i → ∀ r, E (i + 1) r → E i r) (he : E n fin) : (∀ i, i < n → t i) ∧ E 0 fin ∨ (∃ i, i < n ∧ ¬ t i) ∧ E 0 bad := by
  have key : ∀ d i, n - i = d → i ≤ n → (∀ j, i ≤ j → j < n → t j) ∧ E i fin ∨ (∃ j, i ≤ j ∧ j < n ∧ ¬ t j) ∧ E i bad := by
    intro d
    induction d with
    | zero =>
      intro i hd hi
      have : i = n := by omega
      subst this
      exact .inl ⟨fun j h1 h2 => by omega, he⟩
    | succ d ih =>
      intro i hd hi
      by_cases ht : t i
      · rcases ih (i + 1) (by omega) (by omega) with ⟨h1, h2⟩ | ⟨⟨j, h1, h2, h3⟩, h4⟩
        · exact .inl ⟨fun j hj1 hj2 => by
            by_cases c : j = i
            · rw [c]; exact ht
            · exact h1 j (by omega) hj2, hg i (by omega) ht _ h2⟩
        · exact .inr ⟨⟨j, by omega, h2, h3⟩, hg i (by omega) ht _ h4⟩
      · exact .inr ⟨⟨i, Nat.le_refl _, by omega, ht⟩, hb i (by omega) ht⟩
  rcases key n 0 (by omega) (by omega) with ⟨h1, h2⟩ | ⟨⟨j, h1, h2, h3⟩, h4⟩
  · exact .inl ⟨fun i hi => h1 i (by omega) hi, h2⟩
  · exact .inr ⟨⟨j, h2, h3⟩, h4⟩
theorem rd_get {t : Ty} {l : List t.den} {i : Nat} (h : i < l.length) : rdT l (i : Int) = l[i] := by
  simp [rdT, h]
theorem inc1 {i : Nat} (h : i < 9223372036854775807) : wrap64 ((i : Int) + 1) = ((i + 1 : Nat) : Int) := by
  rw [w64 (by omega) (by omega)]; omega
section
variable {v w : RatD} {p q : Rat} {K L : Nat}
theorem num_Valid_ev (N : Nat) (hN : N ≤ 4096) (ha : Arg v) : Ev (fun k => num_Valid k v (N : Int)) (dc (VN N v)) := by
  obtain ⟨t, h1, h2⟩ := num_Valid_N N hN ha
  rw [← dc_of h2]
  exact h1
theorem vn_short {N : Nat} (hN : N ≤ 4096) (ha : Arg v) : VN N v ↔ (v.2.1.length ≤ N ∧ v.2.2.1.length ≤ N) ∧ Vd v := by
  constructor
  · rintro ⟨q, h1, h2⟩
    exact ⟨sz_len WW_one h1 h2, q, h1, sz_mono WW_pos h2 hN⟩
  · rintro ⟨⟨h1, h2⟩, q, h3, h4⟩
    exact ⟨q, h3, sz_of WW_pos h3 h1 h2⟩
theorem ref_Valid_ev (ha : Arg v) : Ev (fun k => isochroneref02_Valid k v) (dc (Vd v)) := by
  obtain ⟨t, h1, h2⟩ := ref_Valid_sp ha
  rw [← dc_of h2]
  exact h1
theorem ref_number_ev (ha : Arg v) : Ev (fun k => isochroneref05_number k v) (dc (VN 20 v)) := by
  have h1 := ref_Short_sp v 20
  by_cases c : v.2.1.length ≤ 20 ∧ v.2.2.1.length ≤ 20
  · rw [decide_eq_true c] at h1
    have : dc (VN 20 v) = dc (Vd v) := dc_congr ((vn_short (by decide) ha).trans ⟨fun h => h.2, fun h => ⟨c, h⟩⟩)
    rw [this]
    exact Ev.step (fun k => isochroneref05_number_eq k v) (Ev.bind h1 (Ev.bind (bT rfl (Ev.bind (ref_Valid_ev ha) (evs _))) (evs _)))
  · rw [decide_eq_false c] at h1
    rw [dc_false (fun h => c ((vn_short (by decide) ha).1 h).1)]
    exact Ev.step (fun k => isochroneref05_number_eq k v) (Ev.bind h1 (Ev.bind (bF rfl (evs _)) (evs _)))
def Args (l : List RatD) : Prop := l.length ≤ 9223372036854775807 ∧ ∀ x ∈ l, Arg x
theorem numbers_ev {l : List RatD} (n : Int) (ha : Args l) : Ev (fun k => linear_numbers k l n) (dc ((∀ x ∈ l, VN 200 x) ∧ (l.length : Int) = n)) := by
  have key := walkd (E := fun i r => Ev2 (fun k m => linear_numbers.l0 k m l n l (l.length : Int) (i : Int)) r) (n := l.length) (t := fun i => ∀ h : i < l.length, VN 200 l[i]) (bad := false) (fin := ((List.length l : Int) == n)) (fun i hi ht => ?_) (fun i hi ht r hr => ?_) ?_
  · refine Ev.step (fun k => linear_numbers_eq k l n) ?_
    rcases key with ⟨h1, h2⟩ | ⟨⟨i, h1, h2⟩, h3⟩
    · have : dc ((∀ x ∈ l, VN 200 x) ∧ (l.length : Int) = n) = ((List.length l : Int) == n) := by
        refine (dc_of ?_).symm
        rw [beq_iff_eq]
        exact ⟨fun h => ⟨fun x hx => by obtain ⟨i, hi, rfl⟩ := List.getElem_of_mem hx; exact h1 i hi hi, h⟩, fun h => h.2⟩
      rw [this]
      exact h2.diag
    · rw [dc_false (fun h => h2 (fun h4 => h.1 _ (List.getElem_mem h4)))]
      exact h3.diag
  · have hv : ¬ VN 200 l[i] := fun h => ht (fun _ => h)
    refine Ev2.step (fun k m => linear_numbers.l0_succ k m _ _ _ _ _) (Ev2.bT (decide_eq_true (by omega)) (Ev2.iT (by omega) (Ev2.bind (a := false) ?_ (Ev2.bT rfl (Ev2.of (evs _))))))
    rw [rd_get hi, ← dc_false hv]
    exact num_Valid_ev 200 (by decide) (ha.2 _ (List.getElem_mem hi))
  · refine Ev2.step (fun k m => linear_numbers.l0_succ k m _ _ _ _ _) (Ev2.bT (decide_eq_true (by omega)) (Ev2.iT (by omega) (Ev2.bind (a := true) ?_ (Ev2.bF rfl ?_))))
    · rw [rd_get hi, ← dc_true (ht hi)]
      exact num_Valid_ev 200 (by decide) (ha.2 _ (List.getElem_mem hi))
    · rw [inc1 (Nat.lt_of_lt_of_le hi ha.1)]
      exact hr
  · exact Ev2.step (fun k m => linear_numbers.l0_succ k m _ _ _ _ _) (Ev2.bF (decide_eq_false (by omega)) (Ev2.of (evs _)))
theorem ref_List_ev {l : List RatD} (n : Int) (ha : Args l) : Ev (fun k => isochroneref05_List k l n) (dc ((∀ x ∈ l, VN 200 x) ∧ (l.length : Int) = n)) := by
  refine Ev.step (fun k => isochroneref05_List_eq k l n) ?_
  by_cases hn : (l.length : Int) = n
  · refine bF (by simp [hn]) ?_
    have key := walkd (E := fun i r => Ev2 (fun k m => isochroneref05_List.l0 k m l (l.length : Int) (i : Int)) r) (n := l.length) (t := fun i => ∀ h : i < l.length, VN 200 l[i]) (bad := false) (fin := true) (fun i hi ht => ?_) (fun i hi ht r hr => ?_) ?_
    · rcases key with ⟨h1, h2⟩ | ⟨⟨i, h1, h2⟩, h3⟩
      · rw [dc_true (show (∀ x ∈ l, VN 200 x) ∧ (l.length : Int) = n from ⟨fun x hx => by obtain ⟨i, hi, rfl⟩ := List.getElem_of_mem hx; exact h1 i hi hi, hn⟩)]
        exact h2.diag
      · rw [dc_false (fun h => h2 (fun h4 => h.1 _ (List.getElem_mem h4)))]
        exact h3.diag
    · have hv : ¬ VN 200 l[i] := fun h => ht (fun _ => h)
      have har := ha.2 _ (List.getElem_mem hi)
      rw [vn_short (by decide) har] at hv
      have h1 := ref_Short_sp l[i] 200
      refine Ev2.step (fun k m => isochroneref05_List.l0_succ k m _ _ _) (Ev2.bT (decide_eq_true (by omega)) (Ev2.iT (by omega) (Ev2.bind (a := decide (l[i].2.1.length ≤ 200 ∧ l[i].2.2.1.length ≤ 200)) ?_ ?_)))
      · rw [rd_get hi]; exact h1
      · by_cases c : l[i].2.1.length ≤ 200 ∧ l[i].2.2.1.length ≤ 200
        · rw [decide_eq_true c]
          refine Ev2.bind (a := true) (bF rfl (Ev.bind (a := false) ?_ (evs _))) (Ev2.bT rfl (Ev2.of (evs _)))
          rw [rd_get hi, ← dc_false (fun h => hv ⟨c, h⟩)]
          exact ref_Valid_ev har
        · rw [decide_eq_false c]
          exact Ev2.bind (a := true) (bT rfl (evs _)) (Ev2.bT rfl (Ev2.of (evs _)))
    · have har := ha.2 _ (List.getElem_mem hi)
      have hv := (vn_short (by decide) har).1 (ht hi)
      have h1 := ref_Short_sp l[i] 200
      rw [decide_eq_true hv.1] at h1
      refine Ev2.step (fun k m => isochroneref05_List.l0_succ k m _ _ _) (Ev2.bT (decide_eq_true (by omega)) (Ev2.iT (by omega) (Ev2.bind (a := true) ?_ (Ev2.bind (a := false) (bF rfl (Ev.bind (a := true) ?_ (evs _))) (Ev2.bF rfl ?_)))))
      · rw [rd_get hi]; exact h1
      · rw [rd_get hi, ← dc_true hv.2]
        exact ref_Valid_ev har
      · rw [inc1 (Nat.lt_of_lt_of_le hi ha.1)]
        exact hr
    · exact Ev2.step (fun k m => isochroneref05_List.l0_succ k m _ _ _) (Ev2.bF (decide_eq_false (by omega)) (Ev2.of (evs _)))
  · rw [dc_false (fun h => hn h.2)]
    exact bT (by simpa using hn) (evs _)
end
end Go.Proofs.YtjimdhlmeebjeaaGreat.Q
end
