/- NatShifts: Shift of a magnitude of at most 40 words multiplies by a power of two or divides by one, ErrRange beyond 200000; Bits counts the binary digits, for every input. No condition. (text 7 of 7) -/
import Derived.Laws.BitsLemmas
import Derived.SizedLaws
import Derived.ChangeSlices
import Derived.Test.YtfmobogdnlmdbaaRows
import Derived.WalkKit
import Derived.ProofKit
import Derived.OpenShut
import Derived.ShutString
import Derived.ChangeOld
import Derived.Below
import Derived.Test.YtfmobogdnlmdbaaShift6
section
namespace Go.Proofs.Ytfmobogdnlmdbaa.P
open Go.RowKit Go.Proofs.YtfmobogdnlmdbaaW.PrintWords Go.Proofs.YtfmobogdnlmdbaaW.PrintLast Go.Proofs.YtfmobogdnlmdbaaW.PrintMore
set_option linter.unusedVariables false
theorem evp {α : Type} {c : Prop} [Decidable c] {f g : Nat → Option α} {r : α} (hc : c) (h : Ev f r) : Ev (fun k => if c then f k else g k) r := by simpa only [if_pos hc] using h
theorem evn {α : Type} {c : Prop} [Decidable c] {f g : Nat → Option α} {r : α} (hc : ¬ c) (h : Ev g r) : Ev (fun k => if c then f k else g k) r := by simpa only [if_neg hc] using h
theorem evb {α β : Type} {o : Option α} {f : Nat → α → Option β} {a : α} {r : β} (h : o = some a) (k : Ev (fun n => f n a) r) : Ev (fun n => o.bind (f n)) r := by subst h; exact k
theorem evs {α : Type} (r : α) : Ev (fun _ => some r) r := ⟨0, fun _ _ => rfl⟩
theorem w64 {x : Int} (h0 : -9223372036854775808 ≤ x) (h1 : x ≤ 9223372036854775807) : wrap64 x = x := by unfold wrap64; omega
theorem u64 {x : Int} (h0 : 0 ≤ x) (h1 : x < 18446744073709551616) : IntKind.u64.wrap x = x := by rw [IntKind.wrap_u64]; omega
def vl (B : Int) : List Int → Int
  | [] => 0
  | x :: t => x + B * vl B t
def Dg (B : Int) (l : List Int) : Prop := ∀ x ∈ l, 0 ≤ x ∧ x < B
def Nm (l : List Int) : Prop := ∀ h : l ≠ [], l.getLast h ≠ 0
def Can (B : Int) (l : List Int) (n : Int) : Prop := Dg B l ∧ Nm l ∧ vl B l = n
section
variable {B : Int} {l a b : List Int}
theorem vl_append (B : Int) (a b : List Int) : vl B (a ++ b) = vl B a + B ^ a.length * vl B b := by
  induction a with
  | nil => simp [vl]
  | cons x t ih =>
    simp only [List.cons_append, vl, ih, List.length_cons]
    grind
theorem rd_lt (l : List Int) (i : Nat) (h : i < l.length) : rd l (i : Int) = l[i] := by simp [rd, h]
theorem vl_take (B : Int) (l : List Int) (i : Nat) (h : i < l.length) : vl B (l.take (i + 1)) = vl B (l.take i) + rd l (i : Int) * B ^ i := by
  rw [List.take_succ_eq_append_getElem h, vl_append, rd_lt l i h, List.length_take, Nat.min_eq_left (by omega)]
  simp only [vl]
  grind
theorem take_set (l : List Int) (i : Nat) (v : Int) (h : i < l.length) : (l.set i v).take (i + 1) = l.take i ++ [v] := by
  rw [List.take_succ_eq_append_getElem (by simpa using h), List.take_set_of_le (by omega)]
  simp
theorem vl_set (B : Int) (l : List Int) (i : Nat) (v : Int) (h : i < l.length) : vl B ((l.set i v).take (i + 1)) = vl B (l.take i) + v * B ^ i := by
  rw [take_set l i v h, vl_append, List.length_take, Nat.min_eq_left (by omega)]
  simp only [vl]
  grind
theorem Dg.nil (B : Int) : Dg B [] := fun x hx => by cases hx
theorem Dg.cons {x : Int} (h : Dg B (x :: l)) : (0 ≤ x ∧ x < B) ∧ Dg B l := ⟨h x (by simp), fun y hy => h y (by simp [hy])⟩
theorem Dg.mk {x : Int} (h0 : 0 ≤ x) (h1 : x < B) (h : Dg B l) : Dg B (x :: l) := by
  intro y hy
  rcases List.mem_cons.1 hy with rfl | hy
  · exact ⟨h0, h1⟩
  · exact h y hy
theorem Dg.append (ha : Dg B a) (hb : Dg B b) : Dg B (a ++ b) := by
  intro y hy
  rcases List.mem_append.1 hy with hy | hy
  · exact ha y hy
  · exact hb y hy
theorem Dg.take (h : Dg B l) (i : Nat) : Dg B (l.take i) := fun x hx => h x (List.mem_of_mem_take hx)
theorem Dg.drop (h : Dg B l) (i : Nat) : Dg B (l.drop i) := fun x hx => h x (List.mem_of_mem_drop hx)
theorem Dg.set (h : Dg B l) (i : Nat) {v : Int} (h0 : 0 ≤ v) (h1 : v < B) : Dg B (l.set i v) := by
  intro x hx
  rcases List.mem_or_eq_of_mem_set hx with hx | rfl
  · exact h x hx
  · exact ⟨h0, h1⟩
theorem Dg.rep (hB : 0 < B) (n : Nat) : Dg B (List.replicate n 0) := by
  intro x hx
  have := (List.mem_replicate.1 hx).2
  omega
theorem Dg.take_set {i : Nat} {v : Int} (hi : i < l.length) (h' : Dg B (l.take i)) (h0 : 0 ≤ v) (h1 : v < B) : Dg B ((l.set i v).take (i + 1)) := by
  rw [P.take_set l i v hi]
  exact h'.append (Dg.mk h0 h1 (Dg.nil B))
theorem dg_rd (h : Dg B l) (i : Int) (h0 : 0 ≤ i) (h1 : i < l.length) : 0 ≤ rd l i ∧ rd l i < B := by
  obtain ⟨n, rfl⟩ := Int.eq_ofNat_of_zero_le h0
  rw [rd_lt l n (by omega)]
  exact h _ (List.getElem_mem _)
theorem pow_pos' (hB : 0 < B) (n : Nat) : 0 < B ^ n := Int.pow_pos hB
theorem vl_nonneg (hB : 0 < B) : ∀ {l : List Int}, Dg B l → 0 ≤ vl B l
  | [], _ => by simp [vl]
  | x :: t, h => by
    have h1 := h.cons
    have h2 := vl_nonneg hB h1.2
    have h3 : 0 ≤ B * vl B t := Int.mul_nonneg (by omega) h2
    simp only [vl]
    omega
theorem vl_lt (hB : 0 < B) : ∀ {l : List Int}, Dg B l → vl B l < B ^ l.length
  | [], _ => by simp [vl]
  | x :: t, h => by
    have h1 := h.cons
    have h2 := vl_lt hB h1.2
    have h3 : B * (vl B t + 1) ≤ B * B ^ t.length := Int.mul_le_mul_of_nonneg_left (by omega) (by omega)
    simp only [vl, List.length_cons]
    rw [Int.mul_add] at h3
    have h4 : B ^ (t.length + 1) = B * B ^ t.length := by grind
    omega
theorem Nm.nil : Nm [] := fun h => absurd rfl h
theorem Nm.tail {x : Int} (h : Nm (x :: l)) : Nm l := by
  intro hl
  have := h (by simp)
  rwa [List.getLast_cons hl] at this
theorem vl_pos (hB : 0 < B) : ∀ {l : List Int}, Dg B l → Nm l → l ≠ [] → 0 < vl B l
  | [], _, _, h => absurd rfl h
  | [x], hd, hn, _ => by
    have h1 := hd.cons
    have h2 := hn (by simp)
    simp at h2
    simp [vl]
    omega
  | x :: y :: t, hd, hn, _ => by
    have h1 := hd.cons
    have h2 := vl_pos hB h1.2 hn.tail (by simp)
    have h3 : 0 < B * vl B (y :: t) := Int.mul_pos hB h2
    rw [vl]
    omega
theorem vl_ge (hB : 0 < B) : ∀ {l : List Int}, Dg B l → Nm l → l ≠ [] → B ^ (l.length - 1) ≤ vl B l
  | [], _, _, h => absurd rfl h
  | [x], hd, hn, _ => by
    have h1 := vl_pos hB hd hn (by simp)
    simp
    omega
  | x :: y :: t, hd, hn, _ => by
    have h1 := hd.cons
    have h2 := vl_ge hB h1.2 hn.tail (by simp)
    have h3 : B * B ^ ((y :: t).length - 1) ≤ B * vl B (y :: t) := Int.mul_le_mul_of_nonneg_left h2 (by omega)
    rw [vl]
    have h4 : B ^ ((x :: y :: t).length - 1) = B * B ^ ((y :: t).length - 1) := by
      simp only [List.length_cons, Nat.add_sub_cancel]
      grind
    omega
theorem can_uniq (hB : 0 < B) : ∀ {a b : List Int} {n : Int}, Can B a n → Can B b n → a = b
  | [], [], _, _, _ => rfl
  | [], y :: t, n, h, h' => by
    have h1 := vl_pos hB h'.1 h'.2.1 (by simp)
    have h2 := h.2.2
    have h3 := h'.2.2
    simp only [vl] at h2
    omega
  | x :: t, [], n, h, h' => by
    have h1 := vl_pos hB h.1 h.2.1 (by simp)
    have h2 := h.2.2
    have h3 := h'.2.2
    simp only [vl] at h3
    omega
  | x :: s, y :: t, n, h, h' => by
    have h1 := h.1.cons
    have h2 := h'.1.cons
    have h3 := h.2.2
    have h4 := h'.2.2
    simp only [vl] at h3 h4
    have e1 : x = n % B := by rw [← h3, Int.add_mul_emod_self_left, Int.emod_eq_of_lt h1.1.1 h1.1.2]
    have e2 : y = n % B := by rw [← h4, Int.add_mul_emod_self_left, Int.emod_eq_of_lt h2.1.1 h2.1.2]
    have e3 : x = y := by omega
    subst e3
    have e4 : vl B s = vl B t := Int.eq_of_mul_eq_mul_left (a := B) (by omega) (by omega)
    rw [can_uniq hB (n := vl B t) ⟨h1.2, h.2.1.tail, e4⟩ ⟨h2.2, h'.2.1.tail, rfl⟩]
theorem Can.nonneg (hB : 0 < B) {n : Int} (h : Can B l n) : 0 ≤ n := by rw [← h.2.2]; exact vl_nonneg hB h.1
theorem Can.zero (B : Int) : Can B [] 0 := ⟨Dg.nil B, Nm.nil, rfl⟩
theorem Can.nil_iff (hB : 0 < B) {n : Int} (h : Can B l n) : l = [] ↔ n = 0 := by
  constructor
  · rintro rfl
    exact h.2.2.symm
  · rintro rfl
    exact can_uniq hB h (Can.zero B)
theorem Can.len_iff (hB : 0 < B) {n : Int} (h : Can B l n) : l.length = 0 ↔ n = 0 := by rw [← h.nil_iff hB]; exact List.length_eq_zero_iff
theorem Can.lt (hB : 0 < B) {n : Int} (h : Can B l n) : n < B ^ l.length := by rw [← h.2.2]; exact vl_lt hB h.1
theorem Can.ge (hB : 0 < B) {n : Int} (h : Can B l n) (h0 : l.length ≠ 0) : B ^ (l.length - 1) ≤ n := by
  rw [← h.2.2]
  exact vl_ge hB h.1 h.2.1 (fun e => h0 (by rw [e]; rfl))
theorem pow_le {B : Int} (hB : 1 ≤ B) {i j : Nat} (h : i ≤ j) : B ^ i ≤ B ^ j := by
  obtain ⟨d, rfl⟩ := Nat.exists_eq_add_of_le h
  rw [Int.pow_add]
  have h1 : 1 ≤ B ^ d := Int.pow_pos (by omega)
  have h2 : B ^ i * 1 ≤ B ^ i * B ^ d := Int.mul_le_mul_of_nonneg_left h1 (Int.le_of_lt (Int.pow_pos (by omega)))
  omega
theorem Can.len_lt (hB : 1 < B) {n m : Int} (h : Can B a n) (h' : Can B b m) (hl : a.length < b.length) : n < m := by
  have h1 := h.lt (by omega)
  have h2 := h'.ge (by omega) (by omega)
  have h3 := pow_le (B := B) (by omega) (show a.length ≤ b.length - 1 by omega)
  omega
theorem Can.len_le (hB : 1 < B) {n : Int} (h : Can B l n) {k : Nat} (hn : n < B ^ k) : l.length ≤ k := by
  rcases Nat.lt_or_ge k l.length with hk | hk
  · have h1 := h.ge (by omega) (by omega)
    have h2 := pow_le (B := B) (by omega) (show k ≤ l.length - 1 by omega)
    omega
  · exact hk
theorem Can.len_ge (hB : 1 < B) {n : Int} (h : Can B l n) {k : Nat} (hn : B ^ k ≤ n) : k < l.length := by
  rcases Nat.lt_or_ge k l.length with hk | hk
  · exact hk
  · have h1 := h.lt (by omega)
    have h2 := pow_le (B := B) (by omega) hk
    omega
theorem vl_drop (B : Int) (l : List Int) (i : Nat) (h : i ≤ l.length) : vl B l = vl B (l.take i) + B ^ i * vl B (l.drop i) := by
  conv => lhs; rw [← List.take_append_drop i l]
  rw [vl_append, List.length_take, Nat.min_eq_left h]
theorem rd_set_ne (l : List Int) (i j : Int) (v : Int) (h : i.toNat ≠ j.toNat) : rd (l.set i.toNat v) j = rd l j := by
  simp only [rd, List.getD_eq_getElem?_getD]
  rw [List.getElem?_set_ne h]
theorem rd_set_eq (l : List Int) (i : Int) (v : Int) (h : i.toNat < l.length) : rd (l.set i.toNat v) i = v := by
  simp only [rd, List.getD_eq_getElem?_getD]
  rw [List.getElem?_set_self h]
  rfl
theorem rd_take (l : List Int) (j : Int) (i : Nat) (h : j.toNat < i) : rd (l.take i) j = rd l j := by
  simp only [rd, List.getD_eq_getElem?_getD]
  rw [List.getElem?_take_of_lt h]
theorem getLast_rd (l : List Int) (h : l ≠ []) : l.getLast h = rd l ((l.length : Int) - 1) := by
  have hp : 0 < l.length := List.length_pos_iff.2 h
  rw [List.getLast_eq_getElem]
  have e : (l.length : Int) - 1 = ((l.length - 1 : Nat) : Int) := by omega
  rw [e, rd_lt _ _ (by omega)]
theorem nm_of_rd (h : 0 < l.length → rd l ((l.length : Int) - 1) ≠ 0) : Nm l := by
  intro hl
  rw [getLast_rd l hl]
  exact h (List.length_pos_iff.2 hl)
theorem Nm.rd (h : Nm l) (hp : 0 < l.length) : rd l ((l.length : Int) - 1) ≠ 0 := by
  have hl : l ≠ [] := List.ne_nil_of_length_pos hp
  rw [← getLast_rd l hl]
  exact h hl
theorem vl_rep (B : Int) (n : Nat) : vl B (List.replicate n 0) = 0 := by
  induction n with
  | zero => rfl
  | succ n ih => simp [List.replicate_succ, vl, ih]
theorem can_ex_nat (hB : 1 < B) (n : Nat) : ∃ l, Can B l (n : Int) := by
  induction n using Nat.strongRecOn with
  | _ n ih =>
    by_cases h0 : n = 0
    · subst h0
      exact ⟨[], Can.zero B⟩
    · have hlt : ((n : Int) / B).toNat < n := by
        have h1 : (n : Int) / B < n := Int.ediv_lt_self_of_pos_of_ne_one (by omega) (by omega)
        have h2 : 0 ≤ (n : Int) / B := Int.ediv_nonneg (by omega) (by omega)
        omega
      obtain ⟨l, h1, h2, h3⟩ := ih _ hlt
      have h4 : 0 ≤ (n : Int) / B := Int.ediv_nonneg (by omega) (by omega)
      have hm := Int.emod_nonneg (n : Int) (show B ≠ 0 by omega)
      have hm2 := Int.emod_lt_of_pos (n : Int) (show 0 < B by omega)
      have h5 : vl B ((n : Int) % B :: l) = n := by
        rw [vl, h3, Int.toNat_of_nonneg h4]
        exact Int.emod_add_mul_ediv _ _
      refine ⟨(n : Int) % B :: l, Dg.mk hm hm2 h1, ?_, h5⟩
      intro hne
      rcases List.eq_nil_or_concat l with hl | ⟨_, _, hl⟩
      · subst hl
        simp only [vl, Int.mul_zero, Int.add_zero] at h5
        simp only [List.getLast_singleton]
        omega
      · have hne' : l ≠ [] := by rw [hl]; simp
        rw [List.getLast_cons hne']
        exact h2 hne'
theorem can_ex (hB : 1 < B) {n : Int} (h : 0 ≤ n) : ∃ l, Can B l n := by
  obtain ⟨k, rfl⟩ := Int.eq_ofNat_of_zero_le h
  exact can_ex_nat hB k
end
end Go.Proofs.Ytfmobogdnlmdbaa.P
end
section
namespace Go.Proofs.Ytfmobogdnlmdbaa.P
open Go.RowKit Go.Proofs.YtfmobogdnlmdbaaW.PrintWords Go.Proofs.YtfmobogdnlmdbaaW.PrintLast Go.Proofs.YtfmobogdnlmdbaaW.PrintMore
set_option linter.unusedVariables false
abbrev WW : Int := 4294967296
theorem WW_pos : (0 : Int) < WW := by decide
theorem WW_one : (1 : Int) < WW := by decide
theorem WW_eq : WW = 4294967296 := rfl
theorem wsucc {i : Nat} (h : i < 4611686018427387904) : wrap64 ((i : Int) + 1) = ((i + 1 : Nat) : Int) := by rw [w64 (by omega) (by omega)]; omega
theorem mag_Trim_ev (n : Nat) : ∀ (l : List Int), l.length = n → n < 4611686018427387904 → Dg WW l → ∃ r, Ev (fun k => mag_Trim.l0 k l) r ∧ Can WW r (vl WW l) ∧ r.length ≤ l.length := by
  induction n with
  | zero =>
    intro l hl _ hd
    have e : l = [] := List.eq_nil_of_length_eq_zero hl
    subst e
    refine ⟨[], ?_, Can.zero _, Nat.le_refl _⟩
    refine Ev.step (fun k => by rw [mag_Trim.l0]) ?_
    exact evn (by simp) (evs _)
  | succ n ih =>
    intro l hl hn hd
    have ew : wrap64 ((l.length : Int) - 1) = (n : Int) := by rw [w64 (by omega) (by omega)]; omega
    by_cases hz : rd l n = 0
    · obtain ⟨r, h1, h2, h3⟩ := ih (l.take n) (by rw [List.length_take]; omega) (by omega) (hd.take n)
      refine ⟨r, ?_, ?_, ?_⟩
      · refine Ev.step (fun k => by rw [mag_Trim.l0]) ?_
        rw [ew]
        refine evp (by omega) (evp (by omega) (evp (by omega) (evp hz (evp (by omega) ?_))))
        simpa using h1
      · have h4 := vl_take WW l n (by omega)
        rw [hz, show n + 1 = l.length by omega, List.take_length] at h4
        rw [h4]
        simpa using h2
      · rw [List.length_take] at h3
        omega
    · refine ⟨l, ?_, ⟨hd, nm_of_rd (fun _ => ?_), rfl⟩, Nat.le_refl _⟩
      · refine Ev.step (fun k => by rw [mag_Trim.l0]) ?_
        rw [ew]
        exact evp (by omega) (evp (by omega) (evp (by omega) (evn hz (evs _))))
      · rw [hl]
        have e : (((n + 1 : Nat) : Int) - 1) = (n : Int) := by omega
        rw [e]
        exact hz
theorem mag_Trim_sp {l : List Int} (hn : l.length < 4611686018427387904) (hd : Dg WW l) : ∃ r, Ev (fun k => mag_Trim.f k l) r ∧ Can WW r (vl WW l) ∧ r.length ≤ l.length := by
  obtain ⟨r, h1, h2⟩ := mag_Trim_ev l.length l rfl hn hd
  exact ⟨r, Ev.congr (fun k => by rw [mag_Trim.f]) h1, h2⟩
def cmpi (n m : Int) : Int := if n < m then -1 else if n = m then 0 else 1
end Go.Proofs.Ytfmobogdnlmdbaa.P
end
section
namespace Go.Proofs.Ytfmobogdnlmdbaa.P
open Go.RowKit Go.Proofs.YtfmobogdnlmdbaaW.PrintWords Go.Proofs.YtfmobogdnlmdbaaW.PrintLast Go.Proofs.YtfmobogdnlmdbaaW.PrintMore
set_option linter.unusedVariables false
theorem alg_sub {vo va vb P c c' v x y W : Int} (h : vo - c * P = va - vb) (h2 : v - W * c' = x - c - y) : vo + v * P - c' * (W * P) = (va + x * P) - (vb + y * P) := by grind
theorem alg_sub1 {vo va vb P c c' v x W : Int} (h : vo - c * P = va - vb) (h2 : v - W * c' = x - c) : vo + v * P - c' * (W * P) = (va + x * P) - vb := by grind
theorem vl_set_mid (B : Int) (l : List Int) (p q : Nat) (v : Int) (h : p < q) (hq : q ≤ l.length) : vl B ((l.set p v).take q) = vl B (l.take q) + (v - rd l (p : Int)) * B ^ p := by
  have h1 := vl_drop B ((l.set p v).take q) (p + 1) (by simp; omega)
  have h2 := vl_drop B (l.take q) (p + 1) (by simp; omega)
  have e1 : ((l.set p v).take q).take (p + 1) = (l.set p v).take (p + 1) := by rw [List.take_take, Nat.min_eq_left (by omega)]
  have e2 : (l.take q).take (p + 1) = l.take (p + 1) := by rw [List.take_take, Nat.min_eq_left (by omega)]
  have e3 : ((l.set p v).take q).drop (p + 1) = (l.take q).drop (p + 1) := by
    rw [List.drop_take, List.drop_take, List.drop_set_of_lt (by omega)]
  rw [e1, e3, vl_set _ _ _ _ (by omega)] at h1
  rw [e2, vl_take _ _ _ (by omega)] at h2
  rw [h1, h2]
  grind
theorem alg_mul2 {T c P va vb x Pi : Int} (h : T + c * P = va * vb + x * Pi * vb) : T + c * P = (va + x * Pi) * vb := by rw [h]; grind
theorem mul_lt' {n m A C : Int} (h1 : n < A) (h2 : m < C) (h3 : 0 ≤ n) (h4 : 0 ≤ m) : n * m < A * C := by
  have h5 : n * m ≤ n * C := Int.mul_le_mul_of_nonneg_left (by omega) h3
  have h6 : n * C < A * C := Int.mul_lt_mul_of_pos_right h1 (by omega)
  omega
end Go.Proofs.Ytfmobogdnlmdbaa.P
end
section
namespace Go.Proofs.Ytfmobogdnlmdbaa.P
open Go.RowKit Go.Proofs.YtfmobogdnlmdbaaW.PrintWords Go.Proofs.YtfmobogdnlmdbaaW.PrintLast Go.Proofs.YtfmobogdnlmdbaaW.PrintMore
set_option linter.unusedVariables false
abbrev RR : Int := 10000
theorem RR_pos : (0 : Int) < RR := by decide
theorem RR_one : (1 : Int) < RR := by decide
theorem RR_eq : RR = 10000 := rfl
theorem r_trim_ev {l : List Int} (hn : l.length < 4611686018427387904) (hd : Dg RR l) (d : Nat) : ∀ i : Nat, i = d → i ≤ l.length → ∃ r, Ev (fun k => isochroneref01_trim.l0 k l (i : Int)) r ∧ Can RR r (vl RR (l.take i)) ∧ r.length ≤ i := by
  induction d with
  | zero =>
    rintro i rfl h
    refine ⟨[], ?_, Can.zero _, Nat.le_refl _⟩
    refine Ev.step (fun k => by rw [isochroneref01_trim.l0]) ?_
    exact evn (by omega) (evp (by omega) (evp (by omega) (evs _)))
  | succ d ih =>
    rintro i rfl h
    have hw : ((d + 1 : Nat) : Int) - 1 = (d : Int) := by omega
    by_cases hz : rd l d = 0
    · obtain ⟨r, h1, h2, h3⟩ := ih d rfl (by omega)
      refine ⟨r, ?_, ?_, by omega⟩
      · refine Ev.step (fun k => by rw [isochroneref01_trim.l0]) ?_
        rw [hw, w64 (x := (d : Int)) (by omega) (by omega)]
        exact evp (by omega) (evp (by omega) (evp (by omega) (evp hz h1)))
      · rw [vl_take RR l d (by omega), hz, Int.zero_mul, Int.add_zero]
        exact h2
    · refine ⟨l.take (d + 1), ?_, ⟨hd.take _, nm_of_rd (fun _ => ?_), rfl⟩, by rw [List.length_take]; omega⟩
      · refine Ev.step (fun k => by rw [isochroneref01_trim.l0]) ?_
        rw [hw, w64 (x := (d : Int)) (by omega) (by omega), Int.toNat_natCast]
        exact evp (by omega) (evp (by omega) (evp (by omega) (evn hz (evp (by omega) (evp (by omega) (evs _))))))
      · rw [List.length_take, Nat.min_eq_left (by omega), hw, rd_take _ _ _ (by omega)]
        exact hz
theorem r_trim_sp {l : List Int} (hn : l.length < 4611686018427387904) (hd : Dg RR l) : ∃ r, Ev (fun k => isochroneref01_trim.f k l) r ∧ Can RR r (vl RR l) ∧ r.length ≤ l.length := by
  obtain ⟨r, h1, h2⟩ := r_trim_ev hn hd l.length l.length rfl (Nat.le_refl _)
  rw [List.take_length] at h2
  exact ⟨r, Ev.congr (fun k => by rw [isochroneref01_trim.f]) h1, h2⟩
theorem isochroneref01_Cmp_ev {a b : List Int} (hl : a.length = b.length) (hn : a.length < 4611686018427387904) (ha : Dg RR a) (hb : Dg RR b) (d : Nat) :
    ∀ (i : Nat), i = d → i ≤ a.length → vl RR (a.drop i) = vl RR (b.drop i) → ∃ r, Ev (fun k => isochroneref01_Cmp.l0 k a b ((i : Int) - 1)) r ∧ (r = -1 ∧ vl RR a < vl RR b ∨ r = 0 ∧ vl RR a = vl RR b ∨ r = 1 ∧ vl RR b < vl RR a) := by
  induction d with
  | zero =>
    rintro i rfl h1 h2
    refine ⟨0, ?_, .inr (.inl ⟨rfl, by simpa using h2⟩)⟩
    refine Ev.step (fun k => by rw [isochroneref01_Cmp.l0]) ?_
    exact evn (by omega) (evs _)
  | succ d ih =>
    rintro i rfl h1 h2
    have e1 : (((d + 1 : Nat) : Int) - 1) = (d : Int) := by omega
    rw [e1]
    have h3 := vl_drop RR a d (by omega)
    have h4 := vl_drop RR b d (by omega)
    have ea : a.drop d = rd a d :: a.drop (d + 1) := by rw [rd_lt a d (by omega)]; exact (List.drop_eq_getElem_cons (by omega))
    have eb : b.drop d = rd b d :: b.drop (d + 1) := by rw [rd_lt b d (by omega)]; exact (List.drop_eq_getElem_cons (by omega))
    have ta := vl_lt RR_pos (ha.take d)
    have tb := vl_lt RR_pos (hb.take d)
    have ta0 := vl_nonneg RR_pos (ha.take d)
    have tb0 := vl_nonneg RR_pos (hb.take d)
    rw [List.length_take, Nat.min_eq_left (by omega)] at ta tb
    by_cases he : rd a d = rd b d
    · obtain ⟨r, h5, h6⟩ := ih d rfl (by omega) (by rw [ea, eb, vl, vl, he, h2])
      refine ⟨r, ?_, h6⟩
      refine Ev.step (fun k => by rw [isochroneref01_Cmp.l0]) ?_
      rw [w64 (by omega) (by omega)]
      exact evp (by omega) (evp (by omega) (evp (by omega) (evp (by omega) (evp he h5))))
    · have h7 : vl RR (a.drop d) = rd a d + RR * vl RR (a.drop (d + 1)) := by rw [ea, vl]
      have h8 : vl RR (b.drop d) = rd b d + RR * vl RR (b.drop (d + 1)) := by rw [eb, vl]
      have hp : 0 < RR ^ d := Int.pow_pos RR_pos
      by_cases hlt : rd a d < rd b d
      · refine ⟨-1, ?_, .inl ⟨rfl, ?_⟩⟩
        · refine Ev.step (fun k => by rw [isochroneref01_Cmp.l0]) ?_
          exact evp (by omega) (evp (by omega) (evp (by omega) (evp (by omega) (evn he (evp hlt (evs _))))))
        · have h9 : RR ^ d * (vl RR (a.drop d) + 1) ≤ RR ^ d * vl RR (b.drop d) := Int.mul_le_mul_of_nonneg_left (by rw [h7, h8, h2]; omega) (by omega)
          rw [Int.mul_add] at h9
          omega
      · refine ⟨1, ?_, .inr (.inr ⟨rfl, ?_⟩)⟩
        · refine Ev.step (fun k => by rw [isochroneref01_Cmp.l0]) ?_
          exact evp (by omega) (evp (by omega) (evp (by omega) (evp (by omega) (evn he (evn hlt (evs _))))))
        · have h9 : RR ^ d * (vl RR (b.drop d) + 1) ≤ RR ^ d * vl RR (a.drop d) := Int.mul_le_mul_of_nonneg_left (by rw [h7, h8, h2]; omega) (by omega)
          rw [Int.mul_add] at h9
          omega
theorem isochroneref01_Cmp_sp {a b : List Int} {n m : Int} (hn : a.length < 4611686018427387904) (ha : Can RR a n) (hb : Can RR b m) : Ev (fun k => isochroneref01_Cmp.f k a b) (cmpi n m) := by
  unfold isochroneref01_Cmp.f
  by_cases hl : a.length = b.length
  · obtain ⟨r, h1, h2⟩ := isochroneref01_Cmp_ev hl hn ha.1 hb.1 a.length a.length rfl (Nat.le_refl _) (by rw [List.drop_length, hl, List.drop_length])
    have e : r = cmpi n m := by
      rw [ha.2.2, hb.2.2] at h2
      unfold cmpi
      rcases h2 with ⟨rfl, h⟩ | ⟨rfl, h⟩ | ⟨rfl, h⟩
      · rw [if_pos h]
      · rw [if_neg (by omega), if_pos h]
      · rw [if_neg (by omega), if_neg (by omega)]
    rw [← e]
    refine evp (by omega) ?_
    rw [w64 (by omega) (by omega)]
    exact h1
  · refine evn (by omega) ?_
    unfold cmpi
    by_cases h : a.length < b.length
    · have := Can.len_lt RR_one ha hb h
      rw [if_pos this]
      exact evp (by omega) (evs _)
    · have := Can.len_lt RR_one hb ha (by omega)
      rw [if_neg (show ¬ n < m by omega), if_neg (show ¬ n = m by omega)]
      exact evn (by omega) (evs _)
theorem tmod_nn {x : Int} (h : 0 ≤ x) (m : Int) : Int.tmod x m = x % m := Int.tmod_eq_emod_of_nonneg h
theorem tdiv_nn {x : Int} (h : 0 ≤ x) (m : Int) : Int.tdiv x m = x / m := Int.tdiv_eq_ediv_of_nonneg h
theorem vl_snoc (B : Int) (l : List Int) (x : Int) : vl B (l ++ [x]) = vl B l + x * B ^ l.length := by
  rw [vl_append]
  simp only [vl]
  grind
theorem alg_sm {vo c P n v c' R : Int} (h : vo + c * P = n) (h2 : v + R * c' = c) : vo + v * P + c' * (R * P) = n := by grind
theorem alg_sm2 {vo c P va x k v c' R c0 : Int} (h : vo + c * P = c0 + k * va) (h2 : v + R * c' = c + x * k) : vo + v * P + c' * (R * P) = c0 + k * (va + x * P) := by grind
theorem r_Small_in (o0 : List Int) (n : Int) (c : Nat) : ∀ (o : List Int) (cc : Int), cc = (c : Int) → cc < 4611686018427387904 → o.length + c < 1099511627776 → Dg RR o → vl RR o + cc * RR ^ o.length = n → ∃ r, Ev (fun k => isochroneref01_Small.l1 k cc o) r ∧ Can RR r n := by
  induction c using Nat.strongRecOn with
  | _ c ih =>
    intro o cc hcc hlt hl hd hv
    by_cases h0 : c = 0
    · subst h0
      have e : cc = 0 := by omega
      subst e
      rw [Int.zero_mul, Int.add_zero] at hv
      obtain ⟨r, h1, h2, _⟩ := r_trim_sp (l := o) (by omega) hd
      refine ⟨r, ?_, by rw [← hv]; exact h2⟩
      refine Ev.step (fun k => by rw [isochroneref01_Small.l1]) ?_
      exact evn (by omega) (Ev.bind h1 (evs _))
    · obtain ⟨r, h1, h2⟩ := ih (c / 10000) (by omega) (o ++ [cc % 10000]) (cc / 10000) (by omega) (by omega) (by simp; omega) (hd.append (Dg.mk (by omega) (by rw [RR_eq]; omega) (Dg.nil _)))
        (by rw [vl_snoc, List.length_append, List.length_singleton, Int.pow_succ, Int.mul_comm (RR ^ o.length) RR]; exact alg_sm hv (by rw [RR_eq]; omega))
      refine ⟨r, ?_, h2⟩
      refine Ev.step (fun k => by rw [isochroneref01_Small.l1]) ?_
      rw [tmod_nn (x := cc) (by omega), tdiv_nn (x := cc) (by omega), w64 (x := cc / 10000) (by omega) (by omega)]
      exact evp (by omega) (evp (by omega) h1)
theorem r_Small_l0 {a : List Int} (hn : a.length < 549755813888) (ha : Dg RR a) {k0 c0 : Int} (hk : 0 ≤ k0 ∧ k0 ≤ 65536) (d : Nat) :
    ∀ (i : Nat) (o : List Int) (c : Int), a.length - i = d → i ≤ a.length → o.length = i → Dg RR o → 0 ≤ c → c ≤ 65536 → vl RR o + c * RR ^ i = c0 + k0 * vl RR (a.take i) →
    ∃ r, Ev (fun k => isochroneref01_Small.l0 k k0 c o a (a.length : Int) (i : Int)) r ∧ Can RR r (c0 + k0 * vl RR a) := by
  induction d with
  | zero =>
    intro i o c h1 h2 h3 h4 h5 h6 h7
    have e : i = a.length := by omega
    subst e
    rw [List.take_length] at h7
    obtain ⟨r, h8, h9⟩ := r_Small_in o (c0 + k0 * vl RR a) c.toNat o c (by omega) (by omega) (by omega) h4 (by rw [h3]; exact h7)
    refine ⟨r, ?_, h9⟩
    refine Ev.step (fun k => by rw [isochroneref01_Small.l0]) ?_
    exact evn (by omega) h8
  | succ d ih =>
    intro i o c h1 h2 h3 h4 h5 h6 h7
    have hx := dg_rd ha (i : Int) (by omega) (by omega)
    rw [RR_eq] at hx
    have hm : 0 ≤ rd a i * k0 := Int.mul_nonneg hx.1 hk.1
    have hm2 : rd a i * k0 ≤ 9999 * 65536 := Int.mul_le_mul (by omega) hk.2 hk.1 (by omega)
    obtain ⟨r, h8, h9⟩ := ih (i + 1) (o ++ [(c + rd a i * k0) % 10000]) ((c + rd a i * k0) / 10000) (by omega) (by omega) (by simp; omega) (h4.append (Dg.mk (by omega) (by rw [RR_eq]; omega) (Dg.nil _))) (by omega) (by omega)
      (by rw [vl_snoc, h3, vl_take RR a i (by omega), Int.pow_succ, Int.mul_comm (RR ^ i) RR]; exact alg_sm2 h7 (by rw [RR_eq]; omega))
    refine ⟨r, ?_, h9⟩
    refine Ev.step (fun k => by rw [isochroneref01_Small.l0]) ?_
    rw [w64 (x := rd a i * k0) (by omega) (by omega), w64 (x := c + rd a i * k0) (by omega) (by omega), tmod_nn (x := c + rd a i * k0) (by omega), tdiv_nn (x := c + rd a i * k0) (by omega), w64 (x := (c + rd a i * k0) / 10000) (by omega) (by omega), wsucc (i := i) (by omega)]
    exact evp (by omega) (evp (by omega) (evp (by omega) (evp (by omega) h8)))
theorem r_Small_sp {a : List Int} {n k0 c0 : Int} (hn : a.length < 549755813888) (ha : Can RR a n) (hk : 0 ≤ k0 ∧ k0 ≤ 65536) (hc : 0 ≤ c0 ∧ c0 ≤ 65536) : ∃ r, Ev (fun k => isochroneref01_Small.f k a k0 c0) r ∧ Can RR r (n * k0 + c0) ∧ r.length ≤ a.length + 2 := by
  obtain ⟨r, h1, h2⟩ := r_Small_l0 hn ha.1 hk (c0 := c0) a.length 0 [] c0 (by omega) (by omega) rfl (Dg.nil _) hc.1 hc.2 (by simp [vl])
  rw [ha.2.2, Int.add_comm, Int.mul_comm] at h2
  refine ⟨r, ?_, h2, ?_⟩
  · unfold isochroneref01_Small.f
    have e : (a.length : Int) + 2 = ((a.length + 2 : Nat) : Int) := by omega
    rw [e, w64 (by omega) (by omega), Int.toNat_natCast]
    exact evp (by omega) (evp (by omega) h1)
  · refine h2.len_le RR_one ?_
    have h3 := ha.lt RR_pos
    have h4 := ha.nonneg RR_pos
    have h5 : n * k0 ≤ n * 65536 := Int.mul_le_mul_of_nonneg_left hk.2 h4
    have h6 : RR ^ (a.length + 2) = RR ^ a.length * 100000000 := by rw [Int.pow_add]; rfl
    rw [h6]
    omega
theorem r_Int_ev (n : Int) (c : Nat) : ∀ (o : List Int) (cc : Int), cc = (c : Int) → cc < 4611686018427387904 → o.length + c < 17592186044416 → Dg RR o → (c = 0 → Nm o) → vl RR o + cc * RR ^ o.length = n → ∃ r, Ev (fun k => isochroneref01_Int.l0 k cc o) r ∧ Can RR r n := by
  induction c using Nat.strongRecOn with
  | _ c ih =>
    intro o cc hcc hlt hl hd hnm hv
    by_cases h0 : c = 0
    · subst h0
      have e : cc = 0 := by omega
      subst e
      rw [Int.zero_mul, Int.add_zero] at hv
      refine ⟨o, ?_, hd, hnm rfl, hv⟩
      refine Ev.step (fun k => by rw [isochroneref01_Int.l0]) ?_
      exact evn (by omega) (evs _)
    · obtain ⟨r, h1, h2⟩ := ih (c / 10000) (by omega) (o ++ [cc % 10000]) (cc / 10000) (by omega) (by omega) (by simp; omega) (hd.append (Dg.mk (by omega) (by rw [RR_eq]; omega) (Dg.nil _)))
        (by
          intro hz hne
          simp only [List.getLast_append, List.getLast_singleton]
          simp
          omega)
        (by rw [vl_snoc, List.length_append, List.length_singleton, Int.pow_succ, Int.mul_comm (RR ^ o.length) RR]; exact alg_sm hv (by rw [RR_eq]; omega))
      refine ⟨r, ?_, h2⟩
      refine Ev.step (fun k => by rw [isochroneref01_Int.l0]) ?_
      rw [tmod_nn (x := cc) (by omega), tdiv_nn (x := cc) (by omega), w64 (x := cc / 10000) (by omega) (by omega)]
      exact evp (by omega) (evp (by omega) h1)
theorem r_Int_sp {a : Int} (h0 : 0 ≤ a) (h1 : a < 10000000000000) : ∃ r, Ev (fun k => isochroneref01_Int.f k a) r ∧ Can RR r a := by
  obtain ⟨r, h2, h3⟩ := r_Int_ev a a.toNat [] a (by omega) (by omega) (by simp; omega) (Dg.nil _) (fun _ => Nm.nil) (by simp [vl])
  exact ⟨r, Ev.congr (fun k => by rw [isochroneref01_Int.f]) h2, h3⟩
theorem and16 {x : Int} (h0 : 0 ≤ x) (h1 : x < 4294967296) : Go.bits .and .u32 x 65535 = x % 65536 :=
  bits_mask .u32 32 (by decide) (fun n h0 h1 => by rw [IntKind.wrap_u32]; omega) 16 (by decide) x h0 h1
theorem r_Of_ev {a : List Int} (hn : a.length < 137438953472) (ha : Dg WW a) (d : Nat) : ∀ (i : Nat) (o : List Int), i = d → i ≤ a.length → Can RR o (vl WW (a.drop i)) → o.length ≤ 4 * (a.length - i) → ∃ r, Ev (fun k => isochroneref01_Of.l0 k a o ((i : Int) - 1)) r ∧ Can RR r (vl WW a) ∧ r.length ≤ 4 * a.length := by
  induction d with
  | zero =>
    rintro i o rfl h1 h2 h3
    refine ⟨o, ?_, by simpa using h2, by omega⟩
    refine Ev.step (fun k => by rw [isochroneref01_Of.l0]) ?_
    exact evn (by omega) (evs _)
  | succ d ih =>
    rintro i o rfl h1 h2 h3
    have e1 : (((d + 1 : Nat) : Int) - 1) = (d : Int) := by omega
    have hx := dg_rd ha (d : Int) (by omega) (by omega)
    rw [WW_eq] at hx
    obtain ⟨p, h4, h5, h6⟩ := r_Small_sp (k0 := 65536) (c0 := rd a d / 65536) (by omega) h2 (by omega) (by omega)
    obtain ⟨q, h7, h8, h9⟩ := r_Small_sp (k0 := 65536) (c0 := rd a d % 65536) (by omega) h5 (by omega) (by omega)
    have ea : a.drop d = rd a d :: a.drop (d + 1) := by rw [rd_lt a d (by omega)]; exact (List.drop_eq_getElem_cons (by omega))
    have ev : (vl WW (a.drop (d + 1)) * 65536 + rd a d / 65536) * 65536 + rd a d % 65536 = vl WW (a.drop d) := by
      rw [ea, vl, WW_eq]
      omega
    rw [ev] at h8
    obtain ⟨r, h10, h11⟩ := ih d q rfl (by omega) h8 (by omega)
    refine ⟨r, ?_, h11⟩
    refine Ev.step (fun k => by rw [isochroneref01_Of.l0]) ?_
    rw [e1, and16 hx.1 hx.2, w64 (x := rd a d / 65536) (by omega) (by omega), w64 (x := rd a d % 65536) (by omega) (by omega), w64 (x := (d : Int) - 1) (by omega) (by omega)]
    exact evp (by omega) (evp (by omega) (evp (by omega) (Ev.bind h4 (Ev.bind h7 h10))))
theorem r_Of_sp {a : List Int} {n : Int} (hn : a.length < 137438953472) (ha : Can WW a n) : ∃ r, Ev (fun k => isochroneref01_Of.f k a) r ∧ Can RR r n ∧ r.length ≤ 4 * a.length := by
  obtain ⟨r, h1, h2⟩ := r_Of_ev hn ha.1 a.length a.length [] rfl (Nat.le_refl _) (by rw [List.drop_length]; exact Can.zero _) (by simp)
  rw [ha.2.2] at h2
  refine ⟨r, ?_, h2⟩
  unfold isochroneref01_Of.f
  rw [w64 (x := (a.length : Int) - 1) (by omega) (by omega)]
  exact h1
end Go.Proofs.Ytfmobogdnlmdbaa.P
end
section
namespace Go.Proofs.Ytfmobogdnlmdbaa.P
open Go.RowKit Go.Proofs.YtfmobogdnlmdbaaW.PrintWords Go.Proofs.YtfmobogdnlmdbaaW.PrintLast Go.Proofs.YtfmobogdnlmdbaaW.PrintMore
set_option linter.unusedVariables false
theorem drop_set_ge (l : List Int) (i : Nat) (v : Int) : (l.set i v).drop (i + 1) = l.drop (i + 1) := by rw [List.drop_set_of_lt (by omega)]
theorem rd_of_drop (a o : List Int) (i : Nat) (h : o.drop i = a.drop i) (hi : i < a.length) (hl : o.length = a.length) : rd o i = rd a i := by
  rw [rd_lt o i (by omega), rd_lt a i hi]
  have h1 : (o.drop i)[0]? = (a.drop i)[0]? := by rw [h]
  rw [List.getElem?_drop, List.getElem?_drop, Nat.add_zero, List.getElem?_eq_getElem (by omega), List.getElem?_eq_getElem hi] at h1
  exact Option.some.inj h1
theorem drop_tail (a o : List Int) (i : Nat) (h : o.drop i = a.drop i) : o.drop (i + 1) = a.drop (i + 1) := by
  rw [← List.drop_drop, ← List.drop_drop, h]
theorem r_Sub_ev {a b : List Int} (hba : b.length ≤ a.length) (hle : vl RR b ≤ vl RR a) (hn : a.length < 68719476736) (ha : Dg RR a) (hb : Dg RR b) (d : Nat) :
    ∀ (i : Nat) (o : List Int) (c : Int), a.length - i = d → i ≤ a.length → o.length = a.length → o.drop i = a.drop i → Dg RR (o.take i) → 0 ≤ c → c ≤ 1 → vl RR (o.take i) - c * RR ^ i = vl RR (a.take i) - vl RR (b.take i) →
    ∃ r, Ev (fun k => isochroneref01_Sub.l0 k b o c (a.length : Int) (i : Int)) r ∧ Can RR r (vl RR a - vl RR b) ∧ r.length ≤ a.length := by
  induction d with
  | zero =>
    intro i o c h1 h2 h3 hdr h4 h5 h6 h7
    have e : i = a.length := by omega
    subst e
    rw [List.take_length, List.take_of_length_le hba, ← h3, List.take_length] at h7
    rw [← h3, List.take_length] at h4
    have hlt := vl_lt RR_pos h4
    have hc : c = 0 := by
      rcases Int.lt_or_eq_of_le h6 with h | h
      · omega
      · subst h
        rw [Int.one_mul] at h7
        omega
    subst hc
    rw [Int.zero_mul, Int.sub_zero] at h7
    obtain ⟨r, h8, h9, h10⟩ := r_trim_sp (l := o) (by omega) h4
    refine ⟨r, ?_, by rw [← h7]; exact h9, by omega⟩
    refine Ev.step (fun k => by rw [isochroneref01_Sub.l0]) ?_
    refine evn (by omega) ?_
    exact Ev.bind h8 (evs _)
  | succ d ih =>
    intro i o c h1 h2 h3 hdr h4 h5 h6 h7
    have hi : i < a.length := by omega
    have hx := dg_rd ha (i : Int) (by omega) (by omega)
    rw [RR_eq] at hx
    have hro := rd_of_drop a o i hdr hi h3
    have ti := vl_take RR a i hi
    have ep : RR ^ (i + 1) = RR * RR ^ i := by rw [Int.pow_succ, Int.mul_comm]
    have hdt := drop_tail a o i hdr
    by_cases hib : i < b.length
    · have hy := dg_rd hb (i : Int) (by omega) (by omega)
      rw [RR_eq] at hy
      have tb := vl_take RR b i hib
      by_cases hneg : rd a i - c - rd b i < 0
      · obtain ⟨r, h8, h9⟩ := ih (i + 1) (o.set i (rd a i - c - rd b i + 10000)) 1 (by omega) (by omega) (by simpa using h3) (by rw [drop_set_ge, hdt]) (Dg.take_set (by omega) h4 (by omega) (by rw [RR_eq]; omega)) (by omega) (by omega)
          (by rw [vl_set _ _ _ _ (by omega), ti, tb, ep]; exact alg_sub h7 (by rw [RR_eq]; omega))
        refine ⟨r, ?_, h9⟩
        refine Ev.step (fun k => by rw [isochroneref01_Sub.l0]) ?_
        rw [hro, w64 (x := rd a i - c) (by omega) (by omega), w64 (x := rd a i - c - rd b i) (by omega) (by omega), w64 (x := rd a i - c - rd b i + 10000) (by omega) (by omega), wsucc (i := i) (by omega)]
        exact evp (by omega) (evp (by omega) (evp (by omega) (evp (by omega) (evp hneg h8))))
      · obtain ⟨r, h8, h9⟩ := ih (i + 1) (o.set i (rd a i - c - rd b i)) 0 (by omega) (by omega) (by simpa using h3) (by rw [drop_set_ge, hdt]) (Dg.take_set (by omega) h4 (by omega) (by rw [RR_eq]; omega)) (by omega) (by omega)
          (by rw [vl_set _ _ _ _ (by omega), ti, tb, ep]; exact alg_sub h7 (by rw [RR_eq]; omega))
        refine ⟨r, ?_, h9⟩
        refine Ev.step (fun k => by rw [isochroneref01_Sub.l0]) ?_
        rw [hro, w64 (x := rd a i - c) (by omega) (by omega), w64 (x := rd a i - c - rd b i) (by omega) (by omega), wsucc (i := i) (by omega)]
        exact evp (by omega) (evp (by omega) (evp (by omega) (evp (by omega) (evn hneg h8))))
    · have tb : vl RR (b.take (i + 1)) = vl RR (b.take i) := by rw [List.take_of_length_le (by omega), List.take_of_length_le (by omega)]
      by_cases hneg : rd a i - c < 0
      · obtain ⟨r, h8, h9⟩ := ih (i + 1) (o.set i (rd a i - c + 10000)) 1 (by omega) (by omega) (by simpa using h3) (by rw [drop_set_ge, hdt]) (Dg.take_set (by omega) h4 (by omega) (by rw [RR_eq]; omega)) (by omega) (by omega)
          (by rw [vl_set _ _ _ _ (by omega), ti, tb, ep]; exact alg_sub1 h7 (by rw [RR_eq]; omega))
        refine ⟨r, ?_, h9⟩
        refine Ev.step (fun k => by rw [isochroneref01_Sub.l0]) ?_
        rw [hro, w64 (x := rd a i - c) (by omega) (by omega), w64 (x := rd a i - c + 10000) (by omega) (by omega), wsucc (i := i) (by omega)]
        exact evp (by omega) (evp (by omega) (evp (by omega) (evn (by omega) (evp hneg h8))))
      · obtain ⟨r, h8, h9⟩ := ih (i + 1) (o.set i (rd a i - c)) 0 (by omega) (by omega) (by simpa using h3) (by rw [drop_set_ge, hdt]) (Dg.take_set (by omega) h4 (by omega) (by rw [RR_eq]; omega)) (by omega) (by omega)
          (by rw [vl_set _ _ _ _ (by omega), ti, tb, ep]; exact alg_sub1 h7 (by rw [RR_eq]; omega))
        refine ⟨r, ?_, h9⟩
        refine Ev.step (fun k => by rw [isochroneref01_Sub.l0]) ?_
        rw [hro, w64 (x := rd a i - c) (by omega) (by omega), wsucc (i := i) (by omega)]
        exact evp (by omega) (evp (by omega) (evp (by omega) (evn (by omega) (evn hneg h8))))
theorem canR_len_le {a b : List Int} {n m : Int} (ha : Can RR a n) (hb : Can RR b m) (h : m ≤ n) : b.length ≤ a.length := by
  rcases Nat.lt_or_ge a.length b.length with hl | hl
  · have := Can.len_lt RR_one ha hb hl
    omega
  · exact hl
theorem r_Clone_sp {l : List Int} (h : l.length < 17592186044416) : isochroneref01_Nat_int.f l = some l := by
  unfold isochroneref01_Nat_int.f
  simp [h]
theorem r_Sub_sp {a b : List Int} {n m : Int} (hn : a.length < 68719476736) (ha : Can RR a n) (hb : Can RR b m) (hle : m ≤ n) : ∃ r, Ev (fun k => isochroneref01_Sub.f k a b) r ∧ Can RR r (n - m) ∧ r.length ≤ a.length := by
  have hba := canR_len_le ha hb hle
  rw [← ha.2.2, ← hb.2.2] at *
  obtain ⟨r, h1, h2⟩ := r_Sub_ev hba hle hn ha.1 hb.1 a.length 0 a 0 (by omega) (by omega) rfl rfl (by simp; exact Dg.nil _) (by omega) (by omega) (by simp [vl])
  refine ⟨r, ?_, h2⟩
  unfold isochroneref01_Sub.f
  exact evb (r_Clone_sp (by omega)) h1
theorem vl_set_all (B : Int) (l : List Int) (p : Nat) (v : Int) (h : p < l.length) : vl B (l.set p v) = vl B l + (v - rd l (p : Int)) * B ^ p := by
  have h1 := vl_set_mid B l p l.length v h (Nat.le_refl _)
  rwa [List.take_of_length_le (by simp), List.take_length] at h1
theorem alg_carry {T c P V old v c' W : Int} (h : T + c * P = V) (h2 : v + W * c' = c + old) : (T + (v - old) * P) + c' * (W * P) = V := by grind
theorem r_Mul_c {a b : List Int} {V : Int} (hn : a.length + b.length < 68719476736) (hV : V < RR ^ (a.length + b.length)) (s : Int) (R : List Int)
    (hout : ∀ o : List Int, o.length = a.length + b.length + 1 → Dg RR o → vl RR o = V → Ev (fun k => isochroneref01_Mul.l0 k b o a (a.length : Int) (wrap64 (s + 1))) R) (d : Nat) :
    ∀ (p : Nat) (o : List Int) (c : Int), a.length + b.length + 1 - p = d → p ≤ a.length + b.length + 1 → o.length = a.length + b.length + 1 → Dg RR o → 0 ≤ c → c < 10000 → vl RR o + c * RR ^ p = V →
    Ev (fun k => isochroneref01_Mul.l2 k b o c (p : Int) a (a.length : Int) s) R := by
  induction d with
  | zero =>
    intro p o c h1 h2 h3 h4 h5 h6 h7
    have hvo := vl_nonneg RR_pos h4
    have hc : c = 0 := by
      rcases Int.lt_or_eq_of_le h5 with h | h
      · have h8 := pow_le (B := RR) (by have := RR_one; omega) (show a.length + b.length ≤ p by omega)
        have h9 : 1 * RR ^ p ≤ c * RR ^ p := Int.mul_le_mul_of_nonneg_right (by omega) (Int.le_of_lt (Int.pow_pos RR_pos))
        omega
      · omega
    subst hc
    rw [Int.zero_mul, Int.add_zero] at h7
    refine Ev.step (fun k => by rw [isochroneref01_Mul.l2]) ?_
    exact evn (by omega) (hout o h3 h4 h7)
  | succ d ih =>
    intro p o c h1 h2 h3 h4 h5 h6 h7
    by_cases hc : c = 0
    · subst hc
      rw [Int.zero_mul, Int.add_zero] at h7
      refine Ev.step (fun k => by rw [isochroneref01_Mul.l2]) ?_
      exact evn (by omega) (hout o h3 h4 h7)
    · have ho := dg_rd h4 (p : Int) (by omega) (by omega)
      rw [RR_eq] at ho
      have h8 := ih (p + 1) (o.set p ((c + rd o p) % 10000)) ((c + rd o p) / 10000) (by omega) (by omega) (by simpa using h3) (h4.set _ (by omega) (by rw [RR_eq]; omega)) (by omega) (by omega)
        (by rw [vl_set_all _ _ _ _ (by omega), Int.pow_succ, Int.mul_comm (RR ^ p) RR]; exact alg_carry h7 (by rw [RR_eq]; omega))
      refine Ev.step (fun k => by rw [isochroneref01_Mul.l2]) ?_
      rw [w64 (x := c + rd o p) (by omega) (by omega), tmod_nn (x := c + rd o p) (by omega), tdiv_nn (x := c + rd o p) (by omega), w64 (x := (c + rd o p) / 10000) (by omega) (by omega), wsucc (i := p) (by omega), Int.toNat_natCast]
      exact evp (by omega) (evp (by omega) (evp (by omega) h8))
theorem mul_bd4 {x y : Int} (hx : 0 ≤ x ∧ x < 10000) (hy : 0 ≤ y ∧ y < 10000) : 0 ≤ x * y ∧ x * y ≤ 99980001 := by
  have h1 : 0 ≤ x * y := Int.mul_nonneg hx.1 hy.1
  have h2 : x * y ≤ 9999 * 9999 := Int.mul_le_mul (by omega) (by omega) hy.1 (by omega)
  omega
theorem alg_rmul {T va vb x y old P c c' v W xb Pi Pj : Int} (h : T + c * P = va * vb + x * Pi * xb) (h2 : v + W * c' = c + (old + x * y)) (hP : P = Pi * Pj) : (T + (v - old) * P) + c' * (W * P) = va * vb + x * Pi * (xb + y * Pj) := by grind
theorem r_Mul_in {a b : List Int} (hn : a.length + b.length < 68719476736) (ha : Dg RR a) (hb : Dg RR b) (i : Nat) (hi : i < a.length) (R : List Int)
    (hout : ∀ o : List Int, o.length = a.length + b.length + 1 → Dg RR o → vl RR o = vl RR (a.take (i + 1)) * vl RR b → Ev (fun k => isochroneref01_Mul.l0 k b o a (a.length : Int) ((i + 1 : Nat) : Int)) R) (d : Nat) :
    ∀ (j : Nat) (o : List Int) (c : Int), b.length - j = d → j ≤ b.length → o.length = a.length + b.length + 1 → Dg RR o → 0 ≤ c → c < 10000 →
    vl RR o + c * RR ^ (i + j) = vl RR (a.take i) * vl RR b + rd a i * RR ^ i * vl RR (b.take j) →
    Ev (fun k => isochroneref01_Mul.l1 k b o (i : Int) (rd a i) c a (a.length : Int) (i : Int) b (b.length : Int) (j : Int)) R := by
  have hx := dg_rd ha (i : Int) (by omega) (by omega)
  rw [RR_eq] at hx
  induction d with
  | zero =>
    intro j o c h1 h2 h3 h4 h5 h6 h7
    have e : j = b.length := by omega
    subst e
    rw [List.take_length] at h7
    have h8 := alg_mul2 h7
    rw [← vl_take RR a i hi] at h8
    have hlt : vl RR (a.take (i + 1)) * vl RR b < RR ^ (a.length + b.length) := by
      rw [Int.pow_add]
      have q1 := vl_lt RR_pos (ha.take (i + 1))
      have q2 := pow_le (B := RR) (by have := RR_one; omega) (show (a.take (i + 1)).length ≤ a.length by rw [List.length_take]; omega)
      exact mul_lt' (by omega) (vl_lt RR_pos hb) (vl_nonneg RR_pos (ha.take _)) (vl_nonneg RR_pos hb)
    have h9 := r_Mul_c (a := a) (b := b) (V := vl RR (a.take (i + 1)) * vl RR b) hn hlt (i : Int) R (fun o' q1 q2 q3 => by rw [wsucc (i := i) (by omega)]; exact hout o' q1 q2 q3) (a.length + b.length + 1 - (i + b.length)) (i + b.length) o c rfl (by omega) h3 h4 h5 h6 h8
    have ei : ((i : Int) + (b.length : Int)) = ((i + b.length : Nat) : Int) := by omega
    refine Ev.step (fun k => by rw [isochroneref01_Mul.l1]) ?_
    rw [ei, w64 (x := ((i + b.length : Nat) : Int)) (by omega) (by omega)]
    exact evn (by omega) h9
  | succ d ih =>
    intro j o c h1 h2 h3 h4 h5 h6 h7
    have hy := dg_rd hb (j : Int) (by omega) (by omega)
    have ho := dg_rd h4 ((i + j : Nat) : Int) (by omega) (by omega)
    rw [RR_eq] at hy ho
    have hm := mul_bd4 hx hy
    have h8 := ih (j + 1) (o.set (i + j) ((c + (rd o ((i + j : Nat) : Int) + rd a i * rd b j)) % 10000)) ((c + (rd o ((i + j : Nat) : Int) + rd a i * rd b j)) / 10000) (by omega) (by omega) (by simpa using h3) (h4.set _ (by omega) (by rw [RR_eq]; omega)) (by omega) (by omega)
      (by
        rw [vl_set_all _ _ _ _ (by omega), vl_take RR b j (by omega), show i + (j + 1) = i + j + 1 by omega, Int.pow_succ, Int.mul_comm (RR ^ (i + j)) RR]
        exact alg_rmul h7 (by rw [RR_eq]; omega) (Int.pow_add _ _ _))
    have ei : ((i : Int) + (j : Int)) = ((i + j : Nat) : Int) := by omega
    refine Ev.step (fun k => by rw [isochroneref01_Mul.l1]) ?_
    rw [ei, w64 (x := ((i + j : Nat) : Int)) (by omega) (by omega), w64 (x := rd a i * rd b j) (by omega) (by omega), w64 (x := rd o ((i + j : Nat) : Int) + rd a i * rd b j) (by omega) (by omega), w64 (x := c + (rd o ((i + j : Nat) : Int) + rd a i * rd b j)) (by omega) (by omega),
      tmod_nn (x := c + (rd o ((i + j : Nat) : Int) + rd a i * rd b j)) (by omega), tdiv_nn (x := c + (rd o ((i + j : Nat) : Int) + rd a i * rd b j)) (by omega), w64 (x := (c + (rd o ((i + j : Nat) : Int) + rd a i * rd b j)) / 10000) (by omega) (by omega), wsucc (i := j) (by omega), Int.toNat_natCast]
    exact evp (by omega) (evp (by omega) (evp (by omega) (evp (by omega) (evp (by omega) h8))))
theorem r_Mul_out {a b : List Int} (hn : a.length + b.length < 68719476736) (ha : Dg RR a) (hb : Dg RR b) : ∃ R, Can RR R (vl RR a * vl RR b) ∧ R.length ≤ a.length + b.length ∧ ∀ (d i : Nat) (o : List Int), a.length - i = d → i ≤ a.length → o.length = a.length + b.length + 1 → Dg RR o → vl RR o = vl RR (a.take i) * vl RR b →
    Ev (fun k => isochroneref01_Mul.l0 k b o a (a.length : Int) (i : Int)) R := by
  have hnn : 0 ≤ vl RR a * vl RR b := Int.mul_nonneg (vl_nonneg RR_pos ha) (vl_nonneg RR_pos hb)
  obtain ⟨R, hR⟩ := can_ex RR_one hnn
  have hRl : R.length ≤ a.length + b.length := by
    refine hR.len_le RR_one ?_
    rw [Int.pow_add]
    exact mul_lt' (vl_lt RR_pos ha) (vl_lt RR_pos hb) (vl_nonneg RR_pos ha) (vl_nonneg RR_pos hb)
  refine ⟨R, hR, hRl, ?_⟩
  intro d
  induction d with
  | zero =>
    intro i o h1 h2 h3 h4 h5
    have e : i = a.length := by omega
    subst e
    rw [List.take_length] at h5
    obtain ⟨r, h8, h9, h10⟩ := r_trim_sp (l := o) (by omega) h4
    rw [h5] at h9
    rw [can_uniq RR_pos hR h9]
    refine Ev.step (fun k => by rw [isochroneref01_Mul.l0]) ?_
    exact evn (by omega) (Ev.bind h8 (evs _))
  | succ d ih =>
    intro i o h1 h2 h3 h4 h5
    have h6 := r_Mul_in hn ha hb i (by omega) R (fun o' q1 q2 q3 => ih (i + 1) o' (by omega) (by omega) q1 q2 q3) b.length 0 o 0 (by omega) (by omega) h3 h4 (by omega) (by omega) (by rw [h5]; simp [vl])
    refine Ev.step (fun k => by rw [isochroneref01_Mul.l0]) ?_
    exact evp (by omega) (evp (by omega) (evp (by omega) h6))
theorem r_Mul_sp {a b : List Int} {n m : Int} (hn : a.length + b.length < 68719476736) (ha : Can RR a n) (hb : Can RR b m) : ∃ r, Ev (fun k => isochroneref01_Mul.f k a b) r ∧ Can RR r (n * m) ∧ r.length ≤ a.length + b.length := by
  obtain ⟨R, h1, h2, h3⟩ := r_Mul_out hn ha.1 hb.1
  rw [ha.2.2, hb.2.2] at h1
  refine ⟨R, ?_, h1, h2⟩
  have h4 := h3 a.length 0 (List.replicate (a.length + b.length + 1) 0) (by omega) (by omega) (by simp) (Dg.rep RR_pos _) (by simp [vl, vl_rep])
  unfold isochroneref01_Mul.f
  have e : (a.length : Int) + (b.length : Int) = ((a.length + b.length : Nat) : Int) := by omega
  rw [e, w64 (x := ((a.length + b.length : Nat) : Int)) (by omega) (by omega), wsucc (i := a.length + b.length) (by omega), Int.toNat_natCast]
  exact evp (by omega) (evp (by omega) h4)
end Go.Proofs.Ytfmobogdnlmdbaa.P
end
section
namespace Go.Proofs.Ytfmobogdnlmdbaa.P
open Go.RowKit Go.Proofs.YtfmobogdnlmdbaaW.PrintWords Go.Proofs.YtfmobogdnlmdbaaW.PrintLast Go.Proofs.YtfmobogdnlmdbaaW.PrintMore
set_option linter.unusedVariables false
theorem getLast_snoc (l : List Int) (x : Int) (h : l ++ [x] ≠ []) : (l ++ [x]).getLast h = x := by simp
theorem drop_set_self (l : List Int) (i : Nat) (v : Int) (h : i < l.length) : (l.set i v).drop i = v :: l.drop (i + 1) := by
  rw [List.drop_eq_getElem_cons (by simpa using h), List.getElem_set_self, drop_set_ge]
theorem drop_rd (l : List Int) (i : Nat) (h : i < l.length) : l.drop i = rd l i :: l.drop (i + 1) := by
  rw [rd_lt l i h]
  exact List.drop_eq_getElem_cons h
theorem alg_split {t r va q rr d R K : Int} (h : t * K + r = va) (h2 : q * K + rr = r * R + d) : (q + R * t) * K + rr = d + R * va := by grind
theorem r_Split_ev {a : List Int} (hn : a.length < 68719476736) (ha : Dg RR a) {K : Int} (hK : 1 ≤ K ∧ K ≤ 65536) (d : Nat) : ∀ (i : Nat) (o : List Int) (r : Int), i = d → i ≤ a.length → o.length = a.length → Dg RR (o.drop i) → 0 ≤ r → r < K → vl RR (o.drop i) * K + r = vl RR (a.drop i) →
    ∃ q z, Ev (fun k => isochroneref01_Split.l0 k a K o r ((i : Int) - 1)) (q, z) ∧ (∃ m, Can RR q m ∧ m * K + z = vl RR a) ∧ 0 ≤ z ∧ z < K ∧ q.length ≤ a.length := by
  induction d with
  | zero =>
    rintro i o r rfl h1 h2 h3 h4 h5 h6
    rw [List.drop_zero] at h3 h6
    rw [List.drop_zero] at h6
    obtain ⟨q, h7, h8, h9⟩ := r_trim_sp (l := o) (by omega) h3
    refine ⟨q, r, ?_, ⟨_, h8, h6⟩, h4, h5, by omega⟩
    refine Ev.step (fun k => by rw [isochroneref01_Split.l0]) ?_
    exact evn (by omega) (Ev.bind h7 (evs _))
  | succ d ih =>
    rintro i o r rfl h1 h2 h3 h4 h5 h6
    have e1 : (((d + 1 : Nat) : Int) - 1) = (d : Int) := by omega
    have hx := dg_rd ha (d : Int) (by omega) (by omega)
    rw [RR_eq] at hx
    have hv0 : 0 ≤ r * 10000 + rd a d := by omega
    have hq0 : 0 ≤ (r * 10000 + rd a d) / K := Int.ediv_nonneg hv0 (by omega)
    have hq1 : (r * 10000 + rd a d) / K < 10000 := by
      refine Int.ediv_lt_of_lt_mul (by omega) ?_
      have : (r + 1) * 10000 ≤ K * 10000 := Int.mul_le_mul_of_nonneg_right (by omega) (by omega)
      omega
    have hm0 := Int.emod_nonneg (r * 10000 + rd a d) (show K ≠ 0 by omega)
    have hm1 := Int.emod_lt_of_pos (r * 10000 + rd a d) (show 0 < K by omega)
    have hdv : (r * 10000 + rd a d) / K * K + (r * 10000 + rd a d) % K = r * RR + rd a d := by rw [RR_eq]; exact Int.ediv_mul_add_emod _ _
    obtain ⟨q, z, h7, h8⟩ := ih d (o.set d ((r * 10000 + rd a d) / K)) ((r * 10000 + rd a d) % K) rfl (by omega) (by simpa using h2)
      (by rw [drop_set_self _ _ _ (by omega)]; exact Dg.mk hq0 (by rw [RR_eq]; exact hq1) h3) hm0 hm1
      (by rw [drop_set_self _ _ _ (by omega), drop_rd a d (by omega), vl, vl]; exact alg_split h6 hdv)
    refine ⟨q, z, ?_, h8⟩
    refine Ev.step (fun k => by rw [isochroneref01_Split.l0]) ?_
    rw [e1, w64 (x := r * 10000) (by omega) (by omega), w64 (x := r * 10000 + rd a d) (by omega) (by omega), tdiv_nn hv0, tmod_nn hv0, w64 (x := (r * 10000 + rd a d) / K) (by omega) (by omega), w64 (x := (d : Int) - 1) (by omega) (by omega), Int.toNat_natCast]
    exact evp (by omega) (evp (by omega) (evp (by omega) (evn (by omega) (evp (by omega) h7))))
theorem r_Split_sp {a : List Int} {n K : Int} (hn : a.length < 68719476736) (ha : Can RR a n) (hK : 1 ≤ K ∧ K ≤ 65536) : ∃ q, Ev (fun k => isochroneref01_Split.f k a K) (q, n % K) ∧ Can RR q (n / K) ∧ q.length ≤ a.length := by
  obtain ⟨q, z, h1, ⟨m, h2, h3⟩, h4, h5, h6⟩ := r_Split_ev hn ha.1 hK a.length a.length (List.replicate a.length 0) 0 rfl (Nat.le_refl _) (by simp) (by rw [List.drop_of_length_le (by simp)]; exact Dg.nil _) (by omega) (by omega) (by rw [List.drop_of_length_le (by simp), List.drop_of_length_le (by simp)]; simp [vl])
  rw [ha.2.2] at h3
  have e1 : n % K = z := by rw [← h3, Int.add_comm, Int.add_mul_emod_self_right, Int.emod_eq_of_lt h4 h5]
  have e2 : n / K = m := by
    have h7 := Int.ediv_mul_add_emod n K
    rw [e1] at h7
    exact Int.eq_of_mul_eq_mul_right (a := K) (by omega) (by omega)
  rw [e1, e2]
  refine ⟨q, ?_, h2, h6⟩
  unfold isochroneref01_Split.f
  rw [Int.toNat_natCast, w64 (by omega) (by omega)]
  exact evp (by omega) (evp (by omega) h1)
abbrev HH : Int := 65536
theorem HH_eq : HH = 65536 := rfl
theorem vl2 (h : List Int) (i : Nat) (hi : i + 1 < h.length) : vl HH (h.drop i) = rd h i + 65536 * rd h ((i + 1 : Nat) : Int) + WW * vl HH (h.drop (i + 2)) := by
  rw [drop_rd h i (by omega), vl, drop_rd h (i + 1) hi, vl, WW_eq, HH_eq, show i + 1 + 1 = i + 2 from rfl]
  omega
theorem vl1 (h : List Int) (i : Nat) (hi : i + 1 = h.length) : vl HH (h.drop i) = rd h i := by
  rw [drop_rd h i (by omega), vl, List.drop_of_length_le (by omega)]
  simp [vl]
theorem alg_w {vo P x w V W T : Int} (h : vo + P * T = V) (h2 : T = w + W * x) : (vo + w * P) + (W * P) * x = V := by grind
theorem r_Words_out {h : List Int} (hn : h.length < 68719476736) (hd : Dg HH h) (hnm : Nm h) (n : Int) (d : Nat) : ∀ (i : Nat) (o : List Int), h.length - i = d → i = 2 * o.length → Dg WW o → (h.length ≤ i → Nm o) → vl WW o + WW ^ o.length * vl HH (h.drop i) = n →
    ∃ r, Ev (fun k => isochroneref01_Words.l1 k h o (i : Int)) r ∧ Can WW r n := by
  induction d using Nat.strongRecOn with
  | _ d ih =>
    intro i o h1 h2 h3 h4 h5
    by_cases hi : i < h.length
    · have hx := dg_rd hd (i : Int) (by omega) (by omega)
      rw [HH_eq] at hx
      have ei2 : (i : Int) + 2 = ((i + 2 : Nat) : Int) := by omega
      by_cases hi1 : i + 1 < h.length
      · have hy := dg_rd hd ((i + 1 : Nat) : Int) (by omega) (by omega)
        rw [HH_eq] at hy
        have hl : i + 2 = h.length → rd h ((i + 1 : Nat) : Int) ≠ 0 := by
          intro he
          have h6 := hnm.rd (by omega)
          rw [show (h.length : Int) - 1 = ((i + 1 : Nat) : Int) by omega] at h6
          exact h6
        obtain ⟨r, h7, h8⟩ := ih (h.length - (i + 2)) (by omega) (i + 2) (o ++ [rd h i + 65536 * rd h ((i + 1 : Nat) : Int)]) rfl (by simp; omega) (h3.append (Dg.mk (by omega) (by rw [WW_eq]; omega) (Dg.nil _)))
          (by
            intro hle hne
            rw [getLast_snoc]
            have := hl (by omega)
            omega)
          (by rw [vl_snoc, List.length_append, List.length_singleton, Int.pow_succ, Int.mul_comm (WW ^ o.length) WW]; exact alg_w h5 (vl2 h i hi1))
        refine ⟨r, ?_, h8⟩
        refine Ev.step (fun k => by rw [isochroneref01_Words.l1]) ?_
        have ew : (rd h i % 4294967296 + rd h ((i + 1 : Nat) : Int) % 4294967296 * 65536 % 4294967296) % 4294967296 = rd h i + 65536 * rd h ((i + 1 : Nat) : Int) := by omega
        rw [wsucc (i := i) (by omega), ew, ei2, w64 (x := ((i + 2 : Nat) : Int)) (by omega) (by omega)]
        exact evp (by omega) (evp (by omega) (evp (by omega) (evp (by omega) (evp (by omega) h7))))
      · have hl : rd h (i : Int) ≠ 0 := by
          have h6 := hnm.rd (by omega)
          rw [show (h.length : Int) - 1 = (i : Int) by omega] at h6
          exact h6
        obtain ⟨r, h7, h8⟩ := ih (h.length - (i + 2)) (by omega) (i + 2) (o ++ [rd h i]) rfl (by simp; omega) (h3.append (Dg.mk (by omega) (by rw [WW_eq]; omega) (Dg.nil _)))
          (by
            intro hle hne
            rw [getLast_snoc]
            exact hl)
          (by
            rw [vl_snoc, List.length_append, List.length_singleton, Int.pow_succ, Int.mul_comm (WW ^ o.length) WW]
            refine alg_w (T := vl HH (h.drop i)) h5 ?_
            rw [vl1 h i (by omega), List.drop_of_length_le (by omega)]
            simp [vl])
        refine ⟨r, ?_, h8⟩
        refine Ev.step (fun k => by rw [isochroneref01_Words.l1]) ?_
        have ew : rd h i % 4294967296 = rd h i := by omega
        rw [wsucc (i := i) (by omega), ew, ei2, w64 (x := ((i + 2 : Nat) : Int)) (by omega) (by omega)]
        exact evp (by omega) (evp (by omega) (evn (by omega) (evp (by omega) h7)))
    · rw [List.drop_of_length_le (by omega)] at h5
      refine ⟨o, ?_, h3, h4 (by omega), by simpa [vl] using h5⟩
      refine Ev.step (fun k => by rw [isochroneref01_Words.l1]) ?_
      exact evn (by omega) (evs _)
theorem alg_h {vh P m q r K n : Int} (h : vh + m * P = n) (h2 : q * K + r = m) : (vh + r * P) + q * (K * P) = n := by grind
theorem r_Words_in (n : Int) (c : Nat) : ∀ (a h : List Int) (m : Int), m.toNat = c → Can RR a m → a.length + h.length < 17179869184 → h.length + 4 * a.length < 17179869184 → Dg HH h → (m = 0 → Nm h) → vl HH h + m * HH ^ h.length = n → (∀ a' : List Int, a'.length ≤ a.length → True) →
    ∃ r, Ev (fun k => isochroneref01_Words.l0 k a h) r ∧ Can WW r n := by
  induction c using Nat.strongRecOn with
  | _ c ih =>
    intro a h m hm ha hl hl2 hd hnm hv _
    have hm0 := ha.nonneg RR_pos
    by_cases hz : m = 0
    · have e : a = [] := (ha.nil_iff RR_pos).2 hz
      subst hz
      subst e
      rw [Int.zero_mul, Int.add_zero] at hv
      obtain ⟨r, h1, h2⟩ := r_Words_out (by omega) hd (hnm rfl) n h.length 0 [] (by omega) rfl (Dg.nil _) (fun _ => Nm.nil) (by simpa [vl] using hv)
      refine ⟨r, ?_, h2⟩
      refine Ev.step (fun k => by rw [isochroneref01_Words.l0]) ?_
      exact evn (by simp) h1
    · have hal : a.length ≠ 0 := fun h0 => hz ((ha.len_iff RR_pos).1 h0)
      obtain ⟨q, h1, h2, h3⟩ := r_Split_sp (K := 65536) (by omega) ha (by omega)
      have hq : q.length + 1 ≤ a.length := by
        have h4 := ha.lt RR_pos
        have h5 : m / 65536 < RR ^ (a.length - 1) := by
          have h6 : RR ^ a.length = RR ^ (a.length - 1) * RR := by
            conv => lhs; rw [show a.length = a.length - 1 + 1 by omega, Int.pow_succ]
          rw [h6, RR_eq] at h4
          rw [RR_eq]
          omega
        have := h2.len_le RR_one h5
        omega
      obtain ⟨r, h7, h8⟩ := ih (m / 65536).toNat (by omega) q (h ++ [m % 65536]) (m / 65536) rfl h2 (by simp; omega) (by simp; omega) (hd.append (Dg.mk (by omega) (by rw [HH_eq]; omega) (Dg.nil _)))
        (by
          intro hz2 hne
          rw [getLast_snoc]
          omega)
        (by rw [vl_snoc, List.length_append, List.length_singleton, Int.pow_succ, Int.mul_comm (HH ^ h.length) HH]; exact alg_h hv (by rw [HH_eq]; omega)) (fun _ _ => trivial)
      refine ⟨r, ?_, h8⟩
      refine Ev.step (fun k => by rw [isochroneref01_Words.l0]) ?_
      exact evp (by omega) (Ev.bind h1 (evp (by omega) h7))
theorem r_Words_sp {a : List Int} {n : Int} (hn : a.length < 1073741824) (ha : Can RR a n) : ∃ r, Ev (fun k => isochroneref01_Words.f k a) r ∧ Can WW r n := by
  obtain ⟨r, h1, h2⟩ := r_Words_in n n.toNat a [] n rfl ha (by simp; omega) (by simp; omega) (Dg.nil _) (fun _ => Nm.nil) (by simp [vl]) (fun _ _ => trivial)
  exact ⟨r, Ev.congr (fun k => by rw [isochroneref01_Words.f]) h1, h2⟩
theorem eq_ev {a b : List Int} (hl : a.length = b.length) (hn : a.length < 4611686018427387904) (d : Nat) : ∀ i : Nat, a.length - i = d → i ≤ a.length → a.take i = b.take i → ∃ r, Ev (fun k => slices_Equal_uint32_uint32.l0 k a b (a.length : Int) (i : Int)) r ∧ (r = true ↔ a = b) := by
  induction d with
  | zero =>
    intro i h1 h2 h3
    have e : i = a.length := by omega
    subst e
    rw [List.take_length, List.take_of_length_le (by omega)] at h3
    refine ⟨true, ?_, by simp [h3]⟩
    refine Ev.step (fun k => by rw [slices_Equal_uint32_uint32.l0]) ?_
    exact evn (by omega) (evs _)
  | succ d ih =>
    intro i h1 h2 h3
    by_cases he : rd a i = rd b i
    · obtain ⟨r, h4, h5⟩ := ih (i + 1) (by omega) (by omega) (by
        rw [List.take_succ_eq_append_getElem (by omega), List.take_succ_eq_append_getElem (by omega), h3, ← rd_lt a i (by omega), ← rd_lt b i (by omega), he])
      refine ⟨r, ?_, h5⟩
      refine Ev.step (fun k => by rw [slices_Equal_uint32_uint32.l0]) ?_
      rw [wsucc (i := i) (by omega)]
      exact evp (by omega) (evp (by omega) (evp (by omega) (evp (by omega) (evp he h4))))
    · refine ⟨false, ?_, by
        simp only [Bool.false_eq_true, false_iff]
        rintro rfl
        exact he rfl⟩
      refine Ev.step (fun k => by rw [slices_Equal_uint32_uint32.l0]) ?_
      exact evp (by omega) (evp (by omega) (evp (by omega) (evp (by omega) (evn he (evs _)))))
theorem eq_sp (a b : List Int) (hn : a.length < 4611686018427387904) : ∃ r, Ev (fun k => slices_Equal_uint32_uint32.f k a b) r ∧ (r = true ↔ a = b) := by
  unfold slices_Equal_uint32_uint32.f
  by_cases hl : a.length = b.length
  · obtain ⟨r, h1, h2⟩ := eq_ev hl hn a.length 0 (by omega) (by omega) (by simp)
    exact ⟨r, evp (by omega) h1, h2⟩
  · refine ⟨false, evn (by omega) (evs _), ?_⟩
    simp only [Bool.false_eq_true, false_iff]
    rintro rfl
    exact hl rfl
theorem is_sp {l w : List Int} {n : Int} (hn : w.length < 1073741824) (hl : l.length < 4611686018427387904) (h1 : Can WW l n) (h2 : Can RR w n) : Ev (fun k => isochronelaw01_is.f k l w) true := by
  obtain ⟨r, h3, h4⟩ := r_Words_sp hn h2
  obtain ⟨e, h5, h6⟩ := eq_sp l r hl
  have : e = true := h6.2 (can_uniq WW_pos h1 h4)
  subst this
  unfold isochronelaw01_is.f
  exact Ev.bind h3 (Ev.bind h5 (evs _))
theorem valid_sp (l : List Int) (hl : l.length < 4611686018427387904) : ∃ b, isochroneref01_Valid.f l = some b ∧ nat_Valid.f l = some b ∧ (b = true ↔ l.length ≤ 4096 ∧ Nm l) := by
  unfold isochroneref01_Valid.f nat_Valid.f
  by_cases h1 : l.length ≤ 4096
  · by_cases h0 : l.length = 0
    · refine ⟨true, by rw [if_pos (by omega), if_pos (by omega)], by rw [if_pos (by omega), if_pos (by omega)], ?_⟩
      have : l = [] := List.eq_nil_of_length_eq_zero h0
      subst this
      simp
      exact Nm.nil
    · have e : wrap64 ((l.length : Int) - 1) = (l.length : Int) - 1 := w64 (by omega) (by omega)
      rw [e, if_pos (by omega), if_neg (by omega), if_pos (by omega), if_pos (by omega)]
      refine ⟨_, rfl, rfl, ?_⟩
      simp only [bne_iff_ne]
      constructor
      · intro h
        exact ⟨h1, nm_of_rd (fun _ => h)⟩
      · intro h
        exact h.2.rd (by omega)
  · refine ⟨false, by rw [if_neg (by omega)], by rw [if_neg (by omega)], ?_⟩
    simp
    omega
theorem awake_ok : Ev (fun k => isochronelaw01_awake.f k) true := Ev.of (fun k => isochronelaw01_awake.mono k) (k := 60) (by decide +kernel)
end Go.Proofs.Ytfmobogdnlmdbaa.P
end
section
namespace Go.Proofs.Ytfmobogdnlmdbaa.P
open Go.RowKit Go.Proofs.YtfmobogdnlmdbaaW.PrintWords Go.Proofs.YtfmobogdnlmdbaaW.PrintLast Go.Proofs.YtfmobogdnlmdbaaW.PrintMore
set_option linter.unusedVariables false
theorem or_comm' (k : IntKind) (a b : Int) : Go.bits .or k a b = Go.bits .or k b a := by
  simp only [Go.bits]
  rw [BitVec.or_comm]
theorem or64 {h x : Int} (hh : 0 ≤ h ∧ h < 4294967296) (hx : 0 ≤ x ∧ x < 4294967296) : Go.bits .or .u64 (h * 4294967296) x = h * 4294967296 + x :=
  bits_join .u64 64 (by decide) (fun n h0 h1 => by rw [IntKind.wrap_u64]; omega) 32 _ _ (by omega) (by omega) (by omega) hx.1 (by omega) (by omega)
theorem or64' {h x : Int} (hh : 0 ≤ h ∧ h < 4294967296) (hx : 0 ≤ x ∧ x < 4294967296) : Go.bits .or .u64 x (h * 4294967296) = h * 4294967296 + x := by
  rw [or_comm', or64 hh hx]
theorem tab_len : ∀ i : Fin 256, ∃ L : Fin 9, bt (⟨#[0, 1, 2, 2, 3, 3, 3, 3, 4, 4, 4, 4, 4, 4, 4, 4, 5, 5, 5, 5, 5, 5, 5, 5, 5, 5, 5, 5, 5, 5, 5, 5, 6, 6, 6, 6, 6, 6, 6, 6, 6, 6, 6, 6, 6, 6, 6, 6, 6, 6, 6, 6, 6, 6, 6, 6, 6, 6, 6, 6, 6, 6, 6, 6, 7, 7, 7, 7, 7, 7, 7, 7, 7, 7, 7, 7, 7, 7, 7, 7, 7, 7, 7, 7, 7, 7, 7, 7, 7, 7, 7, 7, 7, 7, 7, 7, 7, 7, 7, 7, 7, 7, 7, 7, 7, 7, 7, 7, 7, 7, 7, 7, 7, 7, 7, 7, 7, 7, 7, 7, 7, 7, 7, 7, 7, 7, 7, 7, 8, 8, 8, 8, 8, 8, 8, 8, 8, 8, 8, 8, 8, 8, 8, 8, 8, 8, 8, 8, 8, 8, 8, 8, 8, 8, 8, 8, 8, 8, 8, 8, 8, 8, 8, 8, 8, 8, 8, 8, 8, 8, 8, 8, 8, 8, 8, 8, 8, 8, 8, 8, 8, 8, 8, 8, 8, 8, 8, 8, 8, 8, 8, 8, 8, 8, 8, 8, 8, 8, 8, 8, 8, 8, 8, 8, 8, 8, 8, 8, 8, 8, 8, 8, 8, 8, 8, 8, 8, 8, 8, 8, 8, 8, 8, 8, 8, 8, 8, 8, 8, 8, 8, 8, 8, 8, 8, 8, 8, 8, 8, 8, 8, 8, 8, 8, 8, 8, 8, 8, 8, 8, 8, 8, 8, 8, 8, 8]⟩ : ByteArray) ((i.val : Nat) : Int) = (L.val : Int) ∧ i.val < 2 ^ L.val ∧ (i.val ≠ 0 → 2 ^ (L.val - 1) ≤ i.val ∧ 1 ≤ L.val) := by decide +kernel
theorem tab_len' {x : Int} (h0 : 0 ≤ x) (h1 : x < 256) : ∃ L : Nat, bt (⟨#[0, 1, 2, 2, 3, 3, 3, 3, 4, 4, 4, 4, 4, 4, 4, 4, 5, 5, 5, 5, 5, 5, 5, 5, 5, 5, 5, 5, 5, 5, 5, 5, 6, 6, 6, 6, 6, 6, 6, 6, 6, 6, 6, 6, 6, 6, 6, 6, 6, 6, 6, 6, 6, 6, 6, 6, 6, 6, 6, 6, 6, 6, 6, 6, 7, 7, 7, 7, 7, 7, 7, 7, 7, 7, 7, 7, 7, 7, 7, 7, 7, 7, 7, 7, 7, 7, 7, 7, 7, 7, 7, 7, 7, 7, 7, 7, 7, 7, 7, 7, 7, 7, 7, 7, 7, 7, 7, 7, 7, 7, 7, 7, 7, 7, 7, 7, 7, 7, 7, 7, 7, 7, 7, 7, 7, 7, 7, 7, 8, 8, 8, 8, 8, 8, 8, 8, 8, 8, 8, 8, 8, 8, 8, 8, 8, 8, 8, 8, 8, 8, 8, 8, 8, 8, 8, 8, 8, 8, 8, 8, 8, 8, 8, 8, 8, 8, 8, 8, 8, 8, 8, 8, 8, 8, 8, 8, 8, 8, 8, 8, 8, 8, 8, 8, 8, 8, 8, 8, 8, 8, 8, 8, 8, 8, 8, 8, 8, 8, 8, 8, 8, 8, 8, 8, 8, 8, 8, 8, 8, 8, 8, 8, 8, 8, 8, 8, 8, 8, 8, 8, 8, 8, 8, 8, 8, 8, 8, 8, 8, 8, 8, 8, 8, 8, 8, 8, 8, 8, 8, 8, 8, 8, 8, 8, 8, 8, 8, 8, 8, 8, 8, 8, 8, 8, 8, 8]⟩ : ByteArray) x = (L : Int) ∧ L ≤ 8 ∧ x < 2 ^ L ∧ (x ≠ 0 → 2 ^ (L - 1) ≤ x ∧ 1 ≤ L) := by
  obtain ⟨n, rfl⟩ := Int.eq_ofNat_of_zero_le h0
  obtain ⟨L, h2, h3, h4⟩ := tab_len ⟨n, by omega⟩
  refine ⟨L.val, h2, by omega, by exact_mod_cast h3, fun h => ?_⟩
  obtain ⟨h5, h6⟩ := h4 (show n ≠ 0 by omega)
  exact ⟨by exact_mod_cast h5, h6⟩
theorem sh_pow {x y : Int} {L k : Nat} (h0 : 0 ≤ x) (e : y = x / 2 ^ k) (h1 : y < 2 ^ L) (h2 : 2 ^ (L - 1) ≤ y) (h3 : 1 ≤ L) : x < 2 ^ (k + L) ∧ 2 ^ (k + L - 1) ≤ x := by
  have hp : (0 : Int) < 2 ^ k := Int.pow_pos (by decide)
  have d1 := Int.mul_ediv_add_emod x (2 ^ k)
  have d2 := Int.emod_nonneg x (show (2 : Int) ^ k ≠ 0 by omega)
  have d3 := Int.emod_lt_of_pos x hp
  rw [← e] at d1
  have e2 : k + L - 1 = k + (L - 1) := by omega
  rw [e2, Int.pow_add, Int.pow_add]
  have m1 : (2 : Int) ^ k * (y + 1) ≤ 2 ^ k * 2 ^ L := Int.mul_le_mul_of_nonneg_left (by omega) (by omega)
  have m2 : (2 : Int) ^ k * 2 ^ (L - 1) ≤ 2 ^ k * y := Int.mul_le_mul_of_nonneg_left h2 (by omega)
  rw [Int.mul_add] at m1
  omega
theorem len32_sp {x : Int} (h0 : 0 ≤ x) (h1 : x < 4294967296) : ∃ L : Nat, bits_Len32.f x = some (L : Int) ∧ L ≤ 32 ∧ x < 2 ^ L ∧ (x ≠ 0 → 2 ^ (L - 1) ≤ x ∧ 1 ≤ L) := by
  unfold bits_Len32.f
  by_cases c1 : x ≥ 65536
  · by_cases c2 : x / 65536 ≥ 256
    · have e : x / 65536 / 256 % 256 = x / 2 ^ 24 := by omega
      obtain ⟨L, t1, t2, t3, t4⟩ := tab_len' (x := x / 2 ^ 24) (by omega) (by omega)
      obtain ⟨t5, t6⟩ := t4 (by omega)
      obtain ⟨t7, t8⟩ := sh_pow h0 rfl t3 t5 t6
      refine ⟨24 + L, ?_, by omega, t7, fun _ => ⟨t8, by omega⟩⟩
      rw [if_pos c1, if_pos c2, e, if_pos (by omega), if_pos (by omega), t1, w64 (x := (L : Int)) (by omega) (by omega), w64 (by omega) (by omega)]
      exact congrArg some (by omega)
    · have e : x / 65536 % 256 = x / 2 ^ 16 := by omega
      obtain ⟨L, t1, t2, t3, t4⟩ := tab_len' (x := x / 2 ^ 16) (by omega) (by omega)
      obtain ⟨t5, t6⟩ := t4 (by omega)
      obtain ⟨t7, t8⟩ := sh_pow h0 rfl t3 t5 t6
      refine ⟨16 + L, ?_, by omega, t7, fun _ => ⟨t8, by omega⟩⟩
      rw [if_pos c1, if_neg c2, e, if_pos (by omega), if_pos (by omega), t1, w64 (x := (L : Int)) (by omega) (by omega), w64 (by omega) (by omega)]
      exact congrArg some (by omega)
  · by_cases c2 : x ≥ 256
    · have e : x / 256 % 256 = x / 2 ^ 8 := by omega
      obtain ⟨L, t1, t2, t3, t4⟩ := tab_len' (x := x / 2 ^ 8) (by omega) (by omega)
      obtain ⟨t5, t6⟩ := t4 (by omega)
      obtain ⟨t7, t8⟩ := sh_pow h0 rfl t3 t5 t6
      refine ⟨8 + L, ?_, by omega, t7, fun _ => ⟨t8, by omega⟩⟩
      rw [if_neg c1, if_pos c2, e, if_pos (by omega), if_pos (by omega), t1, w64 (x := (L : Int)) (by omega) (by omega), w64 (by omega) (by omega)]
      exact congrArg some (by omega)
    · have e : x % 256 = x := by omega
      obtain ⟨L, t1, t2, t3, t4⟩ := tab_len' (x := x) (by omega) (by omega)
      refine ⟨L, ?_, by omega, t3, t4⟩
      rw [if_neg c1, if_neg c2, e, if_pos (by omega), if_pos (by omega), t1, w64 (x := (L : Int)) (by omega) (by omega), w64 (by omega) (by omega)]
      exact congrArg some (by omega)
theorem lz32_sp {x : Int} (h0 : 0 ≤ x) (h1 : x < 4294967296) : ∃ L : Nat, bits_LeadingZeros32.f x = some ((32 - L : Nat) : Int) ∧ L ≤ 32 ∧ x < 2 ^ L ∧ (x ≠ 0 → 2 ^ (L - 1) ≤ x ∧ 1 ≤ L) := by
  obtain ⟨L, t1, t2, t3⟩ := len32_sp h0 h1
  refine ⟨L, ?_, t2, t3⟩
  unfold bits_LeadingZeros32.f
  rw [t1, Option.bind_some, w64 (by omega) (by omega)]
  exact congrArg some (by omega)
theorem WW_pow (w : Nat) : WW ^ w = 2 ^ (32 * w) := by rw [Int.pow_mul]; rfl
theorem pow_split (s : Nat) : (2 : Int) ^ s = WW ^ (s / 32) * 2 ^ (s % 32) := by
  rw [WW_pow, ← Int.pow_add]; congr 1; omega
theorem last_vl {a : List Int} (h : 0 < a.length) : vl WW a = vl WW (a.take (a.length - 1)) + rd a ((a.length : Int) - 1) * WW ^ (a.length - 1) := by
  have e := vl_take WW a (a.length - 1) (by omega)
  rw [Nat.sub_add_cancel h, List.take_length] at e
  rw [e]
  congr 2
  congr 1
  omega
theorem mag_Bits_sp {a : List Int} {n : Int} (hn : a.length < 68719476736) (ha : Can WW a n) : ∃ b : Nat, mag_Bits.f a = some (b : Int) ∧ b ≤ 32 * a.length ∧ (a.length = 0 → b = 0) ∧ (n ≠ 0 → 2 ^ (b - 1) ≤ n ∧ n < 2 ^ b ∧ 1 ≤ b ∧ 32 * (a.length - 1) < b) := by
  unfold mag_Bits.f
  by_cases c : a.length = 0
  · refine ⟨0, by rw [if_pos (by omega)]; rfl, by omega, fun _ => rfl, fun h => absurd ((ha.len_iff WW_pos).1 c) h⟩
  · have hx := dg_rd ha.1 ((a.length : Int) - 1) (by omega) (by omega)
    have hnz := ha.2.1.rd (by omega)
    rw [WW_eq] at hx
    obtain ⟨L, t1, t2, t3, t4⟩ := lz32_sp hx.1 hx.2
    obtain ⟨t5, t6⟩ := t4 hnz
    refine ⟨32 * a.length - (32 - L), ?_, by omega, fun h => absurd h c, fun _ => ?_⟩
    · rw [if_neg (by omega), w64 (x := (a.length : Int) - 1) (by omega) (by omega), if_pos (by omega), if_pos (by omega), t1, Option.bind_some, w64 (x := 32 * (a.length : Int)) (by omega) (by omega), w64 (by omega) (by omega)]
      congr 1
      omega
    · have lv := last_vl (a := a) (by omega)
      rw [ha.2.2] at lv
      have hd := ha.1.take (a.length - 1)
      have l0 := vl_nonneg WW_pos hd
      have l1 := vl_lt WW_pos hd
      rw [List.length_take, Nat.min_eq_left (by omega)] at l1
      have hP : (0 : Int) < WW ^ (a.length - 1) := pow_pos' WW_pos _
      generalize hr : rd a ((a.length : Int) - 1) = r at *
      have e1 : (2 : Int) ^ (32 * a.length - (32 - L)) = 2 ^ L * WW ^ (a.length - 1) := by rw [WW_pow, ← Int.pow_add]; congr 1; omega
      have e2 : (2 : Int) ^ (32 * a.length - (32 - L) - 1) = 2 ^ (L - 1) * WW ^ (a.length - 1) := by rw [WW_pow, ← Int.pow_add]; congr 1; omega
      have m1 : (r + 1) * WW ^ (a.length - 1) ≤ 2 ^ L * WW ^ (a.length - 1) := Int.mul_le_mul_of_nonneg_right (by omega) (by omega)
      have m2 : 2 ^ (L - 1) * WW ^ (a.length - 1) ≤ r * WW ^ (a.length - 1) := Int.mul_le_mul_of_nonneg_right t5 (by omega)
      rw [Int.add_mul] at m1
      rw [e1, e2]
      exact ⟨by omega, by omega, by omega, by omega⟩
theorem shl_p {x : Int} {p : Nat} (hp : p < 32) (hx : 0 ≤ x ∧ x < 4294967296) : shl .u64 (IntKind.u64.wrap x) (p : Int) = x * 2 ^ p ∧ 0 ≤ x * 2 ^ p ∧ x * 2 ^ p < 4294967296 * 2 ^ p ∧ (2 : Int) ^ p ≤ 2147483648 ∧ (1 : Int) ≤ 2 ^ p := by
  have h1 : (1 : Int) ≤ 2 ^ p := by have : (0 : Int) < 2 ^ p := Int.pow_pos (by decide); omega
  have h2 : (2 : Int) ^ p ≤ 2 ^ 31 := by
    have : 2 ^ p ≤ 2 ^ 31 := Nat.pow_le_pow_right (by decide) (by omega)
    exact_mod_cast this
  have h3 : x * 2 ^ p < 4294967296 * 2 ^ p := Int.mul_lt_mul_of_pos_right hx.2 (by omega)
  have h4 : 0 ≤ x * 2 ^ p := Int.mul_nonneg hx.1 (by omega)
  refine ⟨?_, h4, h3, by omega, h1⟩
  have hm : min p IntKind.u64.bits = p := by
    have : IntKind.u64.bits = 64 := rfl
    omega
  unfold shl
  rw [Int.toNat_natCast, hm, u64 (x := x) (by omega) (by omega), u64 h4 (by omega)]
theorem alg_shl {vo P old lo hi va x M W T Q : Int} (h : vo + old * P = va * M * T) (hy : lo + W * hi = x * M) (hP : P = T * Q) : (vo + (old + lo) * P) + hi * (W * P) = (va + x * Q) * M * T := by grind
theorem or_shl {x old : Int} {p : Nat} (hp : p < 32) (hx : 0 ≤ x ∧ x < 4294967296) (ho : 0 ≤ old ∧ old < 2 ^ p) : Go.bits .or .u32 old (x * 2 ^ p % 4294967296) = old + x * 2 ^ p % 4294967296 := by
  obtain ⟨_, h1, h2, h3, h4⟩ := shl_p hp hx
  have hd : x * 2 ^ p % 4294967296 % 2 ^ p = 0 := by
    have hdv : (2 : Int) ^ p ∣ 4294967296 := by
      have : (4294967296 : Int) = 2 ^ p * 2 ^ (32 - p) := by rw [← Int.pow_add, show p + (32 - p) = 32 by omega]; rfl
      rw [this]; exact Int.dvd_mul_right _ _
    rw [Int.emod_emod_of_dvd _ hdv, Int.mul_emod_left]
  rw [or_comm', bits_join .u32 32 (by decide) (fun n h0 h1 => by rw [IntKind.wrap_u32]; omega) p _ _ (by omega) hd (by omega) ho.1 ho.2 (by omega)]
  omega
theorem or_shl_lt {x old : Int} {p : Nat} (hp : p < 32) (hx : 0 ≤ x ∧ x < 4294967296) (ho : 0 ≤ old ∧ old < 2 ^ p) : old + x * 2 ^ p % 4294967296 < 4294967296 := by
  have h := (bits_within .or .u32 old (x * 2 ^ p % 4294967296)).2
  rw [or_shl hp hx ho] at h
  have e : IntKind.u32.max = 4294967295 := rfl
  rw [e] at h
  exact Int.lt_of_le_of_lt h (by decide)
theorem mag_Shl_ev {a : List Int} {w p : Nat} (hn : a.length + w < 68719476736) (hp : p < 32) (ha : Dg WW a) (d : Nat) : ∀ (i : Nat) (o : List Int), a.length - i = d → i ≤ a.length → o.length = a.length + w + 1 → Dg WW o → vl WW (o.take (i + w + 1)) = vl WW (a.take i) * 2 ^ p * WW ^ w → rd o ((i + w : Nat) : Int) < 2 ^ p →
    ∃ r, Ev (fun k => mag_Shl.l0 k (w : Int) (p : Int) o a (a.length : Int) (i : Int)) r ∧ Can WW r (vl WW a * (WW ^ w * 2 ^ p)) ∧ r.length ≤ a.length + w + 1 := by
  induction d with
  | zero =>
    intro i o h1 h2 h3 h4 h5 h6
    have ei : i = a.length := by omega
    subst ei
    rw [← h3, List.take_length, List.take_length] at h5
    obtain ⟨r, r1, r2, r3⟩ := mag_Trim_sp (l := o) (by omega) h4
    rw [h5] at r2
    refine ⟨r, ?_, by rw [Int.mul_comm (WW ^ w), ← Int.mul_assoc]; exact r2, by omega⟩
    refine Ev.step (fun k => by rw [mag_Shl.l0]) ?_
    exact evn (by omega) (Ev.bind r1 (evs _))
  | succ d ih =>
    intro i o h1 h2 h3 h4 h5 h6
    have hx := dg_rd ha (i : Int) (by omega) (by omega)
    have ho := dg_rd h4 ((i + w : Nat) : Int) (by omega) (by omega)
    rw [WW_eq] at hx ho
    obtain ⟨s2, s3, s4, s5⟩ := (shl_p hp hx).2
    have hy1 : rd a (i : Int) * 2 ^ p % 4294967296 + WW * (rd a (i : Int) * 2 ^ p / 4294967296) = rd a (i : Int) * 2 ^ p := by rw [WW_eq]; exact Int.emod_add_mul_ediv _ _
    have hhi0 : 0 ≤ rd a (i : Int) * 2 ^ p / 4294967296 := by omega
    have hhi1 : rd a (i : Int) * 2 ^ p / 4294967296 < 2 ^ p := Int.ediv_lt_of_lt_mul (by omega) (by omega)
    have hdv := or_shl_lt hp hx ⟨ho.1, h6⟩
    generalize hlo : rd a (i : Int) * 2 ^ p % 4294967296 = lo at *
    generalize hhi : rd a (i : Int) * 2 ^ p / 4294967296 = hi at *
    have hlo0 : 0 ≤ lo := by omega
    have d1 : Dg WW (o.set (i + w) (rd o ((i + w : Nat) : Int) + lo)) := h4.set _ (by omega) (by rw [WW_eq]; omega)
    obtain ⟨r, r1, r2⟩ := ih (i + 1) ((o.set (i + w) (rd o ((i + w : Nat) : Int) + lo)).set (i + w + 1) hi) (by omega) (by omega) (by simpa using h3)
      (d1.set _ hhi0 (by rw [WW_eq]; omega))
      (by
        rw [show i + 1 + w + 1 = i + w + 1 + 1 by omega, vl_set _ _ _ _ (by simp; omega), vl_set _ _ _ _ (by omega), vl_take WW a i (by omega), Int.pow_succ, Int.mul_comm (WW ^ (i + w)) WW]
        rw [vl_take WW o (i + w) (by omega)] at h5
        exact alg_shl h5 hy1 (by rw [Int.pow_add, Int.mul_comm]))
      (by
        rw [show ((i + 1 + w : Nat) : Int) = ((i + w + 1 : Nat) : Int) by omega]
        have := rd_set_eq (o.set (i + w) (rd o ((i + w : Nat) : Int) + lo)) ((i + w + 1 : Nat) : Int) hi (by simp; omega)
        rw [Int.toNat_natCast] at this
        rw [this]
        exact hhi1)
    refine ⟨r, ?_, r2⟩
    refine Ev.step (fun k => by rw [mag_Shl.l0]) ?_
    have e2 : hi % 4294967296 = hi := by omega
    rw [show (i : Int) + (w : Int) = ((i + w : Nat) : Int) by omega, w64 (x := ((i + w : Nat) : Int)) (by omega) (by omega), wsucc (i := i + w) (by omega), wsucc (i := i) (by omega), Int.toNat_natCast, Int.toNat_natCast, (shl_p hp hx).1, hlo, hhi, e2]
    have so := or_shl hp hx ⟨ho.1, h6⟩
    rw [hlo] at so
    rw [so]
    clear so
    exact evp (by omega) (evp (by omega) (evp (by omega) (evp (by omega) (evp (by omega) (evp (by omega) (evp (by omega) (evp (by omega) r1)))))))
theorem mag_Shl_sp {a : List Int} {n : Int} (s : Nat) (hn : a.length + s < 68719476736) (ha : Can WW a n) : ∃ r, Ev (fun k => mag_Shl.f k a (s : Int)) r ∧ Can WW r (n * 2 ^ s) ∧ r.length ≤ a.length + s / 32 + 1 := by
  unfold mag_Shl.f
  by_cases c : a.length = 0
  · refine ⟨[], evp (by omega) (evs _), ?_, by simp⟩
    rw [(ha.len_iff WW_pos).1 c, Int.zero_mul]
    exact Can.zero _
  · obtain ⟨r, r1, r2, r3⟩ := mag_Shl_ev (a := a) (w := s / 32) (p := s % 32) (by omega) (by omega) ha.1 a.length 0 (List.replicate (a.length + s / 32 + 1) 0) (by omega) (by omega) (by simp) (Dg.rep WW_pos _)
      (by rw [List.take_replicate, vl_rep, List.take_zero, vl]; simp)
      (by
        have h1 : (0 : Int) < 2 ^ (s % 32) := Int.pow_pos (by decide)
        have h2 : rd (List.replicate (a.length + s / 32 + 1) (0 : Int)) ((0 + s / 32 : Nat) : Int) = 0 := by
          rw [rd_lt _ _ (by simp; omega)]; simp
        rw [h2]; exact h1)
    rw [← pow_split, ha.2.2] at r2
    refine ⟨r, ?_, r2, r3⟩
    have e1 : wrap64 (Int.tdiv (s : Int) 32) = ((s / 32 : Nat) : Int) := by rw [tdiv_nn (by omega), w64 (by omega) (by omega)]; omega
    have e2 : IntKind.u64.wrap (Int.tmod (s : Int) 32) = ((s % 32 : Nat) : Int) := by rw [tmod_nn (by omega), u64 (by omega) (by omega)]; omega
    have e3 : wrap64 (wrap64 ((a.length : Int) + ((s / 32 : Nat) : Int)) + 1) = ((a.length + s / 32 + 1 : Nat) : Int) := by rw [w64 (x := (a.length : Int) + ((s / 32 : Nat) : Int)) (by omega) (by omega), w64 (by omega) (by omega)]; omega
    rw [e1, e2, e3, Int.toNat_natCast]
    exact evn (by omega) (evp (by omega) (evp (by omega) r1))
end Go.Proofs.Ytfmobogdnlmdbaa.P
end
section
namespace Go.Proofs.Ytfmobogdnlmdbaa.P
open Go.RowKit Go.Proofs.YtfmobogdnlmdbaaW.PrintWords Go.Proofs.YtfmobogdnlmdbaaW.PrintLast Go.Proofs.YtfmobogdnlmdbaaW.PrintMore
set_option linter.unusedVariables false
theorem two_pos (p : Nat) : (0 : Int) < 2 ^ p := Int.pow_pos (by decide)
theorem shr_p {x : Int} {p : Nat} (hp : p < 32) : shr .u64 x (p : Int) = x / 2 ^ p := by
  have hm : min p IntKind.u64.bits = p := by
    have : IntKind.u64.bits = 64 := rfl
    omega
  unfold shr
  rw [Int.toNat_natCast, hm]
theorem WW_split {p : Nat} (hp : p < 32) : WW = 2 ^ p * 2 ^ (32 - p) := by rw [← Int.pow_add, show p + (32 - p) = 32 by omega]; rfl
theorem shr_word {x T t : Int} {p : Nat} (hp : p < 32) (hx : 0 ≤ x ∧ x < WW) (ht : 0 ≤ t ∧ t < WW) (hT : ∃ u, 0 ≤ u ∧ T = t + WW * u) :
    (t * WW + x) / 2 ^ p % WW + WW * (T / 2 ^ p) = (x + WW * T) / 2 ^ p ∧ 0 ≤ (t * WW + x) / 2 ^ p % WW ∧ (t * WW + x) / 2 ^ p % WW < WW := by
  obtain ⟨u, hu, hT⟩ := hT
  have hM := two_pos p
  have hW := WW_split hp
  have hK := two_pos (32 - p)
  have hWp := WW_pos
  have hWe := WW_eq
  generalize hMM : (2 : Int) ^ p = M at *
  generalize hKK : (2 : Int) ^ (32 - p) = K at *
  refine ⟨?_, Int.emod_nonneg _ (by omega), Int.emod_lt_of_pos _ hWp⟩
  have d1 := Int.mul_ediv_add_emod t M
  have r0 := Int.emod_nonneg t (show M ≠ 0 by omega)
  have r1 := Int.emod_lt_of_pos t hM
  generalize hq : t / M = q at *
  generalize hr : t % M = r at *
  clear hq hr
  have a1 : t * WW + x = (x + WW * r) + M * (WW * q) := by rw [← d1]; grind
  have a2 : T = r + M * (q + K * u) := by rw [hT, ← d1, hW]; grind
  have a3 : x + WW * T = (x + WW * r) + M * (WW * (q + K * u)) := by rw [a2]; grind
  have lo : 0 ≤ x + WW * r := by
    have := Int.mul_nonneg (Int.le_of_lt hWp) r0
    omega
  have hi : x + WW * r < M * WW := by
    have m : WW * (r + 1) ≤ WW * M := Int.mul_le_mul_of_nonneg_left (by omega) (by omega)
    rw [Int.mul_add, Int.mul_comm WW M] at m
    omega
  rw [a1, a3, Int.add_mul_ediv_left _ _ (by omega), Int.add_mul_ediv_left _ _ (by omega)]
  have e2 : T / M = q + K * u := by rw [a2, Int.add_mul_ediv_left _ _ (by omega), Int.ediv_eq_zero_of_lt r0 r1]; omega
  rw [e2]
  have b0 : 0 ≤ (x + WW * r) / M := Int.ediv_nonneg lo (by omega)
  have b1 : (x + WW * r) / M < WW := Int.ediv_lt_of_lt_mul hM (by rw [Int.mul_comm WW M]; exact hi)
  rw [Int.add_mul_emod_self_left, Int.emod_eq_of_lt b0 b1]
theorem alg_shr {vo P d T W V T0 : Int} (h : vo + P * T0 = V) (h2 : d + W * T = T0) : (vo + d * P) + (P * W) * T = V := by grind
theorem vl_dropd (a : List Int) (ha : Dg WW a) (i : Nat) : ∃ t, 0 ≤ t ∧ t < WW ∧ (∃ u, 0 ≤ u ∧ vl WW (a.drop i) = t + WW * u) ∧ (i < a.length → t = rd a (i : Int)) ∧ (a.length ≤ i → t = 0) := by
  by_cases c : i < a.length
  · have hx := dg_rd ha (i : Int) (by omega) (by omega)
    refine ⟨rd a (i : Int), hx.1, hx.2, ⟨vl WW (a.drop (i + 1)), vl_nonneg WW_pos (ha.drop _), by rw [drop_rd a i c, vl]⟩, fun _ => rfl, fun h => by omega⟩
  · exact ⟨0, by decide, by decide, ⟨0, by decide, by rw [List.drop_eq_nil_of_le (by omega), vl]; rfl⟩, fun h => absurd h c, fun _ => rfl⟩
theorem mag_Shr_ev {a : List Int} {w p m : Nat} (hn : a.length < 68719476736) (hw : w + m = a.length) (hp : p < 32) (ha : Dg WW a) (d : Nat) : ∀ (i : Nat) (o : List Int), m - i = d → i ≤ m → o.length = m → Dg WW (o.take i) → vl WW (o.take i) + WW ^ i * (vl WW (a.drop (i + w)) / 2 ^ p) = vl WW (a.drop w) / 2 ^ p →
    ∃ r, Ev (fun k => mag_Shr.l0 k a (w : Int) (p : Int) o (m : Int) (i : Int)) r ∧ Can WW r (vl WW (a.drop w) / 2 ^ p) ∧ r.length ≤ m := by
  induction d with
  | zero =>
    intro i o h1 h2 h3 h4 h5
    have ei : i = m := by omega
    subst ei
    rw [List.drop_eq_nil_of_le (by omega), vl, Int.zero_ediv, Int.mul_zero, Int.add_zero, ← h3, List.take_length] at h5
    rw [← h3, List.take_length] at h4
    obtain ⟨r, r1, r2, r3⟩ := mag_Trim_sp (l := o) (by omega) h4
    rw [h5] at r2
    refine ⟨r, ?_, r2, by omega⟩
    refine Ev.step (fun k => by rw [mag_Shr.l0]) ?_
    exact evn (by omega) (Ev.bind r1 (evs _))
  | succ d ih =>
    intro i o h1 h2 h3 h4 h5
    have hx := dg_rd ha ((i + w : Nat) : Int) (by omega) (by omega)
    obtain ⟨t, t0, t1, t2, t3, t4⟩ := vl_dropd a ha (i + w + 1)
    obtain ⟨s1, s2, s3⟩ := shr_word hp hx ⟨t0, t1⟩ t2
    rw [drop_rd a (i + w) (by omega), vl] at h5
    obtain ⟨r, r1, r2⟩ := ih (i + 1) (o.set i ((t * WW + rd a ((i + w : Nat) : Int)) / 2 ^ p % WW)) (by omega) (by omega) (by simpa using h3)
      (Dg.take_set (by omega) h4 s2 s3)
      (by
        rw [vl_set _ _ _ _ (by omega), show i + 1 + w = i + w + 1 by omega, Int.pow_succ]
        exact alg_shr h5 s1)
    refine ⟨r, ?_, r2⟩
    refine Ev.step (fun k => by rw [mag_Shr.l0]) ?_
    rw [WW_eq] at hx t1
    rw [show (i : Int) + (w : Int) = ((i + w : Nat) : Int) by omega, w64 (x := ((i + w : Nat) : Int)) (by omega) (by omega), wsucc (i := i + w) (by omega), wsucc (i := i) (by omega), Int.toNat_natCast]
    refine evp (by omega) (evp (by omega) (evp (by omega) ?_))
    by_cases c : i + w + 1 < a.length
    · have e := t3 c
      rw [← e, u64 (x := t) (by omega) (by omega), u64 (x := rd a ((i + w : Nat) : Int)) (by omega) (by omega), u64 (x := t * 4294967296) (by omega) (by omega), or64' ⟨t0, t1⟩ hx, shr_p (x := t * 4294967296 + rd a ((i + w : Nat) : Int)) hp]
      exact evp (by omega) (evp (by omega) (evp (by omega) (evp (by omega) (evp (by omega) r1))))
    · have e := t4 (by omega)
      subst e
      rw [Int.zero_mul, Int.zero_add] at r1
      rw [u64 (x := rd a ((i + w : Nat) : Int)) (by omega) (by omega), shr_p (x := rd a ((i + w : Nat) : Int)) hp]
      exact evn (by omega) (evp (by omega) (evp (by omega) (evp (by omega) r1)))
theorem can_shr {a : List Int} {n : Int} (ha : Can WW a n) (s : Nat) : (s / 32 < a.length → n / 2 ^ s = vl WW (a.drop (s / 32)) / 2 ^ (s % 32)) ∧ (a.length ≤ s / 32 → n / 2 ^ s = 0) := by
  have hP := pow_pos' WW_pos (s / 32)
  have hM := two_pos (s % 32)
  rw [pow_split s]
  constructor
  · intro h
    have hd := vl_drop WW a (s / 32) (by omega)
    rw [ha.2.2] at hd
    have l0 := vl_nonneg WW_pos (ha.1.take (s / 32))
    have l1 := vl_lt WW_pos (ha.1.take (s / 32))
    rw [List.length_take, Nat.min_eq_left (by omega)] at l1
    rw [hd, ← Int.ediv_ediv_of_nonneg (by omega), Int.add_mul_ediv_left _ _ (by omega), Int.ediv_eq_zero_of_lt l0 l1, Int.zero_add]
  · intro h
    have h1 := ha.lt WW_pos
    have h2 := pow_le (B := WW) (by decide) h
    refine Int.ediv_eq_zero_of_lt (ha.nonneg WW_pos) ?_
    have h3 : WW ^ (s / 32) * 1 ≤ WW ^ (s / 32) * 2 ^ (s % 32) := Int.mul_le_mul_of_nonneg_left (by omega) (by omega)
    omega
theorem mag_Shr_sp {a : List Int} {n : Int} (s : Nat) (hn : a.length < 68719476736) (hs : s < 68719476736) (ha : Can WW a n) : ∃ r, Ev (fun k => mag_Shr.f k a (s : Int)) r ∧ Can WW r (n / 2 ^ s) ∧ r.length ≤ a.length := by
  obtain ⟨c1, c2⟩ := can_shr ha s
  have e1 : wrap64 (Int.tdiv (s : Int) 32) = ((s / 32 : Nat) : Int) := by rw [tdiv_nn (by omega), w64 (by omega) (by omega)]; omega
  have e2 : IntKind.u64.wrap (Int.tmod (s : Int) 32) = ((s % 32 : Nat) : Int) := by rw [tmod_nn (by omega), u64 (by omega) (by omega)]; omega
  unfold mag_Shr.f
  rw [e1, e2]
  clear e1 e2
  by_cases c : a.length ≤ s / 32
  · refine ⟨[], evp (by omega) (evs _), ?_, by simp⟩
    rw [c2 c]
    exact Can.zero _
  · obtain ⟨r, r1, r2, r3⟩ := mag_Shr_ev (a := a) (w := s / 32) (p := s % 32) (m := a.length - s / 32) hn (by omega) (by omega) ha.1 (a.length - s / 32) 0 (List.replicate (a.length - s / 32) 0) (by omega) (by omega) (by simp) (by rw [List.take_zero]; exact Dg.nil _)
      (by rw [List.take_zero, vl, Int.pow_zero, Nat.zero_add]; omega)
    rw [← c1 (by omega)] at r2
    refine ⟨r, ?_, r2, by omega⟩
    rw [show (a.length : Int) - ((s / 32 : Nat) : Int) = ((a.length - s / 32 : Nat) : Int) by omega, w64 (x := ((a.length - s / 32 : Nat) : Int)) (by omega) (by omega), Int.toNat_natCast]
    refine evn (by omega) (evp (by omega) (evp (by omega) (evb rfl ?_)))
    rw [List.length_replicate]
    exact r1
end Go.Proofs.Ytfmobogdnlmdbaa.P
end
section
namespace Go.Proofs.Ytfmobogdnlmdbaa.P
open Go.RowKit Go.Proofs.YtfmobogdnlmdbaaW.PrintWords Go.Proofs.YtfmobogdnlmdbaaW.PrintLast Go.Proofs.YtfmobogdnlmdbaaW.PrintMore
set_option linter.unusedVariables false
theorem dg_wf {l : List Int} (h : ∀ x ∈ l, (Lit.int .u32 x).wf = true) : Dg WW l := by
  intro x hx
  have h1 := h x hx
  have h2 : IntKind.u32.min = 0 := rfl
  have h3 : IntKind.u32.max = 4294967295 := rfl
  simp only [Lit.wf, Bool.and_eq_true, decide_eq_true_eq, h2, h3] at h1
  rw [WW_eq]
  omega
theorem can_of {l : List Int} (hd : Dg WW l) (hn : Nm l) : Can WW l (vl WW l) := ⟨hd, hn, rfl⟩
theorem small_sp (a b : List Int) (k : Int) (ha : a.length < 4611686018427387904) (hb : b.length < 4611686018427387904) : ∃ t, isochronelaw01_small.f a b k = some t ∧ (t = true ↔ ((a.length : Int) ≤ k ∧ (b.length : Int) ≤ k ∧ a.length ≤ 4096 ∧ b.length ≤ 4096 ∧ Nm a ∧ Nm b)) := by
  obtain ⟨p, h1, _, h2⟩ := valid_sp a ha
  obtain ⟨q, h3, _, h4⟩ := valid_sp b hb
  unfold isochronelaw01_small.f
  by_cases c1 : (a.length : Int) ≤ k
  · by_cases c2 : (b.length : Int) ≤ k
    · rw [if_pos c1, if_pos c2, h1, h3]
      cases p
      · refine ⟨false, rfl, ?_⟩
        simp only [Bool.false_eq_true, false_iff] at h2 ⊢
        exact fun h => h2 ⟨h.2.2.1, h.2.2.2.2.1⟩
      · cases q
        · refine ⟨false, rfl, ?_⟩
          simp only [Bool.false_eq_true, false_iff] at h4 ⊢
          exact fun h => h4 ⟨h.2.2.2.1, h.2.2.2.2.2⟩
        · refine ⟨true, rfl, ?_⟩
          simp only [true_iff] at h2 h4 ⊢
          exact ⟨c1, c2, h2.1, h4.1, h2.2, h4.2⟩
    · refine ⟨false, by rw [if_pos c1, if_neg c2], ?_⟩
      simp only [Bool.false_eq_true, false_iff]
      exact fun h => c2 h.2.1
  · refine ⟨false, by rw [if_neg c1], ?_⟩
    simp only [Bool.false_eq_true, false_iff]
    exact fun h => c1 h.1
theorem limited_sp {a : List Int} (h : a.length ≤ 4096) : nat_limited.f a = some (a, 0) := by
  unfold nat_limited.f
  rw [if_neg (by omega), if_pos (by simp; omega)]
  rfl
end Go.Proofs.Ytfmobogdnlmdbaa.P
end
section
namespace Go.Proofs.Ytfmobogdnlmdbaa.P
open Go.RowKit Go.Proofs.YtfmobogdnlmdbaaW.PrintWords Go.Proofs.YtfmobogdnlmdbaaW.PrintLast Go.Proofs.YtfmobogdnlmdbaaW.PrintMore
set_option linter.unusedVariables false
theorem nat_valid {a : List Int} (hl : a.length ≤ 4096) (hn : Nm a) : nat_Valid.f a = some true := by
  obtain ⟨p, _, h1, h2⟩ := valid_sp a (by omega)
  rw [h1, h2.2 ⟨hl, hn⟩]
end Go.Proofs.Ytfmobogdnlmdbaa.P
end
section
namespace Go.Proofs.Ytfmobogdnlmdbaa.P
open Go.RowKit Go.Proofs.YtfmobogdnlmdbaaW.PrintWords Go.Proofs.YtfmobogdnlmdbaaW.PrintLast Go.Proofs.YtfmobogdnlmdbaaW.PrintMore
set_option linter.unusedVariables false
theorem shl_one {n : Nat} (h : n < 16) : shl .i64 1 (n : Int) = 2 ^ n ∧ (1 : Int) ≤ 2 ^ n ∧ (2 : Int) ^ n ≤ 32768 := by
  have h1 : (1 : Int) ≤ 2 ^ n := by have := two_pos n; omega
  have h2 : (2 : Int) ^ n ≤ 2 ^ 15 := pow_le (by decide) (by omega)
  have h3 : (2 : Int) ^ n ≤ 32768 := h2
  have hm : min n IntKind.i64.bits = n := by
    have : IntKind.i64.bits = 64 := rfl
    omega
  refine ⟨?_, h1, h3⟩
  unfold shl
  rw [Int.toNat_natCast, hm, Int.one_mul, IntKind.wrap_i64]
  omega
theorem r_Two_ev (c : Nat) : ∀ (n m : Nat) (o : List Int), n ≤ c → n + m ≤ 100000 → Can RR o (2 ^ m) → o.length ≤ 2 * m + 1 → ∃ r, Ev (fun k => isochroneref01_Two.l0 k (n : Int) o) r ∧ Can RR r (2 ^ (m + n)) ∧ r.length ≤ 2 * (m + n) + 3 := by
  induction c with
  | zero =>
    intro n m o h1 h2 h3 h4
    have e : n = 0 := by omega
    subst e
    obtain ⟨s1, s2, s3⟩ := shl_one (n := 0) (by omega)
    obtain ⟨r, r1, r2, r3⟩ := r_Small_sp (k0 := 2 ^ 0) (c0 := 0) (by omega) h3 ⟨by omega, by omega⟩ ⟨by omega, by omega⟩
    refine ⟨r, ?_, by rw [Int.pow_add, ← Int.add_zero (2 ^ m * 2 ^ 0)]; exact r2, by omega⟩
    refine Ev.step (fun k => by rw [isochroneref01_Two.l0]) ?_
    rw [s1]
    exact evn (by omega) (evp (by omega) (Ev.bind r1 (evs _)))
  | succ c ih =>
    intro n m o h1 h2 h3 h4
    by_cases c1 : 16 ≤ n
    · obtain ⟨s, s1, s2, s3⟩ := r_Small_sp (k0 := 65536) (c0 := 0) (by omega) h3 ⟨by omega, by omega⟩ ⟨by omega, by omega⟩
      rw [Int.add_zero, show (65536 : Int) = 2 ^ 16 from rfl, ← Int.pow_add] at s2
      obtain ⟨r, r1, r2, r3⟩ := ih (n - 16) (m + 16) s (by omega) (by omega) s2 (by omega)
      rw [show m + 16 + (n - 16) = m + n by omega] at r2
      refine ⟨r, ?_, r2, by omega⟩
      refine Ev.step (fun k => by rw [isochroneref01_Two.l0]) ?_
      rw [w64 (x := (n : Int) - 16) (by omega) (by omega), show (n : Int) - 16 = ((n - 16 : Nat) : Int) by omega]
      exact evp (by omega) (Ev.bind s1 r1)
    · obtain ⟨s1, s2, s3⟩ := shl_one (n := n) (by omega)
      obtain ⟨r, r1, r2, r3⟩ := r_Small_sp (k0 := 2 ^ n) (c0 := 0) (by omega) h3 ⟨by omega, by omega⟩ ⟨by omega, by omega⟩
      refine ⟨r, ?_, by rw [Int.pow_add, ← Int.add_zero (2 ^ m * 2 ^ n)]; exact r2, by omega⟩
      refine Ev.step (fun k => by rw [isochroneref01_Two.l0]) ?_
      rw [s1]
      exact evn (by omega) (evp (by omega) (Ev.bind r1 (evs _)))
theorem r_Two_sp (n : Nat) (h : n ≤ 100000) : ∃ r, Ev (fun k => isochroneref01_Two.f k (n : Int)) r ∧ Can RR r (2 ^ n) ∧ r.length ≤ 2 * n + 3 := by
  obtain ⟨r, r1, r2, r3⟩ := r_Two_ev n n 0 [1] (Nat.le_refl _) (by omega) ⟨Dg.mk (by decide) (by decide) (Dg.nil _), fun h => by simp, by decide⟩ (by simp)
  rw [Nat.zero_add] at r2 r3
  exact ⟨r, by unfold isochroneref01_Two.f; exact r1, r2, r3⟩
def Bt (n : Int) (B : Nat) : Prop := (n = 0 → B = 0) ∧ (n ≠ 0 → 2 ^ (B - 1) ≤ n ∧ n < 2 ^ B ∧ 1 ≤ B)
theorem bt_uniq {n : Int} {B C : Nat} (h : Bt n B) (h' : Bt n C) : B = C := by
  by_cases c : n = 0
  · rw [h.1 c, h'.1 c]
  · obtain ⟨a1, a2, a3⟩ := h.2 c
    obtain ⟨b1, b2, b3⟩ := h'.2 c
    rcases Nat.lt_trichotomy B C with q | q | q
    · have := pow_le (B := 2) (by decide) (show B ≤ C - 1 by omega)
      omega
    · exact q
    · have := pow_le (B := 2) (by decide) (show C ≤ B - 1 by omega)
      omega
theorem r_Bits_l1 (c : Nat) : ∀ (r : Int) (x : Nat), r.toNat ≤ c → 0 ≤ r → r < 4611686018427387904 → x + c < 4611686018427387904 → ∃ L : Nat, Ev (fun k => isochroneref01_Bits.l1 k (x : Int) r) ((x + L : Nat) : Int) ∧ Bt r L := by
  induction c with
  | zero =>
    intro r x h1 h2 h3 h4
    have e : r = 0 := by omega
    subst e
    refine ⟨0, ?_, ⟨fun _ => rfl, fun h => absurd rfl h⟩⟩
    refine Ev.step (fun k => by rw [isochroneref01_Bits.l1]) ?_
    exact evn (by omega) (evs _)
  | succ c ih =>
    intro r x h1 h2 h3 h4
    by_cases c1 : r = 0
    · subst c1
      refine ⟨0, ?_, ⟨fun _ => rfl, fun h => absurd rfl h⟩⟩
      refine Ev.step (fun k => by rw [isochroneref01_Bits.l1]) ?_
      exact evn (by omega) (evs _)
    · obtain ⟨L, l1, l2⟩ := ih (r / 2) (x + 1) (by omega) (by omega) (by omega) (by omega)
      refine ⟨L + 1, ?_, ⟨fun h => absurd h c1, fun _ => ?_⟩⟩
      · refine Ev.step (fun k => by rw [isochroneref01_Bits.l1]) ?_
        rw [wsucc (i := x) (by omega), tdiv_nn h2, w64 (x := r / 2) (by omega) (by omega), show x + (L + 1) = x + 1 + L by omega]
        exact evp (by omega) l1
      · rw [Int.pow_succ, Nat.add_sub_cancel]
        by_cases c2 : r / 2 = 0
        · have e := l2.1 c2
          subst e
          rw [Int.pow_zero]
          omega
        · obtain ⟨a1, a2, a3⟩ := l2.2 c2
          have e : (2 : Int) ^ L = 2 ^ (L - 1) * 2 := by rw [← Int.pow_succ]; congr 1; omega
          omega
theorem r_Bits_l0 (c : Nat) : ∀ (a : List Int) (n : Int) (x : Nat), n.toNat ≤ c → a.length < 68719476736 → Can RR a n → x + 16 * a.length * 4 < 1099511627776 → ∃ B : Nat, Ev (fun k => isochroneref01_Bits.l0 k a (x : Int)) ((x + B : Nat) : Int) ∧ Bt n B := by
  induction c with
  | zero =>
    intro a n x h1 h2 h3 h4
    have n0 := h3.nonneg RR_pos
    have e : n = 0 := by omega
    subst e
    have la := (h3.len_iff RR_pos).2 rfl
    refine ⟨0, ?_, ⟨fun _ => rfl, fun h => absurd rfl h⟩⟩
    refine Ev.step (fun k => by rw [isochroneref01_Bits.l0]) ?_
    exact evn (by omega) (evs _)
  | succ c ih =>
    intro a n x h1 h2 h3 h4
    have n0 := h3.nonneg RR_pos
    by_cases c1 : n = 0
    · subst c1
      have la := (h3.len_iff RR_pos).2 rfl
      refine ⟨0, ?_, ⟨fun _ => rfl, fun h => absurd rfl h⟩⟩
      refine Ev.step (fun k => by rw [isochroneref01_Bits.l0]) ?_
      exact evn (by omega) (evs _)
    · have la : a.length ≠ 0 := fun h => c1 ((h3.len_iff RR_pos).1 h)
      obtain ⟨q, q1, q2, q3⟩ := r_Split_sp h2 h3 (K := 65536) ⟨by omega, by omega⟩
      by_cases c2 : q.length = 0
      · have e := (q2.len_iff RR_pos).1 c2
        have em : n % 65536 = n := by omega
        rw [em] at q1
        obtain ⟨L, l1, l2⟩ := r_Bits_l1 n.toNat n x (Nat.le_refl _) n0 (by omega) (by omega)
        refine ⟨L, ?_, l2⟩
        refine Ev.step (fun k => by rw [isochroneref01_Bits.l0]) ?_
        exact evp (by omega) (Ev.bind q1 (evp (show (q.length : Int) = 0 by omega) l1))
      · have hq : n / 65536 ≠ 0 := fun h => c2 ((q2.len_iff RR_pos).2 h)
        have hlq : q.length + 1 ≤ a.length := by
          have h5 : n / 65536 * 10000 ≤ n := by omega
          have h6 := q2.ge RR_pos c2
          have h7 : RR ^ (q.length - 1) * RR ≤ n / 65536 * 10000 := Int.mul_le_mul_of_nonneg_right h6 (by decide)
          rw [← Int.pow_succ] at h7
          have h8 : RR ^ q.length ≤ n := by
            have : (q.length - 1).succ = q.length := by omega
            rw [this] at h7
            omega
          exact h3.len_ge RR_one h8
        obtain ⟨B, b1, b2⟩ := ih q (n / 65536) (x + 16) (by omega) (by omega) q2 (by omega)
        obtain ⟨a1, a2, a3⟩ := b2.2 hq
        refine ⟨16 + B, ?_, ⟨fun h => absurd h c1, fun _ => ?_⟩⟩
        · refine Ev.step (fun k => by rw [isochroneref01_Bits.l0]) ?_
          rw [w64 (x := (x : Int) + 16) (by omega) (by omega), show (x : Int) + 16 = ((x + 16 : Nat) : Int) by omega, show x + (16 + B) = x + 16 + B by omega]
          exact evp (by omega) (Ev.bind q1 (evn (show ¬ (q.length : Int) = 0 by omega) b1))
        · have := sh_pow (k := 16) (L := B) n0 rfl a2 a1 a3
          exact ⟨this.2, this.1, by omega⟩
theorem r_Bits_sp {a : List Int} {n : Int} (h : a.length < 1073741824) (ha : Can RR a n) : ∃ B : Nat, Ev (fun k => isochroneref01_Bits.f k a) (B : Int) ∧ Bt n B := by
  obtain ⟨B, b1, b2⟩ := r_Bits_l0 _ a n 0 (Nat.le_refl _) (by omega) ha (by omega)
  rw [Nat.zero_add] at b1
  exact ⟨B, by unfold isochroneref01_Bits.f; exact b1, b2⟩
end Go.Proofs.Ytfmobogdnlmdbaa.P
end
section
namespace Go.Proofs.Ytfmobogdnlmdbaa.P
open Go.RowKit Go.Proofs.YtfmobogdnlmdbaaW.PrintWords Go.Proofs.YtfmobogdnlmdbaaW.PrintLast Go.Proofs.YtfmobogdnlmdbaaW.PrintMore
set_option linter.unusedVariables false
theorem r_little_ev {a : List Int} (hl : a.length ≤ 4) (ha : Dg RR a) (d : Nat) : ∀ (i : Nat) (x : Int), i = d → i ≤ a.length → x = vl RR (a.drop i) → Ev (fun k => isochroneref01_little.l0 k a x ((i : Int) - 1)) (vl RR a, true) := by
  have bd : ∀ i : Nat, i ≤ a.length → 0 ≤ vl RR (a.drop i) ∧ vl RR (a.drop i) < 10000000000000000 := by
    intro i hi
    have h1 := vl_lt RR_pos (ha.drop i)
    have h2 := pow_le (B := RR) (by decide) (show (a.drop i).length ≤ 4 by rw [List.length_drop]; omega)
    have h3 : RR ^ 4 = 10000000000000000 := by decide
    exact ⟨vl_nonneg RR_pos (ha.drop i), by omega⟩
  induction d with
  | zero =>
    rintro i x rfl h1 h2
    rw [List.drop_zero] at h2
    subst h2
    refine Ev.step (fun k => by rw [isochroneref01_little.l0]) ?_
    exact evn (by omega) (evs _)
  | succ d ih =>
    rintro i x rfl h1 h2
    have hx := dg_rd ha (d : Int) (by omega) (by omega)
    rw [RR_eq] at hx
    have b1 := bd (d + 1) (by omega)
    have b0 := bd d (by omega)
    have e : x * 10000 + rd a (d : Int) = vl RR (a.drop d) := by
      rw [h2, drop_rd a d (by omega), vl, RR_eq]; omega
    have next := ih d (x * 10000 + rd a (d : Int)) rfl (by omega) e
    refine Ev.step (fun k => by rw [isochroneref01_little.l0]) ?_
    rw [show (((d + 1 : Nat) : Int) - 1) = (d : Int) by omega, w64 (x := x * 10000) (by omega) (by omega), w64 (x := x * 10000 + rd a (d : Int)) (by omega) (by omega), w64 (x := (d : Int) - 1) (by omega) (by omega)]
    exact evp (by omega) (evp (by omega) (evp (by omega) next))
theorem r_little_sp {a : List Int} {n : Int} (hl : a.length < 4611686018427387904) (ha : Can RR a n) : (a.length ≤ 4 → Ev (fun k => isochroneref01_little.f k a) (n, true)) ∧ (4 < a.length → Ev (fun k => isochroneref01_little.f k a) (0, false)) := by
  constructor
  · intro h
    have := r_little_ev h ha.1 a.length a.length 0 rfl (Nat.le_refl _) (by rw [List.drop_length]; rfl)
    rw [ha.2.2] at this
    unfold isochroneref01_little.f
    rw [w64 (x := (a.length : Int) - 1) (by omega) (by omega)]
    exact evn (by omega) this
  · intro h
    unfold isochroneref01_little.f
    exact evp (by omega) (evs _)
theorem digit_l3 {r b : List Int} {x m : Int} (hr : r.length < 34359738368) (hb : b.length < 34359738368) (cr : Can RR r x) (cb : Can RR b m) (hm : 0 < m) (hx : x < m * 10000) (c : Nat) : ∀ q : Int, (10000 - q).toNat ≤ c → 0 ≤ q → q ≤ 9999 → m * q ≤ x → Ev (fun k => isochroneref01_digit.l3 k r b q) (x / m) := by
  have fin : ∀ q : Int, 0 ≤ q → m * q ≤ x → x < m * (q + 1) → x / m = q := by
    intro q h0 h1 h2
    have d1 := Int.mul_ediv_add_emod x m
    have d2 := Int.emod_nonneg x (show m ≠ 0 by omega)
    have d3 := Int.emod_lt_of_pos x hm
    have l1 : m * q < m * (x / m + 1) := by rw [Int.mul_add]; omega
    have l2 : m * (x / m) < m * (q + 1) := by omega
    have l3 := Int.lt_of_mul_lt_mul_left l1 (Int.le_of_lt hm)
    have l4 := Int.lt_of_mul_lt_mul_left l2 (Int.le_of_lt hm)
    omega
  induction c with
  | zero => intro q h1 h2 h3 h4; omega
  | succ c ih =>
    intro q h1 h2 h3 h4
    refine Ev.step (fun k => by rw [isochroneref01_digit.l3]) ?_
    rw [w64 (x := q + 1) (by omega) (by omega)]
    by_cases c1 : q + 1 < 10000
    · obtain ⟨s, s1, s2, s3⟩ := r_Small_sp (k0 := q + 1) (c0 := 0) (by omega) cb ⟨by omega, by omega⟩ ⟨by omega, by omega⟩
      rw [Int.add_zero] at s2
      have k1 := isochroneref01_Cmp_sp (by omega) s2 cr
      by_cases c2 : m * (q + 1) ≤ x
      · refine evp c1 (Ev.bind s1 (Ev.bind k1 (evp ?_ (ih (q + 1) (by omega) (by omega) (by omega) c2))))
        unfold cmpi; split <;> (try split) <;> omega
      · rw [fin q h2 h4 (by omega)]
        refine evp c1 (Ev.bind s1 (Ev.bind k1 (evn ?_ (evs _))))
        unfold cmpi; rw [if_neg (by omega), if_neg (by omega)]; omega
    · have e : q = 9999 := by omega
      subst e
      rw [fin 9999 h2 h4 (by omega)]
      exact evn c1 (evs _)
theorem digit_l2 {r b : List Int} {x m : Int} (hr : r.length < 34359738368) (hb : b.length < 34359738368) (cr : Can RR r x) (cb : Can RR b m) (hm : 0 < m) (hx : x < m * 10000) (c : Nat) : ∀ q : Int, q.toNat ≤ c → 0 ≤ q → q ≤ 9999 → Ev (fun k => isochroneref01_digit.l2 k r b q) (x / m) := by
  have x0 := cr.nonneg RR_pos
  induction c with
  | zero =>
    intro q h1 h2 h3
    have e : q = 0 := by omega
    subst e
    obtain ⟨s, s1, s2, s3⟩ := r_Small_sp (k0 := 0) (c0 := 0) (by omega) cb ⟨by omega, by omega⟩ ⟨by omega, by omega⟩
    rw [Int.add_zero, Int.mul_zero] at s2
    have k1 := isochroneref01_Cmp_sp (by omega) s2 cr
    refine Ev.step (fun k => by rw [isochroneref01_digit.l2]) ?_
    refine Ev.bind s1 (Ev.bind k1 (evn ?_ (digit_l3 hr hb cr cb hm hx _ 0 (Nat.le_refl _) (by omega) (by omega) (by omega))))
    unfold cmpi; split <;> (try split) <;> omega
  | succ c ih =>
    intro q h1 h2 h3
    obtain ⟨s, s1, s2, s3⟩ := r_Small_sp (k0 := q) (c0 := 0) (by omega) cb ⟨by omega, by omega⟩ ⟨by omega, by omega⟩
    rw [Int.add_zero] at s2
    have k1 := isochroneref01_Cmp_sp (by omega) s2 cr
    refine Ev.step (fun k => by rw [isochroneref01_digit.l2]) ?_
    rw [w64 (x := q - 1) (by omega) (by omega)]
    by_cases c2 : m * q ≤ x
    · refine Ev.bind s1 (Ev.bind k1 (evn ?_ (digit_l3 hr hb cr cb hm hx _ q (Nat.le_refl _) h2 h3 c2)))
      unfold cmpi; split <;> (try split) <;> omega
    · have hq : q ≠ 0 := fun h => by rw [h, Int.mul_zero] at c2; omega
      refine Ev.bind s1 (Ev.bind k1 (evp ?_ (ih (q - 1) (by omega) (by omega) (by omega))))
      unfold cmpi; rw [if_neg (by omega), if_neg (by omega)]; omega
end Go.Proofs.Ytfmobogdnlmdbaa.P
end
section
namespace Go.Proofs.Ytfmobogdnlmdbaa.P
open Go.RowKit Go.Proofs.YtfmobogdnlmdbaaW.PrintWords Go.Proofs.YtfmobogdnlmdbaaW.PrintLast Go.Proofs.YtfmobogdnlmdbaaW.PrintMore
set_option linter.unusedVariables false
theorem digit_j2 {r b : List Int} {x m t low : Int} (hr : r.length < 34359738368) (hb : b.length < 34359738368) (cr : Can RR r x) (cb : Can RR b m) (hm : 0 < m) (hx : x < m * 10000) (ht : 0 ≤ t ∧ t < 4611686018427387904) (hl : 0 < low) : Ev (fun k => isochroneref01_digit.j2 k r b t low) (x / m) := by
  have q0 : 0 ≤ t / low := Int.ediv_nonneg ht.1 (by omega)
  have q1 : t / low ≤ t := Int.ediv_le_self _ ht.1
  refine Ev.step (fun k => by rw [isochroneref01_digit.j2]) ?_
  rw [tdiv_nn ht.1, w64 (x := t / low) (by omega) (by omega)]
  refine evn (by omega) (digit_l2 hr hb cr cb hm hx _ _ (Nat.le_refl _) ?_ ?_)
  · unfold mn; split <;> omega
  · unfold mn; split <;> omega
theorem digit_l1 {r b : List Int} {x m t : Int} (hr : r.length < 34359738368) (hb : b.length < 34359738368) (cr : Can RR r x) (cb : Can RR b m) (hm : 0 < m) (hx : x < m * 10000) (ht : 0 ≤ t ∧ t < 4611686018427387904) : Ev (fun k => isochroneref01_digit.l1 k r b (b.length : Int) t 0 ((b.length : Int) - 1)) (x / m) := by
  have lb : b.length ≠ 0 := fun h => by have := (cb.len_iff RR_pos).1 h; omega
  have h1 := dg_rd cb.1 ((b.length : Int) - 1) (by omega) (by omega)
  have z1 := cb.2.1.rd (by omega)
  rw [RR_eq] at h1
  by_cases c : b.length = 1
  · rw [c] at h1 z1
    have e0 : ((1 : Nat) : Int) - 1 = 0 := by omega
    rw [e0] at h1 z1
    have hj := digit_j2 hr hb cr cb hm hx ht (low := rd b 0) (by omega)
    have em : mx 0 (wrap64 (((1 : Nat) : Int) - 2)) = 0 := by rw [w64 (by omega) (by omega)]; unfold mx; split <;> omega
    refine Ev.step (fun k => by rw [isochroneref01_digit.l1]) ?_
    rw [c, em, e0, w64 (x := 0 * 10000) (by omega) (by omega), w64 (x := 0 * 10000 + rd b 0) (by omega) (by omega), w64 (x := 0 - 1) (by omega) (by omega)]
    refine evp (by omega) (evp (by omega) (evp (by omega) ?_))
    refine Ev.step (fun k => by rw [isochroneref01_digit.l1]) ?_
    rw [em]
    exact evn (by omega) (evp (by omega) (evp (by omega) hj))
  · have h2 := dg_rd cb.1 ((b.length : Int) - 2) (by omega) (by omega)
    rw [RR_eq] at h2
    have em : mx 0 (wrap64 ((b.length : Int) - 2)) = (b.length : Int) - 2 := by rw [w64 (by omega) (by omega)]; unfold mx; split <;> omega
    have hj := digit_j2 hr hb cr cb hm hx ht (low := (0 * 10000 + rd b ((b.length : Int) - 1)) * 10000 + rd b ((b.length : Int) - 2)) (by omega)
    refine Ev.step (fun k => by rw [isochroneref01_digit.l1]) ?_
    rw [em, w64 (x := 0 * 10000) (by omega) (by omega), w64 (x := 0 * 10000 + rd b ((b.length : Int) - 1)) (by omega) (by omega), w64 (x := (b.length : Int) - 1 - 1) (by omega) (by omega), show (b.length : Int) - 1 - 1 = (b.length : Int) - 2 by omega]
    refine evp (by omega) (evp (by omega) (evp (by omega) ?_))
    refine Ev.step (fun k => by rw [isochroneref01_digit.l1]) ?_
    rw [em, w64 (x := (0 * 10000 + rd b ((b.length : Int) - 1)) * 10000) (by omega) (by omega), w64 (x := (0 * 10000 + rd b ((b.length : Int) - 1)) * 10000 + rd b ((b.length : Int) - 2)) (by omega) (by omega), w64 (x := (b.length : Int) - 2 - 1) (by omega) (by omega)]
    refine evp (by omega) (evp (by omega) (evp (by omega) ?_))
    refine Ev.step (fun k => by rw [isochroneref01_digit.l1]) ?_
    rw [em]
    exact evn (by omega) (evn (by omega) hj)
theorem digit_l0 {r b : List Int} {x m : Int} (hr : r.length < 34359738368) (hb : b.length < 34359738368) (cr : Can RR r x) (cb : Can RR b m) (hm : 0 < m) (hx : x < m * 10000) (c : Nat) : ∀ (t i : Int), (i + 1 - mx 0 ((b.length : Int) - 2)).toNat = c → -1 ≤ i → i ≤ b.length → 0 ≤ t → t < 10000 ^ (3 - c) → c ≤ 3 → Ev (fun k => isochroneref01_digit.l0 k r b (b.length : Int) t 0 i) (x / m) := by
  have em : wrap64 ((b.length : Int) - 2) = (b.length : Int) - 2 := by rw [w64 (by omega) (by omega)]
  have hlo : 0 ≤ mx 0 ((b.length : Int) - 2) := by unfold mx; split <;> omega
  induction c with
  | zero =>
    intro t i h1 h2 h3 h4 h5 h6
    have := digit_l1 hr hb cr cb hm hx (t := t) ⟨h4, Int.lt_trans h5 (by decide)⟩
    refine Ev.step (fun k => by rw [isochroneref01_digit.l0]) ?_
    rw [em, w64 (x := (b.length : Int) - 1) (by omega) (by omega)]
    exact evn (by omega) this
  | succ c ih =>
    intro t i h1 h2 h3 h4 h5 h6
    have hp : (10000 : Int) ^ (3 - (c + 1)) * 10000 = 10000 ^ (3 - c) := by
      rw [← Int.pow_succ]; congr 1; omega
    have hq : (10000 : Int) ^ (3 - c) ≤ 10000 ^ 3 := pow_le (by decide) (by omega)
    have hq3 : (10000 : Int) ^ 3 = 1000000000000 := by decide
    refine Ev.step (fun k => by rw [isochroneref01_digit.l0]) ?_
    rw [em, w64 (x := t * 10000) (by omega) (by omega), w64 (x := i - 1) (by omega) (by omega)]
    refine evp (by omega) ?_
    by_cases c1 : i < (r.length : Int)
    · have hx' := dg_rd cr.1 i (by omega) (by omega)
      rw [RR_eq] at hx'
      rw [w64 (x := t * 10000 + rd r i) (by omega) (by omega)]
      exact evp c1 (evp (by omega) (ih (t * 10000 + rd r i) (i - 1) (by omega) (by omega) (by omega) (by omega) (by omega) (by omega)))
    · exact evn c1 (ih (t * 10000) (i - 1) (by omega) (by omega) (by omega) (by omega) (by omega) (by omega))
theorem r_digit_sp {r b : List Int} {x m : Int} (hr : r.length < 34359738368) (hb : b.length < 34359738368) (cr : Can RR r x) (cb : Can RR b m) (hm : 0 < m) (hx : x < m * 10000) : Ev (fun k => isochroneref01_digit.f k r b) (x / m) := by
  unfold isochroneref01_digit.f
  have hlo : (((b.length : Int) + 1 - mx 0 ((b.length : Int) - 2)).toNat) ≤ 3 := by unfold mx; split <;> omega
  exact digit_l0 hr hb cr cb hm hx _ 0 _ rfl (by omega) (Int.le_refl _) (by omega) (Int.pow_pos (by decide)) hlo
end Go.Proofs.Ytfmobogdnlmdbaa.P
end
section
namespace Go.Proofs.Ytfmobogdnlmdbaa.P
open Go.RowKit Go.Proofs.YtfmobogdnlmdbaaW.PrintWords Go.Proofs.YtfmobogdnlmdbaaW.PrintLast Go.Proofs.YtfmobogdnlmdbaaW.PrintMore
set_option linter.unusedVariables false
theorem alg_rd {x m q d a R va : Int} (h : x + m * q = va) : (x * R + a - m * d) + m * (d + R * q) = a + R * va := by grind
theorem r_dm_l0 {a b : List Int} {n m : Int} (hn : a.length < 17179869184) (hb : b.length < 17179869184) (ha : Can RR a n) (cb : Can RR b m) (hm : 0 < m) (d : Nat) : ∀ (i : Nat) (q r : List Int) (x : Int), i = d → i ≤ a.length → q.length = a.length → Dg RR (q.drop i) → Can RR r x → x < m → x + m * vl RR (q.drop i) = vl RR (a.drop i) → (∀ j : Nat, j < i → rd q (j : Int) = 0) →
    ∃ q' r', Ev (fun k => isochroneref01_DivMod.l0 k a b q r ((i : Int) - 1)) (q', r') ∧ Can RR q' (n / m) ∧ Can RR r' (n % m) ∧ q'.length ≤ a.length := by
  induction d with
  | zero =>
    rintro i q r x rfl h1 h2 h3 h4 h5 h6 h7
    rw [List.drop_zero, List.drop_zero, ha.2.2] at h6
    rw [List.drop_zero] at h3
    have x0 := h4.nonneg RR_pos
    obtain ⟨t, t1, t2, t3⟩ := r_trim_sp (l := q) (by omega) h3
    have e1 : n / m = vl RR q := by rw [← h6, Int.add_mul_ediv_left _ _ (by omega), Int.ediv_eq_zero_of_lt x0 h5, Int.zero_add]
    have e2 : n % m = x := by rw [← h6, Int.add_mul_emod_self_left, Int.emod_eq_of_lt x0 h5]
    refine ⟨t, r, ?_, by rw [e1]; exact t2, by rw [e2]; exact h4, by omega⟩
    refine Ev.step (fun k => by rw [isochroneref01_DivMod.l0]) ?_
    exact evn (by omega) (Ev.bind t1 (evs _))
  | succ d ih =>
    rintro i q r x rfl h1 h2 h3 h4 h5 h6 h7
    have hx := dg_rd ha.1 (d : Int) (by omega) (by omega)
    rw [RR_eq] at hx
    have x0 := h4.nonneg RR_pos
    have lr := canR_len_le cb h4 (by omega)
    obtain ⟨t, t1, t2, t3⟩ := r_Small_sp (k0 := 10000) (c0 := rd a (d : Int)) (by omega) h4 ⟨by omega, by omega⟩ ⟨hx.1, by omega⟩
    have k1 := isochroneref01_Cmp_sp (by omega) t2 cb
    by_cases c1 : x * 10000 + rd a (d : Int) < m
    · obtain ⟨q', r', e1, e2⟩ := ih d q t (x * 10000 + rd a (d : Int)) rfl (by omega) h2
        (by rw [drop_rd q d (by omega)]; exact Dg.mk (by rw [h7 d (by omega)]; omega) (by rw [h7 d (by omega)]; decide) h3) t2 c1
        (by
          have := alg_rd (R := RR) (a := rd a (d : Int)) (d := 0) h6
          rw [drop_rd q d (by omega), drop_rd a d (by omega), vl, vl, h7 d (by omega)]
          rw [Int.mul_zero, Int.sub_zero] at this
          exact this) (fun j hj => h7 j (by omega))
      refine ⟨q', r', ?_, e2⟩
      refine Ev.step (fun k => by rw [isochroneref01_DivMod.l0]) ?_
      rw [show (((d + 1 : Nat) : Int) - 1) = (d : Int) by omega, w64 (x := (d : Int) - 1) (by omega) (by omega)]
      refine evp (by omega) (evp (by omega) (evp (by omega) (Ev.bind t1 (Ev.bind k1 (evp ?_ e1)))))
      unfold cmpi; rw [if_pos c1]; omega
    · have d1 := Int.mul_ediv_add_emod (x * 10000 + rd a (d : Int)) m
      have d2 := Int.emod_nonneg (x * 10000 + rd a (d : Int)) (show m ≠ 0 by omega)
      have d3 := Int.emod_lt_of_pos (x * 10000 + rd a (d : Int)) hm
      have hg := r_digit_sp (r := t) (b := b) (by omega) (by omega) t2 cb hm (by omega)
      have g0 : 0 ≤ (x * 10000 + rd a (d : Int)) / m := Int.ediv_nonneg (by omega) (by omega)
      have g1 : (x * 10000 + rd a (d : Int)) / m < 10000 := Int.ediv_lt_of_lt_mul hm (by omega)
      generalize hG : (x * 10000 + rd a (d : Int)) / m = g at *
      obtain ⟨s, s1, s2, s3⟩ := r_Small_sp (k0 := g) (c0 := 0) (by omega) cb ⟨by omega, by omega⟩ ⟨by omega, by omega⟩
      rw [Int.add_zero] at s2
      obtain ⟨y, y1, y2, y3⟩ := r_Sub_sp (by omega) t2 s2 (by omega)
      have hs := rd_set_eq q (d : Int) g (by omega)
      rw [Int.toNat_natCast] at hs
      obtain ⟨q', r', e1, e2⟩ := ih d (q.set d g) y (x * 10000 + rd a (d : Int) - m * g) rfl (by omega) (by simpa using h2)
        (by rw [drop_set_self _ _ _ (by omega)]; exact Dg.mk g0 (by rw [RR_eq]; exact g1) h3) y2 (by omega)
        (by
          rw [drop_set_self _ _ _ (by omega), drop_rd a d (by omega), vl, vl]
          exact alg_rd h6)
        (fun j hj => by
          have := rd_set_ne q (d : Int) (j : Int) g (by omega)
          rw [Int.toNat_natCast] at this
          rw [this]
          exact h7 j (by omega))
      refine ⟨q', r', ?_, e2⟩
      refine Ev.step (fun k => by rw [isochroneref01_DivMod.l0]) ?_
      rw [show (((d + 1 : Nat) : Int) - 1) = (d : Int) by omega, w64 (x := (d : Int) - 1) (by omega) (by omega), Int.toNat_natCast]
      refine evp (by omega) (evp (by omega) (evp (by omega) (Ev.bind t1 (Ev.bind k1 (evn ?_ (Ev.bind hg (evp (by omega) (evb rfl ?_))))))))
      · unfold cmpi; rw [if_neg c1]; split <;> omega
      · rw [hs]
        exact Ev.bind s1 (Ev.bind y1 e1)
end Go.Proofs.Ytfmobogdnlmdbaa.P
end
section
namespace Go.Proofs.Ytfmobogdnlmdbaa.P
open Go.RowKit Go.Proofs.YtfmobogdnlmdbaaW.PrintWords Go.Proofs.YtfmobogdnlmdbaaW.PrintLast Go.Proofs.YtfmobogdnlmdbaaW.PrintMore
set_option linter.unusedVariables false
theorem r_Int_wide {a : Int} (h0 : 0 ≤ a) (h1 : a < 100000000000000000) : ∃ r, Ev (fun k => isochroneref01_Int.f k a) r ∧ Can RR r a := by
  by_cases c : a < 10000000000000
  · exact r_Int_sp h0 c
  · obtain ⟨r, h2, h3⟩ := r_Int_ev a (a / 10000).toNat [a % 10000] (a / 10000) (by omega) (by omega) (by simp; omega) (Dg.mk (by omega) (by rw [RR_eq]; omega) (Dg.nil _)) (fun h => by omega) (by
      show a % 10000 + RR * 0 + a / 10000 * RR ^ 1 = a
      rw [RR_eq]; omega)
    refine ⟨r, ?_, h3⟩
    refine Ev.congr (fun k => by rw [isochroneref01_Int.f]) ?_
    refine Ev.step (fun k => by rw [isochroneref01_Int.l0]) ?_
    rw [tmod_nn h0, tdiv_nn h0, w64 (x := a / 10000) (by omega) (by omega)]
    exact evp (by omega) (evp (by simp) h2)
theorem r_DivMod_sp {a b : List Int} {n m : Int} (hn : a.length < 1073741824) (hb : b.length < 1073741824) (ha : Can RR a n) (cb : Can RR b m) (hm : 0 < m) :
    ∃ q r, Ev (fun k => isochroneref01_DivMod.f k a b) (q, r) ∧ Can RR q (n / m) ∧ Can RR r (n % m) ∧ q.length < 1073741824 ∧ r.length < 1073741824 := by
  have n0 := ha.nonneg RR_pos
  have hc := isochroneref01_Cmp_sp (by omega) ha cb
  have r0 := Int.emod_nonneg n (show m ≠ 0 by omega)
  have r1 := Int.emod_lt_of_pos n hm
  have fin : ∀ q r, Can RR q (n / m) → Can RR r (n % m) → q.length < 1073741824 ∧ r.length < 1073741824 := by
    intro q r hq hr
    have l1 := canR_len_le ha hq (Int.ediv_le_self _ n0)
    have l2 := canR_len_le cb hr (by omega)
    omega
  have key : ∃ q r, Ev (fun k => isochroneref01_DivMod.f k a b) (q, r) ∧ Can RR q (n / m) ∧ Can RR r (n % m) := by
    by_cases c1 : n < m
    · refine ⟨[], a, ?_, by rw [Int.ediv_eq_zero_of_lt n0 c1]; exact Can.zero _, by rw [Int.emod_eq_of_lt n0 c1]; exact ha⟩
      unfold isochroneref01_DivMod.f
      refine Ev.bind hc (evp ?_ (evs _))
      unfold cmpi; rw [if_pos c1]; omega
    · have hcm : ¬ cmpi n m < 0 := by unfold cmpi; rw [if_neg c1]; split <;> omega
      have lba := canR_len_le ha cb (by omega)
      obtain ⟨la1, la2⟩ := r_little_sp (by omega) ha
      obtain ⟨lb1, lb2⟩ := r_little_sp (by omega) cb
      by_cases c2 : a.length ≤ 4
      · have hlt := ha.lt RR_pos
        have h4 := pow_le (B := RR) (by decide) c2
        have h5 : RR ^ 4 = 10000000000000000 := by decide
        have q0 : 0 ≤ n / m := Int.ediv_nonneg n0 (by omega)
        have q1 : n / m ≤ n := Int.ediv_le_self _ n0
        obtain ⟨x, x1, x2⟩ := r_Int_wide (a := n / m) q0 (by omega)
        obtain ⟨y, y1, y2⟩ := r_Int_wide (a := n % m) r0 (by omega)
        refine ⟨x, y, ?_, x2, y2⟩
        unfold isochroneref01_DivMod.f
        refine Ev.bind hc (evn hcm (Ev.bind (la1 c2) (evp rfl (Ev.bind (lb1 (by omega)) (evn (show ¬ m = 0 by omega) ?_)))))
        rw [tdiv_nn n0, tmod_nn n0, w64 (x := n / m) (by omega) (by omega)]
        exact Ev.bind x1 (Ev.bind y1 (evs _))
      · by_cases c3 : b.length = 1
        · have hx := dg_rd cb.1 0 (by omega) (by omega)
          rw [RR_eq] at hx
          have em : m = rd b 0 := by
            have e := vl_take RR b 0 (by omega)
            rw [show 0 + 1 = b.length by omega, List.take_length, cb.2.2] at e
            simpa [vl] using e
          obtain ⟨q, q1, q2, q3⟩ := r_Split_sp (by omega) ha (K := m) ⟨by omega, by omega⟩
          obtain ⟨y, y1, y2⟩ := r_Int_wide (a := n % m) r0 (by omega)
          refine ⟨q, y, ?_, q2, y2⟩
          unfold isochroneref01_DivMod.f
          refine Ev.bind hc (evn hcm (Ev.bind (la2 (by omega)) (evn (by simp) (evp (by omega) (evp (by omega) ?_)))))
          rw [← em]
          exact Ev.bind q1 (Ev.bind y1 (evs _))
        · obtain ⟨q, r, e1, e2, e3, e4⟩ := r_dm_l0 (by omega) (by omega) ha cb hm a.length a.length (List.replicate a.length 0) [] 0 rfl (Nat.le_refl _) (by simp) (by rw [List.drop_eq_nil_of_le (by simp)]; exact Dg.nil _) (Can.zero _) hm (by rw [List.drop_eq_nil_of_le (by simp), List.drop_length]; simp [vl]) (fun j hj => by rw [rd_lt _ _ (by simpa using hj)]; simp)
          refine ⟨q, r, ?_, e2, e3⟩
          unfold isochroneref01_DivMod.f
          refine Ev.bind hc (evn hcm (Ev.bind (la2 (by omega)) (evn (by simp) (evn (by omega) (evp (by omega) (evp (by omega) ?_))))))
          rw [w64 (x := (a.length : Int) - 1) (by omega) (by omega), Int.toNat_natCast]
          exact e1
  obtain ⟨q, r, e1, e2, e3⟩ := key
  exact ⟨q, r, e1, e2, e3, fin q r e2 e3⟩
end Go.Proofs.Ytfmobogdnlmdbaa.P
end
section
namespace Go.Proofs.Ytfmobogdnlmdbaa.P
open Go.RowKit Go.Proofs.YtfmobogdnlmdbaaW.PrintWords Go.Proofs.YtfmobogdnlmdbaaW.PrintLast Go.Proofs.YtfmobogdnlmdbaaW.PrintMore
set_option linter.unusedVariables false
theorem limited_any2 (z : List Int) : ∃ R, nat_limited.f z = some R ∧ (z.length ≤ 4096 → R = (z, 0)) ∧ (4096 < z.length → R = ([], 2)) := by
  by_cases c : z.length ≤ 4096
  · exact ⟨_, limited_sp c, fun _ => rfl, fun h => by omega⟩
  · refine ⟨([], 2), ?_, fun h => absurd h c, fun _ => rfl⟩
    unfold nat_limited.f
    rw [if_pos (by omega)]
theorem nat_Shift_sp {a : List Int} {v N : Int} (hl : a.length ≤ 4096) (ha : Can WW a v) : ∃ R, Ev (fun k => nat_Shift.f k a N) R ∧ ((N < -200000 ∨ 200000 < N) → R = ([], 1)) ∧
    (-200000 ≤ N → N < 0 → ∃ z, Can WW z (v / 2 ^ (-N).toNat) ∧ z.length ≤ a.length ∧ R = (z, 0)) ∧
    (0 ≤ N → N ≤ 200000 → ∃ z, Can WW z (v * 2 ^ N.toNat) ∧ z.length ≤ a.length + N.toNat / 32 + 1 ∧ (z.length ≤ 4096 → R = (z, 0)) ∧ (4096 < z.length → R = ([], 2))) := by
  have hval := nat_valid hl ha.2.1
  have start : ∀ R, Ev (fun k => nat_Shift.j0 k a N (decide (N < -200000 ∨ 200000 < N))) R → Ev (fun k => nat_Shift.f k a N) R := by
    intro R h
    unfold nat_Shift.f
    refine evb hval (evp rfl ?_)
    by_cases c1 : N < -200000
    · have e : decide (N < -200000 ∨ 200000 < N) = true := decide_eq_true (.inl c1)
      rw [e] at h
      exact evp c1 h
    · have e : decide (N < -200000 ∨ 200000 < N) = decide (N > 200000) := by
        congr 1
        exact propext ⟨fun h => h.resolve_left c1, .inr⟩
      rw [e] at h
      exact evn c1 h
  by_cases c1 : N < -200000 ∨ 200000 < N
  · refine ⟨([], 1), start _ ?_, fun _ => rfl, fun h1 h2 => by omega, fun h1 h2 => by omega⟩
    rw [decide_eq_true c1]
    refine Ev.step (fun k => by rw [nat_Shift.j0]) ?_
    exact evp rfl (evs _)
  · rw [decide_eq_false c1] at start
    by_cases c2 : N < 0
    · obtain ⟨z, z1, z2, z3⟩ := mag_Shr_sp (-N).toNat (by omega) (by omega) ha
      refine ⟨(z, 0), start _ ?_, fun h => absurd h c1, fun _ _ => ⟨z, z2, z3, rfl⟩, fun h => by omega⟩
      refine Ev.step (fun k => by rw [nat_Shift.j0]) ?_
      rw [w64 (x := -N) (by omega) (by omega), show -N = (((-N).toNat : Nat) : Int) by omega]
      exact evn (by simp) (evp c2 (Ev.bind z1 (evb (limited_sp (by omega)) (evs _))))
    · obtain ⟨z, z1, z2, z3⟩ := mag_Shl_sp N.toNat (by omega) ha
      obtain ⟨R, hR, R1, R2⟩ := limited_any2 z
      refine ⟨R, start _ ?_, fun h => absurd h c1, fun _ h => by omega, fun _ _ => ⟨z, z2, z3, R1, R2⟩⟩
      rw [show ((N.toNat : Nat) : Int) = N by omega] at z1
      refine Ev.step (fun k => by rw [nat_Shift.j0]) ?_
      exact evn (by simp) (evn c2 (Ev.bind z1 (evb hR (evs _))))
theorem nat_Bits_sp {a : List Int} {v : Int} (hl : a.length ≤ 4096) (ha : Can WW a v) : ∃ b : Nat, nat_Bits.f a = some ((b : Int), 0) ∧ Bt v b := by
  obtain ⟨b, b1, b2, b3, b4⟩ := mag_Bits_sp (by omega) ha
  refine ⟨b, ?_, ⟨fun h => b3 ((ha.len_iff WW_pos).2 h), fun h => by obtain ⟨c1, c2, c3, c4⟩ := b4 h; exact ⟨c1, c2, c3⟩⟩⟩
  unfold nat_Bits.f
  rw [nat_valid hl ha.2.1, Option.bind_some, if_pos rfl, b1, Option.bind_some]
theorem shifts_j3 {a s x : List Int} {v N e : Int} (hl : a.length ≤ 40) (ha : Can WW a v) (hx : Can RR x v) (hxl : x.length ≤ 160) (hN : -200000 ≤ N ∧ N ≤ 200000) (hs : (0 ≤ N → N ≤ 100000 → Can WW s (v * 2 ^ N.toNat) ∧ s.length ≤ 4096 ∧ e = 0) ∧ (N < 0 → Can WW s (v / 2 ^ (-N).toNat) ∧ s.length ≤ 4096 ∧ e = 0)) :
    Ev (fun k => isochronelaw01_NatShifts.j3 k N s e x (decide (N < -2000 ∨ N > 2000))) true := by
  refine Ev.step (fun k => by rw [isochronelaw01_NatShifts.j3]) ?_
  by_cases c1 : N < -2000 ∨ N > 2000
  · rw [decide_eq_true c1]
    refine evp rfl ?_
    by_cases c2 : e = 0
    · exact evp c2 (evs _)
    · refine evn c2 ?_
      have : N > 100000 := by
        rcases Int.lt_or_le 100000 N with q | q
        · exact q
        · exfalso
          rcases Int.lt_or_le N 0 with q2 | q2
          · exact c2 (hs.2 q2).2.2
          · exact c2 (hs.1 q2 q).2.2
      rw [decide_eq_true this]
      exact evs _
  · rw [decide_eq_false c1]
    refine evn (by simp) ?_
    by_cases c2 : N ≥ 0
    · obtain ⟨h1, h2, rfl⟩ := hs.1 c2 (by omega)
      obtain ⟨t, t1, t2, t3⟩ := r_Two_sp N.toNat (by omega)
      rw [show ((N.toNat : Nat) : Int) = N by omega] at t1
      obtain ⟨p, p1, p2, p3⟩ := r_Mul_sp (by omega) hx t2
      exact evp c2 (evp rfl (Ev.bind t1 (Ev.bind p1 (Ev.bind (is_sp (by omega) (by omega) h1 p2) (evs _)))))
    · obtain ⟨h1, h2, rfl⟩ := hs.2 (by omega)
      obtain ⟨t, t1, t2, t3⟩ := r_Two_sp (-N).toNat (by omega)
      rw [show (((-N).toNat : Nat) : Int) = -N by omega] at t1
      obtain ⟨q, r, q1, q2, q3, q4, q5⟩ := r_DivMod_sp (by omega) (by omega) hx t2 (two_pos _)
      rw [w64 (x := -N) (by omega) (by omega)]
      exact evn c2 (Ev.bind t1 (Ev.bind q1 (evp rfl (Ev.bind (is_sp q4 (by omega) h1 q2) (evs _)))))
theorem NatShifts : isochronelaw01_NatShifts.Pure := by
  intro a N ha1 ha2 ha3 hN
  refine Ev.rounds ?_
  unfold isochronelaw01_NatShifts.f
  refine Ev.bind awake_ok (evp rfl ?_)
  obtain ⟨t, ht, hti⟩ := small_sp a [] 40 (by omega) (by simp)
  refine evb ht ?_
  cases t with
  | false => exact evn (by simp) (evs _)
  | true =>
    obtain ⟨c1, c2, c3, c4, na, nb⟩ := hti.1 rfl
    refine evp rfl ?_
    have ca := can_of (dg_wf ha3) na
    generalize hv : vl WW a = v at ca
    have v0 := ca.nonneg WW_pos
    obtain ⟨R, r1, r2, r3, r4⟩ := nat_Shift_sp (N := N) c3 ca
    refine Ev.bind r1 ?_
    have start : ∀ b : Bool, b = decide (N < -200000 ∨ 200000 < N) → Ev (fun k => isochronelaw01_NatShifts.j0 k a N R.1 R.2 b) true := by
      intro b hb
      subst hb
      refine Ev.step (fun k => by rw [isochronelaw01_NatShifts.j0]) ?_
      by_cases d1 : N < -200000 ∨ 200000 < N
      · rw [decide_eq_true d1, r2 d1]
        refine evp rfl (evp rfl ?_)
        exact evs _
      · rw [decide_eq_false d1]
        obtain ⟨b, b1, b2⟩ := nat_Bits_sp c3 ca
        obtain ⟨x, x1, x2, x3⟩ := r_Of_sp (by omega) ca
        obtain ⟨B, B1, B2⟩ := r_Bits_sp (by omega) x2
        have eb := bt_uniq b2 B2
        subst eb
        refine evn (by simp) (evb b1 (Ev.bind x1 (evp rfl (Ev.bind B1 ?_))))
        have hne : ((b : Int) != (b : Int)) = false := by simp
        simp only [hne]
        refine Ev.step (fun k => by rw [isochronelaw01_NatShifts.j1]) ?_
        refine evn (by simp) ?_
        have j2 : ∀ f : Bool, (f = true → R = ([], 2)) → (f = false → v = 0 ∨ N ≤ 131072) → Ev (fun k => isochronelaw01_NatShifts.j2 k N R.1 R.2 x f) true := by
          intro f f1 f2
          refine Ev.step (fun k => by rw [isochronelaw01_NatShifts.j2]) ?_
          cases f with
          | true =>
            rw [f1 rfl]
            refine evp rfl (evp rfl ?_)
            exact evs _
          | false =>
            refine evn (by simp) ?_
            have hj := shifts_j3 (a := a) (s := R.1) (x := x) (v := v) (N := N) (e := R.2) (by omega) ca x2 (by omega) (by omega)
              ⟨fun g1 g2 => by
                obtain ⟨z, z1, z2, z3, z4⟩ := r4 g1 (by omega)
                have := z3 (by omega)
                rw [this]
                exact ⟨z1, by show z.length ≤ 4096; omega, rfl⟩,
               fun g1 => by
                obtain ⟨z, z1, z2, z3⟩ := r3 (by omega) g1
                rw [z3]
                exact ⟨z1, by show z.length ≤ 4096; omega, rfl⟩⟩
            by_cases g : N < -2000
            · rw [decide_eq_true (.inl g)] at hj
              exact evp g hj
            · have e : decide (N < -2000 ∨ N > 2000) = decide (N > 2000) := by
                congr 1
                exact propext ⟨fun h => h.resolve_left g, .inr⟩
              rw [e] at hj
              exact evn g hj
        by_cases l : a.length = 0
        · exact evn (by omega) (j2 false (fun h => by simp at h) (fun _ => .inl ((ca.len_iff WW_pos).1 l)))
        · refine evp (by omega) (j2 _ (fun h => ?_) (fun h => .inr (by have := of_decide_eq_false h; omega)))
          have hbig := of_decide_eq_true h
          obtain ⟨z, z1, z2, z3, z4⟩ := r4 (by omega) (by omega)
          refine z4 ?_
          have hv1 : 1 ≤ v := by
            have : v ≠ 0 := fun h => l ((ca.len_iff WW_pos).2 h)
            omega
          have h1 : (1 : Int) * 2 ^ N.toNat ≤ v * 2 ^ N.toNat := Int.mul_le_mul_of_nonneg_right hv1 (Int.le_of_lt (two_pos _))
          have h2 : WW ^ 4096 ≤ 2 ^ N.toNat := by
            rw [WW_pow]
            exact pow_le (by decide) (by omega)
          exact z1.len_ge WW_one (k := 4096) (by omega)
    by_cases d1 : N < -200000
    · exact evp d1 (start true (decide_eq_true (.inl d1)).symm)
    · refine evn d1 (start _ ?_)
      congr 1
      exact propext ⟨.inr, fun h => h.resolve_left d1⟩
end Go.Proofs.Ytfmobogdnlmdbaa.P
namespace Go.Proofs.Ytfmobogdnlmdbaa.Pure
theorem NatShifts : P.isochronelaw01_NatShifts.Pure := P.NatShifts
end Go.Proofs.Ytfmobogdnlmdbaa.Pure
end
section
namespace Go.Proofs.YtfmobogdnlmdbaaW.PrintWords
open Go.ChangeShapes Go.WideShapes
theorem sized_ints {H : Type} {enc : TypeId × Value → H} {P : Program} {W : World} {base : Nat} {spare : Nat → Bool} {held : Bool} {t e : TypeId} {k : IntKind} {a : Option Addr} {len cap : Nat} {d : DataW H} {ps : List MemPlace} {ts : List TypeId} {ds : List (DataW H)} {j : Nat}
    (hsz : (DataW.weightsEach P ts ds).all (· ≤ reachBytes) = true) (ht : ts[j]? = some t) (hd : ds[j]? = some d) (hu : P.underlying t = some (.slice e)) (he : P.underlying e = some (.int k)) (hc : P.cellsOf e = 1) {B : Nat} (hB : P.bytesOf e = B)
    (h : DataW.Trod enc P W base spare held t (.slice a len cap) d ps) : len * B ≤ 140737488351232 := by
  obtain ⟨fuel, hf⟩ := h
  rcases open_ints hu he hc hf with ⟨hcs, _⟩ | ⟨x, l, c, zs, hcs, _, hl, _, hz, hx, _, _⟩
  · simp [Value.cells] at hcs
    obtain ⟨rfl, rfl, rfl⟩ := hcs
    simp
  · simp [Value.cells] at hcs
    obtain ⟨rfl, rfl, rfl⟩ := hcs
    obtain ⟨hx, _⟩ := Prod.mk.inj hx
    subst hx
    have z := sized_slice hsz ht hd hu
    rw [hB] at z
    have hl2 : len ≤ zs.length := by
      rw [hz]
      split
      · exact hl
      · exact Nat.le_refl _
    have h1 : (lits (H := H) k (zs.take len)).length + (lits (H := H) k (zs.drop len)).length = zs.length := by
      simp [lits]
      omega
    rw [h1] at z
    exact Nat.le_trans (Nat.mul_le_mul_right _ hl2) z
end Go.Proofs.YtfmobogdnlmdbaaW.PrintWords
end
section
namespace Go.Proofs.Ytfmobogdnlmdbaa.natShifts
open Go.ChangeShapes Go.WideShapes Go.ChangeAt Go.RowKit
open Go.ChangeMaps (open_string shut_string)
set_option linter.unusedVariables false
theorem own : ownKnob Try.prog.godebug = none := by kernel_rfl
theorem laidOut : laidOutB Try.prog = true := by kernel_rfl
def IsRow (k : IntKind) (w : World) (a : Option Addr) (len cap : Nat) (zs : List Int) : Prop :=
  (a = none ∧ len = 0 ∧ cap = 0 ∧ zs = []) ∨
  ∃ x, a = some x ∧ len ≤ cap ∧ cap ≤ maxLen ∧ zs.length = cap ∧ (∀ i, i < zs.length → w.cell? (x.add i) = some (.int k (zs.getD i 0))) ∧ ∀ n ∈ zs, (Lit.int k n).wf = true
set_option maxRecDepth 100000 in
theorem lifted (os : Os) (started : os.Started) (H : Type) (enc : TypeId × Value → H) :
    ReturnsInHanded {} Try.checked os 5 .any (Rows.natShiftsSpec.pre6 enc Try.prog Try.f5 Rows.natShiftsRow.domain false) (Rows.natShiftsSpec.post enc Try.prog Try.f5 false true false false) := by
  refine returnsInHanded_of_change_sized (C := Try.checked) own started (by kernel_rfl) Try.func5
    (ChangeSpec.witness6 (enc := enc) (C := Try.checked) false ⟨#[], #[.slice none 0 0, .int .i64 0], []⟩ 8 (by kernel_rfl) (by kernel_rfl) (by kernel_rfl) (by kernel_rfl)) ?_
  intro W base args ds gs before hval0 hW hcnd hsz0 _
  have hsz : (DataW.weightsEach Try.prog (Try.f5.params.toList ++ Rows.natShiftsSpec.plain.varTypes Try.prog) (ds ++ gs)).all (· ≤ reachBytes) = true := hsz0
  have hval : ∀ (j : Nat) t v, Try.f5.params[j]? = some t → args[j]? = some v → Value.okWide Try.prog W .any base t v := hval0
  have hW' := hW
  obtain ⟨p, q, hA0, hV, rfl, hfz, hnd⟩ := hW
  have hA : DataW.TrodAll enc Try.prog W 0 (fun _ => true) true Try.f5.params.toList args.toList ds p := hA0
  rw [Try.params5] at hA hval hsz
  obtain ⟨v0, vs0, d0, ds0, p0, q0, hargs, rfl, rfl, h0, r0⟩ := trodAll_cons hA
  obtain ⟨v1, vs1, d1, ds1, p1, q1, rfl, rfl, rfl, h1, r1⟩ := trodAll_cons r0
  obtain ⟨rfl, rfl, rfl⟩ := trodAll_nil r1
  obtain rfl : args = #[v0, v1] := by cases args; simp_all
  obtain ⟨rfl, rfl⟩ := trodVars_none hV
  obtain ⟨a0, len0, cap0, rfl⟩ := okWide_slice Try.underlying22 (hval 0 22 v0 rfl rfl)
  have k0 := h0
  have lt0 : ∀ x ∈ p0, x.block < W.heap.size := by obtain ⟨m, hm⟩ := k0; exact DataW.trod_lt m _ _ _ hm
  obtain ⟨z0, w0⟩ : ∃ zs, IsRow .u32 W a0 len0 cap0 zs := by
    obtain ⟨fuel, hf⟩ := h0
    rcases open_ints Try.underlying22 Try.underlying36 (by kernel_rfl) hf with ⟨hcs, _⟩ | ⟨x, l, c, zs, hcs, _, hl, hm, hz, _, hcell, hwz⟩
    · simp [Value.cells] at hcs
      obtain ⟨rfl, rfl, rfl⟩ := hcs
      exact ⟨[], .inl ⟨rfl, rfl, rfl, rfl⟩⟩
    · simp [Value.cells] at hcs
      obtain ⟨rfl, rfl, rfl⟩ := hcs
      exact ⟨zs, .inr ⟨_, rfl, hl, hm, by simpa using hz, hcell, hwz⟩⟩
  have y0 : len0 * 4 ≤ 140737488351232 := Go.Proofs.YtfmobogdnlmdbaaW.PrintWords.sized_ints hsz (j := 0) (t := 22) rfl rfl Try.underlying22 Try.underlying36 (by kernel_rfl) (by kernel_rfl) h0
  obtain ⟨a1, rfl, rfl, rfl, w1⟩ := open_int Try.underlying3 (hval 1 3 v1 rfl rfl) h1
  clear hA0 hval0 hsz0 hsz
  refine (P.isochronelaw01_NatShifts.walk Pure.NatShifts a0 len0 cap0 z0 a1 W w0 y0 w1).mono fun e W' ⟨he, bel⟩ => ?_
  subst he
  exact ⟨_, rfl, _, _, _, [], _, [], hW', trodAll_mk1 (shut_bool Try.underlying4 _), (trodAll_cons_mk (Below.trod laidOut (by kernel_rfl) (of_decide_eq_true (by kernel_rfl)) k0 bel lt0) (trodAll_cons_mk (shut_int Try.underlying3 w1) trodAll_mk0)), rfl, bel.frame _, fun h => by cases h⟩
theorem over : Rows.natShiftsRow.holds Try.pinned (OpenSpec.ofChange Rows.natShiftsSpec) :=
  OpenClaim.holds_of_wide 5 Try.f5 rfl rfl rfl rfl rfl rfl rfl ⟨rfl, rfl, rfl, rfl, rfl⟩ rfl rfl rfl rfl rfl (by kernel_rfl) Try.func5 (by kernel_rfl)
    (of_decide_eq_true (by kernel_rfl)) (by unfold Func.isWrapper; first | (rw [if_pos (by decide +kernel)]; kernel_rfl) | (rw [if_neg (by decide +kernel)]; exact ⟨rfl, rfl⟩))
    (fun os started H enc _ => lifted os started H enc)
theorem proved : Rows.NatShiftsSaid := over
#print axioms proved
end Go.Proofs.Ytfmobogdnlmdbaa.natShifts
namespace Go.Proofs.Ytfmobogdnlmdbaa
theorem natShifts_holds : Rows.NatShiftsSaid := natShifts.proved
end Go.Proofs.Ytfmobogdnlmdbaa
end
