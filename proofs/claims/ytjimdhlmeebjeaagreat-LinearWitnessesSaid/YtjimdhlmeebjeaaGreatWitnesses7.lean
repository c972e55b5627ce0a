/- Holds and Refutes of package linear accept exactly the points that satisfy a system and its refutations, and refuse lists of other lengths (the last of 7 texts). No condition beyond the statement's own. -/
import Derived.SizedLaws
import Derived.ChangeSlices
import Derived.Test.YtjimdhlmeebjeaaGreatRows
import Derived.WalkKit
import Derived.ProofKit
import Derived.OpenShut
import Derived.ShutString
import Derived.ChangeOld
import Derived.Below
import Derived.KernelRfl
import Derived.Test.YtjimdhlmeebjeaaGreatWitnesses6
set_option linter.unusedSimpArgs false
set_option linter.unusedSectionVars false
section
namespace Go.Proofs.YtjimdhlmeebjeaaGreat.Q
open Go.RowKit Go.Proofs.YtjimdhlmeebjeaaGreatW.PrintWords Go.Proofs.YtjimdhlmeebjeaaGreatW.PrintMore Go.Proofs.YtjimdhlmeebjeaaGreat.V Go.Proofs.YtjimdhlmeebjeaaGreat.E
open Go.Proofs.YtjimdhlmeebjeaaGreat.P (Dg Nm vl WW RR can_uniq gI evs evk evb cmpi WW_pos WW_one RR_pos w64 u64)
set_option linter.unusedVariables false
theorem walk_all {β : Type} {E : Nat → β → Prop} {n : Nat} {t : Nat → Prop} {fin : β} (hg : ∀ i, i < n → t i → ∀ r, E (i + 1) r → E i r) (he : E n fin) (h : ∀ i, i < n → t i) : E 0 fin := by
  have key : ∀ d i, n - i = d → i ≤ n → E i fin := by
    intro d
    induction d with
    | zero => intro i hd hi; have : i = n := by omega
              subst this; exact he
    | succ d ih => intro i hd hi; exact hg i (by omega) (h i (by omega)) _ (ih (i + 1) (by omega) (by omega))
  exact key n 0 (by omega) (by omega)
theorem walk_bad {β : Type} {E : Nat → β → Prop} {n : Nat} {t : Nat → Prop} {bad : β} (hb : ∀ i, i < n → ¬ t i → E i bad) (hg : ∀ i, i < n → t i → ∀ r, E (i + 1) r → E i r) (h : ∃ i, i < n ∧ ¬ t i) : E 0 bad := by
  obtain ⟨j, hj, hn⟩ := h
  have key : ∀ d i, j - i = d → i ≤ j → E i bad := by
    intro d
    induction d with
    | zero => intro i hd hi; have : i = j := by omega
              subst this; exact hb i hj hn
    | succ d ih =>
      intro i hd hi
      by_cases ht : t i
      · exact hg i (by omega) ht _ (ih (i + 1) (by omega) (by omega))
      · exact hb i (by omega) ht
  exact key j 0 (by omega) (by omega)
def OkL (n : Int) (x : LineD) : Prop := ((x.1.length : Int) = n ∧ 0 ≤ x.2.1 ∧ x.2.1 ≤ 2 ∧ VN 20 x.2.2.1) ∧ ∀ c ∈ x.1, VN 20 c
def OkS (n : Int) (l : List LineD) : Prop := (0 ≤ n ∧ n ≤ 8 ∧ l.length ≤ 40) ∧ ∀ x ∈ l, OkL n x
def ArgL (x : LineD) : Prop := Args x.1 ∧ Arg x.2.2.1
def ArgS (l : List LineD) : Prop := l.length ≤ 9223372036854775807 ∧ ∀ x ∈ l, ArgL x
noncomputable def ifc {α : Type} (p : Prop) (x y : α) : α := @ite α p (Classical.propDecidable p) x y
theorem ifc_t {α : Type} {p : Prop} {x y : α} (h : p) : ifc p x y = x := @if_pos p (Classical.propDecidable p) h α x y
theorem ifc_f {α : Type} {p : Prop} {x y : α} (h : ¬ p) : ifc p x y = y := @if_neg p (Classical.propDecidable p) h α x y
theorem all_get {α : Type} {l : List α} {P : α → Prop} : (∀ x ∈ l, P x) ↔ ∀ i, i < l.length → ∀ h : i < l.length, P l[i] := ⟨fun h i _ hi => h _ (List.getElem_mem hi), fun h x hx => by obtain ⟨i, hi, rfl⟩ := List.getElem_of_mem hx; exact h i hi hi⟩
theorem not_get {α : Type} {l : List α} {P : α → Prop} (h : ¬ ∀ x ∈ l, P x) : ∃ i, i < l.length ∧ ¬ ∀ h : i < l.length, P l[i] := by
  rw [all_get] at h
  exact Classical.byContradiction (fun hc => h (fun i hi => Classical.byContradiction (fun hn => hc ⟨i, hi, hn⟩)))
theorem Check_ev {n : Int} {l : List LineD} (ha : ArgS l) : Ev (fun k => linear_Check k n l) (ifc (OkS n l) (0 : Int) (3 : Int)) := by
  have hin : ∀ (i : Nat) (hi : i < l.length) (j : Nat) (hj : j < l[i].1.length), Ev (fun k => num_Valid k (rdT (t := c_api_Rat) l[i].1 (j : Int) : RatD) (20 : Int)) (dc (VN 20 l[i].1[j])) := by
    intro i hi j hj
    rw [rd_get hj]
    exact num_Valid_ev 20 (by decide) ((ha.2 _ (List.getElem_mem hi)).1.2 _ (List.getElem_mem hj))
  have inner : ∀ (i : Nat) (hi : i < l.length) (j : Nat), j < l[i].1.length → (∀ h : j < l[i].1.length, VN 20 l[i].1[j]) → ∀ r, Ev3 (fun k m1 m0 => linear_Check.l1 k m1 m0 n l (l.length : Int) (i : Int) l[i].1 (l[i].1.length : Int) ((j + 1 : Nat) : Int)) r → Ev3 (fun k m1 m0 => linear_Check.l1 k m1 m0 n l (l.length : Int) (i : Int) l[i].1 (l[i].1.length : Int) (j : Int)) r := by
    intro i hi j hj ht r hr
    refine Ev3.step (fun k m1 m0 => linear_Check.l1_succ k m1 m0 _ _ _ _ _ _ _) (Ev3.bT (decide_eq_true (by omega)) (Ev3.iT (by omega) (Ev3.bind (a := true) ?_ (Ev3.bF rfl ?_))))
    · rw [← dc_true (ht hj)]; exact hin i hi j hj
    · rw [inc1 (Nat.lt_of_lt_of_le hj (ha.2 _ (List.getElem_mem hi)).1.1)]; exact hr
  have innerbad : ∀ (i : Nat) (hi : i < l.length), (¬ ∀ c ∈ l[i].1, VN 20 c) → Ev3 (fun k m1 m0 => linear_Check.l1 k m1 m0 n l (l.length : Int) (i : Int) l[i].1 (l[i].1.length : Int) ((0 : Nat) : Int)) (3 : Int) := by
    intro i hi hn
    refine walk_bad (E := fun j r => Ev3 (fun k m1 m0 => linear_Check.l1 k m1 m0 n l (l.length : Int) (i : Int) l[i].1 (l[i].1.length : Int) (j : Int)) r) (t := fun j => ∀ h : j < l[i].1.length, VN 20 l[i].1[j]) (fun j hj ht => ?_) (inner i hi) (not_get hn)
    have hv : ¬ VN 20 l[i].1[j] := fun h => ht (fun _ => h)
    refine Ev3.step (fun k m1 m0 => linear_Check.l1_succ k m1 m0 _ _ _ _ _ _ _) (Ev3.bT (decide_eq_true (by omega)) (Ev3.iT (by omega) (Ev3.bind (a := false) ?_ (Ev3.bT rfl (Ev3.of (Ev2.of (evs _)))))))
    rw [← dc_false hv]; exact hin i hi j hj
  have innerall : ∀ (i : Nat) (hi : i < l.length), (∀ c ∈ l[i].1, VN 20 c) → ∀ r, Ev2 (fun k m => linear_Check.l0 k m n l (l.length : Int) ((i + 1 : Nat) : Int)) r → Ev3 (fun k m1 m0 => linear_Check.l1 k m1 m0 n l (l.length : Int) (i : Int) l[i].1 (l[i].1.length : Int) ((0 : Nat) : Int)) r := by
    intro i hi hall r hr
    refine walk_all (E := fun j r => Ev3 (fun k m1 m0 => linear_Check.l1 k m1 m0 n l (l.length : Int) (i : Int) l[i].1 (l[i].1.length : Int) (j : Int)) r) (t := fun j => ∀ h : j < l[i].1.length, VN 20 l[i].1[j]) (inner i hi) ?_ (fun j hj => (all_get.1 hall) j hj)
    refine Ev3.step (fun k m1 m0 => linear_Check.l1_succ k m1 m0 _ _ _ _ _ _ _) (Ev3.bF (decide_eq_false (by omega)) (Ev3.of ?_))
    rw [inc1 (Nat.lt_of_lt_of_le hi ha.1)]
    exact hr
  have head : ∀ (i : Nat) (hi : i < l.length) (r : Int), ((((l[i].1.length : Int) = n ∧ 0 ≤ l[i].2.1 ∧ l[i].2.1 ≤ 2 ∧ VN 20 l[i].2.2.1) → Ev3 (fun k m1 m0 => linear_Check.l1 k m1 m0 n l (l.length : Int) (i : Int) l[i].1 (l[i].1.length : Int) ((0 : Nat) : Int)) r) ∧ ((¬ ((l[i].1.length : Int) = n ∧ 0 ≤ l[i].2.1 ∧ l[i].2.1 ≤ 2 ∧ VN 20 l[i].2.2.1)) → r = (3 : Int))) → Ev2 (fun k m => linear_Check.l0 k m n l (l.length : Int) (i : Int)) r := by
    intro i hi r ⟨h1, h2⟩
    have hc : Ev (fun k => num_Valid k (rdT (t := c_api_Line) l (i : Int) : LineD).2.2.1 (20 : Int)) (dc (VN 20 l[i].2.2.1)) := by
      rw [rd_get hi]
      exact num_Valid_ev 20 (by decide) (ha.2 _ (List.getElem_mem hi)).2
    refine Ev2.step (fun k m => linear_Check.l0_succ k m _ _ _ _) (Ev2.bT (decide_eq_true (by omega)) (Ev2.iT (by omega) ?_))
    by_cases c1 : (l[i].1.length : Int) = n
    · by_cases c2 : 0 ≤ l[i].2.1
      · by_cases c3 : l[i].2.1 ≤ 2
        · refine Ev2.bind (a := false) (bF (by rw [rd_get hi]; simp [c1]) (by rw [rd_get hi, decide_eq_false (Int.not_lt.2 c2)]; exact evs _)) (Ev2.bind (a := false) (bF rfl (by rw [rd_get hi, decide_eq_false (Int.not_lt.2 c3)]; exact evs _)) ?_)
          by_cases c4 : VN 20 l[i].2.2.1
          · rw [dc_true c4] at hc
            refine Ev2.bind (a := false) (bF rfl (Ev.bind hc (evs _))) (Ev2.bF rfl ?_)
            rw [rd_get hi]
            exact (h1 ⟨c1, c2, c3, c4⟩).diag
          · rw [dc_false c4] at hc
            rw [h2 (fun h => c4 h.2.2.2)]
            exact Ev2.bind (a := true) (bF rfl (Ev.bind hc (evs _))) (Ev2.bT rfl (Ev2.of (evs _)))
        · rw [h2 (fun h => c3 h.2.2.1)]
          exact Ev2.bind (a := false) (bF (by rw [rd_get hi]; simp [c1]) (by rw [rd_get hi, decide_eq_false (Int.not_lt.2 c2)]; exact evs _)) (Ev2.bind (a := true) (bF rfl (by rw [rd_get hi, decide_eq_true (Int.not_le.1 c3)]; exact evs _)) (Ev2.bind (a := true) (bT rfl (evs _)) (Ev2.bT rfl (Ev2.of (evs _)))))
      · rw [h2 (fun h => c2 h.2.1)]
        exact Ev2.bind (a := true) (bF (by rw [rd_get hi]; simp [c1]) (by rw [rd_get hi, decide_eq_true (Int.not_le.1 c2)]; exact evs _)) (Ev2.bind (a := true) (bT rfl (evs _)) (Ev2.bind (a := true) (bT rfl (evs _)) (Ev2.bT rfl (Ev2.of (evs _)))))
    · rw [h2 (fun h => c1 h.1)]
      exact Ev2.bind (a := true) (bT (by rw [rd_get hi]; simp [c1]) (evs _)) (Ev2.bind (a := true) (bT rfl (evs _)) (Ev2.bind (a := true) (bT rfl (evs _)) (Ev2.bT rfl (Ev2.of (evs _)))))
  have go : ∀ (i : Nat), i < l.length → (∀ h : i < l.length, OkL n l[i]) → ∀ r, Ev2 (fun k m => linear_Check.l0 k m n l (l.length : Int) ((i + 1 : Nat) : Int)) r → Ev2 (fun k m => linear_Check.l0 k m n l (l.length : Int) (i : Int)) r := by
    intro i hi ht r hr
    exact head i hi r ⟨fun _ => innerall i hi (ht hi).2 r hr, fun h => absurd (ht hi).1 h⟩
  refine Ev.step (fun k => linear_Check_eq k n l) ?_
  by_cases c1 : 0 ≤ n
  · by_cases c2 : n ≤ 8
    · by_cases c3 : l.length ≤ 40
      · refine Ev.bind (a := false) (bF (decide_eq_false (by omega)) (by rw [decide_eq_false (by omega)]; exact evs _)) (Ev.bind (a := false) (bF rfl (by rw [decide_eq_false (by omega)]; exact evs _)) (bF rfl ?_))
        refine Ev2.diag (g := fun k m => linear_Check.l0 k m n l (l.length : Int) ((0 : Nat) : Int)) ?_
        by_cases c4 : ∀ x ∈ l, OkL n x
        · rw [ifc_t (show OkS n l from ⟨⟨c1, c2, c3⟩, c4⟩)]
          exact walk_all (E := fun i r => Ev2 (fun k m => linear_Check.l0 k m n l (l.length : Int) (i : Int)) r) (t := fun i => ∀ h : i < l.length, OkL n l[i]) go (Ev2.step (fun k m => linear_Check.l0_succ k m _ _ _ _) (Ev2.bF (decide_eq_false (by omega)) (Ev2.of (evs _)))) (fun i hi => (all_get.1 c4) i hi)
        · rw [ifc_f (fun h : OkS n l => c4 h.2)]
          refine walk_bad (E := fun i r => Ev2 (fun k m => linear_Check.l0 k m n l (l.length : Int) (i : Int)) r) (t := fun i => ∀ h : i < l.length, OkL n l[i]) (fun i hi ht => ?_) go (not_get c4)
          refine head i hi _ ⟨fun h => innerbad i hi (fun h2 => ht (fun _ => ⟨h, h2⟩)), fun _ => rfl⟩
      · rw [ifc_f (fun h : OkS n l => c3 h.1.2.2)]
        exact Ev.bind (a := false) (bF (decide_eq_false (by omega)) (by rw [decide_eq_false (by omega)]; exact evs _)) (Ev.bind (a := true) (bF rfl (by rw [decide_eq_true (by omega)]; exact evs _)) (bT rfl (evs _)))
    · rw [ifc_f (fun h : OkS n l => c2 h.1.2.1)]
      exact Ev.bind (a := true) (bF (decide_eq_false (by omega)) (by rw [decide_eq_true (by omega)]; exact evs _)) (Ev.bind (a := true) (bT rfl (evs _)) (bT rfl (evs _)))
  · rw [ifc_f (fun h : OkS n l => c1 h.1.1)]
    exact Ev.bind (a := true) (bT (decide_eq_true (by omega)) (evs _)) (Ev.bind (a := true) (bT rfl (evs _)) (bT rfl (evs _)))
theorem ref_Valid5_ev {n : Int} {l : List LineD} (ha : ArgS l) : Ev (fun k => isochroneref05_Valid k n l) (ifc (OkS n l) true false) := by
  have hin : ∀ (i : Nat) (hi : i < l.length) (j : Nat) (hj : j < l[i].1.length), Ev (fun k => isochroneref05_number k (rdT (t := c_api_Rat) l[i].1 (j : Int) : RatD)) (dc (VN 20 l[i].1[j])) := by
    intro i hi j hj
    rw [rd_get hj]
    exact ref_number_ev ((ha.2 _ (List.getElem_mem hi)).1.2 _ (List.getElem_mem hj))
  have inner : ∀ (i : Nat) (hi : i < l.length) (j : Nat), j < l[i].1.length → (∀ h : j < l[i].1.length, VN 20 l[i].1[j]) → ∀ r, Ev3 (fun k m1 m0 => isochroneref05_Valid.l1 k m1 m0 n l (l.length : Int) (i : Int) l[i].1 (l[i].1.length : Int) ((j + 1 : Nat) : Int)) r → Ev3 (fun k m1 m0 => isochroneref05_Valid.l1 k m1 m0 n l (l.length : Int) (i : Int) l[i].1 (l[i].1.length : Int) (j : Int)) r := by
    intro i hi j hj ht r hr
    refine Ev3.step (fun k m1 m0 => isochroneref05_Valid.l1_succ k m1 m0 _ _ _ _ _ _ _) (Ev3.bT (decide_eq_true (by omega)) (Ev3.iT (by omega) (Ev3.bind (a := true) ?_ (Ev3.bF rfl ?_))))
    · rw [← dc_true (ht hj)]; exact hin i hi j hj
    · rw [inc1 (Nat.lt_of_lt_of_le hj (ha.2 _ (List.getElem_mem hi)).1.1)]; exact hr
  have innerbad : ∀ (i : Nat) (hi : i < l.length), (¬ ∀ c ∈ l[i].1, VN 20 c) → Ev3 (fun k m1 m0 => isochroneref05_Valid.l1 k m1 m0 n l (l.length : Int) (i : Int) l[i].1 (l[i].1.length : Int) ((0 : Nat) : Int)) false := by
    intro i hi hn
    refine walk_bad (E := fun j r => Ev3 (fun k m1 m0 => isochroneref05_Valid.l1 k m1 m0 n l (l.length : Int) (i : Int) l[i].1 (l[i].1.length : Int) (j : Int)) r) (t := fun j => ∀ h : j < l[i].1.length, VN 20 l[i].1[j]) (fun j hj ht => ?_) (inner i hi) (not_get hn)
    have hv : ¬ VN 20 l[i].1[j] := fun h => ht (fun _ => h)
    refine Ev3.step (fun k m1 m0 => isochroneref05_Valid.l1_succ k m1 m0 _ _ _ _ _ _ _) (Ev3.bT (decide_eq_true (by omega)) (Ev3.iT (by omega) (Ev3.bind (a := false) ?_ (Ev3.bT rfl (Ev3.of (Ev2.of (evs _)))))))
    rw [← dc_false hv]; exact hin i hi j hj
  have innerall : ∀ (i : Nat) (hi : i < l.length), (∀ c ∈ l[i].1, VN 20 c) → ∀ r, Ev2 (fun k m => isochroneref05_Valid.l0 k m n l (l.length : Int) ((i + 1 : Nat) : Int)) r → Ev3 (fun k m1 m0 => isochroneref05_Valid.l1 k m1 m0 n l (l.length : Int) (i : Int) l[i].1 (l[i].1.length : Int) ((0 : Nat) : Int)) r := by
    intro i hi hall r hr
    refine walk_all (E := fun j r => Ev3 (fun k m1 m0 => isochroneref05_Valid.l1 k m1 m0 n l (l.length : Int) (i : Int) l[i].1 (l[i].1.length : Int) (j : Int)) r) (t := fun j => ∀ h : j < l[i].1.length, VN 20 l[i].1[j]) (inner i hi) ?_ (fun j hj => (all_get.1 hall) j hj)
    refine Ev3.step (fun k m1 m0 => isochroneref05_Valid.l1_succ k m1 m0 _ _ _ _ _ _ _) (Ev3.bF (decide_eq_false (by omega)) (Ev3.of ?_))
    rw [inc1 (Nat.lt_of_lt_of_le hi ha.1)]
    exact hr
  have head : ∀ (i : Nat) (hi : i < l.length) (r : Bool), ((((l[i].1.length : Int) = n ∧ 0 ≤ l[i].2.1 ∧ l[i].2.1 ≤ 2 ∧ VN 20 l[i].2.2.1) → Ev3 (fun k m1 m0 => isochroneref05_Valid.l1 k m1 m0 n l (l.length : Int) (i : Int) l[i].1 (l[i].1.length : Int) ((0 : Nat) : Int)) r) ∧ ((¬ ((l[i].1.length : Int) = n ∧ 0 ≤ l[i].2.1 ∧ l[i].2.1 ≤ 2 ∧ VN 20 l[i].2.2.1)) → r = false)) → Ev2 (fun k m => isochroneref05_Valid.l0 k m n l (l.length : Int) (i : Int)) r := by
    intro i hi r ⟨h1, h2⟩
    have hc : Ev (fun k => isochroneref05_number k (rdT (t := c_api_Line) l (i : Int) : LineD).2.2.1) (dc (VN 20 l[i].2.2.1)) := by
      rw [rd_get hi]
      exact ref_number_ev (ha.2 _ (List.getElem_mem hi)).2
    refine Ev2.step (fun k m => isochroneref05_Valid.l0_succ k m _ _ _ _) (Ev2.bT (decide_eq_true (by omega)) (Ev2.iT (by omega) ?_))
    by_cases c1 : (l[i].1.length : Int) = n
    · by_cases c2 : 0 ≤ l[i].2.1
      · by_cases c3 : l[i].2.1 ≤ 2
        · refine Ev2.bind (a := false) (bF (by rw [rd_get hi]; simp [c1]) (by rw [rd_get hi, decide_eq_false (Int.not_lt.2 c2)]; exact evs _)) (Ev2.bind (a := false) (bF rfl (by rw [rd_get hi, decide_eq_false (Int.not_lt.2 c3)]; exact evs _)) ?_)
          by_cases c4 : VN 20 l[i].2.2.1
          · rw [dc_true c4] at hc
            refine Ev2.bind (a := false) (bF rfl (Ev.bind hc (evs _))) (Ev2.bF rfl ?_)
            rw [rd_get hi]
            exact (h1 ⟨c1, c2, c3, c4⟩).diag
          · rw [dc_false c4] at hc
            rw [h2 (fun h => c4 h.2.2.2)]
            exact Ev2.bind (a := true) (bF rfl (Ev.bind hc (evs _))) (Ev2.bT rfl (Ev2.of (evs _)))
        · rw [h2 (fun h => c3 h.2.2.1)]
          exact Ev2.bind (a := false) (bF (by rw [rd_get hi]; simp [c1]) (by rw [rd_get hi, decide_eq_false (Int.not_lt.2 c2)]; exact evs _)) (Ev2.bind (a := true) (bF rfl (by rw [rd_get hi, decide_eq_true (Int.not_le.1 c3)]; exact evs _)) (Ev2.bind (a := true) (bT rfl (evs _)) (Ev2.bT rfl (Ev2.of (evs _)))))
      · rw [h2 (fun h => c2 h.2.1)]
        exact Ev2.bind (a := true) (bF (by rw [rd_get hi]; simp [c1]) (by rw [rd_get hi, decide_eq_true (Int.not_le.1 c2)]; exact evs _)) (Ev2.bind (a := true) (bT rfl (evs _)) (Ev2.bind (a := true) (bT rfl (evs _)) (Ev2.bT rfl (Ev2.of (evs _)))))
    · rw [h2 (fun h => c1 h.1)]
      exact Ev2.bind (a := true) (bT (by rw [rd_get hi]; simp [c1]) (evs _)) (Ev2.bind (a := true) (bT rfl (evs _)) (Ev2.bind (a := true) (bT rfl (evs _)) (Ev2.bT rfl (Ev2.of (evs _)))))
  have go : ∀ (i : Nat), i < l.length → (∀ h : i < l.length, OkL n l[i]) → ∀ r, Ev2 (fun k m => isochroneref05_Valid.l0 k m n l (l.length : Int) ((i + 1 : Nat) : Int)) r → Ev2 (fun k m => isochroneref05_Valid.l0 k m n l (l.length : Int) (i : Int)) r := by
    intro i hi ht r hr
    exact head i hi r ⟨fun _ => innerall i hi (ht hi).2 r hr, fun h => absurd (ht hi).1 h⟩
  refine Ev.step (fun k => isochroneref05_Valid_eq k n l) ?_
  by_cases c1 : 0 ≤ n
  · by_cases c2 : n ≤ 8
    · by_cases c3 : l.length ≤ 40
      · refine Ev.bind (a := false) (bF (decide_eq_false (by omega)) (by rw [decide_eq_false (by omega)]; exact evs _)) (Ev.bind (a := false) (bF rfl (by rw [decide_eq_false (by omega)]; exact evs _)) (bF rfl ?_))
        refine Ev2.diag (g := fun k m => isochroneref05_Valid.l0 k m n l (l.length : Int) ((0 : Nat) : Int)) ?_
        by_cases c4 : ∀ x ∈ l, OkL n x
        · rw [ifc_t (show OkS n l from ⟨⟨c1, c2, c3⟩, c4⟩)]
          exact walk_all (E := fun i r => Ev2 (fun k m => isochroneref05_Valid.l0 k m n l (l.length : Int) (i : Int)) r) (t := fun i => ∀ h : i < l.length, OkL n l[i]) go (Ev2.step (fun k m => isochroneref05_Valid.l0_succ k m _ _ _ _) (Ev2.bF (decide_eq_false (by omega)) (Ev2.of (evs _)))) (fun i hi => (all_get.1 c4) i hi)
        · rw [ifc_f (fun h : OkS n l => c4 h.2)]
          refine walk_bad (E := fun i r => Ev2 (fun k m => isochroneref05_Valid.l0 k m n l (l.length : Int) (i : Int)) r) (t := fun i => ∀ h : i < l.length, OkL n l[i]) (fun i hi ht => ?_) go (not_get c4)
          refine head i hi _ ⟨fun h => innerbad i hi (fun h2 => ht (fun _ => ⟨h, h2⟩)), fun _ => rfl⟩
      · rw [ifc_f (fun h : OkS n l => c3 h.1.2.2)]
        exact Ev.bind (a := false) (bF (decide_eq_false (by omega)) (by rw [decide_eq_false (by omega)]; exact evs _)) (Ev.bind (a := true) (bF rfl (by rw [decide_eq_true (by omega)]; exact evs _)) (bT rfl (evs _)))
    · rw [ifc_f (fun h : OkS n l => c2 h.1.2.1)]
      exact Ev.bind (a := true) (bF (decide_eq_false (by omega)) (by rw [decide_eq_true (by omega)]; exact evs _)) (Ev.bind (a := true) (bT rfl (evs _)) (bT rfl (evs _)))
  · rw [ifc_f (fun h : OkS n l => c1 h.1.1)]
    exact Ev.bind (a := true) (bT (decide_eq_true (by omega)) (evs _)) (Ev.bind (a := true) (bT rfl (evs _)) (bT rfl (evs _)))
end Go.Proofs.YtjimdhlmeebjeaaGreat.Q
end
section
namespace Go.Proofs.YtjimdhlmeebjeaaGreat.Q
open Go.RowKit Go.Proofs.YtjimdhlmeebjeaaGreatW.PrintWords Go.Proofs.YtjimdhlmeebjeaaGreatW.PrintMore Go.Proofs.YtjimdhlmeebjeaaGreat.V Go.Proofs.YtjimdhlmeebjeaaGreat.E
open Go.Proofs.YtjimdhlmeebjeaaGreat.P (Dg Nm vl WW RR can_uniq gI evs evk evb cmpi WW_pos WW_one RR_pos w64 u64)
set_option linter.unusedVariables false
def RLs (B : Int) (K : Nat) (l : List RatD) (q : List Rat) : Prop := l.length = q.length ∧ ∀ i (h : i < l.length) (h' : i < q.length), RB B l[i] q[i] ∧ Sz B K q[i]
theorem RLs.at {B : Int} {K : Nat} {l : List RatD} {q : List Rat} (h : RLs B K l q) {i : Nat} (hi : i < l.length) : RB B (rdT (t := c_api_Rat) l (i : Int) : RatD) (q.getD i 0) ∧ Sz B K (q.getD i 0) := by
  have h' : i < q.length := by rw [← h.1]; exact hi
  have := h.2 i hi h'
  rw [show (rdT (t := c_api_Rat) l (i : Int) : RatD) = l[i] from rd_get hi, List.getD_eq_getElem?_getD, List.getElem?_eq_getElem h']
  exact this
theorem RLs.nil {B : Int} {K : Nat} : RLs B K [] [] := ⟨rfl, fun i h => by simp at h⟩
theorem RLs.snoc {B : Int} {K : Nat} {l : List RatD} {q : List Rat} {v : RatD} {x : Rat} (h : RLs B K l q) (hv : RB B v x) (hx : Sz B K x) : RLs B K (l ++ [v]) (q ++ [x]) := by
  refine ⟨by simp [h.1], fun i h1 h2 => ?_⟩
  have hl := h.1
  by_cases c : i < l.length
  · rw [List.getElem_append_left c, List.getElem_append_left (by omega)]
    exact h.2 i c (by omega)
  · have e : i = l.length := by simp at h1; omega
    subst e
    rw [List.getElem_append_right (Nat.le_refl _), List.getElem_append_right (by omega)]
    simp only [Nat.sub_self, hl, List.getElem_cons_zero]
    exact ⟨hv, hx⟩
def dotN (a b : List Rat) : Nat → Rat
  | 0 => 0
  | i + 1 => dotN a b i + a.getD i 0 * b.getD i 0
abbrev dotq (a b : List Rat) : Rat := dotN a b a.length
def satq (v : Rat) (rel : Int) (c : Rat) : Prop := (v = c ∧ rel < 2) ∨ (v < c ∧ rel > 0)
theorem sz_zero {B : Int} (hB : 1 < B) : Sz B 1 0 := sz_of (by omega) (rb_zero hB) (by simp) (by simp)
theorem dot_sp {a b : List RatD} {p q : List Rat} {K L : Nat} (ha : RLs WW K a p) (hb : RLs WW L b q) (hl : a.length ≤ b.length) (hs : (K + L + 1) * (a.length + 1) < 67108864) : ∃ r, Ev (fun k => linear_dot k a b) r ∧ RB WW r (dotq p q) ∧ Sz WW (1 + a.length * (K + L + 1)) (dotq p q) := by
  have la : a.length < 67108864 := by
    have : 1 * (a.length + 1) ≤ (K + L + 1) * (a.length + 1) := Nat.mul_le_mul_right _ (by omega)
    omega
  have key : ∀ d i, a.length - i = d → i ≤ a.length → ∀ v, RB WW v (dotN p q i) → Sz WW (1 + i * (K + L + 1)) (dotN p q i) → ∃ r, Ev2 (fun k m => linear_dot.l0 k m b a (a.length : Int) (i : Int) (false, [], [], ()) v) r ∧ RB WW r (dotN p q a.length) ∧ Sz WW (1 + a.length * (K + L + 1)) (dotN p q a.length) := by
    intro d
    induction d with
    | zero =>
      intro i hd hi v hv hz
      have : i = a.length := by omega
      subst this
      exact ⟨v, Ev2.step (fun k m => linear_dot.l0_succ k m _ _ _ _ _ _) (Ev2.bF (decide_eq_false (by omega)) (Ev2.of (evs _))), hv, hz⟩
    | succ d ih =>
      intro i hd hi v hv hz
      have hi' : i < a.length := by omega
      obtain ⟨a1, a2⟩ := ha.at hi'
      obtain ⟨b1, b2⟩ := hb.at (i := i) (by omega)
      have hK : K + L < 67108864 := by
        have : (K + L + 1) * 1 ≤ (K + L + 1) * (a.length + 1) := Nat.mul_le_mul_left _ (by omega)
        omega
      have hI : i * (K + L + 1) + (K + L + 1) ≤ (K + L + 1) * (a.length + 1) := by
        rw [← Nat.succ_mul, Nat.mul_comm]
        exact Nat.mul_le_mul_left _ (by omega)
      obtain ⟨m1, h1, h2, h3⟩ := num_Mul_sp a1 b1 a2 b2 (by omega)
      obtain ⟨m2, g1, g2, g3⟩ := num_Add_sp hv h2 hz h3 (by omega)
      obtain ⟨r, r1, r2, r3⟩ := ih (i + 1) (by omega) (by omega) m2 g2 (sz_mono WW_pos g3 (by rw [Nat.succ_mul]; omega))
      refine ⟨r, Ev2.step (fun k m => linear_dot.l0_succ k m _ _ _ _ _ _) (Ev2.bT (decide_eq_true (by omega)) (Ev2.iT (by omega) (Ev2.iT (by omega) (Ev2.bind h1 (Ev2.bind g1 ?_))))), r2, r3⟩
      rw [inc1 (by omega)]
      exact r1
  obtain ⟨r, r1, r2, r3⟩ := key a.length 0 (by omega) (by omega) _ (rb_zero WW_one) (by rw [Nat.zero_mul]; exact sz_zero WW_one)
  rw [ha.1] at r2 r3
  refine ⟨r, Ev.step (fun k => linear_dot_eq k a b) (Ev.bind num_Zero_ev r1.diag), r2, ?_⟩
  rw [ha.1]
  exact r3
theorem ref_Dot_sp {a b : List RatD} {p q : List Rat} {K L : Nat} (ha : RLs RR K a p) (hb : RLs RR L b q) (hl : a.length ≤ b.length) (hs : (K + L + 1) * (a.length + 1) < 67108864) : ∃ r, Ev (fun k => isochroneref05_Dot k a b) r ∧ RB RR r (dotq p q) ∧ Sz RR (1 + a.length * (K + L + 1)) (dotq p q) := by
  have la : a.length < 67108864 := by
    have : 1 * (a.length + 1) ≤ (K + L + 1) * (a.length + 1) := Nat.mul_le_mul_right _ (by omega)
    omega
  have key : ∀ d i, a.length - i = d → i ≤ a.length → ∀ v, RB RR v (dotN p q i) → Sz RR (1 + i * (K + L + 1)) (dotN p q i) → ∃ r, Ev2 (fun k m => isochroneref05_Dot.l0 k m a b (a.length : Int) (i : Int) (false, [], [], ()) v) r ∧ RB RR r (dotN p q a.length) ∧ Sz RR (1 + a.length * (K + L + 1)) (dotN p q a.length) := by
    intro d
    induction d with
    | zero =>
      intro i hd hi v hv hz
      have : i = a.length := by omega
      subst this
      exact ⟨v, Ev2.step (fun k m => isochroneref05_Dot.l0_succ k m _ _ _ _ _ _) (Ev2.bF (decide_eq_false (by omega)) (Ev2.of (evs _))), hv, hz⟩
    | succ d ih =>
      intro i hd hi v hv hz
      have hi' : i < a.length := by omega
      obtain ⟨a1, a2⟩ := ha.at hi'
      obtain ⟨b1, b2⟩ := hb.at (i := i) (by omega)
      have hK : K + L < 67108864 := by
        have : (K + L + 1) * 1 ≤ (K + L + 1) * (a.length + 1) := Nat.mul_le_mul_left _ (by omega)
        omega
      have hI : i * (K + L + 1) + (K + L + 1) ≤ (K + L + 1) * (a.length + 1) := by
        rw [← Nat.succ_mul, Nat.mul_comm]
        exact Nat.mul_le_mul_left _ (by omega)
      obtain ⟨m1, h1, h2, h3⟩ := ref_Mul_sp a1 b1 a2 b2 (by omega)
      obtain ⟨m2, g1, g2, g3⟩ := ref_Add_sp hv h2 hz h3 (by omega)
      obtain ⟨r, r1, r2, r3⟩ := ih (i + 1) (by omega) (by omega) m2 g2 (sz_mono RR_pos g3 (by rw [Nat.succ_mul]; omega))
      refine ⟨r, Ev2.step (fun k m => isochroneref05_Dot.l0_succ k m _ _ _ _ _ _) (Ev2.bT (decide_eq_true (by omega)) (Ev2.iT (by omega) (Ev2.iT (by omega) (Ev2.bind h1 (Ev2.bind g1 ?_))))), r2, r3⟩
      rw [inc1 (by omega)]
      exact r1
  obtain ⟨r, r1, r2, r3⟩ := key a.length 0 (by omega) (by omega) _ (rb_zero RR_one) (by rw [Nat.zero_mul]; exact sz_zero RR_one)
  rw [ha.1] at r2 r3
  refine ⟨r, Ev.step (fun k => isochroneref05_Dot_eq k a b) (Ev.bind ref_Zero_ev r1.diag), r2, ?_⟩
  rw [ha.1]
  exact r3
section
variable {v w : RatD} {p q : Rat} {K L : Nat}
theorem cmpq_vals (p q : Rat) : (cmpq p q = -1 ∧ p < q) ∨ (cmpq p q = 0 ∧ p = q) ∨ (cmpq p q = 1 ∧ q < p) := by
  unfold cmpq
  by_cases h1 : p < q
  · rw [if_pos h1]; exact .inl ⟨rfl, h1⟩
  · rw [if_neg h1]
    by_cases h2 : p = q
    · rw [if_pos h2]; exact .inr (.inl ⟨rfl, h2⟩)
    · rw [if_neg h2]
      have := Rat.not_lt.1 h1
      exact .inr (.inr ⟨rfl, by grind⟩)
theorem satisfies_ev (rel : Int) (hv : RB WW v p) (hw : RB WW w q) (hp : Sz WW K p) (hq : Sz WW L q) (h : K + L < 1073741824) : Ev (fun k => linear_satisfies k v rel w) (dc (satq p rel q)) := by
  refine Ev.step (fun k => linear_satisfies_eq k v rel w) (Ev.bind (num_Cmp_sp hv hw hp hq h) ?_)
  rcases cmpq_vals p q with ⟨e, hc⟩ | ⟨e, hc⟩ | ⟨e, hc⟩
  · rw [e]
    refine Ev.bind (a := false) (bF rfl (evs _)) (Ev.bind (a := dc (satq p rel q)) (bF rfl (Ev.bind (a := dc (satq p rel q)) (bT rfl ?_) (evs _))) (evs _))
    have : decide (rel > 0) = dc (satq p rel q) := dc_of (by
      rw [decide_eq_true_eq]
      exact ⟨fun h => .inr ⟨hc, h⟩, fun h => by rcases h with h | h
                                                · exact absurd h.1 (Rat.ne_of_lt hc)
                                                · exact h.2⟩)
    rw [← this]
    exact evs _
  · rw [e]
    have : decide (rel < 2) = dc (satq p rel q) := dc_of (by
      rw [decide_eq_true_eq]
      exact ⟨fun h => .inl ⟨hc, h⟩, fun h => by rcases h with h | h
                                                · exact h.2
                                                · exact absurd hc (Rat.ne_of_lt h.1)⟩)
    rw [← this]
    cases decide (rel < 2) with
    | true => exact Ev.bind (bT rfl (evs _)) (Ev.bind (a := true) (bT rfl (evs _)) (evs _))
    | false => exact Ev.bind (bT rfl (evs _)) (Ev.bind (a := false) (bF rfl (Ev.bind (a := false) (bF rfl (evs _)) (evs _))) (evs _))
  · rw [e, dc_false (show ¬ satq p rel q from fun h => by
      rcases h with h | h
      · exact absurd h.1.symm (Rat.ne_of_lt hc)
      · exact absurd h.1 (Rat.not_lt.2 (Rat.le_of_lt hc)))]
    exact Ev.bind (a := false) (bF rfl (evs _)) (Ev.bind (a := false) (bF rfl (Ev.bind (a := false) (bF rfl (evs _)) (evs _))) (evs _))
theorem fits_ev (rel : Int) (hr : 0 ≤ rel ∧ rel ≤ 2) (hv : RB RR v p) (hw : RB RR w q) (hp : Sz RR K p) (hq : Sz RR L q) (h : K + L < 268435456) : Ev (fun k => isochroneref05_fits k v rel w) (dc (satq p rel q)) := by
  refine Ev.step (fun k => isochroneref05_fits_eq k v rel w) (Ev.bind (ref_Cmp_sp hv hw hp hq h) ?_)
  have hrel : rel = 0 ∨ rel = 1 ∨ rel = 2 := by omega
  have lt_ne : ∀ {x y : Rat}, x < y → x ≠ y := fun h => Rat.ne_of_lt h
  have lt_asymm : ∀ {x y : Rat}, x < y → ¬ y < x := fun h => Rat.not_lt.2 (Rat.le_of_lt h)
  rcases hrel with rfl | rfl | rfl
  · rcases cmpq_vals p q with ⟨e, hc⟩ | ⟨e, hc⟩ | ⟨e, hc⟩
    · rw [e, dc_false (show ¬ satq p 0 q from fun h => by rcases h with h | h
                                                          · exact lt_ne hc h.1
                                                          · exact absurd h.2 (by decide))]
      exact Ev.bind (a := false) (bT rfl (evs _)) (Ev.bind (a := false) (bF rfl (Ev.bind (a := false) (bF rfl (evs _)) (evs _))) (Ev.bind (a := false) (bF rfl (Ev.bind (a := false) (bF rfl (evs _)) (evs _))) (evs _)))
    · rw [e, dc_true (show satq p 0 q from .inl ⟨hc, by decide⟩)]
      exact Ev.bind (a := true) (bT rfl (evs _)) (Ev.bind (a := true) (bT rfl (evs _)) (Ev.bind (a := true) (bT rfl (evs _)) (evs _)))
    · rw [e, dc_false (show ¬ satq p 0 q from fun h => by rcases h with h | h
                                                          · exact lt_ne hc h.1.symm
                                                          · exact absurd h.2 (by decide))]
      exact Ev.bind (a := false) (bT rfl (evs _)) (Ev.bind (a := false) (bF rfl (Ev.bind (a := false) (bF rfl (evs _)) (evs _))) (Ev.bind (a := false) (bF rfl (Ev.bind (a := false) (bF rfl (evs _)) (evs _))) (evs _)))
  · rcases cmpq_vals p q with ⟨e, hc⟩ | ⟨e, hc⟩ | ⟨e, hc⟩
    · rw [e, dc_true (show satq p 1 q from .inr ⟨hc, by decide⟩)]
      exact Ev.bind (a := false) (bF rfl (evs _)) (Ev.bind (a := true) (bF rfl (Ev.bind (a := true) (bT rfl (evs _)) (evs _))) (Ev.bind (a := true) (bT rfl (evs _)) (evs _)))
    · rw [e, dc_true (show satq p 1 q from .inl ⟨hc, by decide⟩)]
      exact Ev.bind (a := false) (bF rfl (evs _)) (Ev.bind (a := true) (bF rfl (Ev.bind (a := true) (bT rfl (evs _)) (evs _))) (Ev.bind (a := true) (bT rfl (evs _)) (evs _)))
    · rw [e, dc_false (show ¬ satq p 1 q from fun h => by rcases h with h | h
                                                          · exact lt_ne hc h.1.symm
                                                          · exact lt_asymm hc h.1)]
      exact Ev.bind (a := false) (bF rfl (evs _)) (Ev.bind (a := false) (bF rfl (Ev.bind (a := false) (bT rfl (evs _)) (evs _))) (Ev.bind (a := false) (bF rfl (Ev.bind (a := false) (bF rfl (evs _)) (evs _))) (evs _)))
  · rcases cmpq_vals p q with ⟨e, hc⟩ | ⟨e, hc⟩ | ⟨e, hc⟩
    · rw [e, dc_true (show satq p 2 q from .inr ⟨hc, by decide⟩)]
      exact Ev.bind (a := false) (bF rfl (evs _)) (Ev.bind (a := false) (bF rfl (Ev.bind (a := false) (bF rfl (evs _)) (evs _))) (Ev.bind (a := true) (bF rfl (Ev.bind (a := true) (bT rfl (evs _)) (evs _))) (evs _)))
    · rw [e, dc_false (show ¬ satq p 2 q from fun h => by rcases h with h | h
                                                          · exact absurd h.2 (by decide)
                                                          · exact lt_ne h.1 hc)]
      exact Ev.bind (a := false) (bF rfl (evs _)) (Ev.bind (a := false) (bF rfl (Ev.bind (a := false) (bF rfl (evs _)) (evs _))) (Ev.bind (a := false) (bF rfl (Ev.bind (a := false) (bT rfl (evs _)) (evs _))) (evs _)))
    · rw [e, dc_false (show ¬ satq p 2 q from fun h => by rcases h with h | h
                                                          · exact absurd h.2 (by decide)
                                                          · exact lt_asymm hc h.1)]
      exact Ev.bind (a := false) (bF rfl (evs _)) (Ev.bind (a := false) (bF rfl (Ev.bind (a := false) (bF rfl (evs _)) (evs _))) (Ev.bind (a := false) (bF rfl (Ev.bind (a := false) (bT rfl (evs _)) (evs _))) (evs _)))
end
end Go.Proofs.YtjimdhlmeebjeaaGreat.Q
end
section
namespace Go.Proofs.YtjimdhlmeebjeaaGreat.Q
open Go.RowKit Go.Proofs.YtjimdhlmeebjeaaGreatW.PrintWords Go.Proofs.YtjimdhlmeebjeaaGreatW.PrintMore Go.Proofs.YtjimdhlmeebjeaaGreat.V Go.Proofs.YtjimdhlmeebjeaaGreat.E
open Go.Proofs.YtjimdhlmeebjeaaGreat.P (Dg Nm vl WW RR can_uniq gI evs evk evb cmpi WW_pos WW_one RR_pos w64 u64)
set_option linter.unusedVariables false
abbrev LineQ := List Rat × Int × Rat
noncomputable def valq (v : RatD) : Rat := Rat.divInt (sg v.1 (vl WW v.2.1)) (vl WW v.2.2.1)
theorem rb_valq {v : RatD} {q : Rat} (h : RB WW v q) : valq v = q := by
  have h1 := rb_val h
  obtain ⟨_, h2, h3⟩ := h
  unfold valq
  rw [show vl WW v.2.1 = (q.num.natAbs : Int) from h2.2.2, show vl WW v.2.2.1 = (q.den : Int) from h3.2.2]
  exact h1
theorem vn_val {N : Nat} {v : RatD} (h : VN N v) : RB WW v (valq v) ∧ Sz WW N (valq v) := by
  obtain ⟨q, h1, h2⟩ := h
  rw [rb_valq h1]
  exact ⟨h1, h2⟩
noncomputable def valL (l : List RatD) : List Rat := l.map valq
noncomputable def valN (x : LineD) : LineQ := (valL x.1, x.2.1, valq x.2.2.1)
noncomputable def valS (l : List LineD) : List LineQ := l.map valN
theorem rls_val {N : Nat} {l : List RatD} (h : ∀ x ∈ l, VN N x) : RLs WW N l (valL l) := by
  refine ⟨by simp [valL], fun i h1 h2 => ?_⟩
  simp only [valL, List.getElem_map]
  exact vn_val (h _ (List.getElem_mem h1))
theorem val_len (l : List RatD) : (valL l).length = l.length := by simp [valL]
def RLn (B : Int) (K : Nat) (x : LineD) (y : LineQ) : Prop := RLs B K x.1 y.1 ∧ x.2.1 = y.2.1 ∧ RB B x.2.2.1 y.2.2 ∧ Sz B K y.2.2
def RSs (B : Int) (K : Nat) (l : List LineD) (s : List LineQ) : Prop := l.length = s.length ∧ ∀ i (h : i < l.length) (h' : i < s.length), RLn B K l[i] s[i]
theorem rln_val {n : Int} {x : LineD} (h : OkL n x) : RLn WW 20 x (valN x) := ⟨rls_val h.2, rfl, (vn_val h.1.2.2.2).1, (vn_val h.1.2.2.2).2⟩
theorem rss_val {n : Int} {l : List LineD} (h : OkS n l) : RSs WW 20 l (valS l) := by
  refine ⟨by simp [valS], fun i h1 h2 => ?_⟩
  simp only [valS, List.getElem_map]
  exact rln_val (h.2 _ (List.getElem_mem h1))
def HoldsQ (s : List LineQ) (x : List Rat) : Prop := ∀ y ∈ s, satq (dotq y.1 x) y.2.1 y.2.2
theorem holds_get {l : List LineD} {s : List LineQ} {B : Int} {K : Nat} (h : RSs B K l s) {x : List Rat} : HoldsQ s x ↔ ∀ i, i < l.length → ∀ h' : i < s.length, satq (dotq s[i].1 x) s[i].2.1 s[i].2.2 := by
  unfold HoldsQ
  rw [all_get, h.1]
theorem Holds_sp {n : Int} {l : List LineD} {pt : List RatD} (ha : ArgS l) (hp : Args pt) : Ev (fun k => linear_Holds k n l pt) (ifc (OkS n l) (ifc ((∀ x ∈ pt, VN 200 x) ∧ (pt.length : Int) = n) (dc (HoldsQ (valS l) (valL pt)), (0 : Int), ()) (false, (1 : Int), ())) (false, (3 : Int), ())) := by
  have hC := Check_ev (n := n) ha
  have hN := numbers_ev n hp
  refine Ev.step (fun k => linear_Holds_eq k n l pt) ?_
  by_cases c1 : OkS n l
  · rw [ifc_t c1] at hC ⊢
    refine Ev.bind hC (bF rfl ?_)
    by_cases c2 : (∀ x ∈ pt, VN 200 x) ∧ (pt.length : Int) = n
    · rw [dc_true c2] at hN
      rw [ifc_t c2]
      refine Ev.bind hN (bF rfl ?_)
      refine Ev2.diag (g := fun k m => linear_Holds.l0 k m pt l (l.length : Int) ((0 : Nat) : Int)) ?_
      have hs := rss_val c1
      have hpt := rls_val c2.1
      have len8 : n ≤ 8 := c1.1.2.1
      have one : ∀ i (hi : i < l.length), ∃ d, Ev (fun k => linear_dot k (rdT (t := c_api_Line) l (i : Int) : LineD).1 pt) d ∧ Ev (fun k => linear_satisfies k d (rdT (t := c_api_Line) l (i : Int) : LineD).2.1 (rdT (t := c_api_Line) l (i : Int) : LineD).2.2.1) (dc (satq (dotq (valN l[i]).1 (valL pt)) (valN l[i]).2.1 (valN l[i]).2.2)) := by
        intro i hi
        have ho := c1.2 _ (List.getElem_mem hi)
        obtain ⟨q1, q2, q3, q4⟩ := rln_val ho
        have hlen : (l[i].1.length : Int) = n := ho.1.1
        have e : (rdT (t := c_api_Line) l (i : Int) : LineD) = l[i] := rd_get hi
        have hb : l[i].1.length ≤ 8 := by omega
        obtain ⟨d, d1, d2, d3⟩ := dot_sp q1 hpt (by have := c2.2; omega) (by
          have : (20 + 200 + 1) * (l[i].1.length + 1) ≤ (20 + 200 + 1) * 9 := Nat.mul_le_mul_left _ (by omega)
          omega)
        refine ⟨d, by rw [e]; exact d1, ?_⟩
        rw [e]
        have := satisfies_ev l[i].2.1 d2 q3 d3 q4 (by
          have : l[i].1.length * (20 + 200 + 1) ≤ 8 * (20 + 200 + 1) := Nat.mul_le_mul_right _ hb
          omega)
        rw [q2] at this
        rw [q2]
        exact this
      have go : ∀ i, i < l.length → (∀ h : i < l.length, satq (dotq (valN l[i]).1 (valL pt)) (valN l[i]).2.1 (valN l[i]).2.2) → ∀ r, Ev2 (fun k m => linear_Holds.l0 k m pt l (l.length : Int) ((i + 1 : Nat) : Int)) r → Ev2 (fun k m => linear_Holds.l0 k m pt l (l.length : Int) (i : Int)) r := by
        intro i hi ht r hr
        obtain ⟨d, d1, d2⟩ := one i hi
        rw [dc_true (ht hi)] at d2
        refine Ev2.step (fun k m => linear_Holds.l0_succ k m _ _ _ _) (Ev2.bT (decide_eq_true (by omega)) (Ev2.iT (by omega) (Ev2.bind d1 (Ev2.bind d2 (Ev2.bF rfl ?_)))))
        rw [inc1 (Nat.lt_of_lt_of_le hi ha.1)]
        exact hr
      have conv : HoldsQ (valS l) (valL pt) ↔ ∀ x ∈ l, satq (dotq (valN x).1 (valL pt)) (valN x).2.1 (valN x).2.2 := by
        unfold HoldsQ valS
        exact List.forall_mem_map
      by_cases c3 : ∀ x ∈ l, satq (dotq (valN x).1 (valL pt)) (valN x).2.1 (valN x).2.2
      · rw [dc_true (conv.2 c3)]
        exact walk_all (E := fun i r => Ev2 (fun k m => linear_Holds.l0 k m pt l (l.length : Int) (i : Int)) r) go (Ev2.step (fun k m => linear_Holds.l0_succ k m _ _ _ _) (Ev2.bF (decide_eq_false (by omega)) (Ev2.of (evs _)))) (all_get.1 c3)
      · rw [dc_false (fun h => c3 (conv.1 h))]
        refine walk_bad (E := fun i r => Ev2 (fun k m => linear_Holds.l0 k m pt l (l.length : Int) (i : Int)) r) (fun i hi ht => ?_) go (not_get c3)
        obtain ⟨d, d1, d2⟩ := one i hi
        rw [dc_false (fun h => ht (fun _ => h))] at d2
        exact Ev2.step (fun k m => linear_Holds.l0_succ k m _ _ _ _) (Ev2.bT (decide_eq_true (by omega)) (Ev2.iT (by omega) (Ev2.bind d1 (Ev2.bind d2 (Ev2.bT rfl (Ev2.of (evs _)))))))
    · rw [dc_false c2] at hN
      rw [ifc_f c2]
      exact Ev.bind hN (bT rfl (evs _))
  · rw [ifc_f c1] at hC ⊢
    exact Ev.bind hC (bT rfl (evs _))
theorem Rats_sp {N : Nat} {l : List RatD} (hl : l.length < 1000000) (h : ∀ x ∈ l, VN N x) (hN : N ≤ 4096) : ∃ r, Ev (fun k => isochroneref05_Rats k l) r ∧ RLs RR (4 * N) r (valL l) := by
  have key : ∀ d i, l.length - i = d → i ≤ l.length → ∀ acc, RLs RR (4 * N) acc ((valL l).take i) → ∃ r, Ev2 (fun k m => isochroneref05_Rats.l0 k m l (l.length : Int) (i : Int) acc) r ∧ RLs RR (4 * N) r (valL l) := by
    intro d
    induction d with
    | zero =>
      intro i hd hi acc hacc
      have : i = l.length := by omega
      subst this
      rw [List.take_of_length_le (by rw [val_len]; exact Nat.le_refl _)] at hacc
      exact ⟨acc, Ev2.step (fun k m => isochroneref05_Rats.l0_succ k m _ _ _ _) (Ev2.bF (decide_eq_false (by omega)) (Ev2.of (evs _))), hacc⟩
    | succ d ih =>
      intro i hd hi acc hacc
      have hi' : i < l.length := by omega
      obtain ⟨v1, v2⟩ := vn_val (h _ (List.getElem_mem hi'))
      obtain ⟨x, x1, x2, x3⟩ := ref_Of_sp v1 v2 (by omega)
      have hi2 : i < (valL l).length := by rw [val_len]; exact hi'
      have ht : (valL l).take (i + 1) = (valL l).take i ++ [valq l[i]] := by
        rw [List.take_succ_eq_append_getElem hi2]
        simp [valL]
      obtain ⟨r, r1, r2⟩ := ih (i + 1) (by omega) (by omega) (acc ++ [x]) (by rw [ht]; exact hacc.snoc x2 x3)
      have hal : acc.length = i := by rw [hacc.1, List.length_take, val_len]; omega
      refine ⟨r, Ev2.step (fun k m => isochroneref05_Rats.l0_succ k m _ _ _ _) (Ev2.bT (decide_eq_true (by omega)) (Ev2.iT (by omega) (Ev2.bind (a := x) ?_ (Ev2.iT (by rw [hal, List.length_singleton]; omega) ?_)))), r2⟩
      · rw [rd_get hi']; exact x1
      · rw [inc1 (by omega)]
        exact r1
  obtain ⟨r, r1, r2⟩ := key l.length 0 (by omega) (by omega) [] RLs.nil
  exact ⟨r, Ev.step (fun k => isochroneref05_Rats_eq k l) r1.diag, r2⟩
theorem RSs.snoc {B : Int} {K : Nat} {l : List LineD} {s : List LineQ} {v : LineD} {x : LineQ} (h : RSs B K l s) (hv : RLn B K v x) : RSs B K (l ++ [v]) (s ++ [x]) := by
  refine ⟨by simp [h.1], fun i h1 h2 => ?_⟩
  have hl := h.1
  by_cases c : i < l.length
  · rw [List.getElem_append_left c, List.getElem_append_left (by omega)]
    exact h.2 i c (by omega)
  · have e : i = l.length := by simp at h1; omega
    subst e
    rw [List.getElem_append_right (Nat.le_refl _), List.getElem_append_right (by omega)]
    simp only [Nat.sub_self, hl, List.getElem_cons_zero]
    exact hv
theorem Of_sp {n : Int} {l : List LineD} (h : OkS n l) : ∃ r, Ev (fun k => isochroneref05_Of k l) r ∧ RSs RR 80 r (valS l) := by
  have hl : l.length ≤ 40 := h.1.2.2
  have vlen : (valS l).length = l.length := by simp [valS]
  have key : ∀ d i, l.length - i = d → i ≤ l.length → ∀ acc, RSs RR 80 acc ((valS l).take i) → ∃ r, Ev2 (fun k m => isochroneref05_Of.l0 k m l (l.length : Int) (i : Int) acc) r ∧ RSs RR 80 r (valS l) := by
    intro d
    induction d with
    | zero =>
      intro i hd hi acc hacc
      have : i = l.length := by omega
      subst this
      rw [List.take_of_length_le (by rw [vlen]; exact Nat.le_refl _)] at hacc
      exact ⟨acc, Ev2.step (fun k m => isochroneref05_Of.l0_succ k m _ _ _ _) (Ev2.bF (decide_eq_false (by omega)) (Ev2.of (evs _))), hacc⟩
    | succ d ih =>
      intro i hd hi acc hacc
      have hi' : i < l.length := by omega
      have ho := h.2 _ (List.getElem_mem hi')
      have hn8 : (l[i].1.length : Int) = n := ho.1.1
      have h8 : n ≤ 8 := h.1.2.1
      obtain ⟨c, c1, c2⟩ := Rats_sp (l := l[i].1) (by omega) ho.2 (by decide)
      obtain ⟨v1, v2⟩ := vn_val ho.1.2.2.2
      obtain ⟨x, x1, x2, x3⟩ := ref_Of_sp v1 v2 (by decide)
      have ht : (valS l).take (i + 1) = (valS l).take i ++ [valN l[i]] := by
        rw [List.take_succ_eq_append_getElem (by rw [vlen]; exact hi')]
        simp [valS]
      have e : (rdT (t := c_api_Line) l (i : Int) : LineD) = l[i] := rd_get hi'
      obtain ⟨r, r1, r2⟩ := ih (i + 1) (by omega) (by omega) (acc ++ [(c, l[i].2.1, x, ())]) (by rw [ht]; exact hacc.snoc ⟨c2, rfl, x2, x3⟩)
      have hal : acc.length = i := by rw [hacc.1, List.length_take, vlen]; omega
      refine ⟨r, Ev2.step (fun k m => isochroneref05_Of.l0_succ k m _ _ _ _) (Ev2.bT (decide_eq_true (by omega)) (Ev2.iT (by omega) (Ev2.bind (a := c) ?_ (Ev2.bind (a := x) ?_ (Ev2.iT (by rw [hal, List.length_singleton]; omega) ?_))))), r2⟩
      · rw [e]; exact c1
      · rw [e]; exact x1
      · rw [inc1 (by omega), e]
        exact r1
  obtain ⟨r, r1, r2⟩ := key l.length 0 (by omega) (by omega) [] ⟨rfl, fun i h => by simp at h⟩
  exact ⟨r, Ev.step (fun k => isochroneref05_Of_eq k l) r1.diag, r2⟩
theorem ref_Holds_sp {l : List LineD} {s : List LineQ} {pt : List RatD} {x : List Rat} {n : Nat} (hs : RSs RR 80 l s) (hp : RLs RR 800 pt x) (hl : l.length ≤ 1000) (hn : n ≤ 8) (hpn : pt.length = n) (hsn : ∀ y ∈ s, y.1.length = n ∧ 0 ≤ y.2.1 ∧ y.2.1 ≤ 2) : Ev (fun k => isochroneref05_Holds k l pt) (dc (HoldsQ s x)) := by
  refine Ev.step (fun k => isochroneref05_Holds_eq k l pt) ?_
  refine Ev2.diag (g := fun k m => isochroneref05_Holds.l0 k m pt l (l.length : Int) ((0 : Nat) : Int)) ?_
  have hlen := hs.1
  have one : ∀ i (hi : i < l.length) (hi' : i < s.length), ∃ d, Ev (fun k => isochroneref05_Dot k (rdT (t := c_isochroneref05_Line) l (i : Int) : LineD).1 pt) d ∧ Ev (fun k => isochroneref05_fits k d (rdT (t := c_isochroneref05_Line) l (i : Int) : LineD).2.1 (rdT (t := c_isochroneref05_Line) l (i : Int) : LineD).2.2.1) (dc (satq (dotq s[i].1 x) s[i].2.1 s[i].2.2)) := by
    intro i hi hi'
    obtain ⟨q1, q2, q3, q4⟩ := hs.2 i hi hi'
    obtain ⟨g1, g2, g3⟩ := hsn _ (List.getElem_mem hi')
    have hll : l[i].1.length = n := by rw [q1.1]; exact g1
    have e : (rdT (t := c_isochroneref05_Line) l (i : Int) : LineD) = l[i] := rd_get hi
    obtain ⟨d, d1, d2, d3⟩ := ref_Dot_sp q1 hp (by omega) (by
      have : (80 + 800 + 1) * (l[i].1.length + 1) ≤ (80 + 800 + 1) * 9 := Nat.mul_le_mul_left _ (by omega)
      omega)
    refine ⟨d, by rw [e]; exact d1, ?_⟩
    rw [e]
    have := fits_ev l[i].2.1 (by rw [q2]; exact ⟨g2, g3⟩) d2 q3 d3 q4 (by
      have : l[i].1.length * (80 + 800 + 1) ≤ 8 * (80 + 800 + 1) := Nat.mul_le_mul_right _ (by omega)
      omega)
    rw [q2] at this
    rw [q2]
    exact this
  have go : ∀ i, i < l.length → (∀ h : i < s.length, satq (dotq s[i].1 x) s[i].2.1 s[i].2.2) → ∀ r, Ev2 (fun k m => isochroneref05_Holds.l0 k m pt l (l.length : Int) ((i + 1 : Nat) : Int)) r → Ev2 (fun k m => isochroneref05_Holds.l0 k m pt l (l.length : Int) (i : Int)) r := by
    intro i hi ht r hr
    obtain ⟨d, d1, d2⟩ := one i hi (by omega)
    rw [dc_true (ht (by omega))] at d2
    refine Ev2.step (fun k m => isochroneref05_Holds.l0_succ k m _ _ _ _) (Ev2.bT (decide_eq_true (by omega)) (Ev2.iT (by omega) (Ev2.bind d1 (Ev2.bind d2 (Ev2.bF rfl ?_)))))
    rw [inc1 (by omega)]
    exact hr
  by_cases c3 : HoldsQ s x
  · rw [dc_true c3]
    exact walk_all (E := fun i r => Ev2 (fun k m => isochroneref05_Holds.l0 k m pt l (l.length : Int) (i : Int)) r) go (Ev2.step (fun k m => isochroneref05_Holds.l0_succ k m _ _ _ _) (Ev2.bF (decide_eq_false (by omega)) (Ev2.of (evs _)))) ((holds_get hs).1 c3)
  · rw [dc_false c3]
    obtain ⟨j, hj, hn'⟩ := not_get c3
    refine walk_bad (E := fun i r => Ev2 (fun k m => isochroneref05_Holds.l0 k m pt l (l.length : Int) (i : Int)) r) (fun i hi ht => ?_) go ⟨j, by omega, hn'⟩
    obtain ⟨d, d1, d2⟩ := one i hi (by omega)
    rw [dc_false (fun h => ht (fun _ => h))] at d2
    exact Ev2.step (fun k m => isochroneref05_Holds.l0_succ k m _ _ _ _) (Ev2.bT (decide_eq_true (by omega)) (Ev2.iT (by omega) (Ev2.bind d1 (Ev2.bind d2 (Ev2.bT rfl (Ev2.of (evs _)))))))
end Go.Proofs.YtjimdhlmeebjeaaGreat.Q
end
section
namespace Go.Proofs.YtjimdhlmeebjeaaGreat.Q
open Go.RowKit Go.Proofs.YtjimdhlmeebjeaaGreatW.PrintWords Go.Proofs.YtjimdhlmeebjeaaGreatW.PrintMore Go.Proofs.YtjimdhlmeebjeaaGreat.V Go.Proofs.YtjimdhlmeebjeaaGreat.E
open Go.Proofs.YtjimdhlmeebjeaaGreat.P (Dg Nm vl WW RR can_uniq gI evs evk evb cmpi WW_pos WW_one RR_pos w64 u64)
set_option linter.unusedVariables false
def RF (B : Int) (K : Nat) (l : List RatD) (n : Nat) (c : Nat → Rat) : Prop := l.length = n ∧ ∀ i, i < n → RB B (rdT (t := c_api_Rat) l (i : Int) : RatD) (c i) ∧ Sz B K (c i)
theorem RF.set {B : Int} {K n j : Nat} {l : List RatD} {c : Nat → Rat} {v : RatD} {x : Rat} (h : RF B K l n c) (hj : j < n) (hv : RB B v x) (hx : Sz B K x) : RF B K (l.set j v) n (fun i => if i = j then x else c i) := by
  refine ⟨by simp [h.1], fun i hi => ?_⟩
  have e : (rdT (t := c_api_Rat) (l.set j v) (i : Int) : RatD) = if i = j then v else (rdT (t := c_api_Rat) l (i : Int) : RatD) := by
    rw [show (rdT (t := c_api_Rat) (l.set j v) (i : Int) : RatD) = (l.set j v)[i]'(by simp [h.1]; exact hi) from rd_get (by simp [h.1]; exact hi), List.getElem_set]
    by_cases cij : j = i
    · rw [if_pos cij, if_pos cij.symm]
    · rw [if_neg cij, if_neg (Ne.symm cij)]
      exact (rd_get (t := c_api_Rat) (by rw [h.1]; exact hi)).symm
  rw [e]
  by_cases c1 : i = j
  · rw [if_pos c1]; simp only [c1, if_true]; exact ⟨hv, hx⟩
  · rw [if_neg c1]; simp only [c1, if_false]; exact h.2 i hi
theorem RF.congr {B : Int} {K n : Nat} {l : List RatD} {c c' : Nat → Rat} (h : RF B K l n c) (hc : ∀ i, i < n → c i = c' i) : RF B K l n c' := ⟨h.1, fun i hi => by rw [← hc i hi]; exact h.2 i hi⟩
theorem RF.mono {B : Int} (hB : 0 < B) {K L n : Nat} {l : List RatD} {c : Nat → Rat} (h : RF B K l n c) (hKL : K ≤ L) : RF B L l n c := ⟨h.1, fun i hi => ⟨(h.2 i hi).1, sz_mono hB (h.2 i hi).2 hKL⟩⟩
def comb (f m : Nat → Rat) : Nat → Rat
  | 0 => 0
  | k + 1 => comb f m k + m k * f k
def ln (s : List LineQ) (k : Nat) : LineQ := s.getD k ([], 0, 0)
def cf (s : List LineQ) (i k : Nat) : Rat := (ln s k).1.getD i 0
def kf (s : List LineQ) (k : Nat) : Rat := (ln s k).2.2
def gf (m : List Rat) (k : Nat) : Rat := m.getD k 0
def RefQ (n : Nat) (s : List LineQ) (m : List Rat) : Prop := (∀ k, k < s.length → (ln s k).2.1 > 0 → 0 ≤ gf m k) ∧ (∀ i, i < n → comb (cf s i) (gf m) s.length = 0) ∧ (comb (kf s) (gf m) s.length < 0 ∨ (comb (kf s) (gf m) s.length = 0 ∧ ∃ k, k < s.length ∧ (ln s k).2.1 = 2 ∧ 0 < gf m k))
theorem ln_get {s : List LineQ} {k : Nat} (h : k < s.length) : ln s k = s[k] := by simp [ln, h]
theorem sgd_lt (p : Rat) : decide (sgn p < (0 : Int)) = decide (p < 0) := by
  rcases sgn_vals p with ⟨e, h⟩ | ⟨e, h⟩ | ⟨e, h⟩
  · have h2 : decide (p < 0) = true := decide_eq_true h
    rw [e, h2]; rfl
  · have h2 : decide (p < 0) = false := decide_eq_false (by rw [h]; decide)
    rw [e, h2]; rfl
  · have h2 : decide (p < 0) = false := decide_eq_false (Rat.not_lt.2 (Rat.le_of_lt h))
    rw [e, h2]; rfl
theorem sgd_gt (p : Rat) : decide (sgn p > (0 : Int)) = decide (0 < p) := by
  rcases sgn_vals p with ⟨e, h⟩ | ⟨e, h⟩ | ⟨e, h⟩
  · have h2 : decide (0 < p) = false := decide_eq_false (Rat.not_lt.2 (Rat.le_of_lt h))
    rw [e, h2]; rfl
  · have h2 : decide (0 < p) = false := decide_eq_false (by rw [h]; decide)
    rw [e, h2]; rfl
  · have h2 : decide (0 < p) = true := decide_eq_true h
    rw [e, h2]; rfl
theorem sgd_ne (p : Rat) : (sgn p != (0 : Int)) = decide (p ≠ 0) := by
  rcases sgn_vals p with ⟨e, h⟩ | ⟨e, h⟩ | ⟨e, h⟩
  · have h2 : decide (p ≠ 0) = true := decide_eq_true (Rat.ne_of_lt h)
    rw [e, h2]; rfl
  · have h2 : decide (p ≠ 0) = false := decide_eq_false (fun h3 => h3 h)
    rw [e, h2]; rfl
  · have h2 : decide (p ≠ 0) = true := decide_eq_true (Ne.symm (Rat.ne_of_lt h))
    rw [e, h2]; rfl
theorem sgd_eq (p : Rat) : (sgn p == (0 : Int)) = decide (p = 0) := by
  rcases sgn_vals p with ⟨e, h⟩ | ⟨e, h⟩ | ⟨e, h⟩
  · have h2 : decide (p = 0) = false := decide_eq_false (Rat.ne_of_lt h)
    rw [e, h2]; rfl
  · have h2 : decide (p = 0) = true := decide_eq_true h
    rw [e, h2]; rfl
  · have h2 : decide (p = 0) = false := decide_eq_false (Ne.symm (Rat.ne_of_lt h))
    rw [e, h2]; rfl
section
variable {l : List LineD} {s : List LineQ} {mv : List RatD} {m : List Rat} {n : Nat} (hs : RSs WW 20 l s) (hn : ∀ y ∈ s, y.1.length = n) (hm : RLs WW 200 mv m) (hml : mv.length = l.length) (hl : l.length ≤ 40) (hn8 : n ≤ 8)
include hs hn hm hml hl hn8
theorem refutes_l3 {x : Bool} {sums : List RatD} {tot : RatD} (hx : x = true ↔ ∃ k, k < s.length ∧ (ln s k).2.1 = 2 ∧ 0 < gf m k) (hsum : RF WW 20000 sums n (fun i => comb (cf s i) (gf m) s.length)) (ht : RB WW tot (comb (kf s) (gf m) s.length)) (hpos : ∀ k, k < s.length → (ln s k).2.1 > 0 → 0 ≤ gf m k) :
    Ev2 (fun k m0 => linear_Refutes.l3 k m0 x sums (sums.length : Int) ((0 : Nat) : Int) tot) (dc (RefQ n s m), (0 : Int), ()) := by
  have sl : sums.length = n := hsum.1
  have sg1 : ∀ i, i < sums.length → Ev (fun k => num_Sign k (rdT (t := c_api_Rat) sums (i : Int) : RatD)) (sgn (comb (cf s i) (gf m) s.length)) := fun i hi => num_Sign_sp (hsum.2 i (by omega)).1
  have go : ∀ i, i < sums.length → comb (cf s i) (gf m) s.length = 0 → ∀ r, Ev2 (fun k m0 => linear_Refutes.l3 k m0 x sums (sums.length : Int) ((i + 1 : Nat) : Int) tot) r → Ev2 (fun k m0 => linear_Refutes.l3 k m0 x sums (sums.length : Int) (i : Int) tot) r := by
    intro i hi h0 r hr
    refine Ev2.step (fun k m0 => linear_Refutes.l3_succ k m0 _ _ _ _ _) (Ev2.bT (decide_eq_true (by omega)) (Ev2.iT (by omega) (Ev2.bind (sg1 i hi) (Ev2.bF (by rw [sgd_ne, h0]; rfl) ?_))))
    rw [inc1 (by omega)]
    exact hr
  by_cases c : ∀ i, i < n → comb (cf s i) (gf m) s.length = 0
  · refine walk_all (E := fun i r => Ev2 (fun k m0 => linear_Refutes.l3 k m0 x sums (sums.length : Int) (i : Int) tot) r) go ?_ (fun i hi => c i (by omega))
    refine Ev2.step (fun k m0 => linear_Refutes.l3_succ k m0 _ _ _ _ _) (Ev2.bF (decide_eq_false (by omega)) (Ev2.of (Ev.bind (num_Sign_sp ht) ?_)))
    rw [sgd_lt, sgd_eq]
    by_cases c1 : comb (kf s) (gf m) s.length < 0
    · rw [decide_eq_true c1, dc_true (show RefQ n s m from ⟨hpos, c, .inl c1⟩)]
      exact Ev.bind (a := true) (bT rfl (evs _)) (evs _)
    · rw [decide_eq_false c1]
      by_cases c2 : comb (kf s) (gf m) s.length = 0
      · rw [decide_eq_true c2]
        have : dc (RefQ n s m) = x := (dc_of (p := RefQ n s m) (t := x) (by
          rw [hx]
          exact ⟨fun h => ⟨hpos, c, .inr ⟨c2, h⟩⟩, fun h => h.2.2.elim (fun h => absurd h c1) (fun h => h.2)⟩)).symm
        rw [this]
        exact Ev.bind (a := x) (bF rfl (Ev.bind (a := x) (bT rfl (evs _)) (evs _))) (evs _)
      · rw [decide_eq_false c2, dc_false (show ¬ RefQ n s m from fun h => h.2.2.elim c1 (fun h => c2 h.1))]
        exact Ev.bind (a := false) (bF rfl (Ev.bind (a := false) (bF rfl (evs _)) (evs _))) (evs _)
  · rw [dc_false (show ¬ RefQ n s m from fun h => c h.2.1)]
    obtain ⟨j, hj, hnj⟩ : ∃ i, i < n ∧ ¬ comb (cf s i) (gf m) s.length = 0 := Classical.byContradiction (fun hc => c (fun i hi => Classical.byContradiction (fun h2 => hc ⟨i, hi, h2⟩)))
    refine walk_bad (E := fun i r => Ev2 (fun k m0 => linear_Refutes.l3 k m0 x sums (sums.length : Int) (i : Int) tot) r) (fun i hi ht => ?_) go ⟨j, by omega, hnj⟩
    exact Ev2.step (fun k m0 => linear_Refutes.l3_succ k m0 _ _ _ _ _) (Ev2.bT (decide_eq_true (by omega)) (Ev2.iT (by omega) (Ev2.bind (sg1 i hi) (Ev2.bT (by rw [sgd_ne, decide_eq_true ht]) (Ev2.of (evs _))))))
theorem refutes_l2 {k : Nat} (hk : k < l.length) (x : Bool) (tot : RatD) {sums : List RatD} (hsum : RF WW (1 + k * 221) sums n (fun i => comb (cf s i) (gf m) k)) (mk : RatD) (hmk : RB WW mk (gf m k)) (hmz : Sz WW 200 (gf m k)) {r : Bool × Int × Unit}
    (hr : ∀ sums', RF WW (1 + (k + 1) * 221) sums' n (fun i => comb (cf s i) (gf m) (k + 1)) → Ev2 (fun q m0 => linear_Refutes.l1 q m0 mv x l (l.length : Int) ((k + 1 : Nat) : Int) tot sums') r) :
    Ev3 (fun q m1 m0 => linear_Refutes.l2 q m1 m0 mv x l (l.length : Int) (k : Int) l[k].1 (l[k].1.length : Int) ((0 : Nat) : Int) tot sums mk) r := by
  have hks : k < s.length := by rw [← hs.1]; exact hk
  obtain ⟨q1, _, _, _⟩ := hs.2 k hk hks
  have hcl : l[k].1.length = n := by rw [q1.1]; exact hn _ (List.getElem_mem hks)
  have key : ∀ d j, n - j = d → j ≤ n → ∀ sums, RF WW (1 + (k + 1) * 221) sums n (fun i => if i < j then comb (cf s i) (gf m) (k + 1) else comb (cf s i) (gf m) k) → (∀ i, j ≤ i → i < n → Sz WW (1 + k * 221) (comb (cf s i) (gf m) k)) → Ev3 (fun q m1 m0 => linear_Refutes.l2 q m1 m0 mv x l (l.length : Int) (k : Int) l[k].1 (l[k].1.length : Int) (j : Int) tot sums mk) r := by
    intro d
    induction d with
    | zero =>
      intro j hd hj sums hS _
      have : j = n := by omega
      subst this
      refine Ev3.step (fun q m1 m0 => linear_Refutes.l2_succ q m1 m0 _ _ _ _ _ _ _ _ _ _ _) (Ev3.bF (decide_eq_false (by omega)) (Ev3.of ?_))
      rw [inc1 (by omega)]
      exact hr sums (hS.congr (fun i hi => by rw [if_pos hi]))
    | succ d ih =>
      intro j hd hj sums hS hz
      have hj' : j < n := by omega
      have hSl := hS.1
      obtain ⟨a1, a2⟩ := q1.at (i := j) (by omega)
      have e1 : s[k].1.getD j 0 = cf s j k := by simp [cf, ln_get hks]
      rw [e1] at a1 a2
      obtain ⟨p1, p2, p3, p4⟩ := num_Mul_sp hmk a1 hmz a2 (by decide)
      obtain ⟨b1, b2⟩ := hS.2 j hj'
      simp only [if_neg (Nat.lt_irrefl j)] at b1
      obtain ⟨g1, g2, g3, g4⟩ := num_Add_sp b1 p3 (hz j (Nat.le_refl _) hj') p4 (by omega)
      have e2 : comb (cf s j) (gf m) k + gf m k * cf s j k = comb (cf s j) (gf m) (k + 1) := rfl
      rw [e2] at g3 g4
      refine Ev3.step (fun q m1 m0 => linear_Refutes.l2_succ q m1 m0 _ _ _ _ _ _ _ _ _ _ _) (Ev3.bT (decide_eq_true (by omega)) (Ev3.iT (by omega) (Ev3.iT (by omega) (Ev3.bind p2 (Ev3.bind g2 (Ev3.iT (by omega) ?_))))))
      rw [inc1 (by omega)]
      refine ih (j + 1) (by omega) (by omega) _ ((hS.set hj' g3 (sz_mono WW_pos g4 (by omega))).congr (fun i hi => ?_)) (fun i h1 h2 => hz i (by omega) h2)
      by_cases c : i = j
      · rw [if_pos c, if_pos (by omega), c]
      · rw [if_neg c]
        by_cases c2 : i < j
        · rw [if_pos c2, if_pos (by omega)]
        · rw [if_neg c2, if_neg (by omega)]
  exact key n 0 (by omega) (by omega) sums ((hsum.mono WW_pos (by omega)).congr (fun i hi => by rw [if_neg (by omega)])) (fun i _ hi => (hsum.2 i hi).2)
theorem refutes_l1 : ∀ (d k : Nat), l.length - k = d → k ≤ l.length → ∀ (x : Bool) (tot : RatD) (sums : List RatD), (x = true ↔ ∃ j, j < k ∧ (ln s j).2.1 = 2 ∧ 0 < gf m j) → RF WW (1 + k * 221) sums n (fun i => comb (cf s i) (gf m) k) → RB WW tot (comb (kf s) (gf m) k) → Sz WW (1 + k * 221) (comb (kf s) (gf m) k) → (∀ j, j < k → (ln s j).2.1 > 0 → 0 ≤ gf m j) →
    Ev2 (fun q m0 => linear_Refutes.l1 q m0 mv x l (l.length : Int) (k : Int) tot sums) (dc (RefQ n s m), (0 : Int), ()) := by
  have hsl : l.length = s.length := hs.1
  intro d
  induction d with
  | zero =>
    intro k hd hk x tot sums hx hS hT hTz hpos
    have : k = s.length := by omega
    subst this
    exact Ev2.step (fun q m0 => linear_Refutes.l1_succ q m0 _ _ _ _ _ _ _) (Ev2.bF (decide_eq_false (by omega)) (Ev2.ofd (refutes_l3 hs hn hm hml hl hn8 hx (hS.mono WW_pos (by omega)) hT hpos)))
  | succ d ih =>
    intro k hd hk x tot sums hx hS hT hTz hpos
    have hk' : k < l.length := by omega
    have hks : k < s.length := by omega
    obtain ⟨q1, q2, q3, q4⟩ := hs.2 k hk' hks
    have e : (rdT (t := c_api_Line) l (k : Int) : LineD) = l[k] := rd_get hk'
    have hrel : l[k].2.1 = (ln s k).2.1 := by rw [ln_get hks]; exact q2
    obtain ⟨m1, m2⟩ : RB WW (rdT (t := c_api_Rat) mv (k : Int) : RatD) (gf m k) ∧ Sz WW 200 (gf m k) := hm.at (i := k) (by rw [hml]; exact hk')
    have hd' : l.length - (k + 1) = d := by rw [Nat.sub_succ, hd]; rfl
    have hsg := num_Sign_sp m1
    refine Ev2.step (fun q m0 => linear_Refutes.l1_succ q m0 _ _ _ _ _ _ _) (Ev2.bT (decide_eq_true (by omega)) (Ev2.iT (by omega) (Ev2.iT (by omega) ?_)))
    rw [e]
    have next : (¬ ((ln s k).2.1 > 0 ∧ gf m k < 0)) → ∀ b9 : Bool, (b9 = true ↔ ∃ j, j < k + 1 ∧ (ln s j).2.1 = 2 ∧ 0 < gf m j) → Ev2 (fun q m0 => (num_Mul q (rdT (t := c_api_Rat) mv (k : Int) : RatD) l[k].2.2.1).bind fun (v10 : RatD) => (num_Add q tot v10).bind fun (v11 : RatD) => linear_Refutes.l2 q q m0 mv b9 l (l.length : Int) (k : Int) l[k].1 (List.length l[k].1 : Int) (0 : Int) v11 sums (rdT (t := c_api_Rat) mv (k : Int) : RatD)) (dc (RefQ n s m), (0 : Int), ()) := by
      intro hok b9 hb9
      have ek : s[k].2.2 = kf s k := by simp [kf, ln_get hks]
      rw [ek] at q3 q4
      obtain ⟨p1, p2, p3, p4⟩ := num_Mul_sp m1 q3 m2 q4 (by decide)
      obtain ⟨g1, g2, g3, g4⟩ := num_Add_sp hT p3 hTz p4 (by omega)
      refine Ev2.bind p2 (Ev2.bind g2 (Ev3.diag (g := fun q m1 m0 => linear_Refutes.l2 q m1 m0 mv b9 l (l.length : Int) (k : Int) l[k].1 (List.length l[k].1 : Int) ((0 : Nat) : Int) g1 sums (rdT (t := c_api_Rat) mv (k : Int) : RatD)) ?_))
      refine refutes_l2 hs hn hm hml hl hn8 hk' b9 g1 hS _ m1 m2 (fun sums' hS' => ?_)
      exact ih (k + 1) hd' hk' b9 g1 sums' hb9 hS' g3 (sz_mono WW_pos g4 (by omega)) (fun j hj hg => by
        by_cases c : j = k
        · rw [c] at hg ⊢
          exact Rat.not_lt.1 (fun h => hok ⟨hg, h⟩)
        · exact hpos j (by omega) hg)
    have strict : ∀ t : Bool, (t = true ↔ ((ln s k).2.1 = 2 ∧ 0 < gf m k)) → ((x || t) = true ↔ ∃ j, j < k + 1 ∧ (ln s j).2.1 = 2 ∧ 0 < gf m j) := by
      intro t ht
      rw [Bool.or_eq_true, hx, ht]
      constructor
      · rintro (⟨j, h1, h2⟩ | h)
        · exact ⟨j, by omega, h2⟩
        · exact ⟨k, by omega, h⟩
      · rintro ⟨j, h1, h2⟩
        by_cases c : j = k
        · rw [c] at h2; exact .inr h2
        · exact .inl ⟨j, by omega, h2⟩
    have rest : (¬ ((ln s k).2.1 > 0 ∧ gf m k < 0)) → Ev2 (fun q m0 => (bif x then some true else (bif l[k].2.1 == (2 : Int) then (num_Sign q (rdT (t := c_api_Rat) mv (k : Int) : RatD)).bind fun (v7 : Int) => some (decide (v7 > (0 : Int))) else some false).bind fun (b8 : Bool) => some b8).bind fun (b9 : Bool) => (num_Mul q (rdT (t := c_api_Rat) mv (k : Int) : RatD) l[k].2.2.1).bind fun (v10 : RatD) => (num_Add q tot v10).bind fun (v11 : RatD) => linear_Refutes.l2 q q m0 mv b9 l (l.length : Int) (k : Int) l[k].1 (List.length l[k].1 : Int) (0 : Int) v11 sums (rdT (t := c_api_Rat) mv (k : Int) : RatD)) (dc (RefQ n s m), (0 : Int), ()) := by
      intro hok
      cases x with
      | true => exact Ev2.bind (a := true) (bT rfl (evs _)) (next hok true (strict (dc ((ln s k).2.1 = 2 ∧ 0 < gf m k)) dc_iff))
      | false =>
        by_cases c2 : (ln s k).2.1 = 2
        · refine Ev2.bind (a := decide (0 < gf m k)) (bF rfl (Ev.bind (a := decide (0 < gf m k)) (bT (by rw [hrel, c2]; rfl) (Ev.bind hsg ?_)) (evs _))) (next hok _ ?_)
          · rw [sgd_gt]; exact evs _
          · have := strict (decide (0 < gf m k)) (by rw [decide_eq_true_eq]; exact ⟨fun h => ⟨c2, h⟩, fun h => h.2⟩)
            rwa [Bool.false_or] at this
        · refine Ev2.bind (a := false) (bF rfl (Ev.bind (a := false) (bF (by rw [hrel]; simpa using c2) (evs _)) (evs _))) (next hok _ ?_)
          have := strict false (by simp [c2])
          rwa [Bool.false_or] at this
    by_cases c1 : (ln s k).2.1 > 0
    · by_cases c2 : gf m k < 0
      · rw [dc_false (show ¬ RefQ n s m from fun h => Rat.not_lt.2 (h.1 k hks c1) c2)]
        refine Ev2.bind (a := true) (bT (by rw [hrel]; exact decide_eq_true c1) (Ev.bind hsg ?_)) (Ev2.bT rfl (Ev2.of (evs _)))
        rw [sgd_lt, decide_eq_true c2]; exact evs _
      · refine Ev2.bind (a := false) (bT (by rw [hrel]; exact decide_eq_true c1) (Ev.bind hsg ?_)) (Ev2.bF rfl (rest (fun h => c2 h.2)))
        rw [sgd_lt, decide_eq_false c2]; exact evs _
    · exact Ev2.bind (a := false) (bF (by rw [hrel]; exact decide_eq_false c1) (evs _)) (Ev2.bF rfl (rest (fun h => c1 h.1)))
end
end Go.Proofs.YtjimdhlmeebjeaaGreat.Q
end
section
namespace Go.Proofs.YtjimdhlmeebjeaaGreat.Q
open Go.RowKit Go.Proofs.YtjimdhlmeebjeaaGreatW.PrintWords Go.Proofs.YtjimdhlmeebjeaaGreatW.PrintMore Go.Proofs.YtjimdhlmeebjeaaGreat.V Go.Proofs.YtjimdhlmeebjeaaGreat.E
open Go.Proofs.YtjimdhlmeebjeaaGreat.P (Dg Nm vl WW RR can_uniq gI evs evk evb cmpi WW_pos WW_one RR_pos w64 u64)
set_option linter.unusedVariables false
theorem rd_set {l : List RatD} {i j : Nat} {v : RatD} (hi : i < l.length) : (rdT (t := c_api_Rat) (l.set j v) (i : Int) : RatD) = if i = j then v else (rdT (t := c_api_Rat) l (i : Int) : RatD) := by
  rw [show (rdT (t := c_api_Rat) (l.set j v) (i : Int) : RatD) = (l.set j v)[i]'(by simpa using hi) from rd_get (by simpa using hi), List.getElem_set]
  by_cases cij : j = i
  · rw [if_pos cij, if_pos cij.symm]
  · rw [if_neg cij, if_neg (Ne.symm cij)]
    exact (rd_get (t := c_api_Rat) hi).symm
theorem Refutes_sp {n : Int} {l : List LineD} {mv : List RatD} (ha : ArgS l) (hp : Args mv) : Ev (fun k => linear_Refutes k n l mv) (ifc (OkS n l) (ifc ((∀ x ∈ mv, VN 200 x) ∧ (mv.length : Int) = l.length) (dc (RefQ n.toNat (valS l) (valL mv)), (0 : Int), ()) (false, (1 : Int), ())) (false, (3 : Int), ())) := by
  have hC := Check_ev (n := n) ha
  have hN := numbers_ev (l.length : Int) hp
  refine Ev.step (fun k => linear_Refutes_eq k n l mv) ?_
  by_cases c1 : OkS n l
  · rw [ifc_t c1] at hC ⊢
    refine Ev.bind hC (bF rfl ?_)
    by_cases c2 : (∀ x ∈ mv, VN 200 x) ∧ (mv.length : Int) = l.length
    · rw [dc_true c2] at hN
      rw [ifc_t c2]
      obtain ⟨⟨n0, n8, l40⟩, hall⟩ := c1
      obtain ⟨N, rfl⟩ : ∃ N : Nat, n = (N : Int) := ⟨n.toNat, by omega⟩
      have hN8 : N ≤ 8 := by omega
      rw [Int.toNat_natCast]
      refine Ev.bind hN (bF rfl (Ev.bind num_Zero_ev (iT ⟨by omega, by omega, by omega, by simp only [maxLen]; omega⟩ ?_)))
      refine Ev2.diag (g := fun k m0 => linear_Refutes.l0 k m0 l mv false _ ((0 : Nat) : Int) _ _) ?_
      have hs : RSs WW 20 l (valS l) := rss_val (n := (N : Int)) ⟨⟨n0, n8, l40⟩, hall⟩
      have hn : ∀ y ∈ valS l, y.1.length = N := by
        intro y hy
        obtain ⟨x, hx, rfl⟩ := List.mem_map.1 hy
        have := (hall x hx).1.1
        simp only [valN, val_len]
        omega
      have hm := rls_val c2.1
      have hml : mv.length = l.length := by have := c2.2; omega
      have hlen : (List.replicate N ((false, [], [], ()) : RatD)).length = N := List.length_replicate
      have key : ∀ d i, N - i = d → i ≤ N → ∀ sums : List RatD, sums.length = N → (∀ j, j < i → RB WW (rdT (t := c_api_Rat) sums (j : Int) : RatD) 0) → Ev2 (fun k m0 => linear_Refutes.l0 k m0 l mv false (List.length (List.replicate N ((false, [], [], ()) : RatD)) : Int) (i : Int) (false, [], [1], ()) sums) (dc (RefQ N (valS l) (valL mv)), (0 : Int), ()) := by
        intro d
        induction d with
        | zero =>
          intro i hd hi sums hsl hz
          have : i = N := by omega
          subst this
          refine Ev2.step (fun k m0 => linear_Refutes.l0_succ k m0 _ _ _ _ _ _ _) (Ev2.bF (decide_eq_false (by omega)) (Ev2.ofd (g := fun k m0 => linear_Refutes.l1 k m0 mv false l (l.length : Int) ((0 : Nat) : Int) (false, [], [1], ()) sums) ?_))
          refine refutes_l1 hs hn hm hml l40 hN8 l.length 0 (by omega) (by omega) false _ sums (by simp) ⟨hsl, fun i hi => ?_⟩ (rb_zero WW_one) (sz_mono WW_pos (sz_zero WW_one) (by omega)) (fun j hj => by omega)
          exact ⟨hz i hi, sz_mono WW_pos (sz_zero WW_one) (by omega)⟩
        | succ d ih =>
          intro i hd hi sums hsl hz
          have hi' : i < N := by omega
          refine Ev2.step (fun k m0 => linear_Refutes.l0_succ k m0 _ _ _ _ _ _ _) (Ev2.bT (decide_eq_true (by omega)) (Ev2.bind num_Zero_ev (Ev2.iT (by omega) ?_)))
          rw [inc1 (by omega)]
          refine ih (i + 1) (by omega) (by omega) _ (by simpa using hsl) (fun j hj => ?_)
          rw [Int.toNat_natCast, rd_set (by omega)]
          by_cases c : j = i
          · rw [if_pos c]; exact rb_zero WW_one
          · rw [if_neg c]; exact hz j (by omega)
      exact key N 0 (by omega) (by omega) _ hlen (fun j hj => by omega)
    · rw [dc_false c2] at hN
      rw [ifc_f c2]
      exact Ev.bind hN (bT rfl (evs _))
  · rw [ifc_f c1] at hC ⊢
    exact Ev.bind hC (bT rfl (evs _))
end Go.Proofs.YtjimdhlmeebjeaaGreat.Q
end
section
namespace Go.Proofs.YtjimdhlmeebjeaaGreat.Q
open Go.RowKit Go.Proofs.YtjimdhlmeebjeaaGreatW.PrintWords Go.Proofs.YtjimdhlmeebjeaaGreatW.PrintMore Go.Proofs.YtjimdhlmeebjeaaGreat.V Go.Proofs.YtjimdhlmeebjeaaGreat.E
open Go.Proofs.YtjimdhlmeebjeaaGreat.P (Dg Nm vl WW RR can_uniq gI evs evk evb cmpi WW_pos WW_one RR_pos w64 u64)
set_option linter.unusedVariables false
set_option linter.unusedSectionVars false
section
variable {l : List LineD} {s : List LineQ} {mv : List RatD} {m : List Rat} {n : Nat} (hs : RSs RR 80 l s) (hn : ∀ y ∈ s, y.1.length = n) (hm : RLs RR 800 mv m) (hml : mv.length = l.length) (hl : l.length ≤ 40) (hn8 : n ≤ 8)
include hs hn hm hml hl hn8
theorem rrefutes_l3 {x : Bool} {sums : List RatD} {tot : RatD} (hx : x = true ↔ ∃ k, k < s.length ∧ (ln s k).2.1 = 2 ∧ 0 < gf m k) (hsum : RF RR 40000 sums n (fun i => comb (cf s i) (gf m) s.length)) (ht : RB RR tot (comb (kf s) (gf m) s.length)) (hpos : ∀ k, k < s.length → (ln s k).2.1 > 0 → 0 ≤ gf m k) :
    Ev2 (fun k m0 => isochroneref05_Refutes.l3 k m0 x sums (sums.length : Int) ((0 : Nat) : Int) tot) (dc (RefQ n s m)) := by
  have sl : sums.length = n := hsum.1
  have sg1 : ∀ i, i < sums.length → Ev (fun k => isochroneref02_Sign k (rdT (t := c_api_Rat) sums (i : Int) : RatD)) (sgn (comb (cf s i) (gf m) s.length)) := fun i hi => ref_Sign_sp (hsum.2 i (by omega)).1
  have go : ∀ i, i < sums.length → comb (cf s i) (gf m) s.length = 0 → ∀ r, Ev2 (fun k m0 => isochroneref05_Refutes.l3 k m0 x sums (sums.length : Int) ((i + 1 : Nat) : Int) tot) r → Ev2 (fun k m0 => isochroneref05_Refutes.l3 k m0 x sums (sums.length : Int) (i : Int) tot) r := by
    intro i hi h0 r hr
    refine Ev2.step (fun k m0 => isochroneref05_Refutes.l3_succ k m0 _ _ _ _ _) (Ev2.bT (decide_eq_true (by omega)) (Ev2.iT (by omega) (Ev2.bind (sg1 i hi) (Ev2.bF (by rw [sgd_ne, h0]; rfl) ?_))))
    rw [inc1 (by omega)]
    exact hr
  by_cases c : ∀ i, i < n → comb (cf s i) (gf m) s.length = 0
  · refine walk_all (E := fun i r => Ev2 (fun k m0 => isochroneref05_Refutes.l3 k m0 x sums (sums.length : Int) (i : Int) tot) r) go ?_ (fun i hi => c i (by omega))
    refine Ev2.step (fun k m0 => isochroneref05_Refutes.l3_succ k m0 _ _ _ _ _) (Ev2.bF (decide_eq_false (by omega)) (Ev2.of (Ev.bind (ref_Sign_sp ht) ?_)))
    rw [sgd_lt]
    by_cases c1 : comb (kf s) (gf m) s.length < 0
    · rw [decide_eq_true c1, dc_true (show RefQ n s m from ⟨hpos, c, .inl c1⟩)]
      exact Ev.bind (a := true) (bT rfl (evs _)) (evs _)
    · rw [decide_eq_false c1]
      by_cases c2 : comb (kf s) (gf m) s.length = 0
      · have : dc (RefQ n s m) = x := (dc_of (p := RefQ n s m) (t := x) (by
          rw [hx]
          exact ⟨fun h => ⟨hpos, c, .inr ⟨c2, h⟩⟩, fun h => h.2.2.elim (fun h => absurd h c1) (fun h => h.2)⟩)).symm
        rw [this]
        exact Ev.bind (a := x) (bF rfl (Ev.bind (ref_Sign_sp ht) (Ev.bind (a := x) (bT (by rw [sgd_eq, decide_eq_true c2]) (evs _)) (evs _)))) (evs _)
      · rw [dc_false (show ¬ RefQ n s m from fun h => h.2.2.elim c1 (fun h => c2 h.1))]
        exact Ev.bind (a := false) (bF rfl (Ev.bind (ref_Sign_sp ht) (Ev.bind (a := false) (bF (by rw [sgd_eq, decide_eq_false c2]) (evs _)) (evs _)))) (evs _)
  · rw [dc_false (show ¬ RefQ n s m from fun h => c h.2.1)]
    obtain ⟨j, hj, hnj⟩ : ∃ i, i < n ∧ ¬ comb (cf s i) (gf m) s.length = 0 := Classical.byContradiction (fun hc => c (fun i hi => Classical.byContradiction (fun h2 => hc ⟨i, hi, h2⟩)))
    refine walk_bad (E := fun i r => Ev2 (fun k m0 => isochroneref05_Refutes.l3 k m0 x sums (sums.length : Int) (i : Int) tot) r) (fun i hi ht => ?_) go ⟨j, by omega, hnj⟩
    exact Ev2.step (fun k m0 => isochroneref05_Refutes.l3_succ k m0 _ _ _ _ _) (Ev2.bT (decide_eq_true (by omega)) (Ev2.iT (by omega) (Ev2.bind (sg1 i hi) (Ev2.bT (by rw [sgd_ne, decide_eq_true ht]) (Ev2.of (evs _))))))
theorem rrefutes_l2 {k : Nat} (hk : k < l.length) (x : Bool) (tot : RatD) {sums : List RatD} (hsum : RF RR (1 + k * 881) sums n (fun i => comb (cf s i) (gf m) k)) (hmk : RB RR (rdT (t := c_api_Rat) mv (k : Int) : RatD) (gf m k)) (hmz : Sz RR 800 (gf m k)) {r : Bool}
    (hr : ∀ sums', RF RR (1 + (k + 1) * 881) sums' n (fun i => comb (cf s i) (gf m) (k + 1)) → Ev2 (fun q m0 => isochroneref05_Refutes.l1 q m0 mv x l (l.length : Int) ((k + 1 : Nat) : Int) tot sums') r) :
    Ev3 (fun q m1 m0 => isochroneref05_Refutes.l2 q m1 m0 mv x (k : Int) l (l.length : Int) (k : Int) (n : Int) ((0 : Nat) : Int) tot sums l[k]) r := by
  have hks : k < s.length := by rw [← hs.1]; exact hk
  obtain ⟨q1, _, _, _⟩ := hs.2 k hk hks
  have hcl : l[k].1.length = n := by rw [q1.1]; exact hn _ (List.getElem_mem hks)
  have key : ∀ d j, n - j = d → j ≤ n → ∀ sums, RF RR (1 + (k + 1) * 881) sums n (fun i => if i < j then comb (cf s i) (gf m) (k + 1) else comb (cf s i) (gf m) k) → (∀ i, j ≤ i → i < n → Sz RR (1 + k * 881) (comb (cf s i) (gf m) k)) → Ev3 (fun q m1 m0 => isochroneref05_Refutes.l2 q m1 m0 mv x (k : Int) l (l.length : Int) (k : Int) (n : Int) (j : Int) tot sums l[k]) r := by
    intro d
    induction d with
    | zero =>
      intro j hd hj sums hS _
      have : j = n := by omega
      subst this
      refine Ev3.step (fun q m1 m0 => isochroneref05_Refutes.l2_succ q m1 m0 _ _ _ _ _ _ _ _ _ _ _) (Ev3.bF (decide_eq_false (by omega)) (Ev3.of ?_))
      rw [inc1 (by omega)]
      exact hr sums (hS.congr (fun i hi => by rw [if_pos hi]))
    | succ d ih =>
      intro j hd hj sums hS hz
      have hj' : j < n := by omega
      have hSl := hS.1
      obtain ⟨a1, a2⟩ := q1.at (i := j) (by omega)
      have e1 : s[k].1.getD j 0 = cf s j k := by simp [cf, ln_get hks]
      rw [e1] at a1 a2
      obtain ⟨p1, p2, p3, p4⟩ := ref_Mul_sp hmk a1 hmz a2 (by decide)
      obtain ⟨b1, b2⟩ := hS.2 j hj'
      simp only [if_neg (Nat.lt_irrefl j)] at b1
      obtain ⟨g1, g2, g3, g4⟩ := ref_Add_sp b1 p3 (hz j (Nat.le_refl _) hj') p4 (by omega)
      have e2 : comb (cf s j) (gf m) k + gf m k * cf s j k = comb (cf s j) (gf m) (k + 1) := rfl
      rw [e2] at g3 g4
      refine Ev3.step (fun q m1 m0 => isochroneref05_Refutes.l2_succ q m1 m0 _ _ _ _ _ _ _ _ _ _ _) (Ev3.bT (decide_eq_true (by omega)) (Ev3.iT (by omega) (Ev3.iT (by omega) (Ev3.iT (by omega) (Ev3.bind p2 (Ev3.bind g2 (Ev3.iT (by omega) ?_)))))))
      rw [inc1 (by omega)]
      refine ih (j + 1) (by omega) (by omega) _ ((hS.set hj' g3 (sz_mono RR_pos g4 (by omega))).congr (fun i hi => ?_)) (fun i h1 h2 => hz i (by omega) h2)
      by_cases c : i = j
      · rw [if_pos c, if_pos (by omega), c]
      · rw [if_neg c]
        by_cases c2 : i < j
        · rw [if_pos c2, if_pos (by omega)]
        · rw [if_neg c2, if_neg (by omega)]
  exact key n 0 (by omega) (by omega) sums ((hsum.mono RR_pos (by omega)).congr (fun i hi => by rw [if_neg (by omega)])) (fun i _ hi => (hsum.2 i hi).2)
theorem rrefutes_l1 : ∀ (d k : Nat), l.length - k = d → k ≤ l.length → ∀ (x : Bool) (tot : RatD) (sums : List RatD), (x = true ↔ ∃ j, j < k ∧ (ln s j).2.1 = 2 ∧ 0 < gf m j) → RF RR (1 + k * 881) sums n (fun i => comb (cf s i) (gf m) k) → RB RR tot (comb (kf s) (gf m) k) → Sz RR (1 + k * 881) (comb (kf s) (gf m) k) → (∀ j, j < k → (ln s j).2.1 > 0 → 0 ≤ gf m j) →
    Ev2 (fun q m0 => isochroneref05_Refutes.l1 q m0 mv x l (l.length : Int) (k : Int) tot sums) (dc (RefQ n s m)) := by
  have hsl : l.length = s.length := hs.1
  intro d
  induction d with
  | zero =>
    intro k hd hk x tot sums hx hS hT hTz hpos
    have : k = s.length := by omega
    subst this
    exact Ev2.step (fun q m0 => isochroneref05_Refutes.l1_succ q m0 _ _ _ _ _ _ _) (Ev2.bF (decide_eq_false (by omega)) (Ev2.ofd (rrefutes_l3 hs hn hm hml hl hn8 hx (hS.mono RR_pos (by omega)) hT hpos)))
  | succ d ih =>
    intro k hd hk x tot sums hx hS hT hTz hpos
    have hk' : k < l.length := by omega
    have hks : k < s.length := by omega
    obtain ⟨q1, q2, q3, q4⟩ := hs.2 k hk' hks
    have e : (rdT (t := c_isochroneref05_Line) l (k : Int) : LineD) = l[k] := rd_get hk'
    have hrel : l[k].2.1 = (ln s k).2.1 := by rw [ln_get hks]; exact q2
    obtain ⟨m1, m2⟩ : RB RR (rdT (t := c_api_Rat) mv (k : Int) : RatD) (gf m k) ∧ Sz RR 800 (gf m k) := hm.at (i := k) (by rw [hml]; exact hk')
    have hd' : l.length - (k + 1) = d := by rw [Nat.sub_succ, hd]; rfl
    have hsg := ref_Sign_sp m1
    have hki : 0 ≤ (k : Int) ∧ (k : Int) < (List.length mv : Int) := by omega
    rw [← e] at q3 hrel
    refine Ev2.step (fun q m0 => isochroneref05_Refutes.l1_succ q m0 _ _ _ _ _ _ _) (Ev2.bT (decide_eq_true (by omega)) (Ev2.iT (by omega) ?_))
    have next : (¬ ((ln s k).2.1 > 0 ∧ gf m k < 0)) → ∀ b9 : Bool, (b9 = true ↔ ∃ j, j < k + 1 ∧ (ln s j).2.1 = 2 ∧ 0 < gf m j) → Ev2 (fun q m0 => (if 0 ≤ (k : Int) ∧ (k : Int) < (List.length mv : Int) then (isochroneref02_Mul q (rdT (t := c_api_Rat) mv (k : Int) : RatD) (rdT (t := c_isochroneref05_Line) l (k : Int) : LineD).2.2.1).bind fun (v10 : RatD) => (isochroneref02_Add q tot v10).bind fun (v11 : RatD) => isochroneref05_Refutes.l2 q q m0 mv b9 (k : Int) l (l.length : Int) (k : Int) (List.length sums : Int) (0 : Int) v11 sums (rdT (t := c_isochroneref05_Line) l (k : Int) : LineD) else none)) (dc (RefQ n s m)) := by
      intro hok b9 hb9
      have ek : s[k].2.2 = kf s k := by simp [kf, ln_get hks]
      rw [ek] at q3 q4
      obtain ⟨p1, p2, p3, p4⟩ := ref_Mul_sp m1 q3 m2 q4 (by decide)
      obtain ⟨g1, g2, g3, g4⟩ := ref_Add_sp hT p3 hTz p4 (by omega)
      have hsl2 : sums.length = n := hS.1
      refine Ev2.iT hki (Ev2.bind p2 (Ev2.bind g2 (Ev3.diag (g := fun q m1 m0 => isochroneref05_Refutes.l2 q m1 m0 mv b9 (k : Int) l (l.length : Int) (k : Int) (List.length sums : Int) ((0 : Nat) : Int) g1 sums (rdT (t := c_isochroneref05_Line) l (k : Int) : LineD)) ?_)))
      rw [hsl2, e]
      refine rrefutes_l2 hs hn hm hml hl hn8 hk' b9 g1 hS m1 m2 (fun sums' hS' => ?_)
      exact ih (k + 1) hd' hk' b9 g1 sums' hb9 hS' g3 (sz_mono RR_pos g4 (by omega)) (fun j hj hg => by
        by_cases c : j = k
        · rw [c] at hg ⊢
          exact Rat.not_lt.1 (fun h => hok ⟨hg, h⟩)
        · exact hpos j (by omega) hg)
    have strict : ∀ t : Bool, (t = true ↔ ((ln s k).2.1 = 2 ∧ 0 < gf m k)) → ((x || t) = true ↔ ∃ j, j < k + 1 ∧ (ln s j).2.1 = 2 ∧ 0 < gf m j) := by
      intro t ht
      rw [Bool.or_eq_true, hx, ht]
      constructor
      · rintro (⟨j, h1, h2⟩ | h)
        · exact ⟨j, by omega, h2⟩
        · exact ⟨k, by omega, h⟩
      · rintro ⟨j, h1, h2⟩
        by_cases c : j = k
        · rw [c] at h2; exact .inr h2
        · exact .inl ⟨j, by omega, h2⟩
    have rest : (¬ ((ln s k).2.1 > 0 ∧ gf m k < 0)) → Ev2 (fun q m0 => (bif x then some true else (bif (rdT (t := c_isochroneref05_Line) l (k : Int) : LineD).2.1 == (2 : Int) then if 0 ≤ (k : Int) ∧ (k : Int) < (List.length mv : Int) then (isochroneref02_Sign q (rdT (t := c_api_Rat) mv (k : Int) : RatD)).bind fun (v7 : Int) => some (decide (v7 > (0 : Int))) else none else some false).bind fun (b8 : Bool) => some b8).bind fun (b9 : Bool) => (if 0 ≤ (k : Int) ∧ (k : Int) < (List.length mv : Int) then (isochroneref02_Mul q (rdT (t := c_api_Rat) mv (k : Int) : RatD) (rdT (t := c_isochroneref05_Line) l (k : Int) : LineD).2.2.1).bind fun (v10 : RatD) => (isochroneref02_Add q tot v10).bind fun (v11 : RatD) => isochroneref05_Refutes.l2 q q m0 mv b9 (k : Int) l (l.length : Int) (k : Int) (List.length sums : Int) (0 : Int) v11 sums (rdT (t := c_isochroneref05_Line) l (k : Int) : LineD) else none)) (dc (RefQ n s m)) := by
      intro hok
      cases x with
      | true => exact Ev2.bind (a := true) (bT rfl (evs _)) (next hok true (strict (dc ((ln s k).2.1 = 2 ∧ 0 < gf m k)) dc_iff))
      | false =>
        by_cases c2 : (ln s k).2.1 = 2
        · refine Ev2.bind (a := decide (0 < gf m k)) (bF rfl (Ev.bind (a := decide (0 < gf m k)) (bT (by rw [hrel, c2]; rfl) (iT hki (Ev.bind hsg ?_))) (evs _))) (next hok _ ?_)
          · rw [sgd_gt]; exact evs _
          · have := strict (decide (0 < gf m k)) (by rw [decide_eq_true_eq]; exact ⟨fun h => ⟨c2, h⟩, fun h => h.2⟩)
            rwa [Bool.false_or] at this
        · refine Ev2.bind (a := false) (bF rfl (Ev.bind (a := false) (bF (by rw [hrel]; simpa using c2) (evs _)) (evs _))) (next hok _ ?_)
          have := strict false (by simp [c2])
          rwa [Bool.false_or] at this
    by_cases c1 : (ln s k).2.1 > 0
    · by_cases c2 : gf m k < 0
      · rw [dc_false (show ¬ RefQ n s m from fun h => Rat.not_lt.2 (h.1 k hks c1) c2)]
        refine Ev2.bind (a := true) (bT (by rw [hrel]; exact decide_eq_true c1) (iT hki (Ev.bind hsg ?_))) (Ev2.bT rfl (Ev2.of (evs _)))
        rw [sgd_lt, decide_eq_true c2]; exact evs _
      · refine Ev2.bind (a := false) (bT (by rw [hrel]; exact decide_eq_true c1) (iT hki (Ev.bind hsg ?_))) (Ev2.bF rfl (rest (fun h => c2 h.2)))
        rw [sgd_lt, decide_eq_false c2]; exact evs _
    · exact Ev2.bind (a := false) (bF (by rw [hrel]; exact decide_eq_false c1) (evs _)) (Ev2.bF rfl (rest (fun h => c1 h.1)))
end
end Go.Proofs.YtjimdhlmeebjeaaGreat.Q
end
section
namespace Go.Proofs.YtjimdhlmeebjeaaGreat.Q
open Go.RowKit Go.Proofs.YtjimdhlmeebjeaaGreatW.PrintWords Go.Proofs.YtjimdhlmeebjeaaGreatW.PrintMore Go.Proofs.YtjimdhlmeebjeaaGreat.V Go.Proofs.YtjimdhlmeebjeaaGreat.E
open Go.Proofs.YtjimdhlmeebjeaaGreat.P (Dg Nm vl WW RR can_uniq gI evs evk evb cmpi WW_pos WW_one RR_pos w64 u64)
set_option linter.unusedVariables false
theorem ref_Refutes_sp {N : Nat} {l : List LineD} {s : List LineQ} {mv : List RatD} {m : List Rat} (hs : RSs RR 80 l s) (hn : ∀ y ∈ s, y.1.length = N) (hm : RLs RR 800 mv m) (hml : mv.length = l.length) (l40 : l.length ≤ 40) (hN8 : N ≤ 8) : Ev (fun k => isochroneref05_Refutes k (N : Int) l mv) (dc (RefQ N s m)) := by
  refine Ev.step (fun k => isochroneref05_Refutes_eq k _ l mv) (Ev.bind ref_Zero_ev ?_)
  rw [Int.toNat_natCast]
  refine iT ⟨by omega, by omega, by omega, by simp only [maxLen]; omega⟩ ?_
  refine Ev2.diag (g := fun k m0 => isochroneref05_Refutes.l0 k m0 l mv false _ ((0 : Nat) : Int) _ _) ?_
  have hlen : (List.replicate N ((false, [], [], ()) : RatD)).length = N := List.length_replicate
  have key : ∀ d i, N - i = d → i ≤ N → ∀ sums : List RatD, sums.length = N → (∀ j, j < i → RB RR (rdT (t := c_api_Rat) sums (j : Int) : RatD) 0) → Ev2 (fun k m0 => isochroneref05_Refutes.l0 k m0 l mv false (List.length (List.replicate N ((false, [], [], ()) : RatD)) : Int) (i : Int) (false, [], [1], ()) sums) (dc (RefQ N s m)) := by
    intro d
    induction d with
    | zero =>
      intro i hd hi sums hsl hz
      have : i = N := by omega
      subst this
      refine Ev2.step (fun k m0 => isochroneref05_Refutes.l0_succ k m0 _ _ _ _ _ _ _) (Ev2.bF (decide_eq_false (by omega)) (Ev2.ofd (g := fun k m0 => isochroneref05_Refutes.l1 k m0 mv false l (l.length : Int) ((0 : Nat) : Int) (false, [], [1], ()) sums) ?_))
      refine rrefutes_l1 hs hn hm hml l40 hN8 l.length 0 (by omega) (by omega) false _ sums (by simp) ⟨hsl, fun i hi => ?_⟩ (rb_zero RR_one) (sz_mono RR_pos (sz_zero RR_one) (by omega)) (fun j hj => by omega)
      exact ⟨hz i hi, sz_mono RR_pos (sz_zero RR_one) (by omega)⟩
    | succ d ih =>
      intro i hd hi sums hsl hz
      have hi' : i < N := by omega
      refine Ev2.step (fun k m0 => isochroneref05_Refutes.l0_succ k m0 _ _ _ _ _ _ _) (Ev2.bT (decide_eq_true (by omega)) (Ev2.bind ref_Zero_ev (Ev2.iT (by omega) ?_)))
      rw [inc1 (by omega)]
      refine ih (i + 1) (by omega) (by omega) _ (by simpa using hsl) (fun j hj => ?_)
      rw [Int.toNat_natCast, rd_set (by omega)]
      by_cases c : j = i
      · rw [if_pos c]; exact rb_zero RR_one
      · rw [if_neg c]; exact hz j (by omega)
  exact key N 0 (by omega) (by omega) _ hlen (fun j hj => by omega)
end Go.Proofs.YtjimdhlmeebjeaaGreat.Q
end
section
namespace Go.Proofs.YtjimdhlmeebjeaaGreat.E
open Go.RowKit Go.Proofs.YtjimdhlmeebjeaaGreatW.PrintWords Go.Proofs.YtjimdhlmeebjeaaGreatW.PrintMore Go.Proofs.YtjimdhlmeebjeaaGreat.V
set_option linter.unusedVariables false
def Lq {β : Type} (x y : Option β) : Prop := ∀ r, x = some r → y = some r
theorem Lq.refl {β : Type} (x : Option β) : Lq x x := fun _ h => h
theorem lq_none {β : Type} {y : Option β} : Lq none y := fun _ h => by cases h
theorem lq_ite {β : Type} {c : Option Cond} {x y : Option β} (h : Lq x y) : Lq (iteO c x) (iteO c y) := by
  cases c with
  | none => exact h
  | some c =>
    intro r hr
    simp only [iteO] at hr ⊢
    by_cases hp : c.p
    · rw [if_pos hp] at hr ⊢; exact h r hr
    · rw [if_neg hp] at hr; cases hr
theorem lq_bind {α β : Type} {x x' : Option α} {f f' : α → Option β} (h : Lq x x') (hf : ∀ a, Lq (f a) (f' a)) : Lq (x.bind f) (x'.bind f') := by
  intro r hr
  obtain ⟨a, h1, h2⟩ := Option.bind_eq_some_iff.1 hr
  rw [h a h1]
  exact hf a r h2
theorem lq_cond {β : Type} {b : Bool} {x x' y y' : Option β} (h : Lq x x') (h' : Lq y y') : Lq (cond b x y) (cond b x' y') := by cases b <;> assumption
section
variable {T : Tab} {F : Nat} {call call' : (g : Nat) → List Val → Option (T.out g).den} {lim : Option (List Meta)} {ctx : Option (Nat × Bool)} {i : Nat} {β : Type} {k k' : ES → Option β}
theorem plain_lq (hk : ∀ S, Lq (k S) (k' S)) (o : Oper) (S : ES) : Lq (plainE T F lim ctx i o S k) (plainE T F lim ctx i o S k') := by
  unfold plainE
  split
  · split
    · exact lq_ite (hk _)
    · exact .refl _
  · exact .refl _
theorem pick_lq (hk : ∀ S, Lq (k S) (k' S)) (o : Oper) (c x y : Operand) (S : ES) : Lq (pickE lim i o c x y S k) (pickE lim i o c x y S k') := by
  unfold pickE
  split
  · split
    · exact hk _
    · exact .refl _
  · exact .refl _
theorem append_lq (hk : ∀ S, Lq (k S) (k' S)) (o : Oper) (c : Call) (S : ES) : Lq (appendE T F lim i o c S k) (appendE T F lim i o c S k') := by
  unfold appendE
  split
  · split
    · split
      · split
        · split
          · split
            · split
              · exact lq_ite (hk _)
              · exact lq_ite (hk _)
            · exact .refl _
          · exact .refl _
        · split
          · exact lq_ite (hk _)
          · exact .refl _
        · exact .refl _
      · exact .refl _
    · exact .refl _
  · exact .refl _
theorem call_lq (hc : ∀ g vs, Lq (call g vs) (call' g vs)) (hk : ∀ S, Lq (k S) (k' S)) (o : Oper) (c : Call) (x : Operand) (S : ES) : Lq (callE T call lim ctx i o c x S k) (callE T call' lim ctx i o c x S k') := by
  unfold callE
  split
  · split
    · split
      · refine lq_bind (hc _ _) (fun a => ?_)
        split
        · exact hk _
        · exact .refl _
      · exact .refl _
    · split
      · split
        · split
          · split
            · refine lq_bind (hc _ _) (fun a => ?_)
              split
              · split
                · exact hk _
                · exact .refl _
              · exact .refl _
            · exact .refl _
          · exact .refl _
        · exact .refl _
      · exact .refl _
    · exact .refl _
  · exact .refl _
theorem op_lq (hc : ∀ g vs, Lq (call g vs) (call' g vs)) (hk : ∀ S, Lq (k S) (k' S)) (o : Oper) (S : ES) : Lq (opE T F call lim ctx i o S k) (opE T F call' lim ctx i o S k') := by
  unfold opE
  split
  · split
    · exact call_lq hc hk _ _ _ _
    · split
      · exact plain_lq hk _ _
      · split
        · exact append_lq hk _ _ _
        · exact .refl _
    · exact .refl _
  · exact pick_lq hk _ _ _ _ _
  · exact plain_lq hk _ _
end
theorem run_lq {T : Tab} {F : Nat} {call call' : (g : Nat) → List Val → Option (T.out g).den} {ops : List Oper} {lim : Option (List Meta)} (hc : ∀ g vs, Lq (call g vs) (call' g vs)) : ∀ (n : Nat) (β : Type) (ctx : Option (Nat × Bool)) (prot : List Nat) (i : Nat) (l : List Oper) (S : ES) (K K' : ES → Option β), (∀ S, Lq (K S) (K' S)) → Lq (run T F call ops lim n β ctx prot i l S K) (run T F call' ops lim n β ctx prot i l S K') := by
  intro n
  induction n with
  | zero => intro β ctx prot i l S K K' hK; exact lq_none
  | succ n ih =>
    intro β ctx prot i l S K K' hK
    cases l with
    | nil => exact hK S
    | cons o l' =>
      simp only [run]
      split
      · split
        · exact .refl _
        · exact op_lq hc (fun S' => ih _ _ _ _ _ _ _ _ hK) _ _
      · split
        · exact .refl _
        · split
          · exact .refl _
          · split
            · exact .refl _
            · split
              · split
                · refine lq_bind ?_ (fun a => ih _ _ _ _ _ _ _ _ hK)
                  split
                  · exact lq_cond (ih _ _ _ _ _ _ _ _ (fun _ => .refl _)) (.refl _)
                  · exact lq_cond (.refl _) (ih _ _ _ _ _ _ _ _ (fun _ => .refl _))
                · exact .refl _
              · exact .refl _
theorem region_lq {T : Tab} {F nt : Nat} {call call' : (g : Nat) → List Val → Option (T.out g).den} (hc : ∀ g vs, Lq (call g vs) (call' g vs)) (ops : List Oper) (draw : Bool) {β : Type} (S : ES) {K K' : ES → Option β} (hK : ∀ S, Lq (K S) (K' S)) : Lq (region T F nt call ops draw S K) (region T F nt call' ops draw S K') := by
  unfold region
  split
  · exact .refl _
  · split
    · exact run_lq hc _ _ _ _ _ _ _ _ _ hK
    · dsimp only
      split
      · exact run_lq hc _ _ _ _ _ _ _ _ _ hK
      · exact .refl _
theorem loop_lq {β : Type} {nm : ES → ES} {stp stp' : ES → (Exit → ES → Option β) → Option β} (hs : ∀ S (K K' : Exit → ES → Option β), (∀ e S, Lq (K e S) (K' e S)) → Lq (stp S K) (stp' S K')) : ∀ (n n' : Nat), n ≤ n' → ∀ (S : ES) (K K' : Exit → ES → Option β), (∀ e S, Lq (K e S) (K' e S)) → Lq (loopN nm stp n S K) (loopN nm stp' n' S K')
  | 0, _, _, S, K, K', hK => lq_none
  | n + 1, 0, h, S, K, K', hK => by omega
  | n + 1, n' + 1, h, S, K, K', hK => by
    simp only [loopN]
    refine hs S _ _ (fun e S' => ?_)
    cases e with
    | normal => exact loop_lq hs n n' (by omega) _ K K' hK
    | _ => exact hK _ _
theorem code_lq {T : Tab} {F nt : Nat} {call call' : (g : Nat) → List Val → Option (T.out g).den} (hc : ∀ g vs, Lq (call g vs) (call' g vs)) {n n' : Nat} (hn : n ≤ n') {β : Type} : ∀ (c : Code) (S : ES) (K K' : Exit → ES → Option β), (∀ e S, Lq (K e S) (K' e S)) → Lq (code T F nt call n c S K) (code T F nt call' n' c S K') := by
  intro c
  induction c with
  | skip => intro S K K' hK; exact hK _ _
  | label l => intro S K K' hK; exact hK _ _
  | exit i => intro S K K' hK; exact hK _ _
  | ret => intro S K K' hK; exact hK _ _
  | region id ops draw => intro S K K' hK; exact region_lq hc _ _ _ (fun S => hK _ S)
  | seq a b iha ihb =>
    intro S K K' hK
    refine iha S _ _ (fun e S' => ?_)
    cases e with
    | normal => exact ihb _ K K' hK
    | _ => exact hK _ _
  | cond x a b iha ihb =>
    intro S K K' hK
    simp only [code]
    split
    · exact lq_cond (iha S K K' hK) (ihb S K K' hK)
    · exact .refl _
  | block i c ih =>
    intro S K K' hK
    refine ih S _ _ (fun e S' => ?_)
    cases e with
    | exit j =>
      dsimp only
      split
      · exact hK _ _
      · exact hK _ _
    | _ => exact hK _ _
  | scope c ih =>
    intro S K K' hK
    refine ih S _ _ (fun e S' => ?_)
    cases e with
    | goto l => exact .refl _
    | _ => exact hK _ _
  | loop c ih =>
    intro S K K' hK
    exact loop_lq (fun S K K' h => ih S K K' h) n n' hn _ K K' hK
  | _ => intro S K K' hK; exact .refl _
theorem body_lq {T : Tab} {call call' : (g : Nat) → List Val → Option (T.out g).den} (hc : ∀ g vs, Lq (call g vs) (call' g vs)) {n n' : Nat} (hn : n ≤ n') (F : Nat) (f : Func) (args : List Val) : Lq (body T call n F f args) (body T call' n' F f args) := by
  unfold body
  split
  · exact .refl _
  · split
    · exact .refl _
    · split
      · exact code_lq hc hn _ _ _ _ (fun _ _ => .refl _)
      · split
        · split
          · exact .refl _
          · exact code_lq hc hn _ _ _ _ (fun _ _ => .refl _)
        · exact .refl _
def OrcMono {T : Tab} (orc : List (Nat × Orc T)) : Prop := ∀ x ∈ orc, ∀ (call call' : (g : Nat) → List Val → Option (T.out g).den) k k' vs, (∀ g vs, Lq (call g vs) (call' g vs)) → k ≤ k' → Lq (x.2.g call k vs) (x.2.g call' k' vs)
theorem fn_lq {T : Tab} {orc : List (Nat × Orc T)} (hO : OrcMono orc) : ∀ (k k' : Nat), k ≤ k' → ∀ F args, Lq (fn T orc k F args) (fn T orc k' F args)
  | 0, _, _, F, args => lq_none
  | k + 1, 0, h, F, args => by omega
  | k + 1, k' + 1, h, F, args => by
    have ih := fn_lq hO k k' (by omega)
    simp only [fn]
    split
    · rename_i o ho
      split
      · rename_i q hq
        have h1 := hO _ (find_mem ho) (fn T orc k) (fn T orc k') k k' args ih (by omega)
        have key : ∀ (t : Ty) (e : o.t = t), Lq (β := t.den) (e ▸ o.g (fn T orc k) k args) (e ▸ o.g (fn T orc k') k' args) := by
          intro t e
          subst e
          exact h1
        exact key _ q.down
      · exact .refl _
    · split
      · exact body_lq ih (by omega) _ _ _
      · exact .refl _
theorem fn_stays {T : Tab} {orc : List (Nat × Orc T)} (hO : OrcMono orc) {k : Nat} {F : Nat} {args : List Val} {r : (T.out F).den} (h : fn T orc k F args = some r) : ∀ k', k ≤ k' → fn T orc k' F args = some r := fun k' hk => fn_lq hO k k' hk F args r h
end Go.Proofs.YtjimdhlmeebjeaaGreat.E
end
section
namespace Go.Proofs.YtjimdhlmeebjeaaGreat.E
open Go.RowKit Go.Proofs.YtjimdhlmeebjeaaGreatW.PrintWords Go.Proofs.YtjimdhlmeebjeaaGreatW.PrintMore Go.Proofs.YtjimdhlmeebjeaaGreat.V
theorem le_up {α : Type} {f : Nat → Option α} (h : ∀ k, LeO (f k) (f (k + 1))) : ∀ (k k' : Nat), k ≤ k' → LeO (f k) (f k')
  | k, 0, hk => by
    have : k = 0 := by omega
    subst this
    exact LeO.refl _
  | k, k' + 1, hk => by
    by_cases c : k = k' + 1
    · rw [c]; exact LeO.refl _
    · exact (le_up h k k' (by omega)).trans (h k')
theorem leo_map {α β : Type} {a b : Option α} {f : α → β} (h : LeO a b) : LeO (a.map f) (b.map f) := by
  intro r hr
  obtain ⟨x, h1, rfl⟩ := Option.map_eq_some_iff.1 hr
  rw [h x h1]
  rfl
theorem orc1_mono {c0 ct : Ty} {f : Nat → c0.den → Option ct.den} (hf : ∀ (x0 : c0.den) (k : Nat), LeO (f k x0) (f (k + 1) x0)) (call call' : (g : Nat) → List Val → Option (T.out g).den) (k k' : Nat) (vs : List Val) (hk : k ≤ k') : Lq ((orc1 (T := T) c0 ct f).g call k vs) ((orc1 (T := T) c0 ct f).g call' k' vs) := by
  simp only [orc1]
  split
  · split
    · exact le_up (fun k => hf _ k) k k' hk
    · exact lq_none
  · exact lq_none
theorem orc2_mono {c0 c1 ct : Ty} {f : Nat → c0.den → c1.den → Option ct.den} (hf : ∀ (x0 : c0.den) (x1 : c1.den) (k : Nat), LeO (f k x0 x1) (f (k + 1) x0 x1)) (call call' : (g : Nat) → List Val → Option (T.out g).den) (k k' : Nat) (vs : List Val) (hk : k ≤ k') : Lq ((orc2 (T := T) c0 c1 ct f).g call k vs) ((orc2 (T := T) c0 c1 ct f).g call' k' vs) := by
  simp only [orc2]
  split
  · split
    · exact le_up (fun k => hf _ _ k) k k' hk
    · exact lq_none
  · exact lq_none
theorem orc3_mono {c0 c1 c2 ct : Ty} {f : Nat → c0.den → c1.den → c2.den → Option ct.den} (hf : ∀ (x0 : c0.den) (x1 : c1.den) (x2 : c2.den) (k : Nat), LeO (f k x0 x1 x2) (f (k + 1) x0 x1 x2)) (call call' : (g : Nat) → List Val → Option (T.out g).den) (k k' : Nat) (vs : List Val) (hk : k ≤ k') : Lq ((orc3 (T := T) c0 c1 c2 ct f).g call k vs) ((orc3 (T := T) c0 c1 c2 ct f).g call' k' vs) := by
  simp only [orc3]
  split
  · split
    · exact le_up (fun k => hf _ _ _ k) k k' hk
    · exact lq_none
  · exact lq_none
theorem orcA_mono : OrcMono orcA := by
  intro x hx call call' k k' vs _ hk
  simp only [orcA, List.mem_cons, List.not_mem_nil, or_false] at hx
  rcases hx with rfl | rfl | rfl | rfl | rfl | rfl | rfl | rfl | rfl | rfl | rfl | rfl | rfl | rfl | rfl | rfl | rfl | rfl | rfl | rfl | rfl
  · exact orc2_mono (fun a0 a1 k => (P.isochroneref01_Add.mono a0 a1 k)) call call' k k' vs hk
  · exact orc2_mono (fun a0 a1 k => (P.isochroneref01_Cmp.mono a0 a1 k)) call call' k k' vs hk
  · exact orc2_mono (fun a0 a1 k => (leo_map (P.isochroneref01_DivMod.mono a0 a1 k))) call call' k k' vs hk
  · exact orc2_mono (fun a0 a1 k => (P.isochroneref01_GCD.mono a0 a1 k)) call call' k k' vs hk
  · exact orc1_mono (fun a0 k => (P.isochroneref01_Int.mono a0 k)) call call' k k' vs hk
  · exact orc2_mono (fun a0 a1 k => (P.isochroneref01_Mul.mono a0 a1 k)) call call' k k' vs hk
  · exact orc2_mono (fun a0 a1 k => (P.isochroneref01_Pow.mono a0 a1 k)) call call' k k' vs hk
  · exact orc3_mono (fun a0 a1 a2 k => (P.isochroneref01_Small.mono a0 a1 a2 k)) call call' k k' vs hk
  · exact orc2_mono (fun a0 a1 k => (P.isochroneref01_Sub.mono a0 a1 k)) call call' k k' vs hk
  · exact orc1_mono (fun a0 k => (LeO.refl _)) call call' k k' vs hk
  · exact orc1_mono (fun a0 k => (P.isochroneref01_Words.mono a0 k)) call call' k k' vs hk
  · exact orc2_mono (fun a0 a1 k => (P.mag_Add.mono a0 a1 k)) call call' k k' vs hk
  · exact orc1_mono (fun a0 k => (LeO.refl _)) call call' k k' vs hk
  · exact orc2_mono (fun a0 a1 k => (P.mag_Cmp.mono a0 a1 k)) call call' k k' vs hk
  · exact orc2_mono (fun a0 a1 k => (leo_map (P.mag_DivMod.mono a0 a1 k))) call call' k k' vs hk
  · exact orc1_mono (fun a0 k => (P.mag_From.mono a0 k)) call call' k k' vs hk
  · exact orc2_mono (fun a0 a1 k => (P.mag_GCD.mono a0 a1 k)) call call' k k' vs hk
  · exact orc2_mono (fun a0 a1 k => (P.mag_Mul.mono a0 a1 k)) call call' k k' vs hk
  · exact orc2_mono (fun a0 a1 k => (P.mag_Shl.mono a0 a1 k)) call call' k k' vs hk
  · exact orc2_mono (fun a0 a1 k => (P.mag_Sub.mono a0 a1 k)) call call' k k' vs hk
  · exact orc2_mono (fun a0 a1 k => (P.slices_Equal_uint32_uint32.mono a0 a1 k)) call call' k k' vs hk
end Go.Proofs.YtjimdhlmeebjeaaGreat.E
end
section
namespace Go.Proofs.YtjimdhlmeebjeaaGreat.E
open Go.RowKit Go.Proofs.YtjimdhlmeebjeaaGreat.V
theorem vrel_lit {w : World} {F : Fo} {a b} {v u : Value} (h : VRel w F a b v (.cv (.lit u))) : v = u := by
  cases h with
  | cv h => cases h; rfl
end Go.Proofs.YtjimdhlmeebjeaaGreat.E
namespace Go.Proofs.YtjimdhlmeebjeaaGreat.Q
open Go.RowKit Go.Proofs.YtjimdhlmeebjeaaGreatW.PrintWords Go.Proofs.YtjimdhlmeebjeaaGreatW.PrintMore Go.Proofs.YtjimdhlmeebjeaaGreat.V Go.Proofs.YtjimdhlmeebjeaaGreat.E
open Go.Proofs.YtjimdhlmeebjeaaGreat.P (Dg Nm vl WW RR can_uniq gI evs evk evb cmpi WW_pos WW_one RR_pos w64 u64)
set_option linter.unusedVariables false
theorem awake60 : isochronelaw05_awake 60 = some true := by
  kernel_rfl
theorem awake5_ev : Ev (fun k => isochronelaw05_awake k) true := ⟨60, fun k hk => fn_stays orcA_mono awake60 k hk⟩
theorem tot_loop {P : Nat → Prop} {n : Nat} (he : P n) (hg : ∀ i, i < n → P (i + 1) → P i) : P 0 := by
  have key : ∀ d i, n - i = d → i ≤ n → P i := by
    intro d
    induction d with
    | zero => intro i hd hi; have : i = n := by omega
              subst this; exact he
    | succ d ih => intro i hd hi; exact hg i (by omega) (ih (i + 1) (by omega) (by omega))
  exact key n 0 (by omega) (by omega)
theorem Numbers_tot (N : Nat) {l : List LineD} (ha : ArgS l) : ∃ t, Ev (fun k => isochroneref05_Numbers k l (N : Int)) t := by
  have main : ∃ r, Ev2 (fun k m => isochroneref05_Numbers.l0 k m (N : Int) l (l.length : Int) ((0 : Nat) : Int)) r := by
    refine tot_loop (P := fun i => ∃ r, Ev2 (fun k m => isochroneref05_Numbers.l0 k m (N : Int) l (l.length : Int) (i : Int)) r) (n := l.length) ⟨true, Ev2.step (fun k m => isochroneref05_Numbers.l0_succ k m _ _ _ _) (Ev2.bF (decide_eq_false (by omega)) (Ev2.of (evs _)))⟩ (fun i hi ⟨r0, hr0⟩ => ?_)
    have e : (rdT (t := c_api_Line) l (i : Int) : LineD) = l[i] := rd_get hi
    have hal := (ha.2 _ (List.getElem_mem hi)).1
    have inner : ∃ r, Ev3 (fun k m1 m0 => isochroneref05_Numbers.l1 k m1 m0 (N : Int) l (l.length : Int) (i : Int) l[i].1 (l[i].1.length : Int) ((0 : Nat) : Int)) r := by
      refine tot_loop (P := fun j => ∃ r, Ev3 (fun k m1 m0 => isochroneref05_Numbers.l1 k m1 m0 (N : Int) l (l.length : Int) (i : Int) l[i].1 (l[i].1.length : Int) (j : Int)) r) (n := l[i].1.length) ⟨r0, Ev3.step (fun k m1 m0 => isochroneref05_Numbers.l1_succ k m1 m0 _ _ _ _ _ _ _) (Ev3.bF (decide_eq_false (by omega)) (Ev3.of ?_))⟩ (fun j hj ⟨r1, hr1⟩ => ?_)
      · rw [inc1 (Nat.lt_of_lt_of_le hi ha.1)]; exact hr0
      · have hsh := ref_Short_sp (rdT (t := c_api_Rat) l[i].1 (j : Int) : RatD) N
        generalize decide ((rdT (t := c_api_Rat) l[i].1 (j : Int) : RatD).2.1.length ≤ N ∧ (rdT (t := c_api_Rat) l[i].1 (j : Int) : RatD).2.2.1.length ≤ N) = t at hsh
        cases t with
        | true =>
          refine ⟨r1, Ev3.step (fun k m1 m0 => isochroneref05_Numbers.l1_succ k m1 m0 _ _ _ _ _ _ _) (Ev3.bT (decide_eq_true (by omega)) (Ev3.iT (by omega) (Ev3.bind hsh (Ev3.bF rfl ?_))))⟩
          rw [inc1 (Nat.lt_of_lt_of_le hj hal.1)]; exact hr1
        | false => exact ⟨false, Ev3.step (fun k m1 m0 => isochroneref05_Numbers.l1_succ k m1 m0 _ _ _ _ _ _ _) (Ev3.bT (decide_eq_true (by omega)) (Ev3.iT (by omega) (Ev3.bind hsh (Ev3.bT rfl (Ev3.of (Ev2.of (evs _)))))))⟩
    obtain ⟨r1, hr1⟩ := inner
    have hsh := ref_Short_sp l[i].2.2.1 N
    generalize decide (l[i].2.2.1.2.1.length ≤ N ∧ l[i].2.2.1.2.2.1.length ≤ N) = t at hsh
    by_cases c : (l[i].1.length : Int) > 12
    · exact ⟨false, Ev2.step (fun k m => isochroneref05_Numbers.l0_succ k m _ _ _ _) (Ev2.bT (decide_eq_true (by omega)) (Ev2.iT (by omega) (Ev2.bind (a := true) (bT (by rw [e]; exact decide_eq_true c) (evs _)) (Ev2.bT rfl (Ev2.of (evs _))))))⟩
    · cases t with
      | true =>
        refine ⟨r1, Ev2.step (fun k m => isochroneref05_Numbers.l0_succ k m _ _ _ _) (Ev2.bT (decide_eq_true (by omega)) (Ev2.iT (by omega) (Ev2.bind (a := false) (bF (by rw [e]; exact decide_eq_false c) (Ev.bind (a := true) (by rw [e]; exact hsh) (evs _))) (Ev2.bF rfl ?_))))⟩
        rw [e]; exact hr1.diag
      | false =>
        exact ⟨false, Ev2.step (fun k m => isochroneref05_Numbers.l0_succ k m _ _ _ _) (Ev2.bT (decide_eq_true (by omega)) (Ev2.iT (by omega) (Ev2.bind (a := true) (bF (by rw [e]; exact decide_eq_false c) (Ev.bind (a := false) (by rw [e]; exact hsh) (evs _))) (Ev2.bT rfl (Ev2.of (evs _))))))⟩
  obtain ⟨r, hr⟩ := main
  exact ⟨r, Ev.step (fun k => isochroneref05_Numbers_eq k _ _) hr.diag⟩
theorem short_tot {l : List RatD} (ha : Args l) : ∃ t, Ev (fun k => isochronelaw05_short k l) t := by
  have main : ∃ r, Ev2 (fun k m => isochronelaw05_short.l0 k m l (l.length : Int) ((0 : Nat) : Int)) r := by
    refine tot_loop (P := fun i => ∃ r, Ev2 (fun k m => isochronelaw05_short.l0 k m l (l.length : Int) (i : Int)) r) (n := l.length) ⟨true, Ev2.step (fun k m => isochronelaw05_short.l0_succ k m _ _ _) (Ev2.bF (decide_eq_false (by omega)) (Ev2.of (evs _)))⟩ (fun i hi ⟨r0, hr0⟩ => ?_)
    have hsh := ref_Short_sp (rdT (t := c_api_Rat) l (i : Int) : RatD) 2
    generalize decide ((rdT (t := c_api_Rat) l (i : Int) : RatD).2.1.length ≤ 2 ∧ (rdT (t := c_api_Rat) l (i : Int) : RatD).2.2.1.length ≤ 2) = t at hsh
    cases t with
    | true =>
      refine ⟨r0, Ev2.step (fun k m => isochronelaw05_short.l0_succ k m _ _ _) (Ev2.bT (decide_eq_true (by omega)) (Ev2.iT (by omega) (Ev2.bind hsh (Ev2.bF rfl ?_))))⟩
      rw [inc1 (Nat.lt_of_lt_of_le hi ha.1)]; exact hr0
    | false => exact ⟨false, Ev2.step (fun k m => isochronelaw05_short.l0_succ k m _ _ _) (Ev2.bT (decide_eq_true (by omega)) (Ev2.iT (by omega) (Ev2.bind hsh (Ev2.bT rfl (Ev2.of (evs _))))))⟩
  obtain ⟨r, hr⟩ := main
  exact ⟨r, Ev.step (fun k => isochronelaw05_short_eq k _) hr.diag⟩
end Go.Proofs.YtjimdhlmeebjeaaGreat.Q
end
section
namespace Go.Proofs.YtjimdhlmeebjeaaGreat.Q
open Go.RowKit Go.Proofs.YtjimdhlmeebjeaaGreatW.PrintWords Go.Proofs.YtjimdhlmeebjeaaGreatW.PrintMore Go.Proofs.YtjimdhlmeebjeaaGreat.V Go.Proofs.YtjimdhlmeebjeaaGreat.E
open Go.Proofs.YtjimdhlmeebjeaaGreat.P (Dg Nm vl WW RR can_uniq gI evs evk evb cmpi WW_pos WW_one RR_pos w64 u64)
set_option linter.unusedVariables false
theorem or_ev (a b : Bool) : Ev (fun _ => bif a then some true else some b) (a || b) := by cases a <;> exact evs _
theorem orn_ev {f : Nat → Option Bool} {t : Bool} (b : Bool) (h : Ev f t) : Ev (fun k => bif b then some true else (f k).bind fun v => some (!v)) (b || !t) := by
  cases b with
  | true => exact bT rfl (evs _)
  | false => exact bF rfl (Ev.bind h (by rw [Bool.false_or]; exact evs _))
theorem sys_len {N : Nat} {l : List LineD} (h : OkS (N : Int) l) : ∀ y ∈ valS l, y.1.length = N ∧ 0 ≤ y.2.1 ∧ y.2.1 ≤ 2 := by
  intro y hy
  obtain ⟨x, hx, rfl⟩ := List.mem_map.1 hy
  have := (h.2 x hx).1
  refine ⟨?_, this.2.1, this.2.2.1⟩
  simp only [valN, val_len]
  have := this.1
  omega
theorem law_LinearWitnesses {n : Int} {l : List LineD} {pt mv : List RatD} (hn : (Lit.int .i64 n).wf = true) (ha : ArgS l) (hp : Args pt) (hm : Args mv) : Ev (fun k => isochronelaw05_LinearWitnesses k n l pt mv) true := by
  obtain ⟨t1, e1⟩ := Numbers_tot 2 ha
  obtain ⟨t2, e2⟩ := short_tot hp
  obtain ⟨t3, e3⟩ := short_tot hm
  have eV := ref_Valid5_ev (n := n) ha
  refine Ev.step (fun k => isochronelaw05_LinearWitnesses_eq k n l pt mv) (Ev.bind awake5_ev (bF rfl ?_))
  refine Ev.bind (or_ev _ _) (Ev.bind (or_ev _ _) (Ev.bind (orn_ev _ e1) (Ev.bind (orn_ev _ eV) (Ev.bind (orn_ev _ e2) (Ev.bind (orn_ev _ e3) ?_)))))
  generalize hb : (((((decide ((List.length l : Int) > (12 : Int)) || decide ((List.length pt : Int) > (12 : Int))) || decide ((List.length mv : Int) > (14 : Int))) || !t1) || !(ifc (OkS n l) true false)) || !t2 || !t3) = b
  cases b with
  | true => exact bT rfl (evs _)
  | false =>
    refine bF rfl ?_
    have ok : OkS n l := Classical.byContradiction (fun h => by
      rw [ifc_f h] at hb
      simp at hb)
    obtain ⟨N, rfl⟩ : ∃ N : Nat, n = (N : Int) := ⟨n.toNat, by have := ok.1.1; omega⟩
    have hN8 : N ≤ 8 := by have := ok.1.2.1; omega
    have l40 := ok.1.2.2
    have hsn := sys_len ok
    obtain ⟨s, s1, s2⟩ := Of_sp ok
    have sl : s.length = l.length := by rw [s2.1]; simp [valS]
    have hH := Holds_sp (n := (N : Int)) (l := l) (pt := pt) ha hp
    have hR := Refutes_sp (n := (N : Int)) (l := l) (mv := mv) ha hm
    rw [ifc_t ok] at hH hR
    have hL := ref_List_ev (N : Int) hp
    have hL2 := ref_List_ev (l.length : Int) hm
    have second : Ev (fun k => (linear_Refutes k (N : Int) l mv).bind fun (v22 : Bool × Int × Unit) => (isochroneref05_List k mv (List.length l : Int)).bind fun (v23 : Bool) => bif !v23 then (bif v22.2.1 == (1 : Int) then some (!v22.1) else some false).bind fun (b24 : Bool) => some b24 else (bif v22.2.1 == (0 : Int) then (isochroneref05_Rats k mv).bind fun (v25 : List RatD) => (isochroneref05_Refutes k (N : Int) s v25).bind fun (v26 : Bool) => some (v22.1 == v26) else some false).bind fun (b27 : Bool) => some b27) true := by
      by_cases c : (∀ x ∈ mv, VN 200 x) ∧ (mv.length : Int) = l.length
      · rw [ifc_t c, Int.toNat_natCast] at hR
        rw [dc_true c] at hL2
        obtain ⟨r, r1, r2⟩ := Rats_sp (l := mv) (by have := c.2; omega) c.1 (by decide)
        have rl : r.length = s.length := by rw [r2.1, val_len, sl]; have := c.2; omega
        have q := ref_Refutes_sp s2 (fun y hy => (hsn y hy).1) r2 rl (by omega) hN8
        exact Ev.bind hR (Ev.bind hL2 (bF rfl (Ev.bind (a := true) (bT rfl (Ev.bind r1 (Ev.bind q (by rw [beq_self_eq_true]; exact evs _)))) (evs _))))
      · rw [ifc_f c] at hR
        rw [dc_false c] at hL2
        exact Ev.bind hR (Ev.bind hL2 (bT rfl (Ev.bind (a := true) (bT rfl (evs _)) (evs _))))
    by_cases c : (∀ x ∈ pt, VN 200 x) ∧ (pt.length : Int) = (N : Int)
    · rw [ifc_t c] at hH
      rw [dc_true c] at hL
      obtain ⟨r, r1, r2⟩ := Rats_sp (l := pt) (by have := c.2; omega) c.1 (by decide)
      have q := ref_Holds_sp (n := N) s2 r2 (by omega) hN8 (by rw [r2.1, val_len]; have := c.2; omega) hsn
      exact Ev.bind s1 (Ev.bind hH (Ev.bind hL (Ev.bind (a := false) (bF rfl (Ev.bind (a := false) (bF rfl (evs _)) (evs _))) (Ev.bind (a := false) (bF rfl (Ev.bind (a := false) (bT rfl (Ev.bind r1 (Ev.bind q (by rw [bne_self_eq_false]; exact evs _)))) (evs _))) (bF rfl second)))))
    · rw [ifc_f c] at hH
      rw [dc_false c] at hL
      exact Ev.bind s1 (Ev.bind hH (Ev.bind hL (Ev.bind (a := false) (bF rfl (Ev.bind (a := false) (bT rfl (Ev.bind (a := false) (bF rfl (evs _)) (evs _))) (evs _))) (Ev.bind (a := false) (bF rfl (Ev.bind (a := false) (bF rfl (evs _)) (evs _))) (bF rfl second)))))
theorem arg_rats {l : List RatD} (h : Fine (.list c_api_Rat) l) : Args l := ⟨h.1, fun x hx => arg_rat (h.2 x hx)⟩
theorem arg_lines {l : List LineD} (h : Fine (.list c_api_Line) l) : ArgS l := ⟨h.1, fun x hx => ⟨arg_rats (h.2 x hx).1, arg_rat (h.2 x hx).2.2.1⟩⟩
end Go.Proofs.YtjimdhlmeebjeaaGreat.Q
end
section
namespace Go.Proofs.YtjimdhlmeebjeaaGreat.linearWitnesses
open Go.ChangeShapes Go.WideShapes Go.ChangeAt Go.RowKit
open Go.ChangeMaps (open_string shut_string)
open Go.Proofs.YtjimdhlmeebjeaaGreat.V Go.Proofs.YtjimdhlmeebjeaaGreat.E
theorem own : ownKnob Tryz.prog.godebug = none := by kernel_rfl
theorem laidOut : laidOutB Tryz.prog = true := by kernel_rfl
set_option maxRecDepth 100000 in
theorem lifted (os : Os) (started : os.Started) (H : Type) (enc : TypeId × Value → H) :
    ReturnsInHanded {} Tryz.checked os 6 .any (Rows.linearWitnessesSpec.pre6 enc Tryz.prog Tryz.f6 Rows.linearWitnessesRow.domain false) (Rows.linearWitnessesSpec.post enc Tryz.prog Tryz.f6 false true false false) := by
  refine returnsInHanded_of_change_sized (C := Tryz.checked) own started (by kernel_rfl) Tryz.func6
    (ChangeSpec.witness6 (enc := enc) (C := Tryz.checked) false ⟨#[], #[.int .i64 0, .slice none 0 0, .slice none 0 0, .slice none 0 0], []⟩ 8 (by kernel_rfl) (by kernel_rfl) (by kernel_rfl) (by kernel_rfl)) ?_
  intro W base args ds gs before hval0 hW hcnd hsz0 _
  have hval : ∀ (j : Nat) t v, Tryz.f6.params[j]? = some t → args[j]? = some v → Value.okWide Tryz.prog W .any base t v := hval0
  have hW' := hW
  obtain ⟨p, q, hA0, hV, rfl, hfz, hnd⟩ := hW
  have hA : DataW.TrodAll enc Tryz.prog W 0 (fun _ => true) true Tryz.f6.params.toList args.toList ds p := hA0
  rw [Tryz.params6] at hA hval
  obtain ⟨v0, vs0, d0, ds0, p0, q0, hargs, rfl, rfl, h0, r0⟩ := trodAll_cons hA
  obtain ⟨v1, vs1, d1, ds1, p1, q1, rfl, rfl, rfl, h1, r1⟩ := trodAll_cons r0
  obtain ⟨v2, vs2, d2, ds2, p2, q2, rfl, rfl, rfl, h2, r2⟩ := trodAll_cons r1
  obtain ⟨v3, vs3, d3, ds3, p3, q3, rfl, rfl, rfl, h3, r3⟩ := trodAll_cons r2
  obtain ⟨rfl, rfl, rfl⟩ := trodAll_nil r3
  obtain rfl : args = #[v0, v1, v2, v3] := by cases args; simp_all
  obtain ⟨rfl, rfl⟩ := trodVars_none hV
  have k0 := h0
  have lt0 : ∀ x ∈ p0, x.block < W.heap.size := by obtain ⟨m, hm⟩ := k0; exact DataW.trod_lt m _ _ _ hm
  obtain ⟨y0, f0, g0⟩ := arg_den Q.tab_ok (n := 16) (t := 3) (c := (.int .i64)) (by kernel_rfl) (by kernel_rfl) (hval 0 3 v0 rfl rfl) h0
  have k1 := h1
  have lt1 : ∀ x ∈ p1, x.block < W.heap.size := by obtain ⟨m, hm⟩ := k1; exact DataW.trod_lt m _ _ _ hm
  obtain ⟨y1, f1, g1⟩ := arg_den Q.tab_ok (n := 16) (t := 22) (c := (.list c_api_Line)) (by kernel_rfl) (by kernel_rfl) (hval 1 22 v1 rfl rfl) h1
  have k2 := h2
  have lt2 : ∀ x ∈ p2, x.block < W.heap.size := by obtain ⟨m, hm⟩ := k2; exact DataW.trod_lt m _ _ _ hm
  obtain ⟨y2, f2, g2⟩ := arg_den Q.tab_ok (n := 16) (t := 27) (c := (.list c_api_Rat)) (by kernel_rfl) (by kernel_rfl) (hval 2 27 v2 rfl rfl) h2
  have k3 := h3
  have lt3 : ∀ x ∈ p3, x.block < W.heap.size := by obtain ⟨m, hm⟩ := k3; exact DataW.trod_lt m _ _ _ hm
  obtain ⟨y3, f3, g3⟩ := arg_den Q.tab_ok (n := 16) (t := 27) (c := (.list c_api_Rat)) (by kernel_rfl) (by kernel_rfl) (hval 3 27 v3 rfl rfl) h3
  clear hA0 hval0 hsz0
  obtain ⟨k, hk⟩ := (Q.law_LinearWitnesses (Q.arg_int f0) (Q.arg_lines f1) (Q.arg_rats f2) (Q.arg_rats f3)).rounds
  obtain ⟨_, pv, hp, hF⟩ := (fn_sound Q.tab_ok orc_ok Q.mixed Q.noGo k).fn 6 [.v (.int .i64) y0, .v (.list c_api_Line) y1, .v (.list c_api_Rat) y2, .v (.list c_api_Rat) y3] true rfl hk
  obtain rfl := Option.some.inj hp
  refine (hF (fun b => b < W.heap.size) W #[v0, v1, v2, v3] (fun b h => h) rfl (fun i h => ?_)).mono fun e W' ⟨v, he, bel, hv⟩ => ?_
  · match i, h with
    | 0, h => exact g0
    | 1, h => exact g1
    | 2, h => exact g2
    | 3, h => exact g3
    | i + 4, h => exact absurd h (by simp only [List.length_map, List.length_cons, List.length_nil]; omega)
  · have hb := vrel_lit hv
    subst hb
    subst he
    exact ⟨_, rfl, _, _, _, [], _, [], hW', trodAll_mk1 (shut_bool Tryz.underlying4 _), (trodAll_cons_mk (Below.trod laidOut (by kernel_rfl) (of_decide_eq_true (by kernel_rfl)) k0 bel lt0) (trodAll_cons_mk (Below.trod laidOut (by kernel_rfl) (of_decide_eq_true (by kernel_rfl)) k1 bel lt1) (trodAll_cons_mk (Below.trod laidOut (by kernel_rfl) (of_decide_eq_true (by kernel_rfl)) k2 bel lt2) (trodAll_cons_mk (Below.trod laidOut (by kernel_rfl) (of_decide_eq_true (by kernel_rfl)) k3 bel lt3) trodAll_mk0)))), rfl, bel.frame _, fun h => by cases h⟩
theorem over : Rows.linearWitnessesRow.holds Tryz.pinned (OpenSpec.ofChange Rows.linearWitnessesSpec) :=
  OpenClaim.holds_of_wide 6 Tryz.f6 rfl rfl rfl rfl rfl rfl rfl ⟨rfl, rfl, rfl, rfl, rfl⟩ rfl rfl rfl rfl rfl (by kernel_rfl) Tryz.func6 (by kernel_rfl)
    (of_decide_eq_true (by kernel_rfl)) (by unfold Func.isWrapper; first | (rw [if_pos (by decide +kernel)]; kernel_rfl) | (rw [if_neg (by decide +kernel)]; exact ⟨rfl, rfl⟩))
    (fun os started H enc _ => lifted os started H enc)
theorem proved : Rows.LinearWitnessesSaid := over
#print axioms proved
end Go.Proofs.YtjimdhlmeebjeaaGreat.linearWitnesses
namespace Go.Proofs.YtjimdhlmeebjeaaGreat
theorem linearWitnesses_holds : Rows.LinearWitnessesSaid := linearWitnesses.proved
end Go.Proofs.YtjimdhlmeebjeaaGreat
end
