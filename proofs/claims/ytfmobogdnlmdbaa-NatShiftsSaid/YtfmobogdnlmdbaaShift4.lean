/- NatShifts: Shift of a magnitude of at most 40 words multiplies by a power of two or divides by one, ErrRange beyond 200000; Bits counts the binary digits, for every input. No condition. (text 4 of 7) -/
import Derived.Test.YtfmobogdnlmdbaaShift3
section
namespace Go.Proofs.Ytfmobogdnlmdbaa.P
open Go.RowKit Go.Proofs.YtfmobogdnlmdbaaW.PrintWords Go.Proofs.YtfmobogdnlmdbaaW.PrintLast Go.Proofs.YtfmobogdnlmdbaaW.PrintMore Go.Proofs.YtfmobogdnlmdbaaW
attribute [local go_sem] max2_int min2_int max_two min_two max_three min_three max_four min_four
set_option linter.unusedVariables false
set_option linter.unusedSimpArgs false
set_option maxHeartbeats 8000000 in
set_option maxRecDepth 100000 in
theorem mag_DivMod.calls (k : Nat) (A0 : Option Addr) (c0 : Nat) (l0 : List Int) (A1 : Option Addr) (c1 : Nat) (l1 : List Int) (r1 : List Int) (r2 : List Int) (w : World) (hr0 : Kd.C (Kd.int .u32) w A0 l0.length l0) (hc0 : l0.length ≤ c0) (hr1 : Kd.C (Kd.int .u32) w A1 l1.length l1) (hc1 : l1.length ≤ c1) (h : mag_DivMod.f k l0 l1 = some (r1, r2)) :
  Calls Try.prog 48 #[.slice A0 l0.length c0, .slice A1 l1.length c1] w fun e w' => ∃ v0_ v1_ : Value, e = .returned (.tuple #[v0_, v1_]) ∧ Kd.V (Kd.int .u32) 36 w' w.heap.size (fun k_ => (w.heap.size ≤ k_)) v0_ r1 ∧ Kd.V (Kd.int .u32) 36 w' w.heap.size (fun k_ => (w.heap.size ≤ k_)) v1_ r2 ∧ Below w.heap.size w w' := by
 have HR0 := Aside0.mk hr0
 have HC0 := Aside0.mk hc0
 clear hr0 hc0
 have HR1 := Aside0.mk hr1
 have HC1 := Aside0.mk hc1
 clear hr1 hc1
 have HB := Aside0.mk (Below.refl w.heap.size w)
 have H : ((mag_Cmp.f k l0 l1).bind fun t181 => (if t181 < 0 then (if ([] : List Int).length + l0.length < 35184372088832 then (some (([] : List Int), (([] : List Int) ++ l0))) else (none)) else (if (l1.length : Int) = 1 then (if 0 < (l1.length : Int) then ((mag_divWord.f k l0 (rd l1 0)).bind fun bt186 => ((mag_From.f k (IntKind.u64.wrap (bt186.2))).bind fun t190 => (some (bt186.1, t190)))) else (none)) else (if 0 ≤ (wrap64 ((l1.length : Int) - 1)) then (if (wrap64 ((l1.length : Int) - 1)) < (l1.length : Int) then ((bits_LeadingZeros32.f (rd l1 (wrap64 ((l1.length : Int) - 1)))).bind fun t194 => ((mag_Shl.f k l1 t194).bind fun t195 => (if 0 ≤ (wrap64 ((l0.length : Int) + 1)) then (if (wrap64 ((l0.length : Int) + 1) : Int).toNat ≤ 70368744177664 then ((some (List.replicate (wrap64 ((l0.length : Int) + 1) : Int).toNat 0 : List Int)).bind fun y198 => ((mag_Shl.f k l0 t194).bind fun t201 => (if 0 ≤ (wrap64 ((y198.length : Int) - (t195.length : Int))) then (if (wrap64 ((y198.length : Int) - (t195.length : Int)) : Int).toNat ≤ 70368744177664 then (if 0 ≤ (wrap64 ((t195.length : Int) - 1)) then (if (wrap64 ((t195.length : Int) - 1)) < (t195.length : Int) then (if 0 ≤ (wrap64 ((t195.length : Int) - 2)) then (if (wrap64 ((t195.length : Int) - 2)) < (t195.length : Int) then (mag_DivMod.l0 k (List.replicate (wrap64 ((y198.length : Int) - (t195.length : Int)) : Int).toNat 0) t194 t195 (cpy y198 t201) (t195.length : Int) (IntKind.u64.wrap (rd t195 (wrap64 ((t195.length : Int) - 1)))) (IntKind.u64.wrap (rd t195 (wrap64 ((t195.length : Int) - 2)))) (wrap64 ((wrap64 ((y198.length : Int) - (t195.length : Int))) - 1))) else (none)) else (none)) else (none)) else (none)) else (none)) else (none)))) else (none)) else (none)))) else (none)) else (none))))) = some (r1, r2) := h
 clear h
 replace H := Option.bind_eq_some_iff.mp H
 obtain ⟨t181, A30, H⟩ := H
 replace H : (if t181 < 0 then (if ([] : List Int).length + l0.length < 35184372088832 then (some (([] : List Int), (([] : List Int) ++ l0))) else (none)) else (if (l1.length : Int) = 1 then (if 0 < (l1.length : Int) then ((mag_divWord.f k l0 (rd l1 0)).bind fun bt186 => ((mag_From.f k (IntKind.u64.wrap (bt186.2))).bind fun t190 => (some (bt186.1, t190)))) else (none)) else (if 0 ≤ (wrap64 ((l1.length : Int) - 1)) then (if (wrap64 ((l1.length : Int) - 1)) < (l1.length : Int) then ((bits_LeadingZeros32.f (rd l1 (wrap64 ((l1.length : Int) - 1)))).bind fun t194 => ((mag_Shl.f k l1 t194).bind fun t195 => (if 0 ≤ (wrap64 ((l0.length : Int) + 1)) then (if (wrap64 ((l0.length : Int) + 1) : Int).toNat ≤ 70368744177664 then ((some (List.replicate (wrap64 ((l0.length : Int) + 1) : Int).toNat 0 : List Int)).bind fun y198 => ((mag_Shl.f k l0 t194).bind fun t201 => (if 0 ≤ (wrap64 ((y198.length : Int) - (t195.length : Int))) then (if (wrap64 ((y198.length : Int) - (t195.length : Int)) : Int).toNat ≤ 70368744177664 then (if 0 ≤ (wrap64 ((t195.length : Int) - 1)) then (if (wrap64 ((t195.length : Int) - 1)) < (t195.length : Int) then (if 0 ≤ (wrap64 ((t195.length : Int) - 2)) then (if (wrap64 ((t195.length : Int) - 2)) < (t195.length : Int) then (mag_DivMod.l0 k (List.replicate (wrap64 ((y198.length : Int) - (t195.length : Int)) : Int).toNat 0) t194 t195 (cpy y198 t201) (t195.length : Int) (IntKind.u64.wrap (rd t195 (wrap64 ((t195.length : Int) - 1)))) (IntKind.u64.wrap (rd t195 (wrap64 ((t195.length : Int) - 2)))) (wrap64 ((wrap64 ((y198.length : Int) - (t195.length : Int))) - 1))) else (none)) else (none)) else (none)) else (none)) else (none)) else (none)))) else (none)) else (none)))) else (none)) else (none)))) = some (r1, r2) := H
 have A3 := Aside0.mk A30
 clear A30
 by_cases c4 : t181 < 0
 ·rw [if_pos c4] at H
  have c4b0 : decide (t181 < 0) = true := decide_eq_true c4
  clear c4
  by_cases c5 : ([] : List Int).length + l0.length < 35184372088832
  ·rw [if_pos c5] at H
   have LMc5 := Aside0.mk c5
   clear c5
   obtain ⟨y182, hy182⟩ : ∃ y_ : List Int, y_ = (([] : List Int) ++ l0) := ⟨_, rfl⟩
   replace H : (some (([] : List Int), y182)) = some (r1, r2) := by first | (rw [hy182]; with_reducible exact H) | (have H2_ := (Option.bind_some _ _).symm.trans H; rw [hy182]; with_reducible exact H2_) | (have H2_ := (Option.bind_some _ _).symm.trans H; with_reducible exact H2_) | with_reducible exact H | (rw [hy182]; exact H) | exact H
   have Ny182 := Aside0.mk hy182
   clear hy182
   simp only [Option.some.injEq, Prod.mk.injEq] at H
   obtain ⟨rfl, rfl⟩ := H
   go_enter Try.func48, Try.ntmps48
   go_wp2_with (first | (go_at_call 51; (with_reducible refine (mag_Cmp.calls k _ _ l0 _ _ l1 t181 _ ?side1 ?side2 ?side3 ?side4 A3.out).mono ?_); (case side1 => repeat (first | exact HR0.out | (with_reducible refine Kd.C_alloc ?_ _) | (with_reducible refine Kd.C_drewN ?_ _) | (with_reducible refine Kd.C_drew ?_))); (case side2 => exact HC0.out); (case side3 => repeat (first | exact HR1.out | (with_reducible refine Kd.C_alloc ?_ _) | (with_reducible refine Kd.C_drewN ?_ _) | (with_reducible refine Kd.C_drew ?_))); (case side4 => exact HC1.out); rintro e w' ⟨rfl, ⟨nd, rfl⟩⟩; (try first | exact ⟨rfl, _, World.drewN_drewN _ _ _⟩ | exact ⟨rfl, _, Eq.trans (World.drewN_drewN _ _ _) (congrArg (World.drewN _) (Nat.add_assoc _ _ _))⟩)) | ((with_reducible refine gate_builtin (b := .append) (xs := #[.const (.slice none 0 0), .tmp 22]) rfl ?_); at_builtin; refine Kd.R_append_rows (Kd.int .u32) (w0 := w) w.heap.size rfl (.const (.slice none 0 0)) (.tmp 22) 22 36 (.int .u32 0) 4 rfl Try.underlying22 info36 rfl (by decide) (by omega) (.slice none 0 0) ([] : List Int) l0 _ _ _ (fun k_ => (w.heap.size ≤ k_)) (fun _ => False) rfl rfl ?aO ?aR (fun _ _ h => h) (fun _ h => h.elim) ?aF ?aB ?aS ?aL ?_; (case aR => repeat (first | exact HR0.out | (with_reducible refine Kd.C_alloc ?_ _) | (with_reducible refine Kd.C_drewN ?_ _) | (with_reducible refine Kd.C_drew ?_))); (case aB => exact (bB)); (case aF => exact (fun k_ hk => (Nat.le_trans (below_size (bB)) hk))); (case aO => exact ((Kd.R_nil _ _ _ _ (fun k_ => (w.heap.size ≤ k_))))); (case aS => exact (below_size (bB))); (case aL => have := LMc5.out; omega); intro v183 w6 ho hb hg hat; rw [← Ny182.out] at ho; have n0_ := Aside0.mk (hb); have n1_ := Aside0.mk (ho); clear HB; have HB := n0_; have HO184 := n1_; clear n0_ n1_; clear ho hb hg hat))
   repeat (go_quiet (first | (go_at_call 51; (with_reducible refine (mag_Cmp.calls k _ _ l0 _ _ l1 t181 _ ?side1 ?side2 ?side3 ?side4 A3.out).mono ?_); (case side1 => repeat (first | exact HR0.out | (with_reducible refine Kd.C_alloc ?_ _) | (with_reducible refine Kd.C_drewN ?_ _) | (with_reducible refine Kd.C_drew ?_))); (case side2 => exact HC0.out); (case side3 => repeat (first | exact HR1.out | (with_reducible refine Kd.C_alloc ?_ _) | (with_reducible refine Kd.C_drewN ?_ _) | (with_reducible refine Kd.C_drew ?_))); (case side4 => exact HC1.out); rintro e w' ⟨rfl, ⟨nd, rfl⟩⟩; (try first | exact ⟨rfl, _, World.drewN_drewN _ _ _⟩ | exact ⟨rfl, _, Eq.trans (World.drewN_drewN _ _ _) (congrArg (World.drewN _) (Nat.add_assoc _ _ _))⟩)) | ((with_reducible refine gate_builtin (b := .append) (xs := #[.const (.slice none 0 0), .tmp 22]) rfl ?_); at_builtin; refine Kd.R_append_rows (Kd.int .u32) (w0 := w) w.heap.size rfl (.const (.slice none 0 0)) (.tmp 22) 22 36 (.int .u32 0) 4 rfl Try.underlying22 info36 rfl (by decide) (by omega) (.slice none 0 0) ([] : List Int) l0 _ _ _ (fun k_ => (w.heap.size ≤ k_)) (fun _ => False) rfl rfl ?aO ?aR (fun _ _ h => h) (fun _ h => h.elim) ?aF ?aB ?aS ?aL ?_; (case aR => repeat (first | exact HR0.out | (with_reducible refine Kd.C_alloc ?_ _) | (with_reducible refine Kd.C_drewN ?_ _) | (with_reducible refine Kd.C_drew ?_))); (case aB => exact (bB)); (case aF => exact (fun k_ hk => (Nat.le_trans (below_size (bB)) hk))); (case aO => exact ((Kd.R_nil _ _ _ _ (fun k_ => (w.heap.size ≤ k_))))); (case aS => exact (below_size (bB))); (case aL => have := LMc5.out; omega); intro v183 w6 ho hb hg hat; rw [← Ny182.out] at ho; have n0_ := Aside0.mk (hb); have n1_ := Aside0.mk (ho); clear HB; have HB := n0_; have HO184 := n1_; clear n0_ n1_; clear ho hb hg hat)); try go_wp2_with (first | (go_at_call 51; (with_reducible refine (mag_Cmp.calls k _ _ l0 _ _ l1 t181 _ ?side1 ?side2 ?side3 ?side4 A3.out).mono ?_); (case side1 => repeat (first | exact HR0.out | (with_reducible refine Kd.C_alloc ?_ _) | (with_reducible refine Kd.C_drewN ?_ _) | (with_reducible refine Kd.C_drew ?_))); (case side2 => exact HC0.out); (case side3 => repeat (first | exact HR1.out | (with_reducible refine Kd.C_alloc ?_ _) | (with_reducible refine Kd.C_drewN ?_ _) | (with_reducible refine Kd.C_drew ?_))); (case side4 => exact HC1.out); rintro e w' ⟨rfl, ⟨nd, rfl⟩⟩; (try first | exact ⟨rfl, _, World.drewN_drewN _ _ _⟩ | exact ⟨rfl, _, Eq.trans (World.drewN_drewN _ _ _) (congrArg (World.drewN _) (Nat.add_assoc _ _ _))⟩)) | ((with_reducible refine gate_builtin (b := .append) (xs := #[.const (.slice none 0 0), .tmp 22]) rfl ?_); at_builtin; refine Kd.R_append_rows (Kd.int .u32) (w0 := w) w.heap.size rfl (.const (.slice none 0 0)) (.tmp 22) 22 36 (.int .u32 0) 4 rfl Try.underlying22 info36 rfl (by decide) (by omega) (.slice none 0 0) ([] : List Int) l0 _ _ _ (fun k_ => (w.heap.size ≤ k_)) (fun _ => False) rfl rfl ?aO ?aR (fun _ _ h => h) (fun _ h => h.elim) ?aF ?aB ?aS ?aL ?_; (case aR => repeat (first | exact HR0.out | (with_reducible refine Kd.C_alloc ?_ _) | (with_reducible refine Kd.C_drewN ?_ _) | (with_reducible refine Kd.C_drew ?_))); (case aB => exact (bB)); (case aF => exact (fun k_ hk => (Nat.le_trans (below_size (bB)) hk))); (case aO => exact ((Kd.R_nil _ _ _ _ (fun k_ => (w.heap.size ≤ k_))))); (case aS => exact (below_size (bB))); (case aL => have := LMc5.out; omega); intro v183 w6 ho hb hg hat; rw [← Ny182.out] at ho; have n0_ := Aside0.mk (hb); have n1_ := Aside0.mk (ho); clear HB; have HB := n0_; have HO184 := n1_; clear n0_ n1_; clear ho hb hg hat)))
   go_ret2
   exact ⟨_, _, by first | rfl | (simp [errW_none, errW_some] <;> rfl) | (simp [*, errW_none, errW_some] <;> rfl), Kd.V_nil _ _ _ _ _, Kd.R_V (by (with_reducible repeat (first | apply Kd.R_alloc | apply Kd.R_drewN | apply Kd.R_drew)); exact HO184.out), by repeat (first | (with_reducible first | exact HB.out | apply below_alloc | apply pw_below_drewN | apply below_drew1) | exact HB.out)⟩
  ·rw [if_neg c5] at H
   exact absurd H (by simp)
 ·rw [if_neg c4] at H
  have c4b0 : decide (t181 < 0) = false := decide_eq_false c4
  clear c4
  by_cases c7 : (l1.length : Int) = 1
  ·rw [if_pos c7] at H
   have c7b0 : ((l1.length : Int) == 1) = true := beq_iff_eq.mpr c7
   have c7b1 : ((l1.length : Int) != 1) = false := bne_eq_false_iff_eq.mpr c7
   clear c7
   by_cases c8 : 0 < (l1.length : Int)
   ·rw [if_pos c8] at H
    have c8b0 : decide (0 < (l1.length : Int)) = true := decide_eq_true c8
    have c8b1 : decide (0 < l1.length) = true := decide_eq_true (by omega)
    clear c8
    replace H := Option.bind_eq_some_iff.mp H
    obtain ⟨⟨t186, t189⟩, A90, H⟩ := H
    replace H : ((mag_From.f k (IntKind.u64.wrap (t189))).bind fun t190 => (some (t186, t190))) = some (r1, r2) := H
    have A9 := Aside0.mk A90
    clear A90
    replace H := Option.bind_eq_some_iff.mp H
    obtain ⟨t190, A100, H⟩ := H
    replace H : (some (t186, t190)) = some (r1, r2) := H
    have A10 := Aside0.mk A100
    clear A100
    simp only [Option.some.injEq, Prod.mk.injEq] at H
    obtain ⟨rfl, rfl⟩ := H
    go_enter Try.func48, Try.ntmps48
    go_wp2_with (first | (go_at_call 51; (with_reducible refine (mag_Cmp.calls k _ _ l0 _ _ l1 t181 _ ?side1 ?side2 ?side3 ?side4 A3.out).mono ?_); (case side1 => repeat (first | exact HR0.out | (with_reducible refine Kd.C_alloc ?_ _) | (with_reducible refine Kd.C_drewN ?_ _) | (with_reducible refine Kd.C_drew ?_))); (case side2 => exact HC0.out); (case side3 => repeat (first | exact HR1.out | (with_reducible refine Kd.C_alloc ?_ _) | (with_reducible refine Kd.C_drewN ?_ _) | (with_reducible refine Kd.C_drew ?_))); (case side4 => exact HC1.out); rintro e w' ⟨rfl, ⟨nd, rfl⟩⟩; (try first | exact ⟨rfl, _, World.drewN_drewN _ _ _⟩ | exact ⟨rfl, _, Eq.trans (World.drewN_drewN _ _ _) (congrArg (World.drewN _) (Nat.add_assoc _ _ _))⟩); have p185 : 0 ≤ (0 : Int) := (by omega); have q185 : 0 < (l1.length : Int) := of_decide_eq_true aS; obtain ⟨ad185, e185, hx185_0⟩ := Kd.at_int HR1.out 0 p185 q185; cases e185; have qi185 : (0 < l1.length) = True := eq_true (by omega); (try rw [show ((0 : Int)).toNat = 0 from rfl] at hx185_0); (try rw [Addr.add_zero'] at hx185_0); replace p185 := eq_true p185; replace q185 := eq_true q185) | (go_at_call 68; (with_reducible refine (mag_divWord.calls k _ _ l0 (rd l1 0) t186 t189 _ ?side1 ?side2 A9.out).mono ?_); (case side1 => repeat (first | exact HR0.out | (with_reducible refine Kd.C_alloc ?_ _) | (with_reducible refine Kd.C_drewN ?_ _) | (with_reducible refine Kd.C_drew ?_))); (case side2 => exact HC0.out); rintro e w11 ⟨v187, rfl, ho0, hb⟩; have n0_ := Aside0.mk (Kd.V_lower (Kd.V_mono (ok' := fun k_ => (w.heap.size ≤ k_)) ho0 (fun k_ hk_ => (Nat.le_trans (below_size (bB)) hk_))) (below_size (bB))); have n1_ := Aside0.mk (below_step (bB) hb); clear HB; have HO188 := n0_; have HB := n1_; clear n0_ n1_; (try clear hb); (try clear hb2); (try clear hk); (try clear hi); (try clear ho0)) | (go_at_call 59; (with_reducible refine (mag_From.calls k (IntKind.u64.wrap (t189)) t190 _ A10.out).mono ?_); rintro e w12 ⟨v191, rfl, ho0, hb⟩; have n0_ := Aside0.mk (Kd.V_below (by (with_reducible repeat (first | apply Kd.V_alloc | apply Kd.V_drewN | apply Kd.V_drew)); exact HO188.out) hb); have n1_ := Aside0.mk (Kd.V_lower (Kd.V_mono (ok' := fun k_ => (w.heap.size ≤ k_)) ho0 (fun k_ hk_ => (Nat.le_trans (below_size (bB)) hk_))) (below_size (bB))); have n2_ := Aside0.mk (below_step (bB) hb); clear HO188; clear HB; have HO188 := n0_; have HO192 := n1_; have HB := n2_; clear n0_ n1_ n2_; (try clear hb); (try clear hb2); (try clear hk); (try clear hi); (try clear ho0)))
    repeat (go_quiet (first | (go_at_call 51; (with_reducible refine (mag_Cmp.calls k _ _ l0 _ _ l1 t181 _ ?side1 ?side2 ?side3 ?side4 A3.out).mono ?_); (case side1 => repeat (first | exact HR0.out | (with_reducible refine Kd.C_alloc ?_ _) | (with_reducible refine Kd.C_drewN ?_ _) | (with_reducible refine Kd.C_drew ?_))); (case side2 => exact HC0.out); (case side3 => repeat (first | exact HR1.out | (with_reducible refine Kd.C_alloc ?_ _) | (with_reducible refine Kd.C_drewN ?_ _) | (with_reducible refine Kd.C_drew ?_))); (case side4 => exact HC1.out); rintro e w' ⟨rfl, ⟨nd, rfl⟩⟩; (try first | exact ⟨rfl, _, World.drewN_drewN _ _ _⟩ | exact ⟨rfl, _, Eq.trans (World.drewN_drewN _ _ _) (congrArg (World.drewN _) (Nat.add_assoc _ _ _))⟩); have p185 : 0 ≤ (0 : Int) := (by omega); have q185 : 0 < (l1.length : Int) := of_decide_eq_true aS; obtain ⟨ad185, e185, hx185_0⟩ := Kd.at_int HR1.out 0 p185 q185; cases e185; have qi185 : (0 < l1.length) = True := eq_true (by omega); (try rw [show ((0 : Int)).toNat = 0 from rfl] at hx185_0); (try rw [Addr.add_zero'] at hx185_0); replace p185 := eq_true p185; replace q185 := eq_true q185) | (go_at_call 68; (with_reducible refine (mag_divWord.calls k _ _ l0 (rd l1 0) t186 t189 _ ?side1 ?side2 A9.out).mono ?_); (case side1 => repeat (first | exact HR0.out | (with_reducible refine Kd.C_alloc ?_ _) | (with_reducible refine Kd.C_drewN ?_ _) | (with_reducible refine Kd.C_drew ?_))); (case side2 => exact HC0.out); rintro e w11 ⟨v187, rfl, ho0, hb⟩; have n0_ := Aside0.mk (Kd.V_lower (Kd.V_mono (ok' := fun k_ => (w.heap.size ≤ k_)) ho0 (fun k_ hk_ => (Nat.le_trans (below_size (bB)) hk_))) (below_size (bB))); have n1_ := Aside0.mk (below_step (bB) hb); clear HB; have HO188 := n0_; have HB := n1_; clear n0_ n1_; (try clear hb); (try clear hb2); (try clear hk); (try clear hi); (try clear ho0)) | (go_at_call 59; (with_reducible refine (mag_From.calls k (IntKind.u64.wrap (t189)) t190 _ A10.out).mono ?_); rintro e w12 ⟨v191, rfl, ho0, hb⟩; have n0_ := Aside0.mk (Kd.V_below (by (with_reducible repeat (first | apply Kd.V_alloc | apply Kd.V_drewN | apply Kd.V_drew)); exact HO188.out) hb); have n1_ := Aside0.mk (Kd.V_lower (Kd.V_mono (ok' := fun k_ => (w.heap.size ≤ k_)) ho0 (fun k_ hk_ => (Nat.le_trans (below_size (bB)) hk_))) (below_size (bB))); have n2_ := Aside0.mk (below_step (bB) hb); clear HO188; clear HB; have HO188 := n0_; have HO192 := n1_; have HB := n2_; clear n0_ n1_ n2_; (try clear hb); (try clear hb2); (try clear hk); (try clear hi); (try clear ho0))); try go_wp2_with (first | (go_at_call 51; (with_reducible refine (mag_Cmp.calls k _ _ l0 _ _ l1 t181 _ ?side1 ?side2 ?side3 ?side4 A3.out).mono ?_); (case side1 => repeat (first | exact HR0.out | (with_reducible refine Kd.C_alloc ?_ _) | (with_reducible refine Kd.C_drewN ?_ _) | (with_reducible refine Kd.C_drew ?_))); (case side2 => exact HC0.out); (case side3 => repeat (first | exact HR1.out | (with_reducible refine Kd.C_alloc ?_ _) | (with_reducible refine Kd.C_drewN ?_ _) | (with_reducible refine Kd.C_drew ?_))); (case side4 => exact HC1.out); rintro e w' ⟨rfl, ⟨nd, rfl⟩⟩; (try first | exact ⟨rfl, _, World.drewN_drewN _ _ _⟩ | exact ⟨rfl, _, Eq.trans (World.drewN_drewN _ _ _) (congrArg (World.drewN _) (Nat.add_assoc _ _ _))⟩); have p185 : 0 ≤ (0 : Int) := (by omega); have q185 : 0 < (l1.length : Int) := of_decide_eq_true aS; obtain ⟨ad185, e185, hx185_0⟩ := Kd.at_int HR1.out 0 p185 q185; cases e185; have qi185 : (0 < l1.length) = True := eq_true (by omega); (try rw [show ((0 : Int)).toNat = 0 from rfl] at hx185_0); (try rw [Addr.add_zero'] at hx185_0); replace p185 := eq_true p185; replace q185 := eq_true q185) | (go_at_call 68; (with_reducible refine (mag_divWord.calls k _ _ l0 (rd l1 0) t186 t189 _ ?side1 ?side2 A9.out).mono ?_); (case side1 => repeat (first | exact HR0.out | (with_reducible refine Kd.C_alloc ?_ _) | (with_reducible refine Kd.C_drewN ?_ _) | (with_reducible refine Kd.C_drew ?_))); (case side2 => exact HC0.out); rintro e w11 ⟨v187, rfl, ho0, hb⟩; have n0_ := Aside0.mk (Kd.V_lower (Kd.V_mono (ok' := fun k_ => (w.heap.size ≤ k_)) ho0 (fun k_ hk_ => (Nat.le_trans (below_size (bB)) hk_))) (below_size (bB))); have n1_ := Aside0.mk (below_step (bB) hb); clear HB; have HO188 := n0_; have HB := n1_; clear n0_ n1_; (try clear hb); (try clear hb2); (try clear hk); (try clear hi); (try clear ho0)) | (go_at_call 59; (with_reducible refine (mag_From.calls k (IntKind.u64.wrap (t189)) t190 _ A10.out).mono ?_); rintro e w12 ⟨v191, rfl, ho0, hb⟩; have n0_ := Aside0.mk (Kd.V_below (by (with_reducible repeat (first | apply Kd.V_alloc | apply Kd.V_drewN | apply Kd.V_drew)); exact HO188.out) hb); have n1_ := Aside0.mk (Kd.V_lower (Kd.V_mono (ok' := fun k_ => (w.heap.size ≤ k_)) ho0 (fun k_ hk_ => (Nat.le_trans (below_size (bB)) hk_))) (below_size (bB))); have n2_ := Aside0.mk (below_step (bB) hb); clear HO188; clear HB; have HO188 := n0_; have HO192 := n1_; have HB := n2_; clear n0_ n1_ n2_; (try clear hb); (try clear hb2); (try clear hk); (try clear hi); (try clear ho0))))
    go_ret2
    exact ⟨_, _, by first | rfl | (simp [errW_none, errW_some] <;> rfl) | (simp [*, errW_none, errW_some] <;> rfl), by (with_reducible repeat (first | apply Kd.V_alloc | apply Kd.V_drewN | apply Kd.V_drew)); exact HO188.out, by (with_reducible repeat (first | apply Kd.V_alloc | apply Kd.V_drewN | apply Kd.V_drew)); exact HO192.out, by repeat (first | (with_reducible first | exact HB.out | apply below_alloc | apply pw_below_drewN | apply below_drew1) | exact HB.out)⟩
   ·rw [if_neg c8] at H
    exact absurd H (by simp)
  ·rw [if_neg c7] at H
   have c7b0 : ((l1.length : Int) == 1) = false := beq_eq_false_iff_ne.mpr c7
   have c7b1 : ((l1.length : Int) != 1) = true := bne_iff_ne.mpr c7
   obtain ⟨ji13, hji13⟩ : ∃ j_ : Int, (wrap64 ((l1.length : Int) - 1)) = j_ := ⟨_, rfl⟩
   replace H : (if 0 ≤ (ji13) then (if (ji13) < (l1.length : Int) then ((bits_LeadingZeros32.f (rd l1 (ji13))).bind fun t194 => ((mag_Shl.f k l1 t194).bind fun t195 => (if 0 ≤ (wrap64 ((l0.length : Int) + 1)) then (if (wrap64 ((l0.length : Int) + 1) : Int).toNat ≤ 70368744177664 then ((some (List.replicate (wrap64 ((l0.length : Int) + 1) : Int).toNat 0 : List Int)).bind fun y198 => ((mag_Shl.f k l0 t194).bind fun t201 => (if 0 ≤ (wrap64 ((y198.length : Int) - (t195.length : Int))) then (if (wrap64 ((y198.length : Int) - (t195.length : Int)) : Int).toNat ≤ 70368744177664 then (if 0 ≤ (wrap64 ((t195.length : Int) - 1)) then (if (wrap64 ((t195.length : Int) - 1)) < (t195.length : Int) then (if 0 ≤ (wrap64 ((t195.length : Int) - 2)) then (if (wrap64 ((t195.length : Int) - 2)) < (t195.length : Int) then (mag_DivMod.l0 k (List.replicate (wrap64 ((y198.length : Int) - (t195.length : Int)) : Int).toNat 0) t194 t195 (cpy y198 t201) (t195.length : Int) (IntKind.u64.wrap (rd t195 (wrap64 ((t195.length : Int) - 1)))) (IntKind.u64.wrap (rd t195 (wrap64 ((t195.length : Int) - 2)))) (wrap64 ((wrap64 ((y198.length : Int) - (t195.length : Int))) - 1))) else (none)) else (none)) else (none)) else (none)) else (none)) else (none)))) else (none)) else (none)))) else (none)) else (none)) = some (r1, r2) := by first | (rw [hji13] at H; exact H) | (simp only [hji13] at H ⊢; exact H)
   (try rw [hji13] at A3)
   have hji13w : (IntKind.i64.wrap ((l1.length : Int) - 1)) = ji13 := (i64_w _).trans hji13
   by_cases c14 : 0 ≤ (ji13)
   ·rw [if_pos c14] at H
    have c14b0 : decide (0 ≤ (ji13)) = true := decide_eq_true c14
    clear c14
    by_cases c15 : (ji13) < (l1.length : Int)
    ·rw [if_pos c15] at H
     have c15b0 : decide ((ji13) < (l1.length : Int)) = true := decide_eq_true c15
     clear c15
     replace H := Option.bind_eq_some_iff.mp H
     obtain ⟨t194, A160, H⟩ := H
     replace H : ((mag_Shl.f k l1 t194).bind fun t195 => (if 0 ≤ (wrap64 ((l0.length : Int) + 1)) then (if (wrap64 ((l0.length : Int) + 1) : Int).toNat ≤ 70368744177664 then ((some (List.replicate (wrap64 ((l0.length : Int) + 1) : Int).toNat 0 : List Int)).bind fun y198 => ((mag_Shl.f k l0 t194).bind fun t201 => (if 0 ≤ (wrap64 ((y198.length : Int) - (t195.length : Int))) then (if (wrap64 ((y198.length : Int) - (t195.length : Int)) : Int).toNat ≤ 70368744177664 then (if 0 ≤ (wrap64 ((t195.length : Int) - 1)) then (if (wrap64 ((t195.length : Int) - 1)) < (t195.length : Int) then (if 0 ≤ (wrap64 ((t195.length : Int) - 2)) then (if (wrap64 ((t195.length : Int) - 2)) < (t195.length : Int) then (mag_DivMod.l0 k (List.replicate (wrap64 ((y198.length : Int) - (t195.length : Int)) : Int).toNat 0) t194 t195 (cpy y198 t201) (t195.length : Int) (IntKind.u64.wrap (rd t195 (wrap64 ((t195.length : Int) - 1)))) (IntKind.u64.wrap (rd t195 (wrap64 ((t195.length : Int) - 2)))) (wrap64 ((wrap64 ((y198.length : Int) - (t195.length : Int))) - 1))) else (none)) else (none)) else (none)) else (none)) else (none)) else (none)))) else (none)) else (none))) = some (r1, r2) := H
     have A16 := Aside0.mk A160
     clear A160
     replace H := Option.bind_eq_some_iff.mp H
     obtain ⟨t195, A170, H⟩ := H
     replace H : (if 0 ≤ (wrap64 ((l0.length : Int) + 1)) then (if (wrap64 ((l0.length : Int) + 1) : Int).toNat ≤ 70368744177664 then ((some (List.replicate (wrap64 ((l0.length : Int) + 1) : Int).toNat 0 : List Int)).bind fun y198 => ((mag_Shl.f k l0 t194).bind fun t201 => (if 0 ≤ (wrap64 ((y198.length : Int) - (t195.length : Int))) then (if (wrap64 ((y198.length : Int) - (t195.length : Int)) : Int).toNat ≤ 70368744177664 then (if 0 ≤ (wrap64 ((t195.length : Int) - 1)) then (if (wrap64 ((t195.length : Int) - 1)) < (t195.length : Int) then (if 0 ≤ (wrap64 ((t195.length : Int) - 2)) then (if (wrap64 ((t195.length : Int) - 2)) < (t195.length : Int) then (mag_DivMod.l0 k (List.replicate (wrap64 ((y198.length : Int) - (t195.length : Int)) : Int).toNat 0) t194 t195 (cpy y198 t201) (t195.length : Int) (IntKind.u64.wrap (rd t195 (wrap64 ((t195.length : Int) - 1)))) (IntKind.u64.wrap (rd t195 (wrap64 ((t195.length : Int) - 2)))) (wrap64 ((wrap64 ((y198.length : Int) - (t195.length : Int))) - 1))) else (none)) else (none)) else (none)) else (none)) else (none)) else (none)))) else (none)) else (none)) = some (r1, r2) := H
     have A17 := Aside0.mk A170
     clear A170
     obtain ⟨ji18, hji18⟩ : ∃ j_ : Int, (wrap64 ((l0.length : Int) + 1)) = j_ := ⟨_, rfl⟩
     replace H : (if 0 ≤ (ji18) then (if (ji18 : Int).toNat ≤ 70368744177664 then ((some (List.replicate (ji18 : Int).toNat 0 : List Int)).bind fun y198 => ((mag_Shl.f k l0 t194).bind fun t201 => (if 0 ≤ (wrap64 ((y198.length : Int) - (t195.length : Int))) then (if (wrap64 ((y198.length : Int) - (t195.length : Int)) : Int).toNat ≤ 70368744177664 then (if 0 ≤ (wrap64 ((t195.length : Int) - 1)) then (if (wrap64 ((t195.length : Int) - 1)) < (t195.length : Int) then (if 0 ≤ (wrap64 ((t195.length : Int) - 2)) then (if (wrap64 ((t195.length : Int) - 2)) < (t195.length : Int) then (mag_DivMod.l0 k (List.replicate (wrap64 ((y198.length : Int) - (t195.length : Int)) : Int).toNat 0) t194 t195 (cpy y198 t201) (t195.length : Int) (IntKind.u64.wrap (rd t195 (wrap64 ((t195.length : Int) - 1)))) (IntKind.u64.wrap (rd t195 (wrap64 ((t195.length : Int) - 2)))) (wrap64 ((wrap64 ((y198.length : Int) - (t195.length : Int))) - 1))) else (none)) else (none)) else (none)) else (none)) else (none)) else (none)))) else (none)) else (none)) = some (r1, r2) := by first | (rw [hji18] at H; exact H) | (simp only [hji18] at H ⊢; exact H)
     (try rw [hji18] at A3)
     (try rw [hji18] at A16)
     (try rw [hji18] at A17)
     have hji18w : (IntKind.i64.wrap ((l0.length : Int) + 1)) = ji18 := (i64_w _).trans hji18
     by_cases c19 : 0 ≤ (ji18)
     ·rw [if_pos c19] at H
      have c19b0 := eq_true c19
      have c19b1 : decide (0 ≤ (ji18)) = true := decide_eq_true c19
      clear c19
      by_cases c20 : (ji18 : Int).toNat ≤ 70368744177664
      ·rw [if_pos c20] at H
       have c20b0 := eq_true c20
       have c20b1 : decide ((ji18 : Int).toNat ≤ 70368744177664) = true := decide_eq_true c20
       clear c20
       obtain ⟨y198, hy198⟩ : ∃ y_ : List Int, y_ = (List.replicate (ji18 : Int).toNat 0) := ⟨_, rfl⟩
       replace H : ((mag_Shl.f k l0 t194).bind fun t201 => (if 0 ≤ (wrap64 ((y198.length : Int) - (t195.length : Int))) then (if (wrap64 ((y198.length : Int) - (t195.length : Int)) : Int).toNat ≤ 70368744177664 then (if 0 ≤ (wrap64 ((t195.length : Int) - 1)) then (if (wrap64 ((t195.length : Int) - 1)) < (t195.length : Int) then (if 0 ≤ (wrap64 ((t195.length : Int) - 2)) then (if (wrap64 ((t195.length : Int) - 2)) < (t195.length : Int) then (mag_DivMod.l0 k (List.replicate (wrap64 ((y198.length : Int) - (t195.length : Int)) : Int).toNat 0) t194 t195 (cpy y198 t201) (t195.length : Int) (IntKind.u64.wrap (rd t195 (wrap64 ((t195.length : Int) - 1)))) (IntKind.u64.wrap (rd t195 (wrap64 ((t195.length : Int) - 2)))) (wrap64 ((wrap64 ((y198.length : Int) - (t195.length : Int))) - 1))) else (none)) else (none)) else (none)) else (none)) else (none)) else (none))) = some (r1, r2) := by first | (rw [hy198]; with_reducible exact H) | (have H2_ := (Option.bind_some _ _).symm.trans H; rw [hy198]; with_reducible exact H2_) | (have H2_ := (Option.bind_some _ _).symm.trans H; with_reducible exact H2_) | with_reducible exact H | (rw [hy198]; exact H) | exact H
       have Ny198 := Aside0.mk hy198
       clear hy198
       replace H := Option.bind_eq_some_iff.mp H
       obtain ⟨t201, A210, H⟩ := H
       replace H : (if 0 ≤ (wrap64 ((y198.length : Int) - (t195.length : Int))) then (if (wrap64 ((y198.length : Int) - (t195.length : Int)) : Int).toNat ≤ 70368744177664 then (if 0 ≤ (wrap64 ((t195.length : Int) - 1)) then (if (wrap64 ((t195.length : Int) - 1)) < (t195.length : Int) then (if 0 ≤ (wrap64 ((t195.length : Int) - 2)) then (if (wrap64 ((t195.length : Int) - 2)) < (t195.length : Int) then (mag_DivMod.l0 k (List.replicate (wrap64 ((y198.length : Int) - (t195.length : Int)) : Int).toNat 0) t194 t195 (cpy y198 t201) (t195.length : Int) (IntKind.u64.wrap (rd t195 (wrap64 ((t195.length : Int) - 1)))) (IntKind.u64.wrap (rd t195 (wrap64 ((t195.length : Int) - 2)))) (wrap64 ((wrap64 ((y198.length : Int) - (t195.length : Int))) - 1))) else (none)) else (none)) else (none)) else (none)) else (none)) else (none)) = some (r1, r2) := H
       have A21 := Aside0.mk A210
       clear A210
       obtain ⟨y204, hy204⟩ : ∃ y_ : List Int, y_ = (cpy y198 t201) := ⟨_, rfl⟩
       replace H : (if 0 ≤ (wrap64 ((y198.length : Int) - (t195.length : Int))) then (if (wrap64 ((y198.length : Int) - (t195.length : Int)) : Int).toNat ≤ 70368744177664 then (if 0 ≤ (wrap64 ((t195.length : Int) - 1)) then (if (wrap64 ((t195.length : Int) - 1)) < (t195.length : Int) then (if 0 ≤ (wrap64 ((t195.length : Int) - 2)) then (if (wrap64 ((t195.length : Int) - 2)) < (t195.length : Int) then (mag_DivMod.l0 k (List.replicate (wrap64 ((y198.length : Int) - (t195.length : Int)) : Int).toNat 0) t194 t195 y204 (t195.length : Int) (IntKind.u64.wrap (rd t195 (wrap64 ((t195.length : Int) - 1)))) (IntKind.u64.wrap (rd t195 (wrap64 ((t195.length : Int) - 2)))) (wrap64 ((wrap64 ((y198.length : Int) - (t195.length : Int))) - 1))) else (none)) else (none)) else (none)) else (none)) else (none)) else (none)) = some (r1, r2) := by first | (rw [hy204]; with_reducible exact H) | (have H2_ := (Option.bind_some _ _).symm.trans H; rw [hy204]; with_reducible exact H2_) | (have H2_ := (Option.bind_some _ _).symm.trans H; with_reducible exact H2_) | with_reducible exact H | (rw [hy204]; exact H) | exact H
       have Ny204 := Aside0.mk hy204
       clear hy204
       obtain ⟨ji22, hji22⟩ : ∃ j_ : Int, (wrap64 ((y198.length : Int) - (t195.length : Int))) = j_ := ⟨_, rfl⟩
       replace H : (if 0 ≤ (ji22) then (if (ji22 : Int).toNat ≤ 70368744177664 then (if 0 ≤ (wrap64 ((t195.length : Int) - 1)) then (if (wrap64 ((t195.length : Int) - 1)) < (t195.length : Int) then (if 0 ≤ (wrap64 ((t195.length : Int) - 2)) then (if (wrap64 ((t195.length : Int) - 2)) < (t195.length : Int) then (mag_DivMod.l0 k (List.replicate (ji22 : Int).toNat 0) t194 t195 y204 (t195.length : Int) (IntKind.u64.wrap (rd t195 (wrap64 ((t195.length : Int) - 1)))) (IntKind.u64.wrap (rd t195 (wrap64 ((t195.length : Int) - 2)))) (wrap64 ((ji22) - 1))) else (none)) else (none)) else (none)) else (none)) else (none)) else (none)) = some (r1, r2) := by first | (rw [hji22] at H; exact H) | (simp only [hji22] at H ⊢; exact H)
       (try rw [hji22] at A3)
       (try rw [hji22] at A16)
       (try rw [hji22] at A17)
       (try rw [hji22] at A21)
       have hji22w : (IntKind.i64.wrap ((y198.length : Int) - (t195.length : Int))) = ji22 := (i64_w _).trans hji22
       by_cases c23 : 0 ≤ (ji22)
       ·rw [if_pos c23] at H
        have c23b0 := eq_true c23
        have c23b1 : decide (0 ≤ (ji22)) = true := decide_eq_true c23
        clear c23
        by_cases c24 : (ji22 : Int).toNat ≤ 70368744177664
        ·rw [if_pos c24] at H
         have c24b0 := eq_true c24
         have c24b1 : decide ((ji22 : Int).toNat ≤ 70368744177664) = true := decide_eq_true c24
         clear c24
         obtain ⟨y205, hy205⟩ : ∃ y_ : List Int, y_ = (List.replicate (ji22 : Int).toNat 0) := ⟨_, rfl⟩
         replace H : (if 0 ≤ (wrap64 ((t195.length : Int) - 1)) then (if (wrap64 ((t195.length : Int) - 1)) < (t195.length : Int) then (if 0 ≤ (wrap64 ((t195.length : Int) - 2)) then (if (wrap64 ((t195.length : Int) - 2)) < (t195.length : Int) then (mag_DivMod.l0 k y205 t194 t195 y204 (t195.length : Int) (IntKind.u64.wrap (rd t195 (wrap64 ((t195.length : Int) - 1)))) (IntKind.u64.wrap (rd t195 (wrap64 ((t195.length : Int) - 2)))) (wrap64 ((ji22) - 1))) else (none)) else (none)) else (none)) else (none)) = some (r1, r2) := by first | (rw [hy205]; with_reducible exact H) | (have H2_ := (Option.bind_some _ _).symm.trans H; rw [hy205]; with_reducible exact H2_) | (have H2_ := (Option.bind_some _ _).symm.trans H; with_reducible exact H2_) | with_reducible exact H | (rw [hy205]; exact H) | exact H
         have Ny205 := Aside0.mk hy205
         clear hy205
         obtain ⟨ji25, hji25⟩ : ∃ j_ : Int, (wrap64 ((t195.length : Int) - 1)) = j_ := ⟨_, rfl⟩
         replace H : (if 0 ≤ (ji25) then (if (ji25) < (t195.length : Int) then (if 0 ≤ (wrap64 ((t195.length : Int) - 2)) then (if (wrap64 ((t195.length : Int) - 2)) < (t195.length : Int) then (mag_DivMod.l0 k y205 t194 t195 y204 (t195.length : Int) (IntKind.u64.wrap (rd t195 (ji25))) (IntKind.u64.wrap (rd t195 (wrap64 ((t195.length : Int) - 2)))) (wrap64 ((ji22) - 1))) else (none)) else (none)) else (none)) else (none)) = some (r1, r2) := by first | (rw [hji25] at H; exact H) | (simp only [hji25] at H ⊢; exact H)
         (try rw [hji25] at A3)
         (try rw [hji25] at A16)
         (try rw [hji25] at A17)
         (try rw [hji25] at A21)
         have hji25w : (IntKind.i64.wrap ((t195.length : Int) - 1)) = ji25 := (i64_w _).trans hji25
         by_cases c26 : 0 ≤ (ji25)
         ·rw [if_pos c26] at H
          have c26b0 : decide (0 ≤ (ji25)) = true := decide_eq_true c26
          clear c26
          by_cases c27 : (ji25) < (t195.length : Int)
          ·rw [if_pos c27] at H
           have c27b0 : decide ((ji25) < (t195.length : Int)) = true := decide_eq_true c27
           clear c27
           obtain ⟨ji28, hji28⟩ : ∃ j_ : Int, (wrap64 ((t195.length : Int) - 2)) = j_ := ⟨_, rfl⟩
           replace H : (if 0 ≤ (ji28) then (if (ji28) < (t195.length : Int) then (mag_DivMod.l0 k y205 t194 t195 y204 (t195.length : Int) (IntKind.u64.wrap (rd t195 (ji25))) (IntKind.u64.wrap (rd t195 (ji28))) (wrap64 ((ji22) - 1))) else (none)) else (none)) = some (r1, r2) := by first | (rw [hji28] at H; exact H) | (simp only [hji28] at H ⊢; exact H)
           (try rw [hji28] at A3)
           (try rw [hji28] at A16)
           (try rw [hji28] at A17)
           (try rw [hji28] at A21)
           have hji28w : (IntKind.i64.wrap ((t195.length : Int) - 2)) = ji28 := (i64_w _).trans hji28
           by_cases c29 : 0 ≤ (ji28)
           ·rw [if_pos c29] at H
            have c29b0 : decide (0 ≤ (ji28)) = true := decide_eq_true c29
            clear c29
            by_cases c30 : (ji28) < (t195.length : Int)
            ·rw [if_pos c30] at H
             have c30b0 : decide ((ji28) < (t195.length : Int)) = true := decide_eq_true c30
             clear c30
             have H' := Aside0.mk H
             clear H
             go_enter Try.func48, Try.ntmps48
             go_wp2_with (first | (go_at_call 51; (with_reducible refine (mag_Cmp.calls k _ _ l0 _ _ l1 t181 _ ?side1 ?side2 ?side3 ?side4 A3.out).mono ?_); (case side1 => repeat (first | exact HR0.out | (with_reducible refine Kd.C_alloc ?_ _) | (with_reducible refine Kd.C_drewN ?_ _) | (with_reducible refine Kd.C_drew ?_))); (case side2 => exact HC0.out); (case side3 => repeat (first | exact HR1.out | (with_reducible refine Kd.C_alloc ?_ _) | (with_reducible refine Kd.C_drewN ?_ _) | (with_reducible refine Kd.C_drew ?_))); (case side4 => exact HC1.out); rintro e w' ⟨rfl, ⟨nd, rfl⟩⟩; (try first | exact ⟨rfl, _, World.drewN_drewN _ _ _⟩ | exact ⟨rfl, _, Eq.trans (World.drewN_drewN _ _ _) (congrArg (World.drewN _) (Nat.add_assoc _ _ _))⟩); have p193 : 0 ≤ ((ji13) : Int) := of_decide_eq_true aS; have q193 : (ji13) < (l1.length : Int) := of_decide_eq_true aS; obtain ⟨ad193, e193, hx193_0⟩ := Kd.at_int HR1.out (ji13) p193 q193; cases e193; replace p193 := eq_true p193; replace q193 := eq_true q193) | (go_at_call 67; (with_reducible refine (bits_LeadingZeros32.calls (rd l1 (ji13)) t194 _ A16.out).mono ?_); rintro e w' ⟨rfl, ⟨nd, rfl⟩⟩; (try first | exact ⟨rfl, _, World.drewN_drewN _ _ _⟩ | exact ⟨rfl, _, Eq.trans (World.drewN_drewN _ _ _) (congrArg (World.drewN _) (Nat.add_assoc _ _ _))⟩)) | (go_at_call 46; (with_reducible refine (mag_Shl.calls k _ _ l1 t194 t195 _ ?side1 ?side2 A17.out).mono ?_); (case side1 => repeat (first | exact HR1.out | (with_reducible refine Kd.C_alloc ?_ _) | (with_reducible refine Kd.C_drewN ?_ _) | (with_reducible refine Kd.C_drew ?_))); (case side2 => exact HC1.out); rintro e w31 ⟨v196, rfl, ho0, hb⟩; have n0_ := Aside0.mk (Kd.V_lower (Kd.V_mono (ok' := fun k_ => (w.heap.size ≤ k_)) ho0 (fun k_ hk_ => (Nat.le_trans (below_size (bB)) hk_))) (below_size (bB))); have n1_ := Aside0.mk (below_step (bB) hb); clear HB; have HO197 := n0_; have HB := n1_; clear n0_ n1_; (try clear hb); (try clear hb2); (try clear hk); (try clear hi); (try clear ho0)) | ((with_reducible refine gate_dst (N := 52) rfl ?_); refine Kd.R_make (Kd.int .u32) _ 36 rfl (N := 52) rfl 22 _ _ rfl ji18 rfl rfl Try.underlying22 (.int .u32 0) 4 info36 rfl (by decide) (by omega) 0 (ok := fun _ => True) (okp := fun _ => True) rfl (fun _ hk => hk) trivial (of_decide_eq_true aS) (Nat.le_trans (Nat.mul_le_mul_right _ (of_decide_eq_true aS : ji18.toNat ≤ 70368744177664)) (by omega)) (Below.refl _ _) (Nat.le_refl _) ?_; intro v199 w32 ho33 hb hg_ hnew_; clear hg_ hnew_; (first | rw [← Ny198.out] at ho33 | (simp only [Int.reduceToNat] at ho33; rw [← Ny198.out] at ho33)); have n0_ := Aside0.mk (Kd.V_elder' (by (with_reducible repeat (first | apply Kd.V_alloc | apply Kd.V_drewN | apply Kd.V_drew)); exact HO197.out) (Kd.R_base ho33) hb); have n1_ := Aside0.mk (Kd.R_lower (Kd.R_newM (M := fun k_ => (w.heap.size ≤ k_)) ho33 (below_size (bB)) (fun k_ h_ => h_)) (below_size (bB))); have n2_ := Aside0.mk (below_step (bB) hb); clear HO197; clear HB; have HO197 := n0_; have HO200 := n1_; have HB := n2_; clear n0_ n1_ n2_; clear hb ho33) | (go_at_call 46; (with_reducible refine (mag_Shl.calls k _ _ l0 t194 t201 _ ?side1 ?side2 A21.out).mono ?_); (case side1 => repeat (first | exact (Kd.C_below HR0.out HB.out) | (with_reducible refine Kd.C_alloc ?_ _) | (with_reducible refine Kd.C_drewN ?_ _) | (with_reducible refine Kd.C_drew ?_))); (case side2 => exact HC0.out); rintro e w34 ⟨v202, rfl, ho0, hb⟩; have n0_ := Aside0.mk (Kd.V_below (by (with_reducible repeat (first | apply Kd.V_alloc | apply Kd.V_drewN | apply Kd.V_drew)); exact HO197.out) hb); have n1_ := Aside0.mk (Kd.R_below (by (with_reducible repeat (first | apply Kd.R_alloc | apply Kd.R_drewN | apply Kd.R_drew)); exact HO200.out) hb); have n2_ := Aside0.mk (Kd.V_lower (Kd.V_mono (ok' := fun k_ => (w.heap.size ≤ k_) ∧ some k_ ≠ (v199 : Value).ownBlock) ho0 (fun k_ hk_ => ⟨(Nat.le_trans (below_size (bB)) hk_), (Kd.fresh' (Kd.R_lt (by (with_reducible repeat (first | apply Kd.R_alloc | apply Kd.R_drewN | apply Kd.R_drew)); exact HO200.out)) k_ hk_)⟩)) (below_size (bB))); have n3_ := Aside0.mk (below_step (bB) hb); clear HO197; clear HO200; clear HB; have HO197 := n0_; have HO200 := n1_; have HO203 := n2_; have HB := n3_; clear n0_ n1_ n2_ n3_; (try clear hb); (try clear hb2); (try clear hk); (try clear hi); (try clear ho0); obtain ⟨Ao36, co36, eo36⟩ := Kd.R_slice HO200.out; subst eo36; have n_ := Aside0.mk (Kd.R_mono (ok' := (fun k_ => (w.heap.size ≤ k_))) HO200.out (fun k_ hk => hk.1)); clear HO200; have HO200 := n_; clear n_; obtain ⟨Ao37, co37, eo37⟩ := Kd.V_slice HO203.out; subst eo37) | ((with_reducible refine gate_builtin (b := .copy) (xs := #[.tmp 53, .tmp 56]) rfl ?_); refine copyin  .u32 (w0 := w) w.heap.size rfl (.tmp 53) (.tmp 56) 22 22 36 rfl Try.underlying22 info36 (.slice Ao36 y198.length co36) y198 t201 _ _ _ (fun k_ => (w.heap.size ≤ k_)) rfl rfl ?aO ?aR ?aB ?aS ?_; (case aO => exact (by (with_reducible repeat (first | apply Kd.R_alloc | apply Kd.R_drewN | apply Kd.R_drew)); exact HO200.out)); (case aR => repeat (first | exact (Kd.V_reads' HO203.out).2.2 | (with_reducible refine Kd.C_alloc ?_ _) | (with_reducible refine Kd.C_drewN ?_ _) | (with_reducible refine Kd.C_drew ?_))); (case aB => exact (bB)); (case aS => exact (below_size (bB))); intro w35 ho hb hg; rw [← Ny204.out] at ho; have n0_ := Aside0.mk (Kd.V_afterv (v := (.slice Ao36 y198.length co36)) (v1 := (.slice Ao36 y198.length co36)) (ok := (fun k_ => (w.heap.size ≤ k_))) (by (with_reducible repeat (first | apply Kd.V_alloc | apply Kd.V_drewN | apply Kd.V_drew)); exact HO197.out) hg (.inl rfl)); have n1_ := Aside0.mk (ho); have n2_ := Aside0.mk (Kd.V_afterv (v := (.slice Ao36 y198.length co36)) (v1 := (.slice Ao36 y198.length co36)) (ok := (fun k_ => (w.heap.size ≤ k_))) (by (with_reducible repeat (first | apply Kd.V_alloc | apply Kd.V_drewN | apply Kd.V_drew)); exact HO203.out) hg (.inl rfl)); have n3_ := Aside0.mk (hb); clear HO197; clear HO200; clear HO203; clear HB; have HO197 := n0_; have HO200 := n1_; have HO203 := n2_; have HB := n3_; clear n0_ n1_ n2_ n3_; clear ho hb hg; obtain ⟨Ao38, co38, eo38⟩ := Kd.V_slice HO197.out; subst eo38) | ((with_reducible refine gate_dst (N := 64) rfl ?_); refine Kd.R_make (Kd.int .u32) _ 36 rfl (N := 64) rfl 22 _ _ rfl ji22 rfl rfl Try.underlying22 (.int .u32 0) 4 info36 rfl (by decide) (by omega) 0 (ok := fun _ => True) (okp := fun _ => True) rfl (fun _ hk => hk) trivial (of_decide_eq_true aS) (Nat.le_trans (Nat.mul_le_mul_right _ (of_decide_eq_true aS : ji22.toNat ≤ 70368744177664)) (by omega)) (Below.refl _ _) (Nat.le_refl _) ?_; intro v206 w39 ho40 hb hg_ hnew_; clear hg_ hnew_; (first | rw [← Ny205.out] at ho40 | (simp only [Int.reduceToNat] at ho40; rw [← Ny205.out] at ho40)); have n0_ := Aside0.mk (Kd.V_elder' (by (with_reducible repeat (first | apply Kd.V_alloc | apply Kd.V_drewN | apply Kd.V_drew)); exact HO197.out) (Kd.R_base ho40) hb); have n1_ := Aside0.mk (Kd.R_elder' (by (with_reducible repeat (first | apply Kd.R_alloc | apply Kd.R_drewN | apply Kd.R_drew)); exact HO200.out) (Kd.R_base ho40) hb); have n2_ := Aside0.mk (Kd.V_elder' (by (with_reducible repeat (first | apply Kd.V_alloc | apply Kd.V_drewN | apply Kd.V_drew)); exact HO203.out) (Kd.R_base ho40) hb); have n3_ := Aside0.mk (Kd.R_lower (Kd.R_new' (Kd.R_newM (M := fun k_ => (w.heap.size ≤ k_)) ho40 (below_size (bB)) (fun k_ h_ => h_)) (Kd.R_lt (by (with_reducible repeat (first | apply Kd.R_alloc | apply Kd.R_drewN | apply Kd.R_drew)); exact HO200.out))) (below_size (bB))); have n4_ := Aside0.mk (below_step (bB) hb); clear HO197; clear HO200; clear HO203; clear HB; have HO197 := n0_; have HO200 := n1_; have HO203 := n2_; have HO207 := n3_; have HB := n4_; clear n0_ n1_ n2_ n3_ n4_; clear hb ho40; have p208 : 0 ≤ ((ji25) : Int) := of_decide_eq_true aS; have q208 : (ji25) < (t195.length : Int) := of_decide_eq_true aS; obtain ⟨ad208, e208, hx208_0⟩ := Kd.at_int (Kd.V_reads' HO197.out).2.2 (ji25) p208 q208; cases e208; replace p208 := eq_true p208; replace q208 := eq_true q208; have p209 : 0 ≤ ((ji28) : Int) := of_decide_eq_true aS; have q209 : (ji28) < (t195.length : Int) := of_decide_eq_true aS; obtain ⟨ad209, e209, hx209_0⟩ := Kd.at_int (Kd.V_reads' HO197.out).2.2 (ji28) p209 q209; obtain rfl : ad208 = ad209 := (by injection e209); replace p209 := eq_true p209; replace q209 := eq_true q209))
             repeat (go_quiet (first | (go_at_call 51; (with_reducible refine (mag_Cmp.calls k _ _ l0 _ _ l1 t181 _ ?side1 ?side2 ?side3 ?side4 A3.out).mono ?_); (case side1 => repeat (first | exact HR0.out | (with_reducible refine Kd.C_alloc ?_ _) | (with_reducible refine Kd.C_drewN ?_ _) | (with_reducible refine Kd.C_drew ?_))); (case side2 => exact HC0.out); (case side3 => repeat (first | exact HR1.out | (with_reducible refine Kd.C_alloc ?_ _) | (with_reducible refine Kd.C_drewN ?_ _) | (with_reducible refine Kd.C_drew ?_))); (case side4 => exact HC1.out); rintro e w' ⟨rfl, ⟨nd, rfl⟩⟩; (try first | exact ⟨rfl, _, World.drewN_drewN _ _ _⟩ | exact ⟨rfl, _, Eq.trans (World.drewN_drewN _ _ _) (congrArg (World.drewN _) (Nat.add_assoc _ _ _))⟩); have p193 : 0 ≤ ((ji13) : Int) := of_decide_eq_true aS; have q193 : (ji13) < (l1.length : Int) := of_decide_eq_true aS; obtain ⟨ad193, e193, hx193_0⟩ := Kd.at_int HR1.out (ji13) p193 q193; cases e193; replace p193 := eq_true p193; replace q193 := eq_true q193) | (go_at_call 67; (with_reducible refine (bits_LeadingZeros32.calls (rd l1 (ji13)) t194 _ A16.out).mono ?_); rintro e w' ⟨rfl, ⟨nd, rfl⟩⟩; (try first | exact ⟨rfl, _, World.drewN_drewN _ _ _⟩ | exact ⟨rfl, _, Eq.trans (World.drewN_drewN _ _ _) (congrArg (World.drewN _) (Nat.add_assoc _ _ _))⟩)) | (go_at_call 46; (with_reducible refine (mag_Shl.calls k _ _ l1 t194 t195 _ ?side1 ?side2 A17.out).mono ?_); (case side1 => repeat (first | exact HR1.out | (with_reducible refine Kd.C_alloc ?_ _) | (with_reducible refine Kd.C_drewN ?_ _) | (with_reducible refine Kd.C_drew ?_))); (case side2 => exact HC1.out); rintro e w31 ⟨v196, rfl, ho0, hb⟩; have n0_ := Aside0.mk (Kd.V_lower (Kd.V_mono (ok' := fun k_ => (w.heap.size ≤ k_)) ho0 (fun k_ hk_ => (Nat.le_trans (below_size (bB)) hk_))) (below_size (bB))); have n1_ := Aside0.mk (below_step (bB) hb); clear HB; have HO197 := n0_; have HB := n1_; clear n0_ n1_; (try clear hb); (try clear hb2); (try clear hk); (try clear hi); (try clear ho0)) | ((with_reducible refine gate_dst (N := 52) rfl ?_); refine Kd.R_make (Kd.int .u32) _ 36 rfl (N := 52) rfl 22 _ _ rfl ji18 rfl rfl Try.underlying22 (.int .u32 0) 4 info36 rfl (by decide) (by omega) 0 (ok := fun _ => True) (okp := fun _ => True) rfl (fun _ hk => hk) trivial (of_decide_eq_true aS) (Nat.le_trans (Nat.mul_le_mul_right _ (of_decide_eq_true aS : ji18.toNat ≤ 70368744177664)) (by omega)) (Below.refl _ _) (Nat.le_refl _) ?_; intro v199 w32 ho33 hb hg_ hnew_; clear hg_ hnew_; (first | rw [← Ny198.out] at ho33 | (simp only [Int.reduceToNat] at ho33; rw [← Ny198.out] at ho33)); have n0_ := Aside0.mk (Kd.V_elder' (by (with_reducible repeat (first | apply Kd.V_alloc | apply Kd.V_drewN | apply Kd.V_drew)); exact HO197.out) (Kd.R_base ho33) hb); have n1_ := Aside0.mk (Kd.R_lower (Kd.R_newM (M := fun k_ => (w.heap.size ≤ k_)) ho33 (below_size (bB)) (fun k_ h_ => h_)) (below_size (bB))); have n2_ := Aside0.mk (below_step (bB) hb); clear HO197; clear HB; have HO197 := n0_; have HO200 := n1_; have HB := n2_; clear n0_ n1_ n2_; clear hb ho33) | (go_at_call 46; (with_reducible refine (mag_Shl.calls k _ _ l0 t194 t201 _ ?side1 ?side2 A21.out).mono ?_); (case side1 => repeat (first | exact (Kd.C_below HR0.out HB.out) | (with_reducible refine Kd.C_alloc ?_ _) | (with_reducible refine Kd.C_drewN ?_ _) | (with_reducible refine Kd.C_drew ?_))); (case side2 => exact HC0.out); rintro e w34 ⟨v202, rfl, ho0, hb⟩; have n0_ := Aside0.mk (Kd.V_below (by (with_reducible repeat (first | apply Kd.V_alloc | apply Kd.V_drewN | apply Kd.V_drew)); exact HO197.out) hb); have n1_ := Aside0.mk (Kd.R_below (by (with_reducible repeat (first | apply Kd.R_alloc | apply Kd.R_drewN | apply Kd.R_drew)); exact HO200.out) hb); have n2_ := Aside0.mk (Kd.V_lower (Kd.V_mono (ok' := fun k_ => (w.heap.size ≤ k_) ∧ some k_ ≠ (v199 : Value).ownBlock) ho0 (fun k_ hk_ => ⟨(Nat.le_trans (below_size (bB)) hk_), (Kd.fresh' (Kd.R_lt (by (with_reducible repeat (first | apply Kd.R_alloc | apply Kd.R_drewN | apply Kd.R_drew)); exact HO200.out)) k_ hk_)⟩)) (below_size (bB))); have n3_ := Aside0.mk (below_step (bB) hb); clear HO197; clear HO200; clear HB; have HO197 := n0_; have HO200 := n1_; have HO203 := n2_; have HB := n3_; clear n0_ n1_ n2_ n3_; (try clear hb); (try clear hb2); (try clear hk); (try clear hi); (try clear ho0); obtain ⟨Ao36, co36, eo36⟩ := Kd.R_slice HO200.out; subst eo36; have n_ := Aside0.mk (Kd.R_mono (ok' := (fun k_ => (w.heap.size ≤ k_))) HO200.out (fun k_ hk => hk.1)); clear HO200; have HO200 := n_; clear n_; obtain ⟨Ao37, co37, eo37⟩ := Kd.V_slice HO203.out; subst eo37) | ((with_reducible refine gate_builtin (b := .copy) (xs := #[.tmp 53, .tmp 56]) rfl ?_); refine copyin  .u32 (w0 := w) w.heap.size rfl (.tmp 53) (.tmp 56) 22 22 36 rfl Try.underlying22 info36 (.slice Ao36 y198.length co36) y198 t201 _ _ _ (fun k_ => (w.heap.size ≤ k_)) rfl rfl ?aO ?aR ?aB ?aS ?_; (case aO => exact (by (with_reducible repeat (first | apply Kd.R_alloc | apply Kd.R_drewN | apply Kd.R_drew)); exact HO200.out)); (case aR => repeat (first | exact (Kd.V_reads' HO203.out).2.2 | (with_reducible refine Kd.C_alloc ?_ _) | (with_reducible refine Kd.C_drewN ?_ _) | (with_reducible refine Kd.C_drew ?_))); (case aB => exact (bB)); (case aS => exact (below_size (bB))); intro w35 ho hb hg; rw [← Ny204.out] at ho; have n0_ := Aside0.mk (Kd.V_afterv (v := (.slice Ao36 y198.length co36)) (v1 := (.slice Ao36 y198.length co36)) (ok := (fun k_ => (w.heap.size ≤ k_))) (by (with_reducible repeat (first | apply Kd.V_alloc | apply Kd.V_drewN | apply Kd.V_drew)); exact HO197.out) hg (.inl rfl)); have n1_ := Aside0.mk (ho); have n2_ := Aside0.mk (Kd.V_afterv (v := (.slice Ao36 y198.length co36)) (v1 := (.slice Ao36 y198.length co36)) (ok := (fun k_ => (w.heap.size ≤ k_))) (by (with_reducible repeat (first | apply Kd.V_alloc | apply Kd.V_drewN | apply Kd.V_drew)); exact HO203.out) hg (.inl rfl)); have n3_ := Aside0.mk (hb); clear HO197; clear HO200; clear HO203; clear HB; have HO197 := n0_; have HO200 := n1_; have HO203 := n2_; have HB := n3_; clear n0_ n1_ n2_ n3_; clear ho hb hg; obtain ⟨Ao38, co38, eo38⟩ := Kd.V_slice HO197.out; subst eo38) | ((with_reducible refine gate_dst (N := 64) rfl ?_); refine Kd.R_make (Kd.int .u32) _ 36 rfl (N := 64) rfl 22 _ _ rfl ji22 rfl rfl Try.underlying22 (.int .u32 0) 4 info36 rfl (by decide) (by omega) 0 (ok := fun _ => True) (okp := fun _ => True) rfl (fun _ hk => hk) trivial (of_decide_eq_true aS) (Nat.le_trans (Nat.mul_le_mul_right _ (of_decide_eq_true aS : ji22.toNat ≤ 70368744177664)) (by omega)) (Below.refl _ _) (Nat.le_refl _) ?_; intro v206 w39 ho40 hb hg_ hnew_; clear hg_ hnew_; (first | rw [← Ny205.out] at ho40 | (simp only [Int.reduceToNat] at ho40; rw [← Ny205.out] at ho40)); have n0_ := Aside0.mk (Kd.V_elder' (by (with_reducible repeat (first | apply Kd.V_alloc | apply Kd.V_drewN | apply Kd.V_drew)); exact HO197.out) (Kd.R_base ho40) hb); have n1_ := Aside0.mk (Kd.R_elder' (by (with_reducible repeat (first | apply Kd.R_alloc | apply Kd.R_drewN | apply Kd.R_drew)); exact HO200.out) (Kd.R_base ho40) hb); have n2_ := Aside0.mk (Kd.V_elder' (by (with_reducible repeat (first | apply Kd.V_alloc | apply Kd.V_drewN | apply Kd.V_drew)); exact HO203.out) (Kd.R_base ho40) hb); have n3_ := Aside0.mk (Kd.R_lower (Kd.R_new' (Kd.R_newM (M := fun k_ => (w.heap.size ≤ k_)) ho40 (below_size (bB)) (fun k_ h_ => h_)) (Kd.R_lt (by (with_reducible repeat (first | apply Kd.R_alloc | apply Kd.R_drewN | apply Kd.R_drew)); exact HO200.out))) (below_size (bB))); have n4_ := Aside0.mk (below_step (bB) hb); clear HO197; clear HO200; clear HO203; clear HB; have HO197 := n0_; have HO200 := n1_; have HO203 := n2_; have HO207 := n3_; have HB := n4_; clear n0_ n1_ n2_ n3_ n4_; clear hb ho40; have p208 : 0 ≤ ((ji25) : Int) := of_decide_eq_true aS; have q208 : (ji25) < (t195.length : Int) := of_decide_eq_true aS; obtain ⟨ad208, e208, hx208_0⟩ := Kd.at_int (Kd.V_reads' HO197.out).2.2 (ji25) p208 q208; cases e208; replace p208 := eq_true p208; replace q208 := eq_true q208; have p209 : 0 ≤ ((ji28) : Int) := of_decide_eq_true aS; have q209 : (ji28) < (t195.length : Int) := of_decide_eq_true aS; obtain ⟨ad209, e209, hx209_0⟩ := Kd.at_int (Kd.V_reads' HO197.out).2.2 (ji28) p209 q209; obtain rfl : ad208 = ad209 := (by injection e209); replace p209 := eq_true p209; replace q209 := eq_true q209)); try go_wp2_with (first | (go_at_call 51; (with_reducible refine (mag_Cmp.calls k _ _ l0 _ _ l1 t181 _ ?side1 ?side2 ?side3 ?side4 A3.out).mono ?_); (case side1 => repeat (first | exact HR0.out | (with_reducible refine Kd.C_alloc ?_ _) | (with_reducible refine Kd.C_drewN ?_ _) | (with_reducible refine Kd.C_drew ?_))); (case side2 => exact HC0.out); (case side3 => repeat (first | exact HR1.out | (with_reducible refine Kd.C_alloc ?_ _) | (with_reducible refine Kd.C_drewN ?_ _) | (with_reducible refine Kd.C_drew ?_))); (case side4 => exact HC1.out); rintro e w' ⟨rfl, ⟨nd, rfl⟩⟩; (try first | exact ⟨rfl, _, World.drewN_drewN _ _ _⟩ | exact ⟨rfl, _, Eq.trans (World.drewN_drewN _ _ _) (congrArg (World.drewN _) (Nat.add_assoc _ _ _))⟩); have p193 : 0 ≤ ((ji13) : Int) := of_decide_eq_true aS; have q193 : (ji13) < (l1.length : Int) := of_decide_eq_true aS; obtain ⟨ad193, e193, hx193_0⟩ := Kd.at_int HR1.out (ji13) p193 q193; cases e193; replace p193 := eq_true p193; replace q193 := eq_true q193) | (go_at_call 67; (with_reducible refine (bits_LeadingZeros32.calls (rd l1 (ji13)) t194 _ A16.out).mono ?_); rintro e w' ⟨rfl, ⟨nd, rfl⟩⟩; (try first | exact ⟨rfl, _, World.drewN_drewN _ _ _⟩ | exact ⟨rfl, _, Eq.trans (World.drewN_drewN _ _ _) (congrArg (World.drewN _) (Nat.add_assoc _ _ _))⟩)) | (go_at_call 46; (with_reducible refine (mag_Shl.calls k _ _ l1 t194 t195 _ ?side1 ?side2 A17.out).mono ?_); (case side1 => repeat (first | exact HR1.out | (with_reducible refine Kd.C_alloc ?_ _) | (with_reducible refine Kd.C_drewN ?_ _) | (with_reducible refine Kd.C_drew ?_))); (case side2 => exact HC1.out); rintro e w31 ⟨v196, rfl, ho0, hb⟩; have n0_ := Aside0.mk (Kd.V_lower (Kd.V_mono (ok' := fun k_ => (w.heap.size ≤ k_)) ho0 (fun k_ hk_ => (Nat.le_trans (below_size (bB)) hk_))) (below_size (bB))); have n1_ := Aside0.mk (below_step (bB) hb); clear HB; have HO197 := n0_; have HB := n1_; clear n0_ n1_; (try clear hb); (try clear hb2); (try clear hk); (try clear hi); (try clear ho0)) | ((with_reducible refine gate_dst (N := 52) rfl ?_); refine Kd.R_make (Kd.int .u32) _ 36 rfl (N := 52) rfl 22 _ _ rfl ji18 rfl rfl Try.underlying22 (.int .u32 0) 4 info36 rfl (by decide) (by omega) 0 (ok := fun _ => True) (okp := fun _ => True) rfl (fun _ hk => hk) trivial (of_decide_eq_true aS) (Nat.le_trans (Nat.mul_le_mul_right _ (of_decide_eq_true aS : ji18.toNat ≤ 70368744177664)) (by omega)) (Below.refl _ _) (Nat.le_refl _) ?_; intro v199 w32 ho33 hb hg_ hnew_; clear hg_ hnew_; (first | rw [← Ny198.out] at ho33 | (simp only [Int.reduceToNat] at ho33; rw [← Ny198.out] at ho33)); have n0_ := Aside0.mk (Kd.V_elder' (by (with_reducible repeat (first | apply Kd.V_alloc | apply Kd.V_drewN | apply Kd.V_drew)); exact HO197.out) (Kd.R_base ho33) hb); have n1_ := Aside0.mk (Kd.R_lower (Kd.R_newM (M := fun k_ => (w.heap.size ≤ k_)) ho33 (below_size (bB)) (fun k_ h_ => h_)) (below_size (bB))); have n2_ := Aside0.mk (below_step (bB) hb); clear HO197; clear HB; have HO197 := n0_; have HO200 := n1_; have HB := n2_; clear n0_ n1_ n2_; clear hb ho33) | (go_at_call 46; (with_reducible refine (mag_Shl.calls k _ _ l0 t194 t201 _ ?side1 ?side2 A21.out).mono ?_); (case side1 => repeat (first | exact (Kd.C_below HR0.out HB.out) | (with_reducible refine Kd.C_alloc ?_ _) | (with_reducible refine Kd.C_drewN ?_ _) | (with_reducible refine Kd.C_drew ?_))); (case side2 => exact HC0.out); rintro e w34 ⟨v202, rfl, ho0, hb⟩; have n0_ := Aside0.mk (Kd.V_below (by (with_reducible repeat (first | apply Kd.V_alloc | apply Kd.V_drewN | apply Kd.V_drew)); exact HO197.out) hb); have n1_ := Aside0.mk (Kd.R_below (by (with_reducible repeat (first | apply Kd.R_alloc | apply Kd.R_drewN | apply Kd.R_drew)); exact HO200.out) hb); have n2_ := Aside0.mk (Kd.V_lower (Kd.V_mono (ok' := fun k_ => (w.heap.size ≤ k_) ∧ some k_ ≠ (v199 : Value).ownBlock) ho0 (fun k_ hk_ => ⟨(Nat.le_trans (below_size (bB)) hk_), (Kd.fresh' (Kd.R_lt (by (with_reducible repeat (first | apply Kd.R_alloc | apply Kd.R_drewN | apply Kd.R_drew)); exact HO200.out)) k_ hk_)⟩)) (below_size (bB))); have n3_ := Aside0.mk (below_step (bB) hb); clear HO197; clear HO200; clear HB; have HO197 := n0_; have HO200 := n1_; have HO203 := n2_; have HB := n3_; clear n0_ n1_ n2_ n3_; (try clear hb); (try clear hb2); (try clear hk); (try clear hi); (try clear ho0); obtain ⟨Ao36, co36, eo36⟩ := Kd.R_slice HO200.out; subst eo36; have n_ := Aside0.mk (Kd.R_mono (ok' := (fun k_ => (w.heap.size ≤ k_))) HO200.out (fun k_ hk => hk.1)); clear HO200; have HO200 := n_; clear n_; obtain ⟨Ao37, co37, eo37⟩ := Kd.V_slice HO203.out; subst eo37) | ((with_reducible refine gate_builtin (b := .copy) (xs := #[.tmp 53, .tmp 56]) rfl ?_); refine copyin  .u32 (w0 := w) w.heap.size rfl (.tmp 53) (.tmp 56) 22 22 36 rfl Try.underlying22 info36 (.slice Ao36 y198.length co36) y198 t201 _ _ _ (fun k_ => (w.heap.size ≤ k_)) rfl rfl ?aO ?aR ?aB ?aS ?_; (case aO => exact (by (with_reducible repeat (first | apply Kd.R_alloc | apply Kd.R_drewN | apply Kd.R_drew)); exact HO200.out)); (case aR => repeat (first | exact (Kd.V_reads' HO203.out).2.2 | (with_reducible refine Kd.C_alloc ?_ _) | (with_reducible refine Kd.C_drewN ?_ _) | (with_reducible refine Kd.C_drew ?_))); (case aB => exact (bB)); (case aS => exact (below_size (bB))); intro w35 ho hb hg; rw [← Ny204.out] at ho; have n0_ := Aside0.mk (Kd.V_afterv (v := (.slice Ao36 y198.length co36)) (v1 := (.slice Ao36 y198.length co36)) (ok := (fun k_ => (w.heap.size ≤ k_))) (by (with_reducible repeat (first | apply Kd.V_alloc | apply Kd.V_drewN | apply Kd.V_drew)); exact HO197.out) hg (.inl rfl)); have n1_ := Aside0.mk (ho); have n2_ := Aside0.mk (Kd.V_afterv (v := (.slice Ao36 y198.length co36)) (v1 := (.slice Ao36 y198.length co36)) (ok := (fun k_ => (w.heap.size ≤ k_))) (by (with_reducible repeat (first | apply Kd.V_alloc | apply Kd.V_drewN | apply Kd.V_drew)); exact HO203.out) hg (.inl rfl)); have n3_ := Aside0.mk (hb); clear HO197; clear HO200; clear HO203; clear HB; have HO197 := n0_; have HO200 := n1_; have HO203 := n2_; have HB := n3_; clear n0_ n1_ n2_ n3_; clear ho hb hg; obtain ⟨Ao38, co38, eo38⟩ := Kd.V_slice HO197.out; subst eo38) | ((with_reducible refine gate_dst (N := 64) rfl ?_); refine Kd.R_make (Kd.int .u32) _ 36 rfl (N := 64) rfl 22 _ _ rfl ji22 rfl rfl Try.underlying22 (.int .u32 0) 4 info36 rfl (by decide) (by omega) 0 (ok := fun _ => True) (okp := fun _ => True) rfl (fun _ hk => hk) trivial (of_decide_eq_true aS) (Nat.le_trans (Nat.mul_le_mul_right _ (of_decide_eq_true aS : ji22.toNat ≤ 70368744177664)) (by omega)) (Below.refl _ _) (Nat.le_refl _) ?_; intro v206 w39 ho40 hb hg_ hnew_; clear hg_ hnew_; (first | rw [← Ny205.out] at ho40 | (simp only [Int.reduceToNat] at ho40; rw [← Ny205.out] at ho40)); have n0_ := Aside0.mk (Kd.V_elder' (by (with_reducible repeat (first | apply Kd.V_alloc | apply Kd.V_drewN | apply Kd.V_drew)); exact HO197.out) (Kd.R_base ho40) hb); have n1_ := Aside0.mk (Kd.R_elder' (by (with_reducible repeat (first | apply Kd.R_alloc | apply Kd.R_drewN | apply Kd.R_drew)); exact HO200.out) (Kd.R_base ho40) hb); have n2_ := Aside0.mk (Kd.V_elder' (by (with_reducible repeat (first | apply Kd.V_alloc | apply Kd.V_drewN | apply Kd.V_drew)); exact HO203.out) (Kd.R_base ho40) hb); have n3_ := Aside0.mk (Kd.R_lower (Kd.R_new' (Kd.R_newM (M := fun k_ => (w.heap.size ≤ k_)) ho40 (below_size (bB)) (fun k_ h_ => h_)) (Kd.R_lt (by (with_reducible repeat (first | apply Kd.R_alloc | apply Kd.R_drewN | apply Kd.R_drew)); exact HO200.out))) (below_size (bB))); have n4_ := Aside0.mk (below_step (bB) hb); clear HO197; clear HO200; clear HO203; clear HB; have HO197 := n0_; have HO200 := n1_; have HO203 := n2_; have HO207 := n3_; have HB := n4_; clear n0_ n1_ n2_ n3_ n4_; clear hb ho40; have p208 : 0 ≤ ((ji25) : Int) := of_decide_eq_true aS; have q208 : (ji25) < (t195.length : Int) := of_decide_eq_true aS; obtain ⟨ad208, e208, hx208_0⟩ := Kd.at_int (Kd.V_reads' HO197.out).2.2 (ji25) p208 q208; cases e208; replace p208 := eq_true p208; replace q208 := eq_true q208; have p209 : 0 ≤ ((ji28) : Int) := of_decide_eq_true aS; have q209 : (ji28) < (t195.length : Int) := of_decide_eq_true aS; obtain ⟨ad209, e209, hx209_0⟩ := Kd.at_int (Kd.V_reads' HO197.out).2.2 (ji28) p209 q209; obtain rfl : ad208 = ad209 := (by injection e209); replace p209 := eq_true p209; replace q209 := eq_true q209)))
             go_loopg [14] k (fun kq v14 w' => ∃ (x4_1 : List Int) (x10_1 : List Int) (x14_1 : Int), v14 = .int .i64 x14_1 ∧ Aside0 (mag_DivMod.l0 kq x4_1 t194 t195 x10_1 (t195.length : Int) (IntKind.u64.wrap (rd t195 (ji25))) (IntKind.u64.wrap (rd t195 (ji28))) x14_1 = some (r1, r2)) ∧ Aside0 (kq ≤ k) ∧ Aside0 (Kd.R (Kd.int .u32) 36 w' w.heap.size (fun k_ => (w.heap.size ≤ k_) ∧ some k_ ≠ ((.slice Ao36 y198.length co36) : Value).ownBlock) v206 x4_1) ∧ Aside0 (Kd.V (Kd.int .u32) 36 w' w.heap.size (fun k_ => (w.heap.size ≤ k_) ∧ some k_ ≠ (v206 : Value).ownBlock ∧ some k_ ≠ ((.slice Ao36 y198.length co36) : Value).ownBlock) (.slice (some ad208) t195.length co38) t195) ∧ Aside0 (Kd.R (Kd.int .u32) 36 w' w.heap.size (fun k_ => (w.heap.size ≤ k_) ∧ some k_ ≠ (v206 : Value).ownBlock) (.slice Ao36 y198.length co36) x10_1) ∧ Aside0 (Below w.heap.size w w'))
             case atStart => exact ⟨(y205), (y204), (wrap64 ((ji22) - 1)), (by first | rfl | (simp; done) | (simp only [← hji22] <;> (first | rfl | simp)) | (simp [*]; done)), H', ⟨Nat.le_refl _⟩, ⟨by (with_reducible repeat (first | apply Kd.R_alloc | apply Kd.R_drewN | apply Kd.R_drew)); exact Kd.R_mono HO207.out (fun _ hk => ⟨hk.1.1, hk.2⟩)⟩, ⟨by (with_reducible repeat (first | apply Kd.V_alloc | apply Kd.V_drewN | apply Kd.V_drew)); exact Kd.V_mono HO197.out (fun _ hk => ⟨hk.1.1, ⟨hk.2, hk.1.2⟩⟩)⟩, ⟨by (with_reducible repeat (first | apply Kd.R_alloc | apply Kd.R_drewN | apply Kd.R_drew)); exact HO200.out⟩, ⟨by repeat (first | (with_reducible first | exact HB.out | apply below_alloc | apply pw_below_drewN | apply below_drew1) | exact HB.out)⟩⟩
             case round =>
              clear H'
              try clear c1
              try clear p1
              try clear q1
              try clear hx1
              try clear qi1
              try clear c2
              try clear p2
              try clear q2
              try clear hx2
              try clear c3
              try clear c4
              try clear c4b0
              try clear c5
              try clear p6
              try clear c7
              try clear c7b0
              try clear c7b1
              try clear c8
              try clear c8b0
              try clear c8b1
              try clear c14
              try clear c14b0
              try clear c15
              try clear c15b0
              try clear p18
              try clear q18
              try clear hx18
              try clear qi18
              try clear c19
              try clear c19b0
              try clear c19b1
              try clear p19
              try clear q19
              try clear hx19
              try clear c20
              try clear c20b0
              try clear c20b1
              try clear p20
              try clear q20
              try clear hx20
              try clear c23
              try clear c23b0
              try clear c23b1
              try clear c24
              try clear c24b0
              try clear c24b1
              try clear c26
              try clear c26b0
              try clear c27
              try clear c27b0
              try clear c29
              try clear c29b0
              try clear c30
              try clear c30b0
              try clear hx185_0
              try clear hx193_0
              try clear hx208_0
              try clear hx209_0
              try clear p185
              try clear p193
              try clear p208
              try clear p209
              try clear q185
              try clear q193
              try clear q208
              try clear q209
              obtain ⟨x4_1, x10_1, x14_1, rfl, HA, HK1, HO_4, HO_9, HO_10, HB⟩ := hrel
              have hl10_1 := (Kd.R_reads' HO_10.out).1
              rw [hl10_1] at HO_10
              (try simp only [hl10_1])
              (try simp only [hl10_1] at HO_4)
              (try simp only [hl10_1] at HO_9)
              cases gk with
              | zero => exact absurd HA.out (by simp [mag_DivMod.l0])
              | succ k1 =>
               have H := HA.out
               clear HA
               simp only [mag_DivMod.l0] at H
               by_cases c41 : x14_1 ≥ 0
               ·rw [if_pos c41] at H
                have c41b0 : decide (0 ≤ x14_1) = true := decide_eq_true c41
                clear c41
                obtain ⟨ji42, hji42⟩ : ∃ j_ : Int, (wrap64 (x14_1 + (t195.length : Int))) = j_ := ⟨_, rfl⟩
                replace H : (if 0 ≤ (ji42) then (if (ji42) < (x10_1.length : Int) then (if 0 ≤ (wrap64 ((ji42) - 1)) then (if (wrap64 ((ji42) - 1)) < (x10_1.length : Int) then (if (IntKind.u64.wrap (rd t195 (ji25))) = 0 then (none) else (mag_DivMod.l1 k1 x4_1 t194 t195 x10_1 (t195.length : Int) (IntKind.u64.wrap (rd t195 (ji25))) (IntKind.u64.wrap (rd t195 (ji28))) x14_1 (IntKind.u64.wrap (Int.tdiv (Go.bits .or .u64 (IntKind.u64.wrap ((IntKind.u64.wrap (rd x10_1 (ji42))) * 4294967296)) (IntKind.u64.wrap (rd x10_1 (wrap64 ((ji42) - 1))))) (IntKind.u64.wrap (rd t195 (ji25))))) (Int.tmod (Go.bits .or .u64 (IntKind.u64.wrap ((IntKind.u64.wrap (rd x10_1 (ji42))) * 4294967296)) (IntKind.u64.wrap (rd x10_1 (wrap64 ((ji42) - 1))))) (IntKind.u64.wrap (rd t195 (ji25)))))) else (none)) else (none)) else (none)) else (none)) = some (r1, r2) := by first | (rw [hji42] at H; exact H) | (simp only [hji42] at H ⊢; exact H)
                have hji42w : (IntKind.i64.wrap (x14_1 + (t195.length : Int))) = ji42 := (i64_w _).trans hji42
                have hji42h := hji42
                (try simp only [hl10_1] at hji42h)
                have hji42wh := hji42w
                (try simp only [hl10_1] at hji42wh)
                by_cases c43 : 0 ≤ (ji42)
                ·rw [if_pos c43] at H
                 have c43b0 : decide (0 ≤ (ji42)) = true := decide_eq_true c43
                 clear c43
                 by_cases c44 : (ji42) < (x10_1.length : Int)
                 ·rw [if_pos c44] at H
                  have c44b0 : decide ((ji42) < (x10_1.length : Int)) = true := decide_eq_true c44
                  clear c44
                  have c44bh := c44b0
                  (try simp only [hl10_1] at c44bh)
                  obtain ⟨ji45, hji45⟩ : ∃ j_ : Int, (wrap64 ((ji42) - 1)) = j_ := ⟨_, rfl⟩
                  replace H : (if 0 ≤ (ji45) then (if (ji45) < (x10_1.length : Int) then (if (IntKind.u64.wrap (rd t195 (ji25))) = 0 then (none) else (mag_DivMod.l1 k1 x4_1 t194 t195 x10_1 (t195.length : Int) (IntKind.u64.wrap (rd t195 (ji25))) (IntKind.u64.wrap (rd t195 (ji28))) x14_1 (IntKind.u64.wrap (Int.tdiv (Go.bits .or .u64 (IntKind.u64.wrap ((IntKind.u64.wrap (rd x10_1 (ji42))) * 4294967296)) (IntKind.u64.wrap (rd x10_1 (ji45)))) (IntKind.u64.wrap (rd t195 (ji25))))) (Int.tmod (Go.bits .or .u64 (IntKind.u64.wrap ((IntKind.u64.wrap (rd x10_1 (ji42))) * 4294967296)) (IntKind.u64.wrap (rd x10_1 (ji45)))) (IntKind.u64.wrap (rd t195 (ji25)))))) else (none)) else (none)) = some (r1, r2) := by first | (rw [hji45] at H; exact H) | (simp only [hji45] at H ⊢; exact H)
                  have hji45w : (IntKind.i64.wrap ((ji42) - 1)) = ji45 := (i64_w _).trans hji45
                  by_cases c46 : 0 ≤ (ji45)
                  ·rw [if_pos c46] at H
                   have c46b0 : decide (0 ≤ (ji45)) = true := decide_eq_true c46
                   clear c46
                   by_cases c47 : (ji45) < (x10_1.length : Int)
                   ·rw [if_pos c47] at H
                    have c47b0 : decide ((ji45) < (x10_1.length : Int)) = true := decide_eq_true c47
                    clear c47
                    have c47bh := c47b0
                    (try simp only [hl10_1] at c47bh)
                    by_cases c48 : (IntKind.u64.wrap (rd t195 (ji25))) = 0
                    ·rw [if_pos c48] at H
                     exact absurd H (by simp)
                    ·rw [if_neg c48] at H
                     have c48b0 : ((IntKind.u64.wrap (rd t195 (ji25))) == 0) = false := beq_eq_false_iff_ne.mpr c48
                     have c48b1 : ((IntKind.u64.wrap (rd t195 (ji25))) != 0) = true := bne_iff_ne.mpr c48
                     have HC49 := Aside0.mk H
                     clear H
                     have p219 : 0 ≤ ((ji42) : Int) := of_decide_eq_true aS
                     have q219 : (ji42) < (x10_1.length : Int) := of_decide_eq_true aS
                     obtain ⟨ad219, e219, hx219_0⟩ := Kd.at_int (Kd.R_reads' HO_10.out).2.2 (ji42) p219 q219
                     cases e219
                     replace p219 := eq_true p219
                     replace q219 := eq_true q219
                     have p220 : 0 ≤ ((ji45) : Int) := of_decide_eq_true aS
                     have q220 : (ji45) < (x10_1.length : Int) := of_decide_eq_true aS
                     obtain ⟨ad220, e220, hx220_0⟩ := Kd.at_int (Kd.R_reads' HO_10.out).2.2 (ji45) p220 q220
                     obtain rfl : ad219 = ad220 := (by injection e220)
                     replace p220 := eq_true p220
                     replace q220 := eq_true q220
                     go_upto_block 2 with (fail)
                     repeat (go_quiet (fail); go_upto_block 2 with (fail))
                     go_cut [16] (fun v16 wc => ∃ (kq : Nat) (x16_48 : Int), v16 = .int .u64 x16_48 ∧ Aside0 (mag_DivMod.j3 kq x4_1 t194 t195 x10_1 (t195.length : Int) (IntKind.u64.wrap (rd t195 (ji25))) (IntKind.u64.wrap (rd t195 (ji28))) x14_1 x16_48 = some (r1, r2)) ∧ Aside0 (kq ≤ k1) ∧ Aside0 (Kd.R (Kd.int .u32) 36 wc w.heap.size (fun k_ => (w.heap.size ≤ k_) ∧ some k_ ≠ ((.slice (some ad219) x10_1.length co36) : Value).ownBlock) v206 x4_1) ∧ Aside0 (Kd.V (Kd.int .u32) 36 wc w.heap.size (fun k_ => (w.heap.size ≤ k_) ∧ some k_ ≠ (v206 : Value).ownBlock ∧ some k_ ≠ ((.slice (some ad219) x10_1.length co36) : Value).ownBlock) (.slice (some ad208) t195.length co38) t195) ∧ Aside0 (Kd.R (Kd.int .u32) 36 wc w.heap.size (fun k_ => (w.heap.size ≤ k_) ∧ some k_ ≠ (v206 : Value).ownBlock) (.slice (some ad219) x10_1.length co36) x10_1) ∧ Aside0 (Below w.heap.size w wc))
                     case first =>
                      have H := HC49.out
                      clear HC49
                      have H' := Aside0.mk H
                      clear H
                      go_wp2
                      repeat (go_quiet (fail); try go_wp2)
                      go_loopg [16, 17] k1 (fun kq v16 v17 w' => ∃ (x16_2 : Int) (x17_2 : Int), v16 = .int .u64 x16_2 ∧ v17 = .int .u64 x17_2 ∧ Aside0 (mag_DivMod.l1 kq x4_1 t194 t195 x10_1 (t195.length : Int) (IntKind.u64.wrap (rd t195 (ji25))) (IntKind.u64.wrap (rd t195 (ji28))) x14_1 x16_2 x17_2 = some (r1, r2)) ∧ Aside0 (kq ≤ k1) ∧ Aside0 (Kd.R (Kd.int .u32) 36 w' w.heap.size (fun k_ => (w.heap.size ≤ k_) ∧ some k_ ≠ ((.slice (some ad219) x10_1.length co36) : Value).ownBlock) v206 x4_1) ∧ Aside0 (Kd.V (Kd.int .u32) 36 w' w.heap.size (fun k_ => (w.heap.size ≤ k_) ∧ some k_ ≠ (v206 : Value).ownBlock ∧ some k_ ≠ ((.slice (some ad219) x10_1.length co36) : Value).ownBlock) (.slice (some ad208) t195.length co38) t195) ∧ Aside0 (Kd.R (Kd.int .u32) 36 w' w.heap.size (fun k_ => (w.heap.size ≤ k_) ∧ some k_ ≠ (v206 : Value).ownBlock) (.slice (some ad219) x10_1.length co36) x10_1) ∧ Aside0 (Below w.heap.size w w'))
                      case atStart => exact ⟨(IntKind.u64.wrap (Int.tdiv (Go.bits .or .u64 (IntKind.u64.wrap ((IntKind.u64.wrap (rd x10_1 (ji42))) * 4294967296)) (IntKind.u64.wrap (rd x10_1 (ji45)))) (IntKind.u64.wrap (rd t195 (ji25))))), (Int.tmod (Go.bits .or .u64 (IntKind.u64.wrap ((IntKind.u64.wrap (rd x10_1 (ji42))) * 4294967296)) (IntKind.u64.wrap (rd x10_1 (ji45)))) (IntKind.u64.wrap (rd t195 (ji25)))), (by first | rfl | (simp; done) | (simp only [← hji25, ← hji42, ← hji45] <;> (first | rfl | simp)) | (simp [*]; done)), (by first | rfl | (simp; done) | (simp only [← hji25, ← hji42, ← hji45] <;> (first | rfl | simp)) | (simp [*]; done)), H', ⟨Nat.le_refl _⟩, ⟨by (try simp only [hl10_1]); (with_reducible repeat (first | apply Kd.R_alloc | apply Kd.R_drewN | apply Kd.R_drew)); exact HO_4.out⟩, ⟨by (try simp only [hl10_1]); (with_reducible repeat (first | apply Kd.V_alloc | apply Kd.V_drewN | apply Kd.V_drew)); exact HO_9.out⟩, ⟨by (try simp only [hl10_1]); (with_reducible repeat (first | apply Kd.R_alloc | apply Kd.R_drewN | apply Kd.R_drew)); exact HO_10.out⟩, ⟨by repeat (first | (with_reducible first | exact HB.out | apply below_alloc | apply pw_below_drewN | apply below_drew1) | exact HB.out)⟩⟩
                      case round =>
                       clear H'
                       try clear c1
                       try clear p1
                       try clear q1
                       try clear hx1
                       try clear qi1
                       try clear c2
                       try clear p2
                       try clear q2
                       try clear hx2
                       try clear c3
                       try clear c4
                       try clear c4b0
                       try clear c5
                       try clear p6
                       try clear c7
                       try clear c7b0
                       try clear c7b1
                       try clear c8
                       try clear c8b0
                       try clear c8b1
                       try clear c14
                       try clear c14b0
                       try clear c15
                       try clear c15b0
                       try clear p18
                       try clear q18
                       try clear hx18
                       try clear qi18
                       try clear c19
                       try clear c19b0
                       try clear c19b1
                       try clear p19
                       try clear q19
                       try clear hx19
                       try clear c20
                       try clear c20b0
                       try clear c20b1
                       try clear p20
                       try clear q20
                       try clear hx20
                       try clear p21
                       try clear q21
                       try clear hx21
                       try clear p22
                       try clear q22
                       try clear hx22
                       try clear c23
                       try clear c23b0
                       try clear c23b1
                       try clear c24
                       try clear c24b0
                       try clear c24b1
                       try clear c26
                       try clear c26b0
                       try clear c27
                       try clear c27b0
                       try clear c29
                       try clear c29b0
                       try clear c30
                       try clear c30b0
                       try clear c41
                       try clear c41b0
                       try clear c43
                       try clear c43b0
                       try clear c44
                       try clear c44b0
                       try clear c46
                       try clear c46b0
                       try clear c47
                       try clear c47b0
                       try clear c48
                       try clear c48b0
                       try clear c48b1
                       try clear hx185_0
                       try clear hx193_0
                       try clear hx208_0
                       try clear hx209_0
                       try clear hx219_0
                       try clear hx220_0
                       try clear p1
                       try clear p18
                       try clear p185
                       try clear p19
                       try clear p193
                       try clear p2
                       try clear p20
                       try clear p208
                       try clear p209
                       try clear p219
                       try clear p220
                       try clear p6
                       try clear q1
                       try clear q18
                       try clear q185
                       try clear q19
                       try clear q193
                       try clear q2
                       try clear q20
                       try clear q208
                       try clear q209
                       try clear q219
                       try clear q220
                       obtain ⟨x16_2, x17_2, rfl, rfl, HA, HK2, HO_4, HO_9, HO_10, HB⟩ := hrel
                       cases gk with
                       | zero => exact absurd HA.out (by simp [mag_DivMod.l1])
                       | succ k2 =>
                        have H := HA.out
                        clear HA
                        simp only [mag_DivMod.l1] at H
                        have HC50 := Aside0.mk H
                        clear H
                        go_upto_region 18 with (fail)
                        repeat (go_quiet (fail); go_upto_region 18 with (fail))
                        go_cut [127] (fun v127 wc => ∃ (kq : Nat) (x127_49 : Bool), v127 = .bool x127_49 ∧ Aside0 (mag_DivMod.j2 kq x4_1 t194 t195 x10_1 (t195.length : Int) (IntKind.u64.wrap (rd t195 (ji25))) (IntKind.u64.wrap (rd t195 (ji28))) x14_1 x16_2 x17_2 x127_49 = some (r1, r2)) ∧ Aside0 (kq ≤ k2) ∧ Aside0 (Kd.R (Kd.int .u32) 36 wc w.heap.size (fun k_ => (w.heap.size ≤ k_) ∧ some k_ ≠ ((.slice (some ad219) x10_1.length co36) : Value).ownBlock) v206 x4_1) ∧ Aside0 (Kd.V (Kd.int .u32) 36 wc w.heap.size (fun k_ => (w.heap.size ≤ k_) ∧ some k_ ≠ (v206 : Value).ownBlock ∧ some k_ ≠ ((.slice (some ad219) x10_1.length co36) : Value).ownBlock) (.slice (some ad208) t195.length co38) t195) ∧ Aside0 (Kd.R (Kd.int .u32) 36 wc w.heap.size (fun k_ => (w.heap.size ≤ k_) ∧ some k_ ≠ (v206 : Value).ownBlock) (.slice (some ad219) x10_1.length co36) x10_1) ∧ Aside0 (Below w.heap.size w wc))
                        case first =>
                         have H := HC50.out
                         clear HC50
                         by_cases c51 : x16_2 ≥ 4294967296
                         ·rw [if_pos c51] at H
                          have c51b0 : decide (4294967296 ≤ x16_2) = true := decide_eq_true c51
                          clear c51
                          (first | rw [c51b0] | (simp only [i64_w, i32_w]; rw [c51b0]) | rw [c51b1] | skip)
                          have H' := Aside0.mk H
                          clear H
                          go_wp2
                          repeat (go_quiet (fail); try go_wp2)
                          go_meet
                          case rel => exact ⟨_, (true), (by first | rfl | (simp; done) | (simp [*]; done)), H', ⟨by have := HK1.out; have := HK2.out; first | omega | exact Nat.le_refl _⟩, ⟨by (try simp only [hl10_1]); (with_reducible repeat (first | apply Kd.R_alloc | apply Kd.R_drewN | apply Kd.R_drew)); exact HO_4.out⟩, ⟨by (try simp only [hl10_1]); (with_reducible repeat (first | apply Kd.V_alloc | apply Kd.V_drewN | apply Kd.V_drew)); exact HO_9.out⟩, ⟨by (try simp only [hl10_1]); (with_reducible repeat (first | apply Kd.R_alloc | apply Kd.R_drewN | apply Kd.R_drew)); exact HO_10.out⟩, ⟨by repeat (first | (with_reducible first | exact HB.out | apply below_alloc | apply pw_below_drewN | apply below_drew1) | exact HB.out)⟩⟩
                         ·rw [if_neg c51] at H
                          have c51b0 : decide (4294967296 ≤ x16_2) = false := decide_eq_false c51
                          clear c51
                          (first | rw [c51b0] | (simp only [i64_w, i32_w]; rw [c51b0]) | rw [c51b1] | skip)
                          obtain ⟨ji52, hji52⟩ : ∃ j_ : Int, (wrap64 ((wrap64 (x14_1 + (t195.length : Int))) - 2)) = j_ := ⟨_, rfl⟩
                          replace H : (if 0 ≤ (ji52) then (if (ji52) < (x10_1.length : Int) then (mag_DivMod.j2 k2 x4_1 t194 t195 x10_1 (t195.length : Int) (IntKind.u64.wrap (rd t195 (ji25))) (IntKind.u64.wrap (rd t195 (ji28))) x14_1 x16_2 x17_2 (decide ((IntKind.u64.wrap (x16_2 * (IntKind.u64.wrap (rd t195 (ji28))))) > (Go.bits .or .u64 (IntKind.u64.wrap (x17_2 * 4294967296)) (IntKind.u64.wrap (rd x10_1 (ji52))))))) else (none)) else (none)) = some (r1, r2) := by first | (rw [hji52] at H; exact H) | (simp only [hji52] at H ⊢; exact H)
                          have hji52w : (IntKind.i64.wrap ((wrap64 (x14_1 + (t195.length : Int))) - 2)) = ji52 := (i64_w _).trans hji52
                          have hji52r := hji52
                          (try simp only [hji42] at hji52r)
                          have hji52wr := hji52w
                          (try simp only [hji42] at hji52wr)
                          have hji52h := hji52
                          (try simp only [hl10_1] at hji52h)
                          have hji52wh := hji52w
                          (try simp only [hl10_1] at hji52wh)
                          by_cases c53 : 0 ≤ (ji52)
                          ·rw [if_pos c53] at H
                           have c53b0 : decide (0 ≤ (ji52)) = true := decide_eq_true c53
                           clear c53
                           by_cases c54 : (ji52) < (x10_1.length : Int)
                           ·rw [if_pos c54] at H
                            have c54b0 : decide ((ji52) < (x10_1.length : Int)) = true := decide_eq_true c54
                            clear c54
                            have c54bh := c54b0
                            (try simp only [hl10_1] at c54bh)
                            have H' := Aside0.mk H
                            clear H
                            have p221 : 0 ≤ ((ji52) : Int) := of_decide_eq_true aS
                            have q221 : (ji52) < (x10_1.length : Int) := of_decide_eq_true aS
                            obtain ⟨ad221, e221, hx221_0⟩ := Kd.at_int (Kd.R_reads' HO_10.out).2.2 (ji52) p221 q221
                            obtain rfl : ad219 = ad221 := (by injection e221)
                            replace p221 := eq_true p221
                            replace q221 := eq_true q221
                            go_wp2
                            repeat (go_quiet (fail); try go_wp2)
                            (try simp only [← hji52])
                            go_meet
                            case rel => exact ⟨_, (decide ((IntKind.u64.wrap (x16_2 * (IntKind.u64.wrap (rd t195 (ji28))))) > (Go.bits .or .u64 (IntKind.u64.wrap (x17_2 * 4294967296)) (IntKind.u64.wrap (rd x10_1 (ji52)))))), (by first | rfl | (simp; done) | (simp only [← hji28, ← hji52] <;> (first | rfl | simp)) | (simp [*]; done)), (by first | with_reducible exact H' | (simp only [hji52]; exact H') | exact H'), ⟨by have := HK1.out; have := HK2.out; first | omega | exact Nat.le_refl _⟩, ⟨by (try simp only [hl10_1]); (with_reducible repeat (first | apply Kd.R_alloc | apply Kd.R_drewN | apply Kd.R_drew)); exact HO_4.out⟩, ⟨by (try simp only [hl10_1]); (with_reducible repeat (first | apply Kd.V_alloc | apply Kd.V_drewN | apply Kd.V_drew)); exact HO_9.out⟩, ⟨by (try simp only [hl10_1]); (with_reducible repeat (first | apply Kd.R_alloc | apply Kd.R_drewN | apply Kd.R_drew)); exact HO_10.out⟩, ⟨by repeat (first | (with_reducible first | exact HB.out | apply below_alloc | apply pw_below_drewN | apply below_drew1) | exact HB.out)⟩⟩
                           ·rw [if_neg c54] at H
                            exact absurd H (by simp)
                          ·rw [if_neg c53] at H
                           exact absurd H (by simp)
                        case rest =>
                         clear HC50
                         try clear c1
                         try clear p1
                         try clear q1
                         try clear hx1
                         try clear qi1
                         try clear c2
                         try clear p2
                         try clear q2
                         try clear hx2
                         try clear c3
                         try clear c4
                         try clear c4b0
                         try clear c5
                         try clear p6
                         try clear c7
                         try clear c7b0
                         try clear c7b1
                         try clear c8
                         try clear c8b0
                         try clear c8b1
                         try clear c14
                         try clear c14b0
                         try clear c15
                         try clear c15b0
                         try clear p18
                         try clear q18
                         try clear hx18
                         try clear qi18
                         try clear c19
                         try clear c19b0
                         try clear c19b1
                         try clear p19
                         try clear q19
                         try clear hx19
                         try clear c20
                         try clear c20b0
                         try clear c20b1
                         try clear p20
                         try clear q20
                         try clear hx20
                         try clear p21
                         try clear q21
                         try clear hx21
                         try clear p22
                         try clear q22
                         try clear hx22
                         try clear c23
                         try clear c23b0
                         try clear c23b1
                         try clear c24
                         try clear c24b0
                         try clear c24b1
                         try clear c26
                         try clear c26b0
                         try clear c27
                         try clear c27b0
                         try clear c29
                         try clear c29b0
                         try clear c30
                         try clear c30b0
                         try clear c41
                         try clear c41b0
                         try clear c43
                         try clear c43b0
                         try clear c44
                         try clear c44b0
                         try clear c46
                         try clear c46b0
                         try clear c47
                         try clear c47b0
                         try clear c48
                         try clear c48b0
                         try clear c48b1
                         try clear c51
                         try clear c51b0
                         try clear c51b1
                         try clear c53
                         try clear c53b0
                         try clear c54
                         try clear c54b0
                         try clear hx185_0
                         try clear hx193_0
                         try clear hx208_0
                         try clear hx209_0
                         try clear hx219_0
                         try clear hx220_0
                         try clear hx221_0
                         try clear p1
                         try clear p18
                         try clear p185
                         try clear p19
                         try clear p193
                         try clear p2
                         try clear p20
                         try clear p208
                         try clear p209
                         try clear p21
                         try clear p219
                         try clear p22
                         try clear p220
                         try clear p221
                         try clear p6
                         try clear q1
                         try clear q18
                         try clear q185
                         try clear q19
                         try clear q193
                         try clear q2
                         try clear q20
                         try clear q208
                         try clear q209
                         try clear q21
                         try clear q219
                         try clear q22
                         try clear q220
                         try clear q221
                         obtain ⟨kq, x127_49, rfl, HA, HJ49, HO_4, HO_9, HO_10, HB⟩ := hcut
                         cases kq with
                         | zero => exact absurd HA.out (by simp [mag_DivMod.j2])
                         | succ kj49 =>
                          have H := HA.out
                          clear HA
                          simp only [mag_DivMod.j2] at H
                          by_cases c55 : x127_49 = true
                          ·subst c55
                           have H1 : (if (IntKind.u64.wrap (x17_2 + (IntKind.u64.wrap (rd t195 (ji25))))) ≥ 4294967296 then (mag_DivMod.j3 kj49 x4_1 t194 t195 x10_1 (t195.length : Int) (IntKind.u64.wrap (rd t195 (ji25))) (IntKind.u64.wrap (rd t195 (ji28))) x14_1 (IntKind.u64.wrap (x16_2 - 1))) else (mag_DivMod.l1 kj49 x4_1 t194 t195 x10_1 (t195.length : Int) (IntKind.u64.wrap (rd t195 (ji25))) (IntKind.u64.wrap (rd t195 (ji28))) x14_1 (IntKind.u64.wrap (x16_2 - 1)) (IntKind.u64.wrap (x17_2 + (IntKind.u64.wrap (rd t195 (ji25))))))) = some (r1, r2) := by rw [if_pos rfl] at H; exact H
                           clear H
                           have H := H1
                           clear H1
                           by_cases c56 : (IntKind.u64.wrap (x17_2 + (IntKind.u64.wrap (rd t195 (ji25))))) ≥ 4294967296
                           ·rw [if_pos c56] at H
                            have c56b0 : decide (4294967296 ≤ (IntKind.u64.wrap (x17_2 + (IntKind.u64.wrap (rd t195 (ji25)))))) = true := decide_eq_true c56
                            clear c56
                            have H' := Aside0.mk H
                            clear H
                            go_wp2
                            repeat (go_quiet (fail); try go_wp2)
                            go_meet
                            case rel => exact ⟨_, (IntKind.u64.wrap (x16_2 - 1)), (by first | rfl | (simp; done) | (simp [*]; done)), H', ⟨by have := HK1.out; have := HK2.out; have := HJ49.out; first | omega | exact Nat.le_refl _⟩, ⟨by (try simp only [hl10_1]); (with_reducible repeat (first | apply Kd.R_alloc | apply Kd.R_drewN | apply Kd.R_drew)); exact HO_4.out⟩, ⟨by (try simp only [hl10_1]); (with_reducible repeat (first | apply Kd.V_alloc | apply Kd.V_drewN | apply Kd.V_drew)); exact HO_9.out⟩, ⟨by (try simp only [hl10_1]); (with_reducible repeat (first | apply Kd.R_alloc | apply Kd.R_drewN | apply Kd.R_drew)); exact HO_10.out⟩, ⟨by repeat (first | (with_reducible first | exact HB.out | apply below_alloc | apply pw_below_drewN | apply below_drew1) | exact HB.out)⟩⟩
                           ·rw [if_neg c56] at H
                            have c56b0 : decide (4294967296 ≤ (IntKind.u64.wrap (x17_2 + (IntKind.u64.wrap (rd t195 (ji25)))))) = false := decide_eq_false c56
                            clear c56
                            have H' := Aside0.mk H
                            clear H
                            go_wp2
                            repeat (go_quiet (fail); try go_wp2)
                            go_roundg kj49
                            case measure => have := HK1.out; have := HK2.out; have := HJ49.out; omega
                            case rel => exact ⟨(IntKind.u64.wrap (x16_2 - 1)), (IntKind.u64.wrap (x17_2 + (IntKind.u64.wrap (rd t195 (ji25))))), (by first | rfl | (simp; done) | (simp [*]; done)), (by first | rfl | (simp; done) | (simp only [← hji25] <;> (first | rfl | simp)) | (simp [*]; done)), H', ⟨by have := HK1.out; have := HK2.out; have := HJ49.out; omega⟩, ⟨by (try simp only [hl10_1]); (with_reducible repeat (first | apply Kd.R_alloc | apply Kd.R_drewN | apply Kd.R_drew)); exact HO_4.out⟩, ⟨by (try simp only [hl10_1]); (with_reducible repeat (first | apply Kd.V_alloc | apply Kd.V_drewN | apply Kd.V_drew)); exact HO_9.out⟩, ⟨by (try simp only [hl10_1]); (with_reducible repeat (first | apply Kd.R_alloc | apply Kd.R_drewN | apply Kd.R_drew)); exact HO_10.out⟩, ⟨by repeat (first | (with_reducible first | exact HB.out | apply below_alloc | apply pw_below_drewN | apply below_drew1) | exact HB.out)⟩⟩
                          ·replace c55 := Bool.eq_false_iff.mpr c55
                           subst c55
                           have H1 : (mag_DivMod.j3 kj49 x4_1 t194 t195 x10_1 (t195.length : Int) (IntKind.u64.wrap (rd t195 (ji25))) (IntKind.u64.wrap (rd t195 (ji28))) x14_1 x16_2) = some (r1, r2) := by rw [if_neg (show ¬ (false = true) by decide)] at H; exact H
                           clear H
                           have H := H1
                           clear H1
                           have H' := Aside0.mk H
                           clear H
                           go_wp2
                           repeat (go_quiet (fail); try go_wp2)
                           go_meet
                           case rel => exact ⟨_, (x16_2), (by first | rfl | (simp; done) | (simp [*]; done)), H', ⟨by have := HK1.out; have := HK2.out; have := HJ49.out; first | omega | exact Nat.le_refl _⟩, ⟨by (try simp only [hl10_1]); (with_reducible repeat (first | apply Kd.R_alloc | apply Kd.R_drewN | apply Kd.R_drew)); exact HO_4.out⟩, ⟨by (try simp only [hl10_1]); (with_reducible repeat (first | apply Kd.V_alloc | apply Kd.V_drewN | apply Kd.V_drew)); exact HO_9.out⟩, ⟨by (try simp only [hl10_1]); (with_reducible repeat (first | apply Kd.R_alloc | apply Kd.R_drewN | apply Kd.R_drew)); exact HO_10.out⟩, ⟨by repeat (first | (with_reducible first | exact HB.out | apply below_alloc | apply pw_below_drewN | apply below_drew1) | exact HB.out)⟩⟩
                     case rest =>
                      clear HC49
                      try clear c1
                      try clear p1
                      try clear q1
                      try clear hx1
                      try clear qi1
                      try clear c2
                      try clear p2
                      try clear q2
                      try clear hx2
                      try clear c3
                      try clear c4
                      try clear c4b0
                      try clear c5
                      try clear p6
                      try clear c7
                      try clear c7b0
                      try clear c7b1
                      try clear c8
                      try clear c8b0
                      try clear c8b1
                      try clear c14
                      try clear c14b0
                      try clear c15
                      try clear c15b0
                      try clear p18
                      try clear q18
                      try clear hx18
                      try clear qi18
                      try clear c19
                      try clear c19b0
                      try clear c19b1
                      try clear p19
                      try clear q19
                      try clear hx19
                      try clear c20
                      try clear c20b0
                      try clear c20b1
                      try clear p20
                      try clear q20
                      try clear hx20
                      try clear p21
                      try clear q21
                      try clear hx21
                      try clear p22
                      try clear q22
                      try clear hx22
                      try clear c23
                      try clear c23b0
                      try clear c23b1
                      try clear c24
                      try clear c24b0
                      try clear c24b1
                      try clear c26
                      try clear c26b0
                      try clear c27
                      try clear c27b0
                      try clear c29
                      try clear c29b0
                      try clear c30
                      try clear c30b0
                      try clear c41
                      try clear c41b0
                      try clear c43
                      try clear c43b0
                      try clear c44
                      try clear c44b0
                      try clear c46
                      try clear c46b0
                      try clear c47
                      try clear c47b0
                      try clear c48
                      try clear c48b0
                      try clear c48b1
                      try clear c51
                      try clear c51b0
                      try clear c51b1
                      try clear c53
                      try clear c53b0
                      try clear c54
                      try clear c54b0
                      try clear c55
                      try clear c56
                      try clear c56b0
                      try clear hx185_0
                      try clear hx193_0
                      try clear hx208_0
                      try clear hx209_0
                      try clear hx219_0
                      try clear hx220_0
                      try clear hx221_0
                      try clear p1
                      try clear p18
                      try clear p185
                      try clear p19
                      try clear p193
                      try clear p2
                      try clear p20
                      try clear p208
                      try clear p209
                      try clear p21
                      try clear p219
                      try clear p22
                      try clear p220
                      try clear p221
                      try clear p6
                      try clear q1
                      try clear q18
                      try clear q185
                      try clear q19
                      try clear q193
                      try clear q2
                      try clear q20
                      try clear q208
                      try clear q209
                      try clear q21
                      try clear q219
                      try clear q22
                      try clear q220
                      try clear q221
                      obtain ⟨kq, x16_48, rfl, HA, HJ48, HO_4, HO_9, HO_10, HB⟩ := hcut
                      cases kq with
                      | zero => exact absurd HA.out (by simp [mag_DivMod.j3])
                      | succ kj48 =>
                       have H := HA.out
                       clear HA
                       simp only [mag_DivMod.j3] at H
                       by_cases c57 : 0 ≤ x14_1
                       ·rw [if_pos c57] at H
                        have c57b0 := eq_true c57
                        have c57b1 : decide (0 ≤ x14_1) = true := decide_eq_true c57
                        clear c57
                        by_cases c58 : x14_1 < (wrap64 ((wrap64 (x14_1 + (t195.length : Int))) + 1))
                        ·rw [if_pos c58] at H
                         have c58b0 := eq_true c58
                         have c58b1 : decide (x14_1 < (wrap64 ((wrap64 (x14_1 + (t195.length : Int))) + 1))) = true := decide_eq_true c58
                         by_cases c59 : (wrap64 ((wrap64 (x14_1 + (t195.length : Int))) + 1)) ≤ (x10_1.length : Int)
                         ·rw [if_pos c59] at H
                          have c59b0 := eq_true c59
                          have c59b1 : decide ((wrap64 ((wrap64 (x14_1 + (t195.length : Int))) + 1)) ≤ (x10_1.length : Int)) = true := decide_eq_true c59
                          replace H := Option.bind_eq_some_iff.mp H
                          obtain ⟨⟨t223, t224⟩, A600, H⟩ := H
                          replace H : (if t223 = true then ((mag_restoreAt.f kj48 t224 x14_1 (wrap64 ((wrap64 (x14_1 + (t195.length : Int))) + 1)) t195).bind fun t226 => (if x14_1 < (x4_1.length : Int) then (mag_DivMod.l0 kj48 (x4_1.set (x14_1 : Int).toNat ((IntKind.u64.wrap (x16_48 - 1)) % 4294967296)) t194 t195 t226 (t195.length : Int) (IntKind.u64.wrap (rd t195 (ji25))) (IntKind.u64.wrap (rd t195 (ji28))) (wrap64 (x14_1 - 1))) else (none))) else (if x14_1 < (x4_1.length : Int) then (mag_DivMod.l0 kj48 (x4_1.set (x14_1 : Int).toNat ((x16_48) % 4294967296)) t194 t195 t224 (t195.length : Int) (IntKind.u64.wrap (rd t195 (ji25))) (IntKind.u64.wrap (rd t195 (ji28))) (wrap64 (x14_1 - 1))) else (none))) = some (r1, r2) := H
                          have A60 := Aside0.mk A600
                          clear A600
                          by_cases c61 : t223 = true
                          ·subst c61
                           have H1 : ((mag_restoreAt.f kj48 t224 x14_1 (wrap64 ((wrap64 (x14_1 + (t195.length : Int))) + 1)) t195).bind fun t226 => (if x14_1 < (x4_1.length : Int) then (mag_DivMod.l0 kj48 (x4_1.set (x14_1 : Int).toNat ((IntKind.u64.wrap (x16_48 - 1)) % 4294967296)) t194 t195 t226 (t195.length : Int) (IntKind.u64.wrap (rd t195 (ji25))) (IntKind.u64.wrap (rd t195 (ji28))) (wrap64 (x14_1 - 1))) else (none))) = some (r1, r2) := by rw [if_pos rfl] at H; exact H
                           clear H
                           have H := H1
                           clear H1
                           have c62b0 := eq_true (of_decide_eq_true aS : 0 ≤ x14_1)
                           have c63b0 := eq_true (of_decide_eq_true aS : x14_1 < (wrap64 ((wrap64 (x14_1 + (t195.length : Int))) + 1)))
                           have c64b0 := eq_true (of_decide_eq_true aS : (wrap64 ((wrap64 (x14_1 + (t195.length : Int))) + 1)) ≤ (x10_1.length : Int))
                           replace H := Option.bind_eq_some_iff.mp H
                           obtain ⟨t226, A650, H⟩ := H
                           replace H : (if x14_1 < (x4_1.length : Int) then (mag_DivMod.l0 kj48 (x4_1.set (x14_1 : Int).toNat ((IntKind.u64.wrap (x16_48 - 1)) % 4294967296)) t194 t195 t226 (t195.length : Int) (IntKind.u64.wrap (rd t195 (ji25))) (IntKind.u64.wrap (rd t195 (ji28))) (wrap64 (x14_1 - 1))) else (none)) = some (r1, r2) := H
                           have A65 := Aside0.mk A650
                           clear A650
                           by_cases c66 : x14_1 < (x4_1.length : Int)
                           ·rw [if_pos c66] at H
                            have c66b0 : decide (x14_1 < (x4_1.length : Int)) = true := decide_eq_true c66
                            clear c66
                            have c66bh := c66b0
                            (try simp only [hl10_1] at c66bh)
                            obtain ⟨y227, hy227⟩ : ∃ y_ : List Int, y_ = (x4_1.set (x14_1 : Int).toNat ((IntKind.u64.wrap (x16_48 - 1)) % 4294967296)) := ⟨_, rfl⟩
                            replace H : (mag_DivMod.l0 kj48 y227 t194 t195 t226 (t195.length : Int) (IntKind.u64.wrap (rd t195 (ji25))) (IntKind.u64.wrap (rd t195 (ji28))) (wrap64 (x14_1 - 1))) = some (r1, r2) := by first | (rw [hy227]; with_reducible exact H) | (have H2_ := (Option.bind_some _ _).symm.trans H; rw [hy227]; with_reducible exact H2_) | (have H2_ := (Option.bind_some _ _).symm.trans H; with_reducible exact H2_) | with_reducible exact H | (rw [hy227]; exact H) | exact H
                            have Ny227 := Aside0.mk hy227
                            clear hy227
                            have H' := Aside0.mk H
                            clear H
                            have q68 : ((wrap64 ((wrap64 (x14_1 + (t195.length : Int))) + 1)) : Int) ≤ ((x10_1.length : Nat) : Int) := of_decide_eq_true aS
                            have ql68 : (x14_1 : Int) < ((wrap64 ((wrap64 (x14_1 + (t195.length : Int))) + 1)) : Int) := of_decide_eq_true aS
                            have q068 : (0 : Int) ≤ (x14_1 : Int) := of_decide_eq_true aS
                            obtain ⟨i068, hi068, _, hsz68, _⟩ := info_parts info36
                            have hcutv222 := cut_mid (P := Try.prog) 22 36 .i64 .i64 Try.underlying22 hi068 1 hsz68 (some ad219) x10_1.length co36 x14_1 (wrap64 ((wrap64 (x14_1 + (t195.length : Int))) + 1)) q068 (by omega) q68 (by have hlx_ := (Kd.R_reads' HO_10.out); omega)
                            obtain ⟨v222, hvv222⟩ : ∃ v_ : Value, v_ = (.slice (if co36 = (x14_1 : Int).toNat then (some ad219) else ((some ad219) : Option Addr).map (·.add ((x14_1 : Int).toNat * 1))) (((wrap64 ((wrap64 (x14_1 + (t195.length : Int))) + 1)) : Int).toNat - (x14_1 : Int).toNat) (co36 - (x14_1 : Int).toNat)) := ⟨_, rfl⟩
                            rw [← hvv222] at hcutv222
                            clear hvv222 hi068 hsz68
                            (try (have hcutrv222 := hcutv222; simp only [hji13, hji18, hji22, hji25, hji28, hji42, hji45] at hcutrv222))
                            have HVv222 := Aside0.mk (show (0 : Int) ≤ x14_1 ∧ (x14_1 : Int) < (wrap64 ((wrap64 (x14_1 + (t195.length : Int))) + 1)) ∧ ((wrap64 ((wrap64 (x14_1 + (t195.length : Int))) + 1)) : Int) ≤ _ ∧ _ from ⟨q068, ql68, q68, hcutv222⟩)
                            replace q68 := eq_true q68
                            replace ql68 := eq_true ql68
                            replace q068 := eq_true q068
                            go_wp2_with (first | (go_at_call 69; (with_reducible refine (mag_subtractAt.calls kj48 (fun k_ => some k_ = (.slice (some ad219) x10_1.length co36 : Value).ownBlock) (.slice (some ad219) x10_1.length co36) x10_1 x14_1 (wrap64 ((wrap64 (x14_1 + (t195.length : Int))) + 1)) _ _ t195 x16_48 true t224 w _ ?side1 ?side2 ?side3 ?side4 ?side5 A60.out).mono ?_); (case side1 => repeat (first | (with_reducible first | exact HB.out | apply below_alloc | apply pw_below_drewN | apply below_drew1) | exact HB.out)); (case side2 => have h_ := HVv222.out; have hlx_ := (Kd.R_reads' HO_10.out).1; exact ⟨h_.1, h_.2.1, by omega, h_.2.2.2⟩); (case side3 => exact Kd.R_tight rfl HO_10.out); (case side4 => exact Kd.C_kept_ownV (HO_9.out) (fun k_ hk_ hs_ => (hk_.2.2) hs_)); (case side5 => exact (Kd.V_reads' HO_9.out).2.1); rintro e w69 ⟨rfl, hy0, hb, hkp⟩; have n0_ := Aside0.mk (Kd.R_mono (ok' := fun k_ => (w.heap.size ≤ k_) ∧ some k_ ≠ (.slice (some ad219) x10_1.length co36 : Value).ownBlock) (Kd.R_keptB (HO_4.out) hkp (fun k_ hk_ hs_ => (hk_.2) hs_)) (fun k_ hk_ => ⟨hk_.1.1, hk_.1.2⟩)); have n1_ := Aside0.mk (Kd.V_mono (ok' := fun k_ => (w.heap.size ≤ k_) ∧ some k_ ≠ (v206 : Value).ownBlock ∧ some k_ ≠ (.slice (some ad219) x10_1.length co36 : Value).ownBlock) (Kd.V_keptB (HO_9.out) hkp (fun k_ hk_ hs_ => (hk_.2.2) hs_)) (fun k_ hk_ => ⟨hk_.1.1, hk_.1.2.1, hk_.1.2.2⟩)); have n2_ := Aside0.mk (Kd.R_reok rfl hy0 (fun k_ e_ => HO_10.out.1 k_ e_)); have n3_ := Aside0.mk (hb); clear HO_4; clear HO_9; clear HO_10; clear HB; have HO_4 := n0_; have HO_9 := n1_; have HO_10 := n2_; have HB := n3_; clear n0_ n1_ n2_ n3_; (try clear hb); (try clear hkp); (try clear hy0); (try clear hcutrv222); (try clear hcutv222); have q70 : ((wrap64 ((wrap64 (x14_1 + (t195.length : Int))) + 1)) : Int) ≤ ((x10_1.length : Nat) : Int) := of_decide_eq_true aS; have ql70 : (x14_1 : Int) < ((wrap64 ((wrap64 (x14_1 + (t195.length : Int))) + 1)) : Int) := of_decide_eq_true aS; have q070 : (0 : Int) ≤ (x14_1 : Int) := of_decide_eq_true aS; obtain ⟨i070, hi070, _, hsz70, _⟩ := info_parts info36; have hcutv225 := cut_mid (P := Try.prog) 22 36 .i64 .i64 Try.underlying22 hi070 1 hsz70 (some ad219) x10_1.length co36 x14_1 (wrap64 ((wrap64 (x14_1 + (t195.length : Int))) + 1)) q070 (by omega) q70 (by have hlx_ := (Kd.R_reads' HO_10.out); omega); obtain ⟨v225, hvv225⟩ : ∃ v_ : Value, v_ = (.slice (if co36 = (x14_1 : Int).toNat then (some ad219) else ((some ad219) : Option Addr).map (·.add ((x14_1 : Int).toNat * 1))) (((wrap64 ((wrap64 (x14_1 + (t195.length : Int))) + 1)) : Int).toNat - (x14_1 : Int).toNat) (co36 - (x14_1 : Int).toNat)) := ⟨_, rfl⟩; rw [← hvv225] at hcutv225; clear hvv225 hi070 hsz70; (try (have hcutrv225 := hcutv225; simp only [hji13, hji18, hji22, hji25, hji28, hji42, hji45] at hcutrv225)); have HVv225 := Aside0.mk (show (0 : Int) ≤ x14_1 ∧ (x14_1 : Int) < (wrap64 ((wrap64 (x14_1 + (t195.length : Int))) + 1)) ∧ ((wrap64 ((wrap64 (x14_1 + (t195.length : Int))) + 1)) : Int) ≤ _ ∧ _ from ⟨q070, ql70, q70, hcutv225⟩); replace q70 := eq_true q70; replace ql70 := eq_true ql70; replace q070 := eq_true q070) | (go_at_call 70; (with_reducible refine (mag_restoreAt.calls kj48 (fun k_ => some k_ = (.slice (some ad219) x10_1.length co36 : Value).ownBlock) (.slice (some ad219) x10_1.length co36) t224 x14_1 (wrap64 ((wrap64 (x14_1 + (t195.length : Int))) + 1)) _ _ t195 t226 w _ ?side1 ?side2 ?side3 ?side4 ?side5 A65.out).mono ?_); (case side1 => repeat (first | (with_reducible first | exact HB.out | apply below_alloc | apply pw_below_drewN | apply below_drew1) | exact HB.out)); (case side2 => have h_ := HVv225.out; have hlx_ := (Kd.R_reads' HO_10.out).1; exact ⟨h_.1, h_.2.1, by omega, h_.2.2.2⟩); (case side3 => exact Kd.R_tight rfl HO_10.out); (case side4 => exact Kd.C_kept_ownV (HO_9.out) (fun k_ hk_ hs_ => (hk_.2.2) hs_)); (case side5 => exact (Kd.V_reads' HO_9.out).2.1); rintro e w71 ⟨rfl, hy0, hb, hkp⟩; have n0_ := Aside0.mk (Kd.R_mono (ok' := fun k_ => (w.heap.size ≤ k_) ∧ some k_ ≠ (.slice (some ad219) x10_1.length co36 : Value).ownBlock) (Kd.R_keptB (HO_4.out) hkp (fun k_ hk_ hs_ => (hk_.2) hs_)) (fun k_ hk_ => ⟨hk_.1.1, hk_.1.2⟩)); have n1_ := Aside0.mk (Kd.V_mono (ok' := fun k_ => (w.heap.size ≤ k_) ∧ some k_ ≠ (v206 : Value).ownBlock ∧ some k_ ≠ (.slice (some ad219) x10_1.length co36 : Value).ownBlock) (Kd.V_keptB (HO_9.out) hkp (fun k_ hk_ hs_ => (hk_.2.2) hs_)) (fun k_ hk_ => ⟨hk_.1.1, hk_.1.2.1, hk_.1.2.2⟩)); have n2_ := Aside0.mk (Kd.R_reok rfl hy0 (fun k_ e_ => HO_10.out.1 k_ e_)); have n3_ := Aside0.mk (hb); clear HO_4; clear HO_9; clear HO_10; clear HB; have HO_4 := n0_; have HO_9 := n1_; have HO_10 := n2_; have HB := n3_; clear n0_ n1_ n2_ n3_; (try clear hb); (try clear hkp); (try clear hy0); have p67 : 0 ≤ (x14_1 : Int) := of_decide_eq_true aS; have q67 : (x14_1 : Int) < ((x4_1.length : Int) : Int) := of_decide_eq_true aS; obtain ⟨go67, co67, eo67, gb67, gl67, cl67, HG67⟩ := Kd.R_form HO_4.out (by omega); (first | cases eo67 | (injection eo67 with ea_ en_ ec_; (first | subst ea_ | (injection ea_ with ea_; subst ea_)); subst ec_; clear en_)); have GB67 := Aside0.mk gb67; have GG67 := Aside0.mk HG67; clear gb67 gl67 HG67; obtain ⟨hx67_0, hf67_0⟩ := Kd.R_celln 0 HO_4.out (x14_1 : Int) p67 q67; replace p67 := eq_true p67; replace q67 := eq_true q67; obtain ⟨hy72_, hz72_⟩ := Kd.R_celln 0 HO_4.out (x14_1 : Int) (of_decide_eq_true aS) (of_decide_eq_true aS); have HP72 := Kd.R_putg HO_4.out (x14_1 : Int) ((IntKind.u64.wrap (x16_48 - 1)) % 4294967296)) | ((with_reducible refine gate_store (t := 36) (p := 160) rfl ?_); (try (rw [drewN_self w71]; generalize hq_ : World.drewN w71 _ = w71; have n0_ := Aside0.mk (Kd.R_at hq_ HO_4.out); have n1_ := Aside0.mk (Kd.V_at hq_ HO_9.out); have n2_ := Aside0.mk (Kd.R_at hq_ HO_10.out); have n3_ := Aside0.mk (below_at hq_ HB.out); clear hq_ HO_4 HO_9 HO_10 HB; have HO_4 := n0_; have HO_9 := n1_; have HO_10 := n2_; have HB := n3_; clear n0_ n1_ n2_ n3_; (try (obtain ⟨hy72_, hz72_⟩ := Kd.R_celln 0 HO_4.out (x14_1 : Int) (of_decide_eq_true aS) (of_decide_eq_true aS))); (try (have HP72 := Kd.R_putg HO_4.out (x14_1 : Int) ((IntKind.u64.wrap (x16_48 - 1)) % 4294967296))))); refine store_event (t := 36) (p := 160) (v := ?vo_w73) (w1 := (w71.setCell ⟨go67, (x14_1 : Int).toNat, none⟩ (.int .u32 ((IntKind.u64.wrap (x16_48 - 1)) % 4294967296)))) ?hg ?ho ?hn ?hr ?_; (case ho => rfl); (case hg => rfl); (case hn => rfl); (case hr => first | (go_simp; done) | (go_simp; rfl)); intro w73 hw; have hg : w71.grownBy w73 (some go67) := (by rw [hw]; exact HP72.2); have hp_ : Kd.R (Kd.int .u32) 36 w73 w.heap.size (fun k_ => (w.heap.size ≤ k_) ∧ some k_ ≠ (.slice (some ad219) x10_1.length co36 : Value).ownBlock) (.slice (some ⟨go67, 0, none⟩) x4_1.length co67) y227 := (by rw [hw, Ny227.out]; exact HP72.1); clear HP72; have n0_ := Aside0.mk (hp_); have n1_ := Aside0.mk (Kd.V_afterv (v := (.slice (some ⟨go67, 0, none⟩) x4_1.length co67)) (v1 := (.slice (some ⟨go67, 0, none⟩) x4_1.length co67)) (ok := (fun k_ => (w.heap.size ≤ k_) ∧ some k_ ≠ (.slice (some ad219) x10_1.length co36 : Value).ownBlock)) (by (with_reducible repeat (first | apply Kd.V_alloc | apply Kd.V_drewN | apply Kd.V_drew)); exact Kd.V_mono HO_9.out (fun _ hk => ⟨⟨hk.1, hk.2.2⟩, hk.2.1⟩)) hg (.inl rfl)); have n2_ := Aside0.mk (Kd.R_after (v := (.slice (some ⟨go67, 0, none⟩) x4_1.length co67)) (v1 := (.slice (some ⟨go67, 0, none⟩) x4_1.length co67)) (ok := (fun k_ => (w.heap.size ≤ k_))) (by (with_reducible repeat (first | apply Kd.R_alloc | apply Kd.R_drewN | apply Kd.R_drew)); exact HO_10.out) hg (.inl rfl)); have n3_ := Aside0.mk ((by rw [hw]; exact below_set (HB.out) GB67.out : Below w.heap.size w w73)); clear HO_4; clear HO_9; clear HO_10; clear HB; have HO_4 := n0_; have HO_9 := n1_; have HO_10 := n2_; have HB := n3_; clear n0_ n1_ n2_ n3_; clear hg hw hp_))
                            repeat (go_quiet (first | (go_at_call 69; (with_reducible refine (mag_subtractAt.calls kj48 (fun k_ => some k_ = (.slice (some ad219) x10_1.length co36 : Value).ownBlock) (.slice (some ad219) x10_1.length co36) x10_1 x14_1 (wrap64 ((wrap64 (x14_1 + (t195.length : Int))) + 1)) _ _ t195 x16_48 true t224 w _ ?side1 ?side2 ?side3 ?side4 ?side5 A60.out).mono ?_); (case side1 => repeat (first | (with_reducible first | exact HB.out | apply below_alloc | apply pw_below_drewN | apply below_drew1) | exact HB.out)); (case side2 => have h_ := HVv222.out; have hlx_ := (Kd.R_reads' HO_10.out).1; exact ⟨h_.1, h_.2.1, by omega, h_.2.2.2⟩); (case side3 => exact Kd.R_tight rfl HO_10.out); (case side4 => exact Kd.C_kept_ownV (HO_9.out) (fun k_ hk_ hs_ => (hk_.2.2) hs_)); (case side5 => exact (Kd.V_reads' HO_9.out).2.1); rintro e w69 ⟨rfl, hy0, hb, hkp⟩; have n0_ := Aside0.mk (Kd.R_mono (ok' := fun k_ => (w.heap.size ≤ k_) ∧ some k_ ≠ (.slice (some ad219) x10_1.length co36 : Value).ownBlock) (Kd.R_keptB (HO_4.out) hkp (fun k_ hk_ hs_ => (hk_.2) hs_)) (fun k_ hk_ => ⟨hk_.1.1, hk_.1.2⟩)); have n1_ := Aside0.mk (Kd.V_mono (ok' := fun k_ => (w.heap.size ≤ k_) ∧ some k_ ≠ (v206 : Value).ownBlock ∧ some k_ ≠ (.slice (some ad219) x10_1.length co36 : Value).ownBlock) (Kd.V_keptB (HO_9.out) hkp (fun k_ hk_ hs_ => (hk_.2.2) hs_)) (fun k_ hk_ => ⟨hk_.1.1, hk_.1.2.1, hk_.1.2.2⟩)); have n2_ := Aside0.mk (Kd.R_reok rfl hy0 (fun k_ e_ => HO_10.out.1 k_ e_)); have n3_ := Aside0.mk (hb); clear HO_4; clear HO_9; clear HO_10; clear HB; have HO_4 := n0_; have HO_9 := n1_; have HO_10 := n2_; have HB := n3_; clear n0_ n1_ n2_ n3_; (try clear hb); (try clear hkp); (try clear hy0); (try clear hcutrv222); (try clear hcutv222); have q70 : ((wrap64 ((wrap64 (x14_1 + (t195.length : Int))) + 1)) : Int) ≤ ((x10_1.length : Nat) : Int) := of_decide_eq_true aS; have ql70 : (x14_1 : Int) < ((wrap64 ((wrap64 (x14_1 + (t195.length : Int))) + 1)) : Int) := of_decide_eq_true aS; have q070 : (0 : Int) ≤ (x14_1 : Int) := of_decide_eq_true aS; obtain ⟨i070, hi070, _, hsz70, _⟩ := info_parts info36; have hcutv225 := cut_mid (P := Try.prog) 22 36 .i64 .i64 Try.underlying22 hi070 1 hsz70 (some ad219) x10_1.length co36 x14_1 (wrap64 ((wrap64 (x14_1 + (t195.length : Int))) + 1)) q070 (by omega) q70 (by have hlx_ := (Kd.R_reads' HO_10.out); omega); obtain ⟨v225, hvv225⟩ : ∃ v_ : Value, v_ = (.slice (if co36 = (x14_1 : Int).toNat then (some ad219) else ((some ad219) : Option Addr).map (·.add ((x14_1 : Int).toNat * 1))) (((wrap64 ((wrap64 (x14_1 + (t195.length : Int))) + 1)) : Int).toNat - (x14_1 : Int).toNat) (co36 - (x14_1 : Int).toNat)) := ⟨_, rfl⟩; rw [← hvv225] at hcutv225; clear hvv225 hi070 hsz70; (try (have hcutrv225 := hcutv225; simp only [hji13, hji18, hji22, hji25, hji28, hji42, hji45] at hcutrv225)); have HVv225 := Aside0.mk (show (0 : Int) ≤ x14_1 ∧ (x14_1 : Int) < (wrap64 ((wrap64 (x14_1 + (t195.length : Int))) + 1)) ∧ ((wrap64 ((wrap64 (x14_1 + (t195.length : Int))) + 1)) : Int) ≤ _ ∧ _ from ⟨q070, ql70, q70, hcutv225⟩); replace q70 := eq_true q70; replace ql70 := eq_true ql70; replace q070 := eq_true q070) | (go_at_call 70; (with_reducible refine (mag_restoreAt.calls kj48 (fun k_ => some k_ = (.slice (some ad219) x10_1.length co36 : Value).ownBlock) (.slice (some ad219) x10_1.length co36) t224 x14_1 (wrap64 ((wrap64 (x14_1 + (t195.length : Int))) + 1)) _ _ t195 t226 w _ ?side1 ?side2 ?side3 ?side4 ?side5 A65.out).mono ?_); (case side1 => repeat (first | (with_reducible first | exact HB.out | apply below_alloc | apply pw_below_drewN | apply below_drew1) | exact HB.out)); (case side2 => have h_ := HVv225.out; have hlx_ := (Kd.R_reads' HO_10.out).1; exact ⟨h_.1, h_.2.1, by omega, h_.2.2.2⟩); (case side3 => exact Kd.R_tight rfl HO_10.out); (case side4 => exact Kd.C_kept_ownV (HO_9.out) (fun k_ hk_ hs_ => (hk_.2.2) hs_)); (case side5 => exact (Kd.V_reads' HO_9.out).2.1); rintro e w71 ⟨rfl, hy0, hb, hkp⟩; have n0_ := Aside0.mk (Kd.R_mono (ok' := fun k_ => (w.heap.size ≤ k_) ∧ some k_ ≠ (.slice (some ad219) x10_1.length co36 : Value).ownBlock) (Kd.R_keptB (HO_4.out) hkp (fun k_ hk_ hs_ => (hk_.2) hs_)) (fun k_ hk_ => ⟨hk_.1.1, hk_.1.2⟩)); have n1_ := Aside0.mk (Kd.V_mono (ok' := fun k_ => (w.heap.size ≤ k_) ∧ some k_ ≠ (v206 : Value).ownBlock ∧ some k_ ≠ (.slice (some ad219) x10_1.length co36 : Value).ownBlock) (Kd.V_keptB (HO_9.out) hkp (fun k_ hk_ hs_ => (hk_.2.2) hs_)) (fun k_ hk_ => ⟨hk_.1.1, hk_.1.2.1, hk_.1.2.2⟩)); have n2_ := Aside0.mk (Kd.R_reok rfl hy0 (fun k_ e_ => HO_10.out.1 k_ e_)); have n3_ := Aside0.mk (hb); clear HO_4; clear HO_9; clear HO_10; clear HB; have HO_4 := n0_; have HO_9 := n1_; have HO_10 := n2_; have HB := n3_; clear n0_ n1_ n2_ n3_; (try clear hb); (try clear hkp); (try clear hy0); have p67 : 0 ≤ (x14_1 : Int) := of_decide_eq_true aS; have q67 : (x14_1 : Int) < ((x4_1.length : Int) : Int) := of_decide_eq_true aS; obtain ⟨go67, co67, eo67, gb67, gl67, cl67, HG67⟩ := Kd.R_form HO_4.out (by omega); (first | cases eo67 | (injection eo67 with ea_ en_ ec_; (first | subst ea_ | (injection ea_ with ea_; subst ea_)); subst ec_; clear en_)); have GB67 := Aside0.mk gb67; have GG67 := Aside0.mk HG67; clear gb67 gl67 HG67; obtain ⟨hx67_0, hf67_0⟩ := Kd.R_celln 0 HO_4.out (x14_1 : Int) p67 q67; replace p67 := eq_true p67; replace q67 := eq_true q67; obtain ⟨hy72_, hz72_⟩ := Kd.R_celln 0 HO_4.out (x14_1 : Int) (of_decide_eq_true aS) (of_decide_eq_true aS); have HP72 := Kd.R_putg HO_4.out (x14_1 : Int) ((IntKind.u64.wrap (x16_48 - 1)) % 4294967296)) | ((with_reducible refine gate_store (t := 36) (p := 160) rfl ?_); (try (rw [drewN_self w71]; generalize hq_ : World.drewN w71 _ = w71; have n0_ := Aside0.mk (Kd.R_at hq_ HO_4.out); have n1_ := Aside0.mk (Kd.V_at hq_ HO_9.out); have n2_ := Aside0.mk (Kd.R_at hq_ HO_10.out); have n3_ := Aside0.mk (below_at hq_ HB.out); clear hq_ HO_4 HO_9 HO_10 HB; have HO_4 := n0_; have HO_9 := n1_; have HO_10 := n2_; have HB := n3_; clear n0_ n1_ n2_ n3_; (try (obtain ⟨hy72_, hz72_⟩ := Kd.R_celln 0 HO_4.out (x14_1 : Int) (of_decide_eq_true aS) (of_decide_eq_true aS))); (try (have HP72 := Kd.R_putg HO_4.out (x14_1 : Int) ((IntKind.u64.wrap (x16_48 - 1)) % 4294967296))))); refine store_event (t := 36) (p := 160) (v := ?vo_w73) (w1 := (w71.setCell ⟨go67, (x14_1 : Int).toNat, none⟩ (.int .u32 ((IntKind.u64.wrap (x16_48 - 1)) % 4294967296)))) ?hg ?ho ?hn ?hr ?_; (case ho => rfl); (case hg => rfl); (case hn => rfl); (case hr => first | (go_simp; done) | (go_simp; rfl)); intro w73 hw; have hg : w71.grownBy w73 (some go67) := (by rw [hw]; exact HP72.2); have hp_ : Kd.R (Kd.int .u32) 36 w73 w.heap.size (fun k_ => (w.heap.size ≤ k_) ∧ some k_ ≠ (.slice (some ad219) x10_1.length co36 : Value).ownBlock) (.slice (some ⟨go67, 0, none⟩) x4_1.length co67) y227 := (by rw [hw, Ny227.out]; exact HP72.1); clear HP72; have n0_ := Aside0.mk (hp_); have n1_ := Aside0.mk (Kd.V_afterv (v := (.slice (some ⟨go67, 0, none⟩) x4_1.length co67)) (v1 := (.slice (some ⟨go67, 0, none⟩) x4_1.length co67)) (ok := (fun k_ => (w.heap.size ≤ k_) ∧ some k_ ≠ (.slice (some ad219) x10_1.length co36 : Value).ownBlock)) (by (with_reducible repeat (first | apply Kd.V_alloc | apply Kd.V_drewN | apply Kd.V_drew)); exact Kd.V_mono HO_9.out (fun _ hk => ⟨⟨hk.1, hk.2.2⟩, hk.2.1⟩)) hg (.inl rfl)); have n2_ := Aside0.mk (Kd.R_after (v := (.slice (some ⟨go67, 0, none⟩) x4_1.length co67)) (v1 := (.slice (some ⟨go67, 0, none⟩) x4_1.length co67)) (ok := (fun k_ => (w.heap.size ≤ k_))) (by (with_reducible repeat (first | apply Kd.R_alloc | apply Kd.R_drewN | apply Kd.R_drew)); exact HO_10.out) hg (.inl rfl)); have n3_ := Aside0.mk ((by rw [hw]; exact below_set (HB.out) GB67.out : Below w.heap.size w w73)); clear HO_4; clear HO_9; clear HO_10; clear HB; have HO_4 := n0_; have HO_9 := n1_; have HO_10 := n2_; have HB := n3_; clear n0_ n1_ n2_ n3_; clear hg hw hp_)); try go_wp2_with (first | (go_at_call 69; (with_reducible refine (mag_subtractAt.calls kj48 (fun k_ => some k_ = (.slice (some ad219) x10_1.length co36 : Value).ownBlock) (.slice (some ad219) x10_1.length co36) x10_1 x14_1 (wrap64 ((wrap64 (x14_1 + (t195.length : Int))) + 1)) _ _ t195 x16_48 true t224 w _ ?side1 ?side2 ?side3 ?side4 ?side5 A60.out).mono ?_); (case side1 => repeat (first | (with_reducible first | exact HB.out | apply below_alloc | apply pw_below_drewN | apply below_drew1) | exact HB.out)); (case side2 => have h_ := HVv222.out; have hlx_ := (Kd.R_reads' HO_10.out).1; exact ⟨h_.1, h_.2.1, by omega, h_.2.2.2⟩); (case side3 => exact Kd.R_tight rfl HO_10.out); (case side4 => exact Kd.C_kept_ownV (HO_9.out) (fun k_ hk_ hs_ => (hk_.2.2) hs_)); (case side5 => exact (Kd.V_reads' HO_9.out).2.1); rintro e w69 ⟨rfl, hy0, hb, hkp⟩; have n0_ := Aside0.mk (Kd.R_mono (ok' := fun k_ => (w.heap.size ≤ k_) ∧ some k_ ≠ (.slice (some ad219) x10_1.length co36 : Value).ownBlock) (Kd.R_keptB (HO_4.out) hkp (fun k_ hk_ hs_ => (hk_.2) hs_)) (fun k_ hk_ => ⟨hk_.1.1, hk_.1.2⟩)); have n1_ := Aside0.mk (Kd.V_mono (ok' := fun k_ => (w.heap.size ≤ k_) ∧ some k_ ≠ (v206 : Value).ownBlock ∧ some k_ ≠ (.slice (some ad219) x10_1.length co36 : Value).ownBlock) (Kd.V_keptB (HO_9.out) hkp (fun k_ hk_ hs_ => (hk_.2.2) hs_)) (fun k_ hk_ => ⟨hk_.1.1, hk_.1.2.1, hk_.1.2.2⟩)); have n2_ := Aside0.mk (Kd.R_reok rfl hy0 (fun k_ e_ => HO_10.out.1 k_ e_)); have n3_ := Aside0.mk (hb); clear HO_4; clear HO_9; clear HO_10; clear HB; have HO_4 := n0_; have HO_9 := n1_; have HO_10 := n2_; have HB := n3_; clear n0_ n1_ n2_ n3_; (try clear hb); (try clear hkp); (try clear hy0); (try clear hcutrv222); (try clear hcutv222); have q70 : ((wrap64 ((wrap64 (x14_1 + (t195.length : Int))) + 1)) : Int) ≤ ((x10_1.length : Nat) : Int) := of_decide_eq_true aS; have ql70 : (x14_1 : Int) < ((wrap64 ((wrap64 (x14_1 + (t195.length : Int))) + 1)) : Int) := of_decide_eq_true aS; have q070 : (0 : Int) ≤ (x14_1 : Int) := of_decide_eq_true aS; obtain ⟨i070, hi070, _, hsz70, _⟩ := info_parts info36; have hcutv225 := cut_mid (P := Try.prog) 22 36 .i64 .i64 Try.underlying22 hi070 1 hsz70 (some ad219) x10_1.length co36 x14_1 (wrap64 ((wrap64 (x14_1 + (t195.length : Int))) + 1)) q070 (by omega) q70 (by have hlx_ := (Kd.R_reads' HO_10.out); omega); obtain ⟨v225, hvv225⟩ : ∃ v_ : Value, v_ = (.slice (if co36 = (x14_1 : Int).toNat then (some ad219) else ((some ad219) : Option Addr).map (·.add ((x14_1 : Int).toNat * 1))) (((wrap64 ((wrap64 (x14_1 + (t195.length : Int))) + 1)) : Int).toNat - (x14_1 : Int).toNat) (co36 - (x14_1 : Int).toNat)) := ⟨_, rfl⟩; rw [← hvv225] at hcutv225; clear hvv225 hi070 hsz70; (try (have hcutrv225 := hcutv225; simp only [hji13, hji18, hji22, hji25, hji28, hji42, hji45] at hcutrv225)); have HVv225 := Aside0.mk (show (0 : Int) ≤ x14_1 ∧ (x14_1 : Int) < (wrap64 ((wrap64 (x14_1 + (t195.length : Int))) + 1)) ∧ ((wrap64 ((wrap64 (x14_1 + (t195.length : Int))) + 1)) : Int) ≤ _ ∧ _ from ⟨q070, ql70, q70, hcutv225⟩); replace q70 := eq_true q70; replace ql70 := eq_true ql70; replace q070 := eq_true q070) | (go_at_call 70; (with_reducible refine (mag_restoreAt.calls kj48 (fun k_ => some k_ = (.slice (some ad219) x10_1.length co36 : Value).ownBlock) (.slice (some ad219) x10_1.length co36) t224 x14_1 (wrap64 ((wrap64 (x14_1 + (t195.length : Int))) + 1)) _ _ t195 t226 w _ ?side1 ?side2 ?side3 ?side4 ?side5 A65.out).mono ?_); (case side1 => repeat (first | (with_reducible first | exact HB.out | apply below_alloc | apply pw_below_drewN | apply below_drew1) | exact HB.out)); (case side2 => have h_ := HVv225.out; have hlx_ := (Kd.R_reads' HO_10.out).1; exact ⟨h_.1, h_.2.1, by omega, h_.2.2.2⟩); (case side3 => exact Kd.R_tight rfl HO_10.out); (case side4 => exact Kd.C_kept_ownV (HO_9.out) (fun k_ hk_ hs_ => (hk_.2.2) hs_)); (case side5 => exact (Kd.V_reads' HO_9.out).2.1); rintro e w71 ⟨rfl, hy0, hb, hkp⟩; have n0_ := Aside0.mk (Kd.R_mono (ok' := fun k_ => (w.heap.size ≤ k_) ∧ some k_ ≠ (.slice (some ad219) x10_1.length co36 : Value).ownBlock) (Kd.R_keptB (HO_4.out) hkp (fun k_ hk_ hs_ => (hk_.2) hs_)) (fun k_ hk_ => ⟨hk_.1.1, hk_.1.2⟩)); have n1_ := Aside0.mk (Kd.V_mono (ok' := fun k_ => (w.heap.size ≤ k_) ∧ some k_ ≠ (v206 : Value).ownBlock ∧ some k_ ≠ (.slice (some ad219) x10_1.length co36 : Value).ownBlock) (Kd.V_keptB (HO_9.out) hkp (fun k_ hk_ hs_ => (hk_.2.2) hs_)) (fun k_ hk_ => ⟨hk_.1.1, hk_.1.2.1, hk_.1.2.2⟩)); have n2_ := Aside0.mk (Kd.R_reok rfl hy0 (fun k_ e_ => HO_10.out.1 k_ e_)); have n3_ := Aside0.mk (hb); clear HO_4; clear HO_9; clear HO_10; clear HB; have HO_4 := n0_; have HO_9 := n1_; have HO_10 := n2_; have HB := n3_; clear n0_ n1_ n2_ n3_; (try clear hb); (try clear hkp); (try clear hy0); have p67 : 0 ≤ (x14_1 : Int) := of_decide_eq_true aS; have q67 : (x14_1 : Int) < ((x4_1.length : Int) : Int) := of_decide_eq_true aS; obtain ⟨go67, co67, eo67, gb67, gl67, cl67, HG67⟩ := Kd.R_form HO_4.out (by omega); (first | cases eo67 | (injection eo67 with ea_ en_ ec_; (first | subst ea_ | (injection ea_ with ea_; subst ea_)); subst ec_; clear en_)); have GB67 := Aside0.mk gb67; have GG67 := Aside0.mk HG67; clear gb67 gl67 HG67; obtain ⟨hx67_0, hf67_0⟩ := Kd.R_celln 0 HO_4.out (x14_1 : Int) p67 q67; replace p67 := eq_true p67; replace q67 := eq_true q67; obtain ⟨hy72_, hz72_⟩ := Kd.R_celln 0 HO_4.out (x14_1 : Int) (of_decide_eq_true aS) (of_decide_eq_true aS); have HP72 := Kd.R_putg HO_4.out (x14_1 : Int) ((IntKind.u64.wrap (x16_48 - 1)) % 4294967296)) | ((with_reducible refine gate_store (t := 36) (p := 160) rfl ?_); (try (rw [drewN_self w71]; generalize hq_ : World.drewN w71 _ = w71; have n0_ := Aside0.mk (Kd.R_at hq_ HO_4.out); have n1_ := Aside0.mk (Kd.V_at hq_ HO_9.out); have n2_ := Aside0.mk (Kd.R_at hq_ HO_10.out); have n3_ := Aside0.mk (below_at hq_ HB.out); clear hq_ HO_4 HO_9 HO_10 HB; have HO_4 := n0_; have HO_9 := n1_; have HO_10 := n2_; have HB := n3_; clear n0_ n1_ n2_ n3_; (try (obtain ⟨hy72_, hz72_⟩ := Kd.R_celln 0 HO_4.out (x14_1 : Int) (of_decide_eq_true aS) (of_decide_eq_true aS))); (try (have HP72 := Kd.R_putg HO_4.out (x14_1 : Int) ((IntKind.u64.wrap (x16_48 - 1)) % 4294967296))))); refine store_event (t := 36) (p := 160) (v := ?vo_w73) (w1 := (w71.setCell ⟨go67, (x14_1 : Int).toNat, none⟩ (.int .u32 ((IntKind.u64.wrap (x16_48 - 1)) % 4294967296)))) ?hg ?ho ?hn ?hr ?_; (case ho => rfl); (case hg => rfl); (case hn => rfl); (case hr => first | (go_simp; done) | (go_simp; rfl)); intro w73 hw; have hg : w71.grownBy w73 (some go67) := (by rw [hw]; exact HP72.2); have hp_ : Kd.R (Kd.int .u32) 36 w73 w.heap.size (fun k_ => (w.heap.size ≤ k_) ∧ some k_ ≠ (.slice (some ad219) x10_1.length co36 : Value).ownBlock) (.slice (some ⟨go67, 0, none⟩) x4_1.length co67) y227 := (by rw [hw, Ny227.out]; exact HP72.1); clear HP72; have n0_ := Aside0.mk (hp_); have n1_ := Aside0.mk (Kd.V_afterv (v := (.slice (some ⟨go67, 0, none⟩) x4_1.length co67)) (v1 := (.slice (some ⟨go67, 0, none⟩) x4_1.length co67)) (ok := (fun k_ => (w.heap.size ≤ k_) ∧ some k_ ≠ (.slice (some ad219) x10_1.length co36 : Value).ownBlock)) (by (with_reducible repeat (first | apply Kd.V_alloc | apply Kd.V_drewN | apply Kd.V_drew)); exact Kd.V_mono HO_9.out (fun _ hk => ⟨⟨hk.1, hk.2.2⟩, hk.2.1⟩)) hg (.inl rfl)); have n2_ := Aside0.mk (Kd.R_after (v := (.slice (some ⟨go67, 0, none⟩) x4_1.length co67)) (v1 := (.slice (some ⟨go67, 0, none⟩) x4_1.length co67)) (ok := (fun k_ => (w.heap.size ≤ k_))) (by (with_reducible repeat (first | apply Kd.R_alloc | apply Kd.R_drewN | apply Kd.R_drew)); exact HO_10.out) hg (.inl rfl)); have n3_ := Aside0.mk ((by rw [hw]; exact below_set (HB.out) GB67.out : Below w.heap.size w w73)); clear HO_4; clear HO_9; clear HO_10; clear HB; have HO_4 := n0_; have HO_9 := n1_; have HO_10 := n2_; have HB := n3_; clear n0_ n1_ n2_ n3_; clear hg hw hp_)))
                            (try simp only [← hl10_1])
                            (try simp only [← hji42, ← hji45])
                            go_roundg kj48
                            case measure => have := HK1.out; have := HJ48.out; omega
                            case rel => exact ⟨(y227), (t226), (wrap64 (x14_1 - 1)), (by first | rfl | (simp; done) | (simp [*]; done)), (by first | with_reducible exact H' | (simp only [hji42, hji45]; exact H') | exact H'), ⟨by have := HK1.out; have := HJ48.out; omega⟩, ⟨by (try simp only [hl10_1]); (with_reducible repeat (first | apply Kd.R_alloc | apply Kd.R_drewN | apply Kd.R_drew)); exact HO_4.out⟩, ⟨by (try simp only [hl10_1]); (with_reducible repeat (first | apply Kd.V_alloc | apply Kd.V_drewN | apply Kd.V_drew)); exact Kd.V_mono HO_9.out (fun _ hk => ⟨hk.1.1, ⟨hk.2, hk.1.2⟩⟩)⟩, ⟨by (try simp only [hl10_1]); (with_reducible repeat (first | apply Kd.R_alloc | apply Kd.R_drewN | apply Kd.R_drew)); exact HO_10.out⟩, ⟨by repeat (first | (with_reducible first | exact HB.out | apply below_alloc | apply pw_below_drewN | apply below_drew1) | exact HB.out)⟩⟩
                           ·rw [if_neg c66] at H
                            exact absurd H (by simp)
                          ·replace c61 := Bool.eq_false_iff.mpr c61
                           subst c61
                           have H1 : (if x14_1 < (x4_1.length : Int) then (mag_DivMod.l0 kj48 (x4_1.set (x14_1 : Int).toNat ((x16_48) % 4294967296)) t194 t195 t224 (t195.length : Int) (IntKind.u64.wrap (rd t195 (ji25))) (IntKind.u64.wrap (rd t195 (ji28))) (wrap64 (x14_1 - 1))) else (none)) = some (r1, r2) := by rw [if_neg (show ¬ (false = true) by decide)] at H; exact H
                           clear H
                           have H := H1
                           clear H1
                           by_cases c74 : x14_1 < (x4_1.length : Int)
                           ·rw [if_pos c74] at H
                            have c74b0 : decide (x14_1 < (x4_1.length : Int)) = true := decide_eq_true c74
                            clear c74
                            have c74bh := c74b0
                            (try simp only [hl10_1] at c74bh)
                            obtain ⟨y228, hy228⟩ : ∃ y_ : List Int, y_ = (x4_1.set (x14_1 : Int).toNat ((x16_48) % 4294967296)) := ⟨_, rfl⟩
                            replace H : (mag_DivMod.l0 kj48 y228 t194 t195 t224 (t195.length : Int) (IntKind.u64.wrap (rd t195 (ji25))) (IntKind.u64.wrap (rd t195 (ji28))) (wrap64 (x14_1 - 1))) = some (r1, r2) := by first | (rw [hy228]; with_reducible exact H) | (have H2_ := (Option.bind_some _ _).symm.trans H; rw [hy228]; with_reducible exact H2_) | (have H2_ := (Option.bind_some _ _).symm.trans H; with_reducible exact H2_) | with_reducible exact H | (rw [hy228]; exact H) | exact H
                            have Ny228 := Aside0.mk hy228
                            clear hy228
                            have H' := Aside0.mk H
                            clear H
                            (try clear hcutrv225)
                            (try clear hcutv225)
                            have q76 : ((wrap64 ((wrap64 (x14_1 + (t195.length : Int))) + 1)) : Int) ≤ ((x10_1.length : Nat) : Int) := of_decide_eq_true aS
                            have ql76 : (x14_1 : Int) < ((wrap64 ((wrap64 (x14_1 + (t195.length : Int))) + 1)) : Int) := of_decide_eq_true aS
                            have q076 : (0 : Int) ≤ (x14_1 : Int) := of_decide_eq_true aS
                            obtain ⟨i076, hi076, _, hsz76, _⟩ := info_parts info36
                            have hcutv222 := cut_mid (P := Try.prog) 22 36 .i64 .i64 Try.underlying22 hi076 1 hsz76 (some ad219) x10_1.length co36 x14_1 (wrap64 ((wrap64 (x14_1 + (t195.length : Int))) + 1)) q076 (by omega) q76 (by have hlx_ := (Kd.R_reads' HO_10.out); omega)
                            obtain ⟨v222, hvv222⟩ : ∃ v_ : Value, v_ = (.slice (if co36 = (x14_1 : Int).toNat then (some ad219) else ((some ad219) : Option Addr).map (·.add ((x14_1 : Int).toNat * 1))) (((wrap64 ((wrap64 (x14_1 + (t195.length : Int))) + 1)) : Int).toNat - (x14_1 : Int).toNat) (co36 - (x14_1 : Int).toNat)) := ⟨_, rfl⟩
                            rw [← hvv222] at hcutv222
                            clear hvv222 hi076 hsz76
                            (try (have hcutrv222 := hcutv222; simp only [hji13, hji18, hji22, hji25, hji28, hji42, hji45] at hcutrv222))
                            have HVv222 := Aside0.mk (show (0 : Int) ≤ x14_1 ∧ (x14_1 : Int) < (wrap64 ((wrap64 (x14_1 + (t195.length : Int))) + 1)) ∧ ((wrap64 ((wrap64 (x14_1 + (t195.length : Int))) + 1)) : Int) ≤ _ ∧ _ from ⟨q076, ql76, q76, hcutv222⟩)
                            replace q76 := eq_true q76
                            replace ql76 := eq_true ql76
                            replace q076 := eq_true q076
                            go_wp2_with (first | (go_at_call 69; (with_reducible refine (mag_subtractAt.calls kj48 (fun k_ => some k_ = (.slice (some ad219) x10_1.length co36 : Value).ownBlock) (.slice (some ad219) x10_1.length co36) x10_1 x14_1 (wrap64 ((wrap64 (x14_1 + (t195.length : Int))) + 1)) _ _ t195 x16_48 false t224 w _ ?side1 ?side2 ?side3 ?side4 ?side5 A60.out).mono ?_); (case side1 => repeat (first | (with_reducible first | exact HB.out | apply below_alloc | apply pw_below_drewN | apply below_drew1) | exact HB.out)); (case side2 => have h_ := HVv222.out; have hlx_ := (Kd.R_reads' HO_10.out).1; exact ⟨h_.1, h_.2.1, by omega, h_.2.2.2⟩); (case side3 => exact Kd.R_tight rfl HO_10.out); (case side4 => exact Kd.C_kept_ownV (HO_9.out) (fun k_ hk_ hs_ => (hk_.2.2) hs_)); (case side5 => exact (Kd.V_reads' HO_9.out).2.1); rintro e w77 ⟨rfl, hy0, hb, hkp⟩; have n0_ := Aside0.mk (Kd.R_mono (ok' := fun k_ => (w.heap.size ≤ k_) ∧ some k_ ≠ (.slice (some ad219) x10_1.length co36 : Value).ownBlock) (Kd.R_keptB (HO_4.out) hkp (fun k_ hk_ hs_ => (hk_.2) hs_)) (fun k_ hk_ => ⟨hk_.1.1, hk_.1.2⟩)); have n1_ := Aside0.mk (Kd.V_mono (ok' := fun k_ => (w.heap.size ≤ k_) ∧ some k_ ≠ (v206 : Value).ownBlock ∧ some k_ ≠ (.slice (some ad219) x10_1.length co36 : Value).ownBlock) (Kd.V_keptB (HO_9.out) hkp (fun k_ hk_ hs_ => (hk_.2.2) hs_)) (fun k_ hk_ => ⟨hk_.1.1, hk_.1.2.1, hk_.1.2.2⟩)); have n2_ := Aside0.mk (Kd.R_reok rfl hy0 (fun k_ e_ => HO_10.out.1 k_ e_)); have n3_ := Aside0.mk (hb); clear HO_4; clear HO_9; clear HO_10; clear HB; have HO_4 := n0_; have HO_9 := n1_; have HO_10 := n2_; have HB := n3_; clear n0_ n1_ n2_ n3_; (try clear hb); (try clear hkp); (try clear hy0); have p75 : 0 ≤ (x14_1 : Int) := of_decide_eq_true aS; have q75 : (x14_1 : Int) < ((x4_1.length : Int) : Int) := of_decide_eq_true aS; obtain ⟨go75, co75, eo75, gb75, gl75, cl75, HG75⟩ := Kd.R_form HO_4.out (by omega); (first | cases eo75 | (injection eo75 with ea_ en_ ec_; (first | subst ea_ | (injection ea_ with ea_; subst ea_)); subst ec_; clear en_)); have GB75 := Aside0.mk gb75; have GG75 := Aside0.mk HG75; clear gb75 gl75 HG75; obtain ⟨hx75_0, hf75_0⟩ := Kd.R_celln 0 HO_4.out (x14_1 : Int) p75 q75; replace p75 := eq_true p75; replace q75 := eq_true q75; obtain ⟨hy78_, hz78_⟩ := Kd.R_celln 0 HO_4.out (x14_1 : Int) (of_decide_eq_true aS) (of_decide_eq_true aS); have HP78 := Kd.R_putg HO_4.out (x14_1 : Int) ((x16_48) % 4294967296)) | ((with_reducible refine gate_store (t := 36) (p := 160) rfl ?_); (try (rw [drewN_self w77]; generalize hq_ : World.drewN w77 _ = w77; have n0_ := Aside0.mk (Kd.R_at hq_ HO_4.out); have n1_ := Aside0.mk (Kd.V_at hq_ HO_9.out); have n2_ := Aside0.mk (Kd.R_at hq_ HO_10.out); have n3_ := Aside0.mk (below_at hq_ HB.out); clear hq_ HO_4 HO_9 HO_10 HB; have HO_4 := n0_; have HO_9 := n1_; have HO_10 := n2_; have HB := n3_; clear n0_ n1_ n2_ n3_; (try (obtain ⟨hy78_, hz78_⟩ := Kd.R_celln 0 HO_4.out (x14_1 : Int) (of_decide_eq_true aS) (of_decide_eq_true aS))); (try (have HP78 := Kd.R_putg HO_4.out (x14_1 : Int) ((x16_48) % 4294967296))))); refine store_event (t := 36) (p := 160) (v := ?vo_w79) (w1 := (w77.setCell ⟨go75, (x14_1 : Int).toNat, none⟩ (.int .u32 ((x16_48) % 4294967296)))) ?hg ?ho ?hn ?hr ?_; (case ho => rfl); (case hg => rfl); (case hn => rfl); (case hr => first | (go_simp; done) | (go_simp; rfl)); intro w79 hw; have hg : w77.grownBy w79 (some go75) := (by rw [hw]; exact HP78.2); have hp_ : Kd.R (Kd.int .u32) 36 w79 w.heap.size (fun k_ => (w.heap.size ≤ k_) ∧ some k_ ≠ (.slice (some ad219) x10_1.length co36 : Value).ownBlock) (.slice (some ⟨go75, 0, none⟩) x4_1.length co75) y228 := (by rw [hw, Ny228.out]; exact HP78.1); clear HP78; have n0_ := Aside0.mk (hp_); have n1_ := Aside0.mk (Kd.V_afterv (v := (.slice (some ⟨go75, 0, none⟩) x4_1.length co75)) (v1 := (.slice (some ⟨go75, 0, none⟩) x4_1.length co75)) (ok := (fun k_ => (w.heap.size ≤ k_) ∧ some k_ ≠ (.slice (some ad219) x10_1.length co36 : Value).ownBlock)) (by (with_reducible repeat (first | apply Kd.V_alloc | apply Kd.V_drewN | apply Kd.V_drew)); exact Kd.V_mono HO_9.out (fun _ hk => ⟨⟨hk.1, hk.2.2⟩, hk.2.1⟩)) hg (.inl rfl)); have n2_ := Aside0.mk (Kd.R_after (v := (.slice (some ⟨go75, 0, none⟩) x4_1.length co75)) (v1 := (.slice (some ⟨go75, 0, none⟩) x4_1.length co75)) (ok := (fun k_ => (w.heap.size ≤ k_))) (by (with_reducible repeat (first | apply Kd.R_alloc | apply Kd.R_drewN | apply Kd.R_drew)); exact HO_10.out) hg (.inl rfl)); have n3_ := Aside0.mk ((by rw [hw]; exact below_set (HB.out) GB75.out : Below w.heap.size w w79)); clear HO_4; clear HO_9; clear HO_10; clear HB; have HO_4 := n0_; have HO_9 := n1_; have HO_10 := n2_; have HB := n3_; clear n0_ n1_ n2_ n3_; clear hg hw hp_))
                            repeat (go_quiet (first | (go_at_call 69; (with_reducible refine (mag_subtractAt.calls kj48 (fun k_ => some k_ = (.slice (some ad219) x10_1.length co36 : Value).ownBlock) (.slice (some ad219) x10_1.length co36) x10_1 x14_1 (wrap64 ((wrap64 (x14_1 + (t195.length : Int))) + 1)) _ _ t195 x16_48 false t224 w _ ?side1 ?side2 ?side3 ?side4 ?side5 A60.out).mono ?_); (case side1 => repeat (first | (with_reducible first | exact HB.out | apply below_alloc | apply pw_below_drewN | apply below_drew1) | exact HB.out)); (case side2 => have h_ := HVv222.out; have hlx_ := (Kd.R_reads' HO_10.out).1; exact ⟨h_.1, h_.2.1, by omega, h_.2.2.2⟩); (case side3 => exact Kd.R_tight rfl HO_10.out); (case side4 => exact Kd.C_kept_ownV (HO_9.out) (fun k_ hk_ hs_ => (hk_.2.2) hs_)); (case side5 => exact (Kd.V_reads' HO_9.out).2.1); rintro e w77 ⟨rfl, hy0, hb, hkp⟩; have n0_ := Aside0.mk (Kd.R_mono (ok' := fun k_ => (w.heap.size ≤ k_) ∧ some k_ ≠ (.slice (some ad219) x10_1.length co36 : Value).ownBlock) (Kd.R_keptB (HO_4.out) hkp (fun k_ hk_ hs_ => (hk_.2) hs_)) (fun k_ hk_ => ⟨hk_.1.1, hk_.1.2⟩)); have n1_ := Aside0.mk (Kd.V_mono (ok' := fun k_ => (w.heap.size ≤ k_) ∧ some k_ ≠ (v206 : Value).ownBlock ∧ some k_ ≠ (.slice (some ad219) x10_1.length co36 : Value).ownBlock) (Kd.V_keptB (HO_9.out) hkp (fun k_ hk_ hs_ => (hk_.2.2) hs_)) (fun k_ hk_ => ⟨hk_.1.1, hk_.1.2.1, hk_.1.2.2⟩)); have n2_ := Aside0.mk (Kd.R_reok rfl hy0 (fun k_ e_ => HO_10.out.1 k_ e_)); have n3_ := Aside0.mk (hb); clear HO_4; clear HO_9; clear HO_10; clear HB; have HO_4 := n0_; have HO_9 := n1_; have HO_10 := n2_; have HB := n3_; clear n0_ n1_ n2_ n3_; (try clear hb); (try clear hkp); (try clear hy0); have p75 : 0 ≤ (x14_1 : Int) := of_decide_eq_true aS; have q75 : (x14_1 : Int) < ((x4_1.length : Int) : Int) := of_decide_eq_true aS; obtain ⟨go75, co75, eo75, gb75, gl75, cl75, HG75⟩ := Kd.R_form HO_4.out (by omega); (first | cases eo75 | (injection eo75 with ea_ en_ ec_; (first | subst ea_ | (injection ea_ with ea_; subst ea_)); subst ec_; clear en_)); have GB75 := Aside0.mk gb75; have GG75 := Aside0.mk HG75; clear gb75 gl75 HG75; obtain ⟨hx75_0, hf75_0⟩ := Kd.R_celln 0 HO_4.out (x14_1 : Int) p75 q75; replace p75 := eq_true p75; replace q75 := eq_true q75; obtain ⟨hy78_, hz78_⟩ := Kd.R_celln 0 HO_4.out (x14_1 : Int) (of_decide_eq_true aS) (of_decide_eq_true aS); have HP78 := Kd.R_putg HO_4.out (x14_1 : Int) ((x16_48) % 4294967296)) | ((with_reducible refine gate_store (t := 36) (p := 160) rfl ?_); (try (rw [drewN_self w77]; generalize hq_ : World.drewN w77 _ = w77; have n0_ := Aside0.mk (Kd.R_at hq_ HO_4.out); have n1_ := Aside0.mk (Kd.V_at hq_ HO_9.out); have n2_ := Aside0.mk (Kd.R_at hq_ HO_10.out); have n3_ := Aside0.mk (below_at hq_ HB.out); clear hq_ HO_4 HO_9 HO_10 HB; have HO_4 := n0_; have HO_9 := n1_; have HO_10 := n2_; have HB := n3_; clear n0_ n1_ n2_ n3_; (try (obtain ⟨hy78_, hz78_⟩ := Kd.R_celln 0 HO_4.out (x14_1 : Int) (of_decide_eq_true aS) (of_decide_eq_true aS))); (try (have HP78 := Kd.R_putg HO_4.out (x14_1 : Int) ((x16_48) % 4294967296))))); refine store_event (t := 36) (p := 160) (v := ?vo_w79) (w1 := (w77.setCell ⟨go75, (x14_1 : Int).toNat, none⟩ (.int .u32 ((x16_48) % 4294967296)))) ?hg ?ho ?hn ?hr ?_; (case ho => rfl); (case hg => rfl); (case hn => rfl); (case hr => first | (go_simp; done) | (go_simp; rfl)); intro w79 hw; have hg : w77.grownBy w79 (some go75) := (by rw [hw]; exact HP78.2); have hp_ : Kd.R (Kd.int .u32) 36 w79 w.heap.size (fun k_ => (w.heap.size ≤ k_) ∧ some k_ ≠ (.slice (some ad219) x10_1.length co36 : Value).ownBlock) (.slice (some ⟨go75, 0, none⟩) x4_1.length co75) y228 := (by rw [hw, Ny228.out]; exact HP78.1); clear HP78; have n0_ := Aside0.mk (hp_); have n1_ := Aside0.mk (Kd.V_afterv (v := (.slice (some ⟨go75, 0, none⟩) x4_1.length co75)) (v1 := (.slice (some ⟨go75, 0, none⟩) x4_1.length co75)) (ok := (fun k_ => (w.heap.size ≤ k_) ∧ some k_ ≠ (.slice (some ad219) x10_1.length co36 : Value).ownBlock)) (by (with_reducible repeat (first | apply Kd.V_alloc | apply Kd.V_drewN | apply Kd.V_drew)); exact Kd.V_mono HO_9.out (fun _ hk => ⟨⟨hk.1, hk.2.2⟩, hk.2.1⟩)) hg (.inl rfl)); have n2_ := Aside0.mk (Kd.R_after (v := (.slice (some ⟨go75, 0, none⟩) x4_1.length co75)) (v1 := (.slice (some ⟨go75, 0, none⟩) x4_1.length co75)) (ok := (fun k_ => (w.heap.size ≤ k_))) (by (with_reducible repeat (first | apply Kd.R_alloc | apply Kd.R_drewN | apply Kd.R_drew)); exact HO_10.out) hg (.inl rfl)); have n3_ := Aside0.mk ((by rw [hw]; exact below_set (HB.out) GB75.out : Below w.heap.size w w79)); clear HO_4; clear HO_9; clear HO_10; clear HB; have HO_4 := n0_; have HO_9 := n1_; have HO_10 := n2_; have HB := n3_; clear n0_ n1_ n2_ n3_; clear hg hw hp_)); try go_wp2_with (first | (go_at_call 69; (with_reducible refine (mag_subtractAt.calls kj48 (fun k_ => some k_ = (.slice (some ad219) x10_1.length co36 : Value).ownBlock) (.slice (some ad219) x10_1.length co36) x10_1 x14_1 (wrap64 ((wrap64 (x14_1 + (t195.length : Int))) + 1)) _ _ t195 x16_48 false t224 w _ ?side1 ?side2 ?side3 ?side4 ?side5 A60.out).mono ?_); (case side1 => repeat (first | (with_reducible first | exact HB.out | apply below_alloc | apply pw_below_drewN | apply below_drew1) | exact HB.out)); (case side2 => have h_ := HVv222.out; have hlx_ := (Kd.R_reads' HO_10.out).1; exact ⟨h_.1, h_.2.1, by omega, h_.2.2.2⟩); (case side3 => exact Kd.R_tight rfl HO_10.out); (case side4 => exact Kd.C_kept_ownV (HO_9.out) (fun k_ hk_ hs_ => (hk_.2.2) hs_)); (case side5 => exact (Kd.V_reads' HO_9.out).2.1); rintro e w77 ⟨rfl, hy0, hb, hkp⟩; have n0_ := Aside0.mk (Kd.R_mono (ok' := fun k_ => (w.heap.size ≤ k_) ∧ some k_ ≠ (.slice (some ad219) x10_1.length co36 : Value).ownBlock) (Kd.R_keptB (HO_4.out) hkp (fun k_ hk_ hs_ => (hk_.2) hs_)) (fun k_ hk_ => ⟨hk_.1.1, hk_.1.2⟩)); have n1_ := Aside0.mk (Kd.V_mono (ok' := fun k_ => (w.heap.size ≤ k_) ∧ some k_ ≠ (v206 : Value).ownBlock ∧ some k_ ≠ (.slice (some ad219) x10_1.length co36 : Value).ownBlock) (Kd.V_keptB (HO_9.out) hkp (fun k_ hk_ hs_ => (hk_.2.2) hs_)) (fun k_ hk_ => ⟨hk_.1.1, hk_.1.2.1, hk_.1.2.2⟩)); have n2_ := Aside0.mk (Kd.R_reok rfl hy0 (fun k_ e_ => HO_10.out.1 k_ e_)); have n3_ := Aside0.mk (hb); clear HO_4; clear HO_9; clear HO_10; clear HB; have HO_4 := n0_; have HO_9 := n1_; have HO_10 := n2_; have HB := n3_; clear n0_ n1_ n2_ n3_; (try clear hb); (try clear hkp); (try clear hy0); have p75 : 0 ≤ (x14_1 : Int) := of_decide_eq_true aS; have q75 : (x14_1 : Int) < ((x4_1.length : Int) : Int) := of_decide_eq_true aS; obtain ⟨go75, co75, eo75, gb75, gl75, cl75, HG75⟩ := Kd.R_form HO_4.out (by omega); (first | cases eo75 | (injection eo75 with ea_ en_ ec_; (first | subst ea_ | (injection ea_ with ea_; subst ea_)); subst ec_; clear en_)); have GB75 := Aside0.mk gb75; have GG75 := Aside0.mk HG75; clear gb75 gl75 HG75; obtain ⟨hx75_0, hf75_0⟩ := Kd.R_celln 0 HO_4.out (x14_1 : Int) p75 q75; replace p75 := eq_true p75; replace q75 := eq_true q75; obtain ⟨hy78_, hz78_⟩ := Kd.R_celln 0 HO_4.out (x14_1 : Int) (of_decide_eq_true aS) (of_decide_eq_true aS); have HP78 := Kd.R_putg HO_4.out (x14_1 : Int) ((x16_48) % 4294967296)) | ((with_reducible refine gate_store (t := 36) (p := 160) rfl ?_); (try (rw [drewN_self w77]; generalize hq_ : World.drewN w77 _ = w77; have n0_ := Aside0.mk (Kd.R_at hq_ HO_4.out); have n1_ := Aside0.mk (Kd.V_at hq_ HO_9.out); have n2_ := Aside0.mk (Kd.R_at hq_ HO_10.out); have n3_ := Aside0.mk (below_at hq_ HB.out); clear hq_ HO_4 HO_9 HO_10 HB; have HO_4 := n0_; have HO_9 := n1_; have HO_10 := n2_; have HB := n3_; clear n0_ n1_ n2_ n3_; (try (obtain ⟨hy78_, hz78_⟩ := Kd.R_celln 0 HO_4.out (x14_1 : Int) (of_decide_eq_true aS) (of_decide_eq_true aS))); (try (have HP78 := Kd.R_putg HO_4.out (x14_1 : Int) ((x16_48) % 4294967296))))); refine store_event (t := 36) (p := 160) (v := ?vo_w79) (w1 := (w77.setCell ⟨go75, (x14_1 : Int).toNat, none⟩ (.int .u32 ((x16_48) % 4294967296)))) ?hg ?ho ?hn ?hr ?_; (case ho => rfl); (case hg => rfl); (case hn => rfl); (case hr => first | (go_simp; done) | (go_simp; rfl)); intro w79 hw; have hg : w77.grownBy w79 (some go75) := (by rw [hw]; exact HP78.2); have hp_ : Kd.R (Kd.int .u32) 36 w79 w.heap.size (fun k_ => (w.heap.size ≤ k_) ∧ some k_ ≠ (.slice (some ad219) x10_1.length co36 : Value).ownBlock) (.slice (some ⟨go75, 0, none⟩) x4_1.length co75) y228 := (by rw [hw, Ny228.out]; exact HP78.1); clear HP78; have n0_ := Aside0.mk (hp_); have n1_ := Aside0.mk (Kd.V_afterv (v := (.slice (some ⟨go75, 0, none⟩) x4_1.length co75)) (v1 := (.slice (some ⟨go75, 0, none⟩) x4_1.length co75)) (ok := (fun k_ => (w.heap.size ≤ k_) ∧ some k_ ≠ (.slice (some ad219) x10_1.length co36 : Value).ownBlock)) (by (with_reducible repeat (first | apply Kd.V_alloc | apply Kd.V_drewN | apply Kd.V_drew)); exact Kd.V_mono HO_9.out (fun _ hk => ⟨⟨hk.1, hk.2.2⟩, hk.2.1⟩)) hg (.inl rfl)); have n2_ := Aside0.mk (Kd.R_after (v := (.slice (some ⟨go75, 0, none⟩) x4_1.length co75)) (v1 := (.slice (some ⟨go75, 0, none⟩) x4_1.length co75)) (ok := (fun k_ => (w.heap.size ≤ k_))) (by (with_reducible repeat (first | apply Kd.R_alloc | apply Kd.R_drewN | apply Kd.R_drew)); exact HO_10.out) hg (.inl rfl)); have n3_ := Aside0.mk ((by rw [hw]; exact below_set (HB.out) GB75.out : Below w.heap.size w w79)); clear HO_4; clear HO_9; clear HO_10; clear HB; have HO_4 := n0_; have HO_9 := n1_; have HO_10 := n2_; have HB := n3_; clear n0_ n1_ n2_ n3_; clear hg hw hp_)))
                            (try simp only [← hl10_1])
                            (try simp only [← hji42, ← hji45])
                            go_roundg kj48
                            case measure => have := HK1.out; have := HJ48.out; omega
                            case rel => exact ⟨(y228), (t224), (wrap64 (x14_1 - 1)), (by first | rfl | (simp; done) | (simp [*]; done)), (by first | with_reducible exact H' | (simp only [hji42, hji45]; exact H') | exact H'), ⟨by have := HK1.out; have := HJ48.out; omega⟩, ⟨by (try simp only [hl10_1]); (with_reducible repeat (first | apply Kd.R_alloc | apply Kd.R_drewN | apply Kd.R_drew)); exact HO_4.out⟩, ⟨by (try simp only [hl10_1]); (with_reducible repeat (first | apply Kd.V_alloc | apply Kd.V_drewN | apply Kd.V_drew)); exact Kd.V_mono HO_9.out (fun _ hk => ⟨hk.1.1, ⟨hk.2, hk.1.2⟩⟩)⟩, ⟨by (try simp only [hl10_1]); (with_reducible repeat (first | apply Kd.R_alloc | apply Kd.R_drewN | apply Kd.R_drew)); exact HO_10.out⟩, ⟨by repeat (first | (with_reducible first | exact HB.out | apply below_alloc | apply pw_below_drewN | apply below_drew1) | exact HB.out)⟩⟩
                           ·rw [if_neg c74] at H
                            exact absurd H (by simp)
                         ·rw [if_neg c59] at H
                          exact absurd H (by simp)
                        ·rw [if_neg c58] at H
                         exact absurd H (by simp)
                       ·rw [if_neg c57] at H
                        exact absurd H (by simp)
                   ·rw [if_neg c47] at H
                    exact absurd H (by simp)
                  ·rw [if_neg c46] at H
                   exact absurd H (by simp)
                 ·rw [if_neg c44] at H
                  exact absurd H (by simp)
                ·rw [if_neg c43] at H
                 exact absurd H (by simp)
               ·rw [if_neg c41] at H
                have c41b0 : decide (0 ≤ x14_1) = false := decide_eq_false c41
                clear c41
                replace H := Option.bind_eq_some_iff.mp H
                obtain ⟨t210, A800, H⟩ := H
                replace H : ((mag_Trim.f k1 x10_1).bind fun t213 => ((mag_Shr.f k1 t213 t194).bind fun t216 => (some (t210, t216)))) = some (r1, r2) := H
                have A80 := Aside0.mk A800
                clear A800
                replace H := Option.bind_eq_some_iff.mp H
                obtain ⟨t213, A810, H⟩ := H
                replace H : ((mag_Shr.f k1 t213 t194).bind fun t216 => (some (t210, t216))) = some (r1, r2) := H
                have A81 := Aside0.mk A810
                clear A810
                replace H := Option.bind_eq_some_iff.mp H
                obtain ⟨t216, A820, H⟩ := H
                replace H : (some (t210, t216)) = some (r1, r2) := H
                have A82 := Aside0.mk A820
                clear A820
                simp only [Option.some.injEq, Prod.mk.injEq] at H
                obtain ⟨rfl, rfl⟩ := H
                obtain ⟨Ao83, co83, eo83⟩ := Kd.R_slice HO_4.out
                subst eo83
                go_wp2_with (first | (go_at_call 66; (with_reducible refine (mag_Trim.calls k1 (fun k_ => some k_ = (.slice Ao83 x4_1.length co83 : Value).ownBlock) _ _ x4_1 t210 _ ?side1 A80.out).mono ?_); (case side1 => exact Kd.R_V (Kd.R_tight rfl (HO_4.out))); rintro e w84 ⟨v211, rfl, ho0, hb⟩; have n0_ := Aside0.mk (Kd.R_below (by (with_reducible repeat (first | apply Kd.R_alloc | apply Kd.R_drewN | apply Kd.R_drew)); exact HO_4.out) hb); have n1_ := Aside0.mk (Kd.V_below (by (with_reducible repeat (first | apply Kd.V_alloc | apply Kd.V_drewN | apply Kd.V_drew)); exact HO_9.out) hb); have n2_ := Aside0.mk (Kd.R_below (by (with_reducible repeat (first | apply Kd.R_alloc | apply Kd.R_drewN | apply Kd.R_drew)); exact HO_10.out) hb); have n3_ := Aside0.mk (Kd.V_lower (Kd.V_mono (ok' := fun k_ => (w.heap.size ≤ k_) ∧ some k_ ≠ (.slice Ao36 x10_1.length co36 : Value).ownBlock) ho0 (fun k_ hk_ => ⟨Or.elim hk_ (fun hs_ => ((HO_4.out).1 k_ hs_.symm).1) (fun hn_ => (Nat.le_trans (below_size (bB)) hn_)), Or.elim hk_ (fun hs_ => ((HO_4.out).1 k_ hs_.symm).2) (fun hn_ => (Kd.fresh' (Kd.R_lt (by (with_reducible repeat (first | apply Kd.R_alloc | apply Kd.R_drewN | apply Kd.R_drew)); exact HO_10.out)) k_ hn_))⟩)) (below_size (bB))); have n4_ := Aside0.mk (below_step (bB) hb); clear HO_4; clear HO_9; clear HO_10; clear HB; have HO_4 := n0_; have HO_9 := n1_; have HO_10 := n2_; have HO212 := n3_; have HB := n4_; clear n0_ n1_ n2_ n3_ n4_; (try clear hb); (try clear hb2); (try clear hk); (try clear hi); (try clear ho0)) | (go_at_call 66; (with_reducible refine (mag_Trim.calls k1 (fun k_ => some k_ = (.slice Ao36 x10_1.length co36 : Value).ownBlock) _ _ x10_1 t213 _ ?side1 A81.out).mono ?_); (case side1 => exact Kd.R_V (Kd.R_tight rfl (HO_10.out))); rintro e w85 ⟨v214, rfl, ho0, hb⟩; have n0_ := Aside0.mk (Kd.R_below (by (with_reducible repeat (first | apply Kd.R_alloc | apply Kd.R_drewN | apply Kd.R_drew)); exact HO_4.out) hb); have n1_ := Aside0.mk (Kd.V_below (by (with_reducible repeat (first | apply Kd.V_alloc | apply Kd.V_drewN | apply Kd.V_drew)); exact HO_9.out) hb); have n2_ := Aside0.mk (Kd.R_below (by (with_reducible repeat (first | apply Kd.R_alloc | apply Kd.R_drewN | apply Kd.R_drew)); exact HO_10.out) hb); have n3_ := Aside0.mk (Kd.V_below (by (with_reducible repeat (first | apply Kd.V_alloc | apply Kd.V_drewN | apply Kd.V_drew)); exact HO212.out) hb); have n4_ := Aside0.mk (Kd.V_lower (Kd.V_mono (ok' := fun k_ => (w.heap.size ≤ k_) ∧ some k_ ≠ (.slice Ao83 x4_1.length co83 : Value).ownBlock) ho0 (fun k_ hk_ => ⟨Or.elim hk_ (fun hs_ => ((HO_10.out).1 k_ hs_.symm).1) (fun hn_ => (Nat.le_trans (below_size (bB)) hn_)), Or.elim hk_ (fun hs_ => ((HO_10.out).1 k_ hs_.symm).2) (fun hn_ => (Kd.fresh' (Kd.R_lt (by (with_reducible repeat (first | apply Kd.R_alloc | apply Kd.R_drewN | apply Kd.R_drew)); exact HO_4.out)) k_ hn_))⟩)) (below_size (bB))); have n5_ := Aside0.mk (below_step (bB) hb); clear HO_4; clear HO_9; clear HO_10; clear HO212; clear HB; have HO_4 := n0_; have HO_9 := n1_; have HO_10 := n2_; have HO212 := n3_; have HO215 := n4_; have HB := n5_; clear n0_ n1_ n2_ n3_ n4_ n5_; (try clear hb); (try clear hb2); (try clear hk); (try clear hi); (try clear ho0); obtain ⟨Ao86, co86, eo86⟩ := Kd.V_slice HO215.out; subst eo86) | (go_at_call 49; (with_reducible refine (mag_Shr.calls k1 _ _ t213 t194 t216 _ ?side1 ?side2 A82.out).mono ?_); (case side1 => repeat (first | exact (Kd.V_reads' HO215.out).2.2 | (with_reducible refine Kd.C_alloc ?_ _) | (with_reducible refine Kd.C_drewN ?_ _) | (with_reducible refine Kd.C_drew ?_))); (case side2 => exact (Kd.V_reads' HO215.out).2.1); rintro e w87 ⟨v217, rfl, ho0, hb⟩; have n0_ := Aside0.mk (Kd.R_below (by (with_reducible repeat (first | apply Kd.R_alloc | apply Kd.R_drewN | apply Kd.R_drew)); exact HO_4.out) hb); have n1_ := Aside0.mk (Kd.V_below (by (with_reducible repeat (first | apply Kd.V_alloc | apply Kd.V_drewN | apply Kd.V_drew)); exact HO_9.out) hb); have n2_ := Aside0.mk (Kd.R_below (by (with_reducible repeat (first | apply Kd.R_alloc | apply Kd.R_drewN | apply Kd.R_drew)); exact HO_10.out) hb); have n3_ := Aside0.mk (Kd.V_below (by (with_reducible repeat (first | apply Kd.V_alloc | apply Kd.V_drewN | apply Kd.V_drew)); exact HO212.out) hb); have n4_ := Aside0.mk (Kd.V_below (by (with_reducible repeat (first | apply Kd.V_alloc | apply Kd.V_drewN | apply Kd.V_drew)); exact HO215.out) hb); have n5_ := Aside0.mk (Kd.V_lower (Kd.V_mono (ok' := fun k_ => (w.heap.size ≤ k_) ∧ some k_ ≠ (.slice Ao83 x4_1.length co83 : Value).ownBlock ∧ some k_ ≠ (.slice Ao36 x10_1.length co36 : Value).ownBlock) ho0 (fun k_ hk_ => ⟨(Nat.le_trans (below_size (bB)) hk_), (Kd.fresh' (Kd.R_lt (by (with_reducible repeat (first | apply Kd.R_alloc | apply Kd.R_drewN | apply Kd.R_drew)); exact HO_4.out)) k_ hk_), (Kd.fresh' (Kd.R_lt (by (with_reducible repeat (first | apply Kd.R_alloc | apply Kd.R_drewN | apply Kd.R_drew)); exact HO_10.out)) k_ hk_)⟩)) (below_size (bB))); have n6_ := Aside0.mk (below_step (bB) hb); clear HO_4; clear HO_9; clear HO_10; clear HO212; clear HO215; clear HB; have HO_4 := n0_; have HO_9 := n1_; have HO_10 := n2_; have HO212 := n3_; have HO215 := n4_; have HO218 := n5_; have HB := n6_; clear n0_ n1_ n2_ n3_ n4_ n5_ n6_; (try clear hb); (try clear hb2); (try clear hk); (try clear hi); (try clear ho0)))
                repeat (go_quiet (first | (go_at_call 66; (with_reducible refine (mag_Trim.calls k1 (fun k_ => some k_ = (.slice Ao83 x4_1.length co83 : Value).ownBlock) _ _ x4_1 t210 _ ?side1 A80.out).mono ?_); (case side1 => exact Kd.R_V (Kd.R_tight rfl (HO_4.out))); rintro e w84 ⟨v211, rfl, ho0, hb⟩; have n0_ := Aside0.mk (Kd.R_below (by (with_reducible repeat (first | apply Kd.R_alloc | apply Kd.R_drewN | apply Kd.R_drew)); exact HO_4.out) hb); have n1_ := Aside0.mk (Kd.V_below (by (with_reducible repeat (first | apply Kd.V_alloc | apply Kd.V_drewN | apply Kd.V_drew)); exact HO_9.out) hb); have n2_ := Aside0.mk (Kd.R_below (by (with_reducible repeat (first | apply Kd.R_alloc | apply Kd.R_drewN | apply Kd.R_drew)); exact HO_10.out) hb); have n3_ := Aside0.mk (Kd.V_lower (Kd.V_mono (ok' := fun k_ => (w.heap.size ≤ k_) ∧ some k_ ≠ (.slice Ao36 x10_1.length co36 : Value).ownBlock) ho0 (fun k_ hk_ => ⟨Or.elim hk_ (fun hs_ => ((HO_4.out).1 k_ hs_.symm).1) (fun hn_ => (Nat.le_trans (below_size (bB)) hn_)), Or.elim hk_ (fun hs_ => ((HO_4.out).1 k_ hs_.symm).2) (fun hn_ => (Kd.fresh' (Kd.R_lt (by (with_reducible repeat (first | apply Kd.R_alloc | apply Kd.R_drewN | apply Kd.R_drew)); exact HO_10.out)) k_ hn_))⟩)) (below_size (bB))); have n4_ := Aside0.mk (below_step (bB) hb); clear HO_4; clear HO_9; clear HO_10; clear HB; have HO_4 := n0_; have HO_9 := n1_; have HO_10 := n2_; have HO212 := n3_; have HB := n4_; clear n0_ n1_ n2_ n3_ n4_; (try clear hb); (try clear hb2); (try clear hk); (try clear hi); (try clear ho0)) | (go_at_call 66; (with_reducible refine (mag_Trim.calls k1 (fun k_ => some k_ = (.slice Ao36 x10_1.length co36 : Value).ownBlock) _ _ x10_1 t213 _ ?side1 A81.out).mono ?_); (case side1 => exact Kd.R_V (Kd.R_tight rfl (HO_10.out))); rintro e w85 ⟨v214, rfl, ho0, hb⟩; have n0_ := Aside0.mk (Kd.R_below (by (with_reducible repeat (first | apply Kd.R_alloc | apply Kd.R_drewN | apply Kd.R_drew)); exact HO_4.out) hb); have n1_ := Aside0.mk (Kd.V_below (by (with_reducible repeat (first | apply Kd.V_alloc | apply Kd.V_drewN | apply Kd.V_drew)); exact HO_9.out) hb); have n2_ := Aside0.mk (Kd.R_below (by (with_reducible repeat (first | apply Kd.R_alloc | apply Kd.R_drewN | apply Kd.R_drew)); exact HO_10.out) hb); have n3_ := Aside0.mk (Kd.V_below (by (with_reducible repeat (first | apply Kd.V_alloc | apply Kd.V_drewN | apply Kd.V_drew)); exact HO212.out) hb); have n4_ := Aside0.mk (Kd.V_lower (Kd.V_mono (ok' := fun k_ => (w.heap.size ≤ k_) ∧ some k_ ≠ (.slice Ao83 x4_1.length co83 : Value).ownBlock) ho0 (fun k_ hk_ => ⟨Or.elim hk_ (fun hs_ => ((HO_10.out).1 k_ hs_.symm).1) (fun hn_ => (Nat.le_trans (below_size (bB)) hn_)), Or.elim hk_ (fun hs_ => ((HO_10.out).1 k_ hs_.symm).2) (fun hn_ => (Kd.fresh' (Kd.R_lt (by (with_reducible repeat (first | apply Kd.R_alloc | apply Kd.R_drewN | apply Kd.R_drew)); exact HO_4.out)) k_ hn_))⟩)) (below_size (bB))); have n5_ := Aside0.mk (below_step (bB) hb); clear HO_4; clear HO_9; clear HO_10; clear HO212; clear HB; have HO_4 := n0_; have HO_9 := n1_; have HO_10 := n2_; have HO212 := n3_; have HO215 := n4_; have HB := n5_; clear n0_ n1_ n2_ n3_ n4_ n5_; (try clear hb); (try clear hb2); (try clear hk); (try clear hi); (try clear ho0); obtain ⟨Ao86, co86, eo86⟩ := Kd.V_slice HO215.out; subst eo86) | (go_at_call 49; (with_reducible refine (mag_Shr.calls k1 _ _ t213 t194 t216 _ ?side1 ?side2 A82.out).mono ?_); (case side1 => repeat (first | exact (Kd.V_reads' HO215.out).2.2 | (with_reducible refine Kd.C_alloc ?_ _) | (with_reducible refine Kd.C_drewN ?_ _) | (with_reducible refine Kd.C_drew ?_))); (case side2 => exact (Kd.V_reads' HO215.out).2.1); rintro e w87 ⟨v217, rfl, ho0, hb⟩; have n0_ := Aside0.mk (Kd.R_below (by (with_reducible repeat (first | apply Kd.R_alloc | apply Kd.R_drewN | apply Kd.R_drew)); exact HO_4.out) hb); have n1_ := Aside0.mk (Kd.V_below (by (with_reducible repeat (first | apply Kd.V_alloc | apply Kd.V_drewN | apply Kd.V_drew)); exact HO_9.out) hb); have n2_ := Aside0.mk (Kd.R_below (by (with_reducible repeat (first | apply Kd.R_alloc | apply Kd.R_drewN | apply Kd.R_drew)); exact HO_10.out) hb); have n3_ := Aside0.mk (Kd.V_below (by (with_reducible repeat (first | apply Kd.V_alloc | apply Kd.V_drewN | apply Kd.V_drew)); exact HO212.out) hb); have n4_ := Aside0.mk (Kd.V_below (by (with_reducible repeat (first | apply Kd.V_alloc | apply Kd.V_drewN | apply Kd.V_drew)); exact HO215.out) hb); have n5_ := Aside0.mk (Kd.V_lower (Kd.V_mono (ok' := fun k_ => (w.heap.size ≤ k_) ∧ some k_ ≠ (.slice Ao83 x4_1.length co83 : Value).ownBlock ∧ some k_ ≠ (.slice Ao36 x10_1.length co36 : Value).ownBlock) ho0 (fun k_ hk_ => ⟨(Nat.le_trans (below_size (bB)) hk_), (Kd.fresh' (Kd.R_lt (by (with_reducible repeat (first | apply Kd.R_alloc | apply Kd.R_drewN | apply Kd.R_drew)); exact HO_4.out)) k_ hk_), (Kd.fresh' (Kd.R_lt (by (with_reducible repeat (first | apply Kd.R_alloc | apply Kd.R_drewN | apply Kd.R_drew)); exact HO_10.out)) k_ hk_)⟩)) (below_size (bB))); have n6_ := Aside0.mk (below_step (bB) hb); clear HO_4; clear HO_9; clear HO_10; clear HO212; clear HO215; clear HB; have HO_4 := n0_; have HO_9 := n1_; have HO_10 := n2_; have HO212 := n3_; have HO215 := n4_; have HO218 := n5_; have HB := n6_; clear n0_ n1_ n2_ n3_ n4_ n5_ n6_; (try clear hb); (try clear hb2); (try clear hk); (try clear hi); (try clear ho0))); try go_wp2_with (first | (go_at_call 66; (with_reducible refine (mag_Trim.calls k1 (fun k_ => some k_ = (.slice Ao83 x4_1.length co83 : Value).ownBlock) _ _ x4_1 t210 _ ?side1 A80.out).mono ?_); (case side1 => exact Kd.R_V (Kd.R_tight rfl (HO_4.out))); rintro e w84 ⟨v211, rfl, ho0, hb⟩; have n0_ := Aside0.mk (Kd.R_below (by (with_reducible repeat (first | apply Kd.R_alloc | apply Kd.R_drewN | apply Kd.R_drew)); exact HO_4.out) hb); have n1_ := Aside0.mk (Kd.V_below (by (with_reducible repeat (first | apply Kd.V_alloc | apply Kd.V_drewN | apply Kd.V_drew)); exact HO_9.out) hb); have n2_ := Aside0.mk (Kd.R_below (by (with_reducible repeat (first | apply Kd.R_alloc | apply Kd.R_drewN | apply Kd.R_drew)); exact HO_10.out) hb); have n3_ := Aside0.mk (Kd.V_lower (Kd.V_mono (ok' := fun k_ => (w.heap.size ≤ k_) ∧ some k_ ≠ (.slice Ao36 x10_1.length co36 : Value).ownBlock) ho0 (fun k_ hk_ => ⟨Or.elim hk_ (fun hs_ => ((HO_4.out).1 k_ hs_.symm).1) (fun hn_ => (Nat.le_trans (below_size (bB)) hn_)), Or.elim hk_ (fun hs_ => ((HO_4.out).1 k_ hs_.symm).2) (fun hn_ => (Kd.fresh' (Kd.R_lt (by (with_reducible repeat (first | apply Kd.R_alloc | apply Kd.R_drewN | apply Kd.R_drew)); exact HO_10.out)) k_ hn_))⟩)) (below_size (bB))); have n4_ := Aside0.mk (below_step (bB) hb); clear HO_4; clear HO_9; clear HO_10; clear HB; have HO_4 := n0_; have HO_9 := n1_; have HO_10 := n2_; have HO212 := n3_; have HB := n4_; clear n0_ n1_ n2_ n3_ n4_; (try clear hb); (try clear hb2); (try clear hk); (try clear hi); (try clear ho0)) | (go_at_call 66; (with_reducible refine (mag_Trim.calls k1 (fun k_ => some k_ = (.slice Ao36 x10_1.length co36 : Value).ownBlock) _ _ x10_1 t213 _ ?side1 A81.out).mono ?_); (case side1 => exact Kd.R_V (Kd.R_tight rfl (HO_10.out))); rintro e w85 ⟨v214, rfl, ho0, hb⟩; have n0_ := Aside0.mk (Kd.R_below (by (with_reducible repeat (first | apply Kd.R_alloc | apply Kd.R_drewN | apply Kd.R_drew)); exact HO_4.out) hb); have n1_ := Aside0.mk (Kd.V_below (by (with_reducible repeat (first | apply Kd.V_alloc | apply Kd.V_drewN | apply Kd.V_drew)); exact HO_9.out) hb); have n2_ := Aside0.mk (Kd.R_below (by (with_reducible repeat (first | apply Kd.R_alloc | apply Kd.R_drewN | apply Kd.R_drew)); exact HO_10.out) hb); have n3_ := Aside0.mk (Kd.V_below (by (with_reducible repeat (first | apply Kd.V_alloc | apply Kd.V_drewN | apply Kd.V_drew)); exact HO212.out) hb); have n4_ := Aside0.mk (Kd.V_lower (Kd.V_mono (ok' := fun k_ => (w.heap.size ≤ k_) ∧ some k_ ≠ (.slice Ao83 x4_1.length co83 : Value).ownBlock) ho0 (fun k_ hk_ => ⟨Or.elim hk_ (fun hs_ => ((HO_10.out).1 k_ hs_.symm).1) (fun hn_ => (Nat.le_trans (below_size (bB)) hn_)), Or.elim hk_ (fun hs_ => ((HO_10.out).1 k_ hs_.symm).2) (fun hn_ => (Kd.fresh' (Kd.R_lt (by (with_reducible repeat (first | apply Kd.R_alloc | apply Kd.R_drewN | apply Kd.R_drew)); exact HO_4.out)) k_ hn_))⟩)) (below_size (bB))); have n5_ := Aside0.mk (below_step (bB) hb); clear HO_4; clear HO_9; clear HO_10; clear HO212; clear HB; have HO_4 := n0_; have HO_9 := n1_; have HO_10 := n2_; have HO212 := n3_; have HO215 := n4_; have HB := n5_; clear n0_ n1_ n2_ n3_ n4_ n5_; (try clear hb); (try clear hb2); (try clear hk); (try clear hi); (try clear ho0); obtain ⟨Ao86, co86, eo86⟩ := Kd.V_slice HO215.out; subst eo86) | (go_at_call 49; (with_reducible refine (mag_Shr.calls k1 _ _ t213 t194 t216 _ ?side1 ?side2 A82.out).mono ?_); (case side1 => repeat (first | exact (Kd.V_reads' HO215.out).2.2 | (with_reducible refine Kd.C_alloc ?_ _) | (with_reducible refine Kd.C_drewN ?_ _) | (with_reducible refine Kd.C_drew ?_))); (case side2 => exact (Kd.V_reads' HO215.out).2.1); rintro e w87 ⟨v217, rfl, ho0, hb⟩; have n0_ := Aside0.mk (Kd.R_below (by (with_reducible repeat (first | apply Kd.R_alloc | apply Kd.R_drewN | apply Kd.R_drew)); exact HO_4.out) hb); have n1_ := Aside0.mk (Kd.V_below (by (with_reducible repeat (first | apply Kd.V_alloc | apply Kd.V_drewN | apply Kd.V_drew)); exact HO_9.out) hb); have n2_ := Aside0.mk (Kd.R_below (by (with_reducible repeat (first | apply Kd.R_alloc | apply Kd.R_drewN | apply Kd.R_drew)); exact HO_10.out) hb); have n3_ := Aside0.mk (Kd.V_below (by (with_reducible repeat (first | apply Kd.V_alloc | apply Kd.V_drewN | apply Kd.V_drew)); exact HO212.out) hb); have n4_ := Aside0.mk (Kd.V_below (by (with_reducible repeat (first | apply Kd.V_alloc | apply Kd.V_drewN | apply Kd.V_drew)); exact HO215.out) hb); have n5_ := Aside0.mk (Kd.V_lower (Kd.V_mono (ok' := fun k_ => (w.heap.size ≤ k_) ∧ some k_ ≠ (.slice Ao83 x4_1.length co83 : Value).ownBlock ∧ some k_ ≠ (.slice Ao36 x10_1.length co36 : Value).ownBlock) ho0 (fun k_ hk_ => ⟨(Nat.le_trans (below_size (bB)) hk_), (Kd.fresh' (Kd.R_lt (by (with_reducible repeat (first | apply Kd.R_alloc | apply Kd.R_drewN | apply Kd.R_drew)); exact HO_4.out)) k_ hk_), (Kd.fresh' (Kd.R_lt (by (with_reducible repeat (first | apply Kd.R_alloc | apply Kd.R_drewN | apply Kd.R_drew)); exact HO_10.out)) k_ hk_)⟩)) (below_size (bB))); have n6_ := Aside0.mk (below_step (bB) hb); clear HO_4; clear HO_9; clear HO_10; clear HO212; clear HO215; clear HB; have HO_4 := n0_; have HO_9 := n1_; have HO_10 := n2_; have HO212 := n3_; have HO215 := n4_; have HO218 := n5_; have HB := n6_; clear n0_ n1_ n2_ n3_ n4_ n5_ n6_; (try clear hb); (try clear hb2); (try clear hk); (try clear hi); (try clear ho0))))
                go_ret2
                exact ⟨_, _, by first | rfl | (simp [errW_none, errW_some] <;> rfl) | (simp only [← hji13, ← hji18, ← hji22, ← hji25, ← hji28]; first | rfl | (simp [errW_none, errW_some] <;> rfl)) | (simp [*, errW_none, errW_some] <;> rfl), by (with_reducible repeat (first | apply Kd.V_alloc | apply Kd.V_drewN | apply Kd.V_drew)); exact Kd.V_mono HO212.out (fun _ hk => hk.1), by (with_reducible repeat (first | apply Kd.V_alloc | apply Kd.V_drewN | apply Kd.V_drew)); exact Kd.V_mono HO218.out (fun _ hk => hk.1), by repeat (first | (with_reducible first | exact HB.out | apply below_alloc | apply pw_below_drewN | apply below_drew1) | exact HB.out)⟩
            ·rw [if_neg c30] at H
             exact absurd H (by simp)
           ·rw [if_neg c29] at H
            exact absurd H (by simp)
          ·rw [if_neg c27] at H
           exact absurd H (by simp)
         ·rw [if_neg c26] at H
          exact absurd H (by simp)
        ·rw [if_neg c24] at H
         exact absurd H (by simp)
       ·rw [if_neg c23] at H
        exact absurd H (by simp)
      ·rw [if_neg c20] at H
       exact absurd H (by simp)
     ·rw [if_neg c19] at H
      exact absurd H (by simp)
    ·rw [if_neg c15] at H
     exact absurd H (by simp)
   ·rw [if_neg c14] at H
    exact absurd H (by simp)
end Go.Proofs.Ytfmobogdnlmdbaa.P
end
section
namespace Go.Proofs.Ytfmobogdnlmdbaa.P
open Go.RowKit Go.Proofs.YtfmobogdnlmdbaaW.PrintWords Go.Proofs.YtfmobogdnlmdbaaW.PrintLast Go.Proofs.YtfmobogdnlmdbaaW.PrintMore Go.Proofs.YtfmobogdnlmdbaaW
attribute [local go_sem] max2_int min2_int max_two min_two max_three min_three max_four min_four
set_option linter.unusedVariables false
set_option linter.unusedSimpArgs false
set_option maxHeartbeats 8000000 in
set_option maxRecDepth 100000 in
theorem mag_Small.calls (A0 : Option Addr) (c0 : Nat) (l0 : List Int) (r1 : Int) (r2 : Bool) (w : World) (hr0 : Kd.C (Kd.int .u32) w A0 l0.length l0) (hc0 : l0.length ≤ c0) (h : mag_Small.f l0 = some (r1, r2)) :
  Calls Try.prog 60 #[.slice A0 l0.length c0] w fun e w' => e = .returned (.tuple #[.int .u64 r1, .bool r2]) ∧ Drawn0 w w' := by
 have HR0 := Aside0.mk hr0
 have HC0 := Aside0.mk hc0
 clear hr0 hc0
 have H : (if (l0.length : Int) = 0 then (some (0, true)) else (if (l0.length : Int) = 1 then (if 0 < (l0.length : Int) then (some (IntKind.u64.wrap (rd l0 0), true)) else (none)) else (if (l0.length : Int) = 2 then (if 1 < (l0.length : Int) then (if 0 < (l0.length : Int) then (some (Go.bits .or .u64 (IntKind.u64.wrap ((IntKind.u64.wrap (rd l0 1)) * 4294967296)) (IntKind.u64.wrap (rd l0 0)), true)) else (none)) else (none)) else (some (0, false))))) = some (r1, r2) := h
 clear h
 by_cases c2 : (l0.length : Int) = 0
 ·rw [if_pos c2] at H
  have c2b0 : ((l0.length : Int) == 0) = true := beq_iff_eq.mpr c2
  have c2b1 : ((l0.length : Int) != 0) = false := bne_eq_false_iff_eq.mpr c2
  clear c2
  simp only [Option.some.injEq, Prod.mk.injEq] at H
  obtain ⟨rfl, rfl⟩ := H
  go_enter Try.func60, Try.ntmps60
  go_wp2
  repeat (go_quiet (fail); try go_wp2)
  go_ret2
  exact ⟨by first | rfl | (simp; done) | (simp [*]; done), by repeat (first | exact Drawn0.refl _ | apply Drawn0.step)⟩
 ·rw [if_neg c2] at H
  have c2b0 : ((l0.length : Int) == 0) = false := beq_eq_false_iff_ne.mpr c2
  have c2b1 : ((l0.length : Int) != 0) = true := bne_iff_ne.mpr c2
  have c2b2 : ¬ (l0 = []) := fun h_ => c2 (by rw [h_]; rfl)
  by_cases c3 : (l0.length : Int) = 1
  ·rw [if_pos c3] at H
   have c3b0 : ((l0.length : Int) == 1) = true := beq_iff_eq.mpr c3
   have c3b1 : ((l0.length : Int) != 1) = false := bne_eq_false_iff_eq.mpr c3
   clear c3
   by_cases c4 : 0 < (l0.length : Int)
   ·rw [if_pos c4] at H
    have c4b0 : decide (0 < (l0.length : Int)) = true := decide_eq_true c4
    have c4b1 : decide (0 < l0.length) = true := decide_eq_true (by omega)
    clear c4
    simp only [Option.some.injEq, Prod.mk.injEq] at H
    obtain ⟨rfl, rfl⟩ := H
    have p229 : 0 ≤ (0 : Int) := (by omega)
    have q229 : 0 < (l0.length : Int) := of_decide_eq_true aS
    obtain ⟨ad229, e229, hx229_0⟩ := Kd.at_int HR0.out 0 p229 q229
    cases e229
    have qi229 : (0 < l0.length) = True := eq_true (by omega)
    (try rw [show ((0 : Int)).toNat = 0 from rfl] at hx229_0)
    (try rw [Addr.add_zero'] at hx229_0)
    replace p229 := eq_true p229
    replace q229 := eq_true q229
    go_enter Try.func60, Try.ntmps60
    go_wp2
    repeat (go_quiet (fail); try go_wp2)
    go_ret2
    exact ⟨by first | rfl | (simp; done) | (simp [*]; done), by repeat (first | exact Drawn0.refl _ | apply Drawn0.step)⟩
   ·rw [if_neg c4] at H
    exact absurd H (by simp)
  ·rw [if_neg c3] at H
   have c3b0 : ((l0.length : Int) == 1) = false := beq_eq_false_iff_ne.mpr c3
   have c3b1 : ((l0.length : Int) != 1) = true := bne_iff_ne.mpr c3
   by_cases c5 : (l0.length : Int) = 2
   ·rw [if_pos c5] at H
    have c5b0 : ((l0.length : Int) == 2) = true := beq_iff_eq.mpr c5
    have c5b1 : ((l0.length : Int) != 2) = false := bne_eq_false_iff_eq.mpr c5
    clear c5
    by_cases c6 : 1 < (l0.length : Int)
    ·rw [if_pos c6] at H
     have c6b0 : decide (1 < (l0.length : Int)) = true := decide_eq_true c6
     have c6b1 : decide (1 < l0.length) = true := decide_eq_true (by omega)
     clear c6
     by_cases c7 : 0 < (l0.length : Int)
     ·rw [if_pos c7] at H
      have c7b0 : decide (0 < (l0.length : Int)) = true := decide_eq_true c7
      have c7b1 : decide (0 < l0.length) = true := decide_eq_true (by omega)
      clear c7
      simp only [Option.some.injEq, Prod.mk.injEq] at H
      obtain ⟨rfl, rfl⟩ := H
      have p230 : 0 ≤ (1 : Int) := (by omega)
      have q230 : 1 < (l0.length : Int) := of_decide_eq_true aS
      obtain ⟨ad230, e230, hx230_0⟩ := Kd.at_int HR0.out 1 p230 q230
      cases e230
      (try simp only [show (1 : Int).toNat = 1 from rfl, Nat.reduceMul, Nat.reduceEqDiff, Go.Addr.add, ↓reduceIte] at hx230_0)
      have qi230 : (1 < l0.length) = True := eq_true (by omega)
      (try rw [show ((1 : Int)).toNat = 1 from rfl] at hx230_0)
      replace p230 := eq_true p230
      replace q230 := eq_true q230
      have p231 : 0 ≤ (0 : Int) := (by omega)
      have q231 : 0 < (l0.length : Int) := of_decide_eq_true aS
      obtain ⟨ad231, e231, hx231_0⟩ := Kd.at_int HR0.out 0 p231 q231
      obtain rfl : ad230 = ad231 := (by injection e231)
      have qi231 : (0 < l0.length) = True := eq_true (by omega)
      (try rw [show ((0 : Int)).toNat = 0 from rfl] at hx231_0)
      (try rw [Addr.add_zero'] at hx231_0)
      replace p231 := eq_true p231
      replace q231 := eq_true q231
      go_enter Try.func60, Try.ntmps60
      go_wp2
      repeat (go_quiet (fail); try go_wp2)
      go_ret2
      exact ⟨by first | rfl | (simp; done) | (simp [*]; done), by repeat (first | exact Drawn0.refl _ | apply Drawn0.step)⟩
     ·rw [if_neg c7] at H
      exact absurd H (by simp)
    ·rw [if_neg c6] at H
     exact absurd H (by simp)
   ·rw [if_neg c5] at H
    have c5b0 : ((l0.length : Int) == 2) = false := beq_eq_false_iff_ne.mpr c5
    have c5b1 : ((l0.length : Int) != 2) = true := bne_iff_ne.mpr c5
    simp only [Option.some.injEq, Prod.mk.injEq] at H
    obtain ⟨rfl, rfl⟩ := H
    go_enter Try.func60, Try.ntmps60
    go_wp2
    repeat (go_quiet (fail); try go_wp2)
    go_ret2
    exact ⟨by first | rfl | (simp; done) | (simp [*]; done), by repeat (first | exact Drawn0.refl _ | apply Drawn0.step)⟩
end Go.Proofs.Ytfmobogdnlmdbaa.P
end
section
namespace Go.Proofs.Ytfmobogdnlmdbaa.P
open Go.RowKit Go.Proofs.YtfmobogdnlmdbaaW.PrintWords Go.Proofs.YtfmobogdnlmdbaaW.PrintLast Go.Proofs.YtfmobogdnlmdbaaW.PrintMore Go.Proofs.YtfmobogdnlmdbaaW
attribute [local go_sem] max2_int min2_int max_two min_two max_three min_three max_four min_four
set_option linter.unusedVariables false
set_option linter.unusedSimpArgs false
theorem nat_digits.tab8 : rtab .any (opsOf Try.f61 8) = nat_digits.T8 := by kernel_rfl
theorem nat_digits.bits8 : waitsOk nat_digits.T8.2 nat_digits.B8 = true := by kernel_rfl
set_option maxHeartbeats 8000000 in
set_option maxRecDepth 100000 in
theorem nat_digits.calls (k : Nat) (a0 : Int) (a1 : Int) (r : List Int) (w : World) (h : nat_digits.f k a0 a1 = some r) :
  Calls Try.prog 61 #[.int .u64 a0, .int .i64 a1] w fun e w' => ∃ v0_ : Value, e = .returned (v0_) ∧ Kd.R (Kd.int .u8) 5 w' w.heap.size (fun _ => True) v0_ r ∧ Below w.heap.size w w' := by
 have HB := Aside0.mk (Below.refl w.heap.size w)
 have H : (nat_digits.l0 k a0 a1 ([] : List Int)) = some r := h
 clear h
 have H' := Aside0.mk H
 clear H
 go_enter Try.func61, Try.ntmps61
 go_wp2
 go_loopg [0, 5] k (fun kq v0 v5 w' => ∃ (x0_1 : Int) (x5_1 : List Int), v0 = .int .u64 x0_1 ∧ Aside0 (nat_digits.l0 kq x0_1 a1 x5_1 = some r) ∧ Aside0 (kq ≤ k) ∧ Aside0 (Kd.R (Kd.int .u8) 5 w' w.heap.size (fun _ => True) v5 x5_1) ∧ Aside0 (Below w.heap.size w w'))
 case atStart => exact ⟨(a0), (([] : List Int)), (by first | rfl | (simp; done) | (simp [*]; done)), H', ⟨Nat.le_refl _⟩, ⟨by first | exact Kd.R_nil _ _ _ _ _ | exact Kd.N_nil _ _ _ _ _ | exact Kd.V_nil _ _ _ _ _ | exact Kd.Q_nil _ _ _ _ _ | exact Kd.S_nil _ _ _ _ _⟩, ⟨by repeat (first | (with_reducible first | exact HB.out | apply below_alloc | apply pw_below_drewN | apply below_drew1) | exact HB.out)⟩⟩
 case round =>
  clear H'
  try clear p2
  obtain ⟨x0_1, x5_1, rfl, HA, HK1, HO_5, HB⟩ := hrel
  cases gk with
  | zero => exact absurd HA.out (by simp [nat_digits.l0])
  | succ k1 =>
   have H := HA.out
   clear HA
   simp only [nat_digits.l0] at H
   by_cases c3 : x0_1 > 0
   ·rw [if_pos c3] at H
    have c3b0 : decide (0 < x0_1) = true := decide_eq_true c3
    clear c3
    by_cases c4 : x5_1.length < 140737488355328
    ·rw [if_pos c4] at H
     have LMc4 := Aside0.mk c4
     clear c4
     obtain ⟨y232, hy232⟩ : ∃ y_ : List Int, y_ = (x5_1 ++ [(IntKind.u64.wrap (48 + (Int.tmod x0_1 10))) % 256]) := ⟨_, rfl⟩
     replace H : (nat_digits.l0 k1 (IntKind.u64.wrap (Int.tdiv x0_1 10)) a1 y232) = some r := by first | (rw [hy232]; with_reducible exact H) | (have H2_ := (Option.bind_some _ _).symm.trans H; rw [hy232]; with_reducible exact H2_) | (have H2_ := (Option.bind_some _ _).symm.trans H; with_reducible exact H2_) | with_reducible exact H | (rw [hy232]; exact H) | exact H
     have Ny232 := Aside0.mk hy232
     clear hy232
     have H' := Aside0.mk H
     clear H
     go_wp2_with (first | ((with_reducible refine gate_builtin (b := .append) (xs := #[.tmp 16, .tmp 21]) rfl ?_); (try (refine gate_guard (by rfl) ?_; dsimp only)); at_builtin; refine Kd.R_append (Kd.int .u8) (w0 := w) w.heap.size rfl (.tmp 16) (.tmp 21) 79 5 (.int .u8 0) 1 rfl Try.underlying79 info5 rfl (by decide) (by omega) u5 x5_1 ((IntKind.u64.wrap (48 + (Int.tmod x0_1 10))) % 256) [.int .u8 _] (fun _ => True) (fun _ => False) rfl (by first | rfl | (go_simp; done) | (go_simp; rfl)) ?aP (fun _ hk => hk.elim) ?aF ?aO ?aB ?aS ?aL ?_; (case aP => first | exact rfl | (show [Value.int _ _] = [Value.int _ _]; simp)); (case aB => exact (bB)); (case aF => exact (fun _ _ => trivial)); (case aO => exact (by (with_reducible repeat (first | apply Kd.R_alloc | apply Kd.R_drewN | apply Kd.R_drew)); exact HO_5.out)); (case aS => exact (below_size (bB))); (case aL => have := LMc4.out; omega); intro v233 w5 ho hb hg hat; rw [← Ny232.out] at ho; have n0_ := Aside0.mk (hb); have n1_ := Aside0.mk (ho); clear HB; clear HO_5; have HB := n0_; have HO234 := n1_; clear n0_ n1_; clear ho hb hg hat))
     go_roundg k1
     case measure => have := HK1.out; omega
     case rel => exact ⟨(IntKind.u64.wrap (Int.tdiv x0_1 10)), (y232), (by first | rfl | (simp; done) | (simp [*]; done)), H', ⟨by have := HK1.out; omega⟩, ⟨by (with_reducible repeat (first | apply Kd.R_alloc | apply Kd.R_drewN | apply Kd.R_drew)); exact HO234.out⟩, ⟨by repeat (first | (with_reducible first | exact HB.out | apply below_alloc | apply pw_below_drewN | apply below_drew1) | exact HB.out)⟩⟩
    ·rw [if_neg c4] at H
     exact absurd H (by simp)
   ·rw [if_neg c3] at H
    have c3b0 : decide (0 < x0_1) = false := decide_eq_false c3
    clear c3
    by_cases c6 : (x5_1.length : Int) < a1
    ·rw [if_pos c6] at H
     have c6b0 : decide ((x5_1.length : Int) < a1) = true := decide_eq_true c6
     clear c6
     by_cases c7 : x5_1.length < 140737488355328
     ·rw [if_pos c7] at H
      have LMc7 := Aside0.mk c7
      clear c7
      obtain ⟨y235, hy235⟩ : ∃ y_ : List Int, y_ = (x5_1 ++ [(IntKind.u64.wrap (48 + (Int.tmod x0_1 10))) % 256]) := ⟨_, rfl⟩
      replace H : (nat_digits.l0 k1 (IntKind.u64.wrap (Int.tdiv x0_1 10)) a1 y235) = some r := by first | (rw [hy235]; with_reducible exact H) | (have H2_ := (Option.bind_some _ _).symm.trans H; rw [hy235]; with_reducible exact H2_) | (have H2_ := (Option.bind_some _ _).symm.trans H; with_reducible exact H2_) | with_reducible exact H | (rw [hy235]; exact H) | exact H
      have Ny235 := Aside0.mk hy235
      clear hy235
      have H' := Aside0.mk H
      clear H
      obtain ⟨Ao8, co8, eo8⟩ := Kd.R_slice HO_5.out
      subst eo8
      go_wp2_with (first | ((with_reducible refine gate_builtin (b := .append) (xs := #[.tmp 16, .tmp 21]) rfl ?_); (try (refine gate_guard (by rfl) ?_; dsimp only)); at_builtin; refine Kd.R_append (Kd.int .u8) (w0 := w) w.heap.size rfl (.tmp 16) (.tmp 21) 79 5 (.int .u8 0) 1 rfl Try.underlying79 info5 rfl (by decide) (by omega) (.slice Ao8 x5_1.length co8) x5_1 ((IntKind.u64.wrap (48 + (Int.tmod x0_1 10))) % 256) [.int .u8 _] (fun _ => True) (fun _ => False) rfl (by first | rfl | (go_simp; done) | (go_simp; rfl)) ?aP (fun _ hk => hk.elim) ?aF ?aO ?aB ?aS ?aL ?_; (case aP => first | exact rfl | (show [Value.int _ _] = [Value.int _ _]; simp)); (case aB => exact (bB)); (case aF => exact (fun _ _ => trivial)); (case aO => exact (by (with_reducible repeat (first | apply Kd.R_alloc | apply Kd.R_drewN | apply Kd.R_drew)); exact HO_5.out)); (case aS => exact (below_size (bB))); (case aL => have := LMc7.out; omega); intro v236 w9 ho hb hg hat; rw [← Ny235.out] at ho; have n0_ := Aside0.mk (hb); have n1_ := Aside0.mk (ho); clear HB; clear HO_5; have HB := n0_; have HO237 := n1_; clear n0_ n1_; clear ho hb hg hat))
      go_roundg k1
      case measure => have := HK1.out; omega
      case rel => exact ⟨(IntKind.u64.wrap (Int.tdiv x0_1 10)), (y235), (by first | rfl | (simp; done) | (simp [*]; done)), H', ⟨by have := HK1.out; omega⟩, ⟨by (with_reducible repeat (first | apply Kd.R_alloc | apply Kd.R_drewN | apply Kd.R_drew)); exact HO237.out⟩, ⟨by repeat (first | (with_reducible first | exact HB.out | apply below_alloc | apply pw_below_drewN | apply below_drew1) | exact HB.out)⟩⟩
     ·rw [if_neg c7] at H
      exact absurd H (by simp)
    ·rw [if_neg c6] at H
     have c6b0 : decide ((x5_1.length : Int) < a1) = false := decide_eq_false c6
     clear c6
     have H' := Aside0.mk H
     clear H
     obtain ⟨Ao10, co10, eo10⟩ := Kd.R_slice HO_5.out
     subst eo10
     go_wp2
     go_loopg [6, 7] k1 (fun kq v6 v7 w' => ∃ (x5_2 : List Int) (x6_2 : Int) (x7_2 : Int), v6 = .int .i64 x6_2 ∧ v7 = .int .i64 x7_2 ∧ Aside0 (nat_digits.l1 kq x5_2 x6_2 x7_2 = some r) ∧ Aside0 (kq ≤ k1) ∧ Aside0 (Kd.R (Kd.int .u8) 5 w' w.heap.size (fun _ => True) (.slice Ao10 x5_1.length co10) x5_2) ∧ Aside0 (Below w.heap.size w w'))
     case atStart => exact ⟨(x5_1), (0), (wrap64 ((x5_1.length : Int) - 1)), (by first | rfl | (simp; done) | (simp [*]; done)), (by first | rfl | (simp; done) | (simp [*]; done)), H', ⟨Nat.le_refl _⟩, ⟨by (with_reducible repeat (first | apply Kd.R_alloc | apply Kd.R_drewN | apply Kd.R_drew)); exact HO_5.out⟩, ⟨by repeat (first | (with_reducible first | exact HB.out | apply below_alloc | apply pw_below_drewN | apply below_drew1) | exact HB.out)⟩⟩
     case round =>
      clear H'
      try clear p2
      try clear c3
      try clear c3b0
      try clear c4
      try clear c6
      try clear c6b0
      try clear p6
      try clear c7
      try clear p2
      obtain ⟨x5_2, x6_2, x7_2, rfl, rfl, HA, HK2, HO_5, HB⟩ := hrel
      have hl5_2 := (Kd.R_reads' HO_5.out).1
      rw [hl5_2] at HO_5
      (try simp only [hl5_2])
      cases gk with
      | zero => exact absurd HA.out (by simp [nat_digits.l1])
      | succ k2 =>
       have H := HA.out
       clear HA
       simp only [nat_digits.l1] at H
       by_cases c11 : x6_2 < x7_2
       ·rw [if_pos c11] at H
        have c11b0 : decide (x6_2 < x7_2) = true := decide_eq_true c11
        clear c11
        by_cases c12 : 0 ≤ x7_2
        ·rw [if_pos c12] at H
         have c12b0 : decide (0 ≤ x7_2) = true := decide_eq_true c12
         clear c12
         by_cases c13 : x7_2 < (x5_2.length : Int)
         ·rw [if_pos c13] at H
          have c13b0 : decide (x7_2 < (x5_2.length : Int)) = true := decide_eq_true c13
          clear c13
          have c13bh := c13b0
          (try simp only [hl5_2] at c13bh)
          by_cases c14 : 0 ≤ x6_2
          ·rw [if_pos c14] at H
           have c14b0 : decide (0 ≤ x6_2) = true := decide_eq_true c14
           clear c14
           by_cases c15 : x6_2 < (x5_2.length : Int)
           ·rw [if_pos c15] at H
            have c15b0 : decide (x6_2 < (x5_2.length : Int)) = true := decide_eq_true c15
            clear c15
            have c15bh := c15b0
            (try simp only [hl5_2] at c15bh)
            obtain ⟨y240, hy240⟩ : ∃ y_ : List Int, y_ = (x5_2.set (x6_2 : Int).toNat (rd x5_2 x7_2)) := ⟨_, rfl⟩
            replace H : (nat_digits.l1 k2 (y240.set (x7_2 : Int).toNat (rd x5_2 x6_2)) (wrap64 (x6_2 + 1)) (wrap64 (x7_2 - 1))) = some r := by first | (rw [hy240]; with_reducible exact H) | (have H2_ := (Option.bind_some _ _).symm.trans H; rw [hy240]; with_reducible exact H2_) | (have H2_ := (Option.bind_some _ _).symm.trans H; with_reducible exact H2_) | with_reducible exact H | (rw [hy240]; exact H) | exact H
            have Ny240 := Aside0.mk hy240
            clear hy240
            obtain ⟨y241, hy241⟩ : ∃ y_ : List Int, y_ = (y240.set (x7_2 : Int).toNat (rd x5_2 x6_2)) := ⟨_, rfl⟩
            replace H : (nat_digits.l1 k2 y241 (wrap64 (x6_2 + 1)) (wrap64 (x7_2 - 1))) = some r := by first | (rw [hy241]; with_reducible exact H) | (have H2_ := (Option.bind_some _ _).symm.trans H; rw [hy241]; with_reducible exact H2_) | (have H2_ := (Option.bind_some _ _).symm.trans H; with_reducible exact H2_) | with_reducible exact H | (rw [hy241]; exact H) | exact H
            have Ny241 := Aside0.mk hy241
            clear hy241
            have H' := Aside0.mk H
            clear H
            try go_wp2
            have n0_ := Aside0.mk (Kd.R_drew HO_5.out)
            have n1_ := Aside0.mk (below_drew1 HB.out)
            clear HO_5
            clear HB
            have HO_5 := n0_
            have HB := n1_
            clear n0_ n1_
            have p238 : 0 ≤ (x7_2 : Int) := of_decide_eq_true aS
            have q238 : x7_2 < (x5_2.length : Int) := of_decide_eq_true aS
            obtain ⟨ad238, e238, hx238_0⟩ := Kd.at_int (Kd.R_reads' HO_5.out).2.2 x7_2 p238 q238
            cases e238
            replace p238 := eq_true p238
            replace q238 := eq_true q238
            have p239 : 0 ≤ (x6_2 : Int) := of_decide_eq_true aS
            have q239 : x6_2 < (x5_2.length : Int) := of_decide_eq_true aS
            obtain ⟨ad239, e239, hx239_0⟩ := Kd.at_int (Kd.R_reads' HO_5.out).2.2 x6_2 p239 q239
            obtain rfl : ad238 = ad239 := (by injection e239)
            replace p239 := eq_true p239
            replace q239 := eq_true q239
            have p16 : 0 ≤ (x6_2 : Int) := of_decide_eq_true aS
            have q16 : (x6_2 : Int) < ((x5_2.length : Int) : Int) := of_decide_eq_true aS
            obtain ⟨go16, co16, eo16, gb16, gl16, cl16, HG16⟩ := Kd.R_form HO_5.out (by omega)
            (first | cases eo16 | (injection eo16 with ea_ en_ ec_; (first | subst ea_ | (injection ea_ with ea_; subst ea_)); subst ec_; clear en_))
            have GB16 := Aside0.mk gb16
            have GG16 := Aside0.mk HG16
            clear gb16 gl16 HG16
            (first | simp only [add_plain] at hx238_0 | skip)
            (first | simp only [add_plain] at hx239_0 | skip)
            obtain ⟨hx16_0, hf16_0⟩ := Kd.R_celln 0 HO_5.out (x6_2 : Int) p16 q16
            replace p16 := eq_true p16
            replace q16 := eq_true q16
            have HP19 := Kd.R_putn HO_5.out (x6_2 : Int) (rd x5_2 x7_2)
            rw [← Ny240.out] at HP19
            have HQ19 := Aside0.mk HP19
            clear HP19
            have p17 : 0 ≤ (x7_2 : Int) := of_decide_eq_true aS
            have q17 : (x7_2 : Int) < ((x5_2.length : Int) : Int) := of_decide_eq_true aS
            obtain ⟨hx17_0, hf17_0⟩ := Kd.R_celln 0 HQ19.out (x7_2 : Int) p17 q17
            replace p17 := eq_true p17
            replace q17 := eq_true q17
            have HP20 := Kd.R_putn HQ19.out (x7_2 : Int) (rd x5_2 x6_2)
            rw [← Ny241.out] at HP20
            have HQ20 := Aside0.mk HP20
            clear HP20
            refine start_ (n := 16) (S := fun w' => w'.cell? ⟨go16, (x7_2).toNat, none⟩ = some (.int .u8 (rd x5_2 x7_2)) ∧ w'.cell? ⟨go16, (x6_2).toNat, none⟩ = some (.int .u8 (rd x5_2 x6_2))) (ds := [13, 15]) #[false, false, false, false, false, false, false, false, false, false, false, false, false, false, false, false] (by kernel_rfl) rfl rfl ⟨hx238_0, hx239_0⟩ (fun hHeld => ?_); refine with_tabW nat_digits.tab8 nat_digits.bits8 (fun HT_ HW_ => ?_)
            generalize wr.drew = w18 at HO_5 HB GG16 HQ19 HQ20 hf16_0 hf17_0 hx16_0 hx17_0 hx238_0 hx239_0 hHeld ⊢
            refine pure_ (i := 0) (N := some 35) (v := ?_) (a' := ?_) #[true, false, false, false, false, false, false, false, false, false, false, false, false, false, false, false] rfl rfl (any_of HT_.out (by kernel_rfl)) (fun _ _ _ h => h) (Or.inl ⟨by rfl, ?_⟩) ?_ ?_
            rotate_left
            ·intro w'
             go_simp
             with_reducible rfl
            rotate_left
            ·simp only [Act.put, List.setIfInBounds_toArray, List.set_cons_zero, List.set_cons_succ, i64_w, i32_w]
             rfl
            refine pure_ (i := 1) (N := some 36) (v := ?_) (a' := ?_) #[true, true, false, false, false, false, false, false, false, false, false, false, false, false, false, false] rfl rfl (any_of HT_.out (by kernel_rfl)) (fun _ _ _ h => h) (Or.inl ⟨by rfl, ?_⟩) ?_ ?_
            rotate_left
            ·intro w'
             go_simp
             with_reducible rfl
            rotate_left
            ·simp only [Act.put, List.setIfInBounds_toArray, List.set_cons_zero, List.set_cons_succ, i64_w, i32_w]
             rfl
            refine pure_ (i := 2) (N := some 37) (v := ?_) (a' := ?_) #[true, true, true, false, false, false, false, false, false, false, false, false, false, false, false, false] rfl rfl (any_of HT_.out (by kernel_rfl)) (fun _ _ _ h => h) (Or.inl ⟨by rfl, ?_⟩) ?_ ?_
            rotate_left
            ·intro w'
             go_simp
             with_reducible rfl
            rotate_left
            ·simp only [Act.put, List.setIfInBounds_toArray, List.set_cons_zero, List.set_cons_succ, i64_w, i32_w]
             rfl
            refine pure_ (i := 3) (N := some 38) (v := ?_) (a' := ?_) #[true, true, true, true, false, false, false, false, false, false, false, false, false, false, false, false] rfl rfl (any_of HT_.out (by kernel_rfl)) (fun _ _ _ h => h) (Or.inl ⟨by rfl, ?_⟩) ?_ ?_
            rotate_left
            ·intro w'
             go_simp
             with_reducible rfl
            rotate_left
            ·simp only [Act.put, List.setIfInBounds_toArray, List.set_cons_zero, List.set_cons_succ, i64_w, i32_w]
             rfl
            refine pure_ (i := 4) (N := some 39) (v := ?_) (a' := ?_) #[true, true, true, true, true, false, false, false, false, false, false, false, false, false, false, false] rfl rfl (any_of HT_.out (by kernel_rfl)) (fun _ _ _ h => h) (Or.inl ⟨by rfl, ?_⟩) ?_ ?_
            rotate_left
            ·intro w'
             go_simp
             with_reducible rfl
            rotate_left
            ·simp only [Act.put, List.setIfInBounds_toArray, List.set_cons_zero, List.set_cons_succ, i64_w, i32_w]
             rfl
            refine pure_ (i := 5) (N := some 40) (v := ?_) (a' := ?_) #[true, true, true, true, true, true, false, false, false, false, false, false, false, false, false, false] rfl rfl (any_of HT_.out (by kernel_rfl)) (fun _ _ _ h => h) (Or.inl ⟨by rfl, ?_⟩) ?_ ?_
            rotate_left
            ·intro w'
             go_simp
             with_reducible rfl
            rotate_left
            ·simp only [Act.put, List.setIfInBounds_toArray, List.set_cons_zero, List.set_cons_succ, i64_w, i32_w]
             rfl
            refine pure_ (i := 6) (N := some 41) (v := ?_) (a' := ?_) #[true, true, true, true, true, true, true, false, false, false, false, false, false, false, false, false] rfl rfl (any_of HT_.out (by kernel_rfl)) (fun _ _ _ h => h) (Or.inl ⟨by rfl, ?_⟩) ?_ ?_
            rotate_left
            ·intro w'
             go_simp
             with_reducible rfl
            rotate_left
            ·simp only [Act.put, List.setIfInBounds_toArray, List.set_cons_zero, List.set_cons_succ, i64_w, i32_w]
             rfl
            refine pure_ (i := 8) (N := some 43) (v := ?_) (a' := ?_) #[true, true, true, true, true, true, true, false, true, false, false, false, false, false, false, false] rfl rfl (any_of HT_.out (by kernel_rfl)) (fun _ _ _ h => h) (Or.inl ⟨by rfl, ?_⟩) ?_ ?_
            rotate_left
            ·intro w'
             go_simp
             with_reducible rfl
            rotate_left
            ·simp only [Act.put, List.setIfInBounds_toArray, List.set_cons_zero, List.set_cons_succ, i64_w, i32_w]
             rfl
            refine pure_ (i := 9) (N := some 44) (v := ?_) (a' := ?_) #[true, true, true, true, true, true, true, false, true, true, false, false, false, false, false, false] rfl rfl (any_of HT_.out (by kernel_rfl)) (fun _ _ _ h => h) (Or.inl ⟨by rfl, ?_⟩) ?_ ?_
            rotate_left
            ·intro w'
             go_simp
             with_reducible rfl
            rotate_left
            ·simp only [Act.put, List.setIfInBounds_toArray, List.set_cons_zero, List.set_cons_succ, i64_w, i32_w]
             rfl
            refine pure_ (i := 10) (N := some 45) (v := ?_) (a' := ?_) #[true, true, true, true, true, true, true, false, true, true, true, false, false, false, false, false] rfl rfl (any_of HT_.out (by kernel_rfl)) (fun _ _ _ h => h) (Or.inl ⟨by rfl, ?_⟩) ?_ ?_
            rotate_left
            ·intro w'
             go_simp
             with_reducible rfl
            rotate_left
            ·simp only [Act.put, List.setIfInBounds_toArray, List.set_cons_zero, List.set_cons_succ, i64_w, i32_w]
             rfl
            refine take_ (i := 7) (N := some 42) (v := ?_) (a' := ?_) #[true, true, true, true, true, true, true, true, true, true, true, false, false, false, false, false] rfl rfl (take_ofW HT_.out HW_.out (by kernel_rfl)) (fun _ _ _ h => h) (Or.inl ⟨by rfl, ?_⟩) hHeld ?_ ?_
            rotate_left
            ·rintro w' ⟨s0, s1⟩
             go_simp
             with_reducible rfl
            rotate_left
            ·simp only [Act.put, List.setIfInBounds_toArray, List.set_cons_zero, List.set_cons_succ, i64_w, i32_w]
             rfl
            refine take_ (i := 11) (N := some 46) (v := ?_) (a' := ?_) #[true, true, true, true, true, true, true, true, true, true, true, true, false, false, false, false] rfl rfl (take_ofW HT_.out HW_.out (by kernel_rfl)) (fun _ _ _ h => h) (Or.inl ⟨by rfl, ?_⟩) hHeld ?_ ?_
            rotate_left
            ·rintro w' ⟨s0, s1⟩
             go_simp
             with_reducible rfl
            rotate_left
            ·simp only [Act.put, List.setIfInBounds_toArray, List.set_cons_zero, List.set_cons_succ, i64_w, i32_w]
             rfl
            refine pure_ (i := 12) (N := some 47) (v := ?_) (a' := ?_) #[true, true, true, true, true, true, true, true, true, true, true, true, true, false, false, false] rfl rfl (any_of HT_.out (by kernel_rfl)) (fun _ _ _ h => h) (Or.inl ⟨by rfl, ?_⟩) ?_ ?_
            rotate_left
            ·intro w'
             go_simp
             with_reducible rfl
            rotate_left
            ·simp only [Act.put, List.setIfInBounds_toArray, List.set_cons_zero, List.set_cons_succ, i64_w, i32_w]
             rfl
            refine last_ (i := 13) (N := none) #[true, true, true, true, true, true, true, true, true, true, true, true, true, true, false, false] rfl rfl (one_of HT_.out (by kernel_rfl)) (by decide) (fun K hK => ?_)
            refine skip_ (w1 := ?_) (by rfl) rfl ?_ ?_
            rotate_left
            ·go_simp
             rfl
            refine hK.out _ _ ?_
            clear hK K
            refine pure_ (i := 14) (N := some 48) (v := ?_) (a' := ?_) #[true, true, true, true, true, true, true, true, true, true, true, true, true, true, true, false] rfl rfl (any_of HT_.out (by kernel_rfl)) (fun _ _ _ h => h) (Or.inl ⟨by rfl, ?_⟩) ?_ ?_
            rotate_left
            ·intro w'
             go_simp
             with_reducible rfl
            rotate_left
            ·simp only [Act.put, List.setIfInBounds_toArray, List.set_cons_zero, List.set_cons_succ, i64_w, i32_w]
             rfl
            refine last_ (i := 15) (N := none) #[true, true, true, true, true, true, true, true, true, true, true, true, true, true, true, true] rfl rfl (one_of HT_.out (by kernel_rfl)) (by decide) (fun K hK => ?_)
            refine skip_ (w1 := ?_) (by rfl) rfl ?_ ?_
            rotate_left
            ·go_simp
             rfl
            refine hK.out _ _ ?_
            clear hK K
            refine done_ (done_of HT_.out (by kernel_rfl)) ?_
            try go_wp2
            (try simp only [← hl5_2])
            go_roundg k2
            case measure => have := HK1.out; have := HK2.out; omega
            case rel => exact ⟨(y241), (wrap64 (x6_2 + 1)), (wrap64 (x7_2 - 1)), (by first | rfl | (simp; done) | (simp [*]; done)), (by first | rfl | (simp; done) | (simp [*]; done)), H', ⟨by have := HK1.out; have := HK2.out; omega⟩, ⟨by (try simp only [hl5_2]); (with_reducible repeat (first | apply Kd.R_alloc | apply Kd.R_drewN | apply Kd.R_drew)); exact HQ20.out⟩, ⟨by repeat (first | (with_reducible first | exact HB.out | apply below_alloc | apply pw_below_drewN | apply below_drew1 | refine below_set ?_ GB16.out | refine below_set ?_ GB16.out) | exact HB.out)⟩⟩
           ·rw [if_neg c15] at H
            exact absurd H (by simp)
          ·rw [if_neg c14] at H
           exact absurd H (by simp)
         ·rw [if_neg c13] at H
          exact absurd H (by simp)
        ·rw [if_neg c12] at H
         exact absurd H (by simp)
       ·rw [if_neg c11] at H
        have c11b0 : decide (x6_2 < x7_2) = false := decide_eq_false c11
        clear c11
        obtain rfl := Option.some.inj H
        go_wp2
        go_ret
        exact ⟨_, by first | rfl | (simp [errW_none, errW_some] <;> rfl) | (simp [*, errW_none, errW_some] <;> rfl), by (with_reducible repeat (first | apply Kd.R_alloc | apply Kd.R_drewN | apply Kd.R_drew)); exact HO_5.out, by repeat (first | (with_reducible first | exact HB.out | apply below_alloc | apply pw_below_drewN | apply below_drew1) | exact HB.out)⟩
end Go.Proofs.Ytfmobogdnlmdbaa.P
end
section
namespace Go.Proofs.Ytfmobogdnlmdbaa.P
open Go.RowKit Go.Proofs.YtfmobogdnlmdbaaW.PrintWords Go.Proofs.YtfmobogdnlmdbaaW.PrintLast Go.Proofs.YtfmobogdnlmdbaaW.PrintMore Go.Proofs.YtfmobogdnlmdbaaW
attribute [local go_sem] max2_int min2_int max_two min_two max_three min_three max_four min_four
set_option linter.unusedVariables false
set_option linter.unusedSimpArgs false
set_option maxHeartbeats 8000000 in
set_option maxRecDepth 100000 in
theorem nat_Text.calls (k : Nat) (P0_ : Nat → Prop) (A0 : Option Addr) (c0 : Nat) (l0 : List Int) (r1 : ByteArray) (r2 : Int) (w : World) (hs0 : Kd.V (Kd.int .u32) 36 w w.heap.size (fun k_ => P0_ k_) (.slice A0 l0.length c0) l0) (h : nat_Text.f k l0 = some (r1, r2)) :
  Calls Try.prog 28 #[.slice A0 l0.length c0] w fun e w' => e = .returned (.tuple #[.string r1, .int .i64 r2]) ∧ Below w.heap.size w w' := by
 have HO0 := Aside0.mk (show Kd.V (Kd.int .u32) 36 w w.heap.size (fun k_ => (P0_ k_ ∨ w.heap.size ≤ k_)) (.slice A0 l0.length c0) l0 from Kd.V_mono hs0 (fun k_ hk => .inl hk))
 have HB := Aside0.mk (Below.refl w.heap.size w)
 have H : ((nat_Valid.f l0).bind fun t242 => (if t242 = true then (if (l0.length : Int) = 0 then (some ((⟨#[48]⟩ : ByteArray), 0)) else ((mag_From.f k 1000000000).bind fun t243 => (nat_Text.l0 k l0 ([] : List Int) t243))) else (some ((⟨#[]⟩ : ByteArray), 3)))) = some (r1, r2) := h
 clear h
 replace H := Option.bind_eq_some_iff.mp H
 obtain ⟨t242, A20, H⟩ := H
 replace H : (if t242 = true then (if (l0.length : Int) = 0 then (some ((⟨#[48]⟩ : ByteArray), 0)) else ((mag_From.f k 1000000000).bind fun t243 => (nat_Text.l0 k l0 ([] : List Int) t243))) else (some ((⟨#[]⟩ : ByteArray), 3))) = some (r1, r2) := H
 have A2 := Aside0.mk A20
 clear A20
 by_cases c3 : t242 = true
 ·subst c3
  have H1 : (if (l0.length : Int) = 0 then (some ((⟨#[48]⟩ : ByteArray), 0)) else ((mag_From.f k 1000000000).bind fun t243 => (nat_Text.l0 k l0 ([] : List Int) t243))) = some (r1, r2) := by rw [if_pos rfl] at H; exact H
  clear H
  have H := H1
  clear H1
  by_cases c4 : (l0.length : Int) = 0
  ·rw [if_pos c4] at H
   have c4b0 : ((l0.length : Int) == 0) = true := beq_iff_eq.mpr c4
   have c4b1 : ((l0.length : Int) != 0) = false := bne_eq_false_iff_eq.mpr c4
   clear c4
   simp only [Option.some.injEq, Prod.mk.injEq] at H
   obtain ⟨rfl, rfl⟩ := H
   go_enter Try.func28, Try.ntmps28
   go_wp2_with (first | ((with_reducible refine gate_callee (f := 45) rfl ?_); refine goesL_ (some 14) rfl rfl Try.func45 (by kernel_rfl) rfl #[.slice A0 l0.length c0] rfl (by (try simp only [List.map_toArray, List.map_cons, List.map_nil]); first | done | rfl | (simp only [List.length_drop, List.length_take]; rfl)) ?_; (with_reducible refine (nat_Valid.calls _ _ l0 true _ ?side1 ?side2 A2.out).mono ?_); (case side1 => repeat (first | exact (Kd.V_reads' HO0.out).2.2 | (with_reducible refine Kd.C_alloc ?_ _) | (with_reducible refine Kd.C_drewN ?_ _) | (with_reducible refine Kd.C_drew ?_))); (case side2 => exact (Kd.V_reads' HO0.out).2.1); rintro e w' ⟨rfl, ⟨nd, rfl⟩⟩; refine ⟨_, rfl, ?_⟩))
   go_ret2
   exact ⟨by first | rfl | (simp [errW_none, errW_some] <;> rfl) | (simp [*, errW_none, errW_some] <;> rfl), by repeat (first | (with_reducible first | exact HB.out | apply below_alloc | apply pw_below_drewN | apply below_drew1) | exact HB.out)⟩
  ·rw [if_neg c4] at H
   have c4b0 : ((l0.length : Int) == 0) = false := beq_eq_false_iff_ne.mpr c4
   have c4b1 : ((l0.length : Int) != 0) = true := bne_iff_ne.mpr c4
   have c4b2 : ¬ (l0 = []) := fun h_ => c4 (by rw [h_]; rfl)
   replace H := Option.bind_eq_some_iff.mp H
   obtain ⟨t243, A50, H⟩ := H
   replace H : (nat_Text.l0 k l0 ([] : List Int) t243) = some (r1, r2) := H
   have A5 := Aside0.mk A50
   clear A50
   have H' := Aside0.mk H
   clear H
   go_enter Try.func28, Try.ntmps28
   go_wp2_with (first | ((with_reducible refine gate_callee (f := 45) rfl ?_); refine goesL_ (some 14) rfl rfl Try.func45 (by kernel_rfl) rfl #[.slice A0 l0.length c0] rfl (by (try simp only [List.map_toArray, List.map_cons, List.map_nil]); first | done | rfl | (simp only [List.length_drop, List.length_take]; rfl)) ?_; (with_reducible refine (nat_Valid.calls _ _ l0 true _ ?side1 ?side2 A2.out).mono ?_); (case side1 => repeat (first | exact (Kd.V_reads' HO0.out).2.2 | (with_reducible refine Kd.C_alloc ?_ _) | (with_reducible refine Kd.C_drewN ?_ _) | (with_reducible refine Kd.C_drew ?_))); (case side2 => exact (Kd.V_reads' HO0.out).2.1); rintro e w' ⟨rfl, ⟨nd, rfl⟩⟩; refine ⟨_, rfl, ?_⟩) | ((with_reducible refine gate_callee (f := 59) rfl ?_); refine goesL_ (some 19) rfl rfl Try.func59 (by kernel_rfl) rfl #[.int .u64 1000000000] rfl (by (try simp only [List.map_toArray, List.map_cons, List.map_nil]); first | done | rfl | (simp only [List.length_drop, List.length_take]; rfl)) ?_; (with_reducible refine (mag_From.calls k 1000000000 t243 _ A5.out).mono ?_); rintro e w6 ⟨v244, rfl, ho0, hb⟩; refine ⟨_, rfl, ?_⟩; have n0_ := Aside0.mk (Kd.V_below (by (with_reducible repeat (first | apply Kd.V_alloc | apply Kd.V_drewN | apply Kd.V_drew)); exact HO0.out) hb); have n1_ := Aside0.mk (Kd.V_lower (Kd.V_mono (ok' := fun k_ => (P0_ k_ ∨ w.heap.size ≤ k_)) ho0 (fun k_ hk_ => (.inr (Nat.le_trans (below_size (bB)) hk_)))) (below_size (bB))); have n2_ := Aside0.mk (below_step (bB) hb); clear HO0; clear HB; have HO0 := n0_; have HO245 := n1_; have HB := n2_; clear n0_ n1_ n2_; (try clear hb); (try clear hb2); (try clear hk); (try clear hi); (try clear ho0)))
   go_loopg [0, 4] k (fun kq v0 v4 w' => ∃ (x0_1 : List Int) (x4_1 : List Int), Aside0 (nat_Text.l0 kq x0_1 x4_1 t243 = some (r1, r2)) ∧ Aside0 (kq ≤ k) ∧ Aside0 (Kd.V (Kd.int .u32) 36 w' w.heap.size (fun k_ => (P0_ k_ ∨ w.heap.size ≤ k_) ∧ some k_ ≠ (v4 : Value).ownBlock) v0 x0_1) ∧ Aside0 (Kd.R (Kd.int .u64) 59 w' w.heap.size (fun k_ => (w.heap.size ≤ k_)) v4 x4_1) ∧ Aside0 (Kd.V (Kd.int .u32) 36 w' w.heap.size (fun k_ => (P0_ k_ ∨ w.heap.size ≤ k_) ∧ some k_ ≠ (v4 : Value).ownBlock) v244 t243) ∧ Aside0 (Below w.heap.size w w'))
   case atStart => exact ⟨(l0), (([] : List Int)), H', ⟨Nat.le_refl _⟩, ⟨by (with_reducible repeat (first | apply Kd.V_alloc | apply Kd.V_drewN | apply Kd.V_drew)); exact Kd.V_mono HO0.out (fun _ hk => ⟨hk, (by simp [Value.ownBlock])⟩)⟩, ⟨by first | exact Kd.R_nil _ _ _ _ _ | exact Kd.N_nil _ _ _ _ _ | exact Kd.V_nil _ _ _ _ _ | exact Kd.Q_nil _ _ _ _ _ | exact Kd.S_nil _ _ _ _ _⟩, ⟨by (with_reducible repeat (first | apply Kd.V_alloc | apply Kd.V_drewN | apply Kd.V_drew)); exact Kd.V_mono HO245.out (fun _ hk => ⟨hk, (by simp [Value.ownBlock])⟩)⟩, ⟨by repeat (first | (with_reducible first | exact HB.out | apply below_alloc | apply pw_below_drewN | apply below_drew1) | exact HB.out)⟩⟩
   case round =>
    clear H'
    try clear c2
    try clear p2
    try clear c3
    try clear c4
    try clear c4b0
    try clear c4b1
    try clear c4b2
    try clear c5
    obtain ⟨x0_1, x4_1, HA, HK1, HO_0, HO_4, HO_5, HB⟩ := hrel
    cases gk with
    | zero => exact absurd HA.out (by simp [nat_Text.l0])
    | succ k1 =>
     have H := HA.out
     clear HA
     simp only [nat_Text.l0] at H
     by_cases c7 : (x0_1.length : Int) > 0
     ·rw [if_pos c7] at H
      have c7b0 : decide (0 < (x0_1.length : Int)) = true := decide_eq_true c7
      have c7b1 : decide (0 < x0_1.length) = true := decide_eq_true (by omega)
      clear c7
      replace H := Option.bind_eq_some_iff.mp H
      obtain ⟨⟨t246, t249⟩, A80, H⟩ := H
      replace H : ((mag_Small.f t249).bind fun bt252 => (if x4_1.length < 17592186044416 then (nat_Text.l0 k1 t246 (x4_1 ++ [bt252.1]) t243) else (none))) = some (r1, r2) := H
      have A8 := Aside0.mk A80
      clear A80
      replace H := Option.bind_eq_some_iff.mp H
      obtain ⟨⟨t252, t253⟩, A90, H⟩ := H
      replace H : (if x4_1.length < 17592186044416 then (nat_Text.l0 k1 t246 (x4_1 ++ [t252]) t243) else (none)) = some (r1, r2) := H
      have A9 := Aside0.mk A90
      clear A90
      by_cases c10 : x4_1.length < 17592186044416
      ·rw [if_pos c10] at H
       have LMc10 := Aside0.mk c10
       clear c10
       obtain ⟨y254, hy254⟩ : ∃ y_ : List Int, y_ = (x4_1 ++ [t252]) := ⟨_, rfl⟩
       replace H : (nat_Text.l0 k1 t246 y254 t243) = some (r1, r2) := by first | (rw [hy254]; with_reducible exact H) | (have H2_ := (Option.bind_some _ _).symm.trans H; rw [hy254]; with_reducible exact H2_) | (have H2_ := (Option.bind_some _ _).symm.trans H; with_reducible exact H2_) | with_reducible exact H | (rw [hy254]; exact H) | exact H
       have Ny254 := Aside0.mk hy254
       clear hy254
       have H' := Aside0.mk H
       clear H
       obtain ⟨Ao11, co11, eo11⟩ := Kd.V_slice HO_0.out
       subst eo11
       obtain ⟨Ao12, co12, eo12⟩ := Kd.V_slice HO_5.out
       subst eo12
       go_wp2_with (first | ((with_reducible refine gate_callee (f := 48) rfl ?_); refine goesL_ (some 26) rfl rfl Try.func48 (by kernel_rfl) rfl #[.slice Ao11 x0_1.length co11, .slice Ao12 t243.length co12] rfl (by (try simp only [List.map_toArray, List.map_cons, List.map_nil]); first | done | rfl | (simp only [List.length_drop, List.length_take]; rfl)) ?_; (with_reducible refine (mag_DivMod.calls k1 _ _ x0_1 _ _ t243 t246 t249 _ ?side1 ?side2 ?side3 ?side4 A8.out).mono ?_); (case side1 => repeat (first | exact (Kd.V_reads' HO_0.out).2.2 | (with_reducible refine Kd.C_alloc ?_ _) | (with_reducible refine Kd.C_drewN ?_ _) | (with_reducible refine Kd.C_drew ?_))); (case side2 => exact (Kd.V_reads' HO_0.out).2.1); (case side3 => repeat (first | exact (Kd.V_reads' HO_5.out).2.2 | (with_reducible refine Kd.C_alloc ?_ _) | (with_reducible refine Kd.C_drewN ?_ _) | (with_reducible refine Kd.C_drew ?_))); (case side4 => exact (Kd.V_reads' HO_5.out).2.1); rintro e w13 ⟨v247, v250, rfl, ho0, ho1, hb⟩; refine ⟨_, rfl, ?_⟩; have n0_ := Aside0.mk (Kd.V_below (by (with_reducible repeat (first | apply Kd.V_alloc | apply Kd.V_drewN | apply Kd.V_drew)); exact HO_0.out) hb); have n1_ := Aside0.mk (Kd.R_below (by (with_reducible repeat (first | apply Kd.R_alloc | apply Kd.R_drewN | apply Kd.R_drew)); exact HO_4.out) hb); have n2_ := Aside0.mk (Kd.V_below (by (with_reducible repeat (first | apply Kd.V_alloc | apply Kd.V_drewN | apply Kd.V_drew)); exact HO_5.out) hb); have n3_ := Aside0.mk (Kd.V_lower (Kd.V_mono (ok' := fun k_ => (P0_ k_ ∨ w.heap.size ≤ k_) ∧ some k_ ≠ (u4 : Value).ownBlock) ho0 (fun k_ hk_ => ⟨(.inr (Nat.le_trans (below_size (bB)) hk_)), (Kd.fresh' (Kd.R_lt (by (with_reducible repeat (first | apply Kd.R_alloc | apply Kd.R_drewN | apply Kd.R_drew)); exact HO_4.out)) k_ hk_)⟩)) (below_size (bB))); have n4_ := Aside0.mk (Kd.V_lower (Kd.V_mono (ok' := fun k_ => (P0_ k_ ∨ w.heap.size ≤ k_) ∧ some k_ ≠ (u4 : Value).ownBlock) ho1 (fun k_ hk_ => ⟨(.inr (Nat.le_trans (below_size (bB)) hk_)), (Kd.fresh' (Kd.R_lt (by (with_reducible repeat (first | apply Kd.R_alloc | apply Kd.R_drewN | apply Kd.R_drew)); exact HO_4.out)) k_ hk_)⟩)) (below_size (bB))); have n5_ := Aside0.mk (below_step (bB) hb); clear HO_0; clear HO_4; clear HO_5; clear HB; have HO_0 := n0_; have HO_4 := n1_; have HO_5 := n2_; have HO248 := n3_; have HO251 := n4_; have HB := n5_; clear n0_ n1_ n2_ n3_ n4_ n5_; (try clear hb); (try clear hb2); (try clear hk); (try clear hi); (try clear ho0); (try clear ho1); obtain ⟨Ao14, co14, eo14⟩ := Kd.V_slice HO251.out; subst eo14) | ((with_reducible refine gate_callee (f := 60) rfl ?_); refine goesL_ (some 31) rfl rfl Try.func60 (by kernel_rfl) rfl #[.slice Ao14 t249.length co14] rfl (by (try simp only [List.map_toArray, List.map_cons, List.map_nil]); first | done | rfl | (simp only [List.length_drop, List.length_take]; rfl)) ?_; (with_reducible refine (mag_Small.calls _ _ t249 t252 t253 _ ?side1 ?side2 A9.out).mono ?_); (case side1 => repeat (first | exact (Kd.V_reads' HO251.out).2.2 | (with_reducible refine Kd.C_alloc ?_ _) | (with_reducible refine Kd.C_drewN ?_ _) | (with_reducible refine Kd.C_drew ?_))); (case side2 => exact (Kd.V_reads' HO251.out).2.1); rintro e w' ⟨rfl, ⟨nd, rfl⟩⟩; refine ⟨_, rfl, ?_⟩) | ((with_reducible refine gate_builtin (b := .append) (xs := #[.tmp 34, .tmp 36]) rfl ?_); at_builtin; refine Kd.R_append (Kd.int .u64) (w0 := w) w.heap.size rfl (.tmp 34) (.tmp 36) 76 59 (.int .u64 0) 8 rfl Try.underlying76 info59 rfl (by decide) (by omega) u4 x4_1 t252 [.int .u64 t252] (fun k_ => (w.heap.size ≤ k_)) (fun _ => False) rfl (by first | rfl | (go_simp; done) | (go_simp; rfl)) ?aP (fun _ hk => hk.elim) ?aF ?aO ?aB ?aS ?aL ?_; (case aP => exact rfl); (case aB => exact (bB)); (case aF => exact (fun k_ hk => (Nat.le_trans (below_size (bB)) hk))); (case aO => exact (by (with_reducible repeat (first | apply Kd.R_alloc | apply Kd.R_drewN | apply Kd.R_drew)); exact HO_4.out)); (case aS => exact (below_size (bB))); (case aL => have := LMc10.out; omega); intro v255 w15 ho hb hg hat; rw [← Ny254.out] at ho; have n0_ := Aside0.mk (Kd.V_afterv (ok := (fun k_ => (P0_ k_ ∨ w.heap.size ≤ k_))) (by (with_reducible repeat (first | apply Kd.V_alloc | apply Kd.V_drewN | apply Kd.V_drew)); exact HO_0.out) hg hat); have n1_ := Aside0.mk (Kd.V_afterv (ok := (fun k_ => (P0_ k_ ∨ w.heap.size ≤ k_))) (by (with_reducible repeat (first | apply Kd.V_alloc | apply Kd.V_drewN | apply Kd.V_drew)); exact HO_5.out) hg hat); have n2_ := Aside0.mk (Kd.V_afterv (ok := (fun k_ => (P0_ k_ ∨ w.heap.size ≤ k_))) (by (with_reducible repeat (first | apply Kd.V_alloc | apply Kd.V_drewN | apply Kd.V_drew)); exact HO248.out) hg hat); have n3_ := Aside0.mk (Kd.V_afterv (ok := (fun k_ => (P0_ k_ ∨ w.heap.size ≤ k_))) (by (with_reducible repeat (first | apply Kd.V_alloc | apply Kd.V_drewN | apply Kd.V_drew)); exact HO251.out) hg hat); have n4_ := Aside0.mk (hb); have n5_ := Aside0.mk (ho); clear HO_0; clear HO_5; clear HO248; clear HO251; clear HB; clear HO_4; have HO_0 := n0_; have HO_5 := n1_; have HO248 := n2_; have HO251 := n3_; have HB := n4_; have HO256 := n5_; clear n0_ n1_ n2_ n3_ n4_ n5_; clear ho hb hg hat))
       go_roundg k1
       case measure => have := HK1.out; omega
       case rel => exact ⟨(t246), (y254), H', ⟨by have := HK1.out; omega⟩, ⟨by (with_reducible repeat (first | apply Kd.V_alloc | apply Kd.V_drewN | apply Kd.V_drew)); exact HO248.out⟩, ⟨by (with_reducible repeat (first | apply Kd.R_alloc | apply Kd.R_drewN | apply Kd.R_drew)); exact HO256.out⟩, ⟨by (with_reducible repeat (first | apply Kd.V_alloc | apply Kd.V_drewN | apply Kd.V_drew)); exact HO_5.out⟩, ⟨by repeat (first | (with_reducible first | exact HB.out | apply below_alloc | apply pw_below_drewN | apply below_drew1) | exact HB.out)⟩⟩
      ·rw [if_neg c10] at H
       exact absurd H (by simp)
     ·rw [if_neg c7] at H
      have c7b0 : decide (0 < (x0_1.length : Int)) = false := decide_eq_false c7
      have c7b1 : decide (0 < x0_1.length) = false := decide_eq_false (by omega)
      clear c7
      obtain ⟨ji16, hji16⟩ : ∃ j_ : Int, (wrap64 ((x4_1.length : Int) - 1)) = j_ := ⟨_, rfl⟩
      replace H : (if 0 ≤ (ji16) then (if (ji16) < (x4_1.length : Int) then ((nat_digits.f k1 (rd x4_1 (ji16)) 0).bind fun t258 => (nat_Text.l1 k1 x4_1 t258 (wrap64 ((x4_1.length : Int) - 2)))) else (none)) else (none)) = some (r1, r2) := by first | (rw [hji16] at H; exact H) | (simp only [hji16] at H ⊢; exact H)
      have hji16w : (IntKind.i64.wrap ((x4_1.length : Int) - 1)) = ji16 := (i64_w _).trans hji16
      by_cases c17 : 0 ≤ (ji16)
      ·rw [if_pos c17] at H
       have c17b0 : decide (0 ≤ (ji16)) = true := decide_eq_true c17
       clear c17
       by_cases c18 : (ji16) < (x4_1.length : Int)
       ·rw [if_pos c18] at H
        have c18b0 : decide ((ji16) < (x4_1.length : Int)) = true := decide_eq_true c18
        clear c18
        replace H := Option.bind_eq_some_iff.mp H
        obtain ⟨t258, A190, H⟩ := H
        replace H : (nat_Text.l1 k1 x4_1 t258 (wrap64 ((x4_1.length : Int) - 2))) = some (r1, r2) := H
        have A19 := Aside0.mk A190
        clear A190
        have H' := Aside0.mk H
        clear H
        obtain ⟨Ao20, co20, eo20⟩ := Kd.V_slice HO_0.out
        subst eo20
        obtain ⟨Ao21, co21, eo21⟩ := Kd.R_slice HO_4.out
        subst eo21
        have p257 : 0 ≤ ((ji16) : Int) := of_decide_eq_true aS
        have q257 : (ji16) < (x4_1.length : Int) := of_decide_eq_true aS
        obtain ⟨ad257, e257, hx257_0⟩ := Kd.at_int (Kd.R_reads' HO_4.out).2.2 (ji16) p257 q257
        cases e257
        replace p257 := eq_true p257
        replace q257 := eq_true q257
        go_wp2_with (first | ((with_reducible refine gate_callee (f := 61) rfl ?_); refine goesL_ (some 45) rfl rfl Try.func61 (by kernel_rfl) rfl #[.int .u64 (rd x4_1 (ji16)), .int .i64 0] rfl (by (try simp only [List.map_toArray, List.map_cons, List.map_nil]); first | done | (simp only [hji16]; rfl) | rfl | (simp only [List.length_drop, List.length_take]; rfl)) ?_; (with_reducible refine (nat_digits.calls k1 (rd x4_1 (ji16)) 0 t258 _ A19.out).mono ?_); rintro e w22 ⟨v259, rfl, ho0, hb⟩; refine ⟨_, rfl, ?_⟩; have n0_ := Aside0.mk (Kd.V_elder' (by (with_reducible repeat (first | apply Kd.V_alloc | apply Kd.V_drewN | apply Kd.V_drew)); exact HO_0.out) (Kd.R_base ho0) hb); have n1_ := Aside0.mk (Kd.R_below (by (with_reducible repeat (first | apply Kd.R_alloc | apply Kd.R_drewN | apply Kd.R_drew)); exact HO_4.out) hb); have n2_ := Aside0.mk (Kd.V_elder' (by (with_reducible repeat (first | apply Kd.V_alloc | apply Kd.V_drewN | apply Kd.V_drew)); exact HO_5.out) (Kd.R_base ho0) hb); have n3_ := Aside0.mk (Kd.R_lower (Kd.R_newM (M := fun k_ => (w.heap.size ≤ k_)) ho0 (below_size (bB)) (fun k_ h_ => h_)) (below_size (bB))); have n4_ := Aside0.mk (below_step (bB) hb); clear HO_0; clear HO_4; clear HO_5; clear HB; have HO_0 := n0_; have HO_4 := n1_; have HO_5 := n2_; have HO260 := n3_; have HB := n4_; clear n0_ n1_ n2_ n3_ n4_; (try clear hb); (try clear hb2); (try clear hk); (try clear hi); (try clear ho0)))
        go_loopg [10, 11] k1 (fun kq v10 v11 w' => ∃ (x10_2 : List Int) (x11_2 : Int), v11 = .int .i64 x11_2 ∧ Aside0 (nat_Text.l1 kq x4_1 x10_2 x11_2 = some (r1, r2)) ∧ Aside0 (kq ≤ k1) ∧ Aside0 (Kd.R (Kd.int .u64) 59 w' w.heap.size (fun k_ => (w.heap.size ≤ k_)) (.slice (some ad257) x4_1.length co21) x4_1) ∧ Aside0 (Kd.R (Kd.int .u8) 5 w' w.heap.size (fun k_ => (w.heap.size ≤ k_)) v10 x10_2) ∧ Aside0 (Below w.heap.size w w'))
        case atStart => exact ⟨(t258), (wrap64 ((x4_1.length : Int) - 2)), (by first | rfl | (simp; done) | (simp [*]; done)), H', ⟨Nat.le_refl _⟩, ⟨by (with_reducible repeat (first | apply Kd.R_alloc | apply Kd.R_drewN | apply Kd.R_drew)); exact HO_4.out⟩, ⟨by (with_reducible repeat (first | apply Kd.R_alloc | apply Kd.R_drewN | apply Kd.R_drew)); exact Kd.R_mono HO260.out (fun _ hk => hk.1)⟩, ⟨by repeat (first | (with_reducible first | exact HB.out | apply below_alloc | apply pw_below_drewN | apply below_drew1) | exact HB.out)⟩⟩
        case round =>
         clear H'
         try clear c1
         try clear c2
         try clear p2
         try clear q2
         try clear hx2
         try clear c3
         try clear c4
         try clear c4b0
         try clear c4b1
         try clear c4b2
         try clear c5
         try clear c6
         try clear p6
         try clear c7
         try clear c7b0
         try clear c7b1
         try clear c10
         try clear c17
         try clear c17b0
         try clear c18
         try clear c18b0
         try clear hx257_0
         try clear p2
         try clear p257
         try clear q257
         obtain ⟨x10_2, x11_2, rfl, HA, HK2, HO_4, HO_10, HB⟩ := hrel
         cases gk with
         | zero => exact absurd HA.out (by simp [nat_Text.l1])
         | succ k2 =>
          have H := HA.out
          clear HA
          simp only [nat_Text.l1] at H
          by_cases c23 : x11_2 ≥ 0
          ·rw [if_pos c23] at H
           have c23b0 : decide (0 ≤ x11_2) = true := decide_eq_true c23
           clear c23
           by_cases c24 : 9 ≤ 281474976710656
           ·rw [if_pos c24] at H
            have c24b0 := eq_true c24
            have c24b1 : decide (9 ≤ 281474976710656) = true := decide_eq_true c24
            clear c24
            obtain ⟨y261, hy261⟩ : ∃ y_ : List Int, y_ = (List.replicate 9 0) := ⟨_, rfl⟩
            replace H : (if 0 ≤ x11_2 then (if x11_2 < (x4_1.length : Int) then ((nat_digits.f k2 (rd x4_1 x11_2) 9).bind fun t265 => ((some (cpy y261 t265 : List Int)).bind fun y268 => (if x10_2.length + y268.length < 140737488355328 then (nat_Text.l1 k2 x4_1 (x10_2 ++ y268) (wrap64 (x11_2 - 1))) else (none)))) else (none)) else (none)) = some (r1, r2) := by first | (rw [hy261]; with_reducible exact H) | (have H2_ := (Option.bind_some _ _).symm.trans H; rw [hy261]; with_reducible exact H2_) | (have H2_ := (Option.bind_some _ _).symm.trans H; with_reducible exact H2_) | with_reducible exact H | (rw [hy261]; exact H) | exact H
            have Ny261 := Aside0.mk hy261
            clear hy261
            by_cases c25 : 0 ≤ x11_2
            ·rw [if_pos c25] at H
             have c25b0 : decide (0 ≤ x11_2) = true := decide_eq_true c25
             clear c25
             by_cases c26 : x11_2 < (x4_1.length : Int)
             ·rw [if_pos c26] at H
              have c26b0 : decide (x11_2 < (x4_1.length : Int)) = true := decide_eq_true c26
              clear c26
              replace H := Option.bind_eq_some_iff.mp H
              obtain ⟨t265, A270, H⟩ := H
              replace H : ((some (cpy y261 t265 : List Int)).bind fun y268 => (if x10_2.length + y268.length < 140737488355328 then (nat_Text.l1 k2 x4_1 (x10_2 ++ y268) (wrap64 (x11_2 - 1))) else (none))) = some (r1, r2) := H
              have A27 := Aside0.mk A270
              clear A270
              obtain ⟨y268, hy268⟩ : ∃ y_ : List Int, y_ = (cpy y261 t265) := ⟨_, rfl⟩
              replace H : (if x10_2.length + y268.length < 140737488355328 then (nat_Text.l1 k2 x4_1 (x10_2 ++ y268) (wrap64 (x11_2 - 1))) else (none)) = some (r1, r2) := by first | (rw [hy268]; with_reducible exact H) | (have H2_ := (Option.bind_some _ _).symm.trans H; rw [hy268]; with_reducible exact H2_) | (have H2_ := (Option.bind_some _ _).symm.trans H; with_reducible exact H2_) | with_reducible exact H | (rw [hy268]; exact H) | exact H
              have Ny268 := Aside0.mk hy268
              clear hy268
              by_cases c28 : x10_2.length + y268.length < 140737488355328
              ·rw [if_pos c28] at H
               have LMc28 := Aside0.mk c28
               clear c28
               obtain ⟨y269, hy269⟩ : ∃ y_ : List Int, y_ = (x10_2 ++ y268) := ⟨_, rfl⟩
               replace H : (nat_Text.l1 k2 x4_1 y269 (wrap64 (x11_2 - 1))) = some (r1, r2) := by first | (rw [hy269]; with_reducible exact H) | (have H2_ := (Option.bind_some _ _).symm.trans H; rw [hy269]; with_reducible exact H2_) | (have H2_ := (Option.bind_some _ _).symm.trans H; with_reducible exact H2_) | with_reducible exact H | (rw [hy269]; exact H) | exact H
               have Ny269 := Aside0.mk hy269
               clear hy269
               have H' := Aside0.mk H
               clear H
               go_wp2_with (first | ((with_reducible refine gate_dst (N := 53) rfl ?_); refine Kd.R_make (Kd.int .u8) _ 5 rfl (N := 53) rfl 79 _ _ rfl 9 rfl rfl Try.underlying79 (.int .u8 0) 1 info5 rfl (by decide) (by omega) 0 (ok := fun _ => True) (okp := fun _ => True) rfl (fun _ hk => hk) trivial (by omega) (by omega) (Below.refl _ _) (Nat.le_refl _) ?_; intro v262 w29 ho30 hb hg_ hnew_; clear hg_ hnew_; (first | rw [← Ny261.out] at ho30 | (simp only [Int.reduceToNat] at ho30; rw [← Ny261.out] at ho30)); have n0_ := Aside0.mk (Kd.R_below (by (with_reducible repeat (first | apply Kd.R_alloc | apply Kd.R_drewN | apply Kd.R_drew)); exact HO_4.out) hb); have n1_ := Aside0.mk (Kd.R_elder' (by (with_reducible repeat (first | apply Kd.R_alloc | apply Kd.R_drewN | apply Kd.R_drew)); exact HO_10.out) (Kd.R_base ho30) hb); have n2_ := Aside0.mk (Kd.R_lower (Kd.R_new' (Kd.R_newM (M := fun k_ => (w.heap.size ≤ k_)) ho30 (below_size (bB)) (fun k_ h_ => h_)) (Kd.R_lt (by (with_reducible repeat (first | apply Kd.R_alloc | apply Kd.R_drewN | apply Kd.R_drew)); exact HO_10.out))) (below_size (bB))); have n3_ := Aside0.mk (below_step (bB) hb); clear HO_4; clear HO_10; clear HB; have HO_4 := n0_; have HO_10 := n1_; have HO263 := n2_; have HB := n3_; clear n0_ n1_ n2_ n3_; clear hb ho30; have p264 : 0 ≤ (x11_2 : Int) := of_decide_eq_true aS; have q264 : x11_2 < (x4_1.length : Int) := of_decide_eq_true aS; obtain ⟨ad264, e264, hx264_0⟩ := Kd.at_int (Kd.R_reads' HO_4.out).2.2 x11_2 p264 q264; obtain rfl : ad257 = ad264 := (by injection e264); replace p264 := eq_true p264; replace q264 := eq_true q264) | ((with_reducible refine gate_callee (f := 61) rfl ?_); refine goesL_ (some 59) rfl rfl Try.func61 (by kernel_rfl) rfl #[.int .u64 (rd x4_1 x11_2), .int .i64 9] rfl (by (try simp only [List.map_toArray, List.map_cons, List.map_nil]); first | done | rfl | (simp only [List.length_drop, List.length_take]; rfl)) ?_; (with_reducible refine (nat_digits.calls k2 (rd x4_1 x11_2) 9 t265 _ A27.out).mono ?_); rintro e w31 ⟨v266, rfl, ho0, hb⟩; refine ⟨_, rfl, ?_⟩; have n0_ := Aside0.mk (Kd.R_below (by (with_reducible repeat (first | apply Kd.R_alloc | apply Kd.R_drewN | apply Kd.R_drew)); exact HO_4.out) hb); have n1_ := Aside0.mk (Kd.R_elder' (by (with_reducible repeat (first | apply Kd.R_alloc | apply Kd.R_drewN | apply Kd.R_drew)); exact HO_10.out) (Kd.R_base ho0) hb); have n2_ := Aside0.mk (Kd.R_elder' (by (with_reducible repeat (first | apply Kd.R_alloc | apply Kd.R_drewN | apply Kd.R_drew)); exact HO263.out) (Kd.R_base ho0) hb); have n3_ := Aside0.mk (Kd.R_lower (Kd.R_new' (Kd.R_new' (Kd.R_newM (M := fun k_ => (w.heap.size ≤ k_)) ho0 (below_size (bB)) (fun k_ h_ => h_)) (Kd.R_lt (by (with_reducible repeat (first | apply Kd.R_alloc | apply Kd.R_drewN | apply Kd.R_drew)); exact HO_10.out))) (Kd.R_lt (by (with_reducible repeat (first | apply Kd.R_alloc | apply Kd.R_drewN | apply Kd.R_drew)); exact HO263.out))) (below_size (bB))); have n4_ := Aside0.mk (below_step (bB) hb); clear HO_4; clear HO_10; clear HO263; clear HB; have HO_4 := n0_; have HO_10 := n1_; have HO263 := n2_; have HO267 := n3_; have HB := n4_; clear n0_ n1_ n2_ n3_ n4_; (try clear hb); (try clear hb2); (try clear hk); (try clear hi); (try clear ho0); obtain ⟨Ao33, co33, eo33⟩ := Kd.R_slice HO263.out; subst eo33; have n_ := Aside0.mk (Kd.R_mono (ok' := (fun k_ => (w.heap.size ≤ k_) ∧ some k_ ≠ (u10 : Value).ownBlock ∧ some k_ ≠ (v266 : Value).ownBlock)) HO263.out (fun k_ hk => ⟨hk.1.1.1, ⟨hk.1.2, hk.2⟩⟩)); clear HO263; have HO263 := n_; clear n_; obtain ⟨Ao34, co34, eo34⟩ := Kd.R_slice HO267.out; subst eo34) | ((with_reducible refine gate_builtin (b := .copy) (xs := #[.tmp 54, .tmp 59]) rfl ?_); refine copyin  .u8 (w0 := w) w.heap.size rfl (.tmp 54) (.tmp 59) 79 79 5 rfl Try.underlying79 info5 (.slice Ao33 y261.length co33) y261 t265 _ _ _ (fun k_ => (w.heap.size ≤ k_) ∧ some k_ ≠ (u10 : Value).ownBlock ∧ some k_ ≠ (.slice Ao34 t265.length co34 : Value).ownBlock) rfl rfl ?aO ?aR ?aB ?aS ?_; (case aO => exact (by (with_reducible repeat (first | apply Kd.R_alloc | apply Kd.R_drewN | apply Kd.R_drew)); exact HO263.out)); (case aR => repeat (first | exact (Kd.R_reads' HO267.out).2.2 | (with_reducible refine Kd.C_alloc ?_ _) | (with_reducible refine Kd.C_drewN ?_ _) | (with_reducible refine Kd.C_drew ?_))); (case aB => exact (bB)); (case aS => exact (below_size (bB))); intro w32 ho hb hg; rw [← Ny268.out] at ho; have n0_ := Aside0.mk (Kd.R_over' (v := (.slice Ao33 y261.length co33)) (by (with_reducible repeat (first | apply Kd.R_alloc | apply Kd.R_drewN | apply Kd.R_drew)); exact HO_4.out) (Kd.R_typed HO263.out) (by decide) hg); have n1_ := Aside0.mk (Kd.R_after (v := (.slice Ao33 y261.length co33)) (v1 := (.slice Ao33 y261.length co33)) (ok := (fun k_ => (w.heap.size ≤ k_) ∧ some k_ ≠ (.slice Ao34 t265.length co34 : Value).ownBlock)) (by (with_reducible repeat (first | apply Kd.R_alloc | apply Kd.R_drewN | apply Kd.R_drew)); exact Kd.R_mono HO_10.out (fun _ hk => ⟨⟨hk.1.1, hk.2⟩, hk.1.2⟩)) hg (.inl rfl)); have n2_ := Aside0.mk (ho); have n3_ := Aside0.mk (Kd.R_after (v := (.slice Ao33 y261.length co33)) (v1 := (.slice Ao33 y261.length co33)) (ok := (fun k_ => (w.heap.size ≤ k_) ∧ some k_ ≠ (u10 : Value).ownBlock)) (by (with_reducible repeat (first | apply Kd.R_alloc | apply Kd.R_drewN | apply Kd.R_drew)); exact Kd.R_mono HO267.out (fun _ hk => ⟨⟨hk.1.1.1, hk.1.2⟩, hk.2⟩)) hg (.inl rfl)); have n4_ := Aside0.mk (hb); clear HO_4; clear HO_10; clear HO263; clear HO267; clear HB; have HO_4 := n0_; have HO_10 := n1_; have HO263 := n2_; have HO267 := n3_; have HB := n4_; clear n0_ n1_ n2_ n3_ n4_; clear ho hb hg) | ((with_reducible refine gate_builtin (b := .append) (xs := #[.tmp 61, .tmp 62]) rfl ?_); at_builtin; refine Kd.R_append_rows (Kd.int .u8) (w0 := w) w.heap.size rfl (.tmp 61) (.tmp 62) 79 5 (.int .u8 0) 1 rfl Try.underlying79 info5 rfl (by decide) (by omega) u10 x10_2 y268 _ _ _ (fun k_ => (w.heap.size ≤ k_) ∧ some k_ ≠ (.slice Ao33 y261.length co33 : Value).ownBlock ∧ some k_ ≠ (.slice Ao34 t265.length co34 : Value).ownBlock) (fun _ => False) rfl rfl ?aO ?aR (fun _ _ h => h) (fun _ h => h.elim) ?aF ?aB ?aS ?aL ?_; (case aR => rw [show y261.length = y268.length from (Kd.R_reads' HO263.out).1]; repeat (first | exact (Kd.R_reads' HO263.out).2.2 | (with_reducible refine Kd.C_alloc ?_ _) | (with_reducible refine Kd.C_drewN ?_ _) | (with_reducible refine Kd.C_drew ?_))); (case aB => exact (bB)); (case aF => exact (fun k_ hk => ⟨(Nat.le_trans (below_size (bB)) hk), Kd.fresh' (Kd.R_lt (by (with_reducible repeat (first | apply Kd.R_alloc | apply Kd.R_drewN | apply Kd.R_drew)); exact HO263.out)) k_ hk, Kd.fresh' (Kd.R_lt (by (with_reducible repeat (first | apply Kd.R_alloc | apply Kd.R_drewN | apply Kd.R_drew)); exact HO267.out)) k_ hk⟩)); (case aO => exact (by (with_reducible repeat (first | apply Kd.R_alloc | apply Kd.R_drewN | apply Kd.R_drew)); exact Kd.R_mono HO_10.out (fun _ hk => ⟨hk.1.1, ⟨hk.2, hk.1.2⟩⟩))); (case aS => exact (below_size (bB))); (case aL => have := LMc28.out; have hlx_ := (Kd.R_reads' HO263.out).1; omega); intro v270 w35 ho hb hg hat; rw [← Ny269.out] at ho; have n0_ := Aside0.mk (Kd.R_over' (by (with_reducible repeat (first | apply Kd.R_alloc | apply Kd.R_drewN | apply Kd.R_drew)); exact HO_4.out) (Kd.R_typed (by (with_reducible repeat (first | apply Kd.R_alloc | apply Kd.R_drewN | apply Kd.R_drew)); exact HO_10.out)) (by decide) hg); have n1_ := Aside0.mk (Kd.R_after (ok := (fun k_ => (w.heap.size ≤ k_) ∧ some k_ ≠ (.slice Ao34 t265.length co34 : Value).ownBlock)) (by (with_reducible repeat (first | apply Kd.R_alloc | apply Kd.R_drewN | apply Kd.R_drew)); exact Kd.R_mono HO263.out (fun _ hk => ⟨⟨hk.1, hk.2.2⟩, hk.2.1⟩)) hg hat); have n2_ := Aside0.mk (Kd.R_after (ok := (fun k_ => (w.heap.size ≤ k_) ∧ some k_ ≠ (.slice Ao33 y261.length co33 : Value).ownBlock)) (by (with_reducible repeat (first | apply Kd.R_alloc | apply Kd.R_drewN | apply Kd.R_drew)); exact Kd.R_mono HO267.out (fun _ hk => ⟨⟨hk.1.1, hk.2⟩, hk.1.2⟩)) hg hat); have n3_ := Aside0.mk (hb); have n4_ := Aside0.mk (ho); clear HO_4; clear HO263; clear HO267; clear HB; clear HO_10; have HO_4 := n0_; have HO263 := n1_; have HO267 := n2_; have HB := n3_; have HO271 := n4_; clear n0_ n1_ n2_ n3_ n4_; clear ho hb hg hat))
               go_roundg k2
               case measure => have := HK1.out; have := HK2.out; omega
               case rel => exact ⟨(y269), (wrap64 (x11_2 - 1)), (by first | rfl | (simp; done) | (simp [*]; done)), H', ⟨by have := HK1.out; have := HK2.out; omega⟩, ⟨by (with_reducible repeat (first | apply Kd.R_alloc | apply Kd.R_drewN | apply Kd.R_drew)); exact HO_4.out⟩, ⟨by (with_reducible repeat (first | apply Kd.R_alloc | apply Kd.R_drewN | apply Kd.R_drew)); exact Kd.R_mono HO271.out (fun _ hk => hk.1)⟩, ⟨by repeat (first | (with_reducible first | exact HB.out | apply below_alloc | apply pw_below_drewN | apply below_drew1) | exact HB.out)⟩⟩
              ·rw [if_neg c28] at H
               exact absurd H (by simp)
             ·rw [if_neg c26] at H
              exact absurd H (by simp)
            ·rw [if_neg c25] at H
             exact absurd H (by simp)
           ·rw [if_neg c24] at H
            exact absurd H (by simp)
          ·rw [if_neg c23] at H
           have c23b0 : decide (0 ≤ x11_2) = false := decide_eq_false c23
           clear c23
           simp only [Option.some.injEq, Prod.mk.injEq] at H
           obtain ⟨rfl, rfl⟩ := H
           have hcv36 := own_string (P := Try.prog) Try.underlying79 Try.underlying5 Try.underlying9 (Kd.own_of_R HO_10.out)
           go_wp2
           go_ret2
           exact ⟨by first | rfl | (simp [errW_none, errW_some] <;> rfl) | (simp only [← hji16]; first | rfl | (simp [errW_none, errW_some] <;> rfl)) | (simp [*, errW_none, errW_some] <;> rfl), by repeat (first | (with_reducible first | exact HB.out | apply below_alloc | apply pw_below_drewN | apply below_drew1) | exact HB.out)⟩
       ·rw [if_neg c18] at H
        exact absurd H (by simp)
      ·rw [if_neg c17] at H
       exact absurd H (by simp)
 ·replace c3 := Bool.eq_false_iff.mpr c3
  subst c3
  have H1 : (some ((⟨#[]⟩ : ByteArray), 3)) = some (r1, r2) := by rw [if_neg (show ¬ (false = true) by decide)] at H; exact H
  clear H
  have H := H1
  clear H1
  simp only [Option.some.injEq, Prod.mk.injEq] at H
  obtain ⟨rfl, rfl⟩ := H
  go_enter Try.func28, Try.ntmps28
  go_wp2_with (first | ((with_reducible refine gate_callee (f := 45) rfl ?_); refine goesL_ (some 14) rfl rfl Try.func45 (by kernel_rfl) rfl #[.slice A0 l0.length c0] rfl (by (try simp only [List.map_toArray, List.map_cons, List.map_nil]); first | done | rfl | (simp only [List.length_drop, List.length_take]; rfl)) ?_; (with_reducible refine (nat_Valid.calls _ _ l0 false _ ?side1 ?side2 A2.out).mono ?_); (case side1 => repeat (first | exact (Kd.V_reads' HO0.out).2.2 | (with_reducible refine Kd.C_alloc ?_ _) | (with_reducible refine Kd.C_drewN ?_ _) | (with_reducible refine Kd.C_drew ?_))); (case side2 => exact (Kd.V_reads' HO0.out).2.1); rintro e w' ⟨rfl, ⟨nd, rfl⟩⟩; refine ⟨_, rfl, ?_⟩))
  go_ret2
  exact ⟨by first | rfl | (simp [errW_none, errW_some] <;> rfl) | (simp [*, errW_none, errW_some] <;> rfl), by repeat (first | (with_reducible first | exact HB.out | apply below_alloc | apply pw_below_drewN | apply below_drew1) | exact HB.out)⟩
end Go.Proofs.Ytfmobogdnlmdbaa.P
end
section
namespace Go.Proofs.Ytfmobogdnlmdbaa.P
open Go.RowKit Go.Proofs.YtfmobogdnlmdbaaW.PrintWords Go.Proofs.YtfmobogdnlmdbaaW.PrintLast Go.Proofs.YtfmobogdnlmdbaaW.PrintMore Go.Proofs.YtfmobogdnlmdbaaW
attribute [local go_sem] max2_int min2_int max_two min_two max_three min_three max_four min_four
set_option linter.unusedVariables false
set_option linter.unusedSimpArgs false
set_option maxHeartbeats 8000000 in
set_option maxRecDepth 100000 in
theorem slices_Equal_uint32_uint32.calls (k : Nat) (A0 : Option Addr) (c0 : Nat) (l0 : List Int) (A1 : Option Addr) (c1 : Nat) (l1 : List Int) (r : Bool) (w : World) (hr0 : Kd.C (Kd.int .u32) w A0 l0.length l0) (hc0 : l0.length ≤ c0) (hr1 : Kd.C (Kd.int .u32) w A1 l1.length l1) (hc1 : l1.length ≤ c1) (h : slices_Equal_uint32_uint32.f k l0 l1 = some r) :
  Calls Try.prog 31 #[.slice A0 l0.length c0, .slice A1 l1.length c1] w fun e w' => e = .returned (.bool r) ∧ Drawn0 w w' := by
 have HR0 := Aside0.mk hr0
 have HC0 := Aside0.mk hc0
 clear hr0 hc0
 have HR1 := Aside0.mk hr1
 have HC1 := Aside0.mk hc1
 clear hr1 hc1
 have H : (if (l0.length : Int) = (l1.length : Int) then (slices_Equal_uint32_uint32.l0 k l0 l1 (l0.length : Int) 0) else (some false)) = some r := h
 clear h
 by_cases c3 : (l0.length : Int) = (l1.length : Int)
 ·rw [if_pos c3] at H
  have c3b0 : ((l0.length : Int) == (l1.length : Int)) = true := beq_iff_eq.mpr c3
  have c3b1 : ((l0.length : Int) != (l1.length : Int)) = false := bne_eq_false_iff_eq.mpr c3
  have c3b2 : (l0.length == l1.length) = true := by first | simpa using c3 | (simp at c3 ⊢; omega)
  clear c3
  have H' := Aside0.mk H
  clear H
  go_enter Try.func31, Try.ntmps31
  go_wp2
  repeat (go_quiet (fail); try go_wp2)
  go_loopg [13] k (fun kq v13 w' => ∃ (x13_1 : Int), v13 = .int .i64 x13_1 ∧ Aside0 (slices_Equal_uint32_uint32.l0 kq l0 l1 (l0.length : Int) x13_1 = some r) ∧ Aside0 (kq ≤ k) ∧ Drawn0 w w')
  case atStart => exact ⟨(0), (by first | rfl | (simp; done) | (simp [*]; done)), H', ⟨Nat.le_refl _⟩, by repeat (first | exact Drawn0.refl _ | apply Drawn0.step)⟩
  case round =>
   clear H'
   try clear c1
   try clear p2
   try clear c3
   try clear c3b0
   try clear c3b1
   try clear c3b2
   obtain ⟨x13_1, rfl, HA, HK1, ⟨m1, rfl⟩⟩ := hrel
   cases gk with
   | zero => exact absurd HA.out (by simp [slices_Equal_uint32_uint32.l0])
   | succ k1 =>
    have H := HA.out
    clear HA
    simp only [slices_Equal_uint32_uint32.l0] at H
    by_cases c4 : x13_1 < (l0.length : Int)
    ·rw [if_pos c4] at H
     have c4b0 : decide (x13_1 < (l0.length : Int)) = true := decide_eq_true c4
     clear c4
     by_cases c5 : 0 ≤ x13_1
     ·rw [if_pos c5] at H
      have c5b0 : decide (0 ≤ x13_1) = true := decide_eq_true c5
      clear c5
      by_cases c6 : x13_1 < (l0.length : Int)
      ·rw [if_pos c6] at H
       have c6b0 : decide (x13_1 < (l0.length : Int)) = true := decide_eq_true c6
       clear c6
       by_cases c7 : x13_1 < (l1.length : Int)
       ·rw [if_pos c7] at H
        have c7b0 : decide (x13_1 < (l1.length : Int)) = true := decide_eq_true c7
        clear c7
        by_cases c8 : (rd l0 x13_1) = (rd l1 x13_1)
        ·rw [if_pos c8] at H
         have c8b0 : ((rd l0 x13_1) == (rd l1 x13_1)) = true := beq_iff_eq.mpr c8
         have c8b1 : ((rd l0 x13_1) != (rd l1 x13_1)) = false := bne_eq_false_iff_eq.mpr c8
         clear c8
         have H' := Aside0.mk H
         clear H
         have p272 : 0 ≤ (x13_1 : Int) := of_decide_eq_true aS
         have q272 : x13_1 < (l0.length : Int) := of_decide_eq_true aS
         obtain ⟨ad272, e272, hx272_0⟩ := Kd.at_int HR0.out x13_1 p272 q272
         cases e272
         replace p272 := eq_true p272
         replace q272 := eq_true q272
         have p273 : 0 ≤ (x13_1 : Int) := of_decide_eq_true aS
         have q273 : x13_1 < (l1.length : Int) := of_decide_eq_true aS
         obtain ⟨ad273, e273, hx273_0⟩ := Kd.at_int HR1.out x13_1 p273 q273
         cases e273
         replace p273 := eq_true p273
         replace q273 := eq_true q273
         go_wp2
         repeat (go_quiet (fail); try go_wp2)
         go_roundg k1
         case measure => have := HK1.out; omega
         case rel => exact ⟨(wrap64 (x13_1 + 1)), (by first | rfl | (simp; done) | (simp [*]; done)), H', ⟨by have := HK1.out; omega⟩, by repeat (first | exact Drawn0.refl _ | apply Drawn0.step)⟩
        ·rw [if_neg c8] at H
         have c8b0 : ((rd l0 x13_1) == (rd l1 x13_1)) = false := beq_eq_false_iff_ne.mpr c8
         have c8b1 : ((rd l0 x13_1) != (rd l1 x13_1)) = true := bne_iff_ne.mpr c8
         obtain rfl := Option.some.inj H
         have p272 : 0 ≤ (x13_1 : Int) := of_decide_eq_true aS
         have q272 : x13_1 < (l0.length : Int) := of_decide_eq_true aS
         obtain ⟨ad272, e272, hx272_0⟩ := Kd.at_int HR0.out x13_1 p272 q272
         cases e272
         replace p272 := eq_true p272
         replace q272 := eq_true q272
         have p273 : 0 ≤ (x13_1 : Int) := of_decide_eq_true aS
         have q273 : x13_1 < (l1.length : Int) := of_decide_eq_true aS
         obtain ⟨ad273, e273, hx273_0⟩ := Kd.at_int HR1.out x13_1 p273 q273
         cases e273
         replace p273 := eq_true p273
         replace q273 := eq_true q273
         go_wp2
         repeat (go_quiet (fail); try go_wp2)
         go_ret
         exact ⟨by first | rfl | (simp; done) | (simp [*]; done), by repeat (first | exact Drawn0.refl _ | apply Drawn0.step)⟩
       ·rw [if_neg c7] at H
        exact absurd H (by simp)
      ·rw [if_neg c6] at H
       exact absurd H (by simp)
     ·rw [if_neg c5] at H
      exact absurd H (by simp)
    ·rw [if_neg c4] at H
     have c4b0 : decide (x13_1 < (l0.length : Int)) = false := decide_eq_false c4
     clear c4
     obtain rfl := Option.some.inj H
     go_wp2
     repeat (go_quiet (fail); try go_wp2)
     go_ret
     exact ⟨by first | rfl | (simp; done) | (simp [*]; done), by repeat (first | exact Drawn0.refl _ | apply Drawn0.step)⟩
 ·rw [if_neg c3] at H
  have c3b0 : ((l0.length : Int) == (l1.length : Int)) = false := beq_eq_false_iff_ne.mpr c3
  have c3b1 : ((l0.length : Int) != (l1.length : Int)) = true := bne_iff_ne.mpr c3
  have c3b2 : (l0.length == l1.length) = false := by first | simpa using c3 | (simp at c3 ⊢; omega)
  obtain rfl := Option.some.inj H
  go_enter Try.func31, Try.ntmps31
  go_wp2
  repeat (go_quiet (fail); try go_wp2)
  go_ret
  exact ⟨by first | rfl | (simp; done) | (simp [*]; done), by repeat (first | exact Drawn0.refl _ | apply Drawn0.step)⟩
set_option maxHeartbeats 8000000 in
set_option maxRecDepth 100000 in
theorem nat_DivMod.calls (k : Nat) (A0 : Option Addr) (c0 : Nat) (l0 : List Int) (A1 : Option Addr) (c1 : Nat) (l1 : List Int) (r1 : List Int) (r2 : List Int) (r3 : Int) (w : World) (hr0 : Kd.C (Kd.int .u32) w A0 l0.length l0) (hc0 : l0.length ≤ c0) (hr1 : Kd.C (Kd.int .u32) w A1 l1.length l1) (hc1 : l1.length ≤ c1) (h : nat_DivMod.f k l0 l1 = some (r1, r2, r3)) :
  Calls Try.prog 39 #[.slice A0 l0.length c0, .slice A1 l1.length c1] w fun e w' => ∃ v0_ v1_ : Value, e = .returned (.tuple #[v0_, v1_, .int .i64 r3]) ∧ Kd.V (Kd.int .u32) 36 w' w.heap.size (fun k_ => (w.heap.size ≤ k_)) v0_ r1 ∧ Kd.V (Kd.int .u32) 36 w' w.heap.size (fun k_ => (w.heap.size ≤ k_)) v1_ r2 ∧ Below w.heap.size w w' := by
 have HR0 := Aside0.mk hr0
 have HC0 := Aside0.mk hc0
 clear hr0 hc0
 have HR1 := Aside0.mk hr1
 have HC1 := Aside0.mk hc1
 clear hr1 hc1
 have HB := Aside0.mk (Below.refl w.heap.size w)
 have H : ((nat_both.f l0 l1).bind fun t274 => (if t274 = true then (if (l1.length : Int) = 0 then (some (([] : List Int), ([] : List Int), 20)) else ((mag_DivMod.f k l0 l1).bind fun bt275 => (some (bt275.1, bt275.2, 0)))) else (some (([] : List Int), ([] : List Int), 3)))) = some (r1, r2, r3) := h
 clear h
 replace H := Option.bind_eq_some_iff.mp H
 obtain ⟨t274, A30, H⟩ := H
 replace H : (if t274 = true then (if (l1.length : Int) = 0 then (some (([] : List Int), ([] : List Int), 20)) else ((mag_DivMod.f k l0 l1).bind fun bt275 => (some (bt275.1, bt275.2, 0)))) else (some (([] : List Int), ([] : List Int), 3))) = some (r1, r2, r3) := H
 have A3 := Aside0.mk A30
 clear A30
 by_cases c4 : t274 = true
 ·subst c4
  have H1 : (if (l1.length : Int) = 0 then (some (([] : List Int), ([] : List Int), 20)) else ((mag_DivMod.f k l0 l1).bind fun bt275 => (some (bt275.1, bt275.2, 0)))) = some (r1, r2, r3) := by rw [if_pos rfl] at H; exact H
  clear H
  have H := H1
  clear H1
  by_cases c5 : (l1.length : Int) = 0
  ·rw [if_pos c5] at H
   have c5b0 : ((l1.length : Int) == 0) = true := beq_iff_eq.mpr c5
   have c5b1 : ((l1.length : Int) != 0) = false := bne_eq_false_iff_eq.mpr c5
   clear c5
   simp only [Option.some.injEq, Prod.mk.injEq] at H
   obtain ⟨rfl, rfl, rfl⟩ := H
   go_enter Try.func39, Try.ntmps39
   go_wp2_with (first | ((with_reducible refine gate_callee (f := 54) rfl ?_); refine goesL_ (some 10) rfl rfl Try.func54 (by kernel_rfl) rfl #[.slice A0 l0.length c0, .slice A1 l1.length c1] rfl (by (try simp only [List.map_toArray, List.map_cons, List.map_nil]); first | done | rfl | (simp only [List.length_drop, List.length_take]; rfl)) ?_; (with_reducible refine (nat_both.calls _ _ l0 _ _ l1 true _ ?side1 ?side2 ?side3 ?side4 A3.out).mono ?_); (case side1 => repeat (first | exact HR0.out | (with_reducible refine Kd.C_alloc ?_ _) | (with_reducible refine Kd.C_drewN ?_ _) | (with_reducible refine Kd.C_drew ?_))); (case side2 => exact HC0.out); (case side3 => repeat (first | exact HR1.out | (with_reducible refine Kd.C_alloc ?_ _) | (with_reducible refine Kd.C_drewN ?_ _) | (with_reducible refine Kd.C_drew ?_))); (case side4 => exact HC1.out); rintro e w' ⟨rfl, ⟨nd, rfl⟩⟩; refine ⟨_, rfl, ?_⟩))
   go_ret3
   exact ⟨_, _, by first | rfl | (simp [errW_none, errW_some] <;> rfl) | (simp [*, errW_none, errW_some] <;> rfl), Kd.V_nil _ _ _ _ _, Kd.V_nil _ _ _ _ _, by repeat (first | (with_reducible first | exact HB.out | apply below_alloc | apply pw_below_drewN | apply below_drew1) | exact HB.out)⟩
  ·rw [if_neg c5] at H
   have c5b0 : ((l1.length : Int) == 0) = false := beq_eq_false_iff_ne.mpr c5
   have c5b1 : ((l1.length : Int) != 0) = true := bne_iff_ne.mpr c5
   have c5b2 : ¬ (l1 = []) := fun h_ => c5 (by rw [h_]; rfl)
   replace H := Option.bind_eq_some_iff.mp H
   obtain ⟨⟨t275, t278⟩, A60, H⟩ := H
   replace H : (some (t275, t278, 0)) = some (r1, r2, r3) := H
   have A6 := Aside0.mk A60
   clear A60
   simp only [Option.some.injEq, Prod.mk.injEq] at H
   obtain ⟨rfl, rfl, rfl⟩ := H
   go_enter Try.func39, Try.ntmps39
   go_wp2_with (first | ((with_reducible refine gate_callee (f := 54) rfl ?_); refine goesL_ (some 10) rfl rfl Try.func54 (by kernel_rfl) rfl #[.slice A0 l0.length c0, .slice A1 l1.length c1] rfl (by (try simp only [List.map_toArray, List.map_cons, List.map_nil]); first | done | rfl | (simp only [List.length_drop, List.length_take]; rfl)) ?_; (with_reducible refine (nat_both.calls _ _ l0 _ _ l1 true _ ?side1 ?side2 ?side3 ?side4 A3.out).mono ?_); (case side1 => repeat (first | exact HR0.out | (with_reducible refine Kd.C_alloc ?_ _) | (with_reducible refine Kd.C_drewN ?_ _) | (with_reducible refine Kd.C_drew ?_))); (case side2 => exact HC0.out); (case side3 => repeat (first | exact HR1.out | (with_reducible refine Kd.C_alloc ?_ _) | (with_reducible refine Kd.C_drewN ?_ _) | (with_reducible refine Kd.C_drew ?_))); (case side4 => exact HC1.out); rintro e w' ⟨rfl, ⟨nd, rfl⟩⟩; refine ⟨_, rfl, ?_⟩) | ((with_reducible refine gate_callee (f := 48) rfl ?_); refine goesL_ (some 19) rfl rfl Try.func48 (by kernel_rfl) rfl #[.slice A0 l0.length c0, .slice A1 l1.length c1] rfl (by (try simp only [List.map_toArray, List.map_cons, List.map_nil]); first | done | rfl | (simp only [List.length_drop, List.length_take]; rfl)) ?_; (with_reducible refine (mag_DivMod.calls k _ _ l0 _ _ l1 t275 t278 _ ?side1 ?side2 ?side3 ?side4 A6.out).mono ?_); (case side1 => repeat (first | exact HR0.out | (with_reducible refine Kd.C_alloc ?_ _) | (with_reducible refine Kd.C_drewN ?_ _) | (with_reducible refine Kd.C_drew ?_))); (case side2 => exact HC0.out); (case side3 => repeat (first | exact HR1.out | (with_reducible refine Kd.C_alloc ?_ _) | (with_reducible refine Kd.C_drewN ?_ _) | (with_reducible refine Kd.C_drew ?_))); (case side4 => exact HC1.out); rintro e w7 ⟨v276, v279, rfl, ho0, ho1, hb⟩; refine ⟨_, rfl, ?_⟩; have n0_ := Aside0.mk (Kd.V_lower (Kd.V_mono (ok' := fun k_ => (w.heap.size ≤ k_)) ho0 (fun k_ hk_ => (Nat.le_trans (below_size (bB)) hk_))) (below_size (bB))); have n1_ := Aside0.mk (Kd.V_lower (Kd.V_mono (ok' := fun k_ => (w.heap.size ≤ k_)) ho1 (fun k_ hk_ => (Nat.le_trans (below_size (bB)) hk_))) (below_size (bB))); have n2_ := Aside0.mk (below_step (bB) hb); clear HB; have HO277 := n0_; have HO280 := n1_; have HB := n2_; clear n0_ n1_ n2_; (try clear hb); (try clear hb2); (try clear hk); (try clear hi); (try clear ho0); (try clear ho1)))
   go_ret3
   exact ⟨_, _, by first | rfl | (simp [errW_none, errW_some] <;> rfl) | (simp [*, errW_none, errW_some] <;> rfl), by (with_reducible repeat (first | apply Kd.V_alloc | apply Kd.V_drewN | apply Kd.V_drew)); exact HO277.out, by (with_reducible repeat (first | apply Kd.V_alloc | apply Kd.V_drewN | apply Kd.V_drew)); exact HO280.out, by repeat (first | (with_reducible first | exact HB.out | apply below_alloc | apply pw_below_drewN | apply below_drew1) | exact HB.out)⟩
 ·replace c4 := Bool.eq_false_iff.mpr c4
  subst c4
  have H1 : (some (([] : List Int), ([] : List Int), 3)) = some (r1, r2, r3) := by rw [if_neg (show ¬ (false = true) by decide)] at H; exact H
  clear H
  have H := H1
  clear H1
  simp only [Option.some.injEq, Prod.mk.injEq] at H
  obtain ⟨rfl, rfl, rfl⟩ := H
  go_enter Try.func39, Try.ntmps39
  go_wp2_with (first | ((with_reducible refine gate_callee (f := 54) rfl ?_); refine goesL_ (some 10) rfl rfl Try.func54 (by kernel_rfl) rfl #[.slice A0 l0.length c0, .slice A1 l1.length c1] rfl (by (try simp only [List.map_toArray, List.map_cons, List.map_nil]); first | done | rfl | (simp only [List.length_drop, List.length_take]; rfl)) ?_; (with_reducible refine (nat_both.calls _ _ l0 _ _ l1 false _ ?side1 ?side2 ?side3 ?side4 A3.out).mono ?_); (case side1 => repeat (first | exact HR0.out | (with_reducible refine Kd.C_alloc ?_ _) | (with_reducible refine Kd.C_drewN ?_ _) | (with_reducible refine Kd.C_drew ?_))); (case side2 => exact HC0.out); (case side3 => repeat (first | exact HR1.out | (with_reducible refine Kd.C_alloc ?_ _) | (with_reducible refine Kd.C_drewN ?_ _) | (with_reducible refine Kd.C_drew ?_))); (case side4 => exact HC1.out); rintro e w' ⟨rfl, ⟨nd, rfl⟩⟩; refine ⟨_, rfl, ?_⟩))
  go_ret3
  exact ⟨_, _, by first | rfl | (simp [errW_none, errW_some] <;> rfl) | (simp [*, errW_none, errW_some] <;> rfl), Kd.V_nil _ _ _ _ _, Kd.V_nil _ _ _ _ _, by repeat (first | (with_reducible first | exact HB.out | apply below_alloc | apply pw_below_drewN | apply below_drew1) | exact HB.out)⟩
end Go.Proofs.Ytfmobogdnlmdbaa.P
end
