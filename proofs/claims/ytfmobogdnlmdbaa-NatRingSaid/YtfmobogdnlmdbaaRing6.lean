/- NatRing: Cmp, Add, Mul and Sub of two magnitudes of at most 40 words answer as comparison, sum, product and difference, for every input. No condition. (text 6 of 7) -/
import Derived.Lib.SliceRun
import Derived.Test.YtfmobogdnlmdbaaRing5
section
namespace Go.Proofs.Ytfmobogdnlmdbaa.P
open Go.RowKit Go.Proofs.YtfmobogdnlmdbaaW.PrintWords Go.Proofs.YtfmobogdnlmdbaaW.PrintLast Go.Proofs.YtfmobogdnlmdbaaW.PrintMore Go.Proofs.YtfmobogdnlmdbaaW
attribute [local go_sem] max2_int min2_int max_two min_two max_three min_three max_four min_four
set_option linter.unusedVariables false
set_option linter.unusedSimpArgs false
set_option maxHeartbeats 8000000 in
set_option maxRecDepth 100000 in
theorem isochroneref01_Mul.calls (k : Nat) (A0 : Option Addr) (c0 : Nat) (l0 : List Int) (A1 : Option Addr) (c1 : Nat) (l1 : List Int) (r : List Int) (w : World) (hr0 : Kd.C (Kd.int .i64) w A0 l0.length l0) (hc0 : l0.length ≤ c0) (hr1 : Kd.C (Kd.int .i64) w A1 l1.length l1) (hc1 : l1.length ≤ c1) (h : isochroneref01_Mul.f k l0 l1 = some r) :
  Calls Try.prog 19 #[.slice A0 l0.length c0, .slice A1 l1.length c1] w fun e w' => ∃ v0_ : Value, e = .returned (v0_) ∧ Kd.R (Kd.int .i64) 3 w' w.heap.size (fun _ => True) v0_ r ∧ Below w.heap.size w w' := by
 have HR0 := Aside0.mk hr0
 have HC0 := Aside0.mk hc0
 clear hr0 hc0
 have HR1 := Aside0.mk hr1
 have HC1 := Aside0.mk hc1
 clear hr1 hc1
 have HB := Aside0.mk (Below.refl w.heap.size w)
 have H : (if 0 ≤ (wrap64 ((wrap64 ((l0.length : Int) + (l1.length : Int))) + 1)) then (if (wrap64 ((wrap64 ((l0.length : Int) + (l1.length : Int))) + 1) : Int).toNat ≤ 35184372088832 then (isochroneref01_Mul.l0 k l1 (List.replicate (wrap64 ((wrap64 ((l0.length : Int) + (l1.length : Int))) + 1) : Int).toNat 0) l0 (l0.length : Int) 0) else (none)) else (none)) = some r := h
 clear h
 obtain ⟨ji3, hji3⟩ : ∃ j_ : Int, (wrap64 ((wrap64 ((l0.length : Int) + (l1.length : Int))) + 1)) = j_ := ⟨_, rfl⟩
 replace H : (if 0 ≤ (ji3) then (if (ji3 : Int).toNat ≤ 35184372088832 then (isochroneref01_Mul.l0 k l1 (List.replicate (ji3 : Int).toNat 0) l0 (l0.length : Int) 0) else (none)) else (none)) = some r := by first | (rw [hji3] at H; exact H) | (simp only [hji3] at H ⊢; exact H)
 have hji3w : (IntKind.i64.wrap ((wrap64 ((l0.length : Int) + (l1.length : Int))) + 1)) = ji3 := (i64_w _).trans hji3
 by_cases c4 : 0 ≤ (ji3)
 ·rw [if_pos c4] at H
  have c4b0 := eq_true c4
  have c4b1 : decide (0 ≤ (ji3)) = true := decide_eq_true c4
  clear c4
  by_cases c5 : (ji3 : Int).toNat ≤ 35184372088832
  ·rw [if_pos c5] at H
   have c5b0 := eq_true c5
   have c5b1 : decide ((ji3 : Int).toNat ≤ 35184372088832) = true := decide_eq_true c5
   clear c5
   obtain ⟨y407, hy407⟩ : ∃ y_ : List Int, y_ = (List.replicate (ji3 : Int).toNat 0) := ⟨_, rfl⟩
   replace H : (isochroneref01_Mul.l0 k l1 y407 l0 (l0.length : Int) 0) = some r := by first | (rw [hy407]; with_reducible exact H) | (have H2_ := (Option.bind_some _ _).symm.trans H; rw [hy407]; with_reducible exact H2_) | (have H2_ := (Option.bind_some _ _).symm.trans H; with_reducible exact H2_) | with_reducible exact H | (rw [hy407]; exact H) | exact H
   have Ny407 := Aside0.mk hy407
   clear hy407
   have H' := Aside0.mk H
   clear H
   go_enter Try.func19, Try.ntmps19
   go_wp2_with (first | ((with_reducible refine gate_dst (N := 18) rfl ?_); refine Kd.R_make (Kd.int .i64) _ 3 rfl (N := 18) rfl 30 _ _ rfl ji3 rfl rfl Try.underlying30 (.int .i64 0) 8 info3 rfl (by decide) (by omega) 0 (ok := fun _ => True) (okp := fun _ => True) rfl (fun _ hk => hk) trivial (of_decide_eq_true aS) (Nat.le_trans (Nat.mul_le_mul_right _ (of_decide_eq_true aS : ji3.toNat ≤ 35184372088832)) (by omega)) (Below.refl _ _) (Nat.le_refl _) ?_; intro v408 w6 ho7 hb hg_ hnew_; clear hg_ hnew_; (first | rw [← Ny407.out] at ho7 | (simp only [Int.reduceToNat] at ho7; rw [← Ny407.out] at ho7)); have n0_ := Aside0.mk (Kd.R_lower ho7 (below_size (bB))); have n1_ := Aside0.mk (below_step (bB) hb); clear HB; have HO409 := n0_; have HB := n1_; clear n0_ n1_; clear hb ho7))
   go_loopg [21] k (fun kq v21 w' => ∃ (x5_1 : List Int) (x21_1 : Int), v21 = .int .i64 x21_1 ∧ Aside0 (isochroneref01_Mul.l0 kq l1 x5_1 l0 (l0.length : Int) x21_1 = some r) ∧ Aside0 (kq ≤ k) ∧ Aside0 (Kd.R (Kd.int .i64) 3 w' w.heap.size (fun _ => True) v408 x5_1) ∧ Aside0 (Below w.heap.size w w'))
   case atStart => exact ⟨(y407), (0), (by first | rfl | (simp; done) | (simp [*]; done)), H', ⟨Nat.le_refl _⟩, ⟨by (with_reducible repeat (first | apply Kd.R_alloc | apply Kd.R_drewN | apply Kd.R_drew)); exact HO409.out⟩, ⟨by repeat (first | (with_reducible first | exact HB.out | apply below_alloc | apply pw_below_drewN | apply below_drew1) | exact HB.out)⟩⟩
   case round =>
    clear H'
    try clear c1
    try clear p2
    try clear c4
    try clear c4b0
    try clear c4b1
    try clear c5
    try clear c5b0
    try clear c5b1
    try clear p6
    obtain ⟨x5_1, x21_1, rfl, HA, HK1, HO_5, HB⟩ := hrel
    cases gk with
    | zero => exact absurd HA.out (by simp [isochroneref01_Mul.l0])
    | succ k1 =>
     have H := HA.out
     clear HA
     simp only [isochroneref01_Mul.l0] at H
     by_cases c8 : x21_1 < (l0.length : Int)
     ·rw [if_pos c8] at H
      have c8b0 : decide (x21_1 < (l0.length : Int)) = true := decide_eq_true c8
      clear c8
      by_cases c9 : 0 ≤ x21_1
      ·rw [if_pos c9] at H
       have c9b0 : decide (0 ≤ x21_1) = true := decide_eq_true c9
       clear c9
       by_cases c10 : x21_1 < (l0.length : Int)
       ·rw [if_pos c10] at H
        have c10b0 : decide (x21_1 < (l0.length : Int)) = true := decide_eq_true c10
        clear c10
        have H' := Aside0.mk H
        clear H
        have p413 : 0 ≤ (x21_1 : Int) := of_decide_eq_true aS
        have q413 : x21_1 < (l0.length : Int) := of_decide_eq_true aS
        obtain ⟨ad413, e413, hx413_0⟩ := Kd.at_int HR0.out x21_1 p413 q413
        cases e413
        replace hx413_0 := (HB.out.cell (World.block_lt_of_cell? w _ hx413_0)).trans hx413_0
        replace p413 := eq_true p413
        replace q413 := eq_true q413
        go_wp2
        go_loopg [8, 28] k1 (fun kq v8 v28 w' => ∃ (x5_2 : List Int) (x8_2 : Int) (x28_2 : Int), v8 = .int .i64 x8_2 ∧ v28 = .int .i64 x28_2 ∧ Aside0 (isochroneref01_Mul.l1 kq l1 x5_2 x21_1 (rd l0 x21_1) x8_2 l0 (l0.length : Int) x21_1 l1 (l1.length : Int) x28_2 = some r) ∧ Aside0 (kq ≤ k1) ∧ Aside0 (Kd.R (Kd.int .i64) 3 w' w.heap.size (fun _ => True) v408 x5_2) ∧ Aside0 (Below w.heap.size w w'))
        case atStart => exact ⟨(x5_1), (0), (0), (by first | rfl | (simp; done) | (simp [*]; done)), (by first | rfl | (simp; done) | (simp [*]; done)), H', ⟨Nat.le_refl _⟩, ⟨by (with_reducible repeat (first | apply Kd.R_alloc | apply Kd.R_drewN | apply Kd.R_drew)); exact HO_5.out⟩, ⟨by repeat (first | (with_reducible first | exact HB.out | apply below_alloc | apply pw_below_drewN | apply below_drew1) | exact HB.out)⟩⟩
        case round =>
         clear H'
         try clear c1
         try clear p2
         try clear c4
         try clear c4b0
         try clear c4b1
         try clear p4
         try clear q4
         try clear hx4
         try clear c5
         try clear c5b0
         try clear c5b1
         try clear p6
         try clear c8
         try clear c8b0
         try clear c9
         try clear c9b0
         try clear c10
         try clear c10b0
         try clear hx413_0
         try clear p2
         try clear p413
         try clear p6
         try clear q413
         obtain ⟨x5_2, x8_2, x28_2, rfl, rfl, HA, HK2, HO_5, HB⟩ := hrel
         cases gk with
         | zero => exact absurd HA.out (by simp [isochroneref01_Mul.l1])
         | succ k2 =>
          have H := HA.out
          clear HA
          simp only [isochroneref01_Mul.l1] at H
          by_cases c11 : x28_2 < (l1.length : Int)
          ·rw [if_pos c11] at H
           have c11b0 : decide (x28_2 < (l1.length : Int)) = true := decide_eq_true c11
           clear c11
           by_cases c12 : 0 ≤ x28_2
           ·rw [if_pos c12] at H
            have c12b0 : decide (0 ≤ x28_2) = true := decide_eq_true c12
            clear c12
            by_cases c13 : x28_2 < (l1.length : Int)
            ·rw [if_pos c13] at H
             have c13b0 : decide (x28_2 < (l1.length : Int)) = true := decide_eq_true c13
             clear c13
             obtain ⟨ji14, hji14⟩ : ∃ j_ : Int, (wrap64 (x21_1 + x28_2)) = j_ := ⟨_, rfl⟩
             replace H : (if 0 ≤ (ji14) then (if (ji14) < (x5_2.length : Int) then (isochroneref01_Mul.l1 k2 l1 (x5_2.set ((ji14) : Int).toNat (Int.tmod (wrap64 (x8_2 + (wrap64 ((rd x5_2 (ji14)) + (wrap64 ((rd l0 x21_1) * (rd l1 x28_2))))))) 10000)) x21_1 (rd l0 x21_1) (wrap64 (Int.tdiv (wrap64 (x8_2 + (wrap64 ((rd x5_2 (ji14)) + (wrap64 ((rd l0 x21_1) * (rd l1 x28_2))))))) 10000)) l0 (l0.length : Int) x21_1 l1 (l1.length : Int) (wrap64 (x28_2 + 1))) else (none)) else (none)) = some r := by first | (rw [hji14] at H; exact H) | (simp only [hji14] at H ⊢; exact H)
             have hji14w : (IntKind.i64.wrap (x21_1 + x28_2)) = ji14 := (i64_w _).trans hji14
             by_cases c15 : 0 ≤ (ji14)
             ·rw [if_pos c15] at H
              have c15b0 : decide (0 ≤ (ji14)) = true := decide_eq_true c15
              clear c15
              by_cases c16 : (ji14) < (x5_2.length : Int)
              ·rw [if_pos c16] at H
               have c16b0 : decide ((ji14) < (x5_2.length : Int)) = true := decide_eq_true c16
               clear c16
               obtain ⟨y416, hy416⟩ : ∃ y_ : List Int, y_ = (x5_2.set ((ji14) : Int).toNat (Int.tmod (wrap64 (x8_2 + (wrap64 ((rd x5_2 (ji14)) + (wrap64 ((rd l0 x21_1) * (rd l1 x28_2))))))) 10000)) := ⟨_, rfl⟩
               replace H : (isochroneref01_Mul.l1 k2 l1 y416 x21_1 (rd l0 x21_1) (wrap64 (Int.tdiv (wrap64 (x8_2 + (wrap64 ((rd x5_2 (ji14)) + (wrap64 ((rd l0 x21_1) * (rd l1 x28_2))))))) 10000)) l0 (l0.length : Int) x21_1 l1 (l1.length : Int) (wrap64 (x28_2 + 1))) = some r := by first | (rw [hy416]; with_reducible exact H) | (have H2_ := (Option.bind_some _ _).symm.trans H; rw [hy416]; with_reducible exact H2_) | (have H2_ := (Option.bind_some _ _).symm.trans H; with_reducible exact H2_) | with_reducible exact H | (rw [hy416]; exact H) | exact H
               have Ny416 := Aside0.mk hy416
               clear hy416
               have H' := Aside0.mk H
               clear H
               have p414 : 0 ≤ (x28_2 : Int) := of_decide_eq_true aS
               have q414 : x28_2 < (l1.length : Int) := of_decide_eq_true aS
               obtain ⟨ad414, e414, hx414_0⟩ := Kd.at_int HR1.out x28_2 p414 q414
               cases e414
               replace hx414_0 := (HB.out.cell (World.block_lt_of_cell? w _ hx414_0)).trans hx414_0
               replace p414 := eq_true p414
               replace q414 := eq_true q414
               obtain ⟨Ao18, co18, eo18⟩ := Kd.R_slice HO_5.out
               subst eo18
               have p415 : 0 ≤ ((ji14) : Int) := of_decide_eq_true aS
               have q415 : (ji14) < (x5_2.length : Int) := of_decide_eq_true aS
               obtain ⟨ad415, e415, hx415_0⟩ := Kd.at_int (Kd.R_reads' HO_5.out).2.2 (ji14) p415 q415
               cases e415
               replace p415 := eq_true p415
               replace q415 := eq_true q415
               have p17 : 0 ≤ ((ji14) : Int) := of_decide_eq_true aS
               have q17 : ((ji14) : Int) < ((x5_2.length : Int) : Int) := of_decide_eq_true aS
               obtain ⟨go17, co17, eo17, gb17, gl17, cl17, HG17⟩ := Kd.R_form HO_5.out (by omega)
               (first | cases eo17 | (injection eo17 with ea_ en_ ec_; (first | subst ea_ | (injection ea_ with ea_; subst ea_)); subst ec_; clear en_))
               have GB17 := Aside0.mk gb17
               have GG17 := Aside0.mk HG17
               clear gb17 gl17 HG17
               (first | simp only [add_plain] at hx415_0 | skip)
               obtain ⟨hx17_0, hf17_0⟩ := Kd.R_celln 0 HO_5.out ((ji14) : Int) p17 q17
               replace p17 := eq_true p17
               replace q17 := eq_true q17
               have HP19 := Kd.R_putg HO_5.out ((ji14) : Int) (Int.tmod (wrap64 (x8_2 + (wrap64 ((rd x5_2 (ji14)) + (wrap64 ((rd l0 x21_1) * (rd l1 x28_2))))))) 10000)
               go_wp2_with (first | ((with_reducible refine gate_store (t := 3) (p := 51) rfl ?_); refine store_event (t := 3) (p := 51) (v := ?vo_w20) (w1 := (wr.setCell ⟨go17, ((ji14) : Int).toNat, none⟩ (.int .i64 (Int.tmod (wrap64 (x8_2 + (wrap64 ((rd x5_2 (ji14)) + (wrap64 ((rd l0 x21_1) * (rd l1 x28_2))))))) 10000)))) ?hg ?ho ?hn ?hr ?_; (case ho => rfl); (case hg => rfl); (case hn => rfl); (case hr => first | (go_simp; done) | (go_simp; rfl)); intro w20 hw; have hg : wr.grownBy w20 (some go17) := (by rw [hw]; exact HP19.2); have hp_ : Kd.R (Kd.int .i64) 3 w20 w.heap.size (fun _ => True) (.slice (some ⟨go17, 0, none⟩) x5_2.length co18) y416 := (by rw [hw, Ny416.out]; exact HP19.1); clear HP19; have n0_ := Aside0.mk (hp_); have n1_ := Aside0.mk ((by rw [hw]; exact below_set (HB.out) GB17.out : Below w.heap.size w w20)); clear HO_5; clear HB; have HO_5 := n0_; have HB := n1_; clear n0_ n1_; clear hg hw hp_))
               (try simp only [← hji14])
               go_roundg k2
               case measure => have := HK1.out; have := HK2.out; omega
               case rel => exact ⟨(y416), (wrap64 (Int.tdiv (wrap64 (x8_2 + (wrap64 ((rd x5_2 (ji14)) + (wrap64 ((rd l0 x21_1) * (rd l1 x28_2))))))) 10000)), (wrap64 (x28_2 + 1)), (by first | rfl | (simp; done) | (simp only [← hji14] <;> (first | rfl | simp)) | (simp [*]; done)), (by first | rfl | (simp; done) | (simp [*]; done)), (by first | with_reducible exact H' | (simp only [hji14]; exact H') | exact H'), ⟨by have := HK1.out; have := HK2.out; omega⟩, ⟨by (with_reducible repeat (first | apply Kd.R_alloc | apply Kd.R_drewN | apply Kd.R_drew)); exact HO_5.out⟩, ⟨by repeat (first | (with_reducible first | exact HB.out | apply below_alloc | apply pw_below_drewN | apply below_drew1) | exact HB.out)⟩⟩
              ·rw [if_neg c16] at H
               exact absurd H (by simp)
             ·rw [if_neg c15] at H
              exact absurd H (by simp)
            ·rw [if_neg c13] at H
             exact absurd H (by simp)
           ·rw [if_neg c12] at H
            exact absurd H (by simp)
          ·rw [if_neg c11] at H
           have c11b0 : decide (x28_2 < (l1.length : Int)) = false := decide_eq_false c11
           clear c11
           have H' := Aside0.mk H
           clear H
           go_wp2
           go_loopg [8, 11] k2 (fun kq v8 v11 w' => ∃ (x5_3 : List Int) (x8_3 : Int) (x11_3 : Int), v8 = .int .i64 x8_3 ∧ v11 = .int .i64 x11_3 ∧ Aside0 (isochroneref01_Mul.l2 kq l1 x5_3 x8_3 x11_3 l0 (l0.length : Int) x21_1 = some r) ∧ Aside0 (kq ≤ k2) ∧ Aside0 (Kd.R (Kd.int .i64) 3 w' w.heap.size (fun _ => True) v408 x5_3) ∧ Aside0 (Below w.heap.size w w'))
           case atStart => exact ⟨(x5_2), (x8_2), (wrap64 (x21_1 + (l1.length : Int))), (by first | rfl | (simp; done) | (simp [*]; done)), (by first | rfl | (simp; done) | (simp [*]; done)), H', ⟨Nat.le_refl _⟩, ⟨by (with_reducible repeat (first | apply Kd.R_alloc | apply Kd.R_drewN | apply Kd.R_drew)); exact HO_5.out⟩, ⟨by repeat (first | (with_reducible first | exact HB.out | apply below_alloc | apply pw_below_drewN | apply below_drew1) | exact HB.out)⟩⟩
           case round =>
            clear H'
            try clear c1
            try clear p1
            try clear q1
            try clear hx1
            try clear p2
            try clear c4
            try clear c4b0
            try clear c4b1
            try clear p4
            try clear q4
            try clear hx4
            try clear c5
            try clear c5b0
            try clear c5b1
            try clear p6
            try clear c8
            try clear c8b0
            try clear c9
            try clear c9b0
            try clear c10
            try clear c10b0
            try clear c11
            try clear c11b0
            try clear c12
            try clear c12b0
            try clear c13
            try clear c13b0
            try clear c15
            try clear c15b0
            try clear c16
            try clear c16b0
            try clear p17
            try clear q17
            try clear hx17
            try clear hf17
            try clear c19
            try clear hx17_0
            try clear hx413_0
            try clear hx414_0
            try clear hx415_0
            try clear p17
            try clear p2
            try clear p4
            try clear p413
            try clear p414
            try clear p415
            try clear p6
            try clear q17
            try clear q4
            try clear q413
            try clear q414
            try clear q415
            obtain ⟨x5_3, x8_3, x11_3, rfl, rfl, HA, HK3, HO_5, HB⟩ := hrel
            cases gk with
            | zero => exact absurd HA.out (by simp [isochroneref01_Mul.l2])
            | succ k3 =>
             have H := HA.out
             clear HA
             simp only [isochroneref01_Mul.l2] at H
             by_cases c21 : x8_3 > 0
             ·rw [if_pos c21] at H
              have c21b0 : decide (0 < x8_3) = true := decide_eq_true c21
              clear c21
              by_cases c22 : 0 ≤ x11_3
              ·rw [if_pos c22] at H
               have c22b0 : decide (0 ≤ x11_3) = true := decide_eq_true c22
               clear c22
               by_cases c23 : x11_3 < (x5_3.length : Int)
               ·rw [if_pos c23] at H
                have c23b0 : decide (x11_3 < (x5_3.length : Int)) = true := decide_eq_true c23
                clear c23
                obtain ⟨y418, hy418⟩ : ∃ y_ : List Int, y_ = (x5_3.set (x11_3 : Int).toNat (Int.tmod (wrap64 (x8_3 + (rd x5_3 x11_3))) 10000)) := ⟨_, rfl⟩
                replace H : (isochroneref01_Mul.l2 k3 l1 y418 (wrap64 (Int.tdiv (wrap64 (x8_3 + (rd x5_3 x11_3))) 10000)) (wrap64 (x11_3 + 1)) l0 (l0.length : Int) x21_1) = some r := by first | (rw [hy418]; with_reducible exact H) | (have H2_ := (Option.bind_some _ _).symm.trans H; rw [hy418]; with_reducible exact H2_) | (have H2_ := (Option.bind_some _ _).symm.trans H; with_reducible exact H2_) | with_reducible exact H | (rw [hy418]; exact H) | exact H
                have Ny418 := Aside0.mk hy418
                clear hy418
                have H' := Aside0.mk H
                clear H
                obtain ⟨Ao25, co25, eo25⟩ := Kd.R_slice HO_5.out
                subst eo25
                have p417 : 0 ≤ (x11_3 : Int) := of_decide_eq_true aS
                have q417 : x11_3 < (x5_3.length : Int) := of_decide_eq_true aS
                obtain ⟨ad417, e417, hx417_0⟩ := Kd.at_int (Kd.R_reads' HO_5.out).2.2 x11_3 p417 q417
                cases e417
                replace p417 := eq_true p417
                replace q417 := eq_true q417
                have p24 : 0 ≤ (x11_3 : Int) := of_decide_eq_true aS
                have q24 : (x11_3 : Int) < ((x5_3.length : Int) : Int) := of_decide_eq_true aS
                obtain ⟨go24, co24, eo24, gb24, gl24, cl24, HG24⟩ := Kd.R_form HO_5.out (by omega)
                (first | cases eo24 | (injection eo24 with ea_ en_ ec_; (first | subst ea_ | (injection ea_ with ea_; subst ea_)); subst ec_; clear en_))
                have GB24 := Aside0.mk gb24
                have GG24 := Aside0.mk HG24
                clear gb24 gl24 HG24
                (first | simp only [add_plain] at hx417_0 | skip)
                obtain ⟨hx24_0, hf24_0⟩ := Kd.R_celln 0 HO_5.out (x11_3 : Int) p24 q24
                replace p24 := eq_true p24
                replace q24 := eq_true q24
                have HP26 := Kd.R_putg HO_5.out (x11_3 : Int) (Int.tmod (wrap64 (x8_3 + (rd x5_3 x11_3))) 10000)
                go_wp2_with (first | ((with_reducible refine gate_store (t := 3) (p := 73) rfl ?_); refine store_event (t := 3) (p := 73) (v := ?vo_w27) (w1 := (wr.setCell ⟨go24, (x11_3 : Int).toNat, none⟩ (.int .i64 (Int.tmod (wrap64 (x8_3 + (rd x5_3 x11_3))) 10000)))) ?hg ?ho ?hn ?hr ?_; (case ho => rfl); (case hg => rfl); (case hn => rfl); (case hr => first | (go_simp; done) | (go_simp; rfl)); intro w27 hw; have hg : wr.grownBy w27 (some go24) := (by rw [hw]; exact HP26.2); have hp_ : Kd.R (Kd.int .i64) 3 w27 w.heap.size (fun _ => True) (.slice (some ⟨go24, 0, none⟩) x5_3.length co25) y418 := (by rw [hw, Ny418.out]; exact HP26.1); clear HP26; have n0_ := Aside0.mk (hp_); have n1_ := Aside0.mk ((by rw [hw]; exact below_set (HB.out) GB24.out : Below w.heap.size w w27)); clear HO_5; clear HB; have HO_5 := n0_; have HB := n1_; clear n0_ n1_; clear hg hw hp_))
                go_roundg k3
                case measure => have := HK1.out; have := HK2.out; have := HK3.out; omega
                case rel => exact ⟨(y418), (wrap64 (Int.tdiv (wrap64 (x8_3 + (rd x5_3 x11_3))) 10000)), (wrap64 (x11_3 + 1)), (by first | rfl | (simp; done) | (simp [*]; done)), (by first | rfl | (simp; done) | (simp [*]; done)), H', ⟨by have := HK1.out; have := HK2.out; have := HK3.out; omega⟩, ⟨by (with_reducible repeat (first | apply Kd.R_alloc | apply Kd.R_drewN | apply Kd.R_drew)); exact HO_5.out⟩, ⟨by repeat (first | (with_reducible first | exact HB.out | apply below_alloc | apply pw_below_drewN | apply below_drew1) | exact HB.out)⟩⟩
               ·rw [if_neg c23] at H
                exact absurd H (by simp)
              ·rw [if_neg c22] at H
               exact absurd H (by simp)
             ·rw [if_neg c21] at H
              have c21b0 : decide (0 < x8_3) = false := decide_eq_false c21
              clear c21
              have H' := Aside0.mk H
              clear H
              go_wp2
              go_roundg k3
              case measure => have := HK1.out; have := HK2.out; have := HK3.out; omega
              case rel => exact ⟨(x5_3), (wrap64 (x21_1 + 1)), (by first | rfl | (simp; done) | (simp [*]; done)), H', ⟨by have := HK1.out; have := HK2.out; have := HK3.out; omega⟩, ⟨by (with_reducible repeat (first | apply Kd.R_alloc | apply Kd.R_drewN | apply Kd.R_drew)); exact HO_5.out⟩, ⟨by repeat (first | (with_reducible first | exact HB.out | apply below_alloc | apply pw_below_drewN | apply below_drew1) | exact HB.out)⟩⟩
       ·rw [if_neg c10] at H
        exact absurd H (by simp)
      ·rw [if_neg c9] at H
       exact absurd H (by simp)
     ·rw [if_neg c8] at H
      have c8b0 : decide (x21_1 < (l0.length : Int)) = false := decide_eq_false c8
      clear c8
      replace H := Option.bind_eq_some_iff.mp H
      obtain ⟨t410, A280, H⟩ := H
      replace H : (some t410) = some r := H
      have A28 := Aside0.mk A280
      clear A280
      obtain rfl := Option.some.inj H
      obtain ⟨Ao29, co29, eo29⟩ := Kd.R_slice HO_5.out
      subst eo29
      go_wp2_with (first | ((with_reducible refine gate_callee (f := 53) rfl ?_); refine goesL_ (some 78) rfl rfl Try.func53 (by kernel_rfl) rfl #[.slice Ao29 x5_1.length co29] rfl (by (try simp only [List.map_toArray, List.map_cons, List.map_nil]); first | done | rfl | (simp only [List.length_drop, List.length_take]; rfl)) ?_; (with_reducible refine (isochroneref01_trim.calls k1 (fun k_ => some k_ = (.slice Ao29 x5_1.length co29 : Value).ownBlock) (.slice Ao29 x5_1.length co29) x5_1 t410 w _ ?side1 ?side2 A28.out).mono ?_); (case side1 => repeat (first | (with_reducible first | exact HB.out | apply below_alloc | apply pw_below_drewN | apply below_drew1) | exact HB.out)); (case side2 => exact Kd.R_tight rfl HO_5.out); rintro e w30 ⟨v411, rfl, ho0, hb, hkp⟩; refine ⟨_, rfl, ?_⟩; have n0_ := Aside0.mk (Kd.R_mono (ok' := fun k_ => True) ho0 (fun k_ hk_ => trivial)); have n1_ := Aside0.mk (hb); clear HB; clear HO_5; have HO412 := n0_; have HB := n1_; clear n0_ n1_; (try clear hb); (try clear hkp); (try clear ho0)))
      go_ret
      exact ⟨_, by first | rfl | (simp [errW_none, errW_some] <;> rfl) | (simp only [← hji3]; first | rfl | (simp [errW_none, errW_some] <;> rfl)) | (simp [*, errW_none, errW_some] <;> rfl), by (with_reducible repeat (first | apply Kd.R_alloc | apply Kd.R_drewN | apply Kd.R_drew)); exact HO412.out, by repeat (first | (with_reducible first | exact HB.out | apply below_alloc | apply pw_below_drewN | apply below_drew1) | exact HB.out)⟩
  ·rw [if_neg c5] at H
   exact absurd H (by simp)
 ·rw [if_neg c4] at H
  exact absurd H (by simp)
end Go.Proofs.Ytfmobogdnlmdbaa.P
end
section
namespace Go.Proofs.Ytfmobogdnlmdbaa.P
open Go.RowKit Go.Proofs.YtfmobogdnlmdbaaW.PrintWords Go.Proofs.YtfmobogdnlmdbaaW.PrintLast Go.Proofs.YtfmobogdnlmdbaaW.PrintMore Go.Proofs.YtfmobogdnlmdbaaW
attribute [local go_sem] max2_int min2_int max_two min_two max_three min_three max_four min_four
set_option linter.unusedVariables false
set_option linter.unusedSimpArgs false
set_option maxHeartbeats 8000000 in
set_option maxRecDepth 100000 in
theorem mag_Mul.calls (k : Nat) (A0 : Option Addr) (c0 : Nat) (l0 : List Int) (A1 : Option Addr) (c1 : Nat) (l1 : List Int) (r : List Int) (w : World) (hr0 : Kd.C (Kd.int .u32) w A0 l0.length l0) (hc0 : l0.length ≤ c0) (hr1 : Kd.C (Kd.int .u32) w A1 l1.length l1) (hc1 : l1.length ≤ c1) (h : mag_Mul.f k l0 l1 = some r) :
  Calls Try.prog 55 #[.slice A0 l0.length c0, .slice A1 l1.length c1] w fun e w' => ∃ v0_ : Value, e = .returned (v0_) ∧ Kd.V (Kd.int .u32) 36 w' w.heap.size (fun k_ => (w.heap.size ≤ k_)) v0_ r ∧ Below w.heap.size w w' := by
 have HR0 := Aside0.mk hr0
 have HC0 := Aside0.mk hc0
 clear hr0 hc0
 have HR1 := Aside0.mk hr1
 have HC1 := Aside0.mk hc1
 clear hr1 hc1
 have HB := Aside0.mk (Below.refl w.heap.size w)
 have H : (if (l0.length : Int) = 0 then (mag_Mul.j0 k l0 l1 true) else (mag_Mul.j0 k l0 l1 ((l1.length : Int) == 0))) = some r := h
 clear h
 have HC3 := Aside0.mk H
 clear H
 go_enter Try.func55, Try.ntmps55
 go_upto_region 1 with (fail)
 go_cut [18] (fun v18 wc => ∃ (kq : Nat) (x18_2 : Bool), v18 = .bool x18_2 ∧ Aside0 (mag_Mul.j0 kq l0 l1 x18_2 = some r) ∧ Aside0 (kq ≤ k) ∧ Aside0 (Below w.heap.size w wc))
 case first =>
  have H := HC3.out
  clear HC3
  by_cases c4 : (l0.length : Int) = 0
  ·rw [if_pos c4] at H
   have c4b0 : ((l0.length : Int) == 0) = true := beq_iff_eq.mpr c4
   have c4b1 : ((l0.length : Int) != 0) = false := bne_eq_false_iff_eq.mpr c4
   clear c4
   (first | rw [c4b0] | (simp only [i64_w, i32_w]; rw [c4b0]) | rw [c4b1] | skip)
   have H' := Aside0.mk H
   clear H
   go_wp2
   go_meet
   case rel => exact ⟨_, (true), (by first | rfl | (simp; done) | (simp [*]; done)), H', ⟨by first | omega | exact Nat.le_refl _⟩, ⟨by repeat (first | (with_reducible first | exact HB.out | apply below_alloc | apply pw_below_drewN | apply below_drew1) | exact HB.out)⟩⟩
  ·rw [if_neg c4] at H
   have c4b0 : ((l0.length : Int) == 0) = false := beq_eq_false_iff_ne.mpr c4
   have c4b1 : ((l0.length : Int) != 0) = true := bne_iff_ne.mpr c4
   have c4b2 : ¬ (l0 = []) := fun h_ => c4 (by rw [h_]; rfl)
   (first | rw [c4b0] | (simp only [i64_w, i32_w]; rw [c4b0]) | rw [c4b1] | skip)
   have H' := Aside0.mk H
   clear H
   go_wp2
   go_meet
   case rel => exact ⟨_, (((l1.length : Int) == 0)), (by first | rfl | (simp; done) | (simp [*]; done)), H', ⟨by first | omega | exact Nat.le_refl _⟩, ⟨by repeat (first | (with_reducible first | exact HB.out | apply below_alloc | apply pw_below_drewN | apply below_drew1) | exact HB.out)⟩⟩
 case rest =>
  clear HC3
  try clear c1
  try clear p2
  try clear c4
  try clear c4b0
  try clear c4b1
  try clear c4b2
  obtain ⟨kq, x18_2, rfl, HA, HJ2, HB⟩ := hcut
  cases kq with
  | zero => exact absurd HA.out (by simp [mag_Mul.j0])
  | succ kj2 =>
   have H := HA.out
   clear HA
   simp only [mag_Mul.j0] at H
   by_cases c5 : x18_2 = true
   ·subst c5
    have H1 : (some ([] : List Int)) = some r := by rw [if_pos rfl] at H; exact H
    clear H
    have H := H1
    clear H1
    obtain rfl := Option.some.inj H
    go_wp2
    go_ret
    exact ⟨_, by first | rfl | (simp [errW_none, errW_some] <;> rfl) | (simp [*, errW_none, errW_some] <;> rfl), Kd.V_nil _ _ _ _ _, by repeat (first | (with_reducible first | exact HB.out | apply below_alloc | apply pw_below_drewN | apply below_drew1) | exact HB.out)⟩
   ·replace c5 := Bool.eq_false_iff.mpr c5
    subst c5
    have H1 : (if 0 ≤ (wrap64 ((l0.length : Int) + (l1.length : Int))) then (if (wrap64 ((l0.length : Int) + (l1.length : Int)) : Int).toNat ≤ 70368744177664 then (mag_Mul.l0 kj2 l1 (List.replicate (wrap64 ((l0.length : Int) + (l1.length : Int)) : Int).toNat 0) l0 (l0.length : Int) 0) else (none)) else (none)) = some r := by rw [if_neg (show ¬ (false = true) by decide)] at H; exact H
    clear H
    have H := H1
    clear H1
    obtain ⟨ji6, hji6⟩ : ∃ j_ : Int, (wrap64 ((l0.length : Int) + (l1.length : Int))) = j_ := ⟨_, rfl⟩
    replace H : (if 0 ≤ (ji6) then (if (ji6 : Int).toNat ≤ 70368744177664 then (mag_Mul.l0 kj2 l1 (List.replicate (ji6 : Int).toNat 0) l0 (l0.length : Int) 0) else (none)) else (none)) = some r := by first | (rw [hji6] at H; exact H) | (simp only [hji6] at H ⊢; exact H)
    have hji6w : (IntKind.i64.wrap ((l0.length : Int) + (l1.length : Int))) = ji6 := (i64_w _).trans hji6
    by_cases c7 : 0 ≤ (ji6)
    ·rw [if_pos c7] at H
     have c7b0 := eq_true c7
     have c7b1 : decide (0 ≤ (ji6)) = true := decide_eq_true c7
     clear c7
     by_cases c8 : (ji6 : Int).toNat ≤ 70368744177664
     ·rw [if_pos c8] at H
      have c8b0 := eq_true c8
      have c8b1 : decide ((ji6 : Int).toNat ≤ 70368744177664) = true := decide_eq_true c8
      clear c8
      obtain ⟨y446, hy446⟩ : ∃ y_ : List Int, y_ = (List.replicate (ji6 : Int).toNat 0) := ⟨_, rfl⟩
      replace H : (mag_Mul.l0 kj2 l1 y446 l0 (l0.length : Int) 0) = some r := by first | (rw [hy446]; with_reducible exact H) | (have H2_ := (Option.bind_some _ _).symm.trans H; rw [hy446]; with_reducible exact H2_) | (have H2_ := (Option.bind_some _ _).symm.trans H; with_reducible exact H2_) | with_reducible exact H | (rw [hy446]; exact H) | exact H
      have Ny446 := Aside0.mk hy446
      clear hy446
      have H' := Aside0.mk H
      clear H
      go_wp2_with (first | ((with_reducible refine gate_dst (N := 24) rfl ?_); (try (refine gate_guard (by rfl) ?_; dsimp only)); refine Kd.R_make (Kd.int .u32) _ 36 rfl (N := 24) rfl 22 _ _ rfl ji6 rfl rfl Try.underlying22 (.int .u32 0) 4 info36 rfl (by decide) (by omega) 0 (ok := fun _ => True) (okp := fun _ => True) rfl (fun _ hk => hk) trivial (of_decide_eq_true aS) (Nat.le_trans (Nat.mul_le_mul_right _ (of_decide_eq_true aS : ji6.toNat ≤ 70368744177664)) (by omega)) (Below.refl _ _) (Nat.le_refl _) ?_; intro v447 w9 ho10 hb hg_ hnew_; clear hg_ hnew_; (first | rw [← Ny446.out] at ho10 | (simp only [Int.reduceToNat] at ho10; rw [← Ny446.out] at ho10)); have n0_ := Aside0.mk (Kd.R_lower (Kd.R_newM (M := fun k_ => (w.heap.size ≤ k_)) ho10 (below_size (bB)) (fun k_ h_ => h_)) (below_size (bB))); have n1_ := Aside0.mk (below_step (bB) hb); clear HB; have HO448 := n0_; have HB := n1_; clear n0_ n1_; clear hb ho10))
      go_loopg [27] kj2 (fun kq v27 w' => ∃ (x5_2 : List Int) (x27_2 : Int), v27 = .int .i64 x27_2 ∧ Aside0 (mag_Mul.l0 kq l1 x5_2 l0 (l0.length : Int) x27_2 = some r) ∧ Aside0 (kq ≤ kj2) ∧ Aside0 (Kd.R (Kd.int .u32) 36 w' w.heap.size (fun k_ => (w.heap.size ≤ k_)) v447 x5_2) ∧ Aside0 (Below w.heap.size w w'))
      case atStart => exact ⟨(y446), (0), (by first | rfl | (simp; done) | (simp [*]; done)), H', ⟨Nat.le_refl _⟩, ⟨by (with_reducible repeat (first | apply Kd.R_alloc | apply Kd.R_drewN | apply Kd.R_drew)); exact Kd.R_mono HO448.out (fun _ hk => hk.1)⟩, ⟨by repeat (first | (with_reducible first | exact HB.out | apply below_alloc | apply pw_below_drewN | apply below_drew1) | exact HB.out)⟩⟩
      case round =>
       clear H'
       try clear c1
       try clear p2
       try clear c4
       try clear c4b0
       try clear c4b1
       try clear c4b2
       try clear c5
       try clear p6
       try clear c7
       try clear c7b0
       try clear c7b1
       try clear c8
       try clear c8b0
       try clear c8b1
       try clear p2
       obtain ⟨x5_2, x27_2, rfl, HA, HK2, HO_5, HB⟩ := hrel
       cases gk with
       | zero => exact absurd HA.out (by simp [mag_Mul.l0])
       | succ k2 =>
        have H := HA.out
        clear HA
        simp only [mag_Mul.l0] at H
        by_cases c11 : x27_2 < (l0.length : Int)
        ·rw [if_pos c11] at H
         have c11b0 : decide (x27_2 < (l0.length : Int)) = true := decide_eq_true c11
         clear c11
         by_cases c12 : 0 ≤ x27_2
         ·rw [if_pos c12] at H
          have c12b0 : decide (0 ≤ x27_2) = true := decide_eq_true c12
          clear c12
          by_cases c13 : x27_2 < (l0.length : Int)
          ·rw [if_pos c13] at H
           have c13b0 : decide (x27_2 < (l0.length : Int)) = true := decide_eq_true c13
           clear c13
           have H' := Aside0.mk H
           clear H
           have p452 : 0 ≤ (x27_2 : Int) := of_decide_eq_true aS
           have q452 : x27_2 < (l0.length : Int) := of_decide_eq_true aS
           obtain ⟨ad452, e452, hx452_0⟩ := Kd.at_int HR0.out x27_2 p452 q452
           cases e452
           replace hx452_0 := (HB.out.cell (World.block_lt_of_cell? w _ hx452_0)).trans hx452_0
           replace p452 := eq_true p452
           replace q452 := eq_true q452
           go_wp2
           go_loopg [8, 34] k2 (fun kq v8 v34 w' => ∃ (x5_3 : List Int) (x8_3 : Int) (x34_3 : Int), v8 = .int .u64 x8_3 ∧ v34 = .int .i64 x34_3 ∧ Aside0 (mag_Mul.l1 kq l1 x5_3 x27_2 (rd l0 x27_2) x8_3 l0 (l0.length : Int) x27_2 l1 (l1.length : Int) x34_3 = some r) ∧ Aside0 (kq ≤ k2) ∧ Aside0 (Kd.R (Kd.int .u32) 36 w' w.heap.size (fun k_ => (w.heap.size ≤ k_)) v447 x5_3) ∧ Aside0 (Below w.heap.size w w'))
           case atStart => exact ⟨(x5_2), (0), (0), (by first | rfl | (simp; done) | (simp [*]; done)), (by first | rfl | (simp; done) | (simp [*]; done)), H', ⟨Nat.le_refl _⟩, ⟨by (with_reducible repeat (first | apply Kd.R_alloc | apply Kd.R_drewN | apply Kd.R_drew)); exact HO_5.out⟩, ⟨by repeat (first | (with_reducible first | exact HB.out | apply below_alloc | apply pw_below_drewN | apply below_drew1) | exact HB.out)⟩⟩
           case round =>
            clear H'
            try clear c1
            try clear p2
            try clear c4
            try clear c4b0
            try clear c4b1
            try clear c4b2
            try clear p4
            try clear q4
            try clear hx4
            try clear c5
            try clear p6
            try clear c7
            try clear c7b0
            try clear c7b1
            try clear c8
            try clear c8b0
            try clear c8b1
            try clear c11
            try clear c11b0
            try clear c12
            try clear c12b0
            try clear c13
            try clear c13b0
            try clear hx452_0
            try clear p2
            try clear p452
            try clear p6
            try clear q452
            obtain ⟨x5_3, x8_3, x34_3, rfl, rfl, HA, HK3, HO_5, HB⟩ := hrel
            cases gk with
            | zero => exact absurd HA.out (by simp [mag_Mul.l1])
            | succ k3 =>
             have H := HA.out
             clear HA
             simp only [mag_Mul.l1] at H
             by_cases c14 : x34_3 < (l1.length : Int)
             ·rw [if_pos c14] at H
              have c14b0 : decide (x34_3 < (l1.length : Int)) = true := decide_eq_true c14
              clear c14
              by_cases c15 : 0 ≤ x34_3
              ·rw [if_pos c15] at H
               have c15b0 : decide (0 ≤ x34_3) = true := decide_eq_true c15
               clear c15
               by_cases c16 : x34_3 < (l1.length : Int)
               ·rw [if_pos c16] at H
                have c16b0 : decide (x34_3 < (l1.length : Int)) = true := decide_eq_true c16
                clear c16
                obtain ⟨ji17, hji17⟩ : ∃ j_ : Int, (wrap64 (x27_2 + x34_3)) = j_ := ⟨_, rfl⟩
                replace H : (if 0 ≤ (ji17) then (if (ji17) < (x5_3.length : Int) then (mag_Mul.l1 k3 l1 (x5_3.set ((ji17) : Int).toNat ((IntKind.u64.wrap (x8_3 + (IntKind.u64.wrap ((IntKind.u64.wrap ((IntKind.u64.wrap ((rd l0 x27_2))) * (IntKind.u64.wrap (rd l1 x34_3)))) + (IntKind.u64.wrap (rd x5_3 (ji17))))))) % 4294967296)) x27_2 (rd l0 x27_2) ((IntKind.u64.wrap (x8_3 + (IntKind.u64.wrap ((IntKind.u64.wrap ((IntKind.u64.wrap ((rd l0 x27_2))) * (IntKind.u64.wrap (rd l1 x34_3)))) + (IntKind.u64.wrap (rd x5_3 (ji17))))))) / 4294967296) l0 (l0.length : Int) x27_2 l1 (l1.length : Int) (wrap64 (x34_3 + 1))) else (none)) else (none)) = some r := by first | (rw [hji17] at H; exact H) | (simp only [hji17] at H ⊢; exact H)
                have hji17w : (IntKind.i64.wrap (x27_2 + x34_3)) = ji17 := (i64_w _).trans hji17
                by_cases c18 : 0 ≤ (ji17)
                ·rw [if_pos c18] at H
                 have c18b0 : decide (0 ≤ (ji17)) = true := decide_eq_true c18
                 clear c18
                 by_cases c19 : (ji17) < (x5_3.length : Int)
                 ·rw [if_pos c19] at H
                  have c19b0 : decide ((ji17) < (x5_3.length : Int)) = true := decide_eq_true c19
                  clear c19
                  obtain ⟨y455, hy455⟩ : ∃ y_ : List Int, y_ = (x5_3.set ((ji17) : Int).toNat ((IntKind.u64.wrap (x8_3 + (IntKind.u64.wrap ((IntKind.u64.wrap ((IntKind.u64.wrap ((rd l0 x27_2))) * (IntKind.u64.wrap (rd l1 x34_3)))) + (IntKind.u64.wrap (rd x5_3 (ji17))))))) % 4294967296)) := ⟨_, rfl⟩
                  replace H : (mag_Mul.l1 k3 l1 y455 x27_2 (rd l0 x27_2) ((IntKind.u64.wrap (x8_3 + (IntKind.u64.wrap ((IntKind.u64.wrap ((IntKind.u64.wrap ((rd l0 x27_2))) * (IntKind.u64.wrap (rd l1 x34_3)))) + (IntKind.u64.wrap (rd x5_3 (ji17))))))) / 4294967296) l0 (l0.length : Int) x27_2 l1 (l1.length : Int) (wrap64 (x34_3 + 1))) = some r := by first | (rw [hy455]; with_reducible exact H) | (have H2_ := (Option.bind_some _ _).symm.trans H; rw [hy455]; with_reducible exact H2_) | (have H2_ := (Option.bind_some _ _).symm.trans H; with_reducible exact H2_) | with_reducible exact H | (rw [hy455]; exact H) | exact H
                  have Ny455 := Aside0.mk hy455
                  clear hy455
                  have H' := Aside0.mk H
                  clear H
                  have p453 : 0 ≤ (x34_3 : Int) := of_decide_eq_true aS
                  have q453 : x34_3 < (l1.length : Int) := of_decide_eq_true aS
                  obtain ⟨ad453, e453, hx453_0⟩ := Kd.at_int HR1.out x34_3 p453 q453
                  cases e453
                  replace hx453_0 := (HB.out.cell (World.block_lt_of_cell? w _ hx453_0)).trans hx453_0
                  replace p453 := eq_true p453
                  replace q453 := eq_true q453
                  obtain ⟨Ao21, co21, eo21⟩ := Kd.R_slice HO_5.out
                  subst eo21
                  have p454 : 0 ≤ ((ji17) : Int) := of_decide_eq_true aS
                  have q454 : (ji17) < (x5_3.length : Int) := of_decide_eq_true aS
                  obtain ⟨ad454, e454, hx454_0⟩ := Kd.at_int (Kd.R_reads' HO_5.out).2.2 (ji17) p454 q454
                  cases e454
                  replace p454 := eq_true p454
                  replace q454 := eq_true q454
                  have p20 : 0 ≤ ((ji17) : Int) := of_decide_eq_true aS
                  have q20 : ((ji17) : Int) < ((x5_3.length : Int) : Int) := of_decide_eq_true aS
                  obtain ⟨go20, co20, eo20, gb20, gl20, cl20, HG20⟩ := Kd.R_form HO_5.out (by omega)
                  (first | cases eo20 | (injection eo20 with ea_ en_ ec_; (first | subst ea_ | (injection ea_ with ea_; subst ea_)); subst ec_; clear en_))
                  have GB20 := Aside0.mk gb20
                  have GG20 := Aside0.mk HG20
                  clear gb20 gl20 HG20
                  (first | simp only [add_plain] at hx454_0 | skip)
                  obtain ⟨hx20_0, hf20_0⟩ := Kd.R_celln 0 HO_5.out ((ji17) : Int) p20 q20
                  replace p20 := eq_true p20
                  replace q20 := eq_true q20
                  have HP22 := Kd.R_putg HO_5.out ((ji17) : Int) ((IntKind.u64.wrap (x8_3 + (IntKind.u64.wrap ((IntKind.u64.wrap ((IntKind.u64.wrap ((rd l0 x27_2))) * (IntKind.u64.wrap (rd l1 x34_3)))) + (IntKind.u64.wrap (rd x5_3 (ji17))))))) % 4294967296)
                  go_wp2_with (first | ((with_reducible refine gate_store (t := 36) (p := 60) rfl ?_); refine store_event (t := 36) (p := 60) (v := ?vo_w23) (w1 := (wr.setCell ⟨go20, ((ji17) : Int).toNat, none⟩ (.int .u32 ((IntKind.u64.wrap (x8_3 + (IntKind.u64.wrap ((IntKind.u64.wrap ((IntKind.u64.wrap ((rd l0 x27_2))) * (IntKind.u64.wrap (rd l1 x34_3)))) + (IntKind.u64.wrap (rd x5_3 (ji17))))))) % 4294967296)))) ?hg ?ho ?hn ?hr ?_; (case ho => rfl); (case hg => rfl); (case hn => rfl); (case hr => first | (go_simp; done) | (go_simp; rfl)); intro w23 hw; have hg : wr.grownBy w23 (some go20) := (by rw [hw]; exact HP22.2); have hp_ : Kd.R (Kd.int .u32) 36 w23 w.heap.size (fun k_ => (w.heap.size ≤ k_)) (.slice (some ⟨go20, 0, none⟩) x5_3.length co21) y455 := (by rw [hw, Ny455.out]; exact HP22.1); clear HP22; have n0_ := Aside0.mk (hp_); have n1_ := Aside0.mk ((by rw [hw]; exact below_set (HB.out) GB20.out : Below w.heap.size w w23)); clear HO_5; clear HB; have HO_5 := n0_; have HB := n1_; clear n0_ n1_; clear hg hw hp_))
                  (try simp only [← hji17])
                  go_roundg k3
                  case measure => have := HJ2.out; have := HK2.out; have := HK3.out; omega
                  case rel => exact ⟨(y455), ((IntKind.u64.wrap (x8_3 + (IntKind.u64.wrap ((IntKind.u64.wrap ((IntKind.u64.wrap ((rd l0 x27_2))) * (IntKind.u64.wrap (rd l1 x34_3)))) + (IntKind.u64.wrap (rd x5_3 (ji17))))))) / 4294967296), (wrap64 (x34_3 + 1)), (by first | rfl | (simp; done) | (simp only [← hji17] <;> (first | rfl | simp)) | (simp [*]; done)), (by first | rfl | (simp; done) | (simp [*]; done)), (by first | with_reducible exact H' | (simp only [hji17]; exact H') | exact H'), ⟨by have := HJ2.out; have := HK2.out; have := HK3.out; omega⟩, ⟨by (with_reducible repeat (first | apply Kd.R_alloc | apply Kd.R_drewN | apply Kd.R_drew)); exact HO_5.out⟩, ⟨by repeat (first | (with_reducible first | exact HB.out | apply below_alloc | apply pw_below_drewN | apply below_drew1) | exact HB.out)⟩⟩
                 ·rw [if_neg c19] at H
                  exact absurd H (by simp)
                ·rw [if_neg c18] at H
                 exact absurd H (by simp)
               ·rw [if_neg c16] at H
                exact absurd H (by simp)
              ·rw [if_neg c15] at H
               exact absurd H (by simp)
             ·rw [if_neg c14] at H
              have c14b0 : decide (x34_3 < (l1.length : Int)) = false := decide_eq_false c14
              clear c14
              obtain ⟨ji24, hji24⟩ : ∃ j_ : Int, (wrap64 (x27_2 + (l1.length : Int))) = j_ := ⟨_, rfl⟩
              replace H : (if 0 ≤ (ji24) then (if (ji24) < (x5_3.length : Int) then (mag_Mul.l0 k3 l1 (x5_3.set ((ji24) : Int).toNat ((x8_3) % 4294967296)) l0 (l0.length : Int) (wrap64 (x27_2 + 1))) else (none)) else (none)) = some r := by first | (rw [hji24] at H; exact H) | (simp only [hji24] at H ⊢; exact H)
              have hji24w : (IntKind.i64.wrap (x27_2 + (l1.length : Int))) = ji24 := (i64_w _).trans hji24
              by_cases c25 : 0 ≤ (ji24)
              ·rw [if_pos c25] at H
               have c25b0 : decide (0 ≤ (ji24)) = true := decide_eq_true c25
               clear c25
               by_cases c26 : (ji24) < (x5_3.length : Int)
               ·rw [if_pos c26] at H
                have c26b0 : decide ((ji24) < (x5_3.length : Int)) = true := decide_eq_true c26
                clear c26
                obtain ⟨y456, hy456⟩ : ∃ y_ : List Int, y_ = (x5_3.set ((ji24) : Int).toNat ((x8_3) % 4294967296)) := ⟨_, rfl⟩
                replace H : (mag_Mul.l0 k3 l1 y456 l0 (l0.length : Int) (wrap64 (x27_2 + 1))) = some r := by first | (rw [hy456]; with_reducible exact H) | (have H2_ := (Option.bind_some _ _).symm.trans H; rw [hy456]; with_reducible exact H2_) | (have H2_ := (Option.bind_some _ _).symm.trans H; with_reducible exact H2_) | with_reducible exact H | (rw [hy456]; exact H) | exact H
                have Ny456 := Aside0.mk hy456
                clear hy456
                have H' := Aside0.mk H
                clear H
                have p27 : 0 ≤ ((ji24) : Int) := of_decide_eq_true aS
                have q27 : ((ji24) : Int) < ((x5_3.length : Int) : Int) := of_decide_eq_true aS
                obtain ⟨go27, co27, eo27, gb27, gl27, cl27, HG27⟩ := Kd.R_form HO_5.out (by omega)
                (first | cases eo27 | (injection eo27 with ea_ en_ ec_; (first | subst ea_ | (injection ea_ with ea_; subst ea_)); subst ec_; clear en_))
                have GB27 := Aside0.mk gb27
                have GG27 := Aside0.mk HG27
                clear gb27 gl27 HG27
                obtain ⟨hx27_0, hf27_0⟩ := Kd.R_celln 0 HO_5.out ((ji24) : Int) p27 q27
                replace p27 := eq_true p27
                replace q27 := eq_true q27
                have HP28 := Kd.R_putg HO_5.out ((ji24) : Int) ((x8_3) % 4294967296)
                go_wp2_with (first | ((with_reducible refine gate_store (t := 36) (p := 71) rfl ?_); refine store_event (t := 36) (p := 71) (v := ?vo_w29) (w1 := (wr.setCell ⟨go27, ((ji24) : Int).toNat, none⟩ (.int .u32 ((x8_3) % 4294967296)))) ?hg ?ho ?hn ?hr ?_; (case ho => rfl); (case hg => rfl); (case hn => rfl); (case hr => first | (go_simp; done) | (go_simp; rfl)); intro w29 hw; have hg : wr.grownBy w29 (some go27) := (by rw [hw]; exact HP28.2); have hp_ : Kd.R (Kd.int .u32) 36 w29 w.heap.size (fun k_ => (w.heap.size ≤ k_)) (.slice (some ⟨go27, 0, none⟩) x5_3.length co27) y456 := (by rw [hw, Ny456.out]; exact HP28.1); clear HP28; have n0_ := Aside0.mk (hp_); have n1_ := Aside0.mk ((by rw [hw]; exact below_set (HB.out) GB27.out : Below w.heap.size w w29)); clear HO_5; clear HB; have HO_5 := n0_; have HB := n1_; clear n0_ n1_; clear hg hw hp_))
                (try simp only [← hji24])
                go_roundg k3
                case measure => have := HJ2.out; have := HK2.out; have := HK3.out; omega
                case rel => exact ⟨(y456), (wrap64 (x27_2 + 1)), (by first | rfl | (simp; done) | (simp [*]; done)), (by first | with_reducible exact H' | (simp only [hji24]; exact H') | exact H'), ⟨by have := HJ2.out; have := HK2.out; have := HK3.out; omega⟩, ⟨by (with_reducible repeat (first | apply Kd.R_alloc | apply Kd.R_drewN | apply Kd.R_drew)); exact HO_5.out⟩, ⟨by repeat (first | (with_reducible first | exact HB.out | apply below_alloc | apply pw_below_drewN | apply below_drew1) | exact HB.out)⟩⟩
               ·rw [if_neg c26] at H
                exact absurd H (by simp)
              ·rw [if_neg c25] at H
               exact absurd H (by simp)
          ·rw [if_neg c13] at H
           exact absurd H (by simp)
         ·rw [if_neg c12] at H
          exact absurd H (by simp)
        ·rw [if_neg c11] at H
         have c11b0 : decide (x27_2 < (l0.length : Int)) = false := decide_eq_false c11
         clear c11
         replace H := Option.bind_eq_some_iff.mp H
         obtain ⟨t449, A300, H⟩ := H
         replace H : (some t449) = some r := H
         have A30 := Aside0.mk A300
         clear A300
         obtain rfl := Option.some.inj H
         obtain ⟨Ao31, co31, eo31⟩ := Kd.R_slice HO_5.out
         subst eo31
         go_wp2_with (first | ((with_reducible refine gate_callee (f := 66) rfl ?_); refine goesL_ (some 74) rfl rfl Try.func66 (by kernel_rfl) rfl #[.slice Ao31 x5_2.length co31] rfl (by (try simp only [List.map_toArray, List.map_cons, List.map_nil]); first | done | rfl | (simp only [List.length_drop, List.length_take]; rfl)) ?_; (with_reducible refine (mag_Trim.calls k2 (fun k_ => some k_ = (.slice Ao31 x5_2.length co31 : Value).ownBlock) _ _ x5_2 t449 _ ?side1 A30.out).mono ?_); (case side1 => exact Kd.R_V (Kd.R_tight rfl (HO_5.out))); rintro e w32 ⟨v450, rfl, ho0, hb⟩; refine ⟨_, rfl, ?_⟩; have n0_ := Aside0.mk (Kd.R_below (by (with_reducible repeat (first | apply Kd.R_alloc | apply Kd.R_drewN | apply Kd.R_drew)); exact HO_5.out) hb); have n1_ := Aside0.mk (Kd.V_lower (Kd.V_mono (ok' := fun k_ => (w.heap.size ≤ k_)) ho0 (fun k_ hk_ => Or.elim hk_ (fun hs_ => ((HO_5.out).1 k_ hs_.symm)) (fun hn_ => (Nat.le_trans (below_size (bB)) hn_)))) (below_size (bB))); have n2_ := Aside0.mk (below_step (bB) hb); clear HO_5; clear HB; have HO_5 := n0_; have HO451 := n1_; have HB := n2_; clear n0_ n1_ n2_; (try clear hb); (try clear hb2); (try clear hk); (try clear hi); (try clear ho0)))
         go_ret
         exact ⟨_, by first | rfl | (simp [errW_none, errW_some] <;> rfl) | (simp only [← hji6]; first | rfl | (simp [errW_none, errW_some] <;> rfl)) | (simp [*, errW_none, errW_some] <;> rfl), by (with_reducible repeat (first | apply Kd.V_alloc | apply Kd.V_drewN | apply Kd.V_drew)); exact HO451.out, by repeat (first | (with_reducible first | exact HB.out | apply below_alloc | apply pw_below_drewN | apply below_drew1) | exact HB.out)⟩
     ·rw [if_neg c8] at H
      exact absurd H (by simp)
    ·rw [if_neg c7] at H
     exact absurd H (by simp)
end Go.Proofs.Ytfmobogdnlmdbaa.P
end
section
namespace Go.Proofs.Ytfmobogdnlmdbaa.P
open Go.RowKit Go.Proofs.YtfmobogdnlmdbaaW.PrintWords Go.Proofs.YtfmobogdnlmdbaaW.PrintLast Go.Proofs.YtfmobogdnlmdbaaW.PrintMore Go.Proofs.YtfmobogdnlmdbaaW
attribute [local go_sem] max2_int min2_int max_two min_two max_three min_three max_four min_four
set_option linter.unusedVariables false
set_option linter.unusedSimpArgs false
set_option maxHeartbeats 8000000 in
set_option maxRecDepth 100000 in
theorem nat_Mul.calls (k : Nat) (A0 : Option Addr) (c0 : Nat) (l0 : List Int) (A1 : Option Addr) (c1 : Nat) (l1 : List Int) (r1 : List Int) (r2 : Int) (w : World) (hr0 : Kd.C (Kd.int .u32) w A0 l0.length l0) (hc0 : l0.length ≤ c0) (hr1 : Kd.C (Kd.int .u32) w A1 l1.length l1) (hc1 : l1.length ≤ c1) (h : nat_Mul.f k l0 l1 = some (r1, r2)) :
  Calls Try.prog 21 #[.slice A0 l0.length c0, .slice A1 l1.length c1] w fun e w' => ∃ v0_ : Value, e = .returned (.tuple #[v0_, .int .i64 r2]) ∧ Kd.R (Kd.int .u32) 36 w' w.heap.size (fun _ => True) v0_ r1 ∧ Below w.heap.size w w' := by
 have HR0 := Aside0.mk hr0
 have HC0 := Aside0.mk hc0
 clear hr0 hc0
 have HR1 := Aside0.mk hr1
 have HC1 := Aside0.mk hc1
 clear hr1 hc1
 have HB := Aside0.mk (Below.refl w.heap.size w)
 have H : ((nat_both.f l0 l1).bind fun t457 => (if t457 = true then (if (l0.length : Int) > 0 then (if (l1.length : Int) > 0 then (nat_Mul.j0 k l0 l1 (decide ((wrap64 ((wrap64 ((l0.length : Int) + (l1.length : Int))) - 1)) > 4096))) else (nat_Mul.j0 k l0 l1 false)) else (nat_Mul.j0 k l0 l1 false)) else (some (([] : List Int), 3)))) = some (r1, r2) := h
 clear h
 replace H := Option.bind_eq_some_iff.mp H
 obtain ⟨t457, A30, H⟩ := H
 replace H : (if t457 = true then (if (l0.length : Int) > 0 then (if (l1.length : Int) > 0 then (nat_Mul.j0 k l0 l1 (decide ((wrap64 ((wrap64 ((l0.length : Int) + (l1.length : Int))) - 1)) > 4096))) else (nat_Mul.j0 k l0 l1 false)) else (nat_Mul.j0 k l0 l1 false)) else (some (([] : List Int), 3))) = some (r1, r2) := H
 have A3 := Aside0.mk A30
 clear A30
 by_cases c4 : t457 = true
 ·subst c4
  have H1 : (if (l0.length : Int) > 0 then (if (l1.length : Int) > 0 then (nat_Mul.j0 k l0 l1 (decide ((wrap64 ((wrap64 ((l0.length : Int) + (l1.length : Int))) - 1)) > 4096))) else (nat_Mul.j0 k l0 l1 false)) else (nat_Mul.j0 k l0 l1 false)) = some (r1, r2) := by rw [if_pos rfl] at H; exact H
  clear H
  have H := H1
  clear H1
  have HC5 := Aside0.mk H
  clear H
  go_enter Try.func21, Try.ntmps21
  go_upto_region 3 with (first | ((with_reducible refine gate_callee (f := 54) rfl ?_); refine goesL_ (some 9) rfl rfl Try.func54 (by kernel_rfl) rfl #[.slice A0 l0.length c0, .slice A1 l1.length c1] rfl (by (try simp only [List.map_toArray, List.map_cons, List.map_nil]); first | done | rfl | (simp only [List.length_drop, List.length_take]; rfl)) ?_; (with_reducible refine (nat_both.calls _ _ l0 _ _ l1 true _ ?side1 ?side2 ?side3 ?side4 A3.out).mono ?_); (case side1 => repeat (first | exact HR0.out | (with_reducible refine Kd.C_alloc ?_ _) | (with_reducible refine Kd.C_drewN ?_ _) | (with_reducible refine Kd.C_drew ?_))); (case side2 => exact HC0.out); (case side3 => repeat (first | exact HR1.out | (with_reducible refine Kd.C_alloc ?_ _) | (with_reducible refine Kd.C_drewN ?_ _) | (with_reducible refine Kd.C_drew ?_))); (case side4 => exact HC1.out); rintro e w' ⟨rfl, ⟨nd, rfl⟩⟩; refine ⟨_, rfl, ?_⟩))
  (try simp only [Act.put, List.setIfInBounds_toArray, List.set_cons_zero, List.set_cons_succ])
  go_cut [11] (fun v11 wc => ∃ (kq : Nat) (x11_4 : Bool), v11 = .bool x11_4 ∧ Aside0 (nat_Mul.j0 kq l0 l1 x11_4 = some (r1, r2)) ∧ Aside0 (kq ≤ k) ∧ Aside0 (Below w.heap.size w wc))
  case first =>
   have H := HC5.out
   clear HC5
   by_cases c6 : (l0.length : Int) > 0
   ·rw [if_pos c6] at H
    have c6b0 : decide (0 < (l0.length : Int)) = true := decide_eq_true c6
    have c6b1 : decide (0 < l0.length) = true := decide_eq_true (by omega)
    clear c6
    (first | rw [c6b0] | (simp only [i64_w, i32_w]; rw [c6b0]) | rw [c6b1] | skip)
    by_cases c7 : (l1.length : Int) > 0
    ·rw [if_pos c7] at H
     have c7b0 : decide (0 < (l1.length : Int)) = true := decide_eq_true c7
     have c7b1 : decide (0 < l1.length) = true := decide_eq_true (by omega)
     clear c7
     have H' := Aside0.mk H
     clear H
     go_wp2
     go_meet
     case rel => exact ⟨_, (decide ((wrap64 ((wrap64 ((l0.length : Int) + (l1.length : Int))) - 1)) > 4096)), (by first | rfl | (simp; done) | (simp [*]; done)), H', ⟨by first | omega | exact Nat.le_refl _⟩, ⟨by repeat (first | (with_reducible first | exact HB.out | apply below_alloc | apply pw_below_drewN | apply below_drew1) | exact HB.out)⟩⟩
    ·rw [if_neg c7] at H
     have c7b0 : decide (0 < (l1.length : Int)) = false := decide_eq_false c7
     have c7b1 : decide (0 < l1.length) = false := decide_eq_false (by omega)
     clear c7
     have H' := Aside0.mk H
     clear H
     go_wp2
     go_meet
     case rel => exact ⟨_, (false), (by first | rfl | (simp; done) | (simp [*]; done)), H', ⟨by first | omega | exact Nat.le_refl _⟩, ⟨by repeat (first | (with_reducible first | exact HB.out | apply below_alloc | apply pw_below_drewN | apply below_drew1) | exact HB.out)⟩⟩
   ·rw [if_neg c6] at H
    have c6b0 : decide (0 < (l0.length : Int)) = false := decide_eq_false c6
    have c6b1 : decide (0 < l0.length) = false := decide_eq_false (by omega)
    clear c6
    (first | rw [c6b0] | (simp only [i64_w, i32_w]; rw [c6b0]) | rw [c6b1] | skip)
    have H' := Aside0.mk H
    clear H
    go_wp2
    go_meet
    case rel => exact ⟨_, (false), (by first | rfl | (simp; done) | (simp [*]; done)), H', ⟨by first | omega | exact Nat.le_refl _⟩, ⟨by repeat (first | (with_reducible first | exact HB.out | apply below_alloc | apply pw_below_drewN | apply below_drew1) | exact HB.out)⟩⟩
  case rest =>
   clear HC5
   try clear c1
   try clear c2
   try clear p2
   try clear c4
   try clear c5
   try clear c6
   try clear c6b0
   try clear c6b1
   try clear p6
   try clear c7
   try clear c7b0
   try clear c7b1
   obtain ⟨kq, x11_4, rfl, HA, HJ4, HB⟩ := hcut
   cases kq with
   | zero => exact absurd HA.out (by simp [nat_Mul.j0])
   | succ kj4 =>
    have H := HA.out
    clear HA
    simp only [nat_Mul.j0] at H
    by_cases c8 : x11_4 = true
    ·subst c8
     have H1 : (some (([] : List Int), 2)) = some (r1, r2) := by rw [if_pos rfl] at H; exact H
     clear H
     have H := H1
     clear H1
     simp only [Option.some.injEq, Prod.mk.injEq] at H
     obtain ⟨rfl, rfl⟩ := H
     go_wp2
     go_ret2
     exact ⟨_, by first | rfl | (simp [errW_none, errW_some] <;> rfl) | (simp [*, errW_none, errW_some] <;> rfl), by first | exact Kd.R_nil _ _ _ _ _ | exact Kd.N_nil _ _ _ _ _ | exact Kd.V_nil _ _ _ _ _ | exact Kd.Q_nil _ _ _ _ _ | exact Kd.S_nil _ _ _ _ _, by repeat (first | (with_reducible first | exact HB.out | apply below_alloc | apply pw_below_drewN | apply below_drew1) | exact HB.out)⟩
    ·replace c8 := Bool.eq_false_iff.mpr c8
     subst c8
     have H1 : ((mag_Mul.f kj4 l0 l1).bind fun t458 => ((nat_limited.f t458).bind fun bt461 => (some (bt461.1, bt461.2)))) = some (r1, r2) := by rw [if_neg (show ¬ (false = true) by decide)] at H; exact H
     clear H
     have H := H1
     clear H1
     replace H := Option.bind_eq_some_iff.mp H
     obtain ⟨t458, A90, H⟩ := H
     replace H : ((nat_limited.f t458).bind fun bt461 => (some (bt461.1, bt461.2))) = some (r1, r2) := H
     have A9 := Aside0.mk A90
     clear A90
     replace H := Option.bind_eq_some_iff.mp H
     obtain ⟨⟨t461, t462⟩, A100, H⟩ := H
     replace H : (some (t461, t462)) = some (r1, r2) := H
     have A10 := Aside0.mk A100
     clear A100
     simp only [Option.some.injEq, Prod.mk.injEq] at H
     obtain ⟨rfl, rfl⟩ := H
     go_wp2_with (first | ((with_reducible refine gate_callee (f := 55) rfl ?_); refine goesL_ (some 31) rfl rfl Try.func55 (by kernel_rfl) rfl #[.slice A0 l0.length c0, .slice A1 l1.length c1] rfl (by (try simp only [List.map_toArray, List.map_cons, List.map_nil]); first | done | rfl | (simp only [List.length_drop, List.length_take]; rfl)) ?_; (with_reducible refine (mag_Mul.calls kj4 _ _ l0 _ _ l1 t458 _ ?side1 ?side2 ?side3 ?side4 A9.out).mono ?_); (case side1 => repeat (first | exact (Kd.C_below HR0.out HB.out) | (with_reducible refine Kd.C_alloc ?_ _) | (with_reducible refine Kd.C_drewN ?_ _) | (with_reducible refine Kd.C_drew ?_))); (case side2 => exact HC0.out); (case side3 => repeat (first | exact (Kd.C_below HR1.out HB.out) | (with_reducible refine Kd.C_alloc ?_ _) | (with_reducible refine Kd.C_drewN ?_ _) | (with_reducible refine Kd.C_drew ?_))); (case side4 => exact HC1.out); rintro e w11 ⟨v459, rfl, ho0, hb⟩; refine ⟨_, rfl, ?_⟩; have n0_ := Aside0.mk (Kd.V_lower (Kd.V_mono (ok' := fun k_ => True) ho0 (fun k_ hk_ => trivial)) (below_size (bB))); have n1_ := Aside0.mk (below_step (bB) hb); clear HB; have HO460 := n0_; have HB := n1_; clear n0_ n1_; (try clear hb); (try clear hb2); (try clear hk); (try clear hi); (try clear ho0); obtain ⟨Ao12, co12, eo12⟩ := Kd.V_slice HO460.out; subst eo12) | ((with_reducible refine gate_callee (f := 52) rfl ?_); refine goesL_ (some 32) rfl rfl Try.func52 (by kernel_rfl) rfl #[.slice Ao12 t458.length co12] rfl (by (try simp only [List.map_toArray, List.map_cons, List.map_nil]); first | done | rfl | (simp only [List.length_drop, List.length_take]; rfl)) ?_; (with_reducible refine (nat_limited.calls _ _ t458 t461 t462 _ ?side1 ?side2 A10.out).mono ?_); (case side1 => repeat (first | exact (Kd.V_reads' HO460.out).2.2 | (with_reducible refine Kd.C_alloc ?_ _) | (with_reducible refine Kd.C_drewN ?_ _) | (with_reducible refine Kd.C_drew ?_))); (case side2 => exact (Kd.V_reads' HO460.out).2.1); rintro e w13 ⟨v463, rfl, ho0, hb⟩; refine ⟨_, rfl, ?_⟩; have n0_ := Aside0.mk (Kd.V_elder' (by (with_reducible repeat (first | apply Kd.V_alloc | apply Kd.V_drewN | apply Kd.V_drew)); exact HO460.out) (Kd.R_base ho0) hb); have n1_ := Aside0.mk (Kd.R_lower ho0 (below_size (bB))); have n2_ := Aside0.mk (below_step (bB) hb); clear HO460; clear HB; have HO460 := n0_; have HO464 := n1_; have HB := n2_; clear n0_ n1_ n2_; (try clear hb); (try clear hb2); (try clear hk); (try clear hi); (try clear ho0)))
     go_ret2
     exact ⟨_, by first | rfl | (simp [errW_none, errW_some] <;> rfl) | (simp [*, errW_none, errW_some] <;> rfl), by (with_reducible repeat (first | apply Kd.R_alloc | apply Kd.R_drewN | apply Kd.R_drew)); exact HO464.out, by repeat (first | (with_reducible first | exact HB.out | apply below_alloc | apply pw_below_drewN | apply below_drew1) | exact HB.out)⟩
 ·replace c4 := Bool.eq_false_iff.mpr c4
  subst c4
  have H1 : (some (([] : List Int), 3)) = some (r1, r2) := by rw [if_neg (show ¬ (false = true) by decide)] at H; exact H
  clear H
  have H := H1
  clear H1
  simp only [Option.some.injEq, Prod.mk.injEq] at H
  obtain ⟨rfl, rfl⟩ := H
  go_enter Try.func21, Try.ntmps21
  go_wp2_with (first | ((with_reducible refine gate_callee (f := 54) rfl ?_); refine goesL_ (some 9) rfl rfl Try.func54 (by kernel_rfl) rfl #[.slice A0 l0.length c0, .slice A1 l1.length c1] rfl (by (try simp only [List.map_toArray, List.map_cons, List.map_nil]); first | done | rfl | (simp only [List.length_drop, List.length_take]; rfl)) ?_; (with_reducible refine (nat_both.calls _ _ l0 _ _ l1 false _ ?side1 ?side2 ?side3 ?side4 A3.out).mono ?_); (case side1 => repeat (first | exact HR0.out | (with_reducible refine Kd.C_alloc ?_ _) | (with_reducible refine Kd.C_drewN ?_ _) | (with_reducible refine Kd.C_drew ?_))); (case side2 => exact HC0.out); (case side3 => repeat (first | exact HR1.out | (with_reducible refine Kd.C_alloc ?_ _) | (with_reducible refine Kd.C_drewN ?_ _) | (with_reducible refine Kd.C_drew ?_))); (case side4 => exact HC1.out); rintro e w' ⟨rfl, ⟨nd, rfl⟩⟩; refine ⟨_, rfl, ?_⟩))
  go_ret2
  exact ⟨_, by first | rfl | (simp [errW_none, errW_some] <;> rfl) | (simp [*, errW_none, errW_some] <;> rfl), by first | exact Kd.R_nil _ _ _ _ _ | exact Kd.N_nil _ _ _ _ _ | exact Kd.V_nil _ _ _ _ _ | exact Kd.Q_nil _ _ _ _ _ | exact Kd.S_nil _ _ _ _ _, by repeat (first | (with_reducible first | exact HB.out | apply below_alloc | apply pw_below_drewN | apply below_drew1) | exact HB.out)⟩
end Go.Proofs.Ytfmobogdnlmdbaa.P
end
section
namespace Go.Proofs.Ytfmobogdnlmdbaa.P
open Go.RowKit Go.Proofs.YtfmobogdnlmdbaaW.PrintWords Go.Proofs.YtfmobogdnlmdbaaW.PrintLast Go.Proofs.YtfmobogdnlmdbaaW.PrintMore Go.Proofs.YtfmobogdnlmdbaaW
attribute [local go_sem] max2_int min2_int max_two min_two max_three min_three max_four min_four
set_option linter.unusedVariables false
set_option linter.unusedSimpArgs false
set_option maxHeartbeats 8000000 in
set_option maxRecDepth 100000 in
theorem isochroneref01_Split.calls (k : Nat) (A0 : Option Addr) (c0 : Nat) (l0 : List Int) (a1 : Int) (r1 : List Int) (r2 : Int) (w : World) (hr0 : Kd.C (Kd.int .i64) w A0 l0.length l0) (hc0 : l0.length ≤ c0) (h : isochroneref01_Split.f k l0 a1 = some (r1, r2)) :
  Calls Try.prog 56 #[.slice A0 l0.length c0, .int .i64 a1] w fun e w' => ∃ v0_ : Value, e = .returned (.tuple #[v0_, .int .i64 r2]) ∧ Kd.R (Kd.int .i64) 3 w' w.heap.size (fun _ => True) v0_ r1 ∧ Below w.heap.size w w' := by
 have HR0 := Aside0.mk hr0
 have HC0 := Aside0.mk hc0
 clear hr0 hc0
 have HB := Aside0.mk (Below.refl w.heap.size w)
 have H : (if 0 ≤ (l0.length : Int) then (if ((l0.length : Int) : Int).toNat ≤ 35184372088832 then (isochroneref01_Split.l0 k l0 a1 (List.replicate ((l0.length : Int) : Int).toNat 0) 0 (wrap64 ((l0.length : Int) - 1))) else (none)) else (none)) = some (r1, r2) := h
 clear h
 by_cases c3 : 0 ≤ (l0.length : Int)
 ·rw [if_pos c3] at H
  have c3b0 := eq_true c3
  have c3b1 : decide (0 ≤ (l0.length : Int)) = true := decide_eq_true c3
  clear c3
  by_cases c4 : ((l0.length : Int) : Int).toNat ≤ 35184372088832
  ·rw [if_pos c4] at H
   have c4b0 := eq_true c4
   have c4b1 : decide (((l0.length : Int) : Int).toNat ≤ 35184372088832) = true := decide_eq_true c4
   clear c4
   obtain ⟨y505, hy505⟩ : ∃ y_ : List Int, y_ = (List.replicate ((l0.length : Int) : Int).toNat 0) := ⟨_, rfl⟩
   replace H : (isochroneref01_Split.l0 k l0 a1 y505 0 (wrap64 ((l0.length : Int) - 1))) = some (r1, r2) := by first | (rw [hy505]; with_reducible exact H) | (have H2_ := (Option.bind_some _ _).symm.trans H; rw [hy505]; with_reducible exact H2_) | (have H2_ := (Option.bind_some _ _).symm.trans H; with_reducible exact H2_) | with_reducible exact H | (rw [hy505]; exact H) | exact H
   have Ny505 := Aside0.mk hy505
   clear hy505
   have H' := Aside0.mk H
   clear H
   go_enter Try.func56, Try.ntmps56
   go_wp2_with (first | ((with_reducible refine gate_dst (N := 11) rfl ?_); refine Kd.R_make (Kd.int .i64) _ 3 rfl (N := 11) rfl 30 _ _ rfl (l0.length : Int) rfl rfl Try.underlying30 (.int .i64 0) 8 info3 rfl (by decide) (by omega) 0 (ok := fun _ => True) (okp := fun _ => True) rfl (fun _ hk => hk) trivial (of_decide_eq_true aS) (Nat.le_trans (Nat.mul_le_mul_right _ (of_decide_eq_true aS : (l0.length : Int).toNat ≤ 35184372088832)) (by omega)) (Below.refl _ _) (Nat.le_refl _) ?_; intro v506 w5 ho6 hb hg_ hnew_; clear hg_ hnew_; (first | rw [← Ny505.out] at ho6 | (simp only [Int.reduceToNat] at ho6; rw [← Ny505.out] at ho6)); have n0_ := Aside0.mk (Kd.R_lower ho6 (below_size (bB))); have n1_ := Aside0.mk (below_step (bB) hb); clear HB; have HO507 := n0_; have HB := n1_; clear n0_ n1_; clear hb ho6))
   go_loopg [7, 8] k (fun kq v7 v8 w' => ∃ (x6_1 : List Int) (x7_1 : Int) (x8_1 : Int), v7 = .int .i64 x7_1 ∧ v8 = .int .i64 x8_1 ∧ Aside0 (isochroneref01_Split.l0 kq l0 a1 x6_1 x7_1 x8_1 = some (r1, r2)) ∧ Aside0 (kq ≤ k) ∧ Aside0 (Kd.R (Kd.int .i64) 3 w' w.heap.size (fun _ => True) v506 x6_1) ∧ Aside0 (Below w.heap.size w w'))
   case atStart => exact ⟨(y505), (0), (wrap64 ((l0.length : Int) - 1)), (by first | rfl | (simp; done) | (simp [*]; done)), (by first | rfl | (simp; done) | (simp [*]; done)), H', ⟨Nat.le_refl _⟩, ⟨by (with_reducible repeat (first | apply Kd.R_alloc | apply Kd.R_drewN | apply Kd.R_drew)); exact HO507.out⟩, ⟨by repeat (first | (with_reducible first | exact HB.out | apply below_alloc | apply pw_below_drewN | apply below_drew1) | exact HB.out)⟩⟩
   case round =>
    clear H'
    try clear p2
    try clear c3
    try clear c3b0
    try clear c3b1
    try clear c4
    try clear c4b0
    try clear c4b1
    try clear c5
    try clear p6
    obtain ⟨x6_1, x7_1, x8_1, rfl, rfl, HA, HK1, HO_6, HB⟩ := hrel
    cases gk with
    | zero => exact absurd HA.out (by simp [isochroneref01_Split.l0])
    | succ k1 =>
     have H := HA.out
     clear HA
     simp only [isochroneref01_Split.l0] at H
     by_cases c7 : x8_1 ≥ 0
     ·rw [if_pos c7] at H
      have c7b0 : decide (0 ≤ x8_1) = true := decide_eq_true c7
      clear c7
      by_cases c8 : 0 ≤ x8_1
      ·rw [if_pos c8] at H
       have c8b0 : decide (0 ≤ x8_1) = true := decide_eq_true c8
       clear c8
       by_cases c9 : x8_1 < (l0.length : Int)
       ·rw [if_pos c9] at H
        have c9b0 : decide (x8_1 < (l0.length : Int)) = true := decide_eq_true c9
        clear c9
        by_cases c10 : a1 = 0
        ·rw [if_pos c10] at H
         exact absurd H (by simp)
        ·rw [if_neg c10] at H
         have c10b0 : (a1 == 0) = false := beq_eq_false_iff_ne.mpr c10
         have c10b1 : (a1 != 0) = true := bne_iff_ne.mpr c10
         by_cases c11 : x8_1 < (x6_1.length : Int)
         ·rw [if_pos c11] at H
          have c11b0 : decide (x8_1 < (x6_1.length : Int)) = true := decide_eq_true c11
          clear c11
          obtain ⟨y509, hy509⟩ : ∃ y_ : List Int, y_ = (x6_1.set (x8_1 : Int).toNat (wrap64 (Int.tdiv (wrap64 ((wrap64 (x7_1 * 10000)) + (rd l0 x8_1))) a1))) := ⟨_, rfl⟩
          replace H : (isochroneref01_Split.l0 k1 l0 a1 y509 (Int.tmod (wrap64 ((wrap64 (x7_1 * 10000)) + (rd l0 x8_1))) a1) (wrap64 (x8_1 - 1))) = some (r1, r2) := by first | (rw [hy509]; with_reducible exact H) | (have H2_ := (Option.bind_some _ _).symm.trans H; rw [hy509]; with_reducible exact H2_) | (have H2_ := (Option.bind_some _ _).symm.trans H; with_reducible exact H2_) | with_reducible exact H | (rw [hy509]; exact H) | exact H
          have Ny509 := Aside0.mk hy509
          clear hy509
          have H' := Aside0.mk H
          clear H
          have p508 : 0 ≤ (x8_1 : Int) := of_decide_eq_true aS
          have q508 : x8_1 < (l0.length : Int) := of_decide_eq_true aS
          obtain ⟨ad508, e508, hx508_0⟩ := Kd.at_int HR0.out x8_1 p508 q508
          cases e508
          replace hx508_0 := (HB.out.cell (World.block_lt_of_cell? w _ hx508_0)).trans hx508_0
          replace p508 := eq_true p508
          replace q508 := eq_true q508
          have p12 : 0 ≤ (x8_1 : Int) := of_decide_eq_true aS
          have q12 : (x8_1 : Int) < ((x6_1.length : Int) : Int) := of_decide_eq_true aS
          obtain ⟨go12, co12, eo12, gb12, gl12, cl12, HG12⟩ := Kd.R_form HO_6.out (by omega)
          (first | cases eo12 | (injection eo12 with ea_ en_ ec_; (first | subst ea_ | (injection ea_ with ea_; subst ea_)); subst ec_; clear en_))
          have GB12 := Aside0.mk gb12
          have GG12 := Aside0.mk HG12
          clear gb12 gl12 HG12
          obtain ⟨hx12_0, hf12_0⟩ := Kd.R_celln 0 HO_6.out (x8_1 : Int) p12 q12
          replace p12 := eq_true p12
          replace q12 := eq_true q12
          have HP13 := Kd.R_putg HO_6.out (x8_1 : Int) (wrap64 (Int.tdiv (wrap64 ((wrap64 (x7_1 * 10000)) + (rd l0 x8_1))) a1))
          go_wp2_with (first | ((with_reducible refine gate_store (t := 3) (p := 31) rfl ?_); refine store_event (t := 3) (p := 31) (v := ?vo_w14) (w1 := (wr.setCell ⟨go12, (x8_1 : Int).toNat, none⟩ (.int .i64 (wrap64 (Int.tdiv (wrap64 ((wrap64 (x7_1 * 10000)) + (rd l0 x8_1))) a1))))) ?hg ?ho ?hn ?hr ?_; (case ho => rfl); (case hg => rfl); (case hn => rfl); (case hr => first | (go_simp; done) | (go_simp; rfl)); intro w14 hw; have hg : wr.grownBy w14 (some go12) := (by rw [hw]; exact HP13.2); have hp_ : Kd.R (Kd.int .i64) 3 w14 w.heap.size (fun _ => True) (.slice (some ⟨go12, 0, none⟩) x6_1.length co12) y509 := (by rw [hw, Ny509.out]; exact HP13.1); clear HP13; have n0_ := Aside0.mk (hp_); have n1_ := Aside0.mk ((by rw [hw]; exact below_set (HB.out) GB12.out : Below w.heap.size w w14)); clear HO_6; clear HB; have HO_6 := n0_; have HB := n1_; clear n0_ n1_; clear hg hw hp_))
          go_roundg k1
          case measure => have := HK1.out; omega
          case rel => exact ⟨(y509), (Int.tmod (wrap64 ((wrap64 (x7_1 * 10000)) + (rd l0 x8_1))) a1), (wrap64 (x8_1 - 1)), (by first | rfl | (simp; done) | (simp [*]; done)), (by first | rfl | (simp; done) | (simp [*]; done)), H', ⟨by have := HK1.out; omega⟩, ⟨by (with_reducible repeat (first | apply Kd.R_alloc | apply Kd.R_drewN | apply Kd.R_drew)); exact HO_6.out⟩, ⟨by repeat (first | (with_reducible first | exact HB.out | apply below_alloc | apply pw_below_drewN | apply below_drew1) | exact HB.out)⟩⟩
         ·rw [if_neg c11] at H
          exact absurd H (by simp)
       ·rw [if_neg c9] at H
        exact absurd H (by simp)
      ·rw [if_neg c8] at H
       exact absurd H (by simp)
     ·rw [if_neg c7] at H
      have c7b0 : decide (0 ≤ x8_1) = false := decide_eq_false c7
      clear c7
      replace H := Option.bind_eq_some_iff.mp H
      obtain ⟨t510, A150, H⟩ := H
      replace H : (some (t510, x7_1)) = some (r1, r2) := H
      have A15 := Aside0.mk A150
      clear A150
      simp only [Option.some.injEq, Prod.mk.injEq] at H
      obtain ⟨rfl, rfl⟩ := H
      obtain ⟨Ao16, co16, eo16⟩ := Kd.R_slice HO_6.out
      subst eo16
      go_wp2_with (first | ((with_reducible refine gate_callee (f := 53) rfl ?_); refine goesL_ (some 36) rfl rfl Try.func53 (by kernel_rfl) rfl #[.slice Ao16 x6_1.length co16] rfl (by (try simp only [List.map_toArray, List.map_cons, List.map_nil]); first | done | rfl | (simp only [List.length_drop, List.length_take]; rfl)) ?_; (with_reducible refine (isochroneref01_trim.calls k1 (fun k_ => some k_ = (.slice Ao16 x6_1.length co16 : Value).ownBlock) (.slice Ao16 x6_1.length co16) x6_1 t510 w _ ?side1 ?side2 A15.out).mono ?_); (case side1 => repeat (first | (with_reducible first | exact HB.out | apply below_alloc | apply pw_below_drewN | apply below_drew1) | exact HB.out)); (case side2 => exact Kd.R_tight rfl HO_6.out); rintro e w17 ⟨v511, rfl, ho0, hb, hkp⟩; refine ⟨_, rfl, ?_⟩; have n0_ := Aside0.mk (Kd.R_mono (ok' := fun k_ => True) ho0 (fun k_ hk_ => trivial)); have n1_ := Aside0.mk (hb); clear HB; clear HO_6; have HO512 := n0_; have HB := n1_; clear n0_ n1_; (try clear hb); (try clear hkp); (try clear ho0)))
      go_ret2
      exact ⟨_, by first | rfl | (simp [errW_none, errW_some] <;> rfl) | (simp [*, errW_none, errW_some] <;> rfl), by (with_reducible repeat (first | apply Kd.R_alloc | apply Kd.R_drewN | apply Kd.R_drew)); exact HO512.out, by repeat (first | (with_reducible first | exact HB.out | apply below_alloc | apply pw_below_drewN | apply below_drew1) | exact HB.out)⟩
  ·rw [if_neg c4] at H
   exact absurd H (by simp)
 ·rw [if_neg c3] at H
  exact absurd H (by simp)
end Go.Proofs.Ytfmobogdnlmdbaa.P
end
section
namespace Go.Proofs.Ytfmobogdnlmdbaa.P
open Go.RowKit Go.Proofs.YtfmobogdnlmdbaaW.PrintWords Go.Proofs.YtfmobogdnlmdbaaW.PrintLast Go.Proofs.YtfmobogdnlmdbaaW.PrintMore Go.Proofs.YtfmobogdnlmdbaaW
attribute [local go_sem] max2_int min2_int max_two min_two max_three min_three max_four min_four
set_option linter.unusedVariables false
set_option linter.unusedSimpArgs false
set_option maxHeartbeats 8000000 in
set_option maxRecDepth 100000 in
theorem isochroneref01_Words.calls (k : Nat) (P0_ : Nat → Prop) (A0 : Option Addr) (c0 : Nat) (l0 : List Int) (r : List Int) (w : World) (hs0 : Kd.V (Kd.int .i64) 3 w w.heap.size (fun k_ => P0_ k_) (.slice A0 l0.length c0) l0) (h : isochroneref01_Words.f k l0 = some r) :
  Calls Try.prog 42 #[.slice A0 l0.length c0] w fun e w' => ∃ v0_ : Value, e = .returned (v0_) ∧ Kd.R (Kd.int .u32) 36 w' w.heap.size (fun k_ => (w.heap.size ≤ k_)) v0_ r ∧ Below w.heap.size w w' := by
 have HO0 := Aside0.mk (show Kd.V (Kd.int .i64) 3 w w.heap.size (fun k_ => (P0_ k_ ∨ w.heap.size ≤ k_)) (.slice A0 l0.length c0) l0 from Kd.V_mono hs0 (fun k_ hk => .inl hk))
 have HB := Aside0.mk (Below.refl w.heap.size w)
 have H : (isochroneref01_Words.l0 k l0 ([] : List Int)) = some r := h
 clear h
 have H' := Aside0.mk H
 clear H
 go_enter Try.func42, Try.ntmps42
 go_wp2
 go_loopg [0, 3] k (fun kq v0 v3 w' => ∃ (x0_1 : List Int) (x3_1 : List Int), Aside0 (isochroneref01_Words.l0 kq x0_1 x3_1 = some r) ∧ Aside0 (kq ≤ k) ∧ Aside0 (Kd.V (Kd.int .i64) 3 w' w.heap.size (fun k_ => (P0_ k_ ∨ w.heap.size ≤ k_) ∧ some k_ ≠ (v3 : Value).ownBlock) v0 x0_1) ∧ Aside0 (Kd.R (Kd.int .i64) 3 w' w.heap.size (fun k_ => (w.heap.size ≤ k_)) v3 x3_1) ∧ Aside0 (Below w.heap.size w w'))
 case atStart => exact ⟨(l0), (([] : List Int)), H', ⟨Nat.le_refl _⟩, ⟨by (with_reducible repeat (first | apply Kd.V_alloc | apply Kd.V_drewN | apply Kd.V_drew)); exact Kd.V_mono HO0.out (fun _ hk => ⟨hk, (by simp [Value.ownBlock])⟩)⟩, ⟨by first | exact Kd.R_nil _ _ _ _ _ | exact Kd.N_nil _ _ _ _ _ | exact Kd.V_nil _ _ _ _ _ | exact Kd.Q_nil _ _ _ _ _ | exact Kd.S_nil _ _ _ _ _⟩, ⟨by repeat (first | (with_reducible first | exact HB.out | apply below_alloc | apply pw_below_drewN | apply below_drew1) | exact HB.out)⟩⟩
 case round =>
  clear H'
  obtain ⟨x0_1, x3_1, HA, HK1, HO_0, HO_3, HB⟩ := hrel
  cases gk with
  | zero => exact absurd HA.out (by simp [isochroneref01_Words.l0])
  | succ k1 =>
   have H := HA.out
   clear HA
   simp only [isochroneref01_Words.l0] at H
   by_cases c2 : (x0_1.length : Int) > 0
   ·rw [if_pos c2] at H
    have c2b0 : decide (0 < (x0_1.length : Int)) = true := decide_eq_true c2
    have c2b1 : decide (0 < x0_1.length) = true := decide_eq_true (by omega)
    clear c2
    replace H := Option.bind_eq_some_iff.mp H
    obtain ⟨⟨t517, t518⟩, A30, H⟩ := H
    replace H : (if x3_1.length < 17592186044416 then (isochroneref01_Words.l0 k1 t517 (x3_1 ++ [t518])) else (none)) = some r := H
    have A3 := Aside0.mk A30
    clear A30
    by_cases c4 : x3_1.length < 17592186044416
    ·rw [if_pos c4] at H
     have LMc4 := Aside0.mk c4
     clear c4
     obtain ⟨y521, hy521⟩ : ∃ y_ : List Int, y_ = (x3_1 ++ [t518]) := ⟨_, rfl⟩
     replace H : (isochroneref01_Words.l0 k1 t517 y521) = some r := by first | (rw [hy521]; with_reducible exact H) | (have H2_ := (Option.bind_some _ _).symm.trans H; rw [hy521]; with_reducible exact H2_) | (have H2_ := (Option.bind_some _ _).symm.trans H; with_reducible exact H2_) | with_reducible exact H | (rw [hy521]; exact H) | exact H
     have Ny521 := Aside0.mk hy521
     clear hy521
     have H' := Aside0.mk H
     clear H
     obtain ⟨Ao5, co5, eo5⟩ := Kd.V_slice HO_0.out
     subst eo5
     go_wp2_with (first | ((with_reducible refine gate_callee (f := 56) rfl ?_); refine goesL_ (some 14) rfl rfl Try.func56 (by kernel_rfl) rfl #[.slice Ao5 x0_1.length co5, .int .i64 65536] rfl (by (try simp only [List.map_toArray, List.map_cons, List.map_nil]); first | done | rfl | (simp only [List.length_drop, List.length_take]; rfl)) ?_; (with_reducible refine (isochroneref01_Split.calls k1 _ _ x0_1 65536 t517 t518 _ ?side1 ?side2 A3.out).mono ?_); (case side1 => repeat (first | exact (Kd.V_reads' HO_0.out).2.2 | (with_reducible refine Kd.C_alloc ?_ _) | (with_reducible refine Kd.C_drewN ?_ _) | (with_reducible refine Kd.C_drew ?_))); (case side2 => exact (Kd.V_reads' HO_0.out).2.1); rintro e w6 ⟨v519, rfl, ho0, hb⟩; refine ⟨_, rfl, ?_⟩; have n0_ := Aside0.mk (Kd.V_elder' (by (with_reducible repeat (first | apply Kd.V_alloc | apply Kd.V_drewN | apply Kd.V_drew)); exact HO_0.out) (Kd.R_base ho0) hb); have n1_ := Aside0.mk (Kd.R_elder' (by (with_reducible repeat (first | apply Kd.R_alloc | apply Kd.R_drewN | apply Kd.R_drew)); exact HO_3.out) (Kd.R_base ho0) hb); have n2_ := Aside0.mk (Kd.R_lower (Kd.R_new' (Kd.R_newM (M := fun k_ => (w.heap.size ≤ k_)) ho0 (below_size (bB)) (fun k_ h_ => h_)) (Kd.R_lt (by (with_reducible repeat (first | apply Kd.R_alloc | apply Kd.R_drewN | apply Kd.R_drew)); exact HO_3.out))) (below_size (bB))); have n3_ := Aside0.mk (below_step (bB) hb); clear HO_0; clear HO_3; clear HB; have HO_0 := n0_; have HO_3 := n1_; have HO520 := n2_; have HB := n3_; clear n0_ n1_ n2_ n3_; (try clear hb); (try clear hb2); (try clear hk); (try clear hi); (try clear ho0)) | ((with_reducible refine gate_builtin (b := .append) (xs := #[.tmp 17, .tmp 19]) rfl ?_); at_builtin; refine Kd.R_append (Kd.int .i64) (w0 := w) w.heap.size rfl (.tmp 17) (.tmp 19) 29 3 (.int .i64 0) 8 rfl Try.underlying29 info3 rfl (by decide) (by omega) u3 x3_1 t518 [.int .i64 t518] (fun k_ => (w.heap.size ≤ k_) ∧ some k_ ≠ (v519 : Value).ownBlock) (fun _ => False) rfl (by first | rfl | (go_simp; done) | (go_simp; rfl)) ?aP (fun _ hk => hk.elim) ?aF ?aO ?aB ?aS ?aL ?_; (case aP => exact rfl); (case aB => exact (bB)); (case aF => exact (fun k_ hk => ⟨(Nat.le_trans (below_size (bB)) hk), Kd.fresh' (Kd.R_lt (by (with_reducible repeat (first | apply Kd.R_alloc | apply Kd.R_drewN | apply Kd.R_drew)); exact HO520.out)) k_ hk⟩)); (case aO => exact (by (with_reducible repeat (first | apply Kd.R_alloc | apply Kd.R_drewN | apply Kd.R_drew)); exact HO_3.out)); (case aS => exact (below_size (bB))); (case aL => have := LMc4.out; omega); intro v522 w7 ho hb hg hat; rw [← Ny521.out] at ho; have n0_ := Aside0.mk (Kd.V_afterv (ok := (fun k_ => (P0_ k_ ∨ w.heap.size ≤ k_) ∧ some k_ ≠ (v519 : Value).ownBlock)) (by (with_reducible repeat (first | apply Kd.V_alloc | apply Kd.V_drewN | apply Kd.V_drew)); exact Kd.V_mono HO_0.out (fun _ hk => ⟨⟨hk.1.1, hk.2⟩, hk.1.2⟩)) hg hat); have n1_ := Aside0.mk (Kd.R_after (ok := (fun k_ => (w.heap.size ≤ k_))) (by (with_reducible repeat (first | apply Kd.R_alloc | apply Kd.R_drewN | apply Kd.R_drew)); exact Kd.R_mono HO520.out (fun _ hk => ⟨hk.1.1, hk.2⟩)) hg hat); have n2_ := Aside0.mk (hb); have n3_ := Aside0.mk (ho); clear HO_0; clear HO520; clear HB; clear HO_3; have HO_0 := n0_; have HO520 := n1_; have HB := n2_; have HO523 := n3_; clear n0_ n1_ n2_ n3_; clear ho hb hg hat))
     go_roundg k1
     case measure => have := HK1.out; omega
     case rel => exact ⟨(t517), (y521), H', ⟨by have := HK1.out; omega⟩, ⟨Kd.V_mono (Kd.R_V (by (with_reducible repeat (first | apply Kd.R_alloc | apply Kd.R_drewN | apply Kd.R_drew)); exact HO520.out)) (fun k_ hk => by first | exact ⟨(.inr (hk.1)), hk.2⟩ | exact (.inr (hk)))⟩, ⟨by (with_reducible repeat (first | apply Kd.R_alloc | apply Kd.R_drewN | apply Kd.R_drew)); exact Kd.R_mono HO523.out (fun _ hk => hk.1)⟩, ⟨by repeat (first | (with_reducible first | exact HB.out | apply below_alloc | apply pw_below_drewN | apply below_drew1) | exact HB.out)⟩⟩
    ·rw [if_neg c4] at H
     exact absurd H (by simp)
   ·rw [if_neg c2] at H
    have c2b0 : decide (0 < (x0_1.length : Int)) = false := decide_eq_false c2
    have c2b1 : decide (0 < x0_1.length) = false := decide_eq_false (by omega)
    clear c2
    have H' := Aside0.mk H
    clear H
    obtain ⟨Ao8, co8, eo8⟩ := Kd.V_slice HO_0.out
    subst eo8
    go_wp2
    go_loopg [6, 7] k1 (fun kq v6 v7 w' => ∃ (x6_2 : List Int) (x7_2 : Int), v7 = .int .i64 x7_2 ∧ Aside0 (isochroneref01_Words.l1 kq x3_1 x6_2 x7_2 = some r) ∧ Aside0 (kq ≤ k1) ∧ Aside0 (Kd.R (Kd.int .i64) 3 w' w.heap.size (fun k_ => (w.heap.size ≤ k_)) u3 x3_1) ∧ Aside0 (Kd.R (Kd.int .u32) 36 w' w.heap.size (fun k_ => (w.heap.size ≤ k_)) v6 x6_2) ∧ Aside0 (Below w.heap.size w w'))
    case atStart => exact ⟨(([] : List Int)), (0), (by first | rfl | (simp; done) | (simp [*]; done)), H', ⟨Nat.le_refl _⟩, ⟨by (with_reducible repeat (first | apply Kd.R_alloc | apply Kd.R_drewN | apply Kd.R_drew)); exact HO_3.out⟩, ⟨by first | exact Kd.R_nil _ _ _ _ _ | exact Kd.N_nil _ _ _ _ _ | exact Kd.V_nil _ _ _ _ _ | exact Kd.Q_nil _ _ _ _ _ | exact Kd.S_nil _ _ _ _ _⟩, ⟨by repeat (first | (with_reducible first | exact HB.out | apply below_alloc | apply pw_below_drewN | apply below_drew1) | exact HB.out)⟩⟩
    case round =>
     clear H'
     try clear c2
     try clear c2b0
     try clear c2b1
     try clear p2
     try clear c4
     try clear c5
     obtain ⟨x6_2, x7_2, rfl, HA, HK2, HO_3, HO_6, HB⟩ := hrel
     cases gk with
     | zero => exact absurd HA.out (by simp [isochroneref01_Words.l1])
     | succ k2 =>
      have H := HA.out
      clear HA
      simp only [isochroneref01_Words.l1] at H
      by_cases c9 : x7_2 < (x3_1.length : Int)
      ·rw [if_pos c9] at H
       have c9b0 : decide (x7_2 < (x3_1.length : Int)) = true := decide_eq_true c9
       clear c9
       by_cases c10 : 0 ≤ x7_2
       ·rw [if_pos c10] at H
        have c10b0 : decide (0 ≤ x7_2) = true := decide_eq_true c10
        clear c10
        by_cases c11 : (wrap64 (x7_2 + 1)) < (x3_1.length : Int)
        ·rw [if_pos c11] at H
         have c11b0 : decide ((wrap64 (x7_2 + 1)) < (x3_1.length : Int)) = true := decide_eq_true c11
         clear c11
         obtain ⟨ji12, hji12⟩ : ∃ j_ : Int, (wrap64 (x7_2 + 1)) = j_ := ⟨_, rfl⟩
         replace H : (if 0 ≤ (ji12) then (if x6_2.length < 35184372088832 then (isochroneref01_Words.l1 k2 x3_1 (x6_2 ++ [(((rd x3_1 x7_2) % 4294967296) + ((((rd x3_1 (ji12)) % 4294967296) * 65536) % 4294967296)) % 4294967296]) (wrap64 (x7_2 + 2))) else (none)) else (none)) = some r := by first | (rw [hji12] at H; exact H) | (simp only [hji12] at H ⊢; exact H)
         (try rw [hji12] at c11b0)
         have hji12w : (IntKind.i64.wrap (x7_2 + 1)) = ji12 := (i64_w _).trans hji12
         by_cases c13 : 0 ≤ (ji12)
         ·rw [if_pos c13] at H
          have c13b0 : decide (0 ≤ (ji12)) = true := decide_eq_true c13
          clear c13
          by_cases c14 : x6_2.length < 35184372088832
          ·rw [if_pos c14] at H
           have LMc14 := Aside0.mk c14
           clear c14
           obtain ⟨y526, hy526⟩ : ∃ y_ : List Int, y_ = (x6_2 ++ [(((rd x3_1 x7_2) % 4294967296) + ((((rd x3_1 (ji12)) % 4294967296) * 65536) % 4294967296)) % 4294967296]) := ⟨_, rfl⟩
           replace H : (isochroneref01_Words.l1 k2 x3_1 y526 (wrap64 (x7_2 + 2))) = some r := by first | (rw [hy526]; with_reducible exact H) | (have H2_ := (Option.bind_some _ _).symm.trans H; rw [hy526]; with_reducible exact H2_) | (have H2_ := (Option.bind_some _ _).symm.trans H; with_reducible exact H2_) | with_reducible exact H | (rw [hy526]; exact H) | exact H
           have Ny526 := Aside0.mk hy526
           clear hy526
           have H' := Aside0.mk H
           clear H
           obtain ⟨Ao15, co15, eo15⟩ := Kd.R_slice HO_3.out
           subst eo15
           have p524 : 0 ≤ (x7_2 : Int) := of_decide_eq_true aS
           have q524 : x7_2 < (x3_1.length : Int) := of_decide_eq_true aS
           obtain ⟨ad524, e524, hx524_0⟩ := Kd.at_int (Kd.R_reads' HO_3.out).2.2 x7_2 p524 q524
           cases e524
           replace p524 := eq_true p524
           replace q524 := eq_true q524
           have p525 : 0 ≤ ((ji12) : Int) := of_decide_eq_true aS
           have q525 : (ji12) < (x3_1.length : Int) := of_decide_eq_true aS
           obtain ⟨ad525, e525, hx525_0⟩ := Kd.at_int (Kd.R_reads' HO_3.out).2.2 (ji12) p525 q525
           obtain rfl : ad524 = ad525 := (by injection e525)
           replace p525 := eq_true p525
           replace q525 := eq_true q525
           go_wp2_with (first | ((with_reducible refine gate_builtin (b := .append) (xs := #[.tmp 47, .tmp 49]) rfl ?_); at_builtin; refine Kd.R_append (Kd.int .u32) (w0 := w) w.heap.size rfl (.tmp 47) (.tmp 49) 22 36 (.int .u32 0) 4 rfl Try.underlying22 info36 rfl (by decide) (by omega) u6 x6_2 ((((rd x3_1 x7_2) % 4294967296) + ((((rd x3_1 (ji12)) % 4294967296) * 65536) % 4294967296)) % 4294967296) [.int .u32 _] (fun k_ => (w.heap.size ≤ k_)) (fun _ => False) rfl (by first | rfl | (go_simp; done) | (go_simp; rfl)) ?aP (fun _ hk => hk.elim) ?aF ?aO ?aB ?aS ?aL ?_; (case aP => first | exact rfl | (show [Value.int _ _] = [Value.int _ _]; simp)); (case aB => exact (bB)); (case aF => exact (fun k_ hk => (Nat.le_trans (below_size (bB)) hk))); (case aO => exact (by (with_reducible repeat (first | apply Kd.R_alloc | apply Kd.R_drewN | apply Kd.R_drew)); exact HO_6.out)); (case aS => exact (below_size (bB))); (case aL => have := LMc14.out; omega); intro v527 w16 ho hb hg hat; rw [← Ny526.out] at ho; have n0_ := Aside0.mk (Kd.R_over' (by (with_reducible repeat (first | apply Kd.R_alloc | apply Kd.R_drewN | apply Kd.R_drew)); exact HO_3.out) (Kd.R_typed (by (with_reducible repeat (first | apply Kd.R_alloc | apply Kd.R_drewN | apply Kd.R_drew)); exact HO_6.out)) (by decide) hg); have n1_ := Aside0.mk (hb); have n2_ := Aside0.mk (ho); clear HO_3; clear HB; clear HO_6; have HO_3 := n0_; have HB := n1_; have HO528 := n2_; clear n0_ n1_ n2_; clear ho hb hg hat))
           (try simp only [← hji12])
           go_roundg k2
           case measure => have := HK1.out; have := HK2.out; omega
           case rel => exact ⟨(y526), (wrap64 (x7_2 + 2)), (by first | rfl | (simp; done) | (simp [*]; done)), (by first | with_reducible exact H' | (simp only [hji12]; exact H') | exact H'), ⟨by have := HK1.out; have := HK2.out; omega⟩, ⟨by (with_reducible repeat (first | apply Kd.R_alloc | apply Kd.R_drewN | apply Kd.R_drew)); exact HO_3.out⟩, ⟨by (with_reducible repeat (first | apply Kd.R_alloc | apply Kd.R_drewN | apply Kd.R_drew)); exact HO528.out⟩, ⟨by repeat (first | (with_reducible first | exact HB.out | apply below_alloc | apply pw_below_drewN | apply below_drew1) | exact HB.out)⟩⟩
          ·rw [if_neg c14] at H
           exact absurd H (by simp)
         ·rw [if_neg c13] at H
          exact absurd H (by simp)
        ·rw [if_neg c11] at H
         have c11b0 : decide ((wrap64 (x7_2 + 1)) < (x3_1.length : Int)) = false := decide_eq_false c11
         clear c11
         by_cases c17 : x6_2.length < 35184372088832
         ·rw [if_pos c17] at H
          have LMc17 := Aside0.mk c17
          clear c17
          obtain ⟨y529, hy529⟩ : ∃ y_ : List Int, y_ = (x6_2 ++ [(rd x3_1 x7_2) % 4294967296]) := ⟨_, rfl⟩
          replace H : (isochroneref01_Words.l1 k2 x3_1 y529 (wrap64 (x7_2 + 2))) = some r := by first | (rw [hy529]; with_reducible exact H) | (have H2_ := (Option.bind_some _ _).symm.trans H; rw [hy529]; with_reducible exact H2_) | (have H2_ := (Option.bind_some _ _).symm.trans H; with_reducible exact H2_) | with_reducible exact H | (rw [hy529]; exact H) | exact H
          have Ny529 := Aside0.mk hy529
          clear hy529
          have H' := Aside0.mk H
          clear H
          obtain ⟨Ao18, co18, eo18⟩ := Kd.R_slice HO_3.out
          subst eo18
          have p524 : 0 ≤ (x7_2 : Int) := of_decide_eq_true aS
          have q524 : x7_2 < (x3_1.length : Int) := of_decide_eq_true aS
          obtain ⟨ad524, e524, hx524_0⟩ := Kd.at_int (Kd.R_reads' HO_3.out).2.2 x7_2 p524 q524
          cases e524
          replace p524 := eq_true p524
          replace q524 := eq_true q524
          go_wp2_with (first | ((with_reducible refine gate_builtin (b := .append) (xs := #[.tmp 47, .tmp 49]) rfl ?_); at_builtin; refine Kd.R_append (Kd.int .u32) (w0 := w) w.heap.size rfl (.tmp 47) (.tmp 49) 22 36 (.int .u32 0) 4 rfl Try.underlying22 info36 rfl (by decide) (by omega) u6 x6_2 ((rd x3_1 x7_2) % 4294967296) [.int .u32 _] (fun k_ => (w.heap.size ≤ k_)) (fun _ => False) rfl (by first | rfl | (go_simp; done) | (go_simp; rfl)) ?aP (fun _ hk => hk.elim) ?aF ?aO ?aB ?aS ?aL ?_; (case aP => first | exact rfl | (show [Value.int _ _] = [Value.int _ _]; simp)); (case aB => exact (bB)); (case aF => exact (fun k_ hk => (Nat.le_trans (below_size (bB)) hk))); (case aO => exact (by (with_reducible repeat (first | apply Kd.R_alloc | apply Kd.R_drewN | apply Kd.R_drew)); exact HO_6.out)); (case aS => exact (below_size (bB))); (case aL => have := LMc17.out; omega); intro v530 w19 ho hb hg hat; rw [← Ny529.out] at ho; have n0_ := Aside0.mk (Kd.R_over' (by (with_reducible repeat (first | apply Kd.R_alloc | apply Kd.R_drewN | apply Kd.R_drew)); exact HO_3.out) (Kd.R_typed (by (with_reducible repeat (first | apply Kd.R_alloc | apply Kd.R_drewN | apply Kd.R_drew)); exact HO_6.out)) (by decide) hg); have n1_ := Aside0.mk (hb); have n2_ := Aside0.mk (ho); clear HO_3; clear HB; clear HO_6; have HO_3 := n0_; have HB := n1_; have HO531 := n2_; clear n0_ n1_ n2_; clear ho hb hg hat))
          go_roundg k2
          case measure => have := HK1.out; have := HK2.out; omega
          case rel => exact ⟨(y529), (wrap64 (x7_2 + 2)), (by first | rfl | (simp; done) | (simp [*]; done)), H', ⟨by have := HK1.out; have := HK2.out; omega⟩, ⟨by (with_reducible repeat (first | apply Kd.R_alloc | apply Kd.R_drewN | apply Kd.R_drew)); exact HO_3.out⟩, ⟨by (with_reducible repeat (first | apply Kd.R_alloc | apply Kd.R_drewN | apply Kd.R_drew)); exact HO531.out⟩, ⟨by repeat (first | (with_reducible first | exact HB.out | apply below_alloc | apply pw_below_drewN | apply below_drew1) | exact HB.out)⟩⟩
         ·rw [if_neg c17] at H
          exact absurd H (by simp)
       ·rw [if_neg c10] at H
        exact absurd H (by simp)
      ·rw [if_neg c9] at H
       have c9b0 : decide (x7_2 < (x3_1.length : Int)) = false := decide_eq_false c9
       clear c9
       obtain rfl := Option.some.inj H
       obtain ⟨Ao20, co20, eo20⟩ := Kd.R_slice HO_3.out
       subst eo20
       go_wp2
       go_ret
       exact ⟨_, by first | rfl | (simp [errW_none, errW_some] <;> rfl) | (simp [*, errW_none, errW_some] <;> rfl), by (with_reducible repeat (first | apply Kd.R_alloc | apply Kd.R_drewN | apply Kd.R_drew)); exact HO_6.out, by repeat (first | (with_reducible first | exact HB.out | apply below_alloc | apply pw_below_drewN | apply below_drew1) | exact HB.out)⟩
end Go.Proofs.Ytfmobogdnlmdbaa.P
end
section
namespace Go.Proofs.Ytfmobogdnlmdbaa.P
open Go.RowKit Go.Proofs.YtfmobogdnlmdbaaW.PrintWords Go.Proofs.YtfmobogdnlmdbaaW.PrintLast Go.Proofs.YtfmobogdnlmdbaaW.PrintMore Go.Proofs.YtfmobogdnlmdbaaW
attribute [local go_sem] max2_int min2_int max_two min_two max_three min_three max_four min_four
set_option linter.unusedVariables false
set_option linter.unusedSimpArgs false
set_option maxHeartbeats 8000000 in
set_option maxRecDepth 100000 in
theorem isochronelaw01_is.calls (k : Nat) (A0 : Option Addr) (c0 : Nat) (l0 : List Int) (A1 : Option Addr) (c1 : Nat) (l1 : List Int) (r : Bool) (w : World) (hr0 : Kd.C (Kd.int .u32) w A0 l0.length l0) (hc0 : l0.length ≤ c0) (hr1 : Kd.C (Kd.int .i64) w A1 l1.length l1) (hc1 : l1.length ≤ c1) (h : isochronelaw01_is.f k l0 l1 = some r) :
  Calls Try.prog 25 #[.slice A0 l0.length c0, .slice A1 l1.length c1] w fun e w' => e = .returned (.bool r) ∧ Below w.heap.size w w' := by
 have HR0 := Aside0.mk hr0
 have HC0 := Aside0.mk hc0
 clear hr0 hc0
 have HR1 := Aside0.mk hr1
 have HC1 := Aside0.mk hc1
 clear hr1 hc1
 have HB := Aside0.mk (Below.refl w.heap.size w)
 have H : ((isochroneref01_Words.f k l1).bind fun t532 => ((slices_Equal_uint32_uint32.f k l0 t532).bind fun t535 => (some t535))) = some r := h
 clear h
 replace H := Option.bind_eq_some_iff.mp H
 obtain ⟨t532, A30, H⟩ := H
 replace H : ((slices_Equal_uint32_uint32.f k l0 t532).bind fun t535 => (some t535)) = some r := H
 have A3 := Aside0.mk A30
 clear A30
 replace H := Option.bind_eq_some_iff.mp H
 obtain ⟨t535, A40, H⟩ := H
 replace H : (some t535) = some r := H
 have A4 := Aside0.mk A40
 clear A40
 obtain rfl := Option.some.inj H
 go_enter Try.func25, Try.ntmps25
 go_wp2_with (first | ((with_reducible refine gate_callee (f := 42) rfl ?_); refine goesL_ (some 7) rfl rfl Try.func42 (by kernel_rfl) rfl #[.slice A1 l1.length c1] rfl (by (try simp only [List.map_toArray, List.map_cons, List.map_nil]); first | done | rfl | (simp only [List.length_drop, List.length_take]; rfl)) ?_; (with_reducible refine (isochroneref01_Words.calls k (fun k_ => k_ < w.heap.size) _ _ l1 t532 _ ?side1 A3.out).mono ?_); (case side1 => exact Kd.V_mk HC1.out (Kd.F_below (Kd.C_F (Kd.heap_int .i64) HR1.out) (bB))); rintro e w5 ⟨v533, rfl, ho0, hb⟩; refine ⟨_, rfl, ?_⟩; have n0_ := Aside0.mk (Kd.R_lower (Kd.R_mono (ok' := fun k_ => True) ho0 (fun _ hk_ => trivial)) (below_size (bB))); have n1_ := Aside0.mk (below_step (bB) hb); clear HB; have HO534 := n0_; have HB := n1_; clear n0_ n1_; (try clear hb); (try clear hb2); (try clear hk); (try clear hi); (try clear ho0); obtain ⟨Ao6, co6, eo6⟩ := Kd.R_slice HO534.out; subst eo6) | ((with_reducible refine gate_callee (f := 31) rfl ?_); refine goesL_ (some 8) rfl rfl Try.func31 (by kernel_rfl) rfl #[.slice A0 l0.length c0, .slice Ao6 t532.length co6] rfl (by (try simp only [List.map_toArray, List.map_cons, List.map_nil]); first | done | rfl | (simp only [List.length_drop, List.length_take]; rfl)) ?_; (with_reducible refine (slices_Equal_uint32_uint32.calls k _ _ l0 _ _ t532 t535 _ ?side1 ?side2 ?side3 ?side4 A4.out).mono ?_); (case side1 => repeat (first | exact (Kd.C_below HR0.out HB.out) | (with_reducible refine Kd.C_alloc ?_ _) | (with_reducible refine Kd.C_drewN ?_ _) | (with_reducible refine Kd.C_drew ?_))); (case side2 => exact HC0.out); (case side3 => repeat (first | exact (Kd.R_reads' HO534.out).2.2 | (with_reducible refine Kd.C_alloc ?_ _) | (with_reducible refine Kd.C_drewN ?_ _) | (with_reducible refine Kd.C_drew ?_))); (case side4 => exact (Kd.R_reads' HO534.out).2.1); rintro e w' ⟨rfl, ⟨nd, rfl⟩⟩; refine ⟨_, rfl, ?_⟩))
 go_ret
 exact ⟨by first | rfl | (simp [errW_none, errW_some] <;> rfl) | (simp [*, errW_none, errW_some] <;> rfl), by repeat (first | (with_reducible first | exact HB.out | apply below_alloc | apply pw_below_drewN | apply below_drew1) | exact HB.out)⟩
set_option maxHeartbeats 8000000 in
set_option maxRecDepth 100000 in
theorem isochroneref01_Nat_int.callsS (B0 : Addr) (c0 : Nat) (l0 : List Int) (r : List Int) (w : World) (hr0 : Kd.C (Kd.int .i64) w (some B0) l0.length l0) (hc0 : l0.length ≤ c0) (h : isochroneref01_Nat_int.f l0 = some r) :
  Calls Try.prog 63 #[.slice (some B0) l0.length c0] w fun e w' => ∃ v0_ : Value, e = .returned (v0_) ∧ Kd.R (Kd.int .i64) 3 w' w.heap.size (fun _ => True) v0_ r ∧ Below w.heap.size w w' := by
 have HR0 := Aside0.mk hr0
 have HC0 := Aside0.mk hc0
 clear hr0 hc0
 have HB := Aside0.mk (Below.refl w.heap.size w)
 have H : ((some (([] : List Int) : List Int)).bind fun y545 => (if y545.length + l0.length < 17592186044416 then (some (y545 ++ l0)) else (none))) = some r := h
 clear h
 obtain ⟨y545, hy545⟩ : ∃ y_ : List Int, y_ = (([] : List Int)) := ⟨_, rfl⟩
 replace H : (if y545.length + l0.length < 17592186044416 then (some (y545 ++ l0)) else (none)) = some r := by first | (rw [hy545]; with_reducible exact H) | (have H2_ := (Option.bind_some _ _).symm.trans H; rw [hy545]; with_reducible exact H2_) | (have H2_ := (Option.bind_some _ _).symm.trans H; with_reducible exact H2_) | with_reducible exact H | (rw [hy545]; exact H) | exact H
 have Ny545 := Aside0.mk hy545
 clear hy545
 by_cases c2 : y545.length + l0.length < 17592186044416
 ·rw [if_pos c2] at H
  have LMc2 := Aside0.mk c2
  clear c2
  obtain ⟨y548, hy548⟩ : ∃ y_ : List Int, y_ = (y545 ++ l0) := ⟨_, rfl⟩
  replace H : (some y548) = some r := by first | (rw [hy548]; with_reducible exact H) | (have H2_ := (Option.bind_some _ _).symm.trans H; rw [hy548]; with_reducible exact H2_) | (have H2_ := (Option.bind_some _ _).symm.trans H; with_reducible exact H2_) | with_reducible exact H | (rw [hy548]; exact H) | exact H
  have Ny548 := Aside0.mk hy548
  clear hy548
  obtain rfl := Option.some.inj H
  have hq_ : ∀ (w : World) (a : Option Addr) (n c n' c' : Nat), (binOp .eql 30 (.slice a n c) (.slice none n' c')).run Try.prog w = .ok (.bool a.isNone) w := fun w a n c n' c' => Lib.run_eql_slice_nil w _ _ a n c n' c' Try.underlying30
  go_enter Try.func63, Try.ntmps63
  go_wp2_with (first | ((with_reducible refine gate_dst (N := 5) rfl ?_); refine Kd.R_lit (Kd.int .i64) _ 3 ?hg (N := 5) ?hd (xs := ([] : List Int)) (inner := []) (ok := fun _ => True) (okp := fun _ => True) ?hr ?hp (fun _ hk => hk) trivial (Below.refl _ _) (Nat.le_refl _) (by simp) ?_; (case hd => rfl); (case hg => rfl); (case hr => first | (go_simp; done) | (go_simp; rfl)); (case hp => exact (Reps.none _ _)); intro v546 w3 ho4 hb hg_ hnew_; clear hg_ hnew_; (first | rw [← Ny545.out] at ho4 | (simp only [Int.reduceToNat] at ho4; rw [← Ny545.out] at ho4)); have n0_ := Aside0.mk (Kd.R_lower ho4 (below_size (bB))); have n1_ := Aside0.mk (below_step (bB) hb); clear HB; have HO547 := n0_; have HB := n1_; clear n0_ n1_; clear hb ho4) | ((with_reducible refine gate_builtin (b := .append) (xs := #[.tmp 5, .tmp 6]) rfl ?_); at_builtin; refine Kd.R_append_rows (Kd.int .i64) (w0 := w) w.heap.size rfl (.tmp 5) (.tmp 6) 30 3 (.int .i64 0) 8 rfl Try.underlying30 info3 rfl (by decide) (by omega) v546 y545 l0 _ _ _ (fun _ => True) (fun _ => False) rfl rfl ?aO ?aR (fun _ _ h => h) (fun _ h => h.elim) ?aF ?aB ?aS ?aL ?_; (case aR => repeat (first | exact (Kd.C_below HR0.out HB.out) | (with_reducible refine Kd.C_alloc ?_ _) | (with_reducible refine Kd.C_drewN ?_ _) | (with_reducible refine Kd.C_drew ?_))); (case aB => exact (bB)); (case aF => exact (fun _ _ => trivial)); (case aO => exact (by (with_reducible repeat (first | apply Kd.R_alloc | apply Kd.R_drewN | apply Kd.R_drew)); exact HO547.out)); (case aS => exact (below_size (bB))); (case aL => have := LMc2.out; omega); intro v549 w5 ho hb hg hat; rw [← Ny548.out] at ho; have n0_ := Aside0.mk (hb); have n1_ := Aside0.mk (ho); clear HB; clear HO547; have HB := n0_; have HO550 := n1_; clear n0_ n1_; clear ho hb hg hat))
  go_ret
  exact ⟨_, by first | rfl | (simp [errW_none, errW_some] <;> rfl) | (simp [*, errW_none, errW_some] <;> rfl), by (with_reducible repeat (first | apply Kd.R_alloc | apply Kd.R_drewN | apply Kd.R_drew)); exact HO550.out, by repeat (first | (with_reducible first | exact HB.out | apply below_alloc | apply pw_below_drewN | apply below_drew1) | exact HB.out)⟩
 ·rw [if_neg c2] at H
  exact absurd H (by simp)
set_option maxHeartbeats 8000000 in
set_option maxRecDepth 100000 in
theorem isochroneref01_Nat_int.calls (A0 : Option Addr) (c0 : Nat) (l0 : List Int) (r : List Int) (w : World) (hr0 : Kd.C (Kd.int .i64) w A0 l0.length l0) (hc0 : l0.length ≤ c0) (h : isochroneref01_Nat_int.f l0 = some r) :
  Calls Try.prog 63 #[.slice A0 l0.length c0] w fun e w' => ∃ v0_ : Value, e = .returned (v0_) ∧ Kd.R (Kd.int .i64) 3 w' w.heap.size (fun _ => True) v0_ r ∧ Below w.heap.size w w' := by
 rcases A0 with _ | B0
 ·have hl_ : l0 = [] := by
   rcases Nat.eq_zero_or_pos l0.length with h_ | h_
   ·exact List.eq_nil_of_length_eq_zero h_
   ·obtain ⟨ad_, e_, _⟩ := hr0.2.2 h_
    cases e_
  subst hl_
  have hr_ : r = [] := by
   unfold isochroneref01_Nat_int.f at h
   simp at h
   first | exact h | exact h.symm
  subst hr_
  have hq_ : ∀ (w : World) (a : Option Addr) (n c n' c' : Nat), (binOp .eql 30 (.slice a n c) (.slice none n' c')).run Try.prog w = .ok (.bool a.isNone) w := fun w a n c n' c' => Lib.run_eql_slice_nil w _ _ a n c n' c' Try.underlying30
  go_enter Try.func63, Try.ntmps63
  go_wp2
  go_ret
  exact ⟨_, rfl, Kd.R_nil _ _ _ _ _, Below.refl _ _⟩
 ·exact isochroneref01_Nat_int.callsS B0 c0 l0 r w hr0 hc0 h
end Go.Proofs.Ytfmobogdnlmdbaa.P
end
section
namespace Go.Proofs.Ytfmobogdnlmdbaa.P
open Go.RowKit Go.Proofs.YtfmobogdnlmdbaaW.PrintWords Go.Proofs.YtfmobogdnlmdbaaW.PrintLast Go.Proofs.YtfmobogdnlmdbaaW.PrintMore Go.Proofs.YtfmobogdnlmdbaaW
attribute [local go_sem] max2_int min2_int max_two min_two max_three min_three max_four min_four
set_option linter.unusedVariables false
set_option linter.unusedSimpArgs false
set_option maxHeartbeats 8000000 in
set_option maxRecDepth 100000 in
theorem isochroneref01_Sub.calls (k : Nat) (A0 : Option Addr) (c0 : Nat) (l0 : List Int) (A1 : Option Addr) (c1 : Nat) (l1 : List Int) (r : List Int) (w : World) (hr0 : Kd.C (Kd.int .i64) w A0 l0.length l0) (hc0 : l0.length ≤ c0) (hr1 : Kd.C (Kd.int .i64) w A1 l1.length l1) (hc1 : l1.length ≤ c1) (h : isochroneref01_Sub.f k l0 l1 = some r) :
  Calls Try.prog 36 #[.slice A0 l0.length c0, .slice A1 l1.length c1] w fun e w' => ∃ v0_ : Value, e = .returned (v0_) ∧ Kd.R (Kd.int .i64) 3 w' w.heap.size (fun _ => True) v0_ r ∧ Below w.heap.size w w' := by
 have HR0 := Aside0.mk hr0
 have HC0 := Aside0.mk hc0
 clear hr0 hc0
 have HR1 := Aside0.mk hr1
 have HC1 := Aside0.mk hc1
 clear hr1 hc1
 have HB := Aside0.mk (Below.refl w.heap.size w)
 have H : ((isochroneref01_Nat_int.f l0).bind fun t551 => (isochroneref01_Sub.l0 k l1 t551 0 (t551.length : Int) 0)) = some r := h
 clear h
 replace H := Option.bind_eq_some_iff.mp H
 obtain ⟨t551, A30, H⟩ := H
 replace H : (isochroneref01_Sub.l0 k l1 t551 0 (t551.length : Int) 0) = some r := H
 have A3 := Aside0.mk A30
 clear A30
 have H' := Aside0.mk H
 clear H
 go_enter Try.func36, Try.ntmps36
 go_wp2_with (first | ((with_reducible refine gate_callee (f := 63) rfl ?_); refine goesL_ (some 10) rfl rfl Try.func63 (by kernel_rfl) rfl #[.slice A0 l0.length c0] rfl (by (try simp only [List.map_toArray, List.map_cons, List.map_nil]); first | done | rfl | (simp only [List.length_drop, List.length_take]; rfl)) ?_; (with_reducible refine (isochroneref01_Nat_int.calls _ _ l0 t551 _ ?side1 ?side2 A3.out).mono ?_); (case side1 => repeat (first | exact HR0.out | (with_reducible refine Kd.C_alloc ?_ _) | (with_reducible refine Kd.C_drewN ?_ _) | (with_reducible refine Kd.C_drew ?_))); (case side2 => exact HC0.out); rintro e w4 ⟨v552, rfl, ho0, hb⟩; refine ⟨_, rfl, ?_⟩; have n0_ := Aside0.mk (Kd.R_lower ho0 (below_size (bB))); have n1_ := Aside0.mk (below_step (bB) hb); clear HB; have HO553 := n0_; have HB := n1_; clear n0_ n1_; (try clear hb); (try clear hb2); (try clear hk); (try clear hi); (try clear ho0); obtain ⟨Ao5, co5, eo5⟩ := Kd.R_slice HO553.out; subst eo5))
 go_loopg [6, 13] k (fun kq v6 v13 w' => ∃ (x5_1 : List Int) (x6_1 : Int) (x13_1 : Int), v6 = .int .i64 x6_1 ∧ v13 = .int .i64 x13_1 ∧ Aside0 (isochroneref01_Sub.l0 kq l1 x5_1 x6_1 (t551.length : Int) x13_1 = some r) ∧ Aside0 (kq ≤ k) ∧ Aside0 (Kd.R (Kd.int .i64) 3 w' w.heap.size (fun _ => True) (.slice Ao5 t551.length co5) x5_1) ∧ Aside0 (Below w.heap.size w w'))
 case atStart => exact ⟨(t551), (0), (0), (by first | rfl | (simp; done) | (simp [*]; done)), (by first | rfl | (simp; done) | (simp [*]; done)), H', ⟨Nat.le_refl _⟩, ⟨by (with_reducible repeat (first | apply Kd.R_alloc | apply Kd.R_drewN | apply Kd.R_drew)); exact HO553.out⟩, ⟨by repeat (first | (with_reducible first | exact HB.out | apply below_alloc | apply pw_below_drewN | apply below_drew1) | exact HB.out)⟩⟩
 case round =>
  clear H'
  try clear c1
  try clear p2
  try clear c3
  obtain ⟨x5_1, x6_1, x13_1, rfl, rfl, HA, HK1, HO_5, HB⟩ := hrel
  have hl5_1 := (Kd.R_reads' HO_5.out).1
  rw [hl5_1] at HO_5
  (try simp only [hl5_1])
  cases gk with
  | zero => exact absurd HA.out (by simp [isochroneref01_Sub.l0])
  | succ k1 =>
   have H := HA.out
   clear HA
   simp only [isochroneref01_Sub.l0] at H
   by_cases c6 : x13_1 < (t551.length : Int)
   ·rw [if_pos c6] at H
    have c6b0 : decide (x13_1 < (t551.length : Int)) = true := decide_eq_true c6
    clear c6
    have c6bh := c6b0
    (try simp only [hl5_1] at c6bh)
    by_cases c7 : 0 ≤ x13_1
    ·rw [if_pos c7] at H
     have c7b0 : decide (0 ≤ x13_1) = true := decide_eq_true c7
     clear c7
     by_cases c8 : x13_1 < (x5_1.length : Int)
     ·rw [if_pos c8] at H
      have c8b0 : decide (x13_1 < (x5_1.length : Int)) = true := decide_eq_true c8
      clear c8
      have c8bh := c8b0
      (try simp only [hl5_1] at c8bh)
      by_cases c9 : x13_1 < (l1.length : Int)
      ·rw [if_pos c9] at H
       have c9b0 : decide (x13_1 < (l1.length : Int)) = true := decide_eq_true c9
       clear c9
       have c9bh := c9b0
       (try simp only [hl5_1] at c9bh)
       by_cases c10 : (wrap64 ((wrap64 ((rd x5_1 x13_1) - x6_1)) - (rd l1 x13_1))) < 0
       ·rw [if_pos c10] at H
        have c10b0 : decide ((wrap64 ((wrap64 ((rd x5_1 x13_1) - x6_1)) - (rd l1 x13_1))) < 0) = true := decide_eq_true c10
        clear c10
        obtain ⟨y559, hy559⟩ : ∃ y_ : List Int, y_ = (x5_1.set (x13_1 : Int).toNat (wrap64 ((wrap64 ((wrap64 ((rd x5_1 x13_1) - x6_1)) - (rd l1 x13_1))) + 10000))) := ⟨_, rfl⟩
        replace H : (isochroneref01_Sub.l0 k1 l1 y559 1 (t551.length : Int) (wrap64 (x13_1 + 1))) = some r := by first | (rw [hy559]; with_reducible exact H) | (have H2_ := (Option.bind_some _ _).symm.trans H; rw [hy559]; with_reducible exact H2_) | (have H2_ := (Option.bind_some _ _).symm.trans H; with_reducible exact H2_) | with_reducible exact H | (rw [hy559]; exact H) | exact H
        have Ny559 := Aside0.mk hy559
        clear hy559
        have H' := Aside0.mk H
        clear H
        have p557 : 0 ≤ (x13_1 : Int) := of_decide_eq_true aS
        have q557 : x13_1 < (x5_1.length : Int) := of_decide_eq_true aS
        obtain ⟨ad557, e557, hx557_0⟩ := Kd.at_int (Kd.R_reads' HO_5.out).2.2 x13_1 p557 q557
        cases e557
        replace p557 := eq_true p557
        replace q557 := eq_true q557
        have p558 : 0 ≤ (x13_1 : Int) := of_decide_eq_true aS
        have q558 : x13_1 < (l1.length : Int) := of_decide_eq_true aS
        obtain ⟨ad558, e558, hx558_0⟩ := Kd.at_int HR1.out x13_1 p558 q558
        cases e558
        replace hx558_0 := (HB.out.cell (World.block_lt_of_cell? w _ hx558_0)).trans hx558_0
        replace p558 := eq_true p558
        replace q558 := eq_true q558
        have p11 : 0 ≤ (x13_1 : Int) := of_decide_eq_true aS
        have q11 : (x13_1 : Int) < ((x5_1.length : Int) : Int) := of_decide_eq_true aS
        obtain ⟨go11, co11, eo11, gb11, gl11, cl11, HG11⟩ := Kd.R_form HO_5.out (by omega)
        (first | cases eo11 | (injection eo11 with ea_ en_ ec_; (first | subst ea_ | (injection ea_ with ea_; subst ea_)); subst ec_; clear en_))
        have GB11 := Aside0.mk gb11
        have GG11 := Aside0.mk HG11
        clear gb11 gl11 HG11
        (first | simp only [add_plain] at hx557_0 | skip)
        obtain ⟨hx11_0, hf11_0⟩ := Kd.R_celln 0 HO_5.out (x13_1 : Int) p11 q11
        replace p11 := eq_true p11
        replace q11 := eq_true q11
        have HP12 := Kd.R_putg HO_5.out (x13_1 : Int) (wrap64 ((wrap64 ((wrap64 ((rd x5_1 x13_1) - x6_1)) - (rd l1 x13_1))) + 10000))
        go_wp2_with (first | ((with_reducible refine gate_store (t := 3) (p := 39) rfl ?_); refine store_event (t := 3) (p := 39) (v := ?vo_w13) (w1 := (wr.setCell ⟨go11, (x13_1 : Int).toNat, none⟩ (.int .i64 (wrap64 ((wrap64 ((wrap64 ((rd x5_1 x13_1) - x6_1)) - (rd l1 x13_1))) + 10000))))) ?hg ?ho ?hn ?hr ?_; (case ho => rfl); (case hg => rfl); (case hn => rfl); (case hr => first | (go_simp; done) | (go_simp; rfl)); intro w13 hw; have hg : wr.grownBy w13 (some go11) := (by rw [hw]; exact HP12.2); have hp_ : Kd.R (Kd.int .i64) 3 w13 w.heap.size (fun _ => True) (.slice (some ⟨go11, 0, none⟩) x5_1.length co5) y559 := (by rw [hw, Ny559.out]; exact HP12.1); clear HP12; have n0_ := Aside0.mk (hp_); have n1_ := Aside0.mk ((by rw [hw]; exact below_set (HB.out) GB11.out : Below w.heap.size w w13)); clear HO_5; clear HB; have HO_5 := n0_; have HB := n1_; clear n0_ n1_; clear hg hw hp_))
        (try simp only [← hl5_1])
        go_roundg k1
        case measure => have := HK1.out; omega
        case rel => exact ⟨(y559), (1), (wrap64 (x13_1 + 1)), (by first | rfl | (simp; done) | (simp [*]; done)), (by first | rfl | (simp; done) | (simp [*]; done)), H', ⟨by have := HK1.out; omega⟩, ⟨by (try simp only [hl5_1]); (with_reducible repeat (first | apply Kd.R_alloc | apply Kd.R_drewN | apply Kd.R_drew)); exact HO_5.out⟩, ⟨by repeat (first | (with_reducible first | exact HB.out | apply below_alloc | apply pw_below_drewN | apply below_drew1) | exact HB.out)⟩⟩
       ·rw [if_neg c10] at H
        have c10b0 : decide ((wrap64 ((wrap64 ((rd x5_1 x13_1) - x6_1)) - (rd l1 x13_1))) < 0) = false := decide_eq_false c10
        clear c10
        obtain ⟨y560, hy560⟩ : ∃ y_ : List Int, y_ = (x5_1.set (x13_1 : Int).toNat (wrap64 ((wrap64 ((rd x5_1 x13_1) - x6_1)) - (rd l1 x13_1)))) := ⟨_, rfl⟩
        replace H : (isochroneref01_Sub.l0 k1 l1 y560 0 (t551.length : Int) (wrap64 (x13_1 + 1))) = some r := by first | (rw [hy560]; with_reducible exact H) | (have H2_ := (Option.bind_some _ _).symm.trans H; rw [hy560]; with_reducible exact H2_) | (have H2_ := (Option.bind_some _ _).symm.trans H; with_reducible exact H2_) | with_reducible exact H | (rw [hy560]; exact H) | exact H
        have Ny560 := Aside0.mk hy560
        clear hy560
        have H' := Aside0.mk H
        clear H
        have p557 : 0 ≤ (x13_1 : Int) := of_decide_eq_true aS
        have q557 : x13_1 < (x5_1.length : Int) := of_decide_eq_true aS
        obtain ⟨ad557, e557, hx557_0⟩ := Kd.at_int (Kd.R_reads' HO_5.out).2.2 x13_1 p557 q557
        cases e557
        replace p557 := eq_true p557
        replace q557 := eq_true q557
        have p558 : 0 ≤ (x13_1 : Int) := of_decide_eq_true aS
        have q558 : x13_1 < (l1.length : Int) := of_decide_eq_true aS
        obtain ⟨ad558, e558, hx558_0⟩ := Kd.at_int HR1.out x13_1 p558 q558
        cases e558
        replace hx558_0 := (HB.out.cell (World.block_lt_of_cell? w _ hx558_0)).trans hx558_0
        replace p558 := eq_true p558
        replace q558 := eq_true q558
        have p14 : 0 ≤ (x13_1 : Int) := of_decide_eq_true aS
        have q14 : (x13_1 : Int) < ((x5_1.length : Int) : Int) := of_decide_eq_true aS
        obtain ⟨go14, co14, eo14, gb14, gl14, cl14, HG14⟩ := Kd.R_form HO_5.out (by omega)
        (first | cases eo14 | (injection eo14 with ea_ en_ ec_; (first | subst ea_ | (injection ea_ with ea_; subst ea_)); subst ec_; clear en_))
        have GB14 := Aside0.mk gb14
        have GG14 := Aside0.mk HG14
        clear gb14 gl14 HG14
        (first | simp only [add_plain] at hx557_0 | skip)
        obtain ⟨hx14_0, hf14_0⟩ := Kd.R_celln 0 HO_5.out (x13_1 : Int) p14 q14
        replace p14 := eq_true p14
        replace q14 := eq_true q14
        have HP15 := Kd.R_putg HO_5.out (x13_1 : Int) (wrap64 ((wrap64 ((rd x5_1 x13_1) - x6_1)) - (rd l1 x13_1)))
        go_wp2_with (first | ((with_reducible refine gate_store (t := 3) (p := 39) rfl ?_); refine store_event (t := 3) (p := 39) (v := ?vo_w16) (w1 := (wr.setCell ⟨go14, (x13_1 : Int).toNat, none⟩ (.int .i64 (wrap64 ((wrap64 ((rd x5_1 x13_1) - x6_1)) - (rd l1 x13_1)))))) ?hg ?ho ?hn ?hr ?_; (case ho => rfl); (case hg => rfl); (case hn => rfl); (case hr => first | (go_simp; done) | (go_simp; rfl)); intro w16 hw; have hg : wr.grownBy w16 (some go14) := (by rw [hw]; exact HP15.2); have hp_ : Kd.R (Kd.int .i64) 3 w16 w.heap.size (fun _ => True) (.slice (some ⟨go14, 0, none⟩) x5_1.length co5) y560 := (by rw [hw, Ny560.out]; exact HP15.1); clear HP15; have n0_ := Aside0.mk (hp_); have n1_ := Aside0.mk ((by rw [hw]; exact below_set (HB.out) GB14.out : Below w.heap.size w w16)); clear HO_5; clear HB; have HO_5 := n0_; have HB := n1_; clear n0_ n1_; clear hg hw hp_))
        (try simp only [← hl5_1])
        go_roundg k1
        case measure => have := HK1.out; omega
        case rel => exact ⟨(y560), (0), (wrap64 (x13_1 + 1)), (by first | rfl | (simp; done) | (simp [*]; done)), (by first | rfl | (simp; done) | (simp [*]; done)), H', ⟨by have := HK1.out; omega⟩, ⟨by (try simp only [hl5_1]); (with_reducible repeat (first | apply Kd.R_alloc | apply Kd.R_drewN | apply Kd.R_drew)); exact HO_5.out⟩, ⟨by repeat (first | (with_reducible first | exact HB.out | apply below_alloc | apply pw_below_drewN | apply below_drew1) | exact HB.out)⟩⟩
      ·rw [if_neg c9] at H
       have c9b0 : decide (x13_1 < (l1.length : Int)) = false := decide_eq_false c9
       clear c9
       have c9bh := c9b0
       (try simp only [hl5_1] at c9bh)
       by_cases c17 : (wrap64 ((rd x5_1 x13_1) - x6_1)) < 0
       ·rw [if_pos c17] at H
        have c17b0 : decide ((wrap64 ((rd x5_1 x13_1) - x6_1)) < 0) = true := decide_eq_true c17
        clear c17
        obtain ⟨y561, hy561⟩ : ∃ y_ : List Int, y_ = (x5_1.set (x13_1 : Int).toNat (wrap64 ((wrap64 ((rd x5_1 x13_1) - x6_1)) + 10000))) := ⟨_, rfl⟩
        replace H : (isochroneref01_Sub.l0 k1 l1 y561 1 (t551.length : Int) (wrap64 (x13_1 + 1))) = some r := by first | (rw [hy561]; with_reducible exact H) | (have H2_ := (Option.bind_some _ _).symm.trans H; rw [hy561]; with_reducible exact H2_) | (have H2_ := (Option.bind_some _ _).symm.trans H; with_reducible exact H2_) | with_reducible exact H | (rw [hy561]; exact H) | exact H
        have Ny561 := Aside0.mk hy561
        clear hy561
        have H' := Aside0.mk H
        clear H
        have p557 : 0 ≤ (x13_1 : Int) := of_decide_eq_true aS
        have q557 : x13_1 < (x5_1.length : Int) := of_decide_eq_true aS
        obtain ⟨ad557, e557, hx557_0⟩ := Kd.at_int (Kd.R_reads' HO_5.out).2.2 x13_1 p557 q557
        cases e557
        replace p557 := eq_true p557
        replace q557 := eq_true q557
        have p18 : 0 ≤ (x13_1 : Int) := of_decide_eq_true aS
        have q18 : (x13_1 : Int) < ((x5_1.length : Int) : Int) := of_decide_eq_true aS
        obtain ⟨go18, co18, eo18, gb18, gl18, cl18, HG18⟩ := Kd.R_form HO_5.out (by omega)
        (first | cases eo18 | (injection eo18 with ea_ en_ ec_; (first | subst ea_ | (injection ea_ with ea_; subst ea_)); subst ec_; clear en_))
        have GB18 := Aside0.mk gb18
        have GG18 := Aside0.mk HG18
        clear gb18 gl18 HG18
        (first | simp only [add_plain] at hx557_0 | skip)
        obtain ⟨hx18_0, hf18_0⟩ := Kd.R_celln 0 HO_5.out (x13_1 : Int) p18 q18
        replace p18 := eq_true p18
        replace q18 := eq_true q18
        have HP19 := Kd.R_putg HO_5.out (x13_1 : Int) (wrap64 ((wrap64 ((rd x5_1 x13_1) - x6_1)) + 10000))
        go_wp2_with (first | ((with_reducible refine gate_store (t := 3) (p := 39) rfl ?_); refine store_event (t := 3) (p := 39) (v := ?vo_w20) (w1 := (wr.setCell ⟨go18, (x13_1 : Int).toNat, none⟩ (.int .i64 (wrap64 ((wrap64 ((rd x5_1 x13_1) - x6_1)) + 10000))))) ?hg ?ho ?hn ?hr ?_; (case ho => rfl); (case hg => rfl); (case hn => rfl); (case hr => first | (go_simp; done) | (go_simp; rfl)); intro w20 hw; have hg : wr.grownBy w20 (some go18) := (by rw [hw]; exact HP19.2); have hp_ : Kd.R (Kd.int .i64) 3 w20 w.heap.size (fun _ => True) (.slice (some ⟨go18, 0, none⟩) x5_1.length co5) y561 := (by rw [hw, Ny561.out]; exact HP19.1); clear HP19; have n0_ := Aside0.mk (hp_); have n1_ := Aside0.mk ((by rw [hw]; exact below_set (HB.out) GB18.out : Below w.heap.size w w20)); clear HO_5; clear HB; have HO_5 := n0_; have HB := n1_; clear n0_ n1_; clear hg hw hp_))
        (try simp only [← hl5_1])
        go_roundg k1
        case measure => have := HK1.out; omega
        case rel => exact ⟨(y561), (1), (wrap64 (x13_1 + 1)), (by first | rfl | (simp; done) | (simp [*]; done)), (by first | rfl | (simp; done) | (simp [*]; done)), H', ⟨by have := HK1.out; omega⟩, ⟨by (try simp only [hl5_1]); (with_reducible repeat (first | apply Kd.R_alloc | apply Kd.R_drewN | apply Kd.R_drew)); exact HO_5.out⟩, ⟨by repeat (first | (with_reducible first | exact HB.out | apply below_alloc | apply pw_below_drewN | apply below_drew1) | exact HB.out)⟩⟩
       ·rw [if_neg c17] at H
        have c17b0 : decide ((wrap64 ((rd x5_1 x13_1) - x6_1)) < 0) = false := decide_eq_false c17
        clear c17
        obtain ⟨y562, hy562⟩ : ∃ y_ : List Int, y_ = (x5_1.set (x13_1 : Int).toNat (wrap64 ((rd x5_1 x13_1) - x6_1))) := ⟨_, rfl⟩
        replace H : (isochroneref01_Sub.l0 k1 l1 y562 0 (t551.length : Int) (wrap64 (x13_1 + 1))) = some r := by first | (rw [hy562]; with_reducible exact H) | (have H2_ := (Option.bind_some _ _).symm.trans H; rw [hy562]; with_reducible exact H2_) | (have H2_ := (Option.bind_some _ _).symm.trans H; with_reducible exact H2_) | with_reducible exact H | (rw [hy562]; exact H) | exact H
        have Ny562 := Aside0.mk hy562
        clear hy562
        have H' := Aside0.mk H
        clear H
        have p557 : 0 ≤ (x13_1 : Int) := of_decide_eq_true aS
        have q557 : x13_1 < (x5_1.length : Int) := of_decide_eq_true aS
        obtain ⟨ad557, e557, hx557_0⟩ := Kd.at_int (Kd.R_reads' HO_5.out).2.2 x13_1 p557 q557
        cases e557
        replace p557 := eq_true p557
        replace q557 := eq_true q557
        have p21 : 0 ≤ (x13_1 : Int) := of_decide_eq_true aS
        have q21 : (x13_1 : Int) < ((x5_1.length : Int) : Int) := of_decide_eq_true aS
        obtain ⟨go21, co21, eo21, gb21, gl21, cl21, HG21⟩ := Kd.R_form HO_5.out (by omega)
        (first | cases eo21 | (injection eo21 with ea_ en_ ec_; (first | subst ea_ | (injection ea_ with ea_; subst ea_)); subst ec_; clear en_))
        have GB21 := Aside0.mk gb21
        have GG21 := Aside0.mk HG21
        clear gb21 gl21 HG21
        (first | simp only [add_plain] at hx557_0 | skip)
        obtain ⟨hx21_0, hf21_0⟩ := Kd.R_celln 0 HO_5.out (x13_1 : Int) p21 q21
        replace p21 := eq_true p21
        replace q21 := eq_true q21
        have HP22 := Kd.R_putg HO_5.out (x13_1 : Int) (wrap64 ((rd x5_1 x13_1) - x6_1))
        go_wp2_with (first | ((with_reducible refine gate_store (t := 3) (p := 39) rfl ?_); refine store_event (t := 3) (p := 39) (v := ?vo_w23) (w1 := (wr.setCell ⟨go21, (x13_1 : Int).toNat, none⟩ (.int .i64 (wrap64 ((rd x5_1 x13_1) - x6_1))))) ?hg ?ho ?hn ?hr ?_; (case ho => rfl); (case hg => rfl); (case hn => rfl); (case hr => first | (go_simp; done) | (go_simp; rfl)); intro w23 hw; have hg : wr.grownBy w23 (some go21) := (by rw [hw]; exact HP22.2); have hp_ : Kd.R (Kd.int .i64) 3 w23 w.heap.size (fun _ => True) (.slice (some ⟨go21, 0, none⟩) x5_1.length co5) y562 := (by rw [hw, Ny562.out]; exact HP22.1); clear HP22; have n0_ := Aside0.mk (hp_); have n1_ := Aside0.mk ((by rw [hw]; exact below_set (HB.out) GB21.out : Below w.heap.size w w23)); clear HO_5; clear HB; have HO_5 := n0_; have HB := n1_; clear n0_ n1_; clear hg hw hp_))
        (try simp only [← hl5_1])
        go_roundg k1
        case measure => have := HK1.out; omega
        case rel => exact ⟨(y562), (0), (wrap64 (x13_1 + 1)), (by first | rfl | (simp; done) | (simp [*]; done)), (by first | rfl | (simp; done) | (simp [*]; done)), H', ⟨by have := HK1.out; omega⟩, ⟨by (try simp only [hl5_1]); (with_reducible repeat (first | apply Kd.R_alloc | apply Kd.R_drewN | apply Kd.R_drew)); exact HO_5.out⟩, ⟨by repeat (first | (with_reducible first | exact HB.out | apply below_alloc | apply pw_below_drewN | apply below_drew1) | exact HB.out)⟩⟩
     ·rw [if_neg c8] at H
      exact absurd H (by simp)
    ·rw [if_neg c7] at H
     exact absurd H (by simp)
   ·rw [if_neg c6] at H
    have c6b0 : decide (x13_1 < (t551.length : Int)) = false := decide_eq_false c6
    clear c6
    have c6bh := c6b0
    (try simp only [hl5_1] at c6bh)
    replace H := Option.bind_eq_some_iff.mp H
    obtain ⟨t554, A240, H⟩ := H
    replace H : (some t554) = some r := H
    have A24 := Aside0.mk A240
    clear A240
    obtain rfl := Option.some.inj H
    go_wp2_with (first | ((with_reducible refine gate_callee (f := 53) rfl ?_); refine goesL_ (some 42) rfl rfl Try.func53 (by kernel_rfl) rfl #[.slice Ao5 x5_1.length co5] rfl (by (try simp only [List.map_toArray, List.map_cons, List.map_nil]); first | done | rfl | (simp only [List.length_drop, List.length_take]; rfl)) ?_; (with_reducible refine (isochroneref01_trim.calls k1 (fun k_ => some k_ = (.slice Ao5 x5_1.length co5 : Value).ownBlock) (.slice Ao5 x5_1.length co5) x5_1 t554 w _ ?side1 ?side2 A24.out).mono ?_); (case side1 => repeat (first | (with_reducible first | exact HB.out | apply below_alloc | apply pw_below_drewN | apply below_drew1) | exact HB.out)); (case side2 => exact Kd.R_tight rfl HO_5.out); rintro e w25 ⟨v555, rfl, ho0, hb, hkp⟩; refine ⟨_, rfl, ?_⟩; have n0_ := Aside0.mk (Kd.R_mono (ok' := fun k_ => True) ho0 (fun k_ hk_ => trivial)); have n1_ := Aside0.mk (hb); clear HB; clear HO_5; have HO556 := n0_; have HB := n1_; clear n0_ n1_; (try clear hb); (try clear hkp); (try clear ho0)))
    go_ret
    exact ⟨_, by first | rfl | (simp [errW_none, errW_some] <;> rfl) | (simp [*, errW_none, errW_some] <;> rfl), by (with_reducible repeat (first | apply Kd.R_alloc | apply Kd.R_drewN | apply Kd.R_drew)); exact HO556.out, by repeat (first | (with_reducible first | exact HB.out | apply below_alloc | apply pw_below_drewN | apply below_drew1) | exact HB.out)⟩
end Go.Proofs.Ytfmobogdnlmdbaa.P
end
section
namespace Go.Proofs.Ytfmobogdnlmdbaa.P
open Go.RowKit Go.Proofs.YtfmobogdnlmdbaaW.PrintWords Go.Proofs.YtfmobogdnlmdbaaW.PrintLast Go.Proofs.YtfmobogdnlmdbaaW.PrintMore Go.Proofs.YtfmobogdnlmdbaaW
attribute [local go_sem] max2_int min2_int max_two min_two max_three min_three max_four min_four
set_option linter.unusedVariables false
set_option linter.unusedSimpArgs false
set_option maxHeartbeats 8000000 in
set_option maxRecDepth 100000 in
theorem nat_Cmp.calls (k : Nat) (A0 : Option Addr) (c0 : Nat) (l0 : List Int) (A1 : Option Addr) (c1 : Nat) (l1 : List Int) (r1 : Int) (r2 : Int) (w : World) (hr0 : Kd.C (Kd.int .u32) w A0 l0.length l0) (hc0 : l0.length ≤ c0) (hr1 : Kd.C (Kd.int .u32) w A1 l1.length l1) (hc1 : l1.length ≤ c1) (h : nat_Cmp.f k l0 l1 = some (r1, r2)) :
  Calls Try.prog 34 #[.slice A0 l0.length c0, .slice A1 l1.length c1] w fun e w' => e = .returned (.tuple #[.int .i64 r1, .int .i64 r2]) ∧ Drawn0 w w' := by
 have HR0 := Aside0.mk hr0
 have HC0 := Aside0.mk hc0
 clear hr0 hc0
 have HR1 := Aside0.mk hr1
 have HC1 := Aside0.mk hc1
 clear hr1 hc1
 have H : ((nat_both.f l0 l1).bind fun t715 => (if t715 = true then ((mag_Cmp.f k l0 l1).bind fun t716 => (some (t716, 0))) else (some (0, 3)))) = some (r1, r2) := h
 clear h
 replace H := Option.bind_eq_some_iff.mp H
 obtain ⟨t715, A30, H⟩ := H
 replace H : (if t715 = true then ((mag_Cmp.f k l0 l1).bind fun t716 => (some (t716, 0))) else (some (0, 3))) = some (r1, r2) := H
 have A3 := Aside0.mk A30
 clear A30
 by_cases c4 : t715 = true
 ·subst c4
  have H1 : ((mag_Cmp.f k l0 l1).bind fun t716 => (some (t716, 0))) = some (r1, r2) := by rw [if_pos rfl] at H; exact H
  clear H
  have H := H1
  clear H1
  replace H := Option.bind_eq_some_iff.mp H
  obtain ⟨t716, A50, H⟩ := H
  replace H : (some (t716, 0)) = some (r1, r2) := H
  have A5 := Aside0.mk A50
  clear A50
  simp only [Option.some.injEq, Prod.mk.injEq] at H
  obtain ⟨rfl, rfl⟩ := H
  go_enter Try.func34, Try.ntmps34
  go_wp2_with (first | ((with_reducible refine gate_callee (f := 54) rfl ?_); refine goesL_ (some 8) rfl rfl Try.func54 (by kernel_rfl) rfl #[.slice A0 l0.length c0, .slice A1 l1.length c1] rfl (by (try simp only [List.map_toArray, List.map_cons, List.map_nil]); first | done | rfl | (simp only [List.length_drop, List.length_take]; rfl)) ?_; (with_reducible refine (nat_both.calls _ _ l0 _ _ l1 true _ ?side1 ?side2 ?side3 ?side4 A3.out).mono ?_); (case side1 => repeat (first | exact HR0.out | (with_reducible refine Kd.C_alloc ?_ _) | (with_reducible refine Kd.C_drewN ?_ _) | (with_reducible refine Kd.C_drew ?_))); (case side2 => exact HC0.out); (case side3 => repeat (first | exact HR1.out | (with_reducible refine Kd.C_alloc ?_ _) | (with_reducible refine Kd.C_drewN ?_ _) | (with_reducible refine Kd.C_drew ?_))); (case side4 => exact HC1.out); rintro e w' ⟨rfl, ⟨nd, rfl⟩⟩; refine ⟨_, rfl, ?_⟩) | ((with_reducible refine gate_callee (f := 51) rfl ?_); refine goesL_ (some 12) rfl rfl Try.func51 (by kernel_rfl) rfl #[.slice A0 l0.length c0, .slice A1 l1.length c1] rfl (by (try simp only [List.map_toArray, List.map_cons, List.map_nil]); first | done | rfl | (simp only [List.length_drop, List.length_take]; rfl)) ?_; (with_reducible refine (mag_Cmp.calls k _ _ l0 _ _ l1 t716 _ ?side1 ?side2 ?side3 ?side4 A5.out).mono ?_); (case side1 => repeat (first | exact HR0.out | (with_reducible refine Kd.C_alloc ?_ _) | (with_reducible refine Kd.C_drewN ?_ _) | (with_reducible refine Kd.C_drew ?_))); (case side2 => exact HC0.out); (case side3 => repeat (first | exact HR1.out | (with_reducible refine Kd.C_alloc ?_ _) | (with_reducible refine Kd.C_drewN ?_ _) | (with_reducible refine Kd.C_drew ?_))); (case side4 => exact HC1.out); rintro e w' ⟨rfl, ⟨nd, rfl⟩⟩; refine ⟨_, rfl, ?_⟩))
  go_ret2
  exact ⟨by first | rfl | (simp; done) | (simp [*]; done), by repeat (first | exact Drawn0.refl _ | apply Drawn0.step)⟩
 ·replace c4 := Bool.eq_false_iff.mpr c4
  subst c4
  have H1 : (some (0, 3)) = some (r1, r2) := by rw [if_neg (show ¬ (false = true) by decide)] at H; exact H
  clear H
  have H := H1
  clear H1
  simp only [Option.some.injEq, Prod.mk.injEq] at H
  obtain ⟨rfl, rfl⟩ := H
  go_enter Try.func34, Try.ntmps34
  go_wp2_with (first | ((with_reducible refine gate_callee (f := 54) rfl ?_); refine goesL_ (some 8) rfl rfl Try.func54 (by kernel_rfl) rfl #[.slice A0 l0.length c0, .slice A1 l1.length c1] rfl (by (try simp only [List.map_toArray, List.map_cons, List.map_nil]); first | done | rfl | (simp only [List.length_drop, List.length_take]; rfl)) ?_; (with_reducible refine (nat_both.calls _ _ l0 _ _ l1 false _ ?side1 ?side2 ?side3 ?side4 A3.out).mono ?_); (case side1 => repeat (first | exact HR0.out | (with_reducible refine Kd.C_alloc ?_ _) | (with_reducible refine Kd.C_drewN ?_ _) | (with_reducible refine Kd.C_drew ?_))); (case side2 => exact HC0.out); (case side3 => repeat (first | exact HR1.out | (with_reducible refine Kd.C_alloc ?_ _) | (with_reducible refine Kd.C_drewN ?_ _) | (with_reducible refine Kd.C_drew ?_))); (case side4 => exact HC1.out); rintro e w' ⟨rfl, ⟨nd, rfl⟩⟩; refine ⟨_, rfl, ?_⟩))
  go_ret2
  exact ⟨by first | rfl | (simp; done) | (simp [*]; done), by repeat (first | exact Drawn0.refl _ | apply Drawn0.step)⟩
set_option maxHeartbeats 8000000 in
set_option maxRecDepth 100000 in
theorem mag_Sub.calls (k : Nat) (A0 : Option Addr) (c0 : Nat) (l0 : List Int) (A1 : Option Addr) (c1 : Nat) (l1 : List Int) (r : List Int) (w : World) (hr0 : Kd.C (Kd.int .u32) w A0 l0.length l0) (hc0 : l0.length ≤ c0) (hr1 : Kd.C (Kd.int .u32) w A1 l1.length l1) (hc1 : l1.length ≤ c1) (h : mag_Sub.f k l0 l1 = some r) :
  Calls Try.prog 62 #[.slice A0 l0.length c0, .slice A1 l1.length c1] w fun e w' => ∃ v0_ : Value, e = .returned (v0_) ∧ Kd.V (Kd.int .u32) 36 w' w.heap.size (fun k_ => (w.heap.size ≤ k_)) v0_ r ∧ Below w.heap.size w w' := by
 have HR0 := Aside0.mk hr0
 have HC0 := Aside0.mk hc0
 clear hr0 hc0
 have HR1 := Aside0.mk hr1
 have HC1 := Aside0.mk hc1
 clear hr1 hc1
 have HB := Aside0.mk (Below.refl w.heap.size w)
 have H : (if 0 ≤ (l0.length : Int) then (if ((l0.length : Int) : Int).toNat ≤ 70368744177664 then (mag_Sub.l0 k l1 (List.replicate ((l0.length : Int) : Int).toNat 0) 0 l0 (l0.length : Int) 0) else (none)) else (none)) = some r := h
 clear h
 by_cases c3 : 0 ≤ (l0.length : Int)
 ·rw [if_pos c3] at H
  have c3b0 := eq_true c3
  have c3b1 : decide (0 ≤ (l0.length : Int)) = true := decide_eq_true c3
  clear c3
  by_cases c4 : ((l0.length : Int) : Int).toNat ≤ 70368744177664
  ·rw [if_pos c4] at H
   have c4b0 := eq_true c4
   have c4b1 : decide (((l0.length : Int) : Int).toNat ≤ 70368744177664) = true := decide_eq_true c4
   clear c4
   obtain ⟨y717, hy717⟩ : ∃ y_ : List Int, y_ = (List.replicate ((l0.length : Int) : Int).toNat 0) := ⟨_, rfl⟩
   replace H : (mag_Sub.l0 k l1 y717 0 l0 (l0.length : Int) 0) = some r := by first | (rw [hy717]; with_reducible exact H) | (have H2_ := (Option.bind_some _ _).symm.trans H; rw [hy717]; with_reducible exact H2_) | (have H2_ := (Option.bind_some _ _).symm.trans H; with_reducible exact H2_) | with_reducible exact H | (rw [hy717]; exact H) | exact H
   have Ny717 := Aside0.mk hy717
   clear hy717
   have H' := Aside0.mk H
   clear H
   go_enter Try.func62, Try.ntmps62
   go_wp2_with (first | ((with_reducible refine gate_dst (N := 12) rfl ?_); refine Kd.R_make (Kd.int .u32) _ 36 rfl (N := 12) rfl 22 _ _ rfl (l0.length : Int) rfl rfl Try.underlying22 (.int .u32 0) 4 info36 rfl (by decide) (by omega) 0 (ok := fun _ => True) (okp := fun _ => True) rfl (fun _ hk => hk) trivial (of_decide_eq_true aS) (Nat.le_trans (Nat.mul_le_mul_right _ (of_decide_eq_true aS : (l0.length : Int).toNat ≤ 70368744177664)) (by omega)) (Below.refl _ _) (Nat.le_refl _) ?_; intro v718 w5 ho6 hb hg_ hnew_; clear hg_ hnew_; (first | rw [← Ny717.out] at ho6 | (simp only [Int.reduceToNat] at ho6; rw [← Ny717.out] at ho6)); have n0_ := Aside0.mk (Kd.R_lower (Kd.R_newM (M := fun k_ => (w.heap.size ≤ k_)) ho6 (below_size (bB)) (fun k_ h_ => h_)) (below_size (bB))); have n1_ := Aside0.mk (below_step (bB) hb); clear HB; have HO719 := n0_; have HB := n1_; clear n0_ n1_; clear hb ho6))
   go_loopg [6, 15] k (fun kq v6 v15 w' => ∃ (x5_1 : List Int) (x6_1 : Int) (x15_1 : Int), v6 = .int .u64 x6_1 ∧ v15 = .int .i64 x15_1 ∧ Aside0 (mag_Sub.l0 kq l1 x5_1 x6_1 l0 (l0.length : Int) x15_1 = some r) ∧ Aside0 (kq ≤ k) ∧ Aside0 (Kd.R (Kd.int .u32) 36 w' w.heap.size (fun k_ => (w.heap.size ≤ k_)) v718 x5_1) ∧ Aside0 (Below w.heap.size w w'))
   case atStart => exact ⟨(y717), (0), (0), (by first | rfl | (simp; done) | (simp [*]; done)), (by first | rfl | (simp; done) | (simp [*]; done)), H', ⟨Nat.le_refl _⟩, ⟨by (with_reducible repeat (first | apply Kd.R_alloc | apply Kd.R_drewN | apply Kd.R_drew)); exact Kd.R_mono HO719.out (fun _ hk => hk.1)⟩, ⟨by repeat (first | (with_reducible first | exact HB.out | apply below_alloc | apply pw_below_drewN | apply below_drew1) | exact HB.out)⟩⟩
   case round =>
    clear H'
    try clear c1
    try clear p2
    try clear c3
    try clear c3b0
    try clear c3b1
    try clear c4
    try clear c4b0
    try clear c4b1
    try clear c6
    obtain ⟨x5_1, x6_1, x15_1, rfl, rfl, HA, HK1, HO_5, HB⟩ := hrel
    cases gk with
    | zero => exact absurd HA.out (by simp [mag_Sub.l0])
    | succ k1 =>
     have H := HA.out
     clear HA
     simp only [mag_Sub.l0] at H
     by_cases c7 : x15_1 < (l0.length : Int)
     ·rw [if_pos c7] at H
      have c7b0 : decide (x15_1 < (l0.length : Int)) = true := decide_eq_true c7
      clear c7
      by_cases c8 : 0 ≤ x15_1
      ·rw [if_pos c8] at H
       have c8b0 : decide (0 ≤ x15_1) = true := decide_eq_true c8
       clear c8
       by_cases c9 : x15_1 < (l0.length : Int)
       ·rw [if_pos c9] at H
        have c9b0 : decide (x15_1 < (l0.length : Int)) = true := decide_eq_true c9
        clear c9
        by_cases c10 : x15_1 < (l1.length : Int)
        ·rw [if_pos c10] at H
         have c10b0 : decide (x15_1 < (l1.length : Int)) = true := decide_eq_true c10
         clear c10
         by_cases c11 : x15_1 < (x5_1.length : Int)
         ·rw [if_pos c11] at H
          have c11b0 : decide (x15_1 < (x5_1.length : Int)) = true := decide_eq_true c11
          clear c11
          obtain ⟨y722, hy722⟩ : ∃ y_ : List Int, y_ = (x5_1.set (x15_1 : Int).toNat ((IntKind.u64.wrap ((IntKind.u64.wrap ((IntKind.u64.wrap (rd l0 x15_1)) - x6_1)) - (IntKind.u64.wrap (rd l1 x15_1)))) % 4294967296)) := ⟨_, rfl⟩
          replace H : (mag_Sub.l0 k1 l1 y722 ((IntKind.u64.wrap ((IntKind.u64.wrap ((IntKind.u64.wrap (rd l0 x15_1)) - x6_1)) - (IntKind.u64.wrap (rd l1 x15_1)))) / 9223372036854775808) l0 (l0.length : Int) (wrap64 (x15_1 + 1))) = some r := by first | (rw [hy722]; with_reducible exact H) | (have H2_ := (Option.bind_some _ _).symm.trans H; rw [hy722]; with_reducible exact H2_) | (have H2_ := (Option.bind_some _ _).symm.trans H; with_reducible exact H2_) | with_reducible exact H | (rw [hy722]; exact H) | exact H
          have Ny722 := Aside0.mk hy722
          clear hy722
          have H' := Aside0.mk H
          clear H
          have p720 : 0 ≤ (x15_1 : Int) := of_decide_eq_true aS
          have q720 : x15_1 < (l0.length : Int) := of_decide_eq_true aS
          obtain ⟨ad720, e720, hx720_0⟩ := Kd.at_int HR0.out x15_1 p720 q720
          cases e720
          replace hx720_0 := (HB.out.cell (World.block_lt_of_cell? w _ hx720_0)).trans hx720_0
          replace p720 := eq_true p720
          replace q720 := eq_true q720
          have p721 : 0 ≤ (x15_1 : Int) := of_decide_eq_true aS
          have q721 : x15_1 < (l1.length : Int) := of_decide_eq_true aS
          obtain ⟨ad721, e721, hx721_0⟩ := Kd.at_int HR1.out x15_1 p721 q721
          cases e721
          replace hx721_0 := (HB.out.cell (World.block_lt_of_cell? w _ hx721_0)).trans hx721_0
          replace p721 := eq_true p721
          replace q721 := eq_true q721
          have p12 : 0 ≤ (x15_1 : Int) := of_decide_eq_true aS
          have q12 : (x15_1 : Int) < ((x5_1.length : Int) : Int) := of_decide_eq_true aS
          obtain ⟨go12, co12, eo12, gb12, gl12, cl12, HG12⟩ := Kd.R_form HO_5.out (by omega)
          (first | cases eo12 | (injection eo12 with ea_ en_ ec_; (first | subst ea_ | (injection ea_ with ea_; subst ea_)); subst ec_; clear en_))
          have GB12 := Aside0.mk gb12
          have GG12 := Aside0.mk HG12
          clear gb12 gl12 HG12
          obtain ⟨hx12_0, hf12_0⟩ := Kd.R_celln 0 HO_5.out (x15_1 : Int) p12 q12
          replace p12 := eq_true p12
          replace q12 := eq_true q12
          have HP13 := Kd.R_putg HO_5.out (x15_1 : Int) ((IntKind.u64.wrap ((IntKind.u64.wrap ((IntKind.u64.wrap (rd l0 x15_1)) - x6_1)) - (IntKind.u64.wrap (rd l1 x15_1)))) % 4294967296)
          go_wp2_with (first | ((with_reducible refine gate_store (t := 36) (p := 39) rfl ?_); refine store_event (t := 36) (p := 39) (v := ?vo_w14) (w1 := (wr.setCell ⟨go12, (x15_1 : Int).toNat, none⟩ (.int .u32 ((IntKind.u64.wrap ((IntKind.u64.wrap ((IntKind.u64.wrap (rd l0 x15_1)) - x6_1)) - (IntKind.u64.wrap (rd l1 x15_1)))) % 4294967296)))) ?hg ?ho ?hn ?hr ?_; (case ho => rfl); (case hg => rfl); (case hn => rfl); (case hr => first | (go_simp; done) | (go_simp; rfl)); intro w14 hw; have hg : wr.grownBy w14 (some go12) := (by rw [hw]; exact HP13.2); have hp_ : Kd.R (Kd.int .u32) 36 w14 w.heap.size (fun k_ => (w.heap.size ≤ k_)) (.slice (some ⟨go12, 0, none⟩) x5_1.length co12) y722 := (by rw [hw, Ny722.out]; exact HP13.1); clear HP13; have n0_ := Aside0.mk (hp_); have n1_ := Aside0.mk ((by rw [hw]; exact below_set (HB.out) GB12.out : Below w.heap.size w w14)); clear HO_5; clear HB; have HO_5 := n0_; have HB := n1_; clear n0_ n1_; clear hg hw hp_))
          go_roundg k1
          case measure => have := HK1.out; omega
          case rel => exact ⟨(y722), ((IntKind.u64.wrap ((IntKind.u64.wrap ((IntKind.u64.wrap (rd l0 x15_1)) - x6_1)) - (IntKind.u64.wrap (rd l1 x15_1)))) / 9223372036854775808), (wrap64 (x15_1 + 1)), (by first | rfl | (simp; done) | (simp [*]; done)), (by first | rfl | (simp; done) | (simp [*]; done)), H', ⟨by have := HK1.out; omega⟩, ⟨by (with_reducible repeat (first | apply Kd.R_alloc | apply Kd.R_drewN | apply Kd.R_drew)); exact HO_5.out⟩, ⟨by repeat (first | (with_reducible first | exact HB.out | apply below_alloc | apply pw_below_drewN | apply below_drew1) | exact HB.out)⟩⟩
         ·rw [if_neg c11] at H
          exact absurd H (by simp)
        ·rw [if_neg c10] at H
         have c10b0 : decide (x15_1 < (l1.length : Int)) = false := decide_eq_false c10
         clear c10
         by_cases c15 : x15_1 < (x5_1.length : Int)
         ·rw [if_pos c15] at H
          have c15b0 : decide (x15_1 < (x5_1.length : Int)) = true := decide_eq_true c15
          clear c15
          obtain ⟨y723, hy723⟩ : ∃ y_ : List Int, y_ = (x5_1.set (x15_1 : Int).toNat ((IntKind.u64.wrap ((IntKind.u64.wrap (rd l0 x15_1)) - x6_1)) % 4294967296)) := ⟨_, rfl⟩
          replace H : (mag_Sub.l0 k1 l1 y723 ((IntKind.u64.wrap ((IntKind.u64.wrap (rd l0 x15_1)) - x6_1)) / 9223372036854775808) l0 (l0.length : Int) (wrap64 (x15_1 + 1))) = some r := by first | (rw [hy723]; with_reducible exact H) | (have H2_ := (Option.bind_some _ _).symm.trans H; rw [hy723]; with_reducible exact H2_) | (have H2_ := (Option.bind_some _ _).symm.trans H; with_reducible exact H2_) | with_reducible exact H | (rw [hy723]; exact H) | exact H
          have Ny723 := Aside0.mk hy723
          clear hy723
          have H' := Aside0.mk H
          clear H
          have p720 : 0 ≤ (x15_1 : Int) := of_decide_eq_true aS
          have q720 : x15_1 < (l0.length : Int) := of_decide_eq_true aS
          obtain ⟨ad720, e720, hx720_0⟩ := Kd.at_int HR0.out x15_1 p720 q720
          cases e720
          replace hx720_0 := (HB.out.cell (World.block_lt_of_cell? w _ hx720_0)).trans hx720_0
          replace p720 := eq_true p720
          replace q720 := eq_true q720
          have p16 : 0 ≤ (x15_1 : Int) := of_decide_eq_true aS
          have q16 : (x15_1 : Int) < ((x5_1.length : Int) : Int) := of_decide_eq_true aS
          obtain ⟨go16, co16, eo16, gb16, gl16, cl16, HG16⟩ := Kd.R_form HO_5.out (by omega)
          (first | cases eo16 | (injection eo16 with ea_ en_ ec_; (first | subst ea_ | (injection ea_ with ea_; subst ea_)); subst ec_; clear en_))
          have GB16 := Aside0.mk gb16
          have GG16 := Aside0.mk HG16
          clear gb16 gl16 HG16
          obtain ⟨hx16_0, hf16_0⟩ := Kd.R_celln 0 HO_5.out (x15_1 : Int) p16 q16
          replace p16 := eq_true p16
          replace q16 := eq_true q16
          have HP17 := Kd.R_putg HO_5.out (x15_1 : Int) ((IntKind.u64.wrap ((IntKind.u64.wrap (rd l0 x15_1)) - x6_1)) % 4294967296)
          go_wp2_with (first | ((with_reducible refine gate_store (t := 36) (p := 39) rfl ?_); refine store_event (t := 36) (p := 39) (v := ?vo_w18) (w1 := (wr.setCell ⟨go16, (x15_1 : Int).toNat, none⟩ (.int .u32 ((IntKind.u64.wrap ((IntKind.u64.wrap (rd l0 x15_1)) - x6_1)) % 4294967296)))) ?hg ?ho ?hn ?hr ?_; (case ho => rfl); (case hg => rfl); (case hn => rfl); (case hr => first | (go_simp; done) | (go_simp; rfl)); intro w18 hw; have hg : wr.grownBy w18 (some go16) := (by rw [hw]; exact HP17.2); have hp_ : Kd.R (Kd.int .u32) 36 w18 w.heap.size (fun k_ => (w.heap.size ≤ k_)) (.slice (some ⟨go16, 0, none⟩) x5_1.length co16) y723 := (by rw [hw, Ny723.out]; exact HP17.1); clear HP17; have n0_ := Aside0.mk (hp_); have n1_ := Aside0.mk ((by rw [hw]; exact below_set (HB.out) GB16.out : Below w.heap.size w w18)); clear HO_5; clear HB; have HO_5 := n0_; have HB := n1_; clear n0_ n1_; clear hg hw hp_))
          go_roundg k1
          case measure => have := HK1.out; omega
          case rel => exact ⟨(y723), ((IntKind.u64.wrap ((IntKind.u64.wrap (rd l0 x15_1)) - x6_1)) / 9223372036854775808), (wrap64 (x15_1 + 1)), (by first | rfl | (simp; done) | (simp [*]; done)), (by first | rfl | (simp; done) | (simp [*]; done)), H', ⟨by have := HK1.out; omega⟩, ⟨by (with_reducible repeat (first | apply Kd.R_alloc | apply Kd.R_drewN | apply Kd.R_drew)); exact HO_5.out⟩, ⟨by repeat (first | (with_reducible first | exact HB.out | apply below_alloc | apply pw_below_drewN | apply below_drew1) | exact HB.out)⟩⟩
         ·rw [if_neg c15] at H
          exact absurd H (by simp)
       ·rw [if_neg c9] at H
        exact absurd H (by simp)
      ·rw [if_neg c8] at H
       exact absurd H (by simp)
     ·rw [if_neg c7] at H
      have c7b0 : decide (x15_1 < (l0.length : Int)) = false := decide_eq_false c7
      clear c7
      replace H := Option.bind_eq_some_iff.mp H
      obtain ⟨t724, A190, H⟩ := H
      replace H : (some t724) = some r := H
      have A19 := Aside0.mk A190
      clear A190
      obtain rfl := Option.some.inj H
      obtain ⟨Ao20, co20, eo20⟩ := Kd.R_slice HO_5.out
      subst eo20
      go_wp2_with (first | ((with_reducible refine gate_callee (f := 66) rfl ?_); refine goesL_ (some 44) rfl rfl Try.func66 (by kernel_rfl) rfl #[.slice Ao20 x5_1.length co20] rfl (by (try simp only [List.map_toArray, List.map_cons, List.map_nil]); first | done | rfl | (simp only [List.length_drop, List.length_take]; rfl)) ?_; (with_reducible refine (mag_Trim.calls k1 (fun k_ => some k_ = (.slice Ao20 x5_1.length co20 : Value).ownBlock) _ _ x5_1 t724 _ ?side1 A19.out).mono ?_); (case side1 => exact Kd.R_V (Kd.R_tight rfl (HO_5.out))); rintro e w21 ⟨v725, rfl, ho0, hb⟩; refine ⟨_, rfl, ?_⟩; have n0_ := Aside0.mk (Kd.R_below (by (with_reducible repeat (first | apply Kd.R_alloc | apply Kd.R_drewN | apply Kd.R_drew)); exact HO_5.out) hb); have n1_ := Aside0.mk (Kd.V_lower (Kd.V_mono (ok' := fun k_ => (w.heap.size ≤ k_)) ho0 (fun k_ hk_ => Or.elim hk_ (fun hs_ => ((HO_5.out).1 k_ hs_.symm)) (fun hn_ => (Nat.le_trans (below_size (bB)) hn_)))) (below_size (bB))); have n2_ := Aside0.mk (below_step (bB) hb); clear HO_5; clear HB; have HO_5 := n0_; have HO726 := n1_; have HB := n2_; clear n0_ n1_ n2_; (try clear hb); (try clear hb2); (try clear hk); (try clear hi); (try clear ho0)))
      go_ret
      exact ⟨_, by first | rfl | (simp [errW_none, errW_some] <;> rfl) | (simp [*, errW_none, errW_some] <;> rfl), by (with_reducible repeat (first | apply Kd.V_alloc | apply Kd.V_drewN | apply Kd.V_drew)); exact HO726.out, by repeat (first | (with_reducible first | exact HB.out | apply below_alloc | apply pw_below_drewN | apply below_drew1) | exact HB.out)⟩
  ·rw [if_neg c4] at H
   exact absurd H (by simp)
 ·rw [if_neg c3] at H
  exact absurd H (by simp)
set_option maxHeartbeats 8000000 in
set_option maxRecDepth 100000 in
theorem nat_Sub.calls (k : Nat) (A0 : Option Addr) (c0 : Nat) (l0 : List Int) (A1 : Option Addr) (c1 : Nat) (l1 : List Int) (r1 : List Int) (r2 : Int) (w : World) (hr0 : Kd.C (Kd.int .u32) w A0 l0.length l0) (hc0 : l0.length ≤ c0) (hr1 : Kd.C (Kd.int .u32) w A1 l1.length l1) (hc1 : l1.length ≤ c1) (h : nat_Sub.f k l0 l1 = some (r1, r2)) :
  Calls Try.prog 35 #[.slice A0 l0.length c0, .slice A1 l1.length c1] w fun e w' => ∃ v0_ : Value, e = .returned (.tuple #[v0_, .int .i64 r2]) ∧ Kd.R (Kd.int .u32) 36 w' w.heap.size (fun _ => True) v0_ r1 ∧ Below w.heap.size w w' := by
 have HR0 := Aside0.mk hr0
 have HC0 := Aside0.mk hc0
 clear hr0 hc0
 have HR1 := Aside0.mk hr1
 have HC1 := Aside0.mk hc1
 clear hr1 hc1
 have HB := Aside0.mk (Below.refl w.heap.size w)
 have H : ((nat_both.f l0 l1).bind fun t727 => (if t727 = true then ((mag_Cmp.f k l0 l1).bind fun t728 => (if t728 < 0 then (some (([] : List Int), 1)) else ((mag_Sub.f k l0 l1).bind fun t729 => ((nat_limited.f t729).bind fun bt732 => (some (bt732.1, bt732.2)))))) else (some (([] : List Int), 3)))) = some (r1, r2) := h
 clear h
 replace H := Option.bind_eq_some_iff.mp H
 obtain ⟨t727, A30, H⟩ := H
 replace H : (if t727 = true then ((mag_Cmp.f k l0 l1).bind fun t728 => (if t728 < 0 then (some (([] : List Int), 1)) else ((mag_Sub.f k l0 l1).bind fun t729 => ((nat_limited.f t729).bind fun bt732 => (some (bt732.1, bt732.2)))))) else (some (([] : List Int), 3))) = some (r1, r2) := H
 have A3 := Aside0.mk A30
 clear A30
 by_cases c4 : t727 = true
 ·subst c4
  have H1 : ((mag_Cmp.f k l0 l1).bind fun t728 => (if t728 < 0 then (some (([] : List Int), 1)) else ((mag_Sub.f k l0 l1).bind fun t729 => ((nat_limited.f t729).bind fun bt732 => (some (bt732.1, bt732.2)))))) = some (r1, r2) := by rw [if_pos rfl] at H; exact H
  clear H
  have H := H1
  clear H1
  replace H := Option.bind_eq_some_iff.mp H
  obtain ⟨t728, A50, H⟩ := H
  replace H : (if t728 < 0 then (some (([] : List Int), 1)) else ((mag_Sub.f k l0 l1).bind fun t729 => ((nat_limited.f t729).bind fun bt732 => (some (bt732.1, bt732.2))))) = some (r1, r2) := H
  have A5 := Aside0.mk A50
  clear A50
  by_cases c6 : t728 < 0
  ·rw [if_pos c6] at H
   have c6b0 : decide (t728 < 0) = true := decide_eq_true c6
   clear c6
   simp only [Option.some.injEq, Prod.mk.injEq] at H
   obtain ⟨rfl, rfl⟩ := H
   go_enter Try.func35, Try.ntmps35
   go_wp2_with (first | ((with_reducible refine gate_callee (f := 54) rfl ?_); refine goesL_ (some 9) rfl rfl Try.func54 (by kernel_rfl) rfl #[.slice A0 l0.length c0, .slice A1 l1.length c1] rfl (by (try simp only [List.map_toArray, List.map_cons, List.map_nil]); first | done | rfl | (simp only [List.length_drop, List.length_take]; rfl)) ?_; (with_reducible refine (nat_both.calls _ _ l0 _ _ l1 true _ ?side1 ?side2 ?side3 ?side4 A3.out).mono ?_); (case side1 => repeat (first | exact HR0.out | (with_reducible refine Kd.C_alloc ?_ _) | (with_reducible refine Kd.C_drewN ?_ _) | (with_reducible refine Kd.C_drew ?_))); (case side2 => exact HC0.out); (case side3 => repeat (first | exact HR1.out | (with_reducible refine Kd.C_alloc ?_ _) | (with_reducible refine Kd.C_drewN ?_ _) | (with_reducible refine Kd.C_drew ?_))); (case side4 => exact HC1.out); rintro e w' ⟨rfl, ⟨nd, rfl⟩⟩; refine ⟨_, rfl, ?_⟩) | ((with_reducible refine gate_callee (f := 51) rfl ?_); refine goesL_ (some 14) rfl rfl Try.func51 (by kernel_rfl) rfl #[.slice A0 l0.length c0, .slice A1 l1.length c1] rfl (by (try simp only [List.map_toArray, List.map_cons, List.map_nil]); first | done | rfl | (simp only [List.length_drop, List.length_take]; rfl)) ?_; (with_reducible refine (mag_Cmp.calls k _ _ l0 _ _ l1 t728 _ ?side1 ?side2 ?side3 ?side4 A5.out).mono ?_); (case side1 => repeat (first | exact HR0.out | (with_reducible refine Kd.C_alloc ?_ _) | (with_reducible refine Kd.C_drewN ?_ _) | (with_reducible refine Kd.C_drew ?_))); (case side2 => exact HC0.out); (case side3 => repeat (first | exact HR1.out | (with_reducible refine Kd.C_alloc ?_ _) | (with_reducible refine Kd.C_drewN ?_ _) | (with_reducible refine Kd.C_drew ?_))); (case side4 => exact HC1.out); rintro e w' ⟨rfl, ⟨nd, rfl⟩⟩; refine ⟨_, rfl, ?_⟩))
   go_ret2
   exact ⟨_, by first | rfl | (simp [errW_none, errW_some] <;> rfl) | (simp [*, errW_none, errW_some] <;> rfl), by first | exact Kd.R_nil _ _ _ _ _ | exact Kd.N_nil _ _ _ _ _ | exact Kd.V_nil _ _ _ _ _ | exact Kd.Q_nil _ _ _ _ _ | exact Kd.S_nil _ _ _ _ _, by repeat (first | (with_reducible first | exact HB.out | apply below_alloc | apply pw_below_drewN | apply below_drew1) | exact HB.out)⟩
  ·rw [if_neg c6] at H
   have c6b0 : decide (t728 < 0) = false := decide_eq_false c6
   clear c6
   replace H := Option.bind_eq_some_iff.mp H
   obtain ⟨t729, A70, H⟩ := H
   replace H : ((nat_limited.f t729).bind fun bt732 => (some (bt732.1, bt732.2))) = some (r1, r2) := H
   have A7 := Aside0.mk A70
   clear A70
   replace H := Option.bind_eq_some_iff.mp H
   obtain ⟨⟨t732, t733⟩, A80, H⟩ := H
   replace H : (some (t732, t733)) = some (r1, r2) := H
   have A8 := Aside0.mk A80
   clear A80
   simp only [Option.some.injEq, Prod.mk.injEq] at H
   obtain ⟨rfl, rfl⟩ := H
   go_enter Try.func35, Try.ntmps35
   go_wp2_with (first | ((with_reducible refine gate_callee (f := 54) rfl ?_); refine goesL_ (some 9) rfl rfl Try.func54 (by kernel_rfl) rfl #[.slice A0 l0.length c0, .slice A1 l1.length c1] rfl (by (try simp only [List.map_toArray, List.map_cons, List.map_nil]); first | done | rfl | (simp only [List.length_drop, List.length_take]; rfl)) ?_; (with_reducible refine (nat_both.calls _ _ l0 _ _ l1 true _ ?side1 ?side2 ?side3 ?side4 A3.out).mono ?_); (case side1 => repeat (first | exact HR0.out | (with_reducible refine Kd.C_alloc ?_ _) | (with_reducible refine Kd.C_drewN ?_ _) | (with_reducible refine Kd.C_drew ?_))); (case side2 => exact HC0.out); (case side3 => repeat (first | exact HR1.out | (with_reducible refine Kd.C_alloc ?_ _) | (with_reducible refine Kd.C_drewN ?_ _) | (with_reducible refine Kd.C_drew ?_))); (case side4 => exact HC1.out); rintro e w' ⟨rfl, ⟨nd, rfl⟩⟩; refine ⟨_, rfl, ?_⟩) | ((with_reducible refine gate_callee (f := 51) rfl ?_); refine goesL_ (some 14) rfl rfl Try.func51 (by kernel_rfl) rfl #[.slice A0 l0.length c0, .slice A1 l1.length c1] rfl (by (try simp only [List.map_toArray, List.map_cons, List.map_nil]); first | done | rfl | (simp only [List.length_drop, List.length_take]; rfl)) ?_; (with_reducible refine (mag_Cmp.calls k _ _ l0 _ _ l1 t728 _ ?side1 ?side2 ?side3 ?side4 A5.out).mono ?_); (case side1 => repeat (first | exact HR0.out | (with_reducible refine Kd.C_alloc ?_ _) | (with_reducible refine Kd.C_drewN ?_ _) | (with_reducible refine Kd.C_drew ?_))); (case side2 => exact HC0.out); (case side3 => repeat (first | exact HR1.out | (with_reducible refine Kd.C_alloc ?_ _) | (with_reducible refine Kd.C_drewN ?_ _) | (with_reducible refine Kd.C_drew ?_))); (case side4 => exact HC1.out); rintro e w' ⟨rfl, ⟨nd, rfl⟩⟩; refine ⟨_, rfl, ?_⟩) | ((with_reducible refine gate_callee (f := 62) rfl ?_); refine goesL_ (some 18) rfl rfl Try.func62 (by kernel_rfl) rfl #[.slice A0 l0.length c0, .slice A1 l1.length c1] rfl (by (try simp only [List.map_toArray, List.map_cons, List.map_nil]); first | done | rfl | (simp only [List.length_drop, List.length_take]; rfl)) ?_; (with_reducible refine (mag_Sub.calls k _ _ l0 _ _ l1 t729 _ ?side1 ?side2 ?side3 ?side4 A7.out).mono ?_); (case side1 => repeat (first | exact HR0.out | (with_reducible refine Kd.C_alloc ?_ _) | (with_reducible refine Kd.C_drewN ?_ _) | (with_reducible refine Kd.C_drew ?_))); (case side2 => exact HC0.out); (case side3 => repeat (first | exact HR1.out | (with_reducible refine Kd.C_alloc ?_ _) | (with_reducible refine Kd.C_drewN ?_ _) | (with_reducible refine Kd.C_drew ?_))); (case side4 => exact HC1.out); rintro e w9 ⟨v730, rfl, ho0, hb⟩; refine ⟨_, rfl, ?_⟩; have n0_ := Aside0.mk (Kd.V_lower (Kd.V_mono (ok' := fun k_ => True) ho0 (fun k_ hk_ => trivial)) (below_size (bB))); have n1_ := Aside0.mk (below_step (bB) hb); clear HB; have HO731 := n0_; have HB := n1_; clear n0_ n1_; (try clear hb); (try clear hb2); (try clear hk); (try clear hi); (try clear ho0); obtain ⟨Ao10, co10, eo10⟩ := Kd.V_slice HO731.out; subst eo10) | ((with_reducible refine gate_callee (f := 52) rfl ?_); refine goesL_ (some 19) rfl rfl Try.func52 (by kernel_rfl) rfl #[.slice Ao10 t729.length co10] rfl (by (try simp only [List.map_toArray, List.map_cons, List.map_nil]); first | done | rfl | (simp only [List.length_drop, List.length_take]; rfl)) ?_; (with_reducible refine (nat_limited.calls _ _ t729 t732 t733 _ ?side1 ?side2 A8.out).mono ?_); (case side1 => repeat (first | exact (Kd.V_reads' HO731.out).2.2 | (with_reducible refine Kd.C_alloc ?_ _) | (with_reducible refine Kd.C_drewN ?_ _) | (with_reducible refine Kd.C_drew ?_))); (case side2 => exact (Kd.V_reads' HO731.out).2.1); rintro e w11 ⟨v734, rfl, ho0, hb⟩; refine ⟨_, rfl, ?_⟩; have n0_ := Aside0.mk (Kd.V_elder' (by (with_reducible repeat (first | apply Kd.V_alloc | apply Kd.V_drewN | apply Kd.V_drew)); exact HO731.out) (Kd.R_base ho0) hb); have n1_ := Aside0.mk (Kd.R_lower ho0 (below_size (bB))); have n2_ := Aside0.mk (below_step (bB) hb); clear HO731; clear HB; have HO731 := n0_; have HO735 := n1_; have HB := n2_; clear n0_ n1_ n2_; (try clear hb); (try clear hb2); (try clear hk); (try clear hi); (try clear ho0)))
   go_ret2
   exact ⟨_, by first | rfl | (simp [errW_none, errW_some] <;> rfl) | (simp [*, errW_none, errW_some] <;> rfl), by (with_reducible repeat (first | apply Kd.R_alloc | apply Kd.R_drewN | apply Kd.R_drew)); exact HO735.out, by repeat (first | (with_reducible first | exact HB.out | apply below_alloc | apply pw_below_drewN | apply below_drew1) | exact HB.out)⟩
 ·replace c4 := Bool.eq_false_iff.mpr c4
  subst c4
  have H1 : (some (([] : List Int), 3)) = some (r1, r2) := by rw [if_neg (show ¬ (false = true) by decide)] at H; exact H
  clear H
  have H := H1
  clear H1
  simp only [Option.some.injEq, Prod.mk.injEq] at H
  obtain ⟨rfl, rfl⟩ := H
  go_enter Try.func35, Try.ntmps35
  go_wp2_with (first | ((with_reducible refine gate_callee (f := 54) rfl ?_); refine goesL_ (some 9) rfl rfl Try.func54 (by kernel_rfl) rfl #[.slice A0 l0.length c0, .slice A1 l1.length c1] rfl (by (try simp only [List.map_toArray, List.map_cons, List.map_nil]); first | done | rfl | (simp only [List.length_drop, List.length_take]; rfl)) ?_; (with_reducible refine (nat_both.calls _ _ l0 _ _ l1 false _ ?side1 ?side2 ?side3 ?side4 A3.out).mono ?_); (case side1 => repeat (first | exact HR0.out | (with_reducible refine Kd.C_alloc ?_ _) | (with_reducible refine Kd.C_drewN ?_ _) | (with_reducible refine Kd.C_drew ?_))); (case side2 => exact HC0.out); (case side3 => repeat (first | exact HR1.out | (with_reducible refine Kd.C_alloc ?_ _) | (with_reducible refine Kd.C_drewN ?_ _) | (with_reducible refine Kd.C_drew ?_))); (case side4 => exact HC1.out); rintro e w' ⟨rfl, ⟨nd, rfl⟩⟩; refine ⟨_, rfl, ?_⟩))
  go_ret2
  exact ⟨_, by first | rfl | (simp [errW_none, errW_some] <;> rfl) | (simp [*, errW_none, errW_some] <;> rfl), by first | exact Kd.R_nil _ _ _ _ _ | exact Kd.N_nil _ _ _ _ _ | exact Kd.V_nil _ _ _ _ _ | exact Kd.Q_nil _ _ _ _ _ | exact Kd.S_nil _ _ _ _ _, by repeat (first | (with_reducible first | exact HB.out | apply below_alloc | apply pw_below_drewN | apply below_drew1) | exact HB.out)⟩
end Go.Proofs.Ytfmobogdnlmdbaa.P
end
section
namespace Go.Proofs.Ytfmobogdnlmdbaa.P
open Go.RowKit Go.Proofs.YtfmobogdnlmdbaaW.PrintWords Go.Proofs.YtfmobogdnlmdbaaW.PrintLast Go.Proofs.YtfmobogdnlmdbaaW.PrintMore Go.Proofs.YtfmobogdnlmdbaaW
attribute [local go_sem] max2_int min2_int max_two min_two max_three min_three max_four min_four
set_option linter.unusedVariables false
set_option linter.unusedSimpArgs false
set_option maxHeartbeats 8000000 in
set_option maxRecDepth 100000 in
theorem isochronelaw01_NatRing.calls (k : Nat) (A0 : Option Addr) (c0 : Nat) (l0 : List Int) (A1 : Option Addr) (c1 : Nat) (l1 : List Int) (r : Bool) (w : World) (hr0 : Kd.C (Kd.int .u32) w A0 l0.length l0) (hc0 : l0.length ≤ c0) (hr1 : Kd.C (Kd.int .u32) w A1 l1.length l1) (hc1 : l1.length ≤ c1) (h : isochronelaw01_NatRing.f k l0 l1 = some r) :
  Calls Try.prog 7 #[.slice A0 l0.length c0, .slice A1 l1.length c1] w fun e w' => e = .returned (.bool r) ∧ Below w.heap.size w w' := by
 have HR0 := Aside0.mk hr0
 have HC0 := Aside0.mk hc0
 clear hr0 hc0
 have HR1 := Aside0.mk hr1
 have HC1 := Aside0.mk hc1
 clear hr1 hc1
 have HB := Aside0.mk (Below.refl w.heap.size w)
 have H : ((isochronelaw01_awake.f k).bind fun t736 => (if t736 = true then ((isochronelaw01_small.f l0 l1 40).bind fun t737 => (if t737 = true then ((isochroneref01_Of.f k l0).bind fun t738 => ((isochroneref01_Of.f k l1).bind fun t741 => ((nat_Cmp.f k l0 l1).bind fun bt744 => ((nat_Add.f k l0 l1).bind fun bt746 => ((nat_Mul.f k l0 l1).bind fun bt750 => ((nat_Sub.f k l0 l1).bind fun bt754 => (if bt744.2 = 0 then (if bt746.2 = 0 then (if bt750.2 = 0 then ((isochroneref01_Cmp.f k t738 t741).bind fun t758 => (if bt744.1 = t758 then ((isochroneref01_Add.f k t738 t741).bind fun t759 => ((isochronelaw01_is.f k bt746.1 t759).bind fun t762 => (if t762 = true then ((isochroneref01_Mul.f k t738 t741).bind fun t763 => ((isochronelaw01_is.f k bt750.1 t763).bind fun t766 => (isochronelaw01_NatRing.j0 k t738 t741 bt744.1 bt754.1 bt754.2 (!t766)))) else (isochronelaw01_NatRing.j0 k t738 t741 bt744.1 bt754.1 bt754.2 true)))) else (isochronelaw01_NatRing.j0 k t738 t741 bt744.1 bt754.1 bt754.2 true))) else (isochronelaw01_NatRing.j0 k t738 t741 bt744.1 bt754.1 bt754.2 true)) else (isochronelaw01_NatRing.j0 k t738 t741 bt744.1 bt754.1 bt754.2 true)) else (isochronelaw01_NatRing.j0 k t738 t741 bt744.1 bt754.1 bt754.2 true)))))))) else (some true))) else (some false))) = some r := h
 clear h
 replace H := Option.bind_eq_some_iff.mp H
 obtain ⟨t736, A30, H⟩ := H
 replace H : (if t736 = true then ((isochronelaw01_small.f l0 l1 40).bind fun t737 => (if t737 = true then ((isochroneref01_Of.f k l0).bind fun t738 => ((isochroneref01_Of.f k l1).bind fun t741 => ((nat_Cmp.f k l0 l1).bind fun bt744 => ((nat_Add.f k l0 l1).bind fun bt746 => ((nat_Mul.f k l0 l1).bind fun bt750 => ((nat_Sub.f k l0 l1).bind fun bt754 => (if bt744.2 = 0 then (if bt746.2 = 0 then (if bt750.2 = 0 then ((isochroneref01_Cmp.f k t738 t741).bind fun t758 => (if bt744.1 = t758 then ((isochroneref01_Add.f k t738 t741).bind fun t759 => ((isochronelaw01_is.f k bt746.1 t759).bind fun t762 => (if t762 = true then ((isochroneref01_Mul.f k t738 t741).bind fun t763 => ((isochronelaw01_is.f k bt750.1 t763).bind fun t766 => (isochronelaw01_NatRing.j0 k t738 t741 bt744.1 bt754.1 bt754.2 (!t766)))) else (isochronelaw01_NatRing.j0 k t738 t741 bt744.1 bt754.1 bt754.2 true)))) else (isochronelaw01_NatRing.j0 k t738 t741 bt744.1 bt754.1 bt754.2 true))) else (isochronelaw01_NatRing.j0 k t738 t741 bt744.1 bt754.1 bt754.2 true)) else (isochronelaw01_NatRing.j0 k t738 t741 bt744.1 bt754.1 bt754.2 true)) else (isochronelaw01_NatRing.j0 k t738 t741 bt744.1 bt754.1 bt754.2 true)))))))) else (some true))) else (some false)) = some r := H
 have A3 := Aside0.mk A30
 clear A30
 by_cases c4 : t736 = true
 ·subst c4
  have H1 : ((isochronelaw01_small.f l0 l1 40).bind fun t737 => (if t737 = true then ((isochroneref01_Of.f k l0).bind fun t738 => ((isochroneref01_Of.f k l1).bind fun t741 => ((nat_Cmp.f k l0 l1).bind fun bt744 => ((nat_Add.f k l0 l1).bind fun bt746 => ((nat_Mul.f k l0 l1).bind fun bt750 => ((nat_Sub.f k l0 l1).bind fun bt754 => (if bt744.2 = 0 then (if bt746.2 = 0 then (if bt750.2 = 0 then ((isochroneref01_Cmp.f k t738 t741).bind fun t758 => (if bt744.1 = t758 then ((isochroneref01_Add.f k t738 t741).bind fun t759 => ((isochronelaw01_is.f k bt746.1 t759).bind fun t762 => (if t762 = true then ((isochroneref01_Mul.f k t738 t741).bind fun t763 => ((isochronelaw01_is.f k bt750.1 t763).bind fun t766 => (isochronelaw01_NatRing.j0 k t738 t741 bt744.1 bt754.1 bt754.2 (!t766)))) else (isochronelaw01_NatRing.j0 k t738 t741 bt744.1 bt754.1 bt754.2 true)))) else (isochronelaw01_NatRing.j0 k t738 t741 bt744.1 bt754.1 bt754.2 true))) else (isochronelaw01_NatRing.j0 k t738 t741 bt744.1 bt754.1 bt754.2 true)) else (isochronelaw01_NatRing.j0 k t738 t741 bt744.1 bt754.1 bt754.2 true)) else (isochronelaw01_NatRing.j0 k t738 t741 bt744.1 bt754.1 bt754.2 true)))))))) else (some true))) = some r := by rw [if_pos rfl] at H; exact H
  clear H
  have H := H1
  clear H1
  replace H := Option.bind_eq_some_iff.mp H
  obtain ⟨t737, A50, H⟩ := H
  replace H : (if t737 = true then ((isochroneref01_Of.f k l0).bind fun t738 => ((isochroneref01_Of.f k l1).bind fun t741 => ((nat_Cmp.f k l0 l1).bind fun bt744 => ((nat_Add.f k l0 l1).bind fun bt746 => ((nat_Mul.f k l0 l1).bind fun bt750 => ((nat_Sub.f k l0 l1).bind fun bt754 => (if bt744.2 = 0 then (if bt746.2 = 0 then (if bt750.2 = 0 then ((isochroneref01_Cmp.f k t738 t741).bind fun t758 => (if bt744.1 = t758 then ((isochroneref01_Add.f k t738 t741).bind fun t759 => ((isochronelaw01_is.f k bt746.1 t759).bind fun t762 => (if t762 = true then ((isochroneref01_Mul.f k t738 t741).bind fun t763 => ((isochronelaw01_is.f k bt750.1 t763).bind fun t766 => (isochronelaw01_NatRing.j0 k t738 t741 bt744.1 bt754.1 bt754.2 (!t766)))) else (isochronelaw01_NatRing.j0 k t738 t741 bt744.1 bt754.1 bt754.2 true)))) else (isochronelaw01_NatRing.j0 k t738 t741 bt744.1 bt754.1 bt754.2 true))) else (isochronelaw01_NatRing.j0 k t738 t741 bt744.1 bt754.1 bt754.2 true)) else (isochronelaw01_NatRing.j0 k t738 t741 bt744.1 bt754.1 bt754.2 true)) else (isochronelaw01_NatRing.j0 k t738 t741 bt744.1 bt754.1 bt754.2 true)))))))) else (some true)) = some r := H
  have A5 := Aside0.mk A50
  clear A50
  by_cases c6 : t737 = true
  ·subst c6
   have H1 : ((isochroneref01_Of.f k l0).bind fun t738 => ((isochroneref01_Of.f k l1).bind fun t741 => ((nat_Cmp.f k l0 l1).bind fun bt744 => ((nat_Add.f k l0 l1).bind fun bt746 => ((nat_Mul.f k l0 l1).bind fun bt750 => ((nat_Sub.f k l0 l1).bind fun bt754 => (if bt744.2 = 0 then (if bt746.2 = 0 then (if bt750.2 = 0 then ((isochroneref01_Cmp.f k t738 t741).bind fun t758 => (if bt744.1 = t758 then ((isochroneref01_Add.f k t738 t741).bind fun t759 => ((isochronelaw01_is.f k bt746.1 t759).bind fun t762 => (if t762 = true then ((isochroneref01_Mul.f k t738 t741).bind fun t763 => ((isochronelaw01_is.f k bt750.1 t763).bind fun t766 => (isochronelaw01_NatRing.j0 k t738 t741 bt744.1 bt754.1 bt754.2 (!t766)))) else (isochronelaw01_NatRing.j0 k t738 t741 bt744.1 bt754.1 bt754.2 true)))) else (isochronelaw01_NatRing.j0 k t738 t741 bt744.1 bt754.1 bt754.2 true))) else (isochronelaw01_NatRing.j0 k t738 t741 bt744.1 bt754.1 bt754.2 true)) else (isochronelaw01_NatRing.j0 k t738 t741 bt744.1 bt754.1 bt754.2 true)) else (isochronelaw01_NatRing.j0 k t738 t741 bt744.1 bt754.1 bt754.2 true)))))))) = some r := by rw [if_pos rfl] at H; exact H
   clear H
   have H := H1
   clear H1
   replace H := Option.bind_eq_some_iff.mp H
   obtain ⟨t738, A70, H⟩ := H
   replace H : ((isochroneref01_Of.f k l1).bind fun t741 => ((nat_Cmp.f k l0 l1).bind fun bt744 => ((nat_Add.f k l0 l1).bind fun bt746 => ((nat_Mul.f k l0 l1).bind fun bt750 => ((nat_Sub.f k l0 l1).bind fun bt754 => (if bt744.2 = 0 then (if bt746.2 = 0 then (if bt750.2 = 0 then ((isochroneref01_Cmp.f k t738 t741).bind fun t758 => (if bt744.1 = t758 then ((isochroneref01_Add.f k t738 t741).bind fun t759 => ((isochronelaw01_is.f k bt746.1 t759).bind fun t762 => (if t762 = true then ((isochroneref01_Mul.f k t738 t741).bind fun t763 => ((isochronelaw01_is.f k bt750.1 t763).bind fun t766 => (isochronelaw01_NatRing.j0 k t738 t741 bt744.1 bt754.1 bt754.2 (!t766)))) else (isochronelaw01_NatRing.j0 k t738 t741 bt744.1 bt754.1 bt754.2 true)))) else (isochronelaw01_NatRing.j0 k t738 t741 bt744.1 bt754.1 bt754.2 true))) else (isochronelaw01_NatRing.j0 k t738 t741 bt744.1 bt754.1 bt754.2 true)) else (isochronelaw01_NatRing.j0 k t738 t741 bt744.1 bt754.1 bt754.2 true)) else (isochronelaw01_NatRing.j0 k t738 t741 bt744.1 bt754.1 bt754.2 true))))))) = some r := H
   have A7 := Aside0.mk A70
   clear A70
   replace H := Option.bind_eq_some_iff.mp H
   obtain ⟨t741, A80, H⟩ := H
   replace H : ((nat_Cmp.f k l0 l1).bind fun bt744 => ((nat_Add.f k l0 l1).bind fun bt746 => ((nat_Mul.f k l0 l1).bind fun bt750 => ((nat_Sub.f k l0 l1).bind fun bt754 => (if bt744.2 = 0 then (if bt746.2 = 0 then (if bt750.2 = 0 then ((isochroneref01_Cmp.f k t738 t741).bind fun t758 => (if bt744.1 = t758 then ((isochroneref01_Add.f k t738 t741).bind fun t759 => ((isochronelaw01_is.f k bt746.1 t759).bind fun t762 => (if t762 = true then ((isochroneref01_Mul.f k t738 t741).bind fun t763 => ((isochronelaw01_is.f k bt750.1 t763).bind fun t766 => (isochronelaw01_NatRing.j0 k t738 t741 bt744.1 bt754.1 bt754.2 (!t766)))) else (isochronelaw01_NatRing.j0 k t738 t741 bt744.1 bt754.1 bt754.2 true)))) else (isochronelaw01_NatRing.j0 k t738 t741 bt744.1 bt754.1 bt754.2 true))) else (isochronelaw01_NatRing.j0 k t738 t741 bt744.1 bt754.1 bt754.2 true)) else (isochronelaw01_NatRing.j0 k t738 t741 bt744.1 bt754.1 bt754.2 true)) else (isochronelaw01_NatRing.j0 k t738 t741 bt744.1 bt754.1 bt754.2 true)))))) = some r := H
   have A8 := Aside0.mk A80
   clear A80
   replace H := Option.bind_eq_some_iff.mp H
   obtain ⟨⟨t744, t745⟩, A90, H⟩ := H
   replace H : ((nat_Add.f k l0 l1).bind fun bt746 => ((nat_Mul.f k l0 l1).bind fun bt750 => ((nat_Sub.f k l0 l1).bind fun bt754 => (if t745 = 0 then (if bt746.2 = 0 then (if bt750.2 = 0 then ((isochroneref01_Cmp.f k t738 t741).bind fun t758 => (if t744 = t758 then ((isochroneref01_Add.f k t738 t741).bind fun t759 => ((isochronelaw01_is.f k bt746.1 t759).bind fun t762 => (if t762 = true then ((isochroneref01_Mul.f k t738 t741).bind fun t763 => ((isochronelaw01_is.f k bt750.1 t763).bind fun t766 => (isochronelaw01_NatRing.j0 k t738 t741 t744 bt754.1 bt754.2 (!t766)))) else (isochronelaw01_NatRing.j0 k t738 t741 t744 bt754.1 bt754.2 true)))) else (isochronelaw01_NatRing.j0 k t738 t741 t744 bt754.1 bt754.2 true))) else (isochronelaw01_NatRing.j0 k t738 t741 t744 bt754.1 bt754.2 true)) else (isochronelaw01_NatRing.j0 k t738 t741 t744 bt754.1 bt754.2 true)) else (isochronelaw01_NatRing.j0 k t738 t741 t744 bt754.1 bt754.2 true))))) = some r := H
   have A9 := Aside0.mk A90
   clear A90
   replace H := Option.bind_eq_some_iff.mp H
   obtain ⟨⟨t746, t747⟩, A100, H⟩ := H
   replace H : ((nat_Mul.f k l0 l1).bind fun bt750 => ((nat_Sub.f k l0 l1).bind fun bt754 => (if t745 = 0 then (if t747 = 0 then (if bt750.2 = 0 then ((isochroneref01_Cmp.f k t738 t741).bind fun t758 => (if t744 = t758 then ((isochroneref01_Add.f k t738 t741).bind fun t759 => ((isochronelaw01_is.f k t746 t759).bind fun t762 => (if t762 = true then ((isochroneref01_Mul.f k t738 t741).bind fun t763 => ((isochronelaw01_is.f k bt750.1 t763).bind fun t766 => (isochronelaw01_NatRing.j0 k t738 t741 t744 bt754.1 bt754.2 (!t766)))) else (isochronelaw01_NatRing.j0 k t738 t741 t744 bt754.1 bt754.2 true)))) else (isochronelaw01_NatRing.j0 k t738 t741 t744 bt754.1 bt754.2 true))) else (isochronelaw01_NatRing.j0 k t738 t741 t744 bt754.1 bt754.2 true)) else (isochronelaw01_NatRing.j0 k t738 t741 t744 bt754.1 bt754.2 true)) else (isochronelaw01_NatRing.j0 k t738 t741 t744 bt754.1 bt754.2 true)))) = some r := H
   have A10 := Aside0.mk A100
   clear A100
   replace H := Option.bind_eq_some_iff.mp H
   obtain ⟨⟨t750, t751⟩, A110, H⟩ := H
   replace H : ((nat_Sub.f k l0 l1).bind fun bt754 => (if t745 = 0 then (if t747 = 0 then (if t751 = 0 then ((isochroneref01_Cmp.f k t738 t741).bind fun t758 => (if t744 = t758 then ((isochroneref01_Add.f k t738 t741).bind fun t759 => ((isochronelaw01_is.f k t746 t759).bind fun t762 => (if t762 = true then ((isochroneref01_Mul.f k t738 t741).bind fun t763 => ((isochronelaw01_is.f k t750 t763).bind fun t766 => (isochronelaw01_NatRing.j0 k t738 t741 t744 bt754.1 bt754.2 (!t766)))) else (isochronelaw01_NatRing.j0 k t738 t741 t744 bt754.1 bt754.2 true)))) else (isochronelaw01_NatRing.j0 k t738 t741 t744 bt754.1 bt754.2 true))) else (isochronelaw01_NatRing.j0 k t738 t741 t744 bt754.1 bt754.2 true)) else (isochronelaw01_NatRing.j0 k t738 t741 t744 bt754.1 bt754.2 true)) else (isochronelaw01_NatRing.j0 k t738 t741 t744 bt754.1 bt754.2 true))) = some r := H
   have A11 := Aside0.mk A110
   clear A110
   replace H := Option.bind_eq_some_iff.mp H
   obtain ⟨⟨t754, t755⟩, A120, H⟩ := H
   replace H : (if t745 = 0 then (if t747 = 0 then (if t751 = 0 then ((isochroneref01_Cmp.f k t738 t741).bind fun t758 => (if t744 = t758 then ((isochroneref01_Add.f k t738 t741).bind fun t759 => ((isochronelaw01_is.f k t746 t759).bind fun t762 => (if t762 = true then ((isochroneref01_Mul.f k t738 t741).bind fun t763 => ((isochronelaw01_is.f k t750 t763).bind fun t766 => (isochronelaw01_NatRing.j0 k t738 t741 t744 t754 t755 (!t766)))) else (isochronelaw01_NatRing.j0 k t738 t741 t744 t754 t755 true)))) else (isochronelaw01_NatRing.j0 k t738 t741 t744 t754 t755 true))) else (isochronelaw01_NatRing.j0 k t738 t741 t744 t754 t755 true)) else (isochronelaw01_NatRing.j0 k t738 t741 t744 t754 t755 true)) else (isochronelaw01_NatRing.j0 k t738 t741 t744 t754 t755 true)) = some r := H
   have A12 := Aside0.mk A120
   clear A120
   have HC13 := Aside0.mk H
   clear H
   go_enter Try.func7, Try.ntmps7
   go_upto_region 10 with (first | ((with_reducible refine gate_callee (f := 11) rfl ?_); refine goesL_ (some 15) rfl rfl Try.func11 (by kernel_rfl) rfl #[] rfl (by (try simp only [List.map_toArray, List.map_cons, List.map_nil]); first | done | rfl | (simp only [List.length_drop, List.length_take]; rfl)) ?_; (with_reducible refine (isochronelaw01_awake.calls k  true _ A3.out).mono ?_); rintro e w14 ⟨rfl, hb⟩; refine ⟨_, rfl, ?_⟩; have n0_ := Aside0.mk (below_step (bB) hb); clear HB; have HB := n0_; clear n0_; (try clear hb); (try clear hb2); (try clear hk); (try clear hi)) | ((with_reducible refine gate_callee (f := 12) rfl ?_); refine goesL_ (some 19) rfl rfl Try.func12 (by kernel_rfl) rfl #[.slice A0 l0.length c0, .slice A1 l1.length c1, .int .i64 40] rfl (by (try simp only [List.map_toArray, List.map_cons, List.map_nil]); first | done | rfl | (simp only [List.length_drop, List.length_take]; rfl)) ?_; (with_reducible refine (isochronelaw01_small.calls _ _ l0 _ _ l1 40 true _ ?side1 ?side2 ?side3 ?side4 A5.out).mono ?_); (case side1 => repeat (first | exact (Kd.C_below HR0.out HB.out) | (with_reducible refine Kd.C_alloc ?_ _) | (with_reducible refine Kd.C_drewN ?_ _) | (with_reducible refine Kd.C_drew ?_))); (case side2 => exact HC0.out); (case side3 => repeat (first | exact (Kd.C_below HR1.out HB.out) | (with_reducible refine Kd.C_alloc ?_ _) | (with_reducible refine Kd.C_drewN ?_ _) | (with_reducible refine Kd.C_drew ?_))); (case side4 => exact HC1.out); rintro e w' ⟨rfl, ⟨nd, rfl⟩⟩; refine ⟨_, rfl, ?_⟩) | ((with_reducible refine gate_callee (f := 15) rfl ?_); refine goesL_ (some 22) rfl rfl Try.func15 (by kernel_rfl) rfl #[.slice A0 l0.length c0] rfl (by (try simp only [List.map_toArray, List.map_cons, List.map_nil]); first | done | rfl | (simp only [List.length_drop, List.length_take]; rfl)) ?_; (with_reducible refine (isochroneref01_Of.calls k _ _ l0 t738 _ ?side1 ?side2 A7.out).mono ?_); (case side1 => repeat (first | exact (Kd.C_below HR0.out (bB)) | (with_reducible refine Kd.C_alloc ?_ _) | (with_reducible refine Kd.C_drewN ?_ _) | (with_reducible refine Kd.C_drew ?_))); (case side2 => exact HC0.out); rintro e w15 ⟨v739, rfl, ho0, hb⟩; refine ⟨_, rfl, ?_⟩; have n0_ := Aside0.mk (Kd.R_lower ho0 (below_size (bB))); have n1_ := Aside0.mk (below_step (bB) hb); clear HB; have HO740 := n0_; have HB := n1_; clear n0_ n1_; (try clear hb); (try clear hb2); (try clear hk); (try clear hi); (try clear ho0)) | ((with_reducible refine gate_callee (f := 15) rfl ?_); refine goesL_ (some 24) rfl rfl Try.func15 (by kernel_rfl) rfl #[.slice A1 l1.length c1] rfl (by (try simp only [List.map_toArray, List.map_cons, List.map_nil]); first | done | rfl | (simp only [List.length_drop, List.length_take]; rfl)) ?_; (with_reducible refine (isochroneref01_Of.calls k _ _ l1 t741 _ ?side1 ?side2 A8.out).mono ?_); (case side1 => repeat (first | exact (Kd.C_below HR1.out HB.out) | (with_reducible refine Kd.C_alloc ?_ _) | (with_reducible refine Kd.C_drewN ?_ _) | (with_reducible refine Kd.C_drew ?_))); (case side2 => exact HC1.out); rintro e w16 ⟨v742, rfl, ho0, hb⟩; refine ⟨_, rfl, ?_⟩; have n0_ := Aside0.mk (Kd.R_elder' (by (with_reducible repeat (first | apply Kd.R_alloc | apply Kd.R_drewN | apply Kd.R_drew)); exact HO740.out) (Kd.R_base ho0) hb); have n1_ := Aside0.mk (Kd.R_lower (Kd.R_new' ho0 (Kd.R_lt (by (with_reducible repeat (first | apply Kd.R_alloc | apply Kd.R_drewN | apply Kd.R_drew)); exact HO740.out))) (below_size (bB))); have n2_ := Aside0.mk (below_step (bB) hb); clear HO740; clear HB; have HO740 := n0_; have HO743 := n1_; have HB := n2_; clear n0_ n1_ n2_; (try clear hb); (try clear hb2); (try clear hk); (try clear hi); (try clear ho0)) | ((with_reducible refine gate_callee (f := 34) rfl ?_); refine goesL_ (some 28) rfl rfl Try.func34 (by kernel_rfl) rfl #[.slice A0 l0.length c0, .slice A1 l1.length c1] rfl (by (try simp only [List.map_toArray, List.map_cons, List.map_nil]); first | done | rfl | (simp only [List.length_drop, List.length_take]; rfl)) ?_; (with_reducible refine (nat_Cmp.calls k _ _ l0 _ _ l1 t744 t745 _ ?side1 ?side2 ?side3 ?side4 A9.out).mono ?_); (case side1 => repeat (first | exact (Kd.C_below HR0.out HB.out) | (with_reducible refine Kd.C_alloc ?_ _) | (with_reducible refine Kd.C_drewN ?_ _) | (with_reducible refine Kd.C_drew ?_))); (case side2 => exact HC0.out); (case side3 => repeat (first | exact (Kd.C_below HR1.out HB.out) | (with_reducible refine Kd.C_alloc ?_ _) | (with_reducible refine Kd.C_drewN ?_ _) | (with_reducible refine Kd.C_drew ?_))); (case side4 => exact HC1.out); rintro e w' ⟨rfl, ⟨nd, rfl⟩⟩; refine ⟨_, rfl, ?_⟩) | ((with_reducible refine gate_callee (f := 20) rfl ?_); refine goesL_ (some 34) rfl rfl Try.func20 (by kernel_rfl) rfl #[.slice A0 l0.length c0, .slice A1 l1.length c1] rfl (by (try simp only [List.map_toArray, List.map_cons, List.map_nil]); first | done | rfl | (simp only [List.length_drop, List.length_take]; rfl)) ?_; (with_reducible refine (nat_Add.calls k _ _ l0 _ _ l1 t746 t747 _ ?side1 ?side2 ?side3 ?side4 A10.out).mono ?_); (case side1 => repeat (first | exact (Kd.C_below HR0.out (bB)) | (with_reducible refine Kd.C_alloc ?_ _) | (with_reducible refine Kd.C_drewN ?_ _) | (with_reducible refine Kd.C_drew ?_))); (case side2 => exact HC0.out); (case side3 => repeat (first | exact (Kd.C_below HR1.out (bB)) | (with_reducible refine Kd.C_alloc ?_ _) | (with_reducible refine Kd.C_drewN ?_ _) | (with_reducible refine Kd.C_drew ?_))); (case side4 => exact HC1.out); rintro e w17 ⟨v748, rfl, ho0, hb⟩; refine ⟨_, rfl, ?_⟩; have n0_ := Aside0.mk (Kd.R_below (by (with_reducible repeat (first | apply Kd.R_alloc | apply Kd.R_drewN | apply Kd.R_drew)); exact HO740.out) hb); have n1_ := Aside0.mk (Kd.R_below (by (with_reducible repeat (first | apply Kd.R_alloc | apply Kd.R_drewN | apply Kd.R_drew)); exact HO743.out) hb); have n2_ := Aside0.mk (Kd.R_lower ho0 (below_size (bB))); have n3_ := Aside0.mk (below_step (bB) hb); clear HO740; clear HO743; clear HB; have HO740 := n0_; have HO743 := n1_; have HO749 := n2_; have HB := n3_; clear n0_ n1_ n2_ n3_; (try clear hb); (try clear hb2); (try clear hk); (try clear hi); (try clear ho0)) | ((with_reducible refine gate_callee (f := 21) rfl ?_); refine goesL_ (some 40) rfl rfl Try.func21 (by kernel_rfl) rfl #[.slice A0 l0.length c0, .slice A1 l1.length c1] rfl (by (try simp only [List.map_toArray, List.map_cons, List.map_nil]); first | done | rfl | (simp only [List.length_drop, List.length_take]; rfl)) ?_; (with_reducible refine (nat_Mul.calls k _ _ l0 _ _ l1 t750 t751 _ ?side1 ?side2 ?side3 ?side4 A11.out).mono ?_); (case side1 => repeat (first | exact (Kd.C_below HR0.out HB.out) | (with_reducible refine Kd.C_alloc ?_ _) | (with_reducible refine Kd.C_drewN ?_ _) | (with_reducible refine Kd.C_drew ?_))); (case side2 => exact HC0.out); (case side3 => repeat (first | exact (Kd.C_below HR1.out HB.out) | (with_reducible refine Kd.C_alloc ?_ _) | (with_reducible refine Kd.C_drewN ?_ _) | (with_reducible refine Kd.C_drew ?_))); (case side4 => exact HC1.out); rintro e w18 ⟨v752, rfl, ho0, hb⟩; refine ⟨_, rfl, ?_⟩; have n0_ := Aside0.mk (Kd.R_below (by (with_reducible repeat (first | apply Kd.R_alloc | apply Kd.R_drewN | apply Kd.R_drew)); exact HO740.out) hb); have n1_ := Aside0.mk (Kd.R_below (by (with_reducible repeat (first | apply Kd.R_alloc | apply Kd.R_drewN | apply Kd.R_drew)); exact HO743.out) hb); have n2_ := Aside0.mk (Kd.R_elder' (by (with_reducible repeat (first | apply Kd.R_alloc | apply Kd.R_drewN | apply Kd.R_drew)); exact HO749.out) (Kd.R_base ho0) hb); have n3_ := Aside0.mk (Kd.R_lower (Kd.R_new' ho0 (Kd.R_lt (by (with_reducible repeat (first | apply Kd.R_alloc | apply Kd.R_drewN | apply Kd.R_drew)); exact HO749.out))) (below_size (bB))); have n4_ := Aside0.mk (below_step (bB) hb); clear HO740; clear HO743; clear HO749; clear HB; have HO740 := n0_; have HO743 := n1_; have HO749 := n2_; have HO753 := n3_; have HB := n4_; clear n0_ n1_ n2_ n3_ n4_; (try clear hb); (try clear hb2); (try clear hk); (try clear hi); (try clear ho0)) | ((with_reducible refine gate_callee (f := 35) rfl ?_); refine goesL_ (some 46) rfl rfl Try.func35 (by kernel_rfl) rfl #[.slice A0 l0.length c0, .slice A1 l1.length c1] rfl (by (try simp only [List.map_toArray, List.map_cons, List.map_nil]); first | done | rfl | (simp only [List.length_drop, List.length_take]; rfl)) ?_; (with_reducible refine (nat_Sub.calls k _ _ l0 _ _ l1 t754 t755 _ ?side1 ?side2 ?side3 ?side4 A12.out).mono ?_); (case side1 => repeat (first | exact (Kd.C_below HR0.out HB.out) | (with_reducible refine Kd.C_alloc ?_ _) | (with_reducible refine Kd.C_drewN ?_ _) | (with_reducible refine Kd.C_drew ?_))); (case side2 => exact HC0.out); (case side3 => repeat (first | exact (Kd.C_below HR1.out HB.out) | (with_reducible refine Kd.C_alloc ?_ _) | (with_reducible refine Kd.C_drewN ?_ _) | (with_reducible refine Kd.C_drew ?_))); (case side4 => exact HC1.out); rintro e w19 ⟨v756, rfl, ho0, hb⟩; refine ⟨_, rfl, ?_⟩; have n0_ := Aside0.mk (Kd.R_below (by (with_reducible repeat (first | apply Kd.R_alloc | apply Kd.R_drewN | apply Kd.R_drew)); exact HO740.out) hb); have n1_ := Aside0.mk (Kd.R_below (by (with_reducible repeat (first | apply Kd.R_alloc | apply Kd.R_drewN | apply Kd.R_drew)); exact HO743.out) hb); have n2_ := Aside0.mk (Kd.R_elder' (by (with_reducible repeat (first | apply Kd.R_alloc | apply Kd.R_drewN | apply Kd.R_drew)); exact HO749.out) (Kd.R_base ho0) hb); have n3_ := Aside0.mk (Kd.R_elder' (by (with_reducible repeat (first | apply Kd.R_alloc | apply Kd.R_drewN | apply Kd.R_drew)); exact HO753.out) (Kd.R_base ho0) hb); have n4_ := Aside0.mk (Kd.R_lower (Kd.R_new' (Kd.R_new' ho0 (Kd.R_lt (by (with_reducible repeat (first | apply Kd.R_alloc | apply Kd.R_drewN | apply Kd.R_drew)); exact HO749.out))) (Kd.R_lt (by (with_reducible repeat (first | apply Kd.R_alloc | apply Kd.R_drewN | apply Kd.R_drew)); exact HO753.out))) (below_size (bB))); have n5_ := Aside0.mk (below_step (bB) hb); clear HO740; clear HO743; clear HO749; clear HO753; clear HB; have HO740 := n0_; have HO743 := n1_; have HO749 := n2_; have HO753 := n3_; have HO757 := n4_; have HB := n5_; clear n0_ n1_ n2_ n3_ n4_ n5_; (try clear hb); (try clear hb2); (try clear hk); (try clear hi); (try clear ho0)))
   (try simp only [Act.put, List.setIfInBounds_toArray, List.set_cons_zero, List.set_cons_succ])
   go_cut [81] (fun v81 wc => ∃ (kq : Nat) (x81_12 : Bool), v81 = .bool x81_12 ∧ Aside0 (isochronelaw01_NatRing.j0 kq t738 t741 t744 t754 t755 x81_12 = some r) ∧ Aside0 (kq ≤ k) ∧ Aside0 (Kd.R (Kd.int .i64) 3 wc w.heap.size (fun k_ => some k_ ≠ (v742 : Value).ownBlock) v739 t738) ∧ Aside0 (Kd.R (Kd.int .i64) 3 wc w.heap.size (fun k_ => some k_ ≠ (v739 : Value).ownBlock) v742 t741) ∧ Aside0 (Kd.R (Kd.int .u32) 36 wc w.heap.size (fun _ => True) v756 t754) ∧ Aside0 (Below w.heap.size w wc))
   case first =>
    have H := HC13.out
    clear HC13
    by_cases c20 : t745 = 0
    ·rw [if_pos c20] at H
     have c20b0 : (t745 == 0) = true := beq_iff_eq.mpr c20
     have c20b1 : (t745 != 0) = false := bne_eq_false_iff_eq.mpr c20
     clear c20
     (first | rw [c20b0] | (simp only [i64_w, i32_w]; rw [c20b0]) | rw [c20b1] | skip)
     by_cases c21 : t747 = 0
     ·rw [if_pos c21] at H
      have c21b0 : (t747 == 0) = true := beq_iff_eq.mpr c21
      have c21b1 : (t747 != 0) = false := bne_eq_false_iff_eq.mpr c21
      clear c21
      by_cases c22 : t751 = 0
      ·rw [if_pos c22] at H
       have c22b0 : (t751 == 0) = true := beq_iff_eq.mpr c22
       have c22b1 : (t751 != 0) = false := bne_eq_false_iff_eq.mpr c22
       clear c22
       replace H := Option.bind_eq_some_iff.mp H
       obtain ⟨t758, A230, H⟩ := H
       replace H : (if t744 = t758 then ((isochroneref01_Add.f k t738 t741).bind fun t759 => ((isochronelaw01_is.f k t746 t759).bind fun t762 => (if t762 = true then ((isochroneref01_Mul.f k t738 t741).bind fun t763 => ((isochronelaw01_is.f k t750 t763).bind fun t766 => (isochronelaw01_NatRing.j0 k t738 t741 t744 t754 t755 (!t766)))) else (isochronelaw01_NatRing.j0 k t738 t741 t744 t754 t755 true)))) else (isochronelaw01_NatRing.j0 k t738 t741 t744 t754 t755 true)) = some r := H
       have A23 := Aside0.mk A230
       clear A230
       by_cases c24 : t744 = t758
       ·rw [if_pos c24] at H
        have c24b0 : (t744 == t758) = true := beq_iff_eq.mpr c24
        have c24b1 : (t744 != t758) = false := bne_eq_false_iff_eq.mpr c24
        clear c24
        replace H := Option.bind_eq_some_iff.mp H
        obtain ⟨t759, A250, H⟩ := H
        replace H : ((isochronelaw01_is.f k t746 t759).bind fun t762 => (if t762 = true then ((isochroneref01_Mul.f k t738 t741).bind fun t763 => ((isochronelaw01_is.f k t750 t763).bind fun t766 => (isochronelaw01_NatRing.j0 k t738 t741 t744 t754 t755 (!t766)))) else (isochronelaw01_NatRing.j0 k t738 t741 t744 t754 t755 true))) = some r := H
        have A25 := Aside0.mk A250
        clear A250
        replace H := Option.bind_eq_some_iff.mp H
        obtain ⟨t762, A260, H⟩ := H
        replace H : (if t762 = true then ((isochroneref01_Mul.f k t738 t741).bind fun t763 => ((isochronelaw01_is.f k t750 t763).bind fun t766 => (isochronelaw01_NatRing.j0 k t738 t741 t744 t754 t755 (!t766)))) else (isochronelaw01_NatRing.j0 k t738 t741 t744 t754 t755 true)) = some r := H
        have A26 := Aside0.mk A260
        clear A260
        by_cases c27 : t762 = true
        ·subst c27
         have H1 : ((isochroneref01_Mul.f k t738 t741).bind fun t763 => ((isochronelaw01_is.f k t750 t763).bind fun t766 => (isochronelaw01_NatRing.j0 k t738 t741 t744 t754 t755 (!t766)))) = some r := by rw [if_pos rfl] at H; exact H
         clear H
         have H := H1
         clear H1
         replace H := Option.bind_eq_some_iff.mp H
         obtain ⟨t763, A280, H⟩ := H
         replace H : ((isochronelaw01_is.f k t750 t763).bind fun t766 => (isochronelaw01_NatRing.j0 k t738 t741 t744 t754 t755 (!t766))) = some r := H
         have A28 := Aside0.mk A280
         clear A280
         replace H := Option.bind_eq_some_iff.mp H
         obtain ⟨t766, A290, H⟩ := H
         replace H : (isochronelaw01_NatRing.j0 k t738 t741 t744 t754 t755 (!t766)) = some r := H
         have A29 := Aside0.mk A290
         clear A290
         have H' := Aside0.mk H
         clear H
         obtain ⟨Ao30, co30, eo30⟩ := Kd.R_slice HO740.out
         subst eo30
         obtain ⟨Ao31, co31, eo31⟩ := Kd.R_slice HO743.out
         subst eo31
         go_wp2_with (first | (go_at_call 18; (with_reducible refine (isochroneref01_Cmp.calls k _ _ t738 _ _ t741 t758 _ ?side1 ?side2 ?side3 ?side4 A23.out).mono ?_); (case side1 => repeat (first | exact (Kd.R_reads' HO740.out).2.2 | (with_reducible refine Kd.C_alloc ?_ _) | (with_reducible refine Kd.C_drewN ?_ _) | (with_reducible refine Kd.C_drew ?_))); (case side2 => exact (Kd.R_reads' HO740.out).2.1); (case side3 => repeat (first | exact (Kd.R_reads' HO743.out).2.2 | (with_reducible refine Kd.C_alloc ?_ _) | (with_reducible refine Kd.C_drewN ?_ _) | (with_reducible refine Kd.C_drew ?_))); (case side4 => exact (Kd.R_reads' HO743.out).2.1); rintro e w' ⟨rfl, ⟨nd, rfl⟩⟩) | (go_at_call 16; (with_reducible refine (isochroneref01_Add.calls k _ _ t738 _ _ t741 t759 _ ?side1 ?side2 ?side3 ?side4 A25.out).mono ?_); (case side1 => repeat (first | exact (Kd.R_reads' HO740.out).2.2 | (with_reducible refine Kd.C_alloc ?_ _) | (with_reducible refine Kd.C_drewN ?_ _) | (with_reducible refine Kd.C_drew ?_))); (case side2 => exact (Kd.R_reads' HO740.out).2.1); (case side3 => repeat (first | exact (Kd.R_reads' HO743.out).2.2 | (with_reducible refine Kd.C_alloc ?_ _) | (with_reducible refine Kd.C_drewN ?_ _) | (with_reducible refine Kd.C_drew ?_))); (case side4 => exact (Kd.R_reads' HO743.out).2.1); rintro e w32 ⟨v760, rfl, ho0, hb⟩; have n0_ := Aside0.mk (Kd.R_elder' (by (with_reducible repeat (first | apply Kd.R_alloc | apply Kd.R_drewN | apply Kd.R_drew)); exact HO740.out) (Kd.R_base ho0) hb); have n1_ := Aside0.mk (Kd.R_elder' (by (with_reducible repeat (first | apply Kd.R_alloc | apply Kd.R_drewN | apply Kd.R_drew)); exact HO743.out) (Kd.R_base ho0) hb); have n2_ := Aside0.mk (Kd.R_below (by (with_reducible repeat (first | apply Kd.R_alloc | apply Kd.R_drewN | apply Kd.R_drew)); exact HO749.out) hb); have n3_ := Aside0.mk (Kd.R_below (by (with_reducible repeat (first | apply Kd.R_alloc | apply Kd.R_drewN | apply Kd.R_drew)); exact HO753.out) hb); have n4_ := Aside0.mk (Kd.R_below (by (with_reducible repeat (first | apply Kd.R_alloc | apply Kd.R_drewN | apply Kd.R_drew)); exact HO757.out) hb); have n5_ := Aside0.mk (Kd.R_lower (Kd.R_new' (Kd.R_new' ho0 (Kd.R_lt (by (with_reducible repeat (first | apply Kd.R_alloc | apply Kd.R_drewN | apply Kd.R_drew)); exact HO740.out))) (Kd.R_lt (by (with_reducible repeat (first | apply Kd.R_alloc | apply Kd.R_drewN | apply Kd.R_drew)); exact HO743.out))) (below_size (bB))); have n6_ := Aside0.mk (below_step (bB) hb); clear HO740; clear HO743; clear HO749; clear HO753; clear HO757; clear HB; have HO740 := n0_; have HO743 := n1_; have HO749 := n2_; have HO753 := n3_; have HO757 := n4_; have HO761 := n5_; have HB := n6_; clear n0_ n1_ n2_ n3_ n4_ n5_ n6_; (try clear hb); (try clear hb2); (try clear hk); (try clear hi); (try clear ho0); obtain ⟨Ao33, co33, eo33⟩ := Kd.R_slice HO749.out; subst eo33; obtain ⟨Ao34, co34, eo34⟩ := Kd.R_slice HO761.out; subst eo34) | (go_at_call 25; (with_reducible refine (isochronelaw01_is.calls k _ _ t746 _ _ t759 true _ ?side1 ?side2 ?side3 ?side4 A26.out).mono ?_); (case side1 => repeat (first | exact (Kd.R_reads' HO749.out).2.2 | (with_reducible refine Kd.C_alloc ?_ _) | (with_reducible refine Kd.C_drewN ?_ _) | (with_reducible refine Kd.C_drew ?_))); (case side2 => exact (Kd.R_reads' HO749.out).2.1); (case side3 => repeat (first | exact (Kd.R_reads' HO761.out).2.2 | (with_reducible refine Kd.C_alloc ?_ _) | (with_reducible refine Kd.C_drewN ?_ _) | (with_reducible refine Kd.C_drew ?_))); (case side4 => exact (Kd.R_reads' HO761.out).2.1); rintro e w35 ⟨rfl, hb⟩; have n0_ := Aside0.mk (Kd.R_below (by (with_reducible repeat (first | apply Kd.R_alloc | apply Kd.R_drewN | apply Kd.R_drew)); exact HO740.out) hb); have n1_ := Aside0.mk (Kd.R_below (by (with_reducible repeat (first | apply Kd.R_alloc | apply Kd.R_drewN | apply Kd.R_drew)); exact HO743.out) hb); have n2_ := Aside0.mk (Kd.R_below (by (with_reducible repeat (first | apply Kd.R_alloc | apply Kd.R_drewN | apply Kd.R_drew)); exact HO749.out) hb); have n3_ := Aside0.mk (Kd.R_below (by (with_reducible repeat (first | apply Kd.R_alloc | apply Kd.R_drewN | apply Kd.R_drew)); exact HO753.out) hb); have n4_ := Aside0.mk (Kd.R_below (by (with_reducible repeat (first | apply Kd.R_alloc | apply Kd.R_drewN | apply Kd.R_drew)); exact HO757.out) hb); have n5_ := Aside0.mk (Kd.R_below (by (with_reducible repeat (first | apply Kd.R_alloc | apply Kd.R_drewN | apply Kd.R_drew)); exact HO761.out) hb); have n6_ := Aside0.mk (below_step (bB) hb); clear HO740; clear HO743; clear HO749; clear HO753; clear HO757; clear HO761; clear HB; have HO740 := n0_; have HO743 := n1_; have HO749 := n2_; have HO753 := n3_; have HO757 := n4_; have HO761 := n5_; have HB := n6_; clear n0_ n1_ n2_ n3_ n4_ n5_ n6_; (try clear hb); (try clear hb2); (try clear hk); (try clear hi)) | (go_at_call 19; (with_reducible refine (isochroneref01_Mul.calls k _ _ t738 _ _ t741 t763 _ ?side1 ?side2 ?side3 ?side4 A28.out).mono ?_); (case side1 => repeat (first | exact (Kd.R_reads' HO740.out).2.2 | (with_reducible refine Kd.C_alloc ?_ _) | (with_reducible refine Kd.C_drewN ?_ _) | (with_reducible refine Kd.C_drew ?_))); (case side2 => exact (Kd.R_reads' HO740.out).2.1); (case side3 => repeat (first | exact (Kd.R_reads' HO743.out).2.2 | (with_reducible refine Kd.C_alloc ?_ _) | (with_reducible refine Kd.C_drewN ?_ _) | (with_reducible refine Kd.C_drew ?_))); (case side4 => exact (Kd.R_reads' HO743.out).2.1); rintro e w36 ⟨v764, rfl, ho0, hb⟩; have n0_ := Aside0.mk (Kd.R_elder' (by (with_reducible repeat (first | apply Kd.R_alloc | apply Kd.R_drewN | apply Kd.R_drew)); exact HO740.out) (Kd.R_base ho0) hb); have n1_ := Aside0.mk (Kd.R_elder' (by (with_reducible repeat (first | apply Kd.R_alloc | apply Kd.R_drewN | apply Kd.R_drew)); exact HO743.out) (Kd.R_base ho0) hb); have n2_ := Aside0.mk (Kd.R_below (by (with_reducible repeat (first | apply Kd.R_alloc | apply Kd.R_drewN | apply Kd.R_drew)); exact HO749.out) hb); have n3_ := Aside0.mk (Kd.R_below (by (with_reducible repeat (first | apply Kd.R_alloc | apply Kd.R_drewN | apply Kd.R_drew)); exact HO753.out) hb); have n4_ := Aside0.mk (Kd.R_below (by (with_reducible repeat (first | apply Kd.R_alloc | apply Kd.R_drewN | apply Kd.R_drew)); exact HO757.out) hb); have n5_ := Aside0.mk (Kd.R_elder' (by (with_reducible repeat (first | apply Kd.R_alloc | apply Kd.R_drewN | apply Kd.R_drew)); exact HO761.out) (Kd.R_base ho0) hb); have n6_ := Aside0.mk (Kd.R_lower (Kd.R_new' (Kd.R_new' (Kd.R_new' ho0 (Kd.R_lt (by (with_reducible repeat (first | apply Kd.R_alloc | apply Kd.R_drewN | apply Kd.R_drew)); exact HO740.out))) (Kd.R_lt (by (with_reducible repeat (first | apply Kd.R_alloc | apply Kd.R_drewN | apply Kd.R_drew)); exact HO743.out))) (Kd.R_lt (by (with_reducible repeat (first | apply Kd.R_alloc | apply Kd.R_drewN | apply Kd.R_drew)); exact HO761.out))) (below_size (bB))); have n7_ := Aside0.mk (below_step (bB) hb); clear HO740; clear HO743; clear HO749; clear HO753; clear HO757; clear HO761; clear HB; have HO740 := n0_; have HO743 := n1_; have HO749 := n2_; have HO753 := n3_; have HO757 := n4_; have HO761 := n5_; have HO765 := n6_; have HB := n7_; clear n0_ n1_ n2_ n3_ n4_ n5_ n6_ n7_; (try clear hb); (try clear hb2); (try clear hk); (try clear hi); (try clear ho0); obtain ⟨Ao37, co37, eo37⟩ := Kd.R_slice HO753.out; subst eo37; obtain ⟨Ao38, co38, eo38⟩ := Kd.R_slice HO765.out; subst eo38) | (go_at_call 25; (with_reducible refine (isochronelaw01_is.calls k _ _ t750 _ _ t763 t766 _ ?side1 ?side2 ?side3 ?side4 A29.out).mono ?_); (case side1 => repeat (first | exact (Kd.R_reads' HO753.out).2.2 | (with_reducible refine Kd.C_alloc ?_ _) | (with_reducible refine Kd.C_drewN ?_ _) | (with_reducible refine Kd.C_drew ?_))); (case side2 => exact (Kd.R_reads' HO753.out).2.1); (case side3 => repeat (first | exact (Kd.R_reads' HO765.out).2.2 | (with_reducible refine Kd.C_alloc ?_ _) | (with_reducible refine Kd.C_drewN ?_ _) | (with_reducible refine Kd.C_drew ?_))); (case side4 => exact (Kd.R_reads' HO765.out).2.1); rintro e w39 ⟨rfl, hb⟩; have n0_ := Aside0.mk (Kd.R_below (by (with_reducible repeat (first | apply Kd.R_alloc | apply Kd.R_drewN | apply Kd.R_drew)); exact HO740.out) hb); have n1_ := Aside0.mk (Kd.R_below (by (with_reducible repeat (first | apply Kd.R_alloc | apply Kd.R_drewN | apply Kd.R_drew)); exact HO743.out) hb); have n2_ := Aside0.mk (Kd.R_below (by (with_reducible repeat (first | apply Kd.R_alloc | apply Kd.R_drewN | apply Kd.R_drew)); exact HO749.out) hb); have n3_ := Aside0.mk (Kd.R_below (by (with_reducible repeat (first | apply Kd.R_alloc | apply Kd.R_drewN | apply Kd.R_drew)); exact HO753.out) hb); have n4_ := Aside0.mk (Kd.R_below (by (with_reducible repeat (first | apply Kd.R_alloc | apply Kd.R_drewN | apply Kd.R_drew)); exact HO757.out) hb); have n5_ := Aside0.mk (Kd.R_below (by (with_reducible repeat (first | apply Kd.R_alloc | apply Kd.R_drewN | apply Kd.R_drew)); exact HO761.out) hb); have n6_ := Aside0.mk (Kd.R_below (by (with_reducible repeat (first | apply Kd.R_alloc | apply Kd.R_drewN | apply Kd.R_drew)); exact HO765.out) hb); have n7_ := Aside0.mk (below_step (bB) hb); clear HO740; clear HO743; clear HO749; clear HO753; clear HO757; clear HO761; clear HO765; clear HB; have HO740 := n0_; have HO743 := n1_; have HO749 := n2_; have HO753 := n3_; have HO757 := n4_; have HO761 := n5_; have HO765 := n6_; have HB := n7_; clear n0_ n1_ n2_ n3_ n4_ n5_ n6_ n7_; (try clear hb); (try clear hb2); (try clear hk); (try clear hi)))
         go_meet
         case rel => exact ⟨_, (!t766), (by first | rfl | (simp; done) | (simp [*]; done)), H', ⟨by first | omega | exact Nat.le_refl _⟩, ⟨by (with_reducible repeat (first | apply Kd.R_alloc | apply Kd.R_drewN | apply Kd.R_drew)); exact Kd.R_mono HO740.out (fun _ hk => hk.1.1.2)⟩, ⟨by (with_reducible repeat (first | apply Kd.R_alloc | apply Kd.R_drewN | apply Kd.R_drew)); exact Kd.R_mono HO743.out (fun _ hk => hk.1.1.2)⟩, ⟨by (with_reducible repeat (first | apply Kd.R_alloc | apply Kd.R_drewN | apply Kd.R_drew)); exact Kd.R_mono HO757.out (fun _ hk => trivial)⟩, ⟨by repeat (first | (with_reducible first | exact HB.out | apply below_alloc | apply pw_below_drewN | apply below_drew1) | exact HB.out)⟩⟩
        ·replace c27 := Bool.eq_false_iff.mpr c27
         subst c27
         have H1 : (isochronelaw01_NatRing.j0 k t738 t741 t744 t754 t755 true) = some r := by rw [if_neg (show ¬ (false = true) by decide)] at H; exact H
         clear H
         have H := H1
         clear H1
         have H' := Aside0.mk H
         clear H
         obtain ⟨Ao40, co40, eo40⟩ := Kd.R_slice HO740.out
         subst eo40
         obtain ⟨Ao41, co41, eo41⟩ := Kd.R_slice HO743.out
         subst eo41
         go_wp2_with (first | (go_at_call 18; (with_reducible refine (isochroneref01_Cmp.calls k _ _ t738 _ _ t741 t758 _ ?side1 ?side2 ?side3 ?side4 A23.out).mono ?_); (case side1 => repeat (first | exact (Kd.R_reads' HO740.out).2.2 | (with_reducible refine Kd.C_alloc ?_ _) | (with_reducible refine Kd.C_drewN ?_ _) | (with_reducible refine Kd.C_drew ?_))); (case side2 => exact (Kd.R_reads' HO740.out).2.1); (case side3 => repeat (first | exact (Kd.R_reads' HO743.out).2.2 | (with_reducible refine Kd.C_alloc ?_ _) | (with_reducible refine Kd.C_drewN ?_ _) | (with_reducible refine Kd.C_drew ?_))); (case side4 => exact (Kd.R_reads' HO743.out).2.1); rintro e w' ⟨rfl, ⟨nd, rfl⟩⟩) | (go_at_call 16; (with_reducible refine (isochroneref01_Add.calls k _ _ t738 _ _ t741 t759 _ ?side1 ?side2 ?side3 ?side4 A25.out).mono ?_); (case side1 => repeat (first | exact (Kd.R_reads' HO740.out).2.2 | (with_reducible refine Kd.C_alloc ?_ _) | (with_reducible refine Kd.C_drewN ?_ _) | (with_reducible refine Kd.C_drew ?_))); (case side2 => exact (Kd.R_reads' HO740.out).2.1); (case side3 => repeat (first | exact (Kd.R_reads' HO743.out).2.2 | (with_reducible refine Kd.C_alloc ?_ _) | (with_reducible refine Kd.C_drewN ?_ _) | (with_reducible refine Kd.C_drew ?_))); (case side4 => exact (Kd.R_reads' HO743.out).2.1); rintro e w42 ⟨v760, rfl, ho0, hb⟩; have n0_ := Aside0.mk (Kd.R_elder' (by (with_reducible repeat (first | apply Kd.R_alloc | apply Kd.R_drewN | apply Kd.R_drew)); exact HO740.out) (Kd.R_base ho0) hb); have n1_ := Aside0.mk (Kd.R_elder' (by (with_reducible repeat (first | apply Kd.R_alloc | apply Kd.R_drewN | apply Kd.R_drew)); exact HO743.out) (Kd.R_base ho0) hb); have n2_ := Aside0.mk (Kd.R_below (by (with_reducible repeat (first | apply Kd.R_alloc | apply Kd.R_drewN | apply Kd.R_drew)); exact HO749.out) hb); have n3_ := Aside0.mk (Kd.R_below (by (with_reducible repeat (first | apply Kd.R_alloc | apply Kd.R_drewN | apply Kd.R_drew)); exact HO753.out) hb); have n4_ := Aside0.mk (Kd.R_below (by (with_reducible repeat (first | apply Kd.R_alloc | apply Kd.R_drewN | apply Kd.R_drew)); exact HO757.out) hb); have n5_ := Aside0.mk (Kd.R_lower (Kd.R_new' (Kd.R_new' ho0 (Kd.R_lt (by (with_reducible repeat (first | apply Kd.R_alloc | apply Kd.R_drewN | apply Kd.R_drew)); exact HO740.out))) (Kd.R_lt (by (with_reducible repeat (first | apply Kd.R_alloc | apply Kd.R_drewN | apply Kd.R_drew)); exact HO743.out))) (below_size (bB))); have n6_ := Aside0.mk (below_step (bB) hb); clear HO740; clear HO743; clear HO749; clear HO753; clear HO757; clear HB; have HO740 := n0_; have HO743 := n1_; have HO749 := n2_; have HO753 := n3_; have HO757 := n4_; have HO761 := n5_; have HB := n6_; clear n0_ n1_ n2_ n3_ n4_ n5_ n6_; (try clear hb); (try clear hb2); (try clear hk); (try clear hi); (try clear ho0); obtain ⟨Ao43, co43, eo43⟩ := Kd.R_slice HO749.out; subst eo43; obtain ⟨Ao44, co44, eo44⟩ := Kd.R_slice HO761.out; subst eo44) | (go_at_call 25; (with_reducible refine (isochronelaw01_is.calls k _ _ t746 _ _ t759 false _ ?side1 ?side2 ?side3 ?side4 A26.out).mono ?_); (case side1 => repeat (first | exact (Kd.R_reads' HO749.out).2.2 | (with_reducible refine Kd.C_alloc ?_ _) | (with_reducible refine Kd.C_drewN ?_ _) | (with_reducible refine Kd.C_drew ?_))); (case side2 => exact (Kd.R_reads' HO749.out).2.1); (case side3 => repeat (first | exact (Kd.R_reads' HO761.out).2.2 | (with_reducible refine Kd.C_alloc ?_ _) | (with_reducible refine Kd.C_drewN ?_ _) | (with_reducible refine Kd.C_drew ?_))); (case side4 => exact (Kd.R_reads' HO761.out).2.1); rintro e w45 ⟨rfl, hb⟩; have n0_ := Aside0.mk (Kd.R_below (by (with_reducible repeat (first | apply Kd.R_alloc | apply Kd.R_drewN | apply Kd.R_drew)); exact HO740.out) hb); have n1_ := Aside0.mk (Kd.R_below (by (with_reducible repeat (first | apply Kd.R_alloc | apply Kd.R_drewN | apply Kd.R_drew)); exact HO743.out) hb); have n2_ := Aside0.mk (Kd.R_below (by (with_reducible repeat (first | apply Kd.R_alloc | apply Kd.R_drewN | apply Kd.R_drew)); exact HO749.out) hb); have n3_ := Aside0.mk (Kd.R_below (by (with_reducible repeat (first | apply Kd.R_alloc | apply Kd.R_drewN | apply Kd.R_drew)); exact HO753.out) hb); have n4_ := Aside0.mk (Kd.R_below (by (with_reducible repeat (first | apply Kd.R_alloc | apply Kd.R_drewN | apply Kd.R_drew)); exact HO757.out) hb); have n5_ := Aside0.mk (Kd.R_below (by (with_reducible repeat (first | apply Kd.R_alloc | apply Kd.R_drewN | apply Kd.R_drew)); exact HO761.out) hb); have n6_ := Aside0.mk (below_step (bB) hb); clear HO740; clear HO743; clear HO749; clear HO753; clear HO757; clear HO761; clear HB; have HO740 := n0_; have HO743 := n1_; have HO749 := n2_; have HO753 := n3_; have HO757 := n4_; have HO761 := n5_; have HB := n6_; clear n0_ n1_ n2_ n3_ n4_ n5_ n6_; (try clear hb); (try clear hb2); (try clear hk); (try clear hi)))
         go_meet
         case rel => exact ⟨_, (true), (by first | rfl | (simp; done) | (simp [*]; done)), H', ⟨by first | omega | exact Nat.le_refl _⟩, ⟨by (with_reducible repeat (first | apply Kd.R_alloc | apply Kd.R_drewN | apply Kd.R_drew)); exact Kd.R_mono HO740.out (fun _ hk => hk.1.2)⟩, ⟨by (with_reducible repeat (first | apply Kd.R_alloc | apply Kd.R_drewN | apply Kd.R_drew)); exact Kd.R_mono HO743.out (fun _ hk => hk.1.2)⟩, ⟨by (with_reducible repeat (first | apply Kd.R_alloc | apply Kd.R_drewN | apply Kd.R_drew)); exact Kd.R_mono HO757.out (fun _ hk => trivial)⟩, ⟨by repeat (first | (with_reducible first | exact HB.out | apply below_alloc | apply pw_below_drewN | apply below_drew1) | exact HB.out)⟩⟩
       ·rw [if_neg c24] at H
        have c24b0 : (t744 == t758) = false := beq_eq_false_iff_ne.mpr c24
        have c24b1 : (t744 != t758) = true := bne_iff_ne.mpr c24
        have H' := Aside0.mk H
        clear H
        obtain ⟨Ao46, co46, eo46⟩ := Kd.R_slice HO740.out
        subst eo46
        obtain ⟨Ao47, co47, eo47⟩ := Kd.R_slice HO743.out
        subst eo47
        go_wp2_with (first | (go_at_call 18; (with_reducible refine (isochroneref01_Cmp.calls k _ _ t738 _ _ t741 t758 _ ?side1 ?side2 ?side3 ?side4 A23.out).mono ?_); (case side1 => repeat (first | exact (Kd.R_reads' HO740.out).2.2 | (with_reducible refine Kd.C_alloc ?_ _) | (with_reducible refine Kd.C_drewN ?_ _) | (with_reducible refine Kd.C_drew ?_))); (case side2 => exact (Kd.R_reads' HO740.out).2.1); (case side3 => repeat (first | exact (Kd.R_reads' HO743.out).2.2 | (with_reducible refine Kd.C_alloc ?_ _) | (with_reducible refine Kd.C_drewN ?_ _) | (with_reducible refine Kd.C_drew ?_))); (case side4 => exact (Kd.R_reads' HO743.out).2.1); rintro e w' ⟨rfl, ⟨nd, rfl⟩⟩))
        go_meet
        case rel => exact ⟨_, (true), (by first | rfl | (simp; done) | (simp [*]; done)), H', ⟨by first | omega | exact Nat.le_refl _⟩, ⟨by (with_reducible repeat (first | apply Kd.R_alloc | apply Kd.R_drewN | apply Kd.R_drew)); exact Kd.R_mono HO740.out (fun _ hk => hk.2)⟩, ⟨by (with_reducible repeat (first | apply Kd.R_alloc | apply Kd.R_drewN | apply Kd.R_drew)); exact Kd.R_mono HO743.out (fun _ hk => hk.2)⟩, ⟨by (with_reducible repeat (first | apply Kd.R_alloc | apply Kd.R_drewN | apply Kd.R_drew)); exact Kd.R_mono HO757.out (fun _ hk => trivial)⟩, ⟨by repeat (first | (with_reducible first | exact HB.out | apply below_alloc | apply pw_below_drewN | apply below_drew1) | exact HB.out)⟩⟩
      ·rw [if_neg c22] at H
       have c22b0 : (t751 == 0) = false := beq_eq_false_iff_ne.mpr c22
       have c22b1 : (t751 != 0) = true := bne_iff_ne.mpr c22
       have H' := Aside0.mk H
       clear H
       go_wp2
       go_meet
       case rel => exact ⟨_, (true), (by first | rfl | (simp; done) | (simp [*]; done)), H', ⟨by first | omega | exact Nat.le_refl _⟩, ⟨by (with_reducible repeat (first | apply Kd.R_alloc | apply Kd.R_drewN | apply Kd.R_drew)); exact Kd.R_mono HO740.out (fun _ hk => hk.2)⟩, ⟨by (with_reducible repeat (first | apply Kd.R_alloc | apply Kd.R_drewN | apply Kd.R_drew)); exact Kd.R_mono HO743.out (fun _ hk => hk.2)⟩, ⟨by (with_reducible repeat (first | apply Kd.R_alloc | apply Kd.R_drewN | apply Kd.R_drew)); exact Kd.R_mono HO757.out (fun _ hk => trivial)⟩, ⟨by repeat (first | (with_reducible first | exact HB.out | apply below_alloc | apply pw_below_drewN | apply below_drew1) | exact HB.out)⟩⟩
     ·rw [if_neg c21] at H
      have c21b0 : (t747 == 0) = false := beq_eq_false_iff_ne.mpr c21
      have c21b1 : (t747 != 0) = true := bne_iff_ne.mpr c21
      have H' := Aside0.mk H
      clear H
      go_wp2
      go_meet
      case rel => exact ⟨_, (true), (by first | rfl | (simp; done) | (simp [*]; done)), H', ⟨by first | omega | exact Nat.le_refl _⟩, ⟨by (with_reducible repeat (first | apply Kd.R_alloc | apply Kd.R_drewN | apply Kd.R_drew)); exact Kd.R_mono HO740.out (fun _ hk => hk.2)⟩, ⟨by (with_reducible repeat (first | apply Kd.R_alloc | apply Kd.R_drewN | apply Kd.R_drew)); exact Kd.R_mono HO743.out (fun _ hk => hk.2)⟩, ⟨by (with_reducible repeat (first | apply Kd.R_alloc | apply Kd.R_drewN | apply Kd.R_drew)); exact Kd.R_mono HO757.out (fun _ hk => trivial)⟩, ⟨by repeat (first | (with_reducible first | exact HB.out | apply below_alloc | apply pw_below_drewN | apply below_drew1) | exact HB.out)⟩⟩
    ·rw [if_neg c20] at H
     have c20b0 : (t745 == 0) = false := beq_eq_false_iff_ne.mpr c20
     have c20b1 : (t745 != 0) = true := bne_iff_ne.mpr c20
     (first | rw [c20b0] | (simp only [i64_w, i32_w]; rw [c20b0]) | rw [c20b1] | skip)
     have H' := Aside0.mk H
     clear H
     go_wp2
     go_meet
     case rel => exact ⟨_, (true), (by first | rfl | (simp; done) | (simp [*]; done)), H', ⟨by first | omega | exact Nat.le_refl _⟩, ⟨by (with_reducible repeat (first | apply Kd.R_alloc | apply Kd.R_drewN | apply Kd.R_drew)); exact Kd.R_mono HO740.out (fun _ hk => hk.2)⟩, ⟨by (with_reducible repeat (first | apply Kd.R_alloc | apply Kd.R_drewN | apply Kd.R_drew)); exact Kd.R_mono HO743.out (fun _ hk => hk.2)⟩, ⟨by (with_reducible repeat (first | apply Kd.R_alloc | apply Kd.R_drewN | apply Kd.R_drew)); exact Kd.R_mono HO757.out (fun _ hk => trivial)⟩, ⟨by repeat (first | (with_reducible first | exact HB.out | apply below_alloc | apply pw_below_drewN | apply below_drew1) | exact HB.out)⟩⟩
   case rest =>
    clear HC13
    try clear c1
    try clear c2
    try clear p2
    try clear c3
    try clear c4
    try clear c6
    try clear c7
    try clear c11
    try clear c12
    try clear c15
    try clear c20
    try clear c20b0
    try clear c20b1
    try clear c21
    try clear c21b0
    try clear c21b1
    try clear c22
    try clear c22b0
    try clear c22b1
    try clear c24
    try clear c24b0
    try clear c24b1
    try clear c27
    try clear c34
    try clear c35
    obtain ⟨kq, x81_12, rfl, HA, HJ12, HO_5, HO_6, HO_13, HB⟩ := hcut
    cases kq with
    | zero => exact absurd HA.out (by simp [isochronelaw01_NatRing.j0])
    | succ kj12 =>
     have H := HA.out
     clear HA
     simp only [isochronelaw01_NatRing.j0] at H
     by_cases c48 : x81_12 = true
     ·subst c48
      have H1 : (some false) = some r := by rw [if_pos rfl] at H; exact H
      clear H
      have H := H1
      clear H1
      obtain rfl := Option.some.inj H
      go_wp2
      go_ret
      exact ⟨by first | rfl | (simp [errW_none, errW_some] <;> rfl) | (simp [*, errW_none, errW_some] <;> rfl), by repeat (first | (with_reducible first | exact HB.out | apply below_alloc | apply pw_below_drewN | apply below_drew1) | exact HB.out)⟩
     ·replace c48 := Bool.eq_false_iff.mpr c48
      subst c48
      have H1 : (if t744 < 0 then (if t755 = 1 then (some ((t754.length : Int) == 0)) else (some false)) else (if t755 = 0 then ((isochroneref01_Sub.f kj12 t738 t741).bind fun t767 => ((isochronelaw01_is.f kj12 t754 t767).bind fun t770 => (some t770))) else (some false))) = some r := by rw [if_neg (show ¬ (false = true) by decide)] at H; exact H
      clear H
      have H := H1
      clear H1
      by_cases c49 : t744 < 0
      ·rw [if_pos c49] at H
       have c49b0 : decide (t744 < 0) = true := decide_eq_true c49
       clear c49
       by_cases c50 : t755 = 1
       ·rw [if_pos c50] at H
        have c50b0 : (t755 == 1) = true := beq_iff_eq.mpr c50
        have c50b1 : (t755 != 1) = false := bne_eq_false_iff_eq.mpr c50
        clear c50
        obtain rfl := Option.some.inj H
        obtain ⟨Ao51, co51, eo51⟩ := Kd.R_slice HO_13.out
        subst eo51
        go_wp2
        go_ret
        exact ⟨by first | rfl | (simp [errW_none, errW_some] <;> rfl) | (simp [*, errW_none, errW_some] <;> rfl), by repeat (first | (with_reducible first | exact HB.out | apply below_alloc | apply pw_below_drewN | apply below_drew1) | exact HB.out)⟩
       ·rw [if_neg c50] at H
        have c50b0 : (t755 == 1) = false := beq_eq_false_iff_ne.mpr c50
        have c50b1 : (t755 != 1) = true := bne_iff_ne.mpr c50
        obtain rfl := Option.some.inj H
        go_wp2
        go_ret
        exact ⟨by first | rfl | (simp [errW_none, errW_some] <;> rfl) | (simp [*, errW_none, errW_some] <;> rfl), by repeat (first | (with_reducible first | exact HB.out | apply below_alloc | apply pw_below_drewN | apply below_drew1) | exact HB.out)⟩
      ·rw [if_neg c49] at H
       have c49b0 : decide (t744 < 0) = false := decide_eq_false c49
       clear c49
       by_cases c52 : t755 = 0
       ·rw [if_pos c52] at H
        have c52b0 : (t755 == 0) = true := beq_iff_eq.mpr c52
        have c52b1 : (t755 != 0) = false := bne_eq_false_iff_eq.mpr c52
        clear c52
        replace H := Option.bind_eq_some_iff.mp H
        obtain ⟨t767, A530, H⟩ := H
        replace H : ((isochronelaw01_is.f kj12 t754 t767).bind fun t770 => (some t770)) = some r := H
        have A53 := Aside0.mk A530
        clear A530
        replace H := Option.bind_eq_some_iff.mp H
        obtain ⟨t770, A540, H⟩ := H
        replace H : (some t770) = some r := H
        have A54 := Aside0.mk A540
        clear A540
        obtain rfl := Option.some.inj H
        obtain ⟨Ao55, co55, eo55⟩ := Kd.R_slice HO_5.out
        subst eo55
        obtain ⟨Ao56, co56, eo56⟩ := Kd.R_slice HO_6.out
        subst eo56
        go_wp2_with (first | (go_at_call 36; (with_reducible refine (isochroneref01_Sub.calls kj12 _ _ t738 _ _ t741 t767 _ ?side1 ?side2 ?side3 ?side4 A53.out).mono ?_); (case side1 => repeat (first | exact (Kd.R_reads' HO_5.out).2.2 | (with_reducible refine Kd.C_alloc ?_ _) | (with_reducible refine Kd.C_drewN ?_ _) | (with_reducible refine Kd.C_drew ?_))); (case side2 => exact (Kd.R_reads' HO_5.out).2.1); (case side3 => repeat (first | exact (Kd.R_reads' HO_6.out).2.2 | (with_reducible refine Kd.C_alloc ?_ _) | (with_reducible refine Kd.C_drewN ?_ _) | (with_reducible refine Kd.C_drew ?_))); (case side4 => exact (Kd.R_reads' HO_6.out).2.1); rintro e w57 ⟨v768, rfl, ho0, hb⟩; have n0_ := Aside0.mk (Kd.R_elder' (by (with_reducible repeat (first | apply Kd.R_alloc | apply Kd.R_drewN | apply Kd.R_drew)); exact HO_5.out) (Kd.R_base ho0) hb); have n1_ := Aside0.mk (Kd.R_elder' (by (with_reducible repeat (first | apply Kd.R_alloc | apply Kd.R_drewN | apply Kd.R_drew)); exact HO_6.out) (Kd.R_base ho0) hb); have n2_ := Aside0.mk (Kd.R_below (by (with_reducible repeat (first | apply Kd.R_alloc | apply Kd.R_drewN | apply Kd.R_drew)); exact HO_13.out) hb); have n3_ := Aside0.mk (Kd.R_lower (Kd.R_new' (Kd.R_new' ho0 (Kd.R_lt (by (with_reducible repeat (first | apply Kd.R_alloc | apply Kd.R_drewN | apply Kd.R_drew)); exact HO_5.out))) (Kd.R_lt (by (with_reducible repeat (first | apply Kd.R_alloc | apply Kd.R_drewN | apply Kd.R_drew)); exact HO_6.out))) (below_size (bB))); have n4_ := Aside0.mk (below_step (bB) hb); clear HO_5; clear HO_6; clear HO_13; clear HB; have HO_5 := n0_; have HO_6 := n1_; have HO_13 := n2_; have HO769 := n3_; have HB := n4_; clear n0_ n1_ n2_ n3_ n4_; (try clear hb); (try clear hb2); (try clear hk); (try clear hi); (try clear ho0); obtain ⟨Ao58, co58, eo58⟩ := Kd.R_slice HO_13.out; subst eo58; obtain ⟨Ao59, co59, eo59⟩ := Kd.R_slice HO769.out; subst eo59) | (go_at_call 25; (with_reducible refine (isochronelaw01_is.calls kj12 _ _ t754 _ _ t767 t770 _ ?side1 ?side2 ?side3 ?side4 A54.out).mono ?_); (case side1 => repeat (first | exact (Kd.R_reads' HO_13.out).2.2 | (with_reducible refine Kd.C_alloc ?_ _) | (with_reducible refine Kd.C_drewN ?_ _) | (with_reducible refine Kd.C_drew ?_))); (case side2 => exact (Kd.R_reads' HO_13.out).2.1); (case side3 => repeat (first | exact (Kd.R_reads' HO769.out).2.2 | (with_reducible refine Kd.C_alloc ?_ _) | (with_reducible refine Kd.C_drewN ?_ _) | (with_reducible refine Kd.C_drew ?_))); (case side4 => exact (Kd.R_reads' HO769.out).2.1); rintro e w60 ⟨rfl, hb⟩; have n0_ := Aside0.mk (Kd.R_below (by (with_reducible repeat (first | apply Kd.R_alloc | apply Kd.R_drewN | apply Kd.R_drew)); exact HO_5.out) hb); have n1_ := Aside0.mk (Kd.R_below (by (with_reducible repeat (first | apply Kd.R_alloc | apply Kd.R_drewN | apply Kd.R_drew)); exact HO_6.out) hb); have n2_ := Aside0.mk (Kd.R_below (by (with_reducible repeat (first | apply Kd.R_alloc | apply Kd.R_drewN | apply Kd.R_drew)); exact HO_13.out) hb); have n3_ := Aside0.mk (Kd.R_below (by (with_reducible repeat (first | apply Kd.R_alloc | apply Kd.R_drewN | apply Kd.R_drew)); exact HO769.out) hb); have n4_ := Aside0.mk (below_step (bB) hb); clear HO_5; clear HO_6; clear HO_13; clear HO769; clear HB; have HO_5 := n0_; have HO_6 := n1_; have HO_13 := n2_; have HO769 := n3_; have HB := n4_; clear n0_ n1_ n2_ n3_ n4_; (try clear hb); (try clear hb2); (try clear hk); (try clear hi)))
        go_ret
        exact ⟨by first | rfl | (simp [errW_none, errW_some] <;> rfl) | (simp [*, errW_none, errW_some] <;> rfl), by repeat (first | (with_reducible first | exact HB.out | apply below_alloc | apply pw_below_drewN | apply below_drew1) | exact HB.out)⟩
       ·rw [if_neg c52] at H
        have c52b0 : (t755 == 0) = false := beq_eq_false_iff_ne.mpr c52
        have c52b1 : (t755 != 0) = true := bne_iff_ne.mpr c52
        obtain rfl := Option.some.inj H
        go_wp2
        go_ret
        exact ⟨by first | rfl | (simp [errW_none, errW_some] <;> rfl) | (simp [*, errW_none, errW_some] <;> rfl), by repeat (first | (with_reducible first | exact HB.out | apply below_alloc | apply pw_below_drewN | apply below_drew1) | exact HB.out)⟩
  ·replace c6 := Bool.eq_false_iff.mpr c6
   subst c6
   have H1 : (some true) = some r := by rw [if_neg (show ¬ (false = true) by decide)] at H; exact H
   clear H
   have H := H1
   clear H1
   obtain rfl := Option.some.inj H
   go_enter Try.func7, Try.ntmps7
   go_wp2_with (first | ((with_reducible refine gate_callee (f := 11) rfl ?_); refine goesL_ (some 15) rfl rfl Try.func11 (by kernel_rfl) rfl #[] rfl (by (try simp only [List.map_toArray, List.map_cons, List.map_nil]); first | done | rfl | (simp only [List.length_drop, List.length_take]; rfl)) ?_; (with_reducible refine (isochronelaw01_awake.calls k  true _ A3.out).mono ?_); rintro e w61 ⟨rfl, hb⟩; refine ⟨_, rfl, ?_⟩; have n0_ := Aside0.mk (below_step (bB) hb); clear HB; have HB := n0_; clear n0_; (try clear hb); (try clear hb2); (try clear hk); (try clear hi)) | ((with_reducible refine gate_callee (f := 12) rfl ?_); refine goesL_ (some 19) rfl rfl Try.func12 (by kernel_rfl) rfl #[.slice A0 l0.length c0, .slice A1 l1.length c1, .int .i64 40] rfl (by (try simp only [List.map_toArray, List.map_cons, List.map_nil]); first | done | rfl | (simp only [List.length_drop, List.length_take]; rfl)) ?_; (with_reducible refine (isochronelaw01_small.calls _ _ l0 _ _ l1 40 false _ ?side1 ?side2 ?side3 ?side4 A5.out).mono ?_); (case side1 => repeat (first | exact (Kd.C_below HR0.out HB.out) | (with_reducible refine Kd.C_alloc ?_ _) | (with_reducible refine Kd.C_drewN ?_ _) | (with_reducible refine Kd.C_drew ?_))); (case side2 => exact HC0.out); (case side3 => repeat (first | exact (Kd.C_below HR1.out HB.out) | (with_reducible refine Kd.C_alloc ?_ _) | (with_reducible refine Kd.C_drewN ?_ _) | (with_reducible refine Kd.C_drew ?_))); (case side4 => exact HC1.out); rintro e w' ⟨rfl, ⟨nd, rfl⟩⟩; refine ⟨_, rfl, ?_⟩))
   go_ret
   exact ⟨by first | rfl | (simp [errW_none, errW_some] <;> rfl) | (simp [*, errW_none, errW_some] <;> rfl), by repeat (first | (with_reducible first | exact HB.out | apply below_alloc | apply pw_below_drewN | apply below_drew1) | exact HB.out)⟩
 ·replace c4 := Bool.eq_false_iff.mpr c4
  subst c4
  have H1 : (some false) = some r := by rw [if_neg (show ¬ (false = true) by decide)] at H; exact H
  clear H
  have H := H1
  clear H1
  obtain rfl := Option.some.inj H
  go_enter Try.func7, Try.ntmps7
  go_wp2_with (first | ((with_reducible refine gate_callee (f := 11) rfl ?_); refine goesL_ (some 15) rfl rfl Try.func11 (by kernel_rfl) rfl #[] rfl (by (try simp only [List.map_toArray, List.map_cons, List.map_nil]); first | done | rfl | (simp only [List.length_drop, List.length_take]; rfl)) ?_; (with_reducible refine (isochronelaw01_awake.calls k  false _ A3.out).mono ?_); rintro e w62 ⟨rfl, hb⟩; refine ⟨_, rfl, ?_⟩; have n0_ := Aside0.mk (below_step (bB) hb); clear HB; have HB := n0_; clear n0_; (try clear hb); (try clear hb2); (try clear hk); (try clear hi)))
  go_ret
  exact ⟨by first | rfl | (simp [errW_none, errW_some] <;> rfl) | (simp [*, errW_none, errW_some] <;> rfl), by repeat (first | (with_reducible first | exact HB.out | apply below_alloc | apply pw_below_drewN | apply below_drew1) | exact HB.out)⟩
def isochronelaw01_NatRing.Pure : Prop := ∀ (l0 : List Int) (l1 : List Int), l0.length ≤ maxLen → l0.length * 4 ≤ 140737488351232 → (∀ x ∈ l0, (Lit.int .u32 x).wf = true) → l1.length ≤ maxLen → l1.length * 4 ≤ 140737488351232 → (∀ x ∈ l1, (Lit.int .u32 x).wf = true) → ∃ k, isochronelaw01_NatRing.f k l0 l1 = some true
theorem isochronelaw01_NatRing.walk (P : isochronelaw01_NatRing.Pure) (a0 : Option Addr) (len0 cap0 : Nat) (z0 : List Int) (a1 : Option Addr) (len1 cap1 : Nat) (z1 : List Int) (w : World) (w0 : (a0 = none ∧ len0 = 0 ∧ cap0 = 0 ∧ z0 = []) ∨ ∃ x, a0 = some x ∧ len0 ≤ cap0 ∧ cap0 ≤ maxLen ∧ z0.length = cap0 ∧ (∀ i, i < z0.length → w.cell? (x.add i) = some (.int .u32 (z0.getD i 0))) ∧ ∀ n ∈ z0, (Lit.int .u32 n).wf = true) (y0 : len0 * 4 ≤ 140737488351232) (w1 : (a1 = none ∧ len1 = 0 ∧ cap1 = 0 ∧ z1 = []) ∨ ∃ x, a1 = some x ∧ len1 ≤ cap1 ∧ cap1 ≤ maxLen ∧ z1.length = cap1 ∧ (∀ i, i < z1.length → w.cell? (x.add i) = some (.int .u32 (z1.getD i 0))) ∧ ∀ n ∈ z1, (Lit.int .u32 n).wf = true) (y1 : len1 * 4 ≤ 140737488351232) :
  Calls Try.prog 7 #[.slice a0 len0 cap0, .slice a1 len1 cap1] w fun e w' => e = .returned (.bool true) ∧ Below w.heap.size w w' := by
 obtain ⟨l0, rfl, hr0, hm0, hw0, hc0⟩ := ReadsInt.ofRowC w0
 obtain ⟨l1, rfl, hr1, hm1, hw1, hc1⟩ := ReadsInt.ofRowC w1
 obtain ⟨k, h⟩ := P l0 l1 hm0 y0 hw0 hm1 y1 hw1
 refine (isochronelaw01_NatRing.calls k _ _ l0 _ _ l1 true w (Kd.C_of_reads (d := (0 : Int)) (h1 := fun _ => rfl) hr0) hc0 (Kd.C_of_reads (d := (0 : Int)) (h1 := fun _ => rfl) hr1) hc1 h).mono ?_
 rintro e w' ⟨rfl, hd⟩
 exact ⟨rfl, hd⟩
end Go.Proofs.Ytfmobogdnlmdbaa.P
end
section
namespace Go.Proofs.Ytfmobogdnlmdbaa.P
open Go.RowKit Go.Proofs.YtfmobogdnlmdbaaW.PrintWords Go.Proofs.YtfmobogdnlmdbaaW.PrintLast Go.Proofs.YtfmobogdnlmdbaaW.PrintMore
set_option linter.unusedVariables false
theorem evp {α : Type} {c : Prop} [Decidable c] {f g : Nat → Option α} {r : α} (hc : c) (h : Ev f r) : Ev (fun k => if c then f k else g k) r := by simpa only [if_pos hc] using h
theorem evn {α : Type} {c : Prop} [Decidable c] {f g : Nat → Option α} {r : α} (hc : ¬ c) (h : Ev g r) : Ev (fun k => if c then f k else g k) r := by simpa only [if_neg hc] using h
theorem evb {α β : Type} {o : Option α} {f : Nat → α → Option β} {a : α} {r : β} (h : o = some a) (k : Ev (fun n => f n a) r) : Ev (fun n => o.bind (f n)) r := by subst h; exact k
theorem evs {α : Type} (r : α) : Ev (fun _ => some r) r := ⟨0, fun _ _ => rfl⟩
theorem w64 {x : Int} (h0 : -9223372036854775808 ≤ x) (h1 : x ≤ 9223372036854775807) : wrap64 x = x := by unfold wrap64; omega
theorem u64 {x : Int} (h0 : 0 ≤ x) (h1 : x < 18446744073709551616) : IntKind.u64.wrap x = x := by rw [IntKind.wrap_u64]; omega
def vl (B : Int) : List Int → Int
  | [] => 0
  | x :: t => x + B * vl B t
def Dg (B : Int) (l : List Int) : Prop := ∀ x ∈ l, 0 ≤ x ∧ x < B
def Nm (l : List Int) : Prop := ∀ h : l ≠ [], l.getLast h ≠ 0
def Can (B : Int) (l : List Int) (n : Int) : Prop := Dg B l ∧ Nm l ∧ vl B l = n
section
variable {B : Int} {l a b : List Int}
theorem vl_append (B : Int) (a b : List Int) : vl B (a ++ b) = vl B a + B ^ a.length * vl B b := by
  induction a with
  | nil => simp [vl]
  | cons x t ih =>
    simp only [List.cons_append, vl, ih, List.length_cons]
    grind
theorem rd_lt (l : List Int) (i : Nat) (h : i < l.length) : rd l (i : Int) = l[i] := by simp [rd, h]
theorem vl_take (B : Int) (l : List Int) (i : Nat) (h : i < l.length) : vl B (l.take (i + 1)) = vl B (l.take i) + rd l (i : Int) * B ^ i := by
  rw [List.take_succ_eq_append_getElem h, vl_append, rd_lt l i h, List.length_take, Nat.min_eq_left (by omega)]
  simp only [vl]
  grind
theorem take_set (l : List Int) (i : Nat) (v : Int) (h : i < l.length) : (l.set i v).take (i + 1) = l.take i ++ [v] := by
  rw [List.take_succ_eq_append_getElem (by simpa using h), List.take_set_of_le (by omega)]
  simp
theorem vl_set (B : Int) (l : List Int) (i : Nat) (v : Int) (h : i < l.length) : vl B ((l.set i v).take (i + 1)) = vl B (l.take i) + v * B ^ i := by
  rw [take_set l i v h, vl_append, List.length_take, Nat.min_eq_left (by omega)]
  simp only [vl]
  grind
theorem Dg.nil (B : Int) : Dg B [] := fun x hx => by cases hx
theorem Dg.cons {x : Int} (h : Dg B (x :: l)) : (0 ≤ x ∧ x < B) ∧ Dg B l := ⟨h x (by simp), fun y hy => h y (by simp [hy])⟩
theorem Dg.mk {x : Int} (h0 : 0 ≤ x) (h1 : x < B) (h : Dg B l) : Dg B (x :: l) := by
  intro y hy
  rcases List.mem_cons.1 hy with rfl | hy
  · exact ⟨h0, h1⟩
  · exact h y hy
theorem Dg.append (ha : Dg B a) (hb : Dg B b) : Dg B (a ++ b) := by
  intro y hy
  rcases List.mem_append.1 hy with hy | hy
  · exact ha y hy
  · exact hb y hy
theorem Dg.take (h : Dg B l) (i : Nat) : Dg B (l.take i) := fun x hx => h x (List.mem_of_mem_take hx)
theorem Dg.drop (h : Dg B l) (i : Nat) : Dg B (l.drop i) := fun x hx => h x (List.mem_of_mem_drop hx)
theorem Dg.set (h : Dg B l) (i : Nat) {v : Int} (h0 : 0 ≤ v) (h1 : v < B) : Dg B (l.set i v) := by
  intro x hx
  rcases List.mem_or_eq_of_mem_set hx with hx | rfl
  · exact h x hx
  · exact ⟨h0, h1⟩
theorem Dg.rep (hB : 0 < B) (n : Nat) : Dg B (List.replicate n 0) := by
  intro x hx
  have := (List.mem_replicate.1 hx).2
  omega
theorem Dg.take_set {i : Nat} {v : Int} (hi : i < l.length) (h' : Dg B (l.take i)) (h0 : 0 ≤ v) (h1 : v < B) : Dg B ((l.set i v).take (i + 1)) := by
  rw [P.take_set l i v hi]
  exact h'.append (Dg.mk h0 h1 (Dg.nil B))
theorem dg_rd (h : Dg B l) (i : Int) (h0 : 0 ≤ i) (h1 : i < l.length) : 0 ≤ rd l i ∧ rd l i < B := by
  obtain ⟨n, rfl⟩ := Int.eq_ofNat_of_zero_le h0
  rw [rd_lt l n (by omega)]
  exact h _ (List.getElem_mem _)
theorem vl_nonneg (hB : 0 < B) : ∀ {l : List Int}, Dg B l → 0 ≤ vl B l
  | [], _ => by simp [vl]
  | x :: t, h => by
    have h1 := h.cons
    have h2 := vl_nonneg hB h1.2
    have h3 : 0 ≤ B * vl B t := Int.mul_nonneg (by omega) h2
    simp only [vl]
    omega
theorem vl_lt (hB : 0 < B) : ∀ {l : List Int}, Dg B l → vl B l < B ^ l.length
  | [], _ => by simp [vl]
  | x :: t, h => by
    have h1 := h.cons
    have h2 := vl_lt hB h1.2
    have h3 : B * (vl B t + 1) ≤ B * B ^ t.length := Int.mul_le_mul_of_nonneg_left (by omega) (by omega)
    simp only [vl, List.length_cons]
    rw [Int.mul_add] at h3
    have h4 : B ^ (t.length + 1) = B * B ^ t.length := by grind
    omega
theorem Nm.nil : Nm [] := fun h => absurd rfl h
theorem Nm.tail {x : Int} (h : Nm (x :: l)) : Nm l := by
  intro hl
  have := h (by simp)
  rwa [List.getLast_cons hl] at this
theorem vl_pos (hB : 0 < B) : ∀ {l : List Int}, Dg B l → Nm l → l ≠ [] → 0 < vl B l
  | [], _, _, h => absurd rfl h
  | [x], hd, hn, _ => by
    have h1 := hd.cons
    have h2 := hn (by simp)
    simp at h2
    simp [vl]
    omega
  | x :: y :: t, hd, hn, _ => by
    have h1 := hd.cons
    have h2 := vl_pos hB h1.2 hn.tail (by simp)
    have h3 : 0 < B * vl B (y :: t) := Int.mul_pos hB h2
    rw [vl]
    omega
theorem vl_ge (hB : 0 < B) : ∀ {l : List Int}, Dg B l → Nm l → l ≠ [] → B ^ (l.length - 1) ≤ vl B l
  | [], _, _, h => absurd rfl h
  | [x], hd, hn, _ => by
    have h1 := vl_pos hB hd hn (by simp)
    simp
    omega
  | x :: y :: t, hd, hn, _ => by
    have h1 := hd.cons
    have h2 := vl_ge hB h1.2 hn.tail (by simp)
    have h3 : B * B ^ ((y :: t).length - 1) ≤ B * vl B (y :: t) := Int.mul_le_mul_of_nonneg_left h2 (by omega)
    rw [vl]
    have h4 : B ^ ((x :: y :: t).length - 1) = B * B ^ ((y :: t).length - 1) := by
      simp only [List.length_cons, Nat.add_sub_cancel]
      grind
    omega
theorem can_uniq (hB : 0 < B) : ∀ {a b : List Int} {n : Int}, Can B a n → Can B b n → a = b
  | [], [], _, _, _ => rfl
  | [], y :: t, n, h, h' => by
    have h1 := vl_pos hB h'.1 h'.2.1 (by simp)
    have h2 := h.2.2
    have h3 := h'.2.2
    simp only [vl] at h2
    omega
  | x :: t, [], n, h, h' => by
    have h1 := vl_pos hB h.1 h.2.1 (by simp)
    have h2 := h.2.2
    have h3 := h'.2.2
    simp only [vl] at h3
    omega
  | x :: s, y :: t, n, h, h' => by
    have h1 := h.1.cons
    have h2 := h'.1.cons
    have h3 := h.2.2
    have h4 := h'.2.2
    simp only [vl] at h3 h4
    have e1 : x = n % B := by rw [← h3, Int.add_mul_emod_self_left, Int.emod_eq_of_lt h1.1.1 h1.1.2]
    have e2 : y = n % B := by rw [← h4, Int.add_mul_emod_self_left, Int.emod_eq_of_lt h2.1.1 h2.1.2]
    have e3 : x = y := by omega
    subst e3
    have e4 : vl B s = vl B t := Int.eq_of_mul_eq_mul_left (a := B) (by omega) (by omega)
    rw [can_uniq hB (n := vl B t) ⟨h1.2, h.2.1.tail, e4⟩ ⟨h2.2, h'.2.1.tail, rfl⟩]
theorem Can.nonneg (hB : 0 < B) {n : Int} (h : Can B l n) : 0 ≤ n := by rw [← h.2.2]; exact vl_nonneg hB h.1
theorem Can.zero (B : Int) : Can B [] 0 := ⟨Dg.nil B, Nm.nil, rfl⟩
theorem Can.nil_iff (hB : 0 < B) {n : Int} (h : Can B l n) : l = [] ↔ n = 0 := by
  constructor
  · rintro rfl
    exact h.2.2.symm
  · rintro rfl
    exact can_uniq hB h (Can.zero B)
theorem Can.len_iff (hB : 0 < B) {n : Int} (h : Can B l n) : l.length = 0 ↔ n = 0 := by rw [← h.nil_iff hB]; exact List.length_eq_zero_iff
theorem Can.lt (hB : 0 < B) {n : Int} (h : Can B l n) : n < B ^ l.length := by rw [← h.2.2]; exact vl_lt hB h.1
theorem Can.ge (hB : 0 < B) {n : Int} (h : Can B l n) (h0 : l.length ≠ 0) : B ^ (l.length - 1) ≤ n := by
  rw [← h.2.2]
  exact vl_ge hB h.1 h.2.1 (fun e => h0 (by rw [e]; rfl))
theorem pow_le {B : Int} (hB : 1 ≤ B) {i j : Nat} (h : i ≤ j) : B ^ i ≤ B ^ j := by
  obtain ⟨d, rfl⟩ := Nat.exists_eq_add_of_le h
  rw [Int.pow_add]
  have h1 : 1 ≤ B ^ d := Int.pow_pos (by omega)
  have h2 : B ^ i * 1 ≤ B ^ i * B ^ d := Int.mul_le_mul_of_nonneg_left h1 (Int.le_of_lt (Int.pow_pos (by omega)))
  omega
theorem Can.len_lt (hB : 1 < B) {n m : Int} (h : Can B a n) (h' : Can B b m) (hl : a.length < b.length) : n < m := by
  have h1 := h.lt (by omega)
  have h2 := h'.ge (by omega) (by omega)
  have h3 := pow_le (B := B) (by omega) (show a.length ≤ b.length - 1 by omega)
  omega
theorem Can.len_le (hB : 1 < B) {n : Int} (h : Can B l n) {k : Nat} (hn : n < B ^ k) : l.length ≤ k := by
  rcases Nat.lt_or_ge k l.length with hk | hk
  · have h1 := h.ge (by omega) (by omega)
    have h2 := pow_le (B := B) (by omega) (show k ≤ l.length - 1 by omega)
    omega
  · exact hk
theorem vl_drop (B : Int) (l : List Int) (i : Nat) (h : i ≤ l.length) : vl B l = vl B (l.take i) + B ^ i * vl B (l.drop i) := by
  conv => lhs; rw [← List.take_append_drop i l]
  rw [vl_append, List.length_take, Nat.min_eq_left h]
theorem rd_take (l : List Int) (j : Int) (i : Nat) (h : j.toNat < i) : rd (l.take i) j = rd l j := by
  simp only [rd, List.getD_eq_getElem?_getD]
  rw [List.getElem?_take_of_lt h]
theorem getLast_rd (l : List Int) (h : l ≠ []) : l.getLast h = rd l ((l.length : Int) - 1) := by
  have hp : 0 < l.length := List.length_pos_iff.2 h
  rw [List.getLast_eq_getElem]
  have e : (l.length : Int) - 1 = ((l.length - 1 : Nat) : Int) := by omega
  rw [e, rd_lt _ _ (by omega)]
theorem nm_of_rd (h : 0 < l.length → rd l ((l.length : Int) - 1) ≠ 0) : Nm l := by
  intro hl
  rw [getLast_rd l hl]
  exact h (List.length_pos_iff.2 hl)
theorem Nm.rd (h : Nm l) (hp : 0 < l.length) : rd l ((l.length : Int) - 1) ≠ 0 := by
  have hl : l ≠ [] := List.ne_nil_of_length_pos hp
  rw [← getLast_rd l hl]
  exact h hl
theorem vl_rep (B : Int) (n : Nat) : vl B (List.replicate n 0) = 0 := by
  induction n with
  | zero => rfl
  | succ n ih => simp [List.replicate_succ, vl, ih]
theorem can_ex_nat (hB : 1 < B) (n : Nat) : ∃ l, Can B l (n : Int) := by
  induction n using Nat.strongRecOn with
  | _ n ih =>
    by_cases h0 : n = 0
    · subst h0
      exact ⟨[], Can.zero B⟩
    · have hlt : ((n : Int) / B).toNat < n := by
        have h1 : (n : Int) / B < n := Int.ediv_lt_self_of_pos_of_ne_one (by omega) (by omega)
        have h2 : 0 ≤ (n : Int) / B := Int.ediv_nonneg (by omega) (by omega)
        omega
      obtain ⟨l, h1, h2, h3⟩ := ih _ hlt
      have h4 : 0 ≤ (n : Int) / B := Int.ediv_nonneg (by omega) (by omega)
      have hm := Int.emod_nonneg (n : Int) (show B ≠ 0 by omega)
      have hm2 := Int.emod_lt_of_pos (n : Int) (show 0 < B by omega)
      have h5 : vl B ((n : Int) % B :: l) = n := by
        rw [vl, h3, Int.toNat_of_nonneg h4]
        exact Int.emod_add_mul_ediv _ _
      refine ⟨(n : Int) % B :: l, Dg.mk hm hm2 h1, ?_, h5⟩
      intro hne
      rcases List.eq_nil_or_concat l with hl | ⟨_, _, hl⟩
      · subst hl
        simp only [vl, Int.mul_zero, Int.add_zero] at h5
        simp only [List.getLast_singleton]
        omega
      · have hne' : l ≠ [] := by rw [hl]; simp
        rw [List.getLast_cons hne']
        exact h2 hne'
theorem can_ex (hB : 1 < B) {n : Int} (h : 0 ≤ n) : ∃ l, Can B l n := by
  obtain ⟨k, rfl⟩ := Int.eq_ofNat_of_zero_le h
  exact can_ex_nat hB k
end
end Go.Proofs.Ytfmobogdnlmdbaa.P
end
section
namespace Go.Proofs.Ytfmobogdnlmdbaa.P
open Go.RowKit Go.Proofs.YtfmobogdnlmdbaaW.PrintWords Go.Proofs.YtfmobogdnlmdbaaW.PrintLast Go.Proofs.YtfmobogdnlmdbaaW.PrintMore
set_option linter.unusedVariables false
abbrev WW : Int := 4294967296
theorem WW_pos : (0 : Int) < WW := by decide
theorem WW_one : (1 : Int) < WW := by decide
theorem WW_eq : WW = 4294967296 := rfl
theorem alg_add {vo va vb P c c' v x y W : Int} (h : vo + c * P = va + vb) (h2 : v + W * c' = c + x + y) : vo + v * P + c' * (W * P) = (va + x * P) + (vb + y * P) := by grind
theorem alg_add1 {vo va vb P c c' v x W : Int} (h : vo + c * P = va + vb) (h2 : v + W * c' = c + x) : vo + v * P + c' * (W * P) = (va + x * P) + vb := by grind
theorem alg_last {vo c P n W : Int} (h : vo + c * P = n) : vo + P * (c + W * 0) = n := by grind
theorem wsucc {i : Nat} (h : i < 4611686018427387904) : wrap64 ((i : Int) + 1) = ((i + 1 : Nat) : Int) := by rw [w64 (by omega) (by omega)]; omega
theorem mag_Trim_ev (n : Nat) : ∀ (l : List Int), l.length = n → n < 4611686018427387904 → Dg WW l → ∃ r, Ev (fun k => mag_Trim.l0 k l) r ∧ Can WW r (vl WW l) ∧ r.length ≤ l.length := by
  induction n with
  | zero =>
    intro l hl _ hd
    have e : l = [] := List.eq_nil_of_length_eq_zero hl
    subst e
    refine ⟨[], ?_, Can.zero _, Nat.le_refl _⟩
    refine Ev.step (fun k => by rw [mag_Trim.l0]) ?_
    exact evn (by simp) (evs _)
  | succ n ih =>
    intro l hl hn hd
    have ew : wrap64 ((l.length : Int) - 1) = (n : Int) := by rw [w64 (by omega) (by omega)]; omega
    by_cases hz : rd l n = 0
    · obtain ⟨r, h1, h2, h3⟩ := ih (l.take n) (by rw [List.length_take]; omega) (by omega) (hd.take n)
      refine ⟨r, ?_, ?_, ?_⟩
      · refine Ev.step (fun k => by rw [mag_Trim.l0]) ?_
        rw [ew]
        refine evp (by omega) (evp (by omega) (evp (by omega) (evp hz (evp (by omega) ?_))))
        simpa using h1
      · have h4 := vl_take WW l n (by omega)
        rw [hz, show n + 1 = l.length by omega, List.take_length] at h4
        rw [h4]
        simpa using h2
      · rw [List.length_take] at h3
        omega
    · refine ⟨l, ?_, ⟨hd, nm_of_rd (fun _ => ?_), rfl⟩, Nat.le_refl _⟩
      · refine Ev.step (fun k => by rw [mag_Trim.l0]) ?_
        rw [ew]
        exact evp (by omega) (evp (by omega) (evp (by omega) (evn hz (evs _))))
      · rw [hl]
        have e : (((n + 1 : Nat) : Int) - 1) = (n : Int) := by omega
        rw [e]
        exact hz
theorem mag_Trim_sp {l : List Int} (hn : l.length < 4611686018427387904) (hd : Dg WW l) : ∃ r, Ev (fun k => mag_Trim.f k l) r ∧ Can WW r (vl WW l) ∧ r.length ≤ l.length := by
  obtain ⟨r, h1, h2⟩ := mag_Trim_ev l.length l rfl hn hd
  exact ⟨r, Ev.congr (fun k => by rw [mag_Trim.f]) h1, h2⟩
theorem mag_Cmp_ev {a b : List Int} (hl : a.length = b.length) (hn : a.length < 4611686018427387904) (ha : Dg WW a) (hb : Dg WW b) (d : Nat) :
    ∀ (i : Nat), i = d → i ≤ a.length → vl WW (a.drop i) = vl WW (b.drop i) → ∃ r, Ev (fun k => mag_Cmp.l0 k a b ((i : Int) - 1)) r ∧ (r = -1 ∧ vl WW a < vl WW b ∨ r = 0 ∧ vl WW a = vl WW b ∨ r = 1 ∧ vl WW b < vl WW a) := by
  induction d with
  | zero =>
    rintro i rfl h1 h2
    refine ⟨0, ?_, .inr (.inl ⟨rfl, by simpa using h2⟩)⟩
    refine Ev.step (fun k => by rw [mag_Cmp.l0]) ?_
    exact evn (by omega) (evs _)
  | succ d ih =>
    rintro i rfl h1 h2
    have e1 : (((d + 1 : Nat) : Int) - 1) = (d : Int) := by omega
    rw [e1]
    have h3 := vl_drop WW a d (by omega)
    have h4 := vl_drop WW b d (by omega)
    have ea : a.drop d = rd a d :: a.drop (d + 1) := by rw [rd_lt a d (by omega)]; exact (List.drop_eq_getElem_cons (by omega))
    have eb : b.drop d = rd b d :: b.drop (d + 1) := by rw [rd_lt b d (by omega)]; exact (List.drop_eq_getElem_cons (by omega))
    have ta := vl_lt WW_pos (ha.take d)
    have tb := vl_lt WW_pos (hb.take d)
    have ta0 := vl_nonneg WW_pos (ha.take d)
    have tb0 := vl_nonneg WW_pos (hb.take d)
    rw [List.length_take, Nat.min_eq_left (by omega)] at ta tb
    by_cases he : rd a d = rd b d
    · obtain ⟨r, h5, h6⟩ := ih d rfl (by omega) (by rw [ea, eb, vl, vl, he, h2])
      refine ⟨r, ?_, h6⟩
      refine Ev.step (fun k => by rw [mag_Cmp.l0]) ?_
      rw [w64 (by omega) (by omega)]
      exact evp (by omega) (evp (by omega) (evp (by omega) (evp (by omega) (evp he h5))))
    · have h7 : vl WW (a.drop d) = rd a d + WW * vl WW (a.drop (d + 1)) := by rw [ea, vl]
      have h8 : vl WW (b.drop d) = rd b d + WW * vl WW (b.drop (d + 1)) := by rw [eb, vl]
      have hp : 0 < WW ^ d := Int.pow_pos WW_pos
      by_cases hlt : rd a d < rd b d
      · refine ⟨-1, ?_, .inl ⟨rfl, ?_⟩⟩
        · refine Ev.step (fun k => by rw [mag_Cmp.l0]) ?_
          exact evp (by omega) (evp (by omega) (evp (by omega) (evp (by omega) (evn he (evp hlt (evs _))))))
        · have h9 : WW ^ d * (vl WW (a.drop d) + 1) ≤ WW ^ d * vl WW (b.drop d) := Int.mul_le_mul_of_nonneg_left (by rw [h7, h8, h2]; omega) (by omega)
          rw [Int.mul_add] at h9
          omega
      · refine ⟨1, ?_, .inr (.inr ⟨rfl, ?_⟩)⟩
        · refine Ev.step (fun k => by rw [mag_Cmp.l0]) ?_
          exact evp (by omega) (evp (by omega) (evp (by omega) (evp (by omega) (evn he (evn hlt (evs _))))))
        · have h9 : WW ^ d * (vl WW (b.drop d) + 1) ≤ WW ^ d * vl WW (a.drop d) := Int.mul_le_mul_of_nonneg_left (by rw [h7, h8, h2]; omega) (by omega)
          rw [Int.mul_add] at h9
          omega
def cmpi (n m : Int) : Int := if n < m then -1 else if n = m then 0 else 1
theorem mag_Cmp_sp {a b : List Int} {n m : Int} (hn : a.length < 4611686018427387904) (ha : Can WW a n) (hb : Can WW b m) : Ev (fun k => mag_Cmp.f k a b) (cmpi n m) := by
  unfold mag_Cmp.f
  by_cases hl : a.length = b.length
  · obtain ⟨r, h1, h2⟩ := mag_Cmp_ev hl hn ha.1 hb.1 a.length a.length rfl (Nat.le_refl _) (by rw [List.drop_length, hl, List.drop_length])
    have e : r = cmpi n m := by
      rw [ha.2.2, hb.2.2] at h2
      unfold cmpi
      rcases h2 with ⟨rfl, h⟩ | ⟨rfl, h⟩ | ⟨rfl, h⟩
      · rw [if_pos h]
      · rw [if_neg (by omega), if_pos h]
      · rw [if_neg (by omega), if_neg (by omega)]
    rw [← e]
    refine evp (by omega) ?_
    rw [w64 (by omega) (by omega)]
    exact h1
  · refine evn (by omega) ?_
    unfold cmpi
    by_cases h : a.length < b.length
    · have := Can.len_lt WW_one ha hb h
      rw [if_pos this]
      exact evp (by omega) (evs _)
    · have := Can.len_lt WW_one hb ha (by omega)
      rw [if_neg (show ¬ n < m by omega), if_neg (show ¬ n = m by omega)]
      exact evn (by omega) (evs _)
theorem mag_Add_ev {a b : List Int} (hba : b.length ≤ a.length) (hn : a.length < 1099511627776) (ha : Dg WW a) (hb : Dg WW b) (d : Nat) :
    ∀ (i : Nat) (o : List Int) (c : Int), a.length - i = d → i ≤ a.length → o.length = a.length + 1 → Dg WW (o.take i) → 0 ≤ c → c ≤ 1 → vl WW (o.take i) + c * WW ^ i = vl WW (a.take i) + vl WW (b.take i) →
    ∃ r, Ev (fun k => mag_Add.l0 k a b o c a (a.length : Int) (i : Int)) r ∧ Can WW r (vl WW a + vl WW b) ∧ r.length ≤ a.length + 1 := by
  induction d with
  | zero =>
    intro i o c h1 h2 h3 h4 h5 h6 h7
    have e : i = a.length := by omega
    subst e
    have hset : o.set a.length c = o.take a.length ++ [c] := by
      have := P.take_set o a.length c (by omega)
      rw [show a.length + 1 = (o.set a.length c).length by simp [h3], List.take_length] at this
      exact this
    have hd : Dg WW (o.set a.length c) := by rw [hset]; exact h4.append (Dg.mk h5 (by have := WW_one; omega) (Dg.nil _))
    obtain ⟨r, h8, h9, h10⟩ := mag_Trim_sp (l := o.set a.length c) (by simp; omega) hd
    have hv : vl WW (o.set a.length c) = vl WW a + vl WW b := by
      rw [hset, vl_append, List.length_take, Nat.min_eq_left (by omega)]
      rw [List.take_length, List.take_of_length_le hba] at h7
      simp only [vl]
      exact alg_last h7
    refine ⟨r, ?_, by rw [← hv]; exact h9, by simp at h10; omega⟩
    refine Ev.step (fun k => by rw [mag_Add.l0]) ?_
    refine evn (by omega) (evp (by omega) (evp (by omega) ?_))
    have ec : c % 4294967296 = c := by omega
    rw [ec, show ((a.length : Int)).toNat = a.length by omega]
    exact Ev.bind h8 (evs _)
  | succ d ih =>
    intro i o c h1 h2 h3 h4 h5 h6 h7
    have hi : i < a.length := by omega
    have hx := dg_rd ha (i : Int) (by omega) (by omega)
    have ti := vl_take WW a i hi
    have ep : WW ^ (i + 1) = WW * WW ^ i := by rw [Int.pow_succ, Int.mul_comm]
    have hW := WW_eq
    by_cases hib : i < b.length
    · have hy := dg_rd hb (i : Int) (by omega) (by omega)
      have tb := vl_take WW b i hib
      have ev : (c + rd a i + rd b i) % 4294967296 + WW * ((c + rd a i + rd b i) / 4294967296) = c + rd a i + rd b i := by rw [WW_eq]; omega
      obtain ⟨r, h8, h9⟩ := ih (i + 1) (o.set i ((c + rd a i + rd b i) % 4294967296)) ((c + rd a i + rd b i) / 4294967296) (by omega) (by omega) (by simpa using h3)
        (Dg.take_set (by omega) h4 (by omega) (by omega)) (by omega) (by omega)
        (by rw [vl_set _ _ _ _ (by omega), ti, tb, ep]; exact alg_add h7 ev)
      refine ⟨r, ?_, h9⟩
      refine Ev.step (fun k => by rw [mag_Add.l0]) ?_
      rw [u64 (x := rd a i) (by omega) (by omega), u64 (x := rd b i) (by omega) (by omega), u64 (x := c + rd a i) (by omega) (by omega), u64 (x := c + rd a i + rd b i) (by omega) (by omega), wsucc (by omega)]
      exact evp (by omega) (evp (by omega) (evp (by omega) (evp (by omega) (evp (by omega) h8))))
    · have tb : vl WW (b.take (i + 1)) = vl WW (b.take i) := by rw [List.take_of_length_le (by omega), List.take_of_length_le (by omega)]
      have ev : (c + rd a i) % 4294967296 + WW * ((c + rd a i) / 4294967296) = c + rd a i := by rw [WW_eq]; omega
      obtain ⟨r, h8, h9⟩ := ih (i + 1) (o.set i ((c + rd a i) % 4294967296)) ((c + rd a i) / 4294967296) (by omega) (by omega) (by simpa using h3)
        (Dg.take_set (by omega) h4 (by omega) (by omega)) (by omega) (by omega)
        (by rw [vl_set _ _ _ _ (by omega), ti, tb, ep]; exact alg_add1 h7 ev)
      refine ⟨r, ?_, h9⟩
      refine Ev.step (fun k => by rw [mag_Add.l0]) ?_
      rw [u64 (x := rd a i) (by omega) (by omega), u64 (x := c + rd a i) (by omega) (by omega), wsucc (by omega)]
      exact evp (by omega) (evp (by omega) (evp (by omega) (evn (by omega) (evp (by omega) h8))))
theorem mag_Add_j {a b : List Int} (hba : b.length ≤ a.length) (hn : a.length < 1099511627776) (ha : Dg WW a) (hb : Dg WW b) : ∃ r, Ev (fun k => mag_Add.j0 k a b) r ∧ Can WW r (vl WW a + vl WW b) ∧ r.length ≤ a.length + 1 := by
  obtain ⟨r, h1, h2⟩ := mag_Add_ev hba hn ha hb a.length 0 (List.replicate (a.length + 1) 0) 0 (by omega) (by omega) (by simp) (by simp; exact Dg.nil _) (by omega) (by omega) (by simp [vl])
  refine ⟨r, ?_, h2⟩
  refine Ev.step (fun k => by rw [mag_Add.j0]) ?_
  have e : wrap64 ((a.length : Int) + 1) = ((a.length + 1 : Nat) : Int) := by rw [w64 (by omega) (by omega)]; omega
  rw [e, Int.toNat_natCast]
  exact evp (by omega) (evp (by omega) h1)
theorem mag_Add_sp {a b : List Int} {n m : Int} (hla : a.length < 1099511627776) (hlb : b.length < 1099511627776) (ha : Can WW a n) (hb : Can WW b m) : ∃ r, Ev (fun k => mag_Add.f k a b) r ∧ Can WW r (n + m) ∧ r.length ≤ max a.length b.length + 1 := by
  unfold mag_Add.f
  rw [← ha.2.2, ← hb.2.2]
  by_cases h : a.length < b.length
  · obtain ⟨r, h1, h2, h3⟩ := mag_Add_j (a := b) (b := a) (by omega) hlb hb.1 ha.1
    exact ⟨r, evp (by omega) h1, by rw [Int.add_comm]; exact h2, by omega⟩
  · obtain ⟨r, h1, h2, h3⟩ := mag_Add_j (a := a) (b := b) (by omega) hla ha.1 hb.1
    exact ⟨r, evn (by omega) h1, h2, by omega⟩
end Go.Proofs.Ytfmobogdnlmdbaa.P
end
section
namespace Go.Proofs.Ytfmobogdnlmdbaa.P
open Go.RowKit Go.Proofs.YtfmobogdnlmdbaaW.PrintWords Go.Proofs.YtfmobogdnlmdbaaW.PrintLast Go.Proofs.YtfmobogdnlmdbaaW.PrintMore
set_option linter.unusedVariables false
theorem alg_sub {vo va vb P c c' v x y W : Int} (h : vo - c * P = va - vb) (h2 : v - W * c' = x - c - y) : vo + v * P - c' * (W * P) = (va + x * P) - (vb + y * P) := by grind
theorem alg_sub1 {vo va vb P c c' v x W : Int} (h : vo - c * P = va - vb) (h2 : v - W * c' = x - c) : vo + v * P - c' * (W * P) = (va + x * P) - vb := by grind
theorem borrow {x c y : Int} (hx : 0 ≤ x ∧ x < 4294967296) (hc : 0 ≤ c ∧ c ≤ 1) (hy : 0 ≤ y ∧ y < 4294967296) :
    ∃ v c', IntKind.u64.wrap (IntKind.u64.wrap (IntKind.u64.wrap x - c) - y) % 4294967296 = v ∧ IntKind.u64.wrap (IntKind.u64.wrap (IntKind.u64.wrap x - c) - y) / 9223372036854775808 = c' ∧ v - 4294967296 * c' = x - c - y ∧ 0 ≤ v ∧ v < 4294967296 ∧ 0 ≤ c' ∧ c' ≤ 1 := by
  rw [IntKind.wrap_u64, IntKind.wrap_u64, IntKind.wrap_u64]
  refine ⟨_, _, rfl, rfl, ?_, ?_, ?_, ?_, ?_⟩ <;> omega
theorem borrow1 {x c : Int} (hx : 0 ≤ x ∧ x < 4294967296) (hc : 0 ≤ c ∧ c ≤ 1) :
    ∃ v c', IntKind.u64.wrap (IntKind.u64.wrap x - c) % 4294967296 = v ∧ IntKind.u64.wrap (IntKind.u64.wrap x - c) / 9223372036854775808 = c' ∧ v - 4294967296 * c' = x - c ∧ 0 ≤ v ∧ v < 4294967296 ∧ 0 ≤ c' ∧ c' ≤ 1 := by
  rw [IntKind.wrap_u64, IntKind.wrap_u64]
  refine ⟨_, _, rfl, rfl, ?_, ?_, ?_, ?_, ?_⟩ <;> omega
theorem mag_Sub_ev {a b : List Int} (hba : b.length ≤ a.length) (hle : vl WW b ≤ vl WW a) (hn : a.length < 1099511627776) (ha : Dg WW a) (hb : Dg WW b) (d : Nat) :
    ∀ (i : Nat) (o : List Int) (c : Int), a.length - i = d → i ≤ a.length → o.length = a.length → Dg WW (o.take i) → 0 ≤ c → c ≤ 1 → vl WW (o.take i) - c * WW ^ i = vl WW (a.take i) - vl WW (b.take i) →
    ∃ r, Ev (fun k => mag_Sub.l0 k b o c a (a.length : Int) (i : Int)) r ∧ Can WW r (vl WW a - vl WW b) ∧ r.length ≤ a.length := by
  induction d with
  | zero =>
    intro i o c h1 h2 h3 h4 h5 h6 h7
    have e : i = a.length := by omega
    subst e
    rw [List.take_length, List.take_of_length_le hba, ← h3, List.take_length] at h7
    rw [← h3, List.take_length] at h4
    have hlt := vl_lt WW_pos h4
    have hc : c = 0 := by
      rcases Int.lt_or_eq_of_le h6 with h | h
      · omega
      · subst h
        rw [Int.one_mul] at h7
        omega
    subst hc
    rw [Int.zero_mul, Int.sub_zero] at h7
    obtain ⟨r, h8, h9, h10⟩ := mag_Trim_sp (l := o) (by omega) h4
    refine ⟨r, ?_, by rw [← h7]; exact h9, by omega⟩
    refine Ev.step (fun k => by rw [mag_Sub.l0]) ?_
    refine evn (by omega) ?_
    exact Ev.bind h8 (evs _)
  | succ d ih =>
    intro i o c h1 h2 h3 h4 h5 h6 h7
    have hi : i < a.length := by omega
    have hx := dg_rd ha (i : Int) (by omega) (by omega)
    have ti := vl_take WW a i hi
    have ep : WW ^ (i + 1) = WW * WW ^ i := by rw [Int.pow_succ, Int.mul_comm]
    by_cases hib : i < b.length
    · have hy := dg_rd hb (i : Int) (by omega) (by omega)
      have tb := vl_take WW b i hib
      obtain ⟨v, c', e1, e2, e3, v0, v1, c0, c1⟩ := borrow hx ⟨h5, h6⟩ hy
      obtain ⟨r, h8, h9⟩ := ih (i + 1) (o.set i v) c' (by omega) (by omega) (by simpa using h3) (Dg.take_set (by omega) h4 v0 v1) c0 c1
        (by rw [vl_set _ _ _ _ (by omega), ti, tb, ep]; exact alg_sub h7 e3)
      refine ⟨r, ?_, h9⟩
      refine Ev.step (fun k => by rw [mag_Sub.l0]) ?_
      rw [u64 (x := rd b i) hy.1 (by have := hy.2; have := WW_eq; omega), e1, e2, wsucc (by omega)]
      exact evp (by omega) (evp (by omega) (evp (by omega) (evp (by omega) (evp (by omega) h8))))
    · have tb : vl WW (b.take (i + 1)) = vl WW (b.take i) := by rw [List.take_of_length_le (by omega), List.take_of_length_le (by omega)]
      obtain ⟨v, c', e1, e2, e3, v0, v1, c0, c1⟩ := borrow1 hx ⟨h5, h6⟩
      obtain ⟨r, h8, h9⟩ := ih (i + 1) (o.set i v) c' (by omega) (by omega) (by simpa using h3) (Dg.take_set (by omega) h4 v0 v1) c0 c1
        (by rw [vl_set _ _ _ _ (by omega), ti, tb, ep]; exact alg_sub1 h7 e3)
      refine ⟨r, ?_, h9⟩
      refine Ev.step (fun k => by rw [mag_Sub.l0]) ?_
      rw [e1, e2, wsucc (by omega)]
      exact evp (by omega) (evp (by omega) (evp (by omega) (evn (by omega) (evp (by omega) h8))))
theorem can_len_le {a b : List Int} {n m : Int} (ha : Can WW a n) (hb : Can WW b m) (h : m ≤ n) : b.length ≤ a.length := by
  rcases Nat.lt_or_ge a.length b.length with hl | hl
  · have := Can.len_lt WW_one ha hb hl
    omega
  · exact hl
theorem mag_Sub_sp {a b : List Int} {n m : Int} (hn : a.length < 1099511627776) (ha : Can WW a n) (hb : Can WW b m) (hle : m ≤ n) : ∃ r, Ev (fun k => mag_Sub.f k a b) r ∧ Can WW r (n - m) ∧ r.length ≤ a.length := by
  have hba := can_len_le ha hb hle
  rw [← ha.2.2, ← hb.2.2] at *
  obtain ⟨r, h1, h2⟩ := mag_Sub_ev hba hle hn ha.1 hb.1 a.length 0 (List.replicate a.length 0) 0 (by omega) (by omega) (by simp) (by simp; exact Dg.nil _) (by omega) (by omega) (by simp [vl])
  refine ⟨r, ?_, h2⟩
  unfold mag_Sub.f
  rw [Int.toNat_natCast]
  exact evp (by omega) (evp (by omega) h1)
theorem vl_set_mid (B : Int) (l : List Int) (p q : Nat) (v : Int) (h : p < q) (hq : q ≤ l.length) : vl B ((l.set p v).take q) = vl B (l.take q) + (v - rd l (p : Int)) * B ^ p := by
  have h1 := vl_drop B ((l.set p v).take q) (p + 1) (by simp; omega)
  have h2 := vl_drop B (l.take q) (p + 1) (by simp; omega)
  have e1 : ((l.set p v).take q).take (p + 1) = (l.set p v).take (p + 1) := by rw [List.take_take, Nat.min_eq_left (by omega)]
  have e2 : (l.take q).take (p + 1) = l.take (p + 1) := by rw [List.take_take, Nat.min_eq_left (by omega)]
  have e3 : ((l.set p v).take q).drop (p + 1) = (l.take q).drop (p + 1) := by
    rw [List.drop_take, List.drop_take, List.drop_set_of_lt (by omega)]
  rw [e1, e3, vl_set _ _ _ _ (by omega)] at h1
  rw [e2, vl_take _ _ _ (by omega)] at h2
  rw [h1, h2]
  grind
theorem alg_mul {T va vb x y old P c c' v W xb Pi Pj : Int} (h : T + c * P = va * vb + x * Pi * xb) (h2 : v + W * c' = c + (x * y + old)) (hP : P = Pi * Pj) : (T + (v - old) * P) + c' * (W * P) = va * vb + x * Pi * (xb + y * Pj) := by grind
theorem mul_bd {x y : Int} (hx : 0 ≤ x ∧ x < 4294967296) (hy : 0 ≤ y ∧ y < 4294967296) : 0 ≤ x * y ∧ x * y ≤ 18446744065119617025 := by
  have h1 : 0 ≤ x * y := Int.mul_nonneg hx.1 hy.1
  have h2 : x * y ≤ 4294967295 * 4294967295 := Int.mul_le_mul (by omega) (by omega) hy.1 (by omega)
  omega
theorem mulc {x y old c : Int} (hx : 0 ≤ x ∧ x < 4294967296) (hy : 0 ≤ y ∧ y < 4294967296) (ho : 0 ≤ old ∧ old < 4294967296) (hc : 0 ≤ c ∧ c < 4294967296) :
    ∃ v c', IntKind.u64.wrap (c + IntKind.u64.wrap (IntKind.u64.wrap (IntKind.u64.wrap x * IntKind.u64.wrap y) + IntKind.u64.wrap old)) % 4294967296 = v ∧ IntKind.u64.wrap (c + IntKind.u64.wrap (IntKind.u64.wrap (IntKind.u64.wrap x * IntKind.u64.wrap y) + IntKind.u64.wrap old)) / 4294967296 = c' ∧ v + 4294967296 * c' = c + (x * y + old) ∧ 0 ≤ v ∧ v < 4294967296 ∧ 0 ≤ c' ∧ c' < 4294967296 := by
  have hb := mul_bd hx hy
  rw [u64 (x := x) (by omega) (by omega), u64 (x := y) (by omega) (by omega), u64 (x := old) (by omega) (by omega), u64 (x := x * y) (by omega) (by omega), u64 (x := x * y + old) (by omega) (by omega), u64 (x := c + (x * y + old)) (by omega) (by omega)]
  refine ⟨_, _, rfl, rfl, ?_, ?_, ?_, ?_, ?_⟩ <;> omega
theorem alg_mul2 {T c P va vb x Pi : Int} (h : T + c * P = va * vb + x * Pi * vb) : T + c * P = (va + x * Pi) * vb := by rw [h]; grind
theorem mag_Mul_in {a b : List Int} (hn : a.length + b.length < 1099511627776) (ha : Dg WW a) (hb : Dg WW b) (i : Nat) (hi : i < a.length) (R : List Int)
    (hout : ∀ o : List Int, o.length = a.length + b.length → Dg WW o → vl WW (o.take (i + 1 + b.length)) = vl WW (a.take (i + 1)) * vl WW b → Ev (fun k => mag_Mul.l0 k b o a (a.length : Int) ((i + 1 : Nat) : Int)) R) (d : Nat) :
    ∀ (j : Nat) (o : List Int) (c : Int), b.length - j = d → j ≤ b.length → o.length = a.length + b.length → Dg WW o → 0 ≤ c → c < 4294967296 →
    vl WW (o.take (i + b.length)) + c * WW ^ (i + j) = vl WW (a.take i) * vl WW b + rd a i * WW ^ i * vl WW (b.take j) →
    Ev (fun k => mag_Mul.l1 k b o (i : Int) (rd a i) c a (a.length : Int) (i : Int) b (b.length : Int) (j : Int)) R := by
  induction d with
  | zero =>
    intro j o c h1 h2 h3 h4 h5 h6 h7
    have e : j = b.length := by omega
    subst e
    rw [List.take_length] at h7
    have ei : ((i : Int) + (b.length : Int)) = ((i + b.length : Nat) : Int) := by omega
    refine Ev.step (fun k => by rw [mag_Mul.l1]) ?_
    rw [ei, w64 (x := ((i + b.length : Nat) : Int)) (by omega) (by omega), Int.toNat_natCast, wsucc (i := i) (by omega), Int.emod_eq_of_lt h5 h6]
    refine evn (by omega) (evp (by omega) (evp (by omega) ?_))
    refine hout _ (by simpa using h3) (h4.set _ h5 (by rw [WW_eq]; exact h6)) ?_
    rw [show i + 1 + b.length = i + b.length + 1 by omega, vl_set _ _ _ _ (by omega), vl_take WW a i hi]
    exact alg_mul2 h7
  | succ d ih =>
    intro j o c h1 h2 h3 h4 h5 h6 h7
    have hx := dg_rd ha (i : Int) (by omega) (by omega)
    have hy := dg_rd hb (j : Int) (by omega) (by omega)
    have ho := dg_rd h4 ((i + j : Nat) : Int) (by omega) (by omega)
    rw [WW_eq] at hx hy ho
    obtain ⟨v, c', e1, e2, e3, v0, v1, c0, c1⟩ := mulc hx hy ho ⟨h5, h6⟩
    have h8 := ih (j + 1) (o.set (i + j) v) c' (by omega) (by omega) (by simpa using h3) (h4.set _ v0 (by rw [WW_eq]; exact v1)) c0 c1
      (by
        rw [vl_set_mid _ _ _ _ _ (by omega) (by omega), vl_take WW b j (by omega), show i + (j + 1) = i + j + 1 by omega, Int.pow_succ, Int.mul_comm (WW ^ (i + j)) WW]
        exact alg_mul h7 e3 (Int.pow_add _ _ _))
    have ei : ((i : Int) + (j : Int)) = ((i + j : Nat) : Int) := by omega
    refine Ev.step (fun k => by rw [mag_Mul.l1]) ?_
    rw [ei, w64 (x := ((i + j : Nat) : Int)) (by omega) (by omega), e1, e2, wsucc (by omega), Int.toNat_natCast]
    exact evp (by omega) (evp (by omega) (evp (by omega) (evp (by omega) (evp (by omega) h8))))
theorem mul_lt' {n m A C : Int} (h1 : n < A) (h2 : m < C) (h3 : 0 ≤ n) (h4 : 0 ≤ m) : n * m < A * C := by
  have h5 : n * m ≤ n * C := Int.mul_le_mul_of_nonneg_left (by omega) h3
  have h6 : n * C < A * C := Int.mul_lt_mul_of_pos_right h1 (by omega)
  omega
theorem mag_Mul_out {a b : List Int} (hn : a.length + b.length < 1099511627776) (ha : Dg WW a) (hb : Dg WW b) : ∃ R, Can WW R (vl WW a * vl WW b) ∧ R.length ≤ a.length + b.length ∧ ∀ (d i : Nat) (o : List Int), a.length - i = d → i ≤ a.length → o.length = a.length + b.length → Dg WW o → vl WW (o.take (i + b.length)) = vl WW (a.take i) * vl WW b →
    Ev (fun k => mag_Mul.l0 k b o a (a.length : Int) (i : Int)) R := by
  have key : ∀ o : List Int, o.length = a.length + b.length → Dg WW o → vl WW (o.take (a.length + b.length)) = vl WW (a.take a.length) * vl WW b → ∃ r, Ev (fun k => mag_Mul.l0 k b o a (a.length : Int) (a.length : Int)) r ∧ Can WW r (vl WW a * vl WW b) ∧ r.length ≤ a.length + b.length := by
    intro o h1 h2 h3
    obtain ⟨r, h8, h9, h10⟩ := mag_Trim_sp (l := o) (by omega) h2
    rw [← h1, List.take_length, List.take_length] at h3
    refine ⟨r, ?_, by rw [← h3]; exact h9, by omega⟩
    refine Ev.step (fun k => by rw [mag_Mul.l0]) ?_
    exact evn (by omega) (Ev.bind h8 (evs _))
  have hv : ∃ R, Can WW R (vl WW a * vl WW b) ∧ R.length ≤ a.length + b.length := by
    have hnn : 0 ≤ vl WW a * vl WW b := Int.mul_nonneg (vl_nonneg WW_pos ha) (vl_nonneg WW_pos hb)
    obtain ⟨R, hR⟩ := can_ex WW_one hnn
    refine ⟨R, hR, ?_⟩
    refine hR.len_le WW_one ?_
    rw [Int.pow_add]
    have h1 := vl_lt WW_pos ha
    have h2 := vl_lt WW_pos hb
    have h3 := vl_nonneg WW_pos ha
    have h4 := vl_nonneg WW_pos hb
    exact mul_lt' h1 h2 h3 h4
  obtain ⟨R, hR, hRl⟩ := hv
  refine ⟨R, hR, hRl, ?_⟩
  intro d
  induction d with
  | zero =>
    intro i o h1 h2 h3 h4 h5
    have e : i = a.length := by omega
    subst e
    obtain ⟨r, h6, h7, _⟩ := key o h3 h4 h5
    rw [can_uniq WW_pos hR h7]
    exact h6
  | succ d ih =>
    intro i o h1 h2 h3 h4 h5
    have h6 := mag_Mul_in hn ha hb i (by omega) R (fun o' q1 q2 q3 => ih (i + 1) o' (by omega) (by omega) q1 q2 (by rw [q3])) b.length 0 o 0 (by omega) (by omega) h3 h4 (by omega) (by omega) (by rw [h5]; simp [vl])
    refine Ev.step (fun k => by rw [mag_Mul.l0]) ?_
    exact evp (by omega) (evp (by omega) (evp (by omega) h6))
theorem mag_Mul_sp {a b : List Int} {n m : Int} (hn : a.length + b.length < 1099511627776) (ha : Can WW a n) (hb : Can WW b m) : ∃ r, Ev (fun k => mag_Mul.f k a b) r ∧ Can WW r (n * m) ∧ r.length ≤ a.length + b.length := by
  by_cases ha0 : a.length = 0
  · have e : a = [] := List.eq_nil_of_length_eq_zero ha0
    subst e
    have : n = 0 := by rw [← ha.2.2]; rfl
    subst this
    refine ⟨[], ?_, by rw [Int.zero_mul]; exact Can.zero _, Nat.zero_le _⟩
    unfold mag_Mul.f
    refine evp (by simp) ?_
    refine Ev.step (fun k => by rw [mag_Mul.j0]) ?_
    exact evp rfl (evs _)
  · by_cases hb0 : b.length = 0
    · have e : b = [] := List.eq_nil_of_length_eq_zero hb0
      subst e
      have : m = 0 := by rw [← hb.2.2]; rfl
      subst this
      refine ⟨[], ?_, by rw [Int.mul_zero]; exact Can.zero _, Nat.zero_le _⟩
      unfold mag_Mul.f
      refine evn (by omega) ?_
      refine Ev.step (fun k => by rw [mag_Mul.j0]) ?_
      exact evp rfl (evs _)
    · obtain ⟨R, h1, h2, h3⟩ := mag_Mul_out hn ha.1 hb.1
      rw [ha.2.2, hb.2.2] at h1
      refine ⟨R, ?_, h1, h2⟩
      have h4 := h3 a.length 0 (List.replicate (a.length + b.length) 0) (by omega) (by omega) (by simp) (Dg.rep WW_pos _) (by rw [List.take_replicate]; simp [vl, vl_rep])
      unfold mag_Mul.f
      refine evn (by omega) ?_
      refine Ev.step (fun k => by rw [mag_Mul.j0]) ?_
      have e : (a.length : Int) + (b.length : Int) = ((a.length + b.length : Nat) : Int) := by omega
      rw [e, w64 (by omega) (by omega), Int.toNat_natCast]
      refine evn ?_ (evp (by omega) (evp (by omega) h4))
      simp only [beq_iff_eq]
      omega
end Go.Proofs.Ytfmobogdnlmdbaa.P
end
section
namespace Go.Proofs.Ytfmobogdnlmdbaa.P
open Go.RowKit Go.Proofs.YtfmobogdnlmdbaaW.PrintWords Go.Proofs.YtfmobogdnlmdbaaW.PrintLast Go.Proofs.YtfmobogdnlmdbaaW.PrintMore
set_option linter.unusedVariables false
abbrev RR : Int := 10000
theorem RR_pos : (0 : Int) < RR := by decide
theorem RR_one : (1 : Int) < RR := by decide
theorem RR_eq : RR = 10000 := rfl
theorem r_trim_ev {l : List Int} (hn : l.length < 4611686018427387904) (hd : Dg RR l) (d : Nat) : ∀ i : Nat, i = d → i ≤ l.length → ∃ r, Ev (fun k => isochroneref01_trim.l0 k l (i : Int)) r ∧ Can RR r (vl RR (l.take i)) ∧ r.length ≤ i := by
  induction d with
  | zero =>
    rintro i rfl h
    refine ⟨[], ?_, Can.zero _, Nat.le_refl _⟩
    refine Ev.step (fun k => by rw [isochroneref01_trim.l0]) ?_
    exact evn (by omega) (evp (by omega) (evp (by omega) (evs _)))
  | succ d ih =>
    rintro i rfl h
    have hw : ((d + 1 : Nat) : Int) - 1 = (d : Int) := by omega
    by_cases hz : rd l d = 0
    · obtain ⟨r, h1, h2, h3⟩ := ih d rfl (by omega)
      refine ⟨r, ?_, ?_, by omega⟩
      · refine Ev.step (fun k => by rw [isochroneref01_trim.l0]) ?_
        rw [hw, w64 (x := (d : Int)) (by omega) (by omega)]
        exact evp (by omega) (evp (by omega) (evp (by omega) (evp hz h1)))
      · rw [vl_take RR l d (by omega), hz, Int.zero_mul, Int.add_zero]
        exact h2
    · refine ⟨l.take (d + 1), ?_, ⟨hd.take _, nm_of_rd (fun _ => ?_), rfl⟩, by rw [List.length_take]; omega⟩
      · refine Ev.step (fun k => by rw [isochroneref01_trim.l0]) ?_
        rw [hw, w64 (x := (d : Int)) (by omega) (by omega), Int.toNat_natCast]
        exact evp (by omega) (evp (by omega) (evp (by omega) (evn hz (evp (by omega) (evp (by omega) (evs _))))))
      · rw [List.length_take, Nat.min_eq_left (by omega), hw, rd_take _ _ _ (by omega)]
        exact hz
theorem r_trim_sp {l : List Int} (hn : l.length < 4611686018427387904) (hd : Dg RR l) : ∃ r, Ev (fun k => isochroneref01_trim.f k l) r ∧ Can RR r (vl RR l) ∧ r.length ≤ l.length := by
  obtain ⟨r, h1, h2⟩ := r_trim_ev hn hd l.length l.length rfl (Nat.le_refl _)
  rw [List.take_length] at h2
  exact ⟨r, Ev.congr (fun k => by rw [isochroneref01_trim.f]) h1, h2⟩
theorem isochroneref01_Cmp_ev {a b : List Int} (hl : a.length = b.length) (hn : a.length < 4611686018427387904) (ha : Dg RR a) (hb : Dg RR b) (d : Nat) :
    ∀ (i : Nat), i = d → i ≤ a.length → vl RR (a.drop i) = vl RR (b.drop i) → ∃ r, Ev (fun k => isochroneref01_Cmp.l0 k a b ((i : Int) - 1)) r ∧ (r = -1 ∧ vl RR a < vl RR b ∨ r = 0 ∧ vl RR a = vl RR b ∨ r = 1 ∧ vl RR b < vl RR a) := by
  induction d with
  | zero =>
    rintro i rfl h1 h2
    refine ⟨0, ?_, .inr (.inl ⟨rfl, by simpa using h2⟩)⟩
    refine Ev.step (fun k => by rw [isochroneref01_Cmp.l0]) ?_
    exact evn (by omega) (evs _)
  | succ d ih =>
    rintro i rfl h1 h2
    have e1 : (((d + 1 : Nat) : Int) - 1) = (d : Int) := by omega
    rw [e1]
    have h3 := vl_drop RR a d (by omega)
    have h4 := vl_drop RR b d (by omega)
    have ea : a.drop d = rd a d :: a.drop (d + 1) := by rw [rd_lt a d (by omega)]; exact (List.drop_eq_getElem_cons (by omega))
    have eb : b.drop d = rd b d :: b.drop (d + 1) := by rw [rd_lt b d (by omega)]; exact (List.drop_eq_getElem_cons (by omega))
    have ta := vl_lt RR_pos (ha.take d)
    have tb := vl_lt RR_pos (hb.take d)
    have ta0 := vl_nonneg RR_pos (ha.take d)
    have tb0 := vl_nonneg RR_pos (hb.take d)
    rw [List.length_take, Nat.min_eq_left (by omega)] at ta tb
    by_cases he : rd a d = rd b d
    · obtain ⟨r, h5, h6⟩ := ih d rfl (by omega) (by rw [ea, eb, vl, vl, he, h2])
      refine ⟨r, ?_, h6⟩
      refine Ev.step (fun k => by rw [isochroneref01_Cmp.l0]) ?_
      rw [w64 (by omega) (by omega)]
      exact evp (by omega) (evp (by omega) (evp (by omega) (evp (by omega) (evp he h5))))
    · have h7 : vl RR (a.drop d) = rd a d + RR * vl RR (a.drop (d + 1)) := by rw [ea, vl]
      have h8 : vl RR (b.drop d) = rd b d + RR * vl RR (b.drop (d + 1)) := by rw [eb, vl]
      have hp : 0 < RR ^ d := Int.pow_pos RR_pos
      by_cases hlt : rd a d < rd b d
      · refine ⟨-1, ?_, .inl ⟨rfl, ?_⟩⟩
        · refine Ev.step (fun k => by rw [isochroneref01_Cmp.l0]) ?_
          exact evp (by omega) (evp (by omega) (evp (by omega) (evp (by omega) (evn he (evp hlt (evs _))))))
        · have h9 : RR ^ d * (vl RR (a.drop d) + 1) ≤ RR ^ d * vl RR (b.drop d) := Int.mul_le_mul_of_nonneg_left (by rw [h7, h8, h2]; omega) (by omega)
          rw [Int.mul_add] at h9
          omega
      · refine ⟨1, ?_, .inr (.inr ⟨rfl, ?_⟩)⟩
        · refine Ev.step (fun k => by rw [isochroneref01_Cmp.l0]) ?_
          exact evp (by omega) (evp (by omega) (evp (by omega) (evp (by omega) (evn he (evn hlt (evs _))))))
        · have h9 : RR ^ d * (vl RR (b.drop d) + 1) ≤ RR ^ d * vl RR (a.drop d) := Int.mul_le_mul_of_nonneg_left (by rw [h7, h8, h2]; omega) (by omega)
          rw [Int.mul_add] at h9
          omega
theorem isochroneref01_Cmp_sp {a b : List Int} {n m : Int} (hn : a.length < 4611686018427387904) (ha : Can RR a n) (hb : Can RR b m) : Ev (fun k => isochroneref01_Cmp.f k a b) (cmpi n m) := by
  unfold isochroneref01_Cmp.f
  by_cases hl : a.length = b.length
  · obtain ⟨r, h1, h2⟩ := isochroneref01_Cmp_ev hl hn ha.1 hb.1 a.length a.length rfl (Nat.le_refl _) (by rw [List.drop_length, hl, List.drop_length])
    have e : r = cmpi n m := by
      rw [ha.2.2, hb.2.2] at h2
      unfold cmpi
      rcases h2 with ⟨rfl, h⟩ | ⟨rfl, h⟩ | ⟨rfl, h⟩
      · rw [if_pos h]
      · rw [if_neg (by omega), if_pos h]
      · rw [if_neg (by omega), if_neg (by omega)]
    rw [← e]
    refine evp (by omega) ?_
    rw [w64 (by omega) (by omega)]
    exact h1
  · refine evn (by omega) ?_
    unfold cmpi
    by_cases h : a.length < b.length
    · have := Can.len_lt RR_one ha hb h
      rw [if_pos this]
      exact evp (by omega) (evs _)
    · have := Can.len_lt RR_one hb ha (by omega)
      rw [if_neg (show ¬ n < m by omega), if_neg (show ¬ n = m by omega)]
      exact evn (by omega) (evs _)
theorem tmod_nn {x : Int} (h : 0 ≤ x) (m : Int) : Int.tmod x m = x % m := Int.tmod_eq_emod_of_nonneg h
theorem tdiv_nn {x : Int} (h : 0 ≤ x) (m : Int) : Int.tdiv x m = x / m := Int.tdiv_eq_ediv_of_nonneg h
theorem vl_snoc (B : Int) (l : List Int) (x : Int) : vl B (l ++ [x]) = vl B l + x * B ^ l.length := by
  rw [vl_append]
  simp only [vl]
  grind
theorem alg_sm {vo c P n v c' R : Int} (h : vo + c * P = n) (h2 : v + R * c' = c) : vo + v * P + c' * (R * P) = n := by grind
theorem alg_sm2 {vo c P va x k v c' R c0 : Int} (h : vo + c * P = c0 + k * va) (h2 : v + R * c' = c + x * k) : vo + v * P + c' * (R * P) = c0 + k * (va + x * P) := by grind
theorem r_Small_in (o0 : List Int) (n : Int) (c : Nat) : ∀ (o : List Int) (cc : Int), cc = (c : Int) → cc < 4611686018427387904 → o.length + c < 1099511627776 → Dg RR o → vl RR o + cc * RR ^ o.length = n → ∃ r, Ev (fun k => isochroneref01_Small.l1 k cc o) r ∧ Can RR r n := by
  induction c using Nat.strongRecOn with
  | _ c ih =>
    intro o cc hcc hlt hl hd hv
    by_cases h0 : c = 0
    · subst h0
      have e : cc = 0 := by omega
      subst e
      rw [Int.zero_mul, Int.add_zero] at hv
      obtain ⟨r, h1, h2, _⟩ := r_trim_sp (l := o) (by omega) hd
      refine ⟨r, ?_, by rw [← hv]; exact h2⟩
      refine Ev.step (fun k => by rw [isochroneref01_Small.l1]) ?_
      exact evn (by omega) (Ev.bind h1 (evs _))
    · obtain ⟨r, h1, h2⟩ := ih (c / 10000) (by omega) (o ++ [cc % 10000]) (cc / 10000) (by omega) (by omega) (by simp; omega) (hd.append (Dg.mk (by omega) (by rw [RR_eq]; omega) (Dg.nil _)))
        (by rw [vl_snoc, List.length_append, List.length_singleton, Int.pow_succ, Int.mul_comm (RR ^ o.length) RR]; exact alg_sm hv (by rw [RR_eq]; omega))
      refine ⟨r, ?_, h2⟩
      refine Ev.step (fun k => by rw [isochroneref01_Small.l1]) ?_
      rw [tmod_nn (x := cc) (by omega), tdiv_nn (x := cc) (by omega), w64 (x := cc / 10000) (by omega) (by omega)]
      exact evp (by omega) (evp (by omega) h1)
theorem r_Small_l0 {a : List Int} (hn : a.length < 549755813888) (ha : Dg RR a) {k0 c0 : Int} (hk : 0 ≤ k0 ∧ k0 ≤ 65536) (d : Nat) :
    ∀ (i : Nat) (o : List Int) (c : Int), a.length - i = d → i ≤ a.length → o.length = i → Dg RR o → 0 ≤ c → c ≤ 65536 → vl RR o + c * RR ^ i = c0 + k0 * vl RR (a.take i) →
    ∃ r, Ev (fun k => isochroneref01_Small.l0 k k0 c o a (a.length : Int) (i : Int)) r ∧ Can RR r (c0 + k0 * vl RR a) := by
  induction d with
  | zero =>
    intro i o c h1 h2 h3 h4 h5 h6 h7
    have e : i = a.length := by omega
    subst e
    rw [List.take_length] at h7
    obtain ⟨r, h8, h9⟩ := r_Small_in o (c0 + k0 * vl RR a) c.toNat o c (by omega) (by omega) (by omega) h4 (by rw [h3]; exact h7)
    refine ⟨r, ?_, h9⟩
    refine Ev.step (fun k => by rw [isochroneref01_Small.l0]) ?_
    exact evn (by omega) h8
  | succ d ih =>
    intro i o c h1 h2 h3 h4 h5 h6 h7
    have hx := dg_rd ha (i : Int) (by omega) (by omega)
    rw [RR_eq] at hx
    have hm : 0 ≤ rd a i * k0 := Int.mul_nonneg hx.1 hk.1
    have hm2 : rd a i * k0 ≤ 9999 * 65536 := Int.mul_le_mul (by omega) hk.2 hk.1 (by omega)
    obtain ⟨r, h8, h9⟩ := ih (i + 1) (o ++ [(c + rd a i * k0) % 10000]) ((c + rd a i * k0) / 10000) (by omega) (by omega) (by simp; omega) (h4.append (Dg.mk (by omega) (by rw [RR_eq]; omega) (Dg.nil _))) (by omega) (by omega)
      (by rw [vl_snoc, h3, vl_take RR a i (by omega), Int.pow_succ, Int.mul_comm (RR ^ i) RR]; exact alg_sm2 h7 (by rw [RR_eq]; omega))
    refine ⟨r, ?_, h9⟩
    refine Ev.step (fun k => by rw [isochroneref01_Small.l0]) ?_
    rw [w64 (x := rd a i * k0) (by omega) (by omega), w64 (x := c + rd a i * k0) (by omega) (by omega), tmod_nn (x := c + rd a i * k0) (by omega), tdiv_nn (x := c + rd a i * k0) (by omega), w64 (x := (c + rd a i * k0) / 10000) (by omega) (by omega), wsucc (i := i) (by omega)]
    exact evp (by omega) (evp (by omega) (evp (by omega) (evp (by omega) h8)))
theorem r_Small_sp {a : List Int} {n k0 c0 : Int} (hn : a.length < 549755813888) (ha : Can RR a n) (hk : 0 ≤ k0 ∧ k0 ≤ 65536) (hc : 0 ≤ c0 ∧ c0 ≤ 65536) : ∃ r, Ev (fun k => isochroneref01_Small.f k a k0 c0) r ∧ Can RR r (n * k0 + c0) ∧ r.length ≤ a.length + 2 := by
  obtain ⟨r, h1, h2⟩ := r_Small_l0 hn ha.1 hk (c0 := c0) a.length 0 [] c0 (by omega) (by omega) rfl (Dg.nil _) hc.1 hc.2 (by simp [vl])
  rw [ha.2.2, Int.add_comm, Int.mul_comm] at h2
  refine ⟨r, ?_, h2, ?_⟩
  · unfold isochroneref01_Small.f
    have e : (a.length : Int) + 2 = ((a.length + 2 : Nat) : Int) := by omega
    rw [e, w64 (by omega) (by omega), Int.toNat_natCast]
    exact evp (by omega) (evp (by omega) h1)
  · refine h2.len_le RR_one ?_
    have h3 := ha.lt RR_pos
    have h4 := ha.nonneg RR_pos
    have h5 : n * k0 ≤ n * 65536 := Int.mul_le_mul_of_nonneg_left hk.2 h4
    have h6 : RR ^ (a.length + 2) = RR ^ a.length * 100000000 := by rw [Int.pow_add]; rfl
    rw [h6]
    omega
theorem and16 {x : Int} (h0 : 0 ≤ x) (h1 : x < 4294967296) : Go.bits .and .u32 x 65535 = x % 65536 :=
  bits_mask .u32 32 (by decide) (fun n h0 h1 => by rw [IntKind.wrap_u32]; omega) 16 (by decide) x h0 h1
theorem r_Of_ev {a : List Int} (hn : a.length < 137438953472) (ha : Dg WW a) (d : Nat) : ∀ (i : Nat) (o : List Int), i = d → i ≤ a.length → Can RR o (vl WW (a.drop i)) → o.length ≤ 4 * (a.length - i) → ∃ r, Ev (fun k => isochroneref01_Of.l0 k a o ((i : Int) - 1)) r ∧ Can RR r (vl WW a) ∧ r.length ≤ 4 * a.length := by
  induction d with
  | zero =>
    rintro i o rfl h1 h2 h3
    refine ⟨o, ?_, by simpa using h2, by omega⟩
    refine Ev.step (fun k => by rw [isochroneref01_Of.l0]) ?_
    exact evn (by omega) (evs _)
  | succ d ih =>
    rintro i o rfl h1 h2 h3
    have e1 : (((d + 1 : Nat) : Int) - 1) = (d : Int) := by omega
    have hx := dg_rd ha (d : Int) (by omega) (by omega)
    rw [WW_eq] at hx
    obtain ⟨p, h4, h5, h6⟩ := r_Small_sp (k0 := 65536) (c0 := rd a d / 65536) (by omega) h2 (by omega) (by omega)
    obtain ⟨q, h7, h8, h9⟩ := r_Small_sp (k0 := 65536) (c0 := rd a d % 65536) (by omega) h5 (by omega) (by omega)
    have ea : a.drop d = rd a d :: a.drop (d + 1) := by rw [rd_lt a d (by omega)]; exact (List.drop_eq_getElem_cons (by omega))
    have ev : (vl WW (a.drop (d + 1)) * 65536 + rd a d / 65536) * 65536 + rd a d % 65536 = vl WW (a.drop d) := by
      rw [ea, vl, WW_eq]
      omega
    rw [ev] at h8
    obtain ⟨r, h10, h11⟩ := ih d q rfl (by omega) h8 (by omega)
    refine ⟨r, ?_, h11⟩
    refine Ev.step (fun k => by rw [isochroneref01_Of.l0]) ?_
    rw [e1, and16 hx.1 hx.2, w64 (x := rd a d / 65536) (by omega) (by omega), w64 (x := rd a d % 65536) (by omega) (by omega), w64 (x := (d : Int) - 1) (by omega) (by omega)]
    exact evp (by omega) (evp (by omega) (evp (by omega) (Ev.bind h4 (Ev.bind h7 h10))))
theorem r_Of_sp {a : List Int} {n : Int} (hn : a.length < 137438953472) (ha : Can WW a n) : ∃ r, Ev (fun k => isochroneref01_Of.f k a) r ∧ Can RR r n ∧ r.length ≤ 4 * a.length := by
  obtain ⟨r, h1, h2⟩ := r_Of_ev hn ha.1 a.length a.length [] rfl (Nat.le_refl _) (by rw [List.drop_length]; exact Can.zero _) (by simp)
  rw [ha.2.2] at h2
  refine ⟨r, ?_, h2⟩
  unfold isochroneref01_Of.f
  rw [w64 (x := (a.length : Int) - 1) (by omega) (by omega)]
  exact h1
end Go.Proofs.Ytfmobogdnlmdbaa.P
end
