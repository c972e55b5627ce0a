/- NatLimits: a sum or a product that needs more than 4096 words is refused with ErrLimit, and one that does not is returned, for every input. No condition. (text 6 of 6) -/
import Derived.Test.YtfmobogdnlmdbaaRows
import Derived.WalkKit
import Derived.ProofKit
import Derived.OpenShut
import Derived.ShutString
import Derived.ChangeOld
import Derived.Below
import Derived.SizedLaws
import Derived.Test.YtfmobogdnlmdbaaLim5
section
namespace Go.Proofs.Ytfmobogdnlmdbaa.P
open Go.RowKit Go.Proofs.YtfmobogdnlmdbaaW.PrintWords Go.Proofs.YtfmobogdnlmdbaaW.PrintLast Go.Proofs.YtfmobogdnlmdbaaW.PrintMore Go.Proofs.YtfmobogdnlmdbaaW
attribute [local go_sem] max2_int min2_int max_two min_two max_three min_three max_four min_four
set_option linter.unusedVariables false
set_option linter.unusedSimpArgs false
set_option maxHeartbeats 8000000 in
set_option maxRecDepth 100000 in
theorem isochronelaw01_NatLimits.calls (k : Nat) (a0 : Int) (a1 : Int) (r : Bool) (w : World) (h : isochronelaw01_NatLimits.f k a0 a1 = some r) :
  Calls Try.prog 4 #[.int .u16 a0, .int .u32 a1] w fun e w' => e = .returned (.bool r) ∧ Below w.heap.size w w' := by
 have HB := Aside0.mk (Below.refl w.heap.size w)
 have H : ((isochronelaw01_awake.f k).bind fun t465 => (if t465 = true then (if 0 ≤ (wrap64 ((Int.tmod (wrap64 (a0)) 4096) + 1)) then (if (wrap64 ((Int.tmod (wrap64 (a0)) 4096) + 1) : Int).toNat ≤ 70368744177664 then ((some (List.replicate (wrap64 ((Int.tmod (wrap64 (a0)) 4096) + 1) : Int).toNat 0 : List Int)).bind fun y466 => (isochronelaw01_NatLimits.l0 k a1 (wrap64 ((Int.tmod (wrap64 (a0)) 4096) + 1)) y466 (y466.length : Int) 0)) else (none)) else (none)) else (some false))) = some r := h
 clear h
 replace H := Option.bind_eq_some_iff.mp H
 obtain ⟨t465, A30, H⟩ := H
 replace H : (if t465 = true then (if 0 ≤ (wrap64 ((Int.tmod (wrap64 (a0)) 4096) + 1)) then (if (wrap64 ((Int.tmod (wrap64 (a0)) 4096) + 1) : Int).toNat ≤ 70368744177664 then ((some (List.replicate (wrap64 ((Int.tmod (wrap64 (a0)) 4096) + 1) : Int).toNat 0 : List Int)).bind fun y466 => (isochronelaw01_NatLimits.l0 k a1 (wrap64 ((Int.tmod (wrap64 (a0)) 4096) + 1)) y466 (y466.length : Int) 0)) else (none)) else (none)) else (some false)) = some r := H
 have A3 := Aside0.mk A30
 clear A30
 by_cases c4 : t465 = true
 ·subst c4
  have H1 : (if 0 ≤ (wrap64 ((Int.tmod (wrap64 (a0)) 4096) + 1)) then (if (wrap64 ((Int.tmod (wrap64 (a0)) 4096) + 1) : Int).toNat ≤ 70368744177664 then ((some (List.replicate (wrap64 ((Int.tmod (wrap64 (a0)) 4096) + 1) : Int).toNat 0 : List Int)).bind fun y466 => (isochronelaw01_NatLimits.l0 k a1 (wrap64 ((Int.tmod (wrap64 (a0)) 4096) + 1)) y466 (y466.length : Int) 0)) else (none)) else (none)) = some r := by rw [if_pos rfl] at H; exact H
  clear H
  have H := H1
  clear H1
  obtain ⟨ji5, hji5⟩ : ∃ j_ : Int, (wrap64 ((Int.tmod (wrap64 (a0)) 4096) + 1)) = j_ := ⟨_, rfl⟩
  replace H : (if 0 ≤ (ji5) then (if (ji5 : Int).toNat ≤ 70368744177664 then ((some (List.replicate (ji5 : Int).toNat 0 : List Int)).bind fun y466 => (isochronelaw01_NatLimits.l0 k a1 ji5 y466 (y466.length : Int) 0)) else (none)) else (none)) = some r := by first | (rw [hji5] at H; exact H) | (simp only [hji5] at H ⊢; exact H)
  (try rw [hji5] at A3)
  have hji5w : (IntKind.i64.wrap ((Int.tmod (wrap64 (a0)) 4096) + 1)) = ji5 := (i64_w _).trans hji5
  by_cases c6 : 0 ≤ (ji5)
  ·rw [if_pos c6] at H
   have c6b0 := eq_true c6
   have c6b1 : decide (0 ≤ (ji5)) = true := decide_eq_true c6
   clear c6
   by_cases c7 : (ji5 : Int).toNat ≤ 70368744177664
   ·rw [if_pos c7] at H
    have c7b0 := eq_true c7
    have c7b1 : decide ((ji5 : Int).toNat ≤ 70368744177664) = true := decide_eq_true c7
    clear c7
    obtain ⟨y466, hy466⟩ : ∃ y_ : List Int, y_ = (List.replicate (ji5 : Int).toNat 0) := ⟨_, rfl⟩
    replace H : (isochronelaw01_NatLimits.l0 k a1 ji5 y466 (y466.length : Int) 0) = some r := by first | (rw [hy466]; with_reducible exact H) | (have H2_ := (Option.bind_some _ _).symm.trans H; rw [hy466]; with_reducible exact H2_) | (have H2_ := (Option.bind_some _ _).symm.trans H; with_reducible exact H2_) | with_reducible exact H | (rw [hy466]; exact H) | exact H
    have Ny466 := Aside0.mk hy466
    clear hy466
    have H' := Aside0.mk H
    clear H
    go_enter Try.func4, Try.ntmps4
    go_wp2_with (first | ((with_reducible refine gate_callee (f := 11) rfl ?_); refine goesL_ (some 16) rfl rfl Try.func11 (by kernel_rfl) rfl #[] rfl (by (try simp only [List.map_toArray, List.map_cons, List.map_nil]); first | done | rfl | (simp only [List.length_drop, List.length_take]; rfl)) ?_; (with_reducible refine (isochronelaw01_awake.calls k  true _ A3.out).mono ?_); rintro e w8 ⟨rfl, hb⟩; refine ⟨_, rfl, ?_⟩; have n0_ := Aside0.mk (below_step (bB) hb); clear HB; have HB := n0_; clear n0_; (try clear hb); (try clear hb2); (try clear hk); (try clear hi)) | ((with_reducible refine gate_dst (N := 23) rfl ?_); (try (refine gate_guard (by rfl) ?_; dsimp only)); refine Kd.R_make (Kd.int .u32) _ 36 rfl (N := 23) rfl 22 _ _ rfl ji5 rfl rfl Try.underlying22 (.int .u32 0) 4 info36 rfl (by decide) (by omega) 0 (ok := fun _ => True) (okp := fun _ => True) rfl (fun _ hk => hk) trivial (of_decide_eq_true aS) (Nat.le_trans (Nat.mul_le_mul_right _ (of_decide_eq_true aS : ji5.toNat ≤ 70368744177664)) (by omega)) (Below.refl _ _) (Nat.le_refl _) ?_; intro v467 w9 ho10 hb hg_ hnew_; clear hg_ hnew_; (first | rw [← Ny466.out] at ho10 | (simp only [Int.reduceToNat] at ho10; rw [← Ny466.out] at ho10)); have n0_ := Aside0.mk (Kd.R_lower ho10 (below_size (bB))); have n1_ := Aside0.mk (below_step (bB) hb); clear HB; have HO468 := n0_; have HB := n1_; clear n0_ n1_; clear hb ho10; obtain ⟨Ao11, co11, eo11⟩ := Kd.R_slice HO468.out; subst eo11))
    go_loopg [26] k (fun kq v26 w' => ∃ (x6_1 : List Int) (x26_1 : Int), v26 = .int .i64 x26_1 ∧ Aside0 (isochronelaw01_NatLimits.l0 kq a1 ji5 x6_1 (y466.length : Int) x26_1 = some r) ∧ Aside0 (kq ≤ k) ∧ Aside0 (Kd.R (Kd.int .u32) 36 w' w.heap.size (fun _ => True) (.slice Ao11 y466.length co11) x6_1) ∧ Aside0 (Below w.heap.size w w'))
    case atStart => exact ⟨(y466), (0), (by first | rfl | (simp; done) | (simp [*]; done)), H', ⟨Nat.le_refl _⟩, ⟨by (with_reducible repeat (first | apply Kd.R_alloc | apply Kd.R_drewN | apply Kd.R_drew)); exact HO468.out⟩, ⟨by repeat (first | (with_reducible first | exact HB.out | apply below_alloc | apply pw_below_drewN | apply below_drew1) | exact HB.out)⟩⟩
    case round =>
     clear H'
     try clear c1
     try clear p2
     try clear c4
     try clear c6
     try clear c6b0
     try clear c6b1
     try clear p6
     try clear c7
     try clear c7b0
     try clear c7b1
     try clear c11
     obtain ⟨x6_1, x26_1, rfl, HA, HK1, HO_6, HB⟩ := hrel
     have hl6_1 := (Kd.R_reads' HO_6.out).1
     rw [hl6_1] at HO_6
     (try simp only [hl6_1])
     cases gk with
     | zero => exact absurd HA.out (by simp [isochronelaw01_NatLimits.l0])
     | succ k1 =>
      have H := HA.out
      clear HA
      simp only [isochronelaw01_NatLimits.l0] at H
      by_cases c12 : x26_1 < (y466.length : Int)
      ·rw [if_pos c12] at H
       have c12b0 : decide (x26_1 < (y466.length : Int)) = true := decide_eq_true c12
       clear c12
       have c12bh := c12b0
       (try simp only [hl6_1] at c12bh)
       by_cases c13 : 0 ≤ x26_1
       ·rw [if_pos c13] at H
        have c13b0 : decide (0 ≤ x26_1) = true := decide_eq_true c13
        clear c13
        by_cases c14 : x26_1 < (x6_1.length : Int)
        ·rw [if_pos c14] at H
         have c14b0 : decide (x26_1 < (x6_1.length : Int)) = true := decide_eq_true c14
         clear c14
         have c14bh := c14b0
         (try simp only [hl6_1] at c14bh)
         obtain ⟨y469, hy469⟩ : ∃ y_ : List Int, y_ = (x6_1.set (x26_1 : Int).toNat 4294967295) := ⟨_, rfl⟩
         replace H : (isochronelaw01_NatLimits.l0 k1 a1 ji5 y469 (y466.length : Int) (wrap64 (x26_1 + 1))) = some r := by first | (rw [hy469]; with_reducible exact H) | (have H2_ := (Option.bind_some _ _).symm.trans H; rw [hy469]; with_reducible exact H2_) | (have H2_ := (Option.bind_some _ _).symm.trans H; with_reducible exact H2_) | with_reducible exact H | (rw [hy469]; exact H) | exact H
         have Ny469 := Aside0.mk hy469
         clear hy469
         have H' := Aside0.mk H
         clear H
         have p15 : 0 ≤ (x26_1 : Int) := of_decide_eq_true aS
         have q15 : (x26_1 : Int) < ((x6_1.length : Int) : Int) := of_decide_eq_true aS
         obtain ⟨go15, co15, eo15, gb15, gl15, cl15, HG15⟩ := Kd.R_form HO_6.out (by omega)
         (first | cases eo15 | (injection eo15 with ea_ en_ ec_; (first | subst ea_ | (injection ea_ with ea_; subst ea_)); subst ec_; clear en_))
         have GB15 := Aside0.mk gb15
         have GG15 := Aside0.mk HG15
         clear gb15 gl15 HG15
         obtain ⟨hx15_0, hf15_0⟩ := Kd.R_celln 0 HO_6.out (x26_1 : Int) p15 q15
         replace p15 := eq_true p15
         replace q15 := eq_true q15
         have HP16 := Kd.R_putg HO_6.out (x26_1 : Int) 4294967295
         go_wp2_with (first | ((with_reducible refine gate_store (t := 36) (p := 31) rfl ?_); refine store_event (t := 36) (p := 31) (v := ?vo_w17) (w1 := (wr.setCell ⟨go15, (x26_1 : Int).toNat, none⟩ (.int .u32 4294967295))) ?hg ?ho ?hn ?hr ?_; (case ho => rfl); (case hg => rfl); (case hn => rfl); (case hr => first | (go_simp; done) | (go_simp; rfl)); intro w17 hw; have hg : wr.grownBy w17 (some go15) := (by rw [hw]; exact HP16.2); have hp_ : Kd.R (Kd.int .u32) 36 w17 w.heap.size (fun _ => True) (.slice (some ⟨go15, 0, none⟩) x6_1.length co11) y469 := (by rw [hw, Ny469.out]; exact HP16.1); clear HP16; have n0_ := Aside0.mk (hp_); have n1_ := Aside0.mk ((by rw [hw]; exact below_set (HB.out) GB15.out : Below w.heap.size w w17)); clear HO_6; clear HB; have HO_6 := n0_; have HB := n1_; clear n0_ n1_; clear hg hw hp_))
         (try simp only [← hl6_1])
         go_roundg k1
         case measure => have := HK1.out; omega
         case rel => exact ⟨(y469), (wrap64 (x26_1 + 1)), (by first | rfl | (simp; done) | (simp [*]; done)), H', ⟨by have := HK1.out; omega⟩, ⟨by (try simp only [hl6_1]); (with_reducible repeat (first | apply Kd.R_alloc | apply Kd.R_drewN | apply Kd.R_drew)); exact HO_6.out⟩, ⟨by repeat (first | (with_reducible first | exact HB.out | apply below_alloc | apply pw_below_drewN | apply below_drew1) | exact HB.out)⟩⟩
        ·rw [if_neg c14] at H
         exact absurd H (by simp)
       ·rw [if_neg c13] at H
        exact absurd H (by simp)
      ·rw [if_neg c12] at H
       have c12b0 : decide (x26_1 < (y466.length : Int)) = false := decide_eq_false c12
       clear c12
       have c12bh := c12b0
       (try simp only [hl6_1] at c12bh)
       obtain ⟨y470, hy470⟩ : ∃ y_ : List Int, y_ = (([Go.bits .or .u32 a1 1] : List Int)) := ⟨_, rfl⟩
       replace H : ((nat_Add.f k1 x6_1 y470).bind fun bt473 => (if ji5 = 4096 then (if bt473.2 = 2 then (if (bt473.1.length : Int) > 0 then (some false) else (isochronelaw01_NatLimits.j1 k1 ji5)) else (some false)) else (if bt473.2 = 0 then (if (bt473.1.length : Int) = (wrap64 (ji5 + 1)) then (if 0 < (bt473.1.length : Int) then (if (rd bt473.1 0) = (((Go.bits .or .u32 a1 1) - 1) % 4294967296) then (if 0 ≤ ji5 then (if ji5 < (bt473.1.length : Int) then (if (rd bt473.1 ji5) = 1 then (isochronelaw01_NatLimits.j1 k1 ji5) else (some false)) else (none)) else (none)) else (some false)) else (none)) else (some false)) else (some false)))) = some r := by first | (rw [hy470]; with_reducible exact H) | (have H2_ := (Option.bind_some _ _).symm.trans H; rw [hy470]; with_reducible exact H2_) | (have H2_ := (Option.bind_some _ _).symm.trans H; with_reducible exact H2_) | with_reducible exact H | (rw [hy470]; exact H) | exact H
       have Ny470 := Aside0.mk hy470
       clear hy470
       replace H := Option.bind_eq_some_iff.mp H
       obtain ⟨⟨t473, t474⟩, A180, H⟩ := H
       replace H : (if ji5 = 4096 then (if t474 = 2 then (if (t473.length : Int) > 0 then (some false) else (isochronelaw01_NatLimits.j1 k1 ji5)) else (some false)) else (if t474 = 0 then (if (t473.length : Int) = (wrap64 (ji5 + 1)) then (if 0 < (t473.length : Int) then (if (rd t473 0) = (((Go.bits .or .u32 a1 1) - 1) % 4294967296) then (if 0 ≤ ji5 then (if ji5 < (t473.length : Int) then (if (rd t473 ji5) = 1 then (isochronelaw01_NatLimits.j1 k1 ji5) else (some false)) else (none)) else (none)) else (some false)) else (none)) else (some false)) else (some false))) = some r := H
       have A18 := Aside0.mk A180
       clear A180
       have HC19 := Aside0.mk H
       clear H
       go_upto_if 43 with (first | ((with_reducible refine gate_dst (N := 38) rfl ?_); (try (refine gate_guard (by rfl) ?_; dsimp only)); refine Kd.R_lit (Kd.int .u32) _ 36 ?hg (N := 38) ?hd (xs := ([Go.bits .or .u32 a1 1] : List Int)) (inner := [.int .u32 (Go.bits .or .u32 a1 1)]) (ok := fun _ => True) (okp := fun _ => True) ?hr ?hp (fun _ hk => hk) trivial (Below.refl _ _) (Nat.le_refl _) (by simp) ?_; (case hd => rfl); (case hg => rfl); (case hr => first | (go_simp; done) | (go_simp; rfl)); (case hp => exact (Reps.one (show Kd.M (Kd.int .u32) _ _ _ (Go.bits .or .u32 a1 1) [.int .u32 (Go.bits .or .u32 a1 1)] from rfl) (Reps.none _ _))); intro v471 w20 ho21 hb hg_ hnew_; clear hg_ hnew_; (first | rw [← Ny470.out] at ho21 | (simp only [Int.reduceToNat] at ho21; rw [← Ny470.out] at ho21)); have n0_ := Aside0.mk (Kd.R_elder' (by (with_reducible repeat (first | apply Kd.R_alloc | apply Kd.R_drewN | apply Kd.R_drew)); exact HO_6.out) (Kd.R_base ho21) hb); have n1_ := Aside0.mk (Kd.R_lower (Kd.R_new' ho21 (Kd.R_lt (by (with_reducible repeat (first | apply Kd.R_alloc | apply Kd.R_drewN | apply Kd.R_drew)); exact HO_6.out))) (below_size (bB))); have n2_ := Aside0.mk (below_step (bB) hb); clear HO_6; clear HB; have HO_6 := n0_; have HO472 := n1_; have HB := n2_; clear n0_ n1_ n2_; clear hb ho21; obtain ⟨Ao22, co22, eo22⟩ := Kd.R_slice HO472.out; subst eo22) | ((with_reducible refine gate_callee (f := 20) rfl ?_); refine goesL_ (some 39) rfl rfl Try.func20 (by kernel_rfl) rfl #[.slice Ao11 x6_1.length co11, .slice Ao22 y470.length co22] rfl (by (try simp only [List.map_toArray, List.map_cons, List.map_nil]); first | done | rfl | (simp only [List.length_drop, List.length_take]; rfl)) ?_; (with_reducible refine (nat_Add.calls k1 _ _ x6_1 _ _ y470 t473 t474 _ ?side1 ?side2 ?side3 ?side4 A18.out).mono ?_); (case side1 => repeat (first | exact (Kd.R_reads' HO_6.out).2.2 | (with_reducible refine Kd.C_alloc ?_ _) | (with_reducible refine Kd.C_drewN ?_ _) | (with_reducible refine Kd.C_drew ?_))); (case side2 => exact (Kd.R_reads' HO_6.out).2.1); (case side3 => repeat (first | exact (Kd.R_reads' HO472.out).2.2 | (with_reducible refine Kd.C_alloc ?_ _) | (with_reducible refine Kd.C_drewN ?_ _) | (with_reducible refine Kd.C_drew ?_))); (case side4 => exact (Kd.R_reads' HO472.out).2.1); rintro e w23 ⟨v475, rfl, ho0, hb⟩; refine ⟨_, rfl, ?_⟩; have n0_ := Aside0.mk (Kd.R_elder' (by (with_reducible repeat (first | apply Kd.R_alloc | apply Kd.R_drewN | apply Kd.R_drew)); exact HO_6.out) (Kd.R_base ho0) hb); have n1_ := Aside0.mk (Kd.R_elder' (by (with_reducible repeat (first | apply Kd.R_alloc | apply Kd.R_drewN | apply Kd.R_drew)); exact HO472.out) (Kd.R_base ho0) hb); have n2_ := Aside0.mk (Kd.R_lower (Kd.R_new' (Kd.R_new' ho0 (Kd.R_lt (by (with_reducible repeat (first | apply Kd.R_alloc | apply Kd.R_drewN | apply Kd.R_drew)); exact HO_6.out))) (Kd.R_lt (by (with_reducible repeat (first | apply Kd.R_alloc | apply Kd.R_drewN | apply Kd.R_drew)); exact HO472.out))) (below_size (bB))); have n3_ := Aside0.mk (below_step (bB) hb); clear HO_6; clear HO472; clear HB; have HO_6 := n0_; have HO472 := n1_; have HO476 := n2_; have HB := n3_; clear n0_ n1_ n2_ n3_; (try clear hb); (try clear hb2); (try clear hk); (try clear hi); (try clear ho0)))
       (try simp only [Act.put, List.setIfInBounds_toArray, List.set_cons_zero, List.set_cons_succ])
       go_cut [] (fun wc => ∃ (kq : Nat), Aside0 (isochronelaw01_NatLimits.j1 kq ji5 = some r) ∧ Aside0 (kq ≤ k1) ∧ Aside0 (Below w.heap.size w wc))
       case first =>
        have H := HC19.out
        clear HC19
        by_cases c24 : ji5 = 4096
        ·rw [if_pos c24] at H
         have c24b0 : (ji5 == 4096) = true := beq_iff_eq.mpr c24
         have c24b1 : (ji5 != 4096) = false := bne_eq_false_iff_eq.mpr c24
         clear c24
         (first | rw [c24b0] | (simp only [i64_w, i32_w]; rw [c24b0]) | rw [c24b1] | skip)
         by_cases c25 : t474 = 2
         ·rw [if_pos c25] at H
          have c25b0 : (t474 == 2) = true := beq_iff_eq.mpr c25
          have c25b1 : (t474 != 2) = false := bne_eq_false_iff_eq.mpr c25
          clear c25
          by_cases c26 : (t473.length : Int) > 0
          ·rw [if_pos c26] at H
           have c26b0 : decide (0 < (t473.length : Int)) = true := decide_eq_true c26
           have c26b1 : decide (0 < t473.length) = true := decide_eq_true (by omega)
           clear c26
           have c26bh := c26b0
           (try simp only [hl6_1] at c26bh)
           obtain rfl := Option.some.inj H
           obtain ⟨Ao27, co27, eo27⟩ := Kd.R_slice HO476.out
           subst eo27
           go_wp2
           go_ret
           exact ⟨by first | rfl | (simp [errW_none, errW_some] <;> rfl) | (simp only [← hji5]; first | rfl | (simp [errW_none, errW_some] <;> rfl)) | (simp [*, errW_none, errW_some] <;> rfl), by repeat (first | (with_reducible first | exact HB.out | apply below_alloc | apply pw_below_drewN | apply below_drew1) | exact HB.out)⟩
          ·rw [if_neg c26] at H
           have c26b0 : decide (0 < (t473.length : Int)) = false := decide_eq_false c26
           have c26b1 : decide (0 < t473.length) = false := decide_eq_false (by omega)
           clear c26
           have c26bh := c26b0
           (try simp only [hl6_1] at c26bh)
           have H' := Aside0.mk H
           clear H
           obtain ⟨Ao28, co28, eo28⟩ := Kd.R_slice HO476.out
           subst eo28
           go_wp2
           go_meet
           case rel => exact ⟨_, H', ⟨by have := HK1.out; first | omega | exact Nat.le_refl _⟩, ⟨by repeat (first | (with_reducible first | exact HB.out | apply below_alloc | apply pw_below_drewN | apply below_drew1) | exact HB.out)⟩⟩
         ·rw [if_neg c25] at H
          have c25b0 : (t474 == 2) = false := beq_eq_false_iff_ne.mpr c25
          have c25b1 : (t474 != 2) = true := bne_iff_ne.mpr c25
          obtain rfl := Option.some.inj H
          go_wp2
          go_ret
          exact ⟨by first | rfl | (simp [errW_none, errW_some] <;> rfl) | (simp only [← hji5]; first | rfl | (simp [errW_none, errW_some] <;> rfl)) | (simp [*, errW_none, errW_some] <;> rfl), by repeat (first | (with_reducible first | exact HB.out | apply below_alloc | apply pw_below_drewN | apply below_drew1) | exact HB.out)⟩
        ·rw [if_neg c24] at H
         have c24b0 : (ji5 == 4096) = false := beq_eq_false_iff_ne.mpr c24
         have c24b1 : (ji5 != 4096) = true := bne_iff_ne.mpr c24
         (first | rw [c24b0] | (simp only [i64_w, i32_w]; rw [c24b0]) | rw [c24b1] | skip)
         by_cases c29 : t474 = 0
         ·rw [if_pos c29] at H
          have c29b0 : (t474 == 0) = true := beq_iff_eq.mpr c29
          have c29b1 : (t474 != 0) = false := bne_eq_false_iff_eq.mpr c29
          clear c29
          by_cases c30 : (t473.length : Int) = (wrap64 (ji5 + 1))
          ·rw [if_pos c30] at H
           have c30b0 : ((t473.length : Int) == (wrap64 (ji5 + 1))) = true := beq_iff_eq.mpr c30
           have c30b1 : ((t473.length : Int) != (wrap64 (ji5 + 1))) = false := bne_eq_false_iff_eq.mpr c30
           clear c30
           have c30bh := c30b0
           (try simp only [hl6_1] at c30bh)
           by_cases c31 : 0 < (t473.length : Int)
           ·rw [if_pos c31] at H
            have c31b0 : decide (0 < (t473.length : Int)) = true := decide_eq_true c31
            have c31b1 : decide (0 < t473.length) = true := decide_eq_true (by omega)
            clear c31
            have c31bh := c31b0
            (try simp only [hl6_1] at c31bh)
            by_cases c32 : (rd t473 0) = (((Go.bits .or .u32 a1 1) - 1) % 4294967296)
            ·rw [if_pos c32] at H
             have c32b0 : ((rd t473 0) == (((Go.bits .or .u32 a1 1) - 1) % 4294967296)) = true := beq_iff_eq.mpr c32
             have c32b1 : ((rd t473 0) != (((Go.bits .or .u32 a1 1) - 1) % 4294967296)) = false := bne_eq_false_iff_eq.mpr c32
             clear c32
             by_cases c33 : 0 ≤ ji5
             ·rw [if_pos c33] at H
              have c33b0 : decide (0 ≤ ji5) = true := decide_eq_true c33
              clear c33
              by_cases c34 : ji5 < (t473.length : Int)
              ·rw [if_pos c34] at H
               have c34b0 : decide (ji5 < (t473.length : Int)) = true := decide_eq_true c34
               clear c34
               have c34bh := c34b0
               (try simp only [hl6_1] at c34bh)
               by_cases c35 : (rd t473 ji5) = 1
               ·rw [if_pos c35] at H
                have c35b0 : ((rd t473 ji5) == 1) = true := beq_iff_eq.mpr c35
                have c35b1 : ((rd t473 ji5) != 1) = false := bne_eq_false_iff_eq.mpr c35
                clear c35
                have H' := Aside0.mk H
                clear H
                obtain ⟨Ao36, co36, eo36⟩ := Kd.R_slice HO476.out
                subst eo36
                have p477 : 0 ≤ (0 : Int) := (by omega)
                have q477 : 0 < (t473.length : Int) := of_decide_eq_true aS
                obtain ⟨ad477, e477, hx477_0⟩ := Kd.at_int (Kd.R_reads' HO476.out).2.2 0 p477 q477
                cases e477
                have qi477 : (0 < t473.length) = True := eq_true (by omega)
                (try rw [show ((0 : Int)).toNat = 0 from rfl] at hx477_0)
                (try rw [Addr.add_zero'] at hx477_0)
                replace p477 := eq_true p477
                replace q477 := eq_true q477
                have p478 : 0 ≤ (ji5 : Int) := of_decide_eq_true aS
                have q478 : ji5 < (t473.length : Int) := of_decide_eq_true aS
                obtain ⟨ad478, e478, hx478_0⟩ := Kd.at_int (Kd.R_reads' HO476.out).2.2 ji5 p478 q478
                obtain rfl : ad477 = ad478 := (by injection e478)
                replace p478 := eq_true p478
                replace q478 := eq_true q478
                go_wp2
                go_meet
                case rel => exact ⟨_, H', ⟨by have := HK1.out; first | omega | exact Nat.le_refl _⟩, ⟨by repeat (first | (with_reducible first | exact HB.out | apply below_alloc | apply pw_below_drewN | apply below_drew1) | exact HB.out)⟩⟩
               ·rw [if_neg c35] at H
                have c35b0 : ((rd t473 ji5) == 1) = false := beq_eq_false_iff_ne.mpr c35
                have c35b1 : ((rd t473 ji5) != 1) = true := bne_iff_ne.mpr c35
                obtain rfl := Option.some.inj H
                obtain ⟨Ao37, co37, eo37⟩ := Kd.R_slice HO476.out
                subst eo37
                have p477 : 0 ≤ (0 : Int) := (by omega)
                have q477 : 0 < (t473.length : Int) := of_decide_eq_true aS
                obtain ⟨ad477, e477, hx477_0⟩ := Kd.at_int (Kd.R_reads' HO476.out).2.2 0 p477 q477
                cases e477
                have qi477 : (0 < t473.length) = True := eq_true (by omega)
                (try rw [show ((0 : Int)).toNat = 0 from rfl] at hx477_0)
                (try rw [Addr.add_zero'] at hx477_0)
                replace p477 := eq_true p477
                replace q477 := eq_true q477
                have p478 : 0 ≤ (ji5 : Int) := of_decide_eq_true aS
                have q478 : ji5 < (t473.length : Int) := of_decide_eq_true aS
                obtain ⟨ad478, e478, hx478_0⟩ := Kd.at_int (Kd.R_reads' HO476.out).2.2 ji5 p478 q478
                obtain rfl : ad477 = ad478 := (by injection e478)
                replace p478 := eq_true p478
                replace q478 := eq_true q478
                go_wp2
                go_ret
                exact ⟨by first | rfl | (simp [errW_none, errW_some] <;> rfl) | (simp only [← hji5]; first | rfl | (simp [errW_none, errW_some] <;> rfl)) | (simp [*, errW_none, errW_some] <;> rfl), by repeat (first | (with_reducible first | exact HB.out | apply below_alloc | apply pw_below_drewN | apply below_drew1) | exact HB.out)⟩
              ·rw [if_neg c34] at H
               exact absurd H (by simp)
             ·rw [if_neg c33] at H
              exact absurd H (by simp)
            ·rw [if_neg c32] at H
             have c32b0 : ((rd t473 0) == (((Go.bits .or .u32 a1 1) - 1) % 4294967296)) = false := beq_eq_false_iff_ne.mpr c32
             have c32b1 : ((rd t473 0) != (((Go.bits .or .u32 a1 1) - 1) % 4294967296)) = true := bne_iff_ne.mpr c32
             obtain rfl := Option.some.inj H
             obtain ⟨Ao38, co38, eo38⟩ := Kd.R_slice HO476.out
             subst eo38
             have p477 : 0 ≤ (0 : Int) := (by omega)
             have q477 : 0 < (t473.length : Int) := of_decide_eq_true aS
             obtain ⟨ad477, e477, hx477_0⟩ := Kd.at_int (Kd.R_reads' HO476.out).2.2 0 p477 q477
             cases e477
             have qi477 : (0 < t473.length) = True := eq_true (by omega)
             (try rw [show ((0 : Int)).toNat = 0 from rfl] at hx477_0)
             (try rw [Addr.add_zero'] at hx477_0)
             replace p477 := eq_true p477
             replace q477 := eq_true q477
             go_wp2
             go_ret
             exact ⟨by first | rfl | (simp [errW_none, errW_some] <;> rfl) | (simp only [← hji5]; first | rfl | (simp [errW_none, errW_some] <;> rfl)) | (simp [*, errW_none, errW_some] <;> rfl), by repeat (first | (with_reducible first | exact HB.out | apply below_alloc | apply pw_below_drewN | apply below_drew1) | exact HB.out)⟩
           ·rw [if_neg c31] at H
            exact absurd H (by simp)
          ·rw [if_neg c30] at H
           have c30b0 : ((t473.length : Int) == (wrap64 (ji5 + 1))) = false := beq_eq_false_iff_ne.mpr c30
           have c30b1 : ((t473.length : Int) != (wrap64 (ji5 + 1))) = true := bne_iff_ne.mpr c30
           have c30bh := c30b0
           (try simp only [hl6_1] at c30bh)
           obtain rfl := Option.some.inj H
           obtain ⟨Ao39, co39, eo39⟩ := Kd.R_slice HO476.out
           subst eo39
           go_wp2
           go_ret
           exact ⟨by first | rfl | (simp [errW_none, errW_some] <;> rfl) | (simp only [← hji5]; first | rfl | (simp [errW_none, errW_some] <;> rfl)) | (simp [*, errW_none, errW_some] <;> rfl), by repeat (first | (with_reducible first | exact HB.out | apply below_alloc | apply pw_below_drewN | apply below_drew1) | exact HB.out)⟩
         ·rw [if_neg c29] at H
          have c29b0 : (t474 == 0) = false := beq_eq_false_iff_ne.mpr c29
          have c29b1 : (t474 != 0) = true := bne_iff_ne.mpr c29
          obtain rfl := Option.some.inj H
          go_wp2
          go_ret
          exact ⟨by first | rfl | (simp [errW_none, errW_some] <;> rfl) | (simp only [← hji5]; first | rfl | (simp [errW_none, errW_some] <;> rfl)) | (simp [*, errW_none, errW_some] <;> rfl), by repeat (first | (with_reducible first | exact HB.out | apply below_alloc | apply pw_below_drewN | apply below_drew1) | exact HB.out)⟩
       case rest =>
        clear HC19
        try clear c1
        try clear p1
        try clear q1
        try clear hx1
        try clear c2
        try clear p2
        try clear c3
        try clear c4
        try clear p4
        try clear q4
        try clear hx4
        try clear qi4
        try clear c6
        try clear c6b0
        try clear c6b1
        try clear p6
        try clear c7
        try clear c7b0
        try clear c7b1
        try clear c11
        try clear c12
        try clear c12b0
        try clear c13
        try clear c13b0
        try clear c14
        try clear c14b0
        try clear p15
        try clear q15
        try clear hx15
        try clear hf15
        try clear c20
        try clear c24
        try clear c24b0
        try clear c24b1
        try clear c25
        try clear c25b0
        try clear c25b1
        try clear c26
        try clear c26b0
        try clear c26b1
        try clear c29
        try clear c29b0
        try clear c29b1
        try clear c30
        try clear c30b0
        try clear c30b1
        try clear c31
        try clear c31b0
        try clear c31b1
        try clear c32
        try clear c32b0
        try clear c32b1
        try clear c33
        try clear c33b0
        try clear c34
        try clear c34b0
        try clear c35
        try clear c35b0
        try clear c35b1
        try clear hx15_0
        try clear hx477_0
        try clear hx478_0
        try clear p15
        try clear p2
        try clear p477
        try clear p478
        try clear p6
        try clear q15
        try clear q477
        try clear q478
        obtain ⟨kq, HA, HJ18, HB⟩ := hcut
        cases kq with
        | zero => exact absurd HA.out (by simp [isochronelaw01_NatLimits.j1])
        | succ kj18 =>
         have H := HA.out
         clear HA
         simp only [isochronelaw01_NatLimits.j1] at H
         by_cases c40 : 0 ≤ ji5
         ·rw [if_pos c40] at H
          have c40b0 := eq_true c40
          have c40b1 : decide (0 ≤ ji5) = true := decide_eq_true c40
          clear c40
          by_cases c41 : (ji5 : Int).toNat ≤ 70368744177664
          ·rw [if_pos c41] at H
           have c41b0 := eq_true c41
           have c41b1 : decide ((ji5 : Int).toNat ≤ 70368744177664) = true := decide_eq_true c41
           clear c41
           obtain ⟨y479, hy479⟩ : ∃ y_ : List Int, y_ = (List.replicate (ji5 : Int).toNat 0) := ⟨_, rfl⟩
           replace H : (if 0 ≤ (wrap64 (ji5 - 1)) then (if (wrap64 (ji5 - 1)) < (y479.length : Int) then ((some (y479.set ((wrap64 (ji5 - 1)) : Int).toNat 1 : List Int)).bind fun y482 => ((nat_Mul.f kj18 y482 y482).bind fun bt483 => (if (wrap64 ((wrap64 (2 * ji5)) - 1)) > 4096 then (if bt483.2 = 2 then (some ((bt483.1.length : Int) == 0)) else (some false)) else (if bt483.2 = 0 then (isochronelaw01_NatLimits.j2 kj18 ji5 bt483.1 ((bt483.1.length : Int) != (wrap64 ((wrap64 (2 * ji5)) - 1)))) else (isochronelaw01_NatLimits.j2 kj18 ji5 bt483.1 true))))) else (none)) else (none)) = some r := by first | (rw [hy479]; with_reducible exact H) | (have H2_ := (Option.bind_some _ _).symm.trans H; rw [hy479]; with_reducible exact H2_) | (have H2_ := (Option.bind_some _ _).symm.trans H; with_reducible exact H2_) | with_reducible exact H | (rw [hy479]; exact H) | exact H
           have Ny479 := Aside0.mk hy479
           clear hy479
           obtain ⟨ji42, hji42⟩ : ∃ j_ : Int, (wrap64 (ji5 - 1)) = j_ := ⟨_, rfl⟩
           replace H : (if 0 ≤ (ji42) then (if (ji42) < (y479.length : Int) then ((some (y479.set ((ji42) : Int).toNat 1 : List Int)).bind fun y482 => ((nat_Mul.f kj18 y482 y482).bind fun bt483 => (if (wrap64 ((wrap64 (2 * ji5)) - 1)) > 4096 then (if bt483.2 = 2 then (some ((bt483.1.length : Int) == 0)) else (some false)) else (if bt483.2 = 0 then (isochronelaw01_NatLimits.j2 kj18 ji5 bt483.1 ((bt483.1.length : Int) != (wrap64 ((wrap64 (2 * ji5)) - 1)))) else (isochronelaw01_NatLimits.j2 kj18 ji5 bt483.1 true))))) else (none)) else (none)) = some r := by first | (rw [hji42] at H; exact H) | (simp only [hji42] at H ⊢; exact H)
           have hji42w : (IntKind.i64.wrap (ji5 - 1)) = ji42 := (i64_w _).trans hji42
           by_cases c43 : 0 ≤ (ji42)
           ·rw [if_pos c43] at H
            have c43b0 : decide (0 ≤ (ji42)) = true := decide_eq_true c43
            clear c43
            by_cases c44 : (ji42) < (y479.length : Int)
            ·rw [if_pos c44] at H
             have c44b0 : decide ((ji42) < (y479.length : Int)) = true := decide_eq_true c44
             clear c44
             have c44bh := c44b0
             (try simp only [hl6_1] at c44bh)
             obtain ⟨y482, hy482⟩ : ∃ y_ : List Int, y_ = (y479.set ((ji42) : Int).toNat 1) := ⟨_, rfl⟩
             replace H : ((nat_Mul.f kj18 y482 y482).bind fun bt483 => (if (wrap64 ((wrap64 (2 * ji5)) - 1)) > 4096 then (if bt483.2 = 2 then (some ((bt483.1.length : Int) == 0)) else (some false)) else (if bt483.2 = 0 then (isochronelaw01_NatLimits.j2 kj18 ji5 bt483.1 ((bt483.1.length : Int) != (wrap64 ((wrap64 (2 * ji5)) - 1)))) else (isochronelaw01_NatLimits.j2 kj18 ji5 bt483.1 true)))) = some r := by first | (rw [hy482]; with_reducible exact H) | (have H2_ := (Option.bind_some _ _).symm.trans H; rw [hy482]; with_reducible exact H2_) | (have H2_ := (Option.bind_some _ _).symm.trans H; with_reducible exact H2_) | with_reducible exact H | (rw [hy482]; exact H) | exact H
             have Ny482 := Aside0.mk hy482
             clear hy482
             replace H := Option.bind_eq_some_iff.mp H
             obtain ⟨⟨t483, t484⟩, A460, H⟩ := H
             replace H : (if (wrap64 ((wrap64 (2 * ji5)) - 1)) > 4096 then (if t484 = 2 then (some ((t483.length : Int) == 0)) else (some false)) else (if t484 = 0 then (isochronelaw01_NatLimits.j2 kj18 ji5 t483 ((t483.length : Int) != (wrap64 ((wrap64 (2 * ji5)) - 1)))) else (isochronelaw01_NatLimits.j2 kj18 ji5 t483 true))) = some r := H
             have A46 := Aside0.mk A460
             clear A460
             by_cases c47 : (wrap64 ((wrap64 (2 * ji5)) - 1)) > 4096
             ·rw [if_pos c47] at H
              have c47b0 : decide (4096 < (wrap64 ((wrap64 (2 * ji5)) - 1))) = true := decide_eq_true c47
              clear c47
              by_cases c48 : t484 = 2
              ·rw [if_pos c48] at H
               have c48b0 : (t484 == 2) = true := beq_iff_eq.mpr c48
               have c48b1 : (t484 != 2) = false := bne_eq_false_iff_eq.mpr c48
               clear c48
               obtain rfl := Option.some.inj H
               go_wp2_with (first | ((with_reducible refine gate_dst (N := 76) rfl ?_); (try (refine gate_guard (by rfl) ?_; dsimp only)); refine Kd.R_make (Kd.int .u32) _ 36 rfl (N := 76) rfl 22 _ _ rfl ji5 rfl rfl Try.underlying22 (.int .u32 0) 4 info36 rfl (by decide) (by omega) 0 (ok := fun _ => True) (okp := fun _ => True) rfl (fun _ hk => hk) trivial (of_decide_eq_true aS) (Nat.le_trans (Nat.mul_le_mul_right _ (of_decide_eq_true aS : ji5.toNat ≤ 70368744177664)) (by omega)) (Below.refl _ _) (Nat.le_refl _) ?_; intro v480 w49 ho50 hb hg_ hnew_; clear hg_ hnew_; (first | rw [← Ny479.out] at ho50 | (simp only [Int.reduceToNat] at ho50; rw [← Ny479.out] at ho50)); have n0_ := Aside0.mk (Kd.R_lower ho50 (below_size (bB))); have n1_ := Aside0.mk (below_step (bB) hb); clear HB; have HO481 := n0_; have HB := n1_; clear n0_ n1_; clear hb ho50; have p45 : 0 ≤ ((ji42) : Int) := of_decide_eq_true aS; have q45 : ((ji42) : Int) < ((y479.length : Int) : Int) := of_decide_eq_true aS; obtain ⟨go45, co45, eo45, gb45, gl45, cl45, HG45⟩ := Kd.R_form HO481.out (by omega); (first | cases eo45 | (injection eo45 with ea_ en_ ec_; (first | subst ea_ | (injection ea_ with ea_; subst ea_)); subst ec_; clear en_)); have GB45 := Aside0.mk gb45; have GG45 := Aside0.mk HG45; clear gb45 gl45 HG45; obtain ⟨hx45_0, hf45_0⟩ := Kd.R_celln 0 HO481.out ((ji42) : Int) p45 q45; replace p45 := eq_true p45; replace q45 := eq_true q45; obtain ⟨hy51_, hz51_⟩ := Kd.R_celln 0 HO481.out ((ji42) : Int) (of_decide_eq_true aS) (of_decide_eq_true aS); have HP51 := Kd.R_putg HO481.out ((ji42) : Int) 1) | ((with_reducible refine gate_store (t := 36) (p := 80) rfl ?_); refine store_event (t := 36) (p := 80) (v := ?vo_w52) (w1 := (w49.setCell ⟨go45, ((ji42) : Int).toNat, none⟩ (.int .u32 1))) ?hg ?ho ?hn ?hr ?_; (case ho => rfl); (case hg => rfl); (case hn => rfl); (case hr => first | (go_simp; done) | (go_simp; rfl)); intro w52 hw; have hg : w49.grownBy w52 (some go45) := (by rw [hw]; exact HP51.2); have hp_ : Kd.R (Kd.int .u32) 36 w52 w.heap.size (fun _ => True) (.slice (some ⟨go45, 0, none⟩) y479.length co45) y482 := (by rw [hw, Ny482.out]; exact HP51.1); clear HP51; have n0_ := Aside0.mk (hp_); have n1_ := Aside0.mk ((by rw [hw]; exact below_set (HB.out) GB45.out : Below w.heap.size w w52)); clear HO481; clear HB; have HO481 := n0_; have HB := n1_; clear n0_ n1_; clear hg hw hp_) | ((with_reducible refine gate_callee (f := 21) rfl ?_); refine goesL_ (some 84) rfl rfl Try.func21 (by kernel_rfl) rfl #[.slice (some ⟨go45, 0, none⟩) y482.length co45, .slice (some ⟨go45, 0, none⟩) y482.length co45] rfl (by (try simp only [List.map_toArray, List.map_cons, List.map_nil]); first | done | (rw [show y482.length = y479.length from (Kd.R_reads' HO481.out).1.symm] <;> rfl) | rfl | (simp only [List.length_drop, List.length_take]; rfl)) ?_; (with_reducible refine (nat_Mul.calls kj18 _ _ y482 _ _ y482 t483 t484 _ ?side1 ?side2 ?side3 ?side4 A46.out).mono ?_); (case side1 => repeat (first | exact (Kd.R_reads' HO481.out).2.2 | (with_reducible refine Kd.C_alloc ?_ _) | (with_reducible refine Kd.C_drewN ?_ _) | (with_reducible refine Kd.C_drew ?_))); (case side2 => rw [show y482.length = y479.length from (Kd.R_reads' HO481.out).1.symm]; exact (Kd.R_reads' HO481.out).2.1); (case side3 => repeat (first | exact (Kd.R_reads' HO481.out).2.2 | (with_reducible refine Kd.C_alloc ?_ _) | (with_reducible refine Kd.C_drewN ?_ _) | (with_reducible refine Kd.C_drew ?_))); (case side4 => rw [show y482.length = y479.length from (Kd.R_reads' HO481.out).1.symm]; exact (Kd.R_reads' HO481.out).2.1); rintro e w53 ⟨v485, rfl, ho0, hb⟩; refine ⟨_, rfl, ?_⟩; have n0_ := Aside0.mk (Kd.R_elder' (by (with_reducible repeat (first | apply Kd.R_alloc | apply Kd.R_drewN | apply Kd.R_drew)); exact HO481.out) (Kd.R_base ho0) hb); have n1_ := Aside0.mk (Kd.R_lower (Kd.R_new' ho0 (Kd.R_lt (by (with_reducible repeat (first | apply Kd.R_alloc | apply Kd.R_drewN | apply Kd.R_drew)); exact HO481.out))) (below_size (bB))); have n2_ := Aside0.mk (below_step (bB) hb); clear HO481; clear HB; have HO481 := n0_; have HO486 := n1_; have HB := n2_; clear n0_ n1_ n2_; (try clear hb); (try clear hb2); (try clear hk); (try clear hi); (try clear ho0); obtain ⟨Ao54, co54, eo54⟩ := Kd.R_slice HO486.out; subst eo54))
               go_ret
               exact ⟨by first | rfl | (simp [errW_none, errW_some] <;> rfl) | (simp only [← hji5, ← hji42]; first | rfl | (simp [errW_none, errW_some] <;> rfl)) | (simp [*, errW_none, errW_some] <;> rfl), by repeat (first | (with_reducible first | exact HB.out | apply below_alloc | apply pw_below_drewN | apply below_drew1) | exact HB.out)⟩
              ·rw [if_neg c48] at H
               have c48b0 : (t484 == 2) = false := beq_eq_false_iff_ne.mpr c48
               have c48b1 : (t484 != 2) = true := bne_iff_ne.mpr c48
               obtain rfl := Option.some.inj H
               go_wp2_with (first | ((with_reducible refine gate_dst (N := 76) rfl ?_); (try (refine gate_guard (by rfl) ?_; dsimp only)); refine Kd.R_make (Kd.int .u32) _ 36 rfl (N := 76) rfl 22 _ _ rfl ji5 rfl rfl Try.underlying22 (.int .u32 0) 4 info36 rfl (by decide) (by omega) 0 (ok := fun _ => True) (okp := fun _ => True) rfl (fun _ hk => hk) trivial (of_decide_eq_true aS) (Nat.le_trans (Nat.mul_le_mul_right _ (of_decide_eq_true aS : ji5.toNat ≤ 70368744177664)) (by omega)) (Below.refl _ _) (Nat.le_refl _) ?_; intro v480 w55 ho56 hb hg_ hnew_; clear hg_ hnew_; (first | rw [← Ny479.out] at ho56 | (simp only [Int.reduceToNat] at ho56; rw [← Ny479.out] at ho56)); have n0_ := Aside0.mk (Kd.R_lower ho56 (below_size (bB))); have n1_ := Aside0.mk (below_step (bB) hb); clear HB; have HO481 := n0_; have HB := n1_; clear n0_ n1_; clear hb ho56; have p45 : 0 ≤ ((ji42) : Int) := of_decide_eq_true aS; have q45 : ((ji42) : Int) < ((y479.length : Int) : Int) := of_decide_eq_true aS; obtain ⟨go45, co45, eo45, gb45, gl45, cl45, HG45⟩ := Kd.R_form HO481.out (by omega); (first | cases eo45 | (injection eo45 with ea_ en_ ec_; (first | subst ea_ | (injection ea_ with ea_; subst ea_)); subst ec_; clear en_)); have GB45 := Aside0.mk gb45; have GG45 := Aside0.mk HG45; clear gb45 gl45 HG45; obtain ⟨hx45_0, hf45_0⟩ := Kd.R_celln 0 HO481.out ((ji42) : Int) p45 q45; replace p45 := eq_true p45; replace q45 := eq_true q45; obtain ⟨hy57_, hz57_⟩ := Kd.R_celln 0 HO481.out ((ji42) : Int) (of_decide_eq_true aS) (of_decide_eq_true aS); have HP57 := Kd.R_putg HO481.out ((ji42) : Int) 1) | ((with_reducible refine gate_store (t := 36) (p := 80) rfl ?_); refine store_event (t := 36) (p := 80) (v := ?vo_w58) (w1 := (w55.setCell ⟨go45, ((ji42) : Int).toNat, none⟩ (.int .u32 1))) ?hg ?ho ?hn ?hr ?_; (case ho => rfl); (case hg => rfl); (case hn => rfl); (case hr => first | (go_simp; done) | (go_simp; rfl)); intro w58 hw; have hg : w55.grownBy w58 (some go45) := (by rw [hw]; exact HP57.2); have hp_ : Kd.R (Kd.int .u32) 36 w58 w.heap.size (fun _ => True) (.slice (some ⟨go45, 0, none⟩) y479.length co45) y482 := (by rw [hw, Ny482.out]; exact HP57.1); clear HP57; have n0_ := Aside0.mk (hp_); have n1_ := Aside0.mk ((by rw [hw]; exact below_set (HB.out) GB45.out : Below w.heap.size w w58)); clear HO481; clear HB; have HO481 := n0_; have HB := n1_; clear n0_ n1_; clear hg hw hp_) | ((with_reducible refine gate_callee (f := 21) rfl ?_); refine goesL_ (some 84) rfl rfl Try.func21 (by kernel_rfl) rfl #[.slice (some ⟨go45, 0, none⟩) y482.length co45, .slice (some ⟨go45, 0, none⟩) y482.length co45] rfl (by (try simp only [List.map_toArray, List.map_cons, List.map_nil]); first | done | (rw [show y482.length = y479.length from (Kd.R_reads' HO481.out).1.symm] <;> rfl) | rfl | (simp only [List.length_drop, List.length_take]; rfl)) ?_; (with_reducible refine (nat_Mul.calls kj18 _ _ y482 _ _ y482 t483 t484 _ ?side1 ?side2 ?side3 ?side4 A46.out).mono ?_); (case side1 => repeat (first | exact (Kd.R_reads' HO481.out).2.2 | (with_reducible refine Kd.C_alloc ?_ _) | (with_reducible refine Kd.C_drewN ?_ _) | (with_reducible refine Kd.C_drew ?_))); (case side2 => rw [show y482.length = y479.length from (Kd.R_reads' HO481.out).1.symm]; exact (Kd.R_reads' HO481.out).2.1); (case side3 => repeat (first | exact (Kd.R_reads' HO481.out).2.2 | (with_reducible refine Kd.C_alloc ?_ _) | (with_reducible refine Kd.C_drewN ?_ _) | (with_reducible refine Kd.C_drew ?_))); (case side4 => rw [show y482.length = y479.length from (Kd.R_reads' HO481.out).1.symm]; exact (Kd.R_reads' HO481.out).2.1); rintro e w59 ⟨v485, rfl, ho0, hb⟩; refine ⟨_, rfl, ?_⟩; have n0_ := Aside0.mk (Kd.R_elder' (by (with_reducible repeat (first | apply Kd.R_alloc | apply Kd.R_drewN | apply Kd.R_drew)); exact HO481.out) (Kd.R_base ho0) hb); have n1_ := Aside0.mk (Kd.R_lower (Kd.R_new' ho0 (Kd.R_lt (by (with_reducible repeat (first | apply Kd.R_alloc | apply Kd.R_drewN | apply Kd.R_drew)); exact HO481.out))) (below_size (bB))); have n2_ := Aside0.mk (below_step (bB) hb); clear HO481; clear HB; have HO481 := n0_; have HO486 := n1_; have HB := n2_; clear n0_ n1_ n2_; (try clear hb); (try clear hb2); (try clear hk); (try clear hi); (try clear ho0)))
               go_ret
               exact ⟨by first | rfl | (simp [errW_none, errW_some] <;> rfl) | (simp only [← hji5, ← hji42]; first | rfl | (simp [errW_none, errW_some] <;> rfl)) | (simp [*, errW_none, errW_some] <;> rfl), by repeat (first | (with_reducible first | exact HB.out | apply below_alloc | apply pw_below_drewN | apply below_drew1) | exact HB.out)⟩
             ·rw [if_neg c47] at H
              have c47b0 : decide (4096 < (wrap64 ((wrap64 (2 * ji5)) - 1))) = false := decide_eq_false c47
              clear c47
              have HC60 := Aside0.mk H
              clear H
              go_upto_region 22 with (first | ((with_reducible refine gate_dst (N := 76) rfl ?_); (try (refine gate_guard (by rfl) ?_; dsimp only)); refine Kd.R_make (Kd.int .u32) _ 36 rfl (N := 76) rfl 22 _ _ rfl ji5 rfl rfl Try.underlying22 (.int .u32 0) 4 info36 rfl (by decide) (by omega) 0 (ok := fun _ => True) (okp := fun _ => True) rfl (fun _ hk => hk) trivial (of_decide_eq_true aS) (Nat.le_trans (Nat.mul_le_mul_right _ (of_decide_eq_true aS : ji5.toNat ≤ 70368744177664)) (by omega)) (Below.refl _ _) (Nat.le_refl _) ?_; intro v480 w61 ho62 hb hg_ hnew_; clear hg_ hnew_; (first | rw [← Ny479.out] at ho62 | (simp only [Int.reduceToNat] at ho62; rw [← Ny479.out] at ho62)); have n0_ := Aside0.mk (Kd.R_lower ho62 (below_size (bB))); have n1_ := Aside0.mk (below_step (bB) hb); clear HB; have HO481 := n0_; have HB := n1_; clear n0_ n1_; clear hb ho62; have p45 : 0 ≤ ((ji42) : Int) := of_decide_eq_true aS; have q45 : ((ji42) : Int) < ((y479.length : Int) : Int) := of_decide_eq_true aS; obtain ⟨go45, co45, eo45, gb45, gl45, cl45, HG45⟩ := Kd.R_form HO481.out (by omega); (first | cases eo45 | (injection eo45 with ea_ en_ ec_; (first | subst ea_ | (injection ea_ with ea_; subst ea_)); subst ec_; clear en_)); have GB45 := Aside0.mk gb45; have GG45 := Aside0.mk HG45; clear gb45 gl45 HG45; obtain ⟨hx45_0, hf45_0⟩ := Kd.R_celln 0 HO481.out ((ji42) : Int) p45 q45; replace p45 := eq_true p45; replace q45 := eq_true q45; obtain ⟨hy63_, hz63_⟩ := Kd.R_celln 0 HO481.out ((ji42) : Int) (of_decide_eq_true aS) (of_decide_eq_true aS); have HP63 := Kd.R_putg HO481.out ((ji42) : Int) 1) | ((with_reducible refine gate_store (t := 36) (p := 80) rfl ?_); refine store_event (t := 36) (p := 80) (v := ?vo_w64) (w1 := (w61.setCell ⟨go45, ((ji42) : Int).toNat, none⟩ (.int .u32 1))) ?hg ?ho ?hn ?hr ?_; (case ho => rfl); (case hg => rfl); (case hn => rfl); (case hr => first | (go_simp; done) | (go_simp; rfl)); intro w64 hw; have hg : w61.grownBy w64 (some go45) := (by rw [hw]; exact HP63.2); have hp_ : Kd.R (Kd.int .u32) 36 w64 w.heap.size (fun _ => True) (.slice (some ⟨go45, 0, none⟩) y479.length co45) y482 := (by rw [hw, Ny482.out]; exact HP63.1); clear HP63; have n0_ := Aside0.mk (hp_); have n1_ := Aside0.mk ((by rw [hw]; exact below_set (HB.out) GB45.out : Below w.heap.size w w64)); clear HO481; clear HB; have HO481 := n0_; have HB := n1_; clear n0_ n1_; clear hg hw hp_) | ((with_reducible refine gate_callee (f := 21) rfl ?_); refine goesL_ (some 84) rfl rfl Try.func21 (by kernel_rfl) rfl #[.slice (some ⟨go45, 0, none⟩) y482.length co45, .slice (some ⟨go45, 0, none⟩) y482.length co45] rfl (by (try simp only [List.map_toArray, List.map_cons, List.map_nil]); first | done | (rw [show y482.length = y479.length from (Kd.R_reads' HO481.out).1.symm] <;> rfl) | rfl | (simp only [List.length_drop, List.length_take]; rfl)) ?_; (with_reducible refine (nat_Mul.calls kj18 _ _ y482 _ _ y482 t483 t484 _ ?side1 ?side2 ?side3 ?side4 A46.out).mono ?_); (case side1 => repeat (first | exact (Kd.R_reads' HO481.out).2.2 | (with_reducible refine Kd.C_alloc ?_ _) | (with_reducible refine Kd.C_drewN ?_ _) | (with_reducible refine Kd.C_drew ?_))); (case side2 => rw [show y482.length = y479.length from (Kd.R_reads' HO481.out).1.symm]; exact (Kd.R_reads' HO481.out).2.1); (case side3 => repeat (first | exact (Kd.R_reads' HO481.out).2.2 | (with_reducible refine Kd.C_alloc ?_ _) | (with_reducible refine Kd.C_drewN ?_ _) | (with_reducible refine Kd.C_drew ?_))); (case side4 => rw [show y482.length = y479.length from (Kd.R_reads' HO481.out).1.symm]; exact (Kd.R_reads' HO481.out).2.1); rintro e w65 ⟨v485, rfl, ho0, hb⟩; refine ⟨_, rfl, ?_⟩; have n0_ := Aside0.mk (Kd.R_elder' (by (with_reducible repeat (first | apply Kd.R_alloc | apply Kd.R_drewN | apply Kd.R_drew)); exact HO481.out) (Kd.R_base ho0) hb); have n1_ := Aside0.mk (Kd.R_lower (Kd.R_new' ho0 (Kd.R_lt (by (with_reducible repeat (first | apply Kd.R_alloc | apply Kd.R_drewN | apply Kd.R_drew)); exact HO481.out))) (below_size (bB))); have n2_ := Aside0.mk (below_step (bB) hb); clear HO481; clear HB; have HO481 := n0_; have HO486 := n1_; have HB := n2_; clear n0_ n1_ n2_; (try clear hb); (try clear hb2); (try clear hk); (try clear hi); (try clear ho0)))
              (try simp only [Act.put, List.setIfInBounds_toArray, List.set_cons_zero, List.set_cons_succ])
              go_cut [107] (fun v107 wc => ∃ (kq : Nat) (x107_59 : Bool), v107 = .bool x107_59 ∧ Aside0 (isochronelaw01_NatLimits.j2 kq ji5 t483 x107_59 = some r) ∧ Aside0 (kq ≤ kj18) ∧ Aside0 (Kd.R (Kd.int .u32) 36 wc w.heap.size (fun _ => True) v485 t483) ∧ Aside0 (Below w.heap.size w wc))
              case first =>
               have H := HC60.out
               clear HC60
               by_cases c66 : t484 = 0
               ·rw [if_pos c66] at H
                have c66b0 : (t484 == 0) = true := beq_iff_eq.mpr c66
                have c66b1 : (t484 != 0) = false := bne_eq_false_iff_eq.mpr c66
                clear c66
                (first | rw [c66b0] | (simp only [i64_w, i32_w]; rw [c66b0]) | rw [c66b1] | skip)
                have H' := Aside0.mk H
                clear H
                obtain ⟨Ao67, co67, eo67⟩ := Kd.R_slice HO486.out
                subst eo67
                go_wp2
                go_meet
                case rel => exact ⟨_, (((t483.length : Int) != (wrap64 ((wrap64 (2 * ji5)) - 1)))), (by first | rfl | (simp; done) | (simp only [← hji5] <;> (first | rfl | simp)) | (simp [*]; done)), H', ⟨by have := HK1.out; have := HJ18.out; first | omega | exact Nat.le_refl _⟩, ⟨by (try simp only [hl6_1]); (with_reducible repeat (first | apply Kd.R_alloc | apply Kd.R_drewN | apply Kd.R_drew)); exact Kd.R_mono HO486.out (fun _ hk => trivial)⟩, ⟨by repeat (first | (with_reducible first | exact HB.out | apply below_alloc | apply pw_below_drewN | apply below_drew1) | exact HB.out)⟩⟩
               ·rw [if_neg c66] at H
                have c66b0 : (t484 == 0) = false := beq_eq_false_iff_ne.mpr c66
                have c66b1 : (t484 != 0) = true := bne_iff_ne.mpr c66
                (first | rw [c66b0] | (simp only [i64_w, i32_w]; rw [c66b0]) | rw [c66b1] | skip)
                have H' := Aside0.mk H
                clear H
                go_wp2
                go_meet
                case rel => exact ⟨_, (true), (by first | rfl | (simp; done) | (simp [*]; done)), H', ⟨by have := HK1.out; have := HJ18.out; first | omega | exact Nat.le_refl _⟩, ⟨by (try simp only [hl6_1]); (with_reducible repeat (first | apply Kd.R_alloc | apply Kd.R_drewN | apply Kd.R_drew)); exact Kd.R_mono HO486.out (fun _ hk => trivial)⟩, ⟨by repeat (first | (with_reducible first | exact HB.out | apply below_alloc | apply pw_below_drewN | apply below_drew1) | exact HB.out)⟩⟩
              case rest =>
               clear HC60
               try clear c1
               try clear p1
               try clear q1
               try clear hx1
               try clear c2
               try clear p2
               try clear c3
               try clear c4
               try clear p4
               try clear q4
               try clear hx4
               try clear qi4
               try clear hf4
               try clear c6
               try clear c6b0
               try clear c6b1
               try clear p6
               try clear c7
               try clear c7b0
               try clear c7b1
               try clear c11
               try clear c12
               try clear c12b0
               try clear c13
               try clear c13b0
               try clear c14
               try clear c14b0
               try clear p15
               try clear q15
               try clear hx15
               try clear hf15
               try clear c20
               try clear c21
               try clear c24
               try clear c24b0
               try clear c24b1
               try clear c25
               try clear c25b0
               try clear c25b1
               try clear c26
               try clear c26b0
               try clear c26b1
               try clear c29
               try clear c29b0
               try clear c29b1
               try clear c30
               try clear c30b0
               try clear c30b1
               try clear c31
               try clear c31b0
               try clear c31b1
               try clear c32
               try clear c32b0
               try clear c32b1
               try clear c33
               try clear c33b0
               try clear c34
               try clear c34b0
               try clear c35
               try clear c35b0
               try clear c35b1
               try clear c40
               try clear c40b0
               try clear c40b1
               try clear c41
               try clear c41b0
               try clear c41b1
               try clear c43
               try clear c43b0
               try clear c44
               try clear c44b0
               try clear p45
               try clear q45
               try clear hx45
               try clear hf45
               try clear c47
               try clear c47b0
               try clear p47
               try clear q47
               try clear hx47
               try clear qi47
               try clear c48
               try clear c48b0
               try clear c48b1
               try clear p64
               try clear c66
               try clear c66b0
               try clear c66b1
               try clear hx15_0
               try clear hx45_0
               try clear hx477_0
               try clear hx478_0
               try clear p1
               try clear p15
               try clear p2
               try clear p4
               try clear p45
               try clear p477
               try clear p478
               try clear p6
               try clear q1
               try clear q15
               try clear q4
               try clear q45
               try clear q477
               try clear q478
               obtain ⟨kq, x107_59, rfl, HA, HJ59, HO_12, HB⟩ := hcut
               cases kq with
               | zero => exact absurd HA.out (by simp [isochronelaw01_NatLimits.j2])
               | succ kj59 =>
                have H := HA.out
                clear HA
                simp only [isochronelaw01_NatLimits.j2] at H
                by_cases c68 : x107_59 = true
                ·subst c68
                 have H1 : (some false) = some r := by rw [if_pos rfl] at H; exact H
                 clear H
                 have H := H1
                 clear H1
                 obtain rfl := Option.some.inj H
                 go_wp2
                 go_ret
                 exact ⟨by first | rfl | (simp [errW_none, errW_some] <;> rfl) | (simp only [← hji5, ← hji42]; first | rfl | (simp [errW_none, errW_some] <;> rfl)) | (simp [*, errW_none, errW_some] <;> rfl), by repeat (first | (with_reducible first | exact HB.out | apply below_alloc | apply pw_below_drewN | apply below_drew1) | exact HB.out)⟩
                ·replace c68 := Bool.eq_false_iff.mpr c68
                 subst c68
                 have H1 : (isochronelaw01_NatLimits.l1 kj59 ji5 t483 (t483.length : Int) 0) = some r := by rw [if_neg (show ¬ (false = true) by decide)] at H; exact H
                 clear H
                 have H := H1
                 clear H1
                 have H' := Aside0.mk H
                 clear H
                 obtain ⟨Ao69, co69, eo69⟩ := Kd.R_slice HO_12.out
                 subst eo69
                 go_wp2
                 go_loopg [110] kj59 (fun kq v110 w' => ∃ (x110_4 : Int), v110 = .int .i64 x110_4 ∧ Aside0 (isochronelaw01_NatLimits.l1 kq ji5 t483 (t483.length : Int) x110_4 = some r) ∧ Aside0 (kq ≤ kj59) ∧ Aside0 (Kd.R (Kd.int .u32) 36 w' w.heap.size (fun _ => True) (.slice Ao69 t483.length co69) t483) ∧ Aside0 (Below w.heap.size w w'))
                 case atStart => exact ⟨(0), (by first | rfl | (simp; done) | (simp [*]; done)), H', ⟨Nat.le_refl _⟩, ⟨by (try simp only [hl6_1]); (with_reducible repeat (first | apply Kd.R_alloc | apply Kd.R_drewN | apply Kd.R_drew)); exact HO_12.out⟩, ⟨by repeat (first | (with_reducible first | exact HB.out | apply below_alloc | apply pw_below_drewN | apply below_drew1) | exact HB.out)⟩⟩
                 case round =>
                  clear H'
                  try clear c1
                  try clear p1
                  try clear q1
                  try clear hx1
                  try clear c2
                  try clear p2
                  try clear c3
                  try clear c4
                  try clear p4
                  try clear q4
                  try clear hx4
                  try clear qi4
                  try clear hf4
                  try clear c6
                  try clear c6b0
                  try clear c6b1
                  try clear p6
                  try clear c7
                  try clear c7b0
                  try clear c7b1
                  try clear c11
                  try clear c12
                  try clear c12b0
                  try clear c13
                  try clear c13b0
                  try clear c14
                  try clear c14b0
                  try clear p15
                  try clear q15
                  try clear hx15
                  try clear hf15
                  try clear c20
                  try clear c21
                  try clear c24
                  try clear c24b0
                  try clear c24b1
                  try clear c25
                  try clear c25b0
                  try clear c25b1
                  try clear c26
                  try clear c26b0
                  try clear c26b1
                  try clear c29
                  try clear c29b0
                  try clear c29b1
                  try clear c30
                  try clear c30b0
                  try clear c30b1
                  try clear c31
                  try clear c31b0
                  try clear c31b1
                  try clear c32
                  try clear c32b0
                  try clear c32b1
                  try clear c33
                  try clear c33b0
                  try clear c34
                  try clear c34b0
                  try clear c35
                  try clear c35b0
                  try clear c35b1
                  try clear c40
                  try clear c40b0
                  try clear c40b1
                  try clear c41
                  try clear c41b0
                  try clear c41b1
                  try clear c43
                  try clear c43b0
                  try clear c44
                  try clear c44b0
                  try clear p45
                  try clear q45
                  try clear hx45
                  try clear hf45
                  try clear c47
                  try clear c47b0
                  try clear p47
                  try clear q47
                  try clear hx47
                  try clear qi47
                  try clear c48
                  try clear c48b0
                  try clear c48b1
                  try clear p64
                  try clear c66
                  try clear c66b0
                  try clear c66b1
                  try clear c68
                  try clear hx15_0
                  try clear hx45_0
                  try clear hx477_0
                  try clear hx478_0
                  try clear p1
                  try clear p15
                  try clear p2
                  try clear p4
                  try clear p45
                  try clear p47
                  try clear p477
                  try clear p478
                  try clear p6
                  try clear p64
                  try clear q1
                  try clear q15
                  try clear q4
                  try clear q45
                  try clear q47
                  try clear q477
                  try clear q478
                  obtain ⟨x110_4, rfl, HA, HK4, HO_108, HB⟩ := hrel
                  cases gk with
                  | zero => exact absurd HA.out (by simp [isochronelaw01_NatLimits.l1])
                  | succ k4 =>
                   have H := HA.out
                   clear HA
                   simp only [isochronelaw01_NatLimits.l1] at H
                   by_cases c70 : x110_4 < (t483.length : Int)
                   ·rw [if_pos c70] at H
                    have c70b0 : decide (x110_4 < (t483.length : Int)) = true := decide_eq_true c70
                    clear c70
                    have c70bh := c70b0
                    (try simp only [hl6_1] at c70bh)
                    by_cases c71 : 0 ≤ x110_4
                    ·rw [if_pos c71] at H
                     have c71b0 : decide (0 ≤ x110_4) = true := decide_eq_true c71
                     clear c71
                     by_cases c72 : x110_4 < (t483.length : Int)
                     ·rw [if_pos c72] at H
                      have c72b0 : decide (x110_4 < (t483.length : Int)) = true := decide_eq_true c72
                      clear c72
                      have c72bh := c72b0
                      (try simp only [hl6_1] at c72bh)
                      by_cases c73 : x110_4 < (wrap64 ((wrap64 (2 * ji5)) - 2))
                      ·rw [if_pos c73] at H
                       have c73b0 : decide (x110_4 < (wrap64 ((wrap64 (2 * ji5)) - 2))) = true := decide_eq_true c73
                       clear c73
                       by_cases c74 : (rd t483 x110_4) = 0
                       ·rw [if_pos c74] at H
                        have c74b0 : ((rd t483 x110_4) == 0) = true := beq_iff_eq.mpr c74
                        have c74b1 : ((rd t483 x110_4) != 0) = false := bne_eq_false_iff_eq.mpr c74
                        clear c74
                        by_cases c75 : x110_4 = (wrap64 ((wrap64 (2 * ji5)) - 2))
                        ·rw [if_pos c75] at H
                         have c75b0 : (x110_4 == (wrap64 ((wrap64 (2 * ji5)) - 2))) = true := beq_iff_eq.mpr c75
                         have c75b1 : (x110_4 != (wrap64 ((wrap64 (2 * ji5)) - 2))) = false := bne_eq_false_iff_eq.mpr c75
                         clear c75
                         by_cases c76 : (rd t483 x110_4) = 1
                         ·rw [if_pos c76] at H
                          have c76b0 : ((rd t483 x110_4) == 1) = true := beq_iff_eq.mpr c76
                          have c76b1 : ((rd t483 x110_4) != 1) = false := bne_eq_false_iff_eq.mpr c76
                          clear c76
                          have H' := Aside0.mk H
                          clear H
                          have p487 : 0 ≤ (x110_4 : Int) := of_decide_eq_true aS
                          have q487 : x110_4 < (t483.length : Int) := of_decide_eq_true aS
                          obtain ⟨ad487, e487, hx487_0⟩ := Kd.at_int (Kd.R_reads' HO_108.out).2.2 x110_4 p487 q487
                          cases e487
                          replace p487 := eq_true p487
                          replace q487 := eq_true q487
                          go_wp2
                          go_roundg k4
                          case measure => have := HK1.out; have := HJ18.out; have := HJ59.out; have := HK4.out; omega
                          case rel => exact ⟨(wrap64 (x110_4 + 1)), (by first | rfl | (simp; done) | (simp [*]; done)), H', ⟨by have := HK1.out; have := HJ18.out; have := HJ59.out; have := HK4.out; omega⟩, ⟨by (try simp only [hl6_1]); (with_reducible repeat (first | apply Kd.R_alloc | apply Kd.R_drewN | apply Kd.R_drew)); exact HO_108.out⟩, ⟨by repeat (first | (with_reducible first | exact HB.out | apply below_alloc | apply pw_below_drewN | apply below_drew1) | exact HB.out)⟩⟩
                         ·rw [if_neg c76] at H
                          have c76b0 : ((rd t483 x110_4) == 1) = false := beq_eq_false_iff_ne.mpr c76
                          have c76b1 : ((rd t483 x110_4) != 1) = true := bne_iff_ne.mpr c76
                          obtain rfl := Option.some.inj H
                          have p487 : 0 ≤ (x110_4 : Int) := of_decide_eq_true aS
                          have q487 : x110_4 < (t483.length : Int) := of_decide_eq_true aS
                          obtain ⟨ad487, e487, hx487_0⟩ := Kd.at_int (Kd.R_reads' HO_108.out).2.2 x110_4 p487 q487
                          cases e487
                          replace p487 := eq_true p487
                          replace q487 := eq_true q487
                          go_wp2
                          go_ret
                          exact ⟨by first | rfl | (simp [errW_none, errW_some] <;> rfl) | (simp only [← hji5, ← hji42]; first | rfl | (simp [errW_none, errW_some] <;> rfl)) | (simp [*, errW_none, errW_some] <;> rfl), by repeat (first | (with_reducible first | exact HB.out | apply below_alloc | apply pw_below_drewN | apply below_drew1) | exact HB.out)⟩
                        ·rw [if_neg c75] at H
                         have c75b0 : (x110_4 == (wrap64 ((wrap64 (2 * ji5)) - 2))) = false := beq_eq_false_iff_ne.mpr c75
                         have c75b1 : (x110_4 != (wrap64 ((wrap64 (2 * ji5)) - 2))) = true := bne_iff_ne.mpr c75
                         have H' := Aside0.mk H
                         clear H
                         have p487 : 0 ≤ (x110_4 : Int) := of_decide_eq_true aS
                         have q487 : x110_4 < (t483.length : Int) := of_decide_eq_true aS
                         obtain ⟨ad487, e487, hx487_0⟩ := Kd.at_int (Kd.R_reads' HO_108.out).2.2 x110_4 p487 q487
                         cases e487
                         replace p487 := eq_true p487
                         replace q487 := eq_true q487
                         go_wp2
                         go_roundg k4
                         case measure => have := HK1.out; have := HJ18.out; have := HJ59.out; have := HK4.out; omega
                         case rel => exact ⟨(wrap64 (x110_4 + 1)), (by first | rfl | (simp; done) | (simp [*]; done)), H', ⟨by have := HK1.out; have := HJ18.out; have := HJ59.out; have := HK4.out; omega⟩, ⟨by (try simp only [hl6_1]); (with_reducible repeat (first | apply Kd.R_alloc | apply Kd.R_drewN | apply Kd.R_drew)); exact HO_108.out⟩, ⟨by repeat (first | (with_reducible first | exact HB.out | apply below_alloc | apply pw_below_drewN | apply below_drew1) | exact HB.out)⟩⟩
                       ·rw [if_neg c74] at H
                        have c74b0 : ((rd t483 x110_4) == 0) = false := beq_eq_false_iff_ne.mpr c74
                        have c74b1 : ((rd t483 x110_4) != 0) = true := bne_iff_ne.mpr c74
                        obtain rfl := Option.some.inj H
                        have p487 : 0 ≤ (x110_4 : Int) := of_decide_eq_true aS
                        have q487 : x110_4 < (t483.length : Int) := of_decide_eq_true aS
                        obtain ⟨ad487, e487, hx487_0⟩ := Kd.at_int (Kd.R_reads' HO_108.out).2.2 x110_4 p487 q487
                        cases e487
                        replace p487 := eq_true p487
                        replace q487 := eq_true q487
                        go_wp2
                        go_ret
                        exact ⟨by first | rfl | (simp [errW_none, errW_some] <;> rfl) | (simp only [← hji5, ← hji42]; first | rfl | (simp [errW_none, errW_some] <;> rfl)) | (simp [*, errW_none, errW_some] <;> rfl), by repeat (first | (with_reducible first | exact HB.out | apply below_alloc | apply pw_below_drewN | apply below_drew1) | exact HB.out)⟩
                      ·rw [if_neg c73] at H
                       have c73b0 : decide (x110_4 < (wrap64 ((wrap64 (2 * ji5)) - 2))) = false := decide_eq_false c73
                       clear c73
                       by_cases c77 : x110_4 = (wrap64 ((wrap64 (2 * ji5)) - 2))
                       ·rw [if_pos c77] at H
                        have c77b0 : (x110_4 == (wrap64 ((wrap64 (2 * ji5)) - 2))) = true := beq_iff_eq.mpr c77
                        have c77b1 : (x110_4 != (wrap64 ((wrap64 (2 * ji5)) - 2))) = false := bne_eq_false_iff_eq.mpr c77
                        clear c77
                        by_cases c78 : (rd t483 x110_4) = 1
                        ·rw [if_pos c78] at H
                         have c78b0 : ((rd t483 x110_4) == 1) = true := beq_iff_eq.mpr c78
                         have c78b1 : ((rd t483 x110_4) != 1) = false := bne_eq_false_iff_eq.mpr c78
                         clear c78
                         have H' := Aside0.mk H
                         clear H
                         have p487 : 0 ≤ (x110_4 : Int) := of_decide_eq_true aS
                         have q487 : x110_4 < (t483.length : Int) := of_decide_eq_true aS
                         obtain ⟨ad487, e487, hx487_0⟩ := Kd.at_int (Kd.R_reads' HO_108.out).2.2 x110_4 p487 q487
                         cases e487
                         replace p487 := eq_true p487
                         replace q487 := eq_true q487
                         go_wp2
                         go_roundg k4
                         case measure => have := HK1.out; have := HJ18.out; have := HJ59.out; have := HK4.out; omega
                         case rel => exact ⟨(wrap64 (x110_4 + 1)), (by first | rfl | (simp; done) | (simp [*]; done)), H', ⟨by have := HK1.out; have := HJ18.out; have := HJ59.out; have := HK4.out; omega⟩, ⟨by (try simp only [hl6_1]); (with_reducible repeat (first | apply Kd.R_alloc | apply Kd.R_drewN | apply Kd.R_drew)); exact HO_108.out⟩, ⟨by repeat (first | (with_reducible first | exact HB.out | apply below_alloc | apply pw_below_drewN | apply below_drew1) | exact HB.out)⟩⟩
                        ·rw [if_neg c78] at H
                         have c78b0 : ((rd t483 x110_4) == 1) = false := beq_eq_false_iff_ne.mpr c78
                         have c78b1 : ((rd t483 x110_4) != 1) = true := bne_iff_ne.mpr c78
                         obtain rfl := Option.some.inj H
                         have p487 : 0 ≤ (x110_4 : Int) := of_decide_eq_true aS
                         have q487 : x110_4 < (t483.length : Int) := of_decide_eq_true aS
                         obtain ⟨ad487, e487, hx487_0⟩ := Kd.at_int (Kd.R_reads' HO_108.out).2.2 x110_4 p487 q487
                         cases e487
                         replace p487 := eq_true p487
                         replace q487 := eq_true q487
                         go_wp2
                         go_ret
                         exact ⟨by first | rfl | (simp [errW_none, errW_some] <;> rfl) | (simp only [← hji5, ← hji42]; first | rfl | (simp [errW_none, errW_some] <;> rfl)) | (simp [*, errW_none, errW_some] <;> rfl), by repeat (first | (with_reducible first | exact HB.out | apply below_alloc | apply pw_below_drewN | apply below_drew1) | exact HB.out)⟩
                       ·rw [if_neg c77] at H
                        have c77b0 : (x110_4 == (wrap64 ((wrap64 (2 * ji5)) - 2))) = false := beq_eq_false_iff_ne.mpr c77
                        have c77b1 : (x110_4 != (wrap64 ((wrap64 (2 * ji5)) - 2))) = true := bne_iff_ne.mpr c77
                        have H' := Aside0.mk H
                        clear H
                        have p487 : 0 ≤ (x110_4 : Int) := of_decide_eq_true aS
                        have q487 : x110_4 < (t483.length : Int) := of_decide_eq_true aS
                        obtain ⟨ad487, e487, hx487_0⟩ := Kd.at_int (Kd.R_reads' HO_108.out).2.2 x110_4 p487 q487
                        cases e487
                        replace p487 := eq_true p487
                        replace q487 := eq_true q487
                        go_wp2
                        go_roundg k4
                        case measure => have := HK1.out; have := HJ18.out; have := HJ59.out; have := HK4.out; omega
                        case rel => exact ⟨(wrap64 (x110_4 + 1)), (by first | rfl | (simp; done) | (simp [*]; done)), H', ⟨by have := HK1.out; have := HJ18.out; have := HJ59.out; have := HK4.out; omega⟩, ⟨by (try simp only [hl6_1]); (with_reducible repeat (first | apply Kd.R_alloc | apply Kd.R_drewN | apply Kd.R_drew)); exact HO_108.out⟩, ⟨by repeat (first | (with_reducible first | exact HB.out | apply below_alloc | apply pw_below_drewN | apply below_drew1) | exact HB.out)⟩⟩
                     ·rw [if_neg c72] at H
                      exact absurd H (by simp)
                    ·rw [if_neg c71] at H
                     exact absurd H (by simp)
                   ·rw [if_neg c70] at H
                    have c70b0 : decide (x110_4 < (t483.length : Int)) = false := decide_eq_false c70
                    clear c70
                    have c70bh := c70b0
                    (try simp only [hl6_1] at c70bh)
                    obtain rfl := Option.some.inj H
                    go_wp2
                    go_ret
                    exact ⟨by first | rfl | (simp [errW_none, errW_some] <;> rfl) | (simp only [← hji5, ← hji42]; first | rfl | (simp [errW_none, errW_some] <;> rfl)) | (simp [*, errW_none, errW_some] <;> rfl), by repeat (first | (with_reducible first | exact HB.out | apply below_alloc | apply pw_below_drewN | apply below_drew1) | exact HB.out)⟩
            ·rw [if_neg c44] at H
             exact absurd H (by simp)
           ·rw [if_neg c43] at H
            exact absurd H (by simp)
          ·rw [if_neg c41] at H
           exact absurd H (by simp)
         ·rw [if_neg c40] at H
          exact absurd H (by simp)
   ·rw [if_neg c7] at H
    exact absurd H (by simp)
  ·rw [if_neg c6] at H
   exact absurd H (by simp)
 ·replace c4 := Bool.eq_false_iff.mpr c4
  subst c4
  have H1 : (some false) = some r := by rw [if_neg (show ¬ (false = true) by decide)] at H; exact H
  clear H
  have H := H1
  clear H1
  obtain rfl := Option.some.inj H
  go_enter Try.func4, Try.ntmps4
  go_wp2_with (first | ((with_reducible refine gate_callee (f := 11) rfl ?_); refine goesL_ (some 16) rfl rfl Try.func11 (by kernel_rfl) rfl #[] rfl (by (try simp only [List.map_toArray, List.map_cons, List.map_nil]); first | done | rfl | (simp only [List.length_drop, List.length_take]; rfl)) ?_; (with_reducible refine (isochronelaw01_awake.calls k  false _ A3.out).mono ?_); rintro e w79 ⟨rfl, hb⟩; refine ⟨_, rfl, ?_⟩; have n0_ := Aside0.mk (below_step (bB) hb); clear HB; have HB := n0_; clear n0_; (try clear hb); (try clear hb2); (try clear hk); (try clear hi)))
  go_ret
  exact ⟨by first | rfl | (simp [errW_none, errW_some] <;> rfl) | (simp [*, errW_none, errW_some] <;> rfl), by repeat (first | (with_reducible first | exact HB.out | apply below_alloc | apply pw_below_drewN | apply below_drew1) | exact HB.out)⟩
def isochronelaw01_NatLimits.Pure : Prop := ∀ (a0 : Int) (a1 : Int), (Lit.int .u16 a0).wf = true → (Lit.int .u32 a1).wf = true → ∃ k, isochronelaw01_NatLimits.f k a0 a1 = some true
theorem isochronelaw01_NatLimits.walk (P : isochronelaw01_NatLimits.Pure) (a0 : Int) (a1 : Int) (w : World) (w0 : (Lit.int .u16 a0).wf = true) (w1 : (Lit.int .u32 a1).wf = true) :
  Calls Try.prog 4 #[.int .u16 a0, .int .u32 a1] w fun e w' => e = .returned (.bool true) ∧ Below w.heap.size w w' := by
 obtain ⟨k, h⟩ := P a0 a1 w0 w1
 refine (isochronelaw01_NatLimits.calls k a0 a1 true w h).mono ?_
 rintro e w' ⟨rfl, hd⟩
 exact ⟨rfl, hd⟩
end Go.Proofs.Ytfmobogdnlmdbaa.P
end
section
namespace Go.Proofs.Ytfmobogdnlmdbaa.P
open Go.RowKit Go.Proofs.YtfmobogdnlmdbaaW.PrintWords Go.Proofs.YtfmobogdnlmdbaaW.PrintLast Go.Proofs.YtfmobogdnlmdbaaW.PrintMore
set_option linter.unusedVariables false
theorem evp {α : Type} {c : Prop} [Decidable c] {f g : Nat → Option α} {r : α} (hc : c) (h : Ev f r) : Ev (fun k => if c then f k else g k) r := by simpa only [if_pos hc] using h
theorem evn {α : Type} {c : Prop} [Decidable c] {f g : Nat → Option α} {r : α} (hc : ¬ c) (h : Ev g r) : Ev (fun k => if c then f k else g k) r := by simpa only [if_neg hc] using h
theorem evb {α β : Type} {o : Option α} {f : Nat → α → Option β} {a : α} {r : β} (h : o = some a) (k : Ev (fun n => f n a) r) : Ev (fun n => o.bind (f n)) r := by subst h; exact k
theorem evs {α : Type} (r : α) : Ev (fun _ => some r) r := ⟨0, fun _ _ => rfl⟩
theorem w64 {x : Int} (h0 : -9223372036854775808 ≤ x) (h1 : x ≤ 9223372036854775807) : wrap64 x = x := by unfold wrap64; omega
theorem u64 {x : Int} (h0 : 0 ≤ x) (h1 : x < 18446744073709551616) : IntKind.u64.wrap x = x := by rw [IntKind.wrap_u64]; omega
def vl (B : Int) : List Int → Int
  | [] => 0
  | x :: t => x + B * vl B t
def Dg (B : Int) (l : List Int) : Prop := ∀ x ∈ l, 0 ≤ x ∧ x < B
def Nm (l : List Int) : Prop := ∀ h : l ≠ [], l.getLast h ≠ 0
def Can (B : Int) (l : List Int) (n : Int) : Prop := Dg B l ∧ Nm l ∧ vl B l = n
section
variable {B : Int} {l a b : List Int}
theorem vl_append (B : Int) (a b : List Int) : vl B (a ++ b) = vl B a + B ^ a.length * vl B b := by
  induction a with
  | nil => simp [vl]
  | cons x t ih =>
    simp only [List.cons_append, vl, ih, List.length_cons]
    grind
theorem rd_lt (l : List Int) (i : Nat) (h : i < l.length) : rd l (i : Int) = l[i] := by simp [rd, h]
theorem vl_take (B : Int) (l : List Int) (i : Nat) (h : i < l.length) : vl B (l.take (i + 1)) = vl B (l.take i) + rd l (i : Int) * B ^ i := by
  rw [List.take_succ_eq_append_getElem h, vl_append, rd_lt l i h, List.length_take, Nat.min_eq_left (by omega)]
  simp only [vl]
  grind
theorem take_set (l : List Int) (i : Nat) (v : Int) (h : i < l.length) : (l.set i v).take (i + 1) = l.take i ++ [v] := by
  rw [List.take_succ_eq_append_getElem (by simpa using h), List.take_set_of_le (by omega)]
  simp
theorem vl_set (B : Int) (l : List Int) (i : Nat) (v : Int) (h : i < l.length) : vl B ((l.set i v).take (i + 1)) = vl B (l.take i) + v * B ^ i := by
  rw [take_set l i v h, vl_append, List.length_take, Nat.min_eq_left (by omega)]
  simp only [vl]
  grind
theorem Dg.nil (B : Int) : Dg B [] := fun x hx => by cases hx
theorem Dg.cons {x : Int} (h : Dg B (x :: l)) : (0 ≤ x ∧ x < B) ∧ Dg B l := ⟨h x (by simp), fun y hy => h y (by simp [hy])⟩
theorem Dg.mk {x : Int} (h0 : 0 ≤ x) (h1 : x < B) (h : Dg B l) : Dg B (x :: l) := by
  intro y hy
  rcases List.mem_cons.1 hy with rfl | hy
  · exact ⟨h0, h1⟩
  · exact h y hy
theorem Dg.append (ha : Dg B a) (hb : Dg B b) : Dg B (a ++ b) := by
  intro y hy
  rcases List.mem_append.1 hy with hy | hy
  · exact ha y hy
  · exact hb y hy
theorem Dg.take (h : Dg B l) (i : Nat) : Dg B (l.take i) := fun x hx => h x (List.mem_of_mem_take hx)
theorem Dg.drop (h : Dg B l) (i : Nat) : Dg B (l.drop i) := fun x hx => h x (List.mem_of_mem_drop hx)
theorem Dg.set (h : Dg B l) (i : Nat) {v : Int} (h0 : 0 ≤ v) (h1 : v < B) : Dg B (l.set i v) := by
  intro x hx
  rcases List.mem_or_eq_of_mem_set hx with hx | rfl
  · exact h x hx
  · exact ⟨h0, h1⟩
theorem Dg.rep (hB : 0 < B) (n : Nat) : Dg B (List.replicate n 0) := by
  intro x hx
  have := (List.mem_replicate.1 hx).2
  omega
theorem Dg.take_set {i : Nat} {v : Int} (hi : i < l.length) (h' : Dg B (l.take i)) (h0 : 0 ≤ v) (h1 : v < B) : Dg B ((l.set i v).take (i + 1)) := by
  rw [P.take_set l i v hi]
  exact h'.append (Dg.mk h0 h1 (Dg.nil B))
theorem dg_rd (h : Dg B l) (i : Int) (h0 : 0 ≤ i) (h1 : i < l.length) : 0 ≤ rd l i ∧ rd l i < B := by
  obtain ⟨n, rfl⟩ := Int.eq_ofNat_of_zero_le h0
  rw [rd_lt l n (by omega)]
  exact h _ (List.getElem_mem _)
theorem vl_nonneg (hB : 0 < B) : ∀ {l : List Int}, Dg B l → 0 ≤ vl B l
  | [], _ => by simp [vl]
  | x :: t, h => by
    have h1 := h.cons
    have h2 := vl_nonneg hB h1.2
    have h3 : 0 ≤ B * vl B t := Int.mul_nonneg (by omega) h2
    simp only [vl]
    omega
theorem vl_lt (hB : 0 < B) : ∀ {l : List Int}, Dg B l → vl B l < B ^ l.length
  | [], _ => by simp [vl]
  | x :: t, h => by
    have h1 := h.cons
    have h2 := vl_lt hB h1.2
    have h3 : B * (vl B t + 1) ≤ B * B ^ t.length := Int.mul_le_mul_of_nonneg_left (by omega) (by omega)
    simp only [vl, List.length_cons]
    rw [Int.mul_add] at h3
    have h4 : B ^ (t.length + 1) = B * B ^ t.length := by grind
    omega
theorem Nm.nil : Nm [] := fun h => absurd rfl h
theorem Nm.tail {x : Int} (h : Nm (x :: l)) : Nm l := by
  intro hl
  have := h (by simp)
  rwa [List.getLast_cons hl] at this
theorem vl_pos (hB : 0 < B) : ∀ {l : List Int}, Dg B l → Nm l → l ≠ [] → 0 < vl B l
  | [], _, _, h => absurd rfl h
  | [x], hd, hn, _ => by
    have h1 := hd.cons
    have h2 := hn (by simp)
    simp at h2
    simp [vl]
    omega
  | x :: y :: t, hd, hn, _ => by
    have h1 := hd.cons
    have h2 := vl_pos hB h1.2 hn.tail (by simp)
    have h3 : 0 < B * vl B (y :: t) := Int.mul_pos hB h2
    rw [vl]
    omega
theorem vl_ge (hB : 0 < B) : ∀ {l : List Int}, Dg B l → Nm l → l ≠ [] → B ^ (l.length - 1) ≤ vl B l
  | [], _, _, h => absurd rfl h
  | [x], hd, hn, _ => by
    have h1 := vl_pos hB hd hn (by simp)
    simp
    omega
  | x :: y :: t, hd, hn, _ => by
    have h1 := hd.cons
    have h2 := vl_ge hB h1.2 hn.tail (by simp)
    have h3 : B * B ^ ((y :: t).length - 1) ≤ B * vl B (y :: t) := Int.mul_le_mul_of_nonneg_left h2 (by omega)
    rw [vl]
    have h4 : B ^ ((x :: y :: t).length - 1) = B * B ^ ((y :: t).length - 1) := by
      simp only [List.length_cons, Nat.add_sub_cancel]
      grind
    omega
theorem can_uniq (hB : 0 < B) : ∀ {a b : List Int} {n : Int}, Can B a n → Can B b n → a = b
  | [], [], _, _, _ => rfl
  | [], y :: t, n, h, h' => by
    have h1 := vl_pos hB h'.1 h'.2.1 (by simp)
    have h2 := h.2.2
    have h3 := h'.2.2
    simp only [vl] at h2
    omega
  | x :: t, [], n, h, h' => by
    have h1 := vl_pos hB h.1 h.2.1 (by simp)
    have h2 := h.2.2
    have h3 := h'.2.2
    simp only [vl] at h3
    omega
  | x :: s, y :: t, n, h, h' => by
    have h1 := h.1.cons
    have h2 := h'.1.cons
    have h3 := h.2.2
    have h4 := h'.2.2
    simp only [vl] at h3 h4
    have e1 : x = n % B := by rw [← h3, Int.add_mul_emod_self_left, Int.emod_eq_of_lt h1.1.1 h1.1.2]
    have e2 : y = n % B := by rw [← h4, Int.add_mul_emod_self_left, Int.emod_eq_of_lt h2.1.1 h2.1.2]
    have e3 : x = y := by omega
    subst e3
    have e4 : vl B s = vl B t := Int.eq_of_mul_eq_mul_left (a := B) (by omega) (by omega)
    rw [can_uniq hB (n := vl B t) ⟨h1.2, h.2.1.tail, e4⟩ ⟨h2.2, h'.2.1.tail, rfl⟩]
theorem Can.zero (B : Int) : Can B [] 0 := ⟨Dg.nil B, Nm.nil, rfl⟩
theorem Can.ge (hB : 0 < B) {n : Int} (h : Can B l n) (h0 : l.length ≠ 0) : B ^ (l.length - 1) ≤ n := by
  rw [← h.2.2]
  exact vl_ge hB h.1 h.2.1 (fun e => h0 (by rw [e]; rfl))
theorem pow_le {B : Int} (hB : 1 ≤ B) {i j : Nat} (h : i ≤ j) : B ^ i ≤ B ^ j := by
  obtain ⟨d, rfl⟩ := Nat.exists_eq_add_of_le h
  rw [Int.pow_add]
  have h1 : 1 ≤ B ^ d := Int.pow_pos (by omega)
  have h2 : B ^ i * 1 ≤ B ^ i * B ^ d := Int.mul_le_mul_of_nonneg_left h1 (Int.le_of_lt (Int.pow_pos (by omega)))
  omega
theorem Can.len_le (hB : 1 < B) {n : Int} (h : Can B l n) {k : Nat} (hn : n < B ^ k) : l.length ≤ k := by
  rcases Nat.lt_or_ge k l.length with hk | hk
  · have h1 := h.ge (by omega) (by omega)
    have h2 := pow_le (B := B) (by omega) (show k ≤ l.length - 1 by omega)
    omega
  · exact hk
theorem vl_drop (B : Int) (l : List Int) (i : Nat) (h : i ≤ l.length) : vl B l = vl B (l.take i) + B ^ i * vl B (l.drop i) := by
  conv => lhs; rw [← List.take_append_drop i l]
  rw [vl_append, List.length_take, Nat.min_eq_left h]
theorem getLast_rd (l : List Int) (h : l ≠ []) : l.getLast h = rd l ((l.length : Int) - 1) := by
  have hp : 0 < l.length := List.length_pos_iff.2 h
  rw [List.getLast_eq_getElem]
  have e : (l.length : Int) - 1 = ((l.length - 1 : Nat) : Int) := by omega
  rw [e, rd_lt _ _ (by omega)]
theorem nm_of_rd (h : 0 < l.length → rd l ((l.length : Int) - 1) ≠ 0) : Nm l := by
  intro hl
  rw [getLast_rd l hl]
  exact h (List.length_pos_iff.2 hl)
theorem Nm.rd (h : Nm l) (hp : 0 < l.length) : rd l ((l.length : Int) - 1) ≠ 0 := by
  have hl : l ≠ [] := List.ne_nil_of_length_pos hp
  rw [← getLast_rd l hl]
  exact h hl
theorem vl_rep (B : Int) (n : Nat) : vl B (List.replicate n 0) = 0 := by
  induction n with
  | zero => rfl
  | succ n ih => simp [List.replicate_succ, vl, ih]
theorem can_ex_nat (hB : 1 < B) (n : Nat) : ∃ l, Can B l (n : Int) := by
  induction n using Nat.strongRecOn with
  | _ n ih =>
    by_cases h0 : n = 0
    · subst h0
      exact ⟨[], Can.zero B⟩
    · have hlt : ((n : Int) / B).toNat < n := by
        have h1 : (n : Int) / B < n := Int.ediv_lt_self_of_pos_of_ne_one (by omega) (by omega)
        have h2 : 0 ≤ (n : Int) / B := Int.ediv_nonneg (by omega) (by omega)
        omega
      obtain ⟨l, h1, h2, h3⟩ := ih _ hlt
      have h4 : 0 ≤ (n : Int) / B := Int.ediv_nonneg (by omega) (by omega)
      have hm := Int.emod_nonneg (n : Int) (show B ≠ 0 by omega)
      have hm2 := Int.emod_lt_of_pos (n : Int) (show 0 < B by omega)
      have h5 : vl B ((n : Int) % B :: l) = n := by
        rw [vl, h3, Int.toNat_of_nonneg h4]
        exact Int.emod_add_mul_ediv _ _
      refine ⟨(n : Int) % B :: l, Dg.mk hm hm2 h1, ?_, h5⟩
      intro hne
      rcases List.eq_nil_or_concat l with hl | ⟨_, _, hl⟩
      · subst hl
        simp only [vl, Int.mul_zero, Int.add_zero] at h5
        simp only [List.getLast_singleton]
        omega
      · have hne' : l ≠ [] := by rw [hl]; simp
        rw [List.getLast_cons hne']
        exact h2 hne'
theorem can_ex (hB : 1 < B) {n : Int} (h : 0 ≤ n) : ∃ l, Can B l n := by
  obtain ⟨k, rfl⟩ := Int.eq_ofNat_of_zero_le h
  exact can_ex_nat hB k
end
end Go.Proofs.Ytfmobogdnlmdbaa.P
end
section
namespace Go.Proofs.Ytfmobogdnlmdbaa.P
open Go.RowKit Go.Proofs.YtfmobogdnlmdbaaW.PrintWords Go.Proofs.YtfmobogdnlmdbaaW.PrintLast Go.Proofs.YtfmobogdnlmdbaaW.PrintMore
set_option linter.unusedVariables false
abbrev WW : Int := 4294967296
theorem WW_pos : (0 : Int) < WW := by decide
theorem WW_one : (1 : Int) < WW := by decide
theorem WW_eq : WW = 4294967296 := rfl
theorem alg_add {vo va vb P c c' v x y W : Int} (h : vo + c * P = va + vb) (h2 : v + W * c' = c + x + y) : vo + v * P + c' * (W * P) = (va + x * P) + (vb + y * P) := by grind
theorem alg_add1 {vo va vb P c c' v x W : Int} (h : vo + c * P = va + vb) (h2 : v + W * c' = c + x) : vo + v * P + c' * (W * P) = (va + x * P) + vb := by grind
theorem alg_last {vo c P n W : Int} (h : vo + c * P = n) : vo + P * (c + W * 0) = n := by grind
theorem wsucc {i : Nat} (h : i < 4611686018427387904) : wrap64 ((i : Int) + 1) = ((i + 1 : Nat) : Int) := by rw [w64 (by omega) (by omega)]; omega
theorem mag_Trim_ev (n : Nat) : ∀ (l : List Int), l.length = n → n < 4611686018427387904 → Dg WW l → ∃ r, Ev (fun k => mag_Trim.l0 k l) r ∧ Can WW r (vl WW l) ∧ r.length ≤ l.length := by
  induction n with
  | zero =>
    intro l hl _ hd
    have e : l = [] := List.eq_nil_of_length_eq_zero hl
    subst e
    refine ⟨[], ?_, Can.zero _, Nat.le_refl _⟩
    refine Ev.step (fun k => by rw [mag_Trim.l0]) ?_
    exact evn (by simp) (evs _)
  | succ n ih =>
    intro l hl hn hd
    have ew : wrap64 ((l.length : Int) - 1) = (n : Int) := by rw [w64 (by omega) (by omega)]; omega
    by_cases hz : rd l n = 0
    · obtain ⟨r, h1, h2, h3⟩ := ih (l.take n) (by rw [List.length_take]; omega) (by omega) (hd.take n)
      refine ⟨r, ?_, ?_, ?_⟩
      · refine Ev.step (fun k => by rw [mag_Trim.l0]) ?_
        rw [ew]
        refine evp (by omega) (evp (by omega) (evp (by omega) (evp hz (evp (by omega) ?_))))
        simpa using h1
      · have h4 := vl_take WW l n (by omega)
        rw [hz, show n + 1 = l.length by omega, List.take_length] at h4
        rw [h4]
        simpa using h2
      · rw [List.length_take] at h3
        omega
    · refine ⟨l, ?_, ⟨hd, nm_of_rd (fun _ => ?_), rfl⟩, Nat.le_refl _⟩
      · refine Ev.step (fun k => by rw [mag_Trim.l0]) ?_
        rw [ew]
        exact evp (by omega) (evp (by omega) (evp (by omega) (evn hz (evs _))))
      · rw [hl]
        have e : (((n + 1 : Nat) : Int) - 1) = (n : Int) := by omega
        rw [e]
        exact hz
theorem mag_Trim_sp {l : List Int} (hn : l.length < 4611686018427387904) (hd : Dg WW l) : ∃ r, Ev (fun k => mag_Trim.f k l) r ∧ Can WW r (vl WW l) ∧ r.length ≤ l.length := by
  obtain ⟨r, h1, h2⟩ := mag_Trim_ev l.length l rfl hn hd
  exact ⟨r, Ev.congr (fun k => by rw [mag_Trim.f]) h1, h2⟩
theorem mag_Add_ev {a b : List Int} (hba : b.length ≤ a.length) (hn : a.length < 1099511627776) (ha : Dg WW a) (hb : Dg WW b) (d : Nat) :
    ∀ (i : Nat) (o : List Int) (c : Int), a.length - i = d → i ≤ a.length → o.length = a.length + 1 → Dg WW (o.take i) → 0 ≤ c → c ≤ 1 → vl WW (o.take i) + c * WW ^ i = vl WW (a.take i) + vl WW (b.take i) →
    ∃ r, Ev (fun k => mag_Add.l0 k a b o c a (a.length : Int) (i : Int)) r ∧ Can WW r (vl WW a + vl WW b) ∧ r.length ≤ a.length + 1 := by
  induction d with
  | zero =>
    intro i o c h1 h2 h3 h4 h5 h6 h7
    have e : i = a.length := by omega
    subst e
    have hset : o.set a.length c = o.take a.length ++ [c] := by
      have := P.take_set o a.length c (by omega)
      rw [show a.length + 1 = (o.set a.length c).length by simp [h3], List.take_length] at this
      exact this
    have hd : Dg WW (o.set a.length c) := by rw [hset]; exact h4.append (Dg.mk h5 (by have := WW_one; omega) (Dg.nil _))
    obtain ⟨r, h8, h9, h10⟩ := mag_Trim_sp (l := o.set a.length c) (by simp; omega) hd
    have hv : vl WW (o.set a.length c) = vl WW a + vl WW b := by
      rw [hset, vl_append, List.length_take, Nat.min_eq_left (by omega)]
      rw [List.take_length, List.take_of_length_le hba] at h7
      simp only [vl]
      exact alg_last h7
    refine ⟨r, ?_, by rw [← hv]; exact h9, by simp at h10; omega⟩
    refine Ev.step (fun k => by rw [mag_Add.l0]) ?_
    refine evn (by omega) (evp (by omega) (evp (by omega) ?_))
    have ec : c % 4294967296 = c := by omega
    rw [ec, show ((a.length : Int)).toNat = a.length by omega]
    exact Ev.bind h8 (evs _)
  | succ d ih =>
    intro i o c h1 h2 h3 h4 h5 h6 h7
    have hi : i < a.length := by omega
    have hx := dg_rd ha (i : Int) (by omega) (by omega)
    have ti := vl_take WW a i hi
    have ep : WW ^ (i + 1) = WW * WW ^ i := by rw [Int.pow_succ, Int.mul_comm]
    have hW := WW_eq
    by_cases hib : i < b.length
    · have hy := dg_rd hb (i : Int) (by omega) (by omega)
      have tb := vl_take WW b i hib
      have ev : (c + rd a i + rd b i) % 4294967296 + WW * ((c + rd a i + rd b i) / 4294967296) = c + rd a i + rd b i := by rw [WW_eq]; omega
      obtain ⟨r, h8, h9⟩ := ih (i + 1) (o.set i ((c + rd a i + rd b i) % 4294967296)) ((c + rd a i + rd b i) / 4294967296) (by omega) (by omega) (by simpa using h3)
        (Dg.take_set (by omega) h4 (by omega) (by omega)) (by omega) (by omega)
        (by rw [vl_set _ _ _ _ (by omega), ti, tb, ep]; exact alg_add h7 ev)
      refine ⟨r, ?_, h9⟩
      refine Ev.step (fun k => by rw [mag_Add.l0]) ?_
      rw [u64 (x := rd a i) (by omega) (by omega), u64 (x := rd b i) (by omega) (by omega), u64 (x := c + rd a i) (by omega) (by omega), u64 (x := c + rd a i + rd b i) (by omega) (by omega), wsucc (by omega)]
      exact evp (by omega) (evp (by omega) (evp (by omega) (evp (by omega) (evp (by omega) h8))))
    · have tb : vl WW (b.take (i + 1)) = vl WW (b.take i) := by rw [List.take_of_length_le (by omega), List.take_of_length_le (by omega)]
      have ev : (c + rd a i) % 4294967296 + WW * ((c + rd a i) / 4294967296) = c + rd a i := by rw [WW_eq]; omega
      obtain ⟨r, h8, h9⟩ := ih (i + 1) (o.set i ((c + rd a i) % 4294967296)) ((c + rd a i) / 4294967296) (by omega) (by omega) (by simpa using h3)
        (Dg.take_set (by omega) h4 (by omega) (by omega)) (by omega) (by omega)
        (by rw [vl_set _ _ _ _ (by omega), ti, tb, ep]; exact alg_add1 h7 ev)
      refine ⟨r, ?_, h9⟩
      refine Ev.step (fun k => by rw [mag_Add.l0]) ?_
      rw [u64 (x := rd a i) (by omega) (by omega), u64 (x := c + rd a i) (by omega) (by omega), wsucc (by omega)]
      exact evp (by omega) (evp (by omega) (evp (by omega) (evn (by omega) (evp (by omega) h8))))
theorem mag_Add_j {a b : List Int} (hba : b.length ≤ a.length) (hn : a.length < 1099511627776) (ha : Dg WW a) (hb : Dg WW b) : ∃ r, Ev (fun k => mag_Add.j0 k a b) r ∧ Can WW r (vl WW a + vl WW b) ∧ r.length ≤ a.length + 1 := by
  obtain ⟨r, h1, h2⟩ := mag_Add_ev hba hn ha hb a.length 0 (List.replicate (a.length + 1) 0) 0 (by omega) (by omega) (by simp) (by simp; exact Dg.nil _) (by omega) (by omega) (by simp [vl])
  refine ⟨r, ?_, h2⟩
  refine Ev.step (fun k => by rw [mag_Add.j0]) ?_
  have e : wrap64 ((a.length : Int) + 1) = ((a.length + 1 : Nat) : Int) := by rw [w64 (by omega) (by omega)]; omega
  rw [e, Int.toNat_natCast]
  exact evp (by omega) (evp (by omega) h1)
theorem mag_Add_sp {a b : List Int} {n m : Int} (hla : a.length < 1099511627776) (hlb : b.length < 1099511627776) (ha : Can WW a n) (hb : Can WW b m) : ∃ r, Ev (fun k => mag_Add.f k a b) r ∧ Can WW r (n + m) ∧ r.length ≤ max a.length b.length + 1 := by
  unfold mag_Add.f
  rw [← ha.2.2, ← hb.2.2]
  by_cases h : a.length < b.length
  · obtain ⟨r, h1, h2, h3⟩ := mag_Add_j (a := b) (b := a) (by omega) hlb hb.1 ha.1
    exact ⟨r, evp (by omega) h1, by rw [Int.add_comm]; exact h2, by omega⟩
  · obtain ⟨r, h1, h2, h3⟩ := mag_Add_j (a := a) (b := b) (by omega) hla ha.1 hb.1
    exact ⟨r, evn (by omega) h1, h2, by omega⟩
end Go.Proofs.Ytfmobogdnlmdbaa.P
end
section
namespace Go.Proofs.Ytfmobogdnlmdbaa.P
open Go.RowKit Go.Proofs.YtfmobogdnlmdbaaW.PrintWords Go.Proofs.YtfmobogdnlmdbaaW.PrintLast Go.Proofs.YtfmobogdnlmdbaaW.PrintMore
set_option linter.unusedVariables false
theorem vl_set_mid (B : Int) (l : List Int) (p q : Nat) (v : Int) (h : p < q) (hq : q ≤ l.length) : vl B ((l.set p v).take q) = vl B (l.take q) + (v - rd l (p : Int)) * B ^ p := by
  have h1 := vl_drop B ((l.set p v).take q) (p + 1) (by simp; omega)
  have h2 := vl_drop B (l.take q) (p + 1) (by simp; omega)
  have e1 : ((l.set p v).take q).take (p + 1) = (l.set p v).take (p + 1) := by rw [List.take_take, Nat.min_eq_left (by omega)]
  have e2 : (l.take q).take (p + 1) = l.take (p + 1) := by rw [List.take_take, Nat.min_eq_left (by omega)]
  have e3 : ((l.set p v).take q).drop (p + 1) = (l.take q).drop (p + 1) := by
    rw [List.drop_take, List.drop_take, List.drop_set_of_lt (by omega)]
  rw [e1, e3, vl_set _ _ _ _ (by omega)] at h1
  rw [e2, vl_take _ _ _ (by omega)] at h2
  rw [h1, h2]
  grind
theorem alg_mul {T va vb x y old P c c' v W xb Pi Pj : Int} (h : T + c * P = va * vb + x * Pi * xb) (h2 : v + W * c' = c + (x * y + old)) (hP : P = Pi * Pj) : (T + (v - old) * P) + c' * (W * P) = va * vb + x * Pi * (xb + y * Pj) := by grind
theorem mul_bd {x y : Int} (hx : 0 ≤ x ∧ x < 4294967296) (hy : 0 ≤ y ∧ y < 4294967296) : 0 ≤ x * y ∧ x * y ≤ 18446744065119617025 := by
  have h1 : 0 ≤ x * y := Int.mul_nonneg hx.1 hy.1
  have h2 : x * y ≤ 4294967295 * 4294967295 := Int.mul_le_mul (by omega) (by omega) hy.1 (by omega)
  omega
theorem mulc {x y old c : Int} (hx : 0 ≤ x ∧ x < 4294967296) (hy : 0 ≤ y ∧ y < 4294967296) (ho : 0 ≤ old ∧ old < 4294967296) (hc : 0 ≤ c ∧ c < 4294967296) :
    ∃ v c', IntKind.u64.wrap (c + IntKind.u64.wrap (IntKind.u64.wrap (IntKind.u64.wrap x * IntKind.u64.wrap y) + IntKind.u64.wrap old)) % 4294967296 = v ∧ IntKind.u64.wrap (c + IntKind.u64.wrap (IntKind.u64.wrap (IntKind.u64.wrap x * IntKind.u64.wrap y) + IntKind.u64.wrap old)) / 4294967296 = c' ∧ v + 4294967296 * c' = c + (x * y + old) ∧ 0 ≤ v ∧ v < 4294967296 ∧ 0 ≤ c' ∧ c' < 4294967296 := by
  have hb := mul_bd hx hy
  rw [u64 (x := x) (by omega) (by omega), u64 (x := y) (by omega) (by omega), u64 (x := old) (by omega) (by omega), u64 (x := x * y) (by omega) (by omega), u64 (x := x * y + old) (by omega) (by omega), u64 (x := c + (x * y + old)) (by omega) (by omega)]
  refine ⟨_, _, rfl, rfl, ?_, ?_, ?_, ?_, ?_⟩ <;> omega
theorem alg_mul2 {T c P va vb x Pi : Int} (h : T + c * P = va * vb + x * Pi * vb) : T + c * P = (va + x * Pi) * vb := by rw [h]; grind
theorem mag_Mul_in {a b : List Int} (hn : a.length + b.length < 1099511627776) (ha : Dg WW a) (hb : Dg WW b) (i : Nat) (hi : i < a.length) (R : List Int)
    (hout : ∀ o : List Int, o.length = a.length + b.length → Dg WW o → vl WW (o.take (i + 1 + b.length)) = vl WW (a.take (i + 1)) * vl WW b → Ev (fun k => mag_Mul.l0 k b o a (a.length : Int) ((i + 1 : Nat) : Int)) R) (d : Nat) :
    ∀ (j : Nat) (o : List Int) (c : Int), b.length - j = d → j ≤ b.length → o.length = a.length + b.length → Dg WW o → 0 ≤ c → c < 4294967296 →
    vl WW (o.take (i + b.length)) + c * WW ^ (i + j) = vl WW (a.take i) * vl WW b + rd a i * WW ^ i * vl WW (b.take j) →
    Ev (fun k => mag_Mul.l1 k b o (i : Int) (rd a i) c a (a.length : Int) (i : Int) b (b.length : Int) (j : Int)) R := by
  induction d with
  | zero =>
    intro j o c h1 h2 h3 h4 h5 h6 h7
    have e : j = b.length := by omega
    subst e
    rw [List.take_length] at h7
    have ei : ((i : Int) + (b.length : Int)) = ((i + b.length : Nat) : Int) := by omega
    refine Ev.step (fun k => by rw [mag_Mul.l1]) ?_
    rw [ei, w64 (x := ((i + b.length : Nat) : Int)) (by omega) (by omega), Int.toNat_natCast, wsucc (i := i) (by omega), Int.emod_eq_of_lt h5 h6]
    refine evn (by omega) (evp (by omega) (evp (by omega) ?_))
    refine hout _ (by simpa using h3) (h4.set _ h5 (by rw [WW_eq]; exact h6)) ?_
    rw [show i + 1 + b.length = i + b.length + 1 by omega, vl_set _ _ _ _ (by omega), vl_take WW a i hi]
    exact alg_mul2 h7
  | succ d ih =>
    intro j o c h1 h2 h3 h4 h5 h6 h7
    have hx := dg_rd ha (i : Int) (by omega) (by omega)
    have hy := dg_rd hb (j : Int) (by omega) (by omega)
    have ho := dg_rd h4 ((i + j : Nat) : Int) (by omega) (by omega)
    rw [WW_eq] at hx hy ho
    obtain ⟨v, c', e1, e2, e3, v0, v1, c0, c1⟩ := mulc hx hy ho ⟨h5, h6⟩
    have h8 := ih (j + 1) (o.set (i + j) v) c' (by omega) (by omega) (by simpa using h3) (h4.set _ v0 (by rw [WW_eq]; exact v1)) c0 c1
      (by
        rw [vl_set_mid _ _ _ _ _ (by omega) (by omega), vl_take WW b j (by omega), show i + (j + 1) = i + j + 1 by omega, Int.pow_succ, Int.mul_comm (WW ^ (i + j)) WW]
        exact alg_mul h7 e3 (Int.pow_add _ _ _))
    have ei : ((i : Int) + (j : Int)) = ((i + j : Nat) : Int) := by omega
    refine Ev.step (fun k => by rw [mag_Mul.l1]) ?_
    rw [ei, w64 (x := ((i + j : Nat) : Int)) (by omega) (by omega), e1, e2, wsucc (by omega), Int.toNat_natCast]
    exact evp (by omega) (evp (by omega) (evp (by omega) (evp (by omega) (evp (by omega) h8))))
theorem mul_lt' {n m A C : Int} (h1 : n < A) (h2 : m < C) (h3 : 0 ≤ n) (h4 : 0 ≤ m) : n * m < A * C := by
  have h5 : n * m ≤ n * C := Int.mul_le_mul_of_nonneg_left (by omega) h3
  have h6 : n * C < A * C := Int.mul_lt_mul_of_pos_right h1 (by omega)
  omega
theorem mag_Mul_out {a b : List Int} (hn : a.length + b.length < 1099511627776) (ha : Dg WW a) (hb : Dg WW b) : ∃ R, Can WW R (vl WW a * vl WW b) ∧ R.length ≤ a.length + b.length ∧ ∀ (d i : Nat) (o : List Int), a.length - i = d → i ≤ a.length → o.length = a.length + b.length → Dg WW o → vl WW (o.take (i + b.length)) = vl WW (a.take i) * vl WW b →
    Ev (fun k => mag_Mul.l0 k b o a (a.length : Int) (i : Int)) R := by
  have key : ∀ o : List Int, o.length = a.length + b.length → Dg WW o → vl WW (o.take (a.length + b.length)) = vl WW (a.take a.length) * vl WW b → ∃ r, Ev (fun k => mag_Mul.l0 k b o a (a.length : Int) (a.length : Int)) r ∧ Can WW r (vl WW a * vl WW b) ∧ r.length ≤ a.length + b.length := by
    intro o h1 h2 h3
    obtain ⟨r, h8, h9, h10⟩ := mag_Trim_sp (l := o) (by omega) h2
    rw [← h1, List.take_length, List.take_length] at h3
    refine ⟨r, ?_, by rw [← h3]; exact h9, by omega⟩
    refine Ev.step (fun k => by rw [mag_Mul.l0]) ?_
    exact evn (by omega) (Ev.bind h8 (evs _))
  have hv : ∃ R, Can WW R (vl WW a * vl WW b) ∧ R.length ≤ a.length + b.length := by
    have hnn : 0 ≤ vl WW a * vl WW b := Int.mul_nonneg (vl_nonneg WW_pos ha) (vl_nonneg WW_pos hb)
    obtain ⟨R, hR⟩ := can_ex WW_one hnn
    refine ⟨R, hR, ?_⟩
    refine hR.len_le WW_one ?_
    rw [Int.pow_add]
    have h1 := vl_lt WW_pos ha
    have h2 := vl_lt WW_pos hb
    have h3 := vl_nonneg WW_pos ha
    have h4 := vl_nonneg WW_pos hb
    exact mul_lt' h1 h2 h3 h4
  obtain ⟨R, hR, hRl⟩ := hv
  refine ⟨R, hR, hRl, ?_⟩
  intro d
  induction d with
  | zero =>
    intro i o h1 h2 h3 h4 h5
    have e : i = a.length := by omega
    subst e
    obtain ⟨r, h6, h7, _⟩ := key o h3 h4 h5
    rw [can_uniq WW_pos hR h7]
    exact h6
  | succ d ih =>
    intro i o h1 h2 h3 h4 h5
    have h6 := mag_Mul_in hn ha hb i (by omega) R (fun o' q1 q2 q3 => ih (i + 1) o' (by omega) (by omega) q1 q2 (by rw [q3])) b.length 0 o 0 (by omega) (by omega) h3 h4 (by omega) (by omega) (by rw [h5]; simp [vl])
    refine Ev.step (fun k => by rw [mag_Mul.l0]) ?_
    exact evp (by omega) (evp (by omega) (evp (by omega) h6))
theorem mag_Mul_sp {a b : List Int} {n m : Int} (hn : a.length + b.length < 1099511627776) (ha : Can WW a n) (hb : Can WW b m) : ∃ r, Ev (fun k => mag_Mul.f k a b) r ∧ Can WW r (n * m) ∧ r.length ≤ a.length + b.length := by
  by_cases ha0 : a.length = 0
  · have e : a = [] := List.eq_nil_of_length_eq_zero ha0
    subst e
    have : n = 0 := by rw [← ha.2.2]; rfl
    subst this
    refine ⟨[], ?_, by rw [Int.zero_mul]; exact Can.zero _, Nat.zero_le _⟩
    unfold mag_Mul.f
    refine evp (by simp) ?_
    refine Ev.step (fun k => by rw [mag_Mul.j0]) ?_
    exact evp rfl (evs _)
  · by_cases hb0 : b.length = 0
    · have e : b = [] := List.eq_nil_of_length_eq_zero hb0
      subst e
      have : m = 0 := by rw [← hb.2.2]; rfl
      subst this
      refine ⟨[], ?_, by rw [Int.mul_zero]; exact Can.zero _, Nat.zero_le _⟩
      unfold mag_Mul.f
      refine evn (by omega) ?_
      refine Ev.step (fun k => by rw [mag_Mul.j0]) ?_
      exact evp rfl (evs _)
    · obtain ⟨R, h1, h2, h3⟩ := mag_Mul_out hn ha.1 hb.1
      rw [ha.2.2, hb.2.2] at h1
      refine ⟨R, ?_, h1, h2⟩
      have h4 := h3 a.length 0 (List.replicate (a.length + b.length) 0) (by omega) (by omega) (by simp) (Dg.rep WW_pos _) (by rw [List.take_replicate]; simp [vl, vl_rep])
      unfold mag_Mul.f
      refine evn (by omega) ?_
      refine Ev.step (fun k => by rw [mag_Mul.j0]) ?_
      have e : (a.length : Int) + (b.length : Int) = ((a.length + b.length : Nat) : Int) := by omega
      rw [e, w64 (by omega) (by omega), Int.toNat_natCast]
      refine evn ?_ (evp (by omega) (evp (by omega) h4))
      simp only [beq_iff_eq]
      omega
end Go.Proofs.Ytfmobogdnlmdbaa.P
end
section
namespace Go.Proofs.Ytfmobogdnlmdbaa.P
open Go.RowKit Go.Proofs.YtfmobogdnlmdbaaW.PrintWords Go.Proofs.YtfmobogdnlmdbaaW.PrintLast Go.Proofs.YtfmobogdnlmdbaaW.PrintMore
set_option linter.unusedVariables false
theorem tmod_nn {x : Int} (h : 0 ≤ x) (m : Int) : Int.tmod x m = x % m := Int.tmod_eq_emod_of_nonneg h
end Go.Proofs.Ytfmobogdnlmdbaa.P
end
section
namespace Go.Proofs.Ytfmobogdnlmdbaa.P
open Go.RowKit Go.Proofs.YtfmobogdnlmdbaaW.PrintWords Go.Proofs.YtfmobogdnlmdbaaW.PrintLast Go.Proofs.YtfmobogdnlmdbaaW.PrintMore
set_option linter.unusedVariables false
theorem getLast_snoc (l : List Int) (x : Int) (h : l ++ [x] ≠ []) : (l ++ [x]).getLast h = x := by simp
theorem valid_sp (l : List Int) (hl : l.length < 4611686018427387904) : ∃ b, isochroneref01_Valid.f l = some b ∧ nat_Valid.f l = some b ∧ (b = true ↔ l.length ≤ 4096 ∧ Nm l) := by
  unfold isochroneref01_Valid.f nat_Valid.f
  by_cases h1 : l.length ≤ 4096
  · by_cases h0 : l.length = 0
    · refine ⟨true, by rw [if_pos (by omega), if_pos (by omega)], by rw [if_pos (by omega), if_pos (by omega)], ?_⟩
      have : l = [] := List.eq_nil_of_length_eq_zero h0
      subst this
      simp
      exact Nm.nil
    · have e : wrap64 ((l.length : Int) - 1) = (l.length : Int) - 1 := w64 (by omega) (by omega)
      rw [e, if_pos (by omega), if_neg (by omega), if_pos (by omega), if_pos (by omega)]
      refine ⟨_, rfl, rfl, ?_⟩
      simp only [bne_iff_ne]
      constructor
      · intro h
        exact ⟨h1, nm_of_rd (fun _ => h)⟩
      · intro h
        exact h.2.rd (by omega)
  · refine ⟨false, by rw [if_neg (by omega)], by rw [if_neg (by omega)], ?_⟩
    simp
    omega
theorem awake_ok : Ev (fun k => isochronelaw01_awake.f k) true := Ev.of (fun k => isochronelaw01_awake.mono k) (k := 60) (by decide +kernel)
end Go.Proofs.Ytfmobogdnlmdbaa.P
end
section
namespace Go.Proofs.Ytfmobogdnlmdbaa.P
open Go.RowKit Go.Proofs.YtfmobogdnlmdbaaW.PrintWords Go.Proofs.YtfmobogdnlmdbaaW.PrintLast Go.Proofs.YtfmobogdnlmdbaaW.PrintMore
set_option linter.unusedVariables false
theorem both_sp {a b : List Int} (ha : a.length ≤ 4096) (hb : b.length ≤ 4096) (na : Nm a) (nb : Nm b) : nat_both.f a b = some true := by
  obtain ⟨p, _, h1, h2⟩ := valid_sp a (by omega)
  obtain ⟨q, _, h3, h4⟩ := valid_sp b (by omega)
  have e1 : p = true := h2.2 ⟨ha, na⟩
  have e2 : q = true := h4.2 ⟨hb, nb⟩
  subst e1
  subst e2
  unfold nat_both.f
  rw [h1, h3]
  rfl
theorem limited_sp {a : List Int} (h : a.length ≤ 4096) : nat_limited.f a = some (a, 0) := by
  unfold nat_limited.f
  rw [if_neg (by omega), if_pos (by simp; omega)]
  rfl
end Go.Proofs.Ytfmobogdnlmdbaa.P
end
section
namespace Go.Proofs.Ytfmobogdnlmdbaa.P
open Go.RowKit Go.Proofs.YtfmobogdnlmdbaaW.PrintWords Go.Proofs.YtfmobogdnlmdbaaW.PrintLast Go.Proofs.YtfmobogdnlmdbaaW.PrintMore
set_option linter.unusedVariables false
theorem or_one {x : Int} (h0 : 0 ≤ x) (h1 : x < 4294967296) : 1 ≤ Go.bits .or .u32 x 1 ∧ Go.bits .or .u32 x 1 < 4294967296 := by
  obtain ⟨a, rfl⟩ := Int.eq_ofNat_of_zero_le h0
  have h := (bits_nat .u32 32 (by decide) (fun n h0 h1 => by rw [IntKind.wrap_u32]; omega) a 1 (by omega) (by omega)).2
  have e : Go.bits .or .u32 (a : Int) 1 = Go.bits .or .u32 (a : Int) ((1 : Nat) : Int) := rfl
  have h2 : 1 ≤ a ||| 1 := Nat.right_le_or
  have h3 : a ||| 1 < 2 ^ 32 := Nat.or_lt_two_pow (by omega) (by omega)
  rw [e, h]
  omega
theorem vl_ones (k : Nat) : vl WW (List.replicate k 4294967295) = WW ^ k - 1 := by
  induction k with
  | zero => rfl
  | succ k ih =>
    rw [List.replicate_succ, vl, ih, Int.pow_succ]
    have := WW_eq
    grind
theorem dg_all {B v : Int} (n : Nat) (h0 : 0 ≤ v) (h1 : v < B) : Dg B (List.replicate n v) := fun x hx => by
  rw [(List.mem_replicate.1 hx).2]; exact ⟨h0, h1⟩
theorem nm_snoc (l : List Int) (x : Int) (h : x ≠ 0) : Nm (l ++ [x]) := fun h' => by rw [getLast_snoc]; exact h
theorem can_pow (k : Nat) : Can WW (List.replicate k 0 ++ [1]) (WW ^ k) := by
  refine ⟨Dg.append (Dg.rep WW_pos k) (Dg.mk (by decide) (by decide) (Dg.nil _)), nm_snoc _ _ (by decide), ?_⟩
  rw [vl_append, vl_rep, List.length_replicate, vl, vl]
  grind
theorem can_top {x : Int} (h0 : 0 ≤ x) (h1 : x < WW) (k : Nat) : Can WW (x :: (List.replicate k 0 ++ [1])) (x + WW ^ (k + 1)) := by
  refine ⟨Dg.mk h0 h1 (can_pow k).1, nm_snoc (x :: List.replicate k 0) 1 (by decide), ?_⟩
  rw [vl, (can_pow k).2.2, Int.pow_succ]
  grind
theorem nm_ones (k : Nat) : Nm (List.replicate k 4294967295) := fun h => by rw [List.getLast_replicate]; decide
theorem rep_set (k n : Nat) (h : k < n) (v : Int) : (List.replicate n (0 : Int)).set k v = List.replicate k 0 ++ v :: List.replicate (n - k - 1) 0 := by
  apply List.ext_getElem
  · simp; omega
  · intro i h1 h2
    rw [List.getElem_set]
    split
    · rename_i e; subst e; simp
    · rename_i e
      rw [List.getElem_append]
      split
      · simp
      · rename_i e2
        simp only [List.length_replicate] at e2 ⊢
        rw [List.getElem_cons]
        split
        · omega
        · simp
theorem ones_step (o : List Int) (n i : Nat) (h : o = List.replicate i 4294967295 ++ List.replicate (n - i) 0) (hi : i < n) : o.set i 4294967295 = List.replicate (i + 1) 4294967295 ++ List.replicate (n - (i + 1)) 0 := by
  subst h
  rw [List.set_append_right _ _ (by simp), List.length_replicate, Nat.sub_self, show n - i = (n - (i + 1)) + 1 by omega, List.replicate_succ, List.set_cons_zero, List.replicate_succ']
  simp
theorem limited_over {a : List Int} (h : 4096 < a.length) : nat_limited.f a = some ([], 2) := by
  unfold nat_limited.f
  rw [if_pos (by omega)]
theorem lim_last {x : Int} {p : List Int} (k : Nat) (hk : 1 ≤ k ∧ k ≤ 4096) (hp : p = List.replicate (2 * k - 2) 0 ++ [1]) (d : Nat) : ∀ i : Nat, 2 * k - 1 - i = d → i ≤ 2 * k - 1 → Ev (fun f => isochronelaw01_NatLimits.l1 f (k : Int) p (p.length : Int) (i : Int)) true := by
  have hl : p.length = 2 * k - 1 := by rw [hp]; simp; omega
  induction d with
  | zero =>
    intro i h1 h2
    refine Ev.step (fun f => by rw [isochronelaw01_NatLimits.l1]) ?_
    exact evn (by omega) (evs _)
  | succ d ih =>
    intro i h1 h2
    have next := ih (i + 1) (by omega) (by omega)
    refine Ev.step (fun f => by rw [isochronelaw01_NatLimits.l1]) ?_
    rw [w64 (x := 2 * (k : Int)) (by omega) (by omega), w64 (x := 2 * (k : Int) - 2) (by omega) (by omega), wsucc (i := i) (by omega)]
    refine evp (by omega) (evp (by omega) (evp (by omega) ?_))
    by_cases c : i < 2 * k - 2
    · have hz : rd p (i : Int) = 0 := by
        rw [rd_lt p i (by omega)]
        simp only [hp]
        rw [List.getElem_append_left (by simp; omega)]
        simp
      exact evp (by omega) (evp hz (evn (by omega) next))
    · have e : i = 2 * k - 2 := by omega
      have hz : rd p (i : Int) = 1 := by
        rw [rd_lt p i (by omega)]
        simp only [hp, e]
        rw [List.getElem_append_right (by simp)]
        simp
      exact evn (by omega) (evp (by omega) (evp hz next))
theorem lim_mul (k : Nat) (hk : 1 ≤ k ∧ k ≤ 4096) : Ev (fun f => isochronelaw01_NatLimits.j1 f (k : Int)) true := by
  refine Ev.step (fun f => by rw [isochronelaw01_NatLimits.j1]) ?_
  rw [w64 (x := 2 * (k : Int)) (by omega) (by omega), w64 (x := 2 * (k : Int) - 1) (by omega) (by omega), w64 (x := (k : Int) - 1) (by omega) (by omega)]
  refine evp (by omega) (evp (by omega) (evb rfl ?_))
  refine evp (by omega) (evp (by simp; omega) (evb rfl ?_))
  have e : (List.replicate ((k : Int).toNat) (0 : Int)).set (((k : Int) - 1).toNat) 1 = List.replicate (k - 1) 0 ++ [1] := by
    rw [rep_set _ _ (by omega)]
    have e1 : (k : Int).toNat - ((k : Int) - 1).toNat - 1 = 0 := by omega
    have e2 : ((k : Int) - 1).toNat = k - 1 := by omega
    rw [e1, e2]
    rfl
  rw [e]
  have ca := can_pow (k - 1)
  have la : (List.replicate (k - 1) (0 : Int) ++ [1]).length = k := by simp; omega
  obtain ⟨p, p1, p2, p3⟩ := mag_Mul_sp (by omega) ca ca
  have hv : WW ^ (k - 1) * WW ^ (k - 1) = WW ^ (2 * k - 2) := by rw [← Int.pow_add]; congr 1; omega
  rw [hv] at p2
  have ep := can_uniq WW_pos p2 (can_pow (2 * k - 2))
  have lp : p.length = 2 * k - 1 := by rw [ep]; simp; omega
  generalize hpw : (List.replicate (k - 1) (0 : Int) ++ [1]) = pw at *
  have bo := both_sp (a := pw) (b := pw) (by omega) (by omega) ca.2.1 ca.2.1
  by_cases c : 2 * k - 1 > 4096
  · have hM : Ev (fun k => nat_Mul.f k pw pw) ([], 2) := by
      unfold nat_Mul.f
      refine evb bo (evp rfl (evp (by omega) (evp (by omega) ?_)))
      have hd : decide ((wrap64 ((wrap64 ((pw.length : Int) + (pw.length : Int))) - 1)) > 4096) = true := by
        rw [w64 (x := (pw.length : Int) + (pw.length : Int)) (by omega) (by omega), w64 (by omega) (by omega)]
        exact decide_eq_true (by omega)
      rw [hd]
      refine Ev.step (fun k => by rw [nat_Mul.j0]) ?_
      exact evp rfl (evs _)
    refine Ev.bind hM (evp (by omega) (evp rfl ?_))
    exact evs _
  · have hM : Ev (fun k => nat_Mul.f k pw pw) (p, 0) := by
      unfold nat_Mul.f
      refine evb bo (evp rfl (evp (by omega) (evp (by omega) ?_)))
      have hd : decide ((wrap64 ((wrap64 ((pw.length : Int) + (pw.length : Int))) - 1)) > 4096) = false := by
        rw [w64 (x := (pw.length : Int) + (pw.length : Int)) (by omega) (by omega), w64 (by omega) (by omega)]
        exact decide_eq_false (by omega)
      rw [hd]
      refine Ev.step (fun k => by rw [nat_Mul.j0]) ?_
      exact evn (by simp) (Ev.bind p1 (evb (limited_sp (by omega)) (evs _)))
    refine Ev.bind hM (evn (by omega) (evp rfl ?_))
    have hb : ((p.length : Int) != 2 * (k : Int) - 1) = false := by
      rw [bne_eq_false_iff_eq]; omega
    simp only [hb]
    refine Ev.step (fun f => by rw [isochronelaw01_NatLimits.j2]) ?_
    exact evn (by simp) (lim_last (x := 0) k hk ep (2 * k - 1) 0 (by omega) (by omega))
theorem lim_add (x : Int) (hx : 0 ≤ x ∧ x < 4294967296) (k : Nat) (hk : 1 ≤ k ∧ k ≤ 4096) (d : Nat) : ∀ (i : Nat) (o : List Int), k - i = d → i ≤ k → o = List.replicate i 4294967295 ++ List.replicate (k - i) 0 → Ev (fun f => isochronelaw01_NatLimits.l0 f x (k : Int) o (k : Int) (i : Int)) true := by
  induction d with
  | zero =>
    intro i o h1 h2 h3
    have ei : i = k := by omega
    subst ei
    rw [Nat.sub_self, List.replicate_zero, List.append_nil] at h3
    have ho := or_one hx.1 hx.2
    generalize hodd : Go.bits .or .u32 x 1 = odd at ho
    have ca : Can WW o (WW ^ i - 1) := by rw [h3]; exact ⟨dg_all _ (by decide) (by decide), nm_ones i, vl_ones i⟩
    have cb : Can WW [odd] odd := by
      refine ⟨Dg.mk (by omega) (by rw [WW_eq]; omega) (Dg.nil _), nm_snoc [] odd (by omega), ?_⟩
      rw [vl, vl]; grind
    have lo : o.length = i := by rw [h3]; simp
    obtain ⟨s, s1, s2, s3⟩ := mag_Add_sp (by omega) (by simp) ca cb
    have ev : WW ^ i - 1 + odd = (odd - 1) + WW ^ ((i - 1) + 1) := by
      rw [Nat.sub_add_cancel hk.1]; grind
    rw [ev] at s2
    have es := can_uniq WW_pos s2 (can_top (by omega) (by rw [WW_eq]; omega) (i - 1))
    have ls : s.length = i + 1 := by rw [es]; simp; omega
    have bo := both_sp (a := o) (b := [odd]) (by omega) (by simp) ca.2.1 cb.2.1
    have r0 : rd s 0 = odd - 1 := by rw [es]; rfl
    have rk : rd s (i : Int) = 1 := by
      rw [rd_lt s i (by omega)]
      simp only [es]
      obtain ⟨j, rfl⟩ : ∃ j, i = j + 1 := ⟨i - 1, by omega⟩
      rw [List.getElem_cons_succ, List.getElem_append_right (by simp)]
      simp
    have hm : (odd - 1) % 4294967296 = odd - 1 := by omega
    refine Ev.step (fun f => by rw [isochronelaw01_NatLimits.l0]) ?_
    rw [hodd, hm, w64 (x := (i : Int) + 1) (by omega) (by omega)]
    refine evn (by omega) ?_
    have fin := lim_mul i hk
    by_cases c : i = 4096
    · have hA : Ev (fun k => nat_Add.f k o [odd]) ([], 2) := by
        unfold nat_Add.f
        exact evb bo (evp rfl (Ev.bind s1 (evb (limited_over (by omega)) (evs _))))
      refine Ev.bind hA (evp (by omega) (evp rfl (evn (by simp) fin)))
    · have hA : Ev (fun k => nat_Add.f k o [odd]) (s, 0) := by
        unfold nat_Add.f
        exact evb bo (evp rfl (Ev.bind s1 (evb (limited_sp (by omega)) (evs _))))
      refine Ev.bind hA (evn (by omega) (evp rfl (evp ?_ (evp ?_ (evp r0 (evp ?_ (evp ?_ (evp rk fin))))))))
      all_goals first | omega | (dsimp only; omega)
  | succ d ih =>
    intro i o h1 h2 h3
    have lo : o.length = k := by rw [h3]; simp; omega
    have next := ih (i + 1) (o.set i 4294967295) (by omega) (by omega) (ones_step o k i h3 (by omega))
    refine Ev.step (fun f => by rw [isochronelaw01_NatLimits.l0]) ?_
    rw [wsucc (i := i) (by omega), Int.toNat_natCast]
    exact evp (by omega) (evp (by omega) (evp (by omega) next))
theorem NatLimits : isochronelaw01_NatLimits.Pure := by
  intro n x h1 h2
  have b1 : 0 ≤ n ∧ n ≤ 65535 := by
    have e1 : IntKind.u16.min = 0 := rfl
    have e2 : IntKind.u16.max = 65535 := rfl
    simpa only [Lit.wf, Bool.and_eq_true, decide_eq_true_eq, e1, e2] using h1
  have b2 : 0 ≤ x ∧ x ≤ 4294967295 := by
    have e1 : IntKind.u32.min = 0 := rfl
    have e2 : IntKind.u32.max = 4294967295 := rfl
    simpa only [Lit.wf, Bool.and_eq_true, decide_eq_true_eq, e1, e2] using h2
  refine Ev.rounds ?_
  unfold isochronelaw01_NatLimits.f
  refine Ev.bind awake_ok (evp rfl ?_)
  rw [w64 (x := n) (by omega) (by omega), tmod_nn b1.1, w64 (x := n % 4096 + 1) (by omega) (by omega)]
  refine evp (by omega) (evp (by omega) (evb rfl ?_))
  obtain ⟨k, hk⟩ := Int.eq_ofNat_of_zero_le (a := n % 4096 + 1) (by omega)
  rw [hk, Int.toNat_natCast, List.length_replicate]
  exact lim_add x ⟨b2.1, by omega⟩ k (by omega) k 0 _ (by omega) (by omega) (by simp)
end Go.Proofs.Ytfmobogdnlmdbaa.P
namespace Go.Proofs.Ytfmobogdnlmdbaa.Pure
theorem NatLimits : P.isochronelaw01_NatLimits.Pure := P.NatLimits
end Go.Proofs.Ytfmobogdnlmdbaa.Pure
end
section
namespace Go.Proofs.Ytfmobogdnlmdbaa.natLimits
open Go.ChangeShapes Go.WideShapes Go.ChangeAt Go.RowKit
open Go.ChangeMaps (open_string shut_string)
set_option linter.unusedVariables false
theorem own : ownKnob Try.prog.godebug = none := by kernel_rfl
set_option maxRecDepth 100000 in
theorem lifted (os : Os) (started : os.Started) (H : Type) (enc : TypeId × Value → H) :
    ReturnsInHanded {} Try.checked os 4 .any (Rows.natLimitsSpec.pre6 enc Try.prog Try.f4 Rows.natLimitsRow.domain false) (Rows.natLimitsSpec.post enc Try.prog Try.f4 false true false false) := by
  refine returnsInHanded_of_change_sized (C := Try.checked) own started (by kernel_rfl) Try.func4
    (ChangeSpec.witness6 (enc := enc) (C := Try.checked) false ⟨#[], #[.int .u16 0, .int .u32 0], []⟩ 8 (by kernel_rfl) (by kernel_rfl) (by kernel_rfl) (by kernel_rfl)) ?_
  intro W base args ds gs before hval0 hW hcnd hsz0 _
  have hsz : (DataW.weightsEach Try.prog (Try.f4.params.toList ++ Rows.natLimitsSpec.plain.varTypes Try.prog) (ds ++ gs)).all (· ≤ reachBytes) = true := hsz0
  have hval : ∀ (j : Nat) t v, Try.f4.params[j]? = some t → args[j]? = some v → Value.okWide Try.prog W .any base t v := hval0
  have hW' := hW
  obtain ⟨p, q, hA0, hV, rfl, hfz, hnd⟩ := hW
  have hA : DataW.TrodAll enc Try.prog W 0 (fun _ => true) true Try.f4.params.toList args.toList ds p := hA0
  rw [Try.params4] at hA hval hsz
  obtain ⟨v0, vs0, d0, ds0, p0, q0, hargs, rfl, rfl, h0, r0⟩ := trodAll_cons hA
  obtain ⟨v1, vs1, d1, ds1, p1, q1, rfl, rfl, rfl, h1, r1⟩ := trodAll_cons r0
  obtain ⟨rfl, rfl, rfl⟩ := trodAll_nil r1
  obtain rfl : args = #[v0, v1] := by cases args; simp_all
  obtain ⟨rfl, rfl⟩ := trodVars_none hV
  obtain ⟨a0, rfl, rfl, rfl, w0⟩ := open_int Try.underlying35 (hval 0 35 v0 rfl rfl) h0
  obtain ⟨a1, rfl, rfl, rfl, w1⟩ := open_int Try.underlying36 (hval 1 36 v1 rfl rfl) h1
  clear hA0 hval0 hsz0 hsz
  refine (P.isochronelaw01_NatLimits.walk Pure.NatLimits a0 a1 W w0 w1).mono fun e W' ⟨he, bel⟩ => ?_
  subst he
  exact ⟨_, rfl, _, _, _, [], _, [], hW', trodAll_mk1 (shut_bool Try.underlying4 _), (trodAll_cons_mk (shut_int Try.underlying35 w0) (trodAll_cons_mk (shut_int Try.underlying36 w1) trodAll_mk0)), rfl, bel.frame _, fun h => by cases h⟩
theorem over : Rows.natLimitsRow.holds Try.pinned (OpenSpec.ofChange Rows.natLimitsSpec) :=
  OpenClaim.holds_of_wide 4 Try.f4 rfl rfl rfl rfl rfl rfl rfl ⟨rfl, rfl, rfl, rfl, rfl⟩ rfl rfl rfl rfl rfl (by kernel_rfl) Try.func4 (by kernel_rfl)
    (of_decide_eq_true (by kernel_rfl)) (by unfold Func.isWrapper; first | (rw [if_pos (by decide +kernel)]; kernel_rfl) | (rw [if_neg (by decide +kernel)]; exact ⟨rfl, rfl⟩))
    (fun os started H enc _ => lifted os started H enc)
theorem proved : Rows.NatLimitsSaid := over
#print axioms proved
end Go.Proofs.Ytfmobogdnlmdbaa.natLimits
namespace Go.Proofs.Ytfmobogdnlmdbaa
theorem natLimits_holds : Rows.NatLimitsSaid := natLimits.proved
end Go.Proofs.Ytfmobogdnlmdbaa
end
