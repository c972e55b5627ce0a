/- NatPowers: Pow of a magnitude of at most 4 words is the power, ErrRange for a negative exponent, ErrLimit for a great one, for every input. No condition. (text 6 of 6) -/
import Derived.Laws.BitsLemmas
import Derived.SizedLaws
import Derived.ChangeSlices
import Derived.Test.YtfmobogdnlmdbaaRows
import Derived.WalkKit
import Derived.ProofKit
import Derived.OpenShut
import Derived.ShutString
import Derived.ChangeOld
import Derived.Below
import Derived.Test.YtfmobogdnlmdbaaPow5
section
namespace Go.Proofs.Ytfmobogdnlmdbaa.P
open Go.RowKit Go.Proofs.YtfmobogdnlmdbaaW.PrintWords Go.Proofs.YtfmobogdnlmdbaaW.PrintLast Go.Proofs.YtfmobogdnlmdbaaW.PrintMore Go.Proofs.YtfmobogdnlmdbaaW
attribute [local go_sem] max2_int min2_int max_two min_two max_three min_three max_four min_four
set_option linter.unusedVariables false
set_option linter.unusedSimpArgs false
set_option maxHeartbeats 8000000 in
set_option maxRecDepth 100000 in
theorem mag_Mul.calls (k : Nat) (A0 : Option Addr) (c0 : Nat) (l0 : List Int) (A1 : Option Addr) (c1 : Nat) (l1 : List Int) (r : List Int) (w : World) (hr0 : Kd.C (Kd.int .u32) w A0 l0.length l0) (hc0 : l0.length ≤ c0) (hr1 : Kd.C (Kd.int .u32) w A1 l1.length l1) (hc1 : l1.length ≤ c1) (h : mag_Mul.f k l0 l1 = some r) :
  Calls Try.prog 55 #[.slice A0 l0.length c0, .slice A1 l1.length c1] w fun e w' => ∃ v0_ : Value, e = .returned (v0_) ∧ Kd.V (Kd.int .u32) 36 w' w.heap.size (fun k_ => (w.heap.size ≤ k_)) v0_ r ∧ Below w.heap.size w w' := by
 have HR0 := Aside0.mk hr0
 have HC0 := Aside0.mk hc0
 clear hr0 hc0
 have HR1 := Aside0.mk hr1
 have HC1 := Aside0.mk hc1
 clear hr1 hc1
 have HB := Aside0.mk (Below.refl w.heap.size w)
 have H : (if (l0.length : Int) = 0 then (mag_Mul.j0 k l0 l1 true) else (mag_Mul.j0 k l0 l1 ((l1.length : Int) == 0))) = some r := h
 clear h
 have HC3 := Aside0.mk H
 clear H
 go_enter Try.func55, Try.ntmps55
 go_upto_region 1 with (fail)
 go_cut [18] (fun v18 wc => ∃ (kq : Nat) (x18_2 : Bool), v18 = .bool x18_2 ∧ Aside0 (mag_Mul.j0 kq l0 l1 x18_2 = some r) ∧ Aside0 (kq ≤ k) ∧ Aside0 (Below w.heap.size w wc))
 case first =>
  have H := HC3.out
  clear HC3
  by_cases c4 : (l0.length : Int) = 0
  ·rw [if_pos c4] at H
   have c4b0 : ((l0.length : Int) == 0) = true := beq_iff_eq.mpr c4
   have c4b1 : ((l0.length : Int) != 0) = false := bne_eq_false_iff_eq.mpr c4
   clear c4
   (first | rw [c4b0] | (simp only [i64_w, i32_w]; rw [c4b0]) | rw [c4b1] | skip)
   have H' := Aside0.mk H
   clear H
   go_wp2
   go_meet
   case rel => exact ⟨_, (true), (by first | rfl | (simp; done) | (simp [*]; done)), H', ⟨by first | omega | exact Nat.le_refl _⟩, ⟨by repeat (first | (with_reducible first | exact HB.out | apply below_alloc | apply pw_below_drewN | apply below_drew1) | exact HB.out)⟩⟩
  ·rw [if_neg c4] at H
   have c4b0 : ((l0.length : Int) == 0) = false := beq_eq_false_iff_ne.mpr c4
   have c4b1 : ((l0.length : Int) != 0) = true := bne_iff_ne.mpr c4
   have c4b2 : ¬ (l0 = []) := fun h_ => c4 (by rw [h_]; rfl)
   (first | rw [c4b0] | (simp only [i64_w, i32_w]; rw [c4b0]) | rw [c4b1] | skip)
   have H' := Aside0.mk H
   clear H
   go_wp2
   go_meet
   case rel => exact ⟨_, (((l1.length : Int) == 0)), (by first | rfl | (simp; done) | (simp [*]; done)), H', ⟨by first | omega | exact Nat.le_refl _⟩, ⟨by repeat (first | (with_reducible first | exact HB.out | apply below_alloc | apply pw_below_drewN | apply below_drew1) | exact HB.out)⟩⟩
 case rest =>
  clear HC3
  try clear c1
  try clear p2
  try clear c4
  try clear c4b0
  try clear c4b1
  try clear c4b2
  obtain ⟨kq, x18_2, rfl, HA, HJ2, HB⟩ := hcut
  cases kq with
  | zero => exact absurd HA.out (by simp [mag_Mul.j0])
  | succ kj2 =>
   have H := HA.out
   clear HA
   simp only [mag_Mul.j0] at H
   by_cases c5 : x18_2 = true
   ·subst c5
    have H1 : (some ([] : List Int)) = some r := by rw [if_pos rfl] at H; exact H
    clear H
    have H := H1
    clear H1
    obtain rfl := Option.some.inj H
    go_wp2
    go_ret
    exact ⟨_, by first | rfl | (simp [errW_none, errW_some] <;> rfl) | (simp [*, errW_none, errW_some] <;> rfl), Kd.V_nil _ _ _ _ _, by repeat (first | (with_reducible first | exact HB.out | apply below_alloc | apply pw_below_drewN | apply below_drew1) | exact HB.out)⟩
   ·replace c5 := Bool.eq_false_iff.mpr c5
    subst c5
    have H1 : (if 0 ≤ (wrap64 ((l0.length : Int) + (l1.length : Int))) then (if (wrap64 ((l0.length : Int) + (l1.length : Int)) : Int).toNat ≤ 70368744177664 then (mag_Mul.l0 kj2 l1 (List.replicate (wrap64 ((l0.length : Int) + (l1.length : Int)) : Int).toNat 0) l0 (l0.length : Int) 0) else (none)) else (none)) = some r := by rw [if_neg (show ¬ (false = true) by decide)] at H; exact H
    clear H
    have H := H1
    clear H1
    obtain ⟨ji6, hji6⟩ : ∃ j_ : Int, (wrap64 ((l0.length : Int) + (l1.length : Int))) = j_ := ⟨_, rfl⟩
    replace H : (if 0 ≤ (ji6) then (if (ji6 : Int).toNat ≤ 70368744177664 then (mag_Mul.l0 kj2 l1 (List.replicate (ji6 : Int).toNat 0) l0 (l0.length : Int) 0) else (none)) else (none)) = some r := by first | (rw [hji6] at H; exact H) | (simp only [hji6] at H ⊢; exact H)
    have hji6w : (IntKind.i64.wrap ((l0.length : Int) + (l1.length : Int))) = ji6 := (i64_w _).trans hji6
    by_cases c7 : 0 ≤ (ji6)
    ·rw [if_pos c7] at H
     have c7b0 := eq_true c7
     have c7b1 : decide (0 ≤ (ji6)) = true := decide_eq_true c7
     clear c7
     by_cases c8 : (ji6 : Int).toNat ≤ 70368744177664
     ·rw [if_pos c8] at H
      have c8b0 := eq_true c8
      have c8b1 : decide ((ji6 : Int).toNat ≤ 70368744177664) = true := decide_eq_true c8
      clear c8
      obtain ⟨y446, hy446⟩ : ∃ y_ : List Int, y_ = (List.replicate (ji6 : Int).toNat 0) := ⟨_, rfl⟩
      replace H : (mag_Mul.l0 kj2 l1 y446 l0 (l0.length : Int) 0) = some r := by first | (rw [hy446]; with_reducible exact H) | (have H2_ := (Option.bind_some _ _).symm.trans H; rw [hy446]; with_reducible exact H2_) | (have H2_ := (Option.bind_some _ _).symm.trans H; with_reducible exact H2_) | with_reducible exact H | (rw [hy446]; exact H) | exact H
      have Ny446 := Aside0.mk hy446
      clear hy446
      have H' := Aside0.mk H
      clear H
      go_wp2_with (first | ((with_reducible refine gate_dst (N := 24) rfl ?_); (try (refine gate_guard (by rfl) ?_; dsimp only)); refine Kd.R_make (Kd.int .u32) _ 36 rfl (N := 24) rfl 22 _ _ rfl ji6 rfl rfl Try.underlying22 (.int .u32 0) 4 info36 rfl (by decide) (by omega) 0 (ok := fun _ => True) (okp := fun _ => True) rfl (fun _ hk => hk) trivial (of_decide_eq_true aS) (Nat.le_trans (Nat.mul_le_mul_right _ (of_decide_eq_true aS : ji6.toNat ≤ 70368744177664)) (by omega)) (Below.refl _ _) (Nat.le_refl _) ?_; intro v447 w9 ho10 hb hg_ hnew_; clear hg_ hnew_; (first | rw [← Ny446.out] at ho10 | (simp only [Int.reduceToNat] at ho10; rw [← Ny446.out] at ho10)); have n0_ := Aside0.mk (Kd.R_lower (Kd.R_newM (M := fun k_ => (w.heap.size ≤ k_)) ho10 (below_size (bB)) (fun k_ h_ => h_)) (below_size (bB))); have n1_ := Aside0.mk (below_step (bB) hb); clear HB; have HO448 := n0_; have HB := n1_; clear n0_ n1_; clear hb ho10))
      go_loopg [27] kj2 (fun kq v27 w' => ∃ (x5_2 : List Int) (x27_2 : Int), v27 = .int .i64 x27_2 ∧ Aside0 (mag_Mul.l0 kq l1 x5_2 l0 (l0.length : Int) x27_2 = some r) ∧ Aside0 (kq ≤ kj2) ∧ Aside0 (Kd.R (Kd.int .u32) 36 w' w.heap.size (fun k_ => (w.heap.size ≤ k_)) v447 x5_2) ∧ Aside0 (Below w.heap.size w w'))
      case atStart => exact ⟨(y446), (0), (by first | rfl | (simp; done) | (simp [*]; done)), H', ⟨Nat.le_refl _⟩, ⟨by (with_reducible repeat (first | apply Kd.R_alloc | apply Kd.R_drewN | apply Kd.R_drew)); exact Kd.R_mono HO448.out (fun _ hk => hk.1)⟩, ⟨by repeat (first | (with_reducible first | exact HB.out | apply below_alloc | apply pw_below_drewN | apply below_drew1) | exact HB.out)⟩⟩
      case round =>
       clear H'
       try clear c1
       try clear p2
       try clear c4
       try clear c4b0
       try clear c4b1
       try clear c4b2
       try clear c5
       try clear p6
       try clear c7
       try clear c7b0
       try clear c7b1
       try clear c8
       try clear c8b0
       try clear c8b1
       try clear p2
       obtain ⟨x5_2, x27_2, rfl, HA, HK2, HO_5, HB⟩ := hrel
       cases gk with
       | zero => exact absurd HA.out (by simp [mag_Mul.l0])
       | succ k2 =>
        have H := HA.out
        clear HA
        simp only [mag_Mul.l0] at H
        by_cases c11 : x27_2 < (l0.length : Int)
        ·rw [if_pos c11] at H
         have c11b0 : decide (x27_2 < (l0.length : Int)) = true := decide_eq_true c11
         clear c11
         by_cases c12 : 0 ≤ x27_2
         ·rw [if_pos c12] at H
          have c12b0 : decide (0 ≤ x27_2) = true := decide_eq_true c12
          clear c12
          by_cases c13 : x27_2 < (l0.length : Int)
          ·rw [if_pos c13] at H
           have c13b0 : decide (x27_2 < (l0.length : Int)) = true := decide_eq_true c13
           clear c13
           have H' := Aside0.mk H
           clear H
           have p452 : 0 ≤ (x27_2 : Int) := of_decide_eq_true aS
           have q452 : x27_2 < (l0.length : Int) := of_decide_eq_true aS
           obtain ⟨ad452, e452, hx452_0⟩ := Kd.at_int HR0.out x27_2 p452 q452
           cases e452
           replace hx452_0 := (HB.out.cell (World.block_lt_of_cell? w _ hx452_0)).trans hx452_0
           replace p452 := eq_true p452
           replace q452 := eq_true q452
           go_wp2
           go_loopg [8, 34] k2 (fun kq v8 v34 w' => ∃ (x5_3 : List Int) (x8_3 : Int) (x34_3 : Int), v8 = .int .u64 x8_3 ∧ v34 = .int .i64 x34_3 ∧ Aside0 (mag_Mul.l1 kq l1 x5_3 x27_2 (rd l0 x27_2) x8_3 l0 (l0.length : Int) x27_2 l1 (l1.length : Int) x34_3 = some r) ∧ Aside0 (kq ≤ k2) ∧ Aside0 (Kd.R (Kd.int .u32) 36 w' w.heap.size (fun k_ => (w.heap.size ≤ k_)) v447 x5_3) ∧ Aside0 (Below w.heap.size w w'))
           case atStart => exact ⟨(x5_2), (0), (0), (by first | rfl | (simp; done) | (simp [*]; done)), (by first | rfl | (simp; done) | (simp [*]; done)), H', ⟨Nat.le_refl _⟩, ⟨by (with_reducible repeat (first | apply Kd.R_alloc | apply Kd.R_drewN | apply Kd.R_drew)); exact HO_5.out⟩, ⟨by repeat (first | (with_reducible first | exact HB.out | apply below_alloc | apply pw_below_drewN | apply below_drew1) | exact HB.out)⟩⟩
           case round =>
            clear H'
            try clear c1
            try clear p2
            try clear c4
            try clear c4b0
            try clear c4b1
            try clear c4b2
            try clear p4
            try clear q4
            try clear hx4
            try clear c5
            try clear p6
            try clear c7
            try clear c7b0
            try clear c7b1
            try clear c8
            try clear c8b0
            try clear c8b1
            try clear c11
            try clear c11b0
            try clear c12
            try clear c12b0
            try clear c13
            try clear c13b0
            try clear hx452_0
            try clear p2
            try clear p452
            try clear p6
            try clear q452
            obtain ⟨x5_3, x8_3, x34_3, rfl, rfl, HA, HK3, HO_5, HB⟩ := hrel
            cases gk with
            | zero => exact absurd HA.out (by simp [mag_Mul.l1])
            | succ k3 =>
             have H := HA.out
             clear HA
             simp only [mag_Mul.l1] at H
             by_cases c14 : x34_3 < (l1.length : Int)
             ·rw [if_pos c14] at H
              have c14b0 : decide (x34_3 < (l1.length : Int)) = true := decide_eq_true c14
              clear c14
              by_cases c15 : 0 ≤ x34_3
              ·rw [if_pos c15] at H
               have c15b0 : decide (0 ≤ x34_3) = true := decide_eq_true c15
               clear c15
               by_cases c16 : x34_3 < (l1.length : Int)
               ·rw [if_pos c16] at H
                have c16b0 : decide (x34_3 < (l1.length : Int)) = true := decide_eq_true c16
                clear c16
                obtain ⟨ji17, hji17⟩ : ∃ j_ : Int, (wrap64 (x27_2 + x34_3)) = j_ := ⟨_, rfl⟩
                replace H : (if 0 ≤ (ji17) then (if (ji17) < (x5_3.length : Int) then (mag_Mul.l1 k3 l1 (x5_3.set ((ji17) : Int).toNat ((IntKind.u64.wrap (x8_3 + (IntKind.u64.wrap ((IntKind.u64.wrap ((IntKind.u64.wrap ((rd l0 x27_2))) * (IntKind.u64.wrap (rd l1 x34_3)))) + (IntKind.u64.wrap (rd x5_3 (ji17))))))) % 4294967296)) x27_2 (rd l0 x27_2) ((IntKind.u64.wrap (x8_3 + (IntKind.u64.wrap ((IntKind.u64.wrap ((IntKind.u64.wrap ((rd l0 x27_2))) * (IntKind.u64.wrap (rd l1 x34_3)))) + (IntKind.u64.wrap (rd x5_3 (ji17))))))) / 4294967296) l0 (l0.length : Int) x27_2 l1 (l1.length : Int) (wrap64 (x34_3 + 1))) else (none)) else (none)) = some r := by first | (rw [hji17] at H; exact H) | (simp only [hji17] at H ⊢; exact H)
                have hji17w : (IntKind.i64.wrap (x27_2 + x34_3)) = ji17 := (i64_w _).trans hji17
                by_cases c18 : 0 ≤ (ji17)
                ·rw [if_pos c18] at H
                 have c18b0 : decide (0 ≤ (ji17)) = true := decide_eq_true c18
                 clear c18
                 by_cases c19 : (ji17) < (x5_3.length : Int)
                 ·rw [if_pos c19] at H
                  have c19b0 : decide ((ji17) < (x5_3.length : Int)) = true := decide_eq_true c19
                  clear c19
                  obtain ⟨y455, hy455⟩ : ∃ y_ : List Int, y_ = (x5_3.set ((ji17) : Int).toNat ((IntKind.u64.wrap (x8_3 + (IntKind.u64.wrap ((IntKind.u64.wrap ((IntKind.u64.wrap ((rd l0 x27_2))) * (IntKind.u64.wrap (rd l1 x34_3)))) + (IntKind.u64.wrap (rd x5_3 (ji17))))))) % 4294967296)) := ⟨_, rfl⟩
                  replace H : (mag_Mul.l1 k3 l1 y455 x27_2 (rd l0 x27_2) ((IntKind.u64.wrap (x8_3 + (IntKind.u64.wrap ((IntKind.u64.wrap ((IntKind.u64.wrap ((rd l0 x27_2))) * (IntKind.u64.wrap (rd l1 x34_3)))) + (IntKind.u64.wrap (rd x5_3 (ji17))))))) / 4294967296) l0 (l0.length : Int) x27_2 l1 (l1.length : Int) (wrap64 (x34_3 + 1))) = some r := by first | (rw [hy455]; with_reducible exact H) | (have H2_ := (Option.bind_some _ _).symm.trans H; rw [hy455]; with_reducible exact H2_) | (have H2_ := (Option.bind_some _ _).symm.trans H; with_reducible exact H2_) | with_reducible exact H | (rw [hy455]; exact H) | exact H
                  have Ny455 := Aside0.mk hy455
                  clear hy455
                  have H' := Aside0.mk H
                  clear H
                  have p453 : 0 ≤ (x34_3 : Int) := of_decide_eq_true aS
                  have q453 : x34_3 < (l1.length : Int) := of_decide_eq_true aS
                  obtain ⟨ad453, e453, hx453_0⟩ := Kd.at_int HR1.out x34_3 p453 q453
                  cases e453
                  replace hx453_0 := (HB.out.cell (World.block_lt_of_cell? w _ hx453_0)).trans hx453_0
                  replace p453 := eq_true p453
                  replace q453 := eq_true q453
                  obtain ⟨Ao21, co21, eo21⟩ := Kd.R_slice HO_5.out
                  subst eo21
                  have p454 : 0 ≤ ((ji17) : Int) := of_decide_eq_true aS
                  have q454 : (ji17) < (x5_3.length : Int) := of_decide_eq_true aS
                  obtain ⟨ad454, e454, hx454_0⟩ := Kd.at_int (Kd.R_reads' HO_5.out).2.2 (ji17) p454 q454
                  cases e454
                  replace p454 := eq_true p454
                  replace q454 := eq_true q454
                  have p20 : 0 ≤ ((ji17) : Int) := of_decide_eq_true aS
                  have q20 : ((ji17) : Int) < ((x5_3.length : Int) : Int) := of_decide_eq_true aS
                  obtain ⟨go20, co20, eo20, gb20, gl20, cl20, HG20⟩ := Kd.R_form HO_5.out (by omega)
                  (first | cases eo20 | (injection eo20 with ea_ en_ ec_; (first | subst ea_ | (injection ea_ with ea_; subst ea_)); subst ec_; clear en_))
                  have GB20 := Aside0.mk gb20
                  have GG20 := Aside0.mk HG20
                  clear gb20 gl20 HG20
                  (first | simp only [add_plain] at hx454_0 | skip)
                  obtain ⟨hx20_0, hf20_0⟩ := Kd.R_celln 0 HO_5.out ((ji17) : Int) p20 q20
                  replace p20 := eq_true p20
                  replace q20 := eq_true q20
                  have HP22 := Kd.R_putg HO_5.out ((ji17) : Int) ((IntKind.u64.wrap (x8_3 + (IntKind.u64.wrap ((IntKind.u64.wrap ((IntKind.u64.wrap ((rd l0 x27_2))) * (IntKind.u64.wrap (rd l1 x34_3)))) + (IntKind.u64.wrap (rd x5_3 (ji17))))))) % 4294967296)
                  go_wp2_with (first | ((with_reducible refine gate_store (t := 36) (p := 60) rfl ?_); refine store_event (t := 36) (p := 60) (v := ?vo_w23) (w1 := (wr.setCell ⟨go20, ((ji17) : Int).toNat, none⟩ (.int .u32 ((IntKind.u64.wrap (x8_3 + (IntKind.u64.wrap ((IntKind.u64.wrap ((IntKind.u64.wrap ((rd l0 x27_2))) * (IntKind.u64.wrap (rd l1 x34_3)))) + (IntKind.u64.wrap (rd x5_3 (ji17))))))) % 4294967296)))) ?hg ?ho ?hn ?hr ?_; (case ho => rfl); (case hg => rfl); (case hn => rfl); (case hr => first | (go_simp; done) | (go_simp; rfl)); intro w23 hw; have hg : wr.grownBy w23 (some go20) := (by rw [hw]; exact HP22.2); have hp_ : Kd.R (Kd.int .u32) 36 w23 w.heap.size (fun k_ => (w.heap.size ≤ k_)) (.slice (some ⟨go20, 0, none⟩) x5_3.length co21) y455 := (by rw [hw, Ny455.out]; exact HP22.1); clear HP22; have n0_ := Aside0.mk (hp_); have n1_ := Aside0.mk ((by rw [hw]; exact below_set (HB.out) GB20.out : Below w.heap.size w w23)); clear HO_5; clear HB; have HO_5 := n0_; have HB := n1_; clear n0_ n1_; clear hg hw hp_))
                  (try simp only [← hji17])
                  go_roundg k3
                  case measure => have := HJ2.out; have := HK2.out; have := HK3.out; omega
                  case rel => exact ⟨(y455), ((IntKind.u64.wrap (x8_3 + (IntKind.u64.wrap ((IntKind.u64.wrap ((IntKind.u64.wrap ((rd l0 x27_2))) * (IntKind.u64.wrap (rd l1 x34_3)))) + (IntKind.u64.wrap (rd x5_3 (ji17))))))) / 4294967296), (wrap64 (x34_3 + 1)), (by first | rfl | (simp; done) | (simp only [← hji17] <;> (first | rfl | simp)) | (simp [*]; done)), (by first | rfl | (simp; done) | (simp [*]; done)), (by first | with_reducible exact H' | (simp only [hji17]; exact H') | exact H'), ⟨by have := HJ2.out; have := HK2.out; have := HK3.out; omega⟩, ⟨by (with_reducible repeat (first | apply Kd.R_alloc | apply Kd.R_drewN | apply Kd.R_drew)); exact HO_5.out⟩, ⟨by repeat (first | (with_reducible first | exact HB.out | apply below_alloc | apply pw_below_drewN | apply below_drew1) | exact HB.out)⟩⟩
                 ·rw [if_neg c19] at H
                  exact absurd H (by simp)
                ·rw [if_neg c18] at H
                 exact absurd H (by simp)
               ·rw [if_neg c16] at H
                exact absurd H (by simp)
              ·rw [if_neg c15] at H
               exact absurd H (by simp)
             ·rw [if_neg c14] at H
              have c14b0 : decide (x34_3 < (l1.length : Int)) = false := decide_eq_false c14
              clear c14
              obtain ⟨ji24, hji24⟩ : ∃ j_ : Int, (wrap64 (x27_2 + (l1.length : Int))) = j_ := ⟨_, rfl⟩
              replace H : (if 0 ≤ (ji24) then (if (ji24) < (x5_3.length : Int) then (mag_Mul.l0 k3 l1 (x5_3.set ((ji24) : Int).toNat ((x8_3) % 4294967296)) l0 (l0.length : Int) (wrap64 (x27_2 + 1))) else (none)) else (none)) = some r := by first | (rw [hji24] at H; exact H) | (simp only [hji24] at H ⊢; exact H)
              have hji24w : (IntKind.i64.wrap (x27_2 + (l1.length : Int))) = ji24 := (i64_w _).trans hji24
              by_cases c25 : 0 ≤ (ji24)
              ·rw [if_pos c25] at H
               have c25b0 : decide (0 ≤ (ji24)) = true := decide_eq_true c25
               clear c25
               by_cases c26 : (ji24) < (x5_3.length : Int)
               ·rw [if_pos c26] at H
                have c26b0 : decide ((ji24) < (x5_3.length : Int)) = true := decide_eq_true c26
                clear c26
                obtain ⟨y456, hy456⟩ : ∃ y_ : List Int, y_ = (x5_3.set ((ji24) : Int).toNat ((x8_3) % 4294967296)) := ⟨_, rfl⟩
                replace H : (mag_Mul.l0 k3 l1 y456 l0 (l0.length : Int) (wrap64 (x27_2 + 1))) = some r := by first | (rw [hy456]; with_reducible exact H) | (have H2_ := (Option.bind_some _ _).symm.trans H; rw [hy456]; with_reducible exact H2_) | (have H2_ := (Option.bind_some _ _).symm.trans H; with_reducible exact H2_) | with_reducible exact H | (rw [hy456]; exact H) | exact H
                have Ny456 := Aside0.mk hy456
                clear hy456
                have H' := Aside0.mk H
                clear H
                have p27 : 0 ≤ ((ji24) : Int) := of_decide_eq_true aS
                have q27 : ((ji24) : Int) < ((x5_3.length : Int) : Int) := of_decide_eq_true aS
                obtain ⟨go27, co27, eo27, gb27, gl27, cl27, HG27⟩ := Kd.R_form HO_5.out (by omega)
                (first | cases eo27 | (injection eo27 with ea_ en_ ec_; (first | subst ea_ | (injection ea_ with ea_; subst ea_)); subst ec_; clear en_))
                have GB27 := Aside0.mk gb27
                have GG27 := Aside0.mk HG27
                clear gb27 gl27 HG27
                obtain ⟨hx27_0, hf27_0⟩ := Kd.R_celln 0 HO_5.out ((ji24) : Int) p27 q27
                replace p27 := eq_true p27
                replace q27 := eq_true q27
                have HP28 := Kd.R_putg HO_5.out ((ji24) : Int) ((x8_3) % 4294967296)
                go_wp2_with (first | ((with_reducible refine gate_store (t := 36) (p := 71) rfl ?_); refine store_event (t := 36) (p := 71) (v := ?vo_w29) (w1 := (wr.setCell ⟨go27, ((ji24) : Int).toNat, none⟩ (.int .u32 ((x8_3) % 4294967296)))) ?hg ?ho ?hn ?hr ?_; (case ho => rfl); (case hg => rfl); (case hn => rfl); (case hr => first | (go_simp; done) | (go_simp; rfl)); intro w29 hw; have hg : wr.grownBy w29 (some go27) := (by rw [hw]; exact HP28.2); have hp_ : Kd.R (Kd.int .u32) 36 w29 w.heap.size (fun k_ => (w.heap.size ≤ k_)) (.slice (some ⟨go27, 0, none⟩) x5_3.length co27) y456 := (by rw [hw, Ny456.out]; exact HP28.1); clear HP28; have n0_ := Aside0.mk (hp_); have n1_ := Aside0.mk ((by rw [hw]; exact below_set (HB.out) GB27.out : Below w.heap.size w w29)); clear HO_5; clear HB; have HO_5 := n0_; have HB := n1_; clear n0_ n1_; clear hg hw hp_))
                (try simp only [← hji24])
                go_roundg k3
                case measure => have := HJ2.out; have := HK2.out; have := HK3.out; omega
                case rel => exact ⟨(y456), (wrap64 (x27_2 + 1)), (by first | rfl | (simp; done) | (simp [*]; done)), (by first | with_reducible exact H' | (simp only [hji24]; exact H') | exact H'), ⟨by have := HJ2.out; have := HK2.out; have := HK3.out; omega⟩, ⟨by (with_reducible repeat (first | apply Kd.R_alloc | apply Kd.R_drewN | apply Kd.R_drew)); exact HO_5.out⟩, ⟨by repeat (first | (with_reducible first | exact HB.out | apply below_alloc | apply pw_below_drewN | apply below_drew1) | exact HB.out)⟩⟩
               ·rw [if_neg c26] at H
                exact absurd H (by simp)
              ·rw [if_neg c25] at H
               exact absurd H (by simp)
          ·rw [if_neg c13] at H
           exact absurd H (by simp)
         ·rw [if_neg c12] at H
          exact absurd H (by simp)
        ·rw [if_neg c11] at H
         have c11b0 : decide (x27_2 < (l0.length : Int)) = false := decide_eq_false c11
         clear c11
         replace H := Option.bind_eq_some_iff.mp H
         obtain ⟨t449, A300, H⟩ := H
         replace H : (some t449) = some r := H
         have A30 := Aside0.mk A300
         clear A300
         obtain rfl := Option.some.inj H
         obtain ⟨Ao31, co31, eo31⟩ := Kd.R_slice HO_5.out
         subst eo31
         go_wp2_with (first | ((with_reducible refine gate_callee (f := 66) rfl ?_); refine goesL_ (some 74) rfl rfl Try.func66 (by kernel_rfl) rfl #[.slice Ao31 x5_2.length co31] rfl (by (try simp only [List.map_toArray, List.map_cons, List.map_nil]); first | done | rfl | (simp only [List.length_drop, List.length_take]; rfl)) ?_; (with_reducible refine (mag_Trim.calls k2 (fun k_ => some k_ = (.slice Ao31 x5_2.length co31 : Value).ownBlock) _ _ x5_2 t449 _ ?side1 A30.out).mono ?_); (case side1 => exact Kd.R_V (Kd.R_tight rfl (HO_5.out))); rintro e w32 ⟨v450, rfl, ho0, hb⟩; refine ⟨_, rfl, ?_⟩; have n0_ := Aside0.mk (Kd.R_below (by (with_reducible repeat (first | apply Kd.R_alloc | apply Kd.R_drewN | apply Kd.R_drew)); exact HO_5.out) hb); have n1_ := Aside0.mk (Kd.V_lower (Kd.V_mono (ok' := fun k_ => (w.heap.size ≤ k_)) ho0 (fun k_ hk_ => Or.elim hk_ (fun hs_ => ((HO_5.out).1 k_ hs_.symm)) (fun hn_ => (Nat.le_trans (below_size (bB)) hn_)))) (below_size (bB))); have n2_ := Aside0.mk (below_step (bB) hb); clear HO_5; clear HB; have HO_5 := n0_; have HO451 := n1_; have HB := n2_; clear n0_ n1_ n2_; (try clear hb); (try clear hb2); (try clear hk); (try clear hi); (try clear ho0)))
         go_ret
         exact ⟨_, by first | rfl | (simp [errW_none, errW_some] <;> rfl) | (simp only [← hji6]; first | rfl | (simp [errW_none, errW_some] <;> rfl)) | (simp [*, errW_none, errW_some] <;> rfl), by (with_reducible repeat (first | apply Kd.V_alloc | apply Kd.V_drewN | apply Kd.V_drew)); exact HO451.out, by repeat (first | (with_reducible first | exact HB.out | apply below_alloc | apply pw_below_drewN | apply below_drew1) | exact HB.out)⟩
     ·rw [if_neg c8] at H
      exact absurd H (by simp)
    ·rw [if_neg c7] at H
     exact absurd H (by simp)
end Go.Proofs.Ytfmobogdnlmdbaa.P
end
section
namespace Go.Proofs.Ytfmobogdnlmdbaa.P
open Go.RowKit Go.Proofs.YtfmobogdnlmdbaaW.PrintWords Go.Proofs.YtfmobogdnlmdbaaW.PrintLast Go.Proofs.YtfmobogdnlmdbaaW.PrintMore Go.Proofs.YtfmobogdnlmdbaaW
attribute [local go_sem] max2_int min2_int max_two min_two max_three min_three max_four min_four
set_option linter.unusedVariables false
set_option linter.unusedSimpArgs false
set_option maxHeartbeats 8000000 in
set_option maxRecDepth 100000 in
theorem bits_Len64.calls (k : Nat) (a0 : Int) (r : Int) (w : World) (h : bits_Len64.f k a0 = some r) :
  Calls Try.prog 72 #[.int .u64 a0] w fun e w' => e = .returned (.int .i64 r) ∧ Drawn0 w w' := by
 have H : (if a0 ≥ 4294967296 then (bits_Len64.j0 k (a0 / 4294967296) 32) else (bits_Len64.j0 k a0 0)) = some r := h
 clear h
 have HC2 := Aside0.mk H
 clear H
 go_enter Try.func72, Try.ntmps72
 go_upto_if 4 with (fail)
 go_cut [0, 2] (fun v0 v2 wc => ∃ (kq : Nat) (x0_1 : Int) (x2_1 : Int), v0 = .int .u64 x0_1 ∧ v2 = .int .i64 x2_1 ∧ Aside0 (bits_Len64.j0 kq x0_1 x2_1 = some r) ∧ Aside0 (kq ≤ k) ∧ Drawn0 w wc)
 case first =>
  have H := HC2.out
  clear HC2
  by_cases c3 : a0 ≥ 4294967296
  ·rw [if_pos c3] at H
   have c3b0 : decide (4294967296 ≤ a0) = true := decide_eq_true c3
   clear c3
   (first | rw [c3b0] | (simp only [i64_w, i32_w]; rw [c3b0]) | rw [c3b1] | skip)
   have H' := Aside0.mk H
   clear H
   go_wp2
   go_meet
   case rel => exact ⟨_, (a0 / 4294967296), (32), (by first | rfl | (simp; done) | (simp [*]; done)), (by first | rfl | (simp; done) | (simp [*]; done)), H', ⟨by first | omega | exact Nat.le_refl _⟩, by repeat (first | exact Drawn0.refl _ | apply Drawn0.step)⟩
  ·rw [if_neg c3] at H
   have c3b0 : decide (4294967296 ≤ a0) = false := decide_eq_false c3
   clear c3
   (first | rw [c3b0] | (simp only [i64_w, i32_w]; rw [c3b0]) | rw [c3b1] | skip)
   have H' := Aside0.mk H
   clear H
   go_wp2
   go_meet
   case rel => exact ⟨_, (a0), (0), (by first | rfl | (simp; done) | (simp [*]; done)), (by first | rfl | (simp; done) | (simp [*]; done)), H', ⟨by first | omega | exact Nat.le_refl _⟩, by repeat (first | exact Drawn0.refl _ | apply Drawn0.step)⟩
 case rest =>
  clear HC2
  try clear p2
  try clear c3
  try clear c3b0
  try clear c3b1
  obtain ⟨kq, x0_1, x2_1, rfl, rfl, HA, HJ1, ⟨mc1, rfl⟩⟩ := hcut
  cases kq with
  | zero => exact absurd HA.out (by simp [bits_Len64.j0])
  | succ kj1 =>
   have H := HA.out
   clear HA
   simp only [bits_Len64.j0] at H
   by_cases c4 : x0_1 ≥ 65536
   ·rw [if_pos c4] at H
    have c4b0 : decide (65536 ≤ x0_1) = true := decide_eq_true c4
    clear c4
    by_cases c5 : (x0_1 / 65536) ≥ 256
    ·rw [if_pos c5] at H
     have c5b0 : decide (256 ≤ (x0_1 / 65536)) = true := decide_eq_true c5
     clear c5
     obtain ⟨ji6, hji6⟩ : ∃ j_ : Int, (((x0_1 / 65536) / 256) % 256) = j_ := ⟨_, rfl⟩
     replace H : (if 0 ≤ (ji6) then (if (ji6) < 256 then (some (wrap64 ((wrap64 ((wrap64 (x2_1 + 16)) + 8)) + (wrap64 (bt (⟨#[0, 1, 2, 2, 3, 3, 3, 3, 4, 4, 4, 4, 4, 4, 4, 4, 5, 5, 5, 5, 5, 5, 5, 5, 5, 5, 5, 5, 5, 5, 5, 5, 6, 6, 6, 6, 6, 6, 6, 6, 6, 6, 6, 6, 6, 6, 6, 6, 6, 6, 6, 6, 6, 6, 6, 6, 6, 6, 6, 6, 6, 6, 6, 6, 7, 7, 7, 7, 7, 7, 7, 7, 7, 7, 7, 7, 7, 7, 7, 7, 7, 7, 7, 7, 7, 7, 7, 7, 7, 7, 7, 7, 7, 7, 7, 7, 7, 7, 7, 7, 7, 7, 7, 7, 7, 7, 7, 7, 7, 7, 7, 7, 7, 7, 7, 7, 7, 7, 7, 7, 7, 7, 7, 7, 7, 7, 7, 7, 8, 8, 8, 8, 8, 8, 8, 8, 8, 8, 8, 8, 8, 8, 8, 8, 8, 8, 8, 8, 8, 8, 8, 8, 8, 8, 8, 8, 8, 8, 8, 8, 8, 8, 8, 8, 8, 8, 8, 8, 8, 8, 8, 8, 8, 8, 8, 8, 8, 8, 8, 8, 8, 8, 8, 8, 8, 8, 8, 8, 8, 8, 8, 8, 8, 8, 8, 8, 8, 8, 8, 8, 8, 8, 8, 8, 8, 8, 8, 8, 8, 8, 8, 8, 8, 8, 8, 8, 8, 8, 8, 8, 8, 8, 8, 8, 8, 8, 8, 8, 8, 8, 8, 8, 8, 8, 8, 8, 8, 8, 8, 8, 8, 8, 8, 8, 8, 8, 8, 8, 8, 8, 8, 8, 8, 8, 8, 8]⟩ : ByteArray) (ji6)))))) else (none)) else (none)) = some r := by first | (rw [hji6] at H; exact H) | (simp only [hji6] at H ⊢; exact H)
     by_cases c7 : 0 ≤ (ji6)
     ·rw [if_pos c7] at H
      have c7b0 : decide (0 ≤ (ji6)) = true := decide_eq_true c7
      clear c7
      by_cases c8 : (ji6) < 256
      ·rw [if_pos c8] at H
       have c8b0 : decide ((ji6) < 256) = true := decide_eq_true c8
       clear c8
       obtain rfl := Option.some.inj H
       have p9 : 0 ≤ ((ji6) : Int) := of_decide_eq_true aS
       have q9 : (ji6) < (256 : Int) := of_decide_eq_true aS
       have hx9 := bt_at (⟨#[0, 1, 2, 2, 3, 3, 3, 3, 4, 4, 4, 4, 4, 4, 4, 4, 5, 5, 5, 5, 5, 5, 5, 5, 5, 5, 5, 5, 5, 5, 5, 5, 6, 6, 6, 6, 6, 6, 6, 6, 6, 6, 6, 6, 6, 6, 6, 6, 6, 6, 6, 6, 6, 6, 6, 6, 6, 6, 6, 6, 6, 6, 6, 6, 7, 7, 7, 7, 7, 7, 7, 7, 7, 7, 7, 7, 7, 7, 7, 7, 7, 7, 7, 7, 7, 7, 7, 7, 7, 7, 7, 7, 7, 7, 7, 7, 7, 7, 7, 7, 7, 7, 7, 7, 7, 7, 7, 7, 7, 7, 7, 7, 7, 7, 7, 7, 7, 7, 7, 7, 7, 7, 7, 7, 7, 7, 7, 7, 8, 8, 8, 8, 8, 8, 8, 8, 8, 8, 8, 8, 8, 8, 8, 8, 8, 8, 8, 8, 8, 8, 8, 8, 8, 8, 8, 8, 8, 8, 8, 8, 8, 8, 8, 8, 8, 8, 8, 8, 8, 8, 8, 8, 8, 8, 8, 8, 8, 8, 8, 8, 8, 8, 8, 8, 8, 8, 8, 8, 8, 8, 8, 8, 8, 8, 8, 8, 8, 8, 8, 8, 8, 8, 8, 8, 8, 8, 8, 8, 8, 8, 8, 8, 8, 8, 8, 8, 8, 8, 8, 8, 8, 8, 8, 8, 8, 8, 8, 8, 8, 8, 8, 8, 8, 8, 8, 8, 8, 8, 8, 8, 8, 8, 8, 8, 8, 8, 8, 8, 8, 8, 8, 8, 8, 8, 8, 8]⟩ : ByteArray) (ji6)
       replace p9 := eq_true p9
       replace q9 := eq_true q9
       go_wp2
       go_ret
       exact ⟨by first | rfl | (simp; done) | (simp only [← hji6] <;> (first | rfl | simp)) | (simp [*]; done), by repeat (first | exact Drawn0.refl _ | apply Drawn0.step)⟩
      ·rw [if_neg c8] at H
       exact absurd H (by simp)
     ·rw [if_neg c7] at H
      exact absurd H (by simp)
    ·rw [if_neg c5] at H
     have c5b0 : decide (256 ≤ (x0_1 / 65536)) = false := decide_eq_false c5
     clear c5
     obtain ⟨ji10, hji10⟩ : ∃ j_ : Int, ((x0_1 / 65536) % 256) = j_ := ⟨_, rfl⟩
     replace H : (if 0 ≤ (ji10) then (if (ji10) < 256 then (some (wrap64 ((wrap64 (x2_1 + 16)) + (wrap64 (bt (⟨#[0, 1, 2, 2, 3, 3, 3, 3, 4, 4, 4, 4, 4, 4, 4, 4, 5, 5, 5, 5, 5, 5, 5, 5, 5, 5, 5, 5, 5, 5, 5, 5, 6, 6, 6, 6, 6, 6, 6, 6, 6, 6, 6, 6, 6, 6, 6, 6, 6, 6, 6, 6, 6, 6, 6, 6, 6, 6, 6, 6, 6, 6, 6, 6, 7, 7, 7, 7, 7, 7, 7, 7, 7, 7, 7, 7, 7, 7, 7, 7, 7, 7, 7, 7, 7, 7, 7, 7, 7, 7, 7, 7, 7, 7, 7, 7, 7, 7, 7, 7, 7, 7, 7, 7, 7, 7, 7, 7, 7, 7, 7, 7, 7, 7, 7, 7, 7, 7, 7, 7, 7, 7, 7, 7, 7, 7, 7, 7, 8, 8, 8, 8, 8, 8, 8, 8, 8, 8, 8, 8, 8, 8, 8, 8, 8, 8, 8, 8, 8, 8, 8, 8, 8, 8, 8, 8, 8, 8, 8, 8, 8, 8, 8, 8, 8, 8, 8, 8, 8, 8, 8, 8, 8, 8, 8, 8, 8, 8, 8, 8, 8, 8, 8, 8, 8, 8, 8, 8, 8, 8, 8, 8, 8, 8, 8, 8, 8, 8, 8, 8, 8, 8, 8, 8, 8, 8, 8, 8, 8, 8, 8, 8, 8, 8, 8, 8, 8, 8, 8, 8, 8, 8, 8, 8, 8, 8, 8, 8, 8, 8, 8, 8, 8, 8, 8, 8, 8, 8, 8, 8, 8, 8, 8, 8, 8, 8, 8, 8, 8, 8, 8, 8, 8, 8, 8, 8]⟩ : ByteArray) (ji10)))))) else (none)) else (none)) = some r := by first | (rw [hji10] at H; exact H) | (simp only [hji10] at H ⊢; exact H)
     by_cases c11 : 0 ≤ (ji10)
     ·rw [if_pos c11] at H
      have c11b0 : decide (0 ≤ (ji10)) = true := decide_eq_true c11
      clear c11
      by_cases c12 : (ji10) < 256
      ·rw [if_pos c12] at H
       have c12b0 : decide ((ji10) < 256) = true := decide_eq_true c12
       clear c12
       obtain rfl := Option.some.inj H
       have p13 : 0 ≤ ((ji10) : Int) := of_decide_eq_true aS
       have q13 : (ji10) < (256 : Int) := of_decide_eq_true aS
       have hx13 := bt_at (⟨#[0, 1, 2, 2, 3, 3, 3, 3, 4, 4, 4, 4, 4, 4, 4, 4, 5, 5, 5, 5, 5, 5, 5, 5, 5, 5, 5, 5, 5, 5, 5, 5, 6, 6, 6, 6, 6, 6, 6, 6, 6, 6, 6, 6, 6, 6, 6, 6, 6, 6, 6, 6, 6, 6, 6, 6, 6, 6, 6, 6, 6, 6, 6, 6, 7, 7, 7, 7, 7, 7, 7, 7, 7, 7, 7, 7, 7, 7, 7, 7, 7, 7, 7, 7, 7, 7, 7, 7, 7, 7, 7, 7, 7, 7, 7, 7, 7, 7, 7, 7, 7, 7, 7, 7, 7, 7, 7, 7, 7, 7, 7, 7, 7, 7, 7, 7, 7, 7, 7, 7, 7, 7, 7, 7, 7, 7, 7, 7, 8, 8, 8, 8, 8, 8, 8, 8, 8, 8, 8, 8, 8, 8, 8, 8, 8, 8, 8, 8, 8, 8, 8, 8, 8, 8, 8, 8, 8, 8, 8, 8, 8, 8, 8, 8, 8, 8, 8, 8, 8, 8, 8, 8, 8, 8, 8, 8, 8, 8, 8, 8, 8, 8, 8, 8, 8, 8, 8, 8, 8, 8, 8, 8, 8, 8, 8, 8, 8, 8, 8, 8, 8, 8, 8, 8, 8, 8, 8, 8, 8, 8, 8, 8, 8, 8, 8, 8, 8, 8, 8, 8, 8, 8, 8, 8, 8, 8, 8, 8, 8, 8, 8, 8, 8, 8, 8, 8, 8, 8, 8, 8, 8, 8, 8, 8, 8, 8, 8, 8, 8, 8, 8, 8, 8, 8, 8, 8]⟩ : ByteArray) (ji10)
       replace p13 := eq_true p13
       replace q13 := eq_true q13
       go_wp2
       go_ret
       exact ⟨by first | rfl | (simp; done) | (simp only [← hji10] <;> (first | rfl | simp)) | (simp [*]; done), by repeat (first | exact Drawn0.refl _ | apply Drawn0.step)⟩
      ·rw [if_neg c12] at H
       exact absurd H (by simp)
     ·rw [if_neg c11] at H
      exact absurd H (by simp)
   ·rw [if_neg c4] at H
    have c4b0 : decide (65536 ≤ x0_1) = false := decide_eq_false c4
    clear c4
    by_cases c14 : x0_1 ≥ 256
    ·rw [if_pos c14] at H
     have c14b0 : decide (256 ≤ x0_1) = true := decide_eq_true c14
     clear c14
     obtain ⟨ji15, hji15⟩ : ∃ j_ : Int, ((x0_1 / 256) % 256) = j_ := ⟨_, rfl⟩
     replace H : (if 0 ≤ (ji15) then (if (ji15) < 256 then (some (wrap64 ((wrap64 (x2_1 + 8)) + (wrap64 (bt (⟨#[0, 1, 2, 2, 3, 3, 3, 3, 4, 4, 4, 4, 4, 4, 4, 4, 5, 5, 5, 5, 5, 5, 5, 5, 5, 5, 5, 5, 5, 5, 5, 5, 6, 6, 6, 6, 6, 6, 6, 6, 6, 6, 6, 6, 6, 6, 6, 6, 6, 6, 6, 6, 6, 6, 6, 6, 6, 6, 6, 6, 6, 6, 6, 6, 7, 7, 7, 7, 7, 7, 7, 7, 7, 7, 7, 7, 7, 7, 7, 7, 7, 7, 7, 7, 7, 7, 7, 7, 7, 7, 7, 7, 7, 7, 7, 7, 7, 7, 7, 7, 7, 7, 7, 7, 7, 7, 7, 7, 7, 7, 7, 7, 7, 7, 7, 7, 7, 7, 7, 7, 7, 7, 7, 7, 7, 7, 7, 7, 8, 8, 8, 8, 8, 8, 8, 8, 8, 8, 8, 8, 8, 8, 8, 8, 8, 8, 8, 8, 8, 8, 8, 8, 8, 8, 8, 8, 8, 8, 8, 8, 8, 8, 8, 8, 8, 8, 8, 8, 8, 8, 8, 8, 8, 8, 8, 8, 8, 8, 8, 8, 8, 8, 8, 8, 8, 8, 8, 8, 8, 8, 8, 8, 8, 8, 8, 8, 8, 8, 8, 8, 8, 8, 8, 8, 8, 8, 8, 8, 8, 8, 8, 8, 8, 8, 8, 8, 8, 8, 8, 8, 8, 8, 8, 8, 8, 8, 8, 8, 8, 8, 8, 8, 8, 8, 8, 8, 8, 8, 8, 8, 8, 8, 8, 8, 8, 8, 8, 8, 8, 8, 8, 8, 8, 8, 8, 8]⟩ : ByteArray) (ji15)))))) else (none)) else (none)) = some r := by first | (rw [hji15] at H; exact H) | (simp only [hji15] at H ⊢; exact H)
     by_cases c16 : 0 ≤ (ji15)
     ·rw [if_pos c16] at H
      have c16b0 : decide (0 ≤ (ji15)) = true := decide_eq_true c16
      clear c16
      by_cases c17 : (ji15) < 256
      ·rw [if_pos c17] at H
       have c17b0 : decide ((ji15) < 256) = true := decide_eq_true c17
       clear c17
       obtain rfl := Option.some.inj H
       have p18 : 0 ≤ ((ji15) : Int) := of_decide_eq_true aS
       have q18 : (ji15) < (256 : Int) := of_decide_eq_true aS
       have hx18 := bt_at (⟨#[0, 1, 2, 2, 3, 3, 3, 3, 4, 4, 4, 4, 4, 4, 4, 4, 5, 5, 5, 5, 5, 5, 5, 5, 5, 5, 5, 5, 5, 5, 5, 5, 6, 6, 6, 6, 6, 6, 6, 6, 6, 6, 6, 6, 6, 6, 6, 6, 6, 6, 6, 6, 6, 6, 6, 6, 6, 6, 6, 6, 6, 6, 6, 6, 7, 7, 7, 7, 7, 7, 7, 7, 7, 7, 7, 7, 7, 7, 7, 7, 7, 7, 7, 7, 7, 7, 7, 7, 7, 7, 7, 7, 7, 7, 7, 7, 7, 7, 7, 7, 7, 7, 7, 7, 7, 7, 7, 7, 7, 7, 7, 7, 7, 7, 7, 7, 7, 7, 7, 7, 7, 7, 7, 7, 7, 7, 7, 7, 8, 8, 8, 8, 8, 8, 8, 8, 8, 8, 8, 8, 8, 8, 8, 8, 8, 8, 8, 8, 8, 8, 8, 8, 8, 8, 8, 8, 8, 8, 8, 8, 8, 8, 8, 8, 8, 8, 8, 8, 8, 8, 8, 8, 8, 8, 8, 8, 8, 8, 8, 8, 8, 8, 8, 8, 8, 8, 8, 8, 8, 8, 8, 8, 8, 8, 8, 8, 8, 8, 8, 8, 8, 8, 8, 8, 8, 8, 8, 8, 8, 8, 8, 8, 8, 8, 8, 8, 8, 8, 8, 8, 8, 8, 8, 8, 8, 8, 8, 8, 8, 8, 8, 8, 8, 8, 8, 8, 8, 8, 8, 8, 8, 8, 8, 8, 8, 8, 8, 8, 8, 8, 8, 8, 8, 8, 8, 8]⟩ : ByteArray) (ji15)
       replace p18 := eq_true p18
       replace q18 := eq_true q18
       go_wp2
       go_ret
       exact ⟨by first | rfl | (simp; done) | (simp only [← hji15] <;> (first | rfl | simp)) | (simp [*]; done), by repeat (first | exact Drawn0.refl _ | apply Drawn0.step)⟩
      ·rw [if_neg c17] at H
       exact absurd H (by simp)
     ·rw [if_neg c16] at H
      exact absurd H (by simp)
    ·rw [if_neg c14] at H
     have c14b0 : decide (256 ≤ x0_1) = false := decide_eq_false c14
     clear c14
     obtain ⟨ji19, hji19⟩ : ∃ j_ : Int, ((x0_1) % 256) = j_ := ⟨_, rfl⟩
     replace H : (if 0 ≤ (ji19) then (if (ji19) < 256 then (some (wrap64 (x2_1 + (wrap64 (bt (⟨#[0, 1, 2, 2, 3, 3, 3, 3, 4, 4, 4, 4, 4, 4, 4, 4, 5, 5, 5, 5, 5, 5, 5, 5, 5, 5, 5, 5, 5, 5, 5, 5, 6, 6, 6, 6, 6, 6, 6, 6, 6, 6, 6, 6, 6, 6, 6, 6, 6, 6, 6, 6, 6, 6, 6, 6, 6, 6, 6, 6, 6, 6, 6, 6, 7, 7, 7, 7, 7, 7, 7, 7, 7, 7, 7, 7, 7, 7, 7, 7, 7, 7, 7, 7, 7, 7, 7, 7, 7, 7, 7, 7, 7, 7, 7, 7, 7, 7, 7, 7, 7, 7, 7, 7, 7, 7, 7, 7, 7, 7, 7, 7, 7, 7, 7, 7, 7, 7, 7, 7, 7, 7, 7, 7, 7, 7, 7, 7, 8, 8, 8, 8, 8, 8, 8, 8, 8, 8, 8, 8, 8, 8, 8, 8, 8, 8, 8, 8, 8, 8, 8, 8, 8, 8, 8, 8, 8, 8, 8, 8, 8, 8, 8, 8, 8, 8, 8, 8, 8, 8, 8, 8, 8, 8, 8, 8, 8, 8, 8, 8, 8, 8, 8, 8, 8, 8, 8, 8, 8, 8, 8, 8, 8, 8, 8, 8, 8, 8, 8, 8, 8, 8, 8, 8, 8, 8, 8, 8, 8, 8, 8, 8, 8, 8, 8, 8, 8, 8, 8, 8, 8, 8, 8, 8, 8, 8, 8, 8, 8, 8, 8, 8, 8, 8, 8, 8, 8, 8, 8, 8, 8, 8, 8, 8, 8, 8, 8, 8, 8, 8, 8, 8, 8, 8, 8, 8]⟩ : ByteArray) (ji19)))))) else (none)) else (none)) = some r := by first | (rw [hji19] at H; exact H) | (simp only [hji19] at H ⊢; exact H)
     by_cases c20 : 0 ≤ (ji19)
     ·rw [if_pos c20] at H
      have c20b0 : decide (0 ≤ (ji19)) = true := decide_eq_true c20
      clear c20
      by_cases c21 : (ji19) < 256
      ·rw [if_pos c21] at H
       have c21b0 : decide ((ji19) < 256) = true := decide_eq_true c21
       clear c21
       obtain rfl := Option.some.inj H
       have p22 : 0 ≤ ((ji19) : Int) := of_decide_eq_true aS
       have q22 : (ji19) < (256 : Int) := of_decide_eq_true aS
       have hx22 := bt_at (⟨#[0, 1, 2, 2, 3, 3, 3, 3, 4, 4, 4, 4, 4, 4, 4, 4, 5, 5, 5, 5, 5, 5, 5, 5, 5, 5, 5, 5, 5, 5, 5, 5, 6, 6, 6, 6, 6, 6, 6, 6, 6, 6, 6, 6, 6, 6, 6, 6, 6, 6, 6, 6, 6, 6, 6, 6, 6, 6, 6, 6, 6, 6, 6, 6, 7, 7, 7, 7, 7, 7, 7, 7, 7, 7, 7, 7, 7, 7, 7, 7, 7, 7, 7, 7, 7, 7, 7, 7, 7, 7, 7, 7, 7, 7, 7, 7, 7, 7, 7, 7, 7, 7, 7, 7, 7, 7, 7, 7, 7, 7, 7, 7, 7, 7, 7, 7, 7, 7, 7, 7, 7, 7, 7, 7, 7, 7, 7, 7, 8, 8, 8, 8, 8, 8, 8, 8, 8, 8, 8, 8, 8, 8, 8, 8, 8, 8, 8, 8, 8, 8, 8, 8, 8, 8, 8, 8, 8, 8, 8, 8, 8, 8, 8, 8, 8, 8, 8, 8, 8, 8, 8, 8, 8, 8, 8, 8, 8, 8, 8, 8, 8, 8, 8, 8, 8, 8, 8, 8, 8, 8, 8, 8, 8, 8, 8, 8, 8, 8, 8, 8, 8, 8, 8, 8, 8, 8, 8, 8, 8, 8, 8, 8, 8, 8, 8, 8, 8, 8, 8, 8, 8, 8, 8, 8, 8, 8, 8, 8, 8, 8, 8, 8, 8, 8, 8, 8, 8, 8, 8, 8, 8, 8, 8, 8, 8, 8, 8, 8, 8, 8, 8, 8, 8, 8, 8, 8]⟩ : ByteArray) (ji19)
       replace p22 := eq_true p22
       replace q22 := eq_true q22
       go_wp2
       go_ret
       exact ⟨by first | rfl | (simp; done) | (simp only [← hji19] <;> (first | rfl | simp)) | (simp [*]; done), by repeat (first | exact Drawn0.refl _ | apply Drawn0.step)⟩
      ·rw [if_neg c21] at H
       exact absurd H (by simp)
     ·rw [if_neg c20] at H
      exact absurd H (by simp)
set_option maxHeartbeats 8000000 in
set_option maxRecDepth 100000 in
theorem bits_Len.calls (k : Nat) (a0 : Int) (r : Int) (w : World) (h : bits_Len.f k a0 = some r) :
  Calls Try.prog 64 #[.int .u64 a0] w fun e w' => e = .returned (.int .i64 r) ∧ Drawn0 w w' := by
 have H : ((bits_Len64.f k a0).bind fun t771 => (some t771)) = some r := h
 clear h
 replace H := Option.bind_eq_some_iff.mp H
 obtain ⟨t771, A20, H⟩ := H
 replace H : (some t771) = some r := H
 have A2 := Aside0.mk A20
 clear A20
 obtain rfl := Option.some.inj H
 go_enter Try.func64, Try.ntmps64
 go_wp2_with (first | ((with_reducible refine gate_callee (f := 72) rfl ?_); refine goesL_ (some 7) rfl rfl Try.func72 (by kernel_rfl) rfl #[.int .u64 a0] rfl (by (try simp only [List.map_toArray, List.map_cons, List.map_nil]); first | done | rfl | (simp only [List.length_drop, List.length_take]; rfl)) ?_; (with_reducible refine (bits_Len64.calls k a0 t771 _ A2.out).mono ?_); rintro e w' ⟨rfl, ⟨nd, rfl⟩⟩; refine ⟨_, rfl, ?_⟩))
 go_ret
 exact ⟨by first | rfl | (simp; done) | (simp [*]; done), by repeat (first | exact Drawn0.refl _ | apply Drawn0.step)⟩
end Go.Proofs.Ytfmobogdnlmdbaa.P
end
section
namespace Go.Proofs.Ytfmobogdnlmdbaa.P
open Go.RowKit Go.Proofs.YtfmobogdnlmdbaaW.PrintWords Go.Proofs.YtfmobogdnlmdbaaW.PrintLast Go.Proofs.YtfmobogdnlmdbaaW.PrintMore Go.Proofs.YtfmobogdnlmdbaaW
attribute [local go_sem] max2_int min2_int max_two min_two max_three min_three max_four min_four
set_option linter.unusedVariables false
set_option linter.unusedSimpArgs false
set_option maxHeartbeats 8000000 in
set_option maxRecDepth 100000 in
theorem nat_Pow.calls (k : Nat) (A0 : Option Addr) (c0 : Nat) (l0 : List Int) (a1 : Int) (r1 : List Int) (r2 : Int) (w : World) (hr0 : Kd.C (Kd.int .u32) w A0 l0.length l0) (hc0 : l0.length ≤ c0) (h : nat_Pow.f k l0 a1 = some (r1, r2)) :
  Calls Try.prog 37 #[.slice A0 l0.length c0, .int .i64 a1] w fun e w' => ∃ v0_ : Value, e = .returned (.tuple #[v0_, .int .i64 r2]) ∧ Kd.R (Kd.int .u32) 36 w' w.heap.size (fun _ => True) v0_ r1 ∧ Below w.heap.size w w' := by
 have HR0 := Aside0.mk hr0
 have HC0 := Aside0.mk hc0
 clear hr0 hc0
 have HB := Aside0.mk (Below.refl w.heap.size w)
 have H : ((nat_Valid.f l0).bind fun t772 => (if t772 = true then (if a1 < 0 then (some (([] : List Int), 1)) else (if a1 = 0 then (some ((([1] : List Int)), 0)) else (if (l0.length : Int) = 0 then (nat_Pow.j0 k l0 a1 true) else (if (l0.length : Int) = 1 then (if 0 < (l0.length : Int) then (nat_Pow.j0 k l0 a1 ((rd l0 0) == 1)) else (none)) else (nat_Pow.j0 k l0 a1 false))))) else (some (([] : List Int), 3)))) = some (r1, r2) := h
 clear h
 replace H := Option.bind_eq_some_iff.mp H
 obtain ⟨t772, A30, H⟩ := H
 replace H : (if t772 = true then (if a1 < 0 then (some (([] : List Int), 1)) else (if a1 = 0 then (some ((([1] : List Int)), 0)) else (if (l0.length : Int) = 0 then (nat_Pow.j0 k l0 a1 true) else (if (l0.length : Int) = 1 then (if 0 < (l0.length : Int) then (nat_Pow.j0 k l0 a1 ((rd l0 0) == 1)) else (none)) else (nat_Pow.j0 k l0 a1 false))))) else (some (([] : List Int), 3))) = some (r1, r2) := H
 have A3 := Aside0.mk A30
 clear A30
 by_cases c4 : t772 = true
 ·subst c4
  have H1 : (if a1 < 0 then (some (([] : List Int), 1)) else (if a1 = 0 then (some ((([1] : List Int)), 0)) else (if (l0.length : Int) = 0 then (nat_Pow.j0 k l0 a1 true) else (if (l0.length : Int) = 1 then (if 0 < (l0.length : Int) then (nat_Pow.j0 k l0 a1 ((rd l0 0) == 1)) else (none)) else (nat_Pow.j0 k l0 a1 false))))) = some (r1, r2) := by rw [if_pos rfl] at H; exact H
  clear H
  have H := H1
  clear H1
  by_cases c5 : a1 < 0
  ·rw [if_pos c5] at H
   have c5b0 : decide (a1 < 0) = true := decide_eq_true c5
   clear c5
   simp only [Option.some.injEq, Prod.mk.injEq] at H
   obtain ⟨rfl, rfl⟩ := H
   go_enter Try.func37, Try.ntmps37
   go_wp2_with (first | ((with_reducible refine gate_callee (f := 45) rfl ?_); refine goesL_ (some 10) rfl rfl Try.func45 (by kernel_rfl) rfl #[.slice A0 l0.length c0] rfl (by (try simp only [List.map_toArray, List.map_cons, List.map_nil]); first | done | rfl | (simp only [List.length_drop, List.length_take]; rfl)) ?_; (with_reducible refine (nat_Valid.calls _ _ l0 true _ ?side1 ?side2 A3.out).mono ?_); (case side1 => repeat (first | exact HR0.out | (with_reducible refine Kd.C_alloc ?_ _) | (with_reducible refine Kd.C_drewN ?_ _) | (with_reducible refine Kd.C_drew ?_))); (case side2 => exact HC0.out); rintro e w' ⟨rfl, ⟨nd, rfl⟩⟩; refine ⟨_, rfl, ?_⟩))
   go_ret2
   exact ⟨_, by first | rfl | (simp [errW_none, errW_some] <;> rfl) | (simp [*, errW_none, errW_some] <;> rfl), by first | exact Kd.R_nil _ _ _ _ _ | exact Kd.N_nil _ _ _ _ _ | exact Kd.V_nil _ _ _ _ _ | exact Kd.Q_nil _ _ _ _ _ | exact Kd.S_nil _ _ _ _ _, by repeat (first | (with_reducible first | exact HB.out | apply below_alloc | apply pw_below_drewN | apply below_drew1) | exact HB.out)⟩
  ·rw [if_neg c5] at H
   have c5b0 : decide (a1 < 0) = false := decide_eq_false c5
   clear c5
   by_cases c6 : a1 = 0
   ·rw [if_pos c6] at H
    have c6b0 : (a1 == 0) = true := beq_iff_eq.mpr c6
    have c6b1 : (a1 != 0) = false := bne_eq_false_iff_eq.mpr c6
    clear c6
    obtain ⟨y773, hy773⟩ : ∃ y_ : List Int, y_ = (([1] : List Int)) := ⟨_, rfl⟩
    replace H : (some (y773, 0)) = some (r1, r2) := by first | (rw [hy773]; with_reducible exact H) | (have H2_ := (Option.bind_some _ _).symm.trans H; rw [hy773]; with_reducible exact H2_) | (have H2_ := (Option.bind_some _ _).symm.trans H; with_reducible exact H2_) | with_reducible exact H | (rw [hy773]; exact H) | exact H
    have Ny773 := Aside0.mk hy773
    clear hy773
    simp only [Option.some.injEq, Prod.mk.injEq] at H
    obtain ⟨rfl, rfl⟩ := H
    go_enter Try.func37, Try.ntmps37
    go_wp2_with (first | ((with_reducible refine gate_callee (f := 45) rfl ?_); refine goesL_ (some 10) rfl rfl Try.func45 (by kernel_rfl) rfl #[.slice A0 l0.length c0] rfl (by (try simp only [List.map_toArray, List.map_cons, List.map_nil]); first | done | rfl | (simp only [List.length_drop, List.length_take]; rfl)) ?_; (with_reducible refine (nat_Valid.calls _ _ l0 true _ ?side1 ?side2 A3.out).mono ?_); (case side1 => repeat (first | exact HR0.out | (with_reducible refine Kd.C_alloc ?_ _) | (with_reducible refine Kd.C_drewN ?_ _) | (with_reducible refine Kd.C_drew ?_))); (case side2 => exact HC0.out); rintro e w' ⟨rfl, ⟨nd, rfl⟩⟩; refine ⟨_, rfl, ?_⟩) | ((with_reducible refine gate_dst (N := 18) rfl ?_); (try (refine gate_guard (by rfl) ?_; dsimp only)); refine Kd.R_lit (Kd.int .u32) _ 36 ?hg (N := 18) ?hd (xs := ([1] : List Int)) (inner := [.int .u32 1]) (ok := fun _ => True) (okp := fun _ => True) ?hr ?hp (fun _ hk => hk) trivial (Below.refl _ _) (Nat.le_refl _) (by simp) ?_; (case hd => rfl); (case hg => rfl); (case hr => first | (go_simp; done) | (go_simp; rfl)); (case hp => exact (Reps.one (show Kd.M (Kd.int .u32) _ _ _ 1 [.int .u32 1] from rfl) (Reps.none _ _))); intro v774 w7 ho8 hb hg_ hnew_; clear hg_ hnew_; (first | rw [← Ny773.out] at ho8 | (simp only [Int.reduceToNat] at ho8; rw [← Ny773.out] at ho8)); have n0_ := Aside0.mk (Kd.R_lower ho8 (below_size (bB))); have n1_ := Aside0.mk (below_step (bB) hb); clear HB; have HO775 := n0_; have HB := n1_; clear n0_ n1_; clear hb ho8))
    go_ret2
    exact ⟨_, by first | rfl | (simp [errW_none, errW_some] <;> rfl) | (simp [*, errW_none, errW_some] <;> rfl), by (with_reducible repeat (first | apply Kd.R_alloc | apply Kd.R_drewN | apply Kd.R_drew)); exact HO775.out, by repeat (first | (with_reducible first | exact HB.out | apply below_alloc | apply pw_below_drewN | apply below_drew1) | exact HB.out)⟩
   ·rw [if_neg c6] at H
    have c6b0 : (a1 == 0) = false := beq_eq_false_iff_ne.mpr c6
    have c6b1 : (a1 != 0) = true := bne_iff_ne.mpr c6
    have HC9 := Aside0.mk H
    clear H
    go_enter Try.func37, Try.ntmps37
    go_upto_region 7 with (first | ((with_reducible refine gate_callee (f := 45) rfl ?_); refine goesL_ (some 10) rfl rfl Try.func45 (by kernel_rfl) rfl #[.slice A0 l0.length c0] rfl (by (try simp only [List.map_toArray, List.map_cons, List.map_nil]); first | done | rfl | (simp only [List.length_drop, List.length_take]; rfl)) ?_; (with_reducible refine (nat_Valid.calls _ _ l0 true _ ?side1 ?side2 A3.out).mono ?_); (case side1 => repeat (first | exact HR0.out | (with_reducible refine Kd.C_alloc ?_ _) | (with_reducible refine Kd.C_drewN ?_ _) | (with_reducible refine Kd.C_drew ?_))); (case side2 => exact HC0.out); rintro e w' ⟨rfl, ⟨nd, rfl⟩⟩; refine ⟨_, rfl, ?_⟩))
    (try simp only [Act.put, List.setIfInBounds_toArray, List.set_cons_zero, List.set_cons_succ])
    go_cut [19] (fun v19 wc => ∃ (kq : Nat) (x19_8 : Bool), v19 = .bool x19_8 ∧ Aside0 (nat_Pow.j0 kq l0 a1 x19_8 = some (r1, r2)) ∧ Aside0 (kq ≤ k) ∧ Aside0 (Below w.heap.size w wc))
    case first =>
     have H := HC9.out
     clear HC9
     by_cases c10 : (l0.length : Int) = 0
     ·rw [if_pos c10] at H
      have c10b0 : ((l0.length : Int) == 0) = true := beq_iff_eq.mpr c10
      have c10b1 : ((l0.length : Int) != 0) = false := bne_eq_false_iff_eq.mpr c10
      clear c10
      (first | rw [c10b0] | (simp only [i64_w, i32_w]; rw [c10b0]) | rw [c10b1] | skip)
      have H' := Aside0.mk H
      clear H
      go_wp2
      go_meet
      case rel => exact ⟨_, (true), (by first | rfl | (simp; done) | (simp [*]; done)), H', ⟨by first | omega | exact Nat.le_refl _⟩, ⟨by repeat (first | (with_reducible first | exact HB.out | apply below_alloc | apply pw_below_drewN | apply below_drew1) | exact HB.out)⟩⟩
     ·rw [if_neg c10] at H
      have c10b0 : ((l0.length : Int) == 0) = false := beq_eq_false_iff_ne.mpr c10
      have c10b1 : ((l0.length : Int) != 0) = true := bne_iff_ne.mpr c10
      have c10b2 : ¬ (l0 = []) := fun h_ => c10 (by rw [h_]; rfl)
      (first | rw [c10b0] | (simp only [i64_w, i32_w]; rw [c10b0]) | rw [c10b1] | skip)
      by_cases c11 : (l0.length : Int) = 1
      ·rw [if_pos c11] at H
       have c11b0 : ((l0.length : Int) == 1) = true := beq_iff_eq.mpr c11
       have c11b1 : ((l0.length : Int) != 1) = false := bne_eq_false_iff_eq.mpr c11
       clear c11
       by_cases c12 : 0 < (l0.length : Int)
       ·rw [if_pos c12] at H
        have c12b0 : decide (0 < (l0.length : Int)) = true := decide_eq_true c12
        have c12b1 : decide (0 < l0.length) = true := decide_eq_true (by omega)
        clear c12
        have H' := Aside0.mk H
        clear H
        have p776 : 0 ≤ (0 : Int) := (by omega)
        have q776 : 0 < (l0.length : Int) := of_decide_eq_true aS
        obtain ⟨ad776, e776, hx776_0⟩ := Kd.at_int HR0.out 0 p776 q776
        cases e776
        have qi776 : (0 < l0.length) = True := eq_true (by omega)
        (try rw [show ((0 : Int)).toNat = 0 from rfl] at hx776_0)
        (try rw [Addr.add_zero'] at hx776_0)
        replace hx776_0 := (HB.out.cell (World.block_lt_of_cell? w _ hx776_0)).trans hx776_0
        replace p776 := eq_true p776
        replace q776 := eq_true q776
        go_wp2
        go_meet
        case rel => exact ⟨_, (((rd l0 0) == 1)), (by first | rfl | (simp; done) | (simp [*]; done)), H', ⟨by first | omega | exact Nat.le_refl _⟩, ⟨by repeat (first | (with_reducible first | exact HB.out | apply below_alloc | apply pw_below_drewN | apply below_drew1) | exact HB.out)⟩⟩
       ·rw [if_neg c12] at H
        exact absurd H (by simp)
      ·rw [if_neg c11] at H
       have c11b0 : ((l0.length : Int) == 1) = false := beq_eq_false_iff_ne.mpr c11
       have c11b1 : ((l0.length : Int) != 1) = true := bne_iff_ne.mpr c11
       have H' := Aside0.mk H
       clear H
       go_wp2
       go_meet
       case rel => exact ⟨_, (false), (by first | rfl | (simp; done) | (simp [*]; done)), H', ⟨by first | omega | exact Nat.le_refl _⟩, ⟨by repeat (first | (with_reducible first | exact HB.out | apply below_alloc | apply pw_below_drewN | apply below_drew1) | exact HB.out)⟩⟩
    case rest =>
     clear HC9
     try clear c1
     try clear p2
     try clear c3
     try clear c4
     try clear c5
     try clear c5b0
     try clear c6
     try clear c6b0
     try clear c6b1
     try clear p7
     try clear q7
     try clear hx7
     try clear qi7
     try clear c10
     try clear c10b0
     try clear c10b1
     try clear c10b2
     try clear c11
     try clear c11b0
     try clear c11b1
     try clear c12
     try clear c12b0
     try clear c12b1
     try clear hx776_0
     try clear p776
     try clear q776
     obtain ⟨kq, x19_8, rfl, HA, HJ8, HB⟩ := hcut
     cases kq with
     | zero => exact absurd HA.out (by simp [nat_Pow.j0])
     | succ kj8 =>
      have H := HA.out
      clear HA
      simp only [nat_Pow.j0] at H
      by_cases c13 : x19_8 = true
      ·subst c13
       have H1 : ((nat_limited.f l0).bind fun bt777 => (some (bt777.1, bt777.2))) = some (r1, r2) := by rw [if_pos rfl] at H; exact H
       clear H
       have H := H1
       clear H1
       replace H := Option.bind_eq_some_iff.mp H
       obtain ⟨⟨t777, t778⟩, A140, H⟩ := H
       replace H : (some (t777, t778)) = some (r1, r2) := H
       have A14 := Aside0.mk A140
       clear A140
       simp only [Option.some.injEq, Prod.mk.injEq] at H
       obtain ⟨rfl, rfl⟩ := H
       go_wp2_with (first | ((with_reducible refine gate_callee (f := 52) rfl ?_); refine goesL_ (some 35) rfl rfl Try.func52 (by kernel_rfl) rfl #[.slice A0 l0.length c0] rfl (by (try simp only [List.map_toArray, List.map_cons, List.map_nil]); first | done | rfl | (simp only [List.length_drop, List.length_take]; rfl)) ?_; (with_reducible refine (nat_limited.calls _ _ l0 t777 t778 _ ?side1 ?side2 A14.out).mono ?_); (case side1 => repeat (first | exact (Kd.C_below HR0.out HB.out) | (with_reducible refine Kd.C_alloc ?_ _) | (with_reducible refine Kd.C_drewN ?_ _) | (with_reducible refine Kd.C_drew ?_))); (case side2 => exact HC0.out); rintro e w15 ⟨v779, rfl, ho0, hb⟩; refine ⟨_, rfl, ?_⟩; have n0_ := Aside0.mk (Kd.R_lower ho0 (below_size (bB))); have n1_ := Aside0.mk (below_step (bB) hb); clear HB; have HO780 := n0_; have HB := n1_; clear n0_ n1_; (try clear hb); (try clear hb2); (try clear hk); (try clear hi); (try clear ho0)))
       go_ret2
       exact ⟨_, by first | rfl | (simp [errW_none, errW_some] <;> rfl) | (simp [*, errW_none, errW_some] <;> rfl), by (with_reducible repeat (first | apply Kd.R_alloc | apply Kd.R_drewN | apply Kd.R_drew)); exact HO780.out, by repeat (first | (with_reducible first | exact HB.out | apply below_alloc | apply pw_below_drewN | apply below_drew1) | exact HB.out)⟩
      ·replace c13 := Bool.eq_false_iff.mpr c13
       subst c13
       have H1 : (if a1 > 131072 then (some (([] : List Int), 2)) else ((mag_Bits.f l0).bind fun t781 => (if (wrap64 ((wrap64 (t781 - 1)) * a1)) ≥ 131072 then (some (([] : List Int), 2)) else ((bits_Len.f kj8 (IntKind.u64.wrap (a1))).bind fun t785 => (nat_Pow.l0 kj8 l0 a1 (([1] : List Int)) (wrap64 (t785 - 1))))))) = some (r1, r2) := by rw [if_neg (show ¬ (false = true) by decide)] at H; exact H
       clear H
       have H := H1
       clear H1
       by_cases c16 : a1 > 131072
       ·rw [if_pos c16] at H
        have c16b0 : decide (131072 < a1) = true := decide_eq_true c16
        clear c16
        simp only [Option.some.injEq, Prod.mk.injEq] at H
        obtain ⟨rfl, rfl⟩ := H
        go_wp2
        go_ret2
        exact ⟨_, by first | rfl | (simp [errW_none, errW_some] <;> rfl) | (simp [*, errW_none, errW_some] <;> rfl), by first | exact Kd.R_nil _ _ _ _ _ | exact Kd.N_nil _ _ _ _ _ | exact Kd.V_nil _ _ _ _ _ | exact Kd.Q_nil _ _ _ _ _ | exact Kd.S_nil _ _ _ _ _, by repeat (first | (with_reducible first | exact HB.out | apply below_alloc | apply pw_below_drewN | apply below_drew1) | exact HB.out)⟩
       ·rw [if_neg c16] at H
        have c16b0 : decide (131072 < a1) = false := decide_eq_false c16
        clear c16
        replace H := Option.bind_eq_some_iff.mp H
        obtain ⟨t781, A170, H⟩ := H
        replace H : (if (wrap64 ((wrap64 (t781 - 1)) * a1)) ≥ 131072 then (some (([] : List Int), 2)) else ((bits_Len.f kj8 (IntKind.u64.wrap (a1))).bind fun t785 => (nat_Pow.l0 kj8 l0 a1 (([1] : List Int)) (wrap64 (t785 - 1))))) = some (r1, r2) := H
        have A17 := Aside0.mk A170
        clear A170
        by_cases c18 : (wrap64 ((wrap64 (t781 - 1)) * a1)) ≥ 131072
        ·rw [if_pos c18] at H
         have c18b0 : decide (131072 ≤ (wrap64 ((wrap64 (t781 - 1)) * a1))) = true := decide_eq_true c18
         clear c18
         simp only [Option.some.injEq, Prod.mk.injEq] at H
         obtain ⟨rfl, rfl⟩ := H
         go_wp2_with (first | (go_at_call 47; (with_reducible refine (mag_Bits.calls _ _ l0 t781 _ ?side1 ?side2 A17.out).mono ?_); (case side1 => repeat (first | exact (Kd.C_below HR0.out HB.out) | (with_reducible refine Kd.C_alloc ?_ _) | (with_reducible refine Kd.C_drewN ?_ _) | (with_reducible refine Kd.C_drew ?_))); (case side2 => exact HC0.out); rintro e w' ⟨rfl, ⟨nd, rfl⟩⟩))
         go_ret2
         exact ⟨_, by first | rfl | (simp [errW_none, errW_some] <;> rfl) | (simp [*, errW_none, errW_some] <;> rfl), by first | exact Kd.R_nil _ _ _ _ _ | exact Kd.N_nil _ _ _ _ _ | exact Kd.V_nil _ _ _ _ _ | exact Kd.Q_nil _ _ _ _ _ | exact Kd.S_nil _ _ _ _ _, by repeat (first | (with_reducible first | exact HB.out | apply below_alloc | apply pw_below_drewN | apply below_drew1) | exact HB.out)⟩
        ·rw [if_neg c18] at H
         have c18b0 : decide (131072 ≤ (wrap64 ((wrap64 (t781 - 1)) * a1))) = false := decide_eq_false c18
         clear c18
         obtain ⟨y782, hy782⟩ : ∃ y_ : List Int, y_ = (([1] : List Int)) := ⟨_, rfl⟩
         replace H : ((bits_Len.f kj8 (IntKind.u64.wrap (a1))).bind fun t785 => (nat_Pow.l0 kj8 l0 a1 y782 (wrap64 (t785 - 1)))) = some (r1, r2) := by first | (rw [hy782]; with_reducible exact H) | (have H2_ := (Option.bind_some _ _).symm.trans H; rw [hy782]; with_reducible exact H2_) | (have H2_ := (Option.bind_some _ _).symm.trans H; with_reducible exact H2_) | with_reducible exact H | (rw [hy782]; exact H) | exact H
         have Ny782 := Aside0.mk hy782
         clear hy782
         replace H := Option.bind_eq_some_iff.mp H
         obtain ⟨t785, A190, H⟩ := H
         replace H : (nat_Pow.l0 kj8 l0 a1 y782 (wrap64 (t785 - 1))) = some (r1, r2) := H
         have A19 := Aside0.mk A190
         clear A190
         have H' := Aside0.mk H
         clear H
         go_wp2_with (first | (go_at_call 47; (with_reducible refine (mag_Bits.calls _ _ l0 t781 _ ?side1 ?side2 A17.out).mono ?_); (case side1 => repeat (first | exact (Kd.C_below HR0.out HB.out) | (with_reducible refine Kd.C_alloc ?_ _) | (with_reducible refine Kd.C_drewN ?_ _) | (with_reducible refine Kd.C_drew ?_))); (case side2 => exact HC0.out); rintro e w' ⟨rfl, ⟨nd, rfl⟩⟩) | ((with_reducible refine gate_dst (N := 49) rfl ?_); (try (refine gate_guard (by rfl) ?_; dsimp only)); refine Kd.R_lit (Kd.int .u32) _ 36 ?hg (N := 49) ?hd (xs := ([1] : List Int)) (inner := [.int .u32 1]) (ok := fun _ => True) (okp := fun _ => True) ?hr ?hp (fun _ hk => hk) trivial (Below.refl _ _) (Nat.le_refl _) (by simp) ?_; (case hd => rfl); (case hg => rfl); (case hr => first | (go_simp; done) | (go_simp; rfl)); (case hp => exact (Reps.one (show Kd.M (Kd.int .u32) _ _ _ 1 [.int .u32 1] from rfl) (Reps.none _ _))); intro v783 w20 ho21 hb hg_ hnew_; clear hg_ hnew_; (first | rw [← Ny782.out] at ho21 | (simp only [Int.reduceToNat] at ho21; rw [← Ny782.out] at ho21)); have n0_ := Aside0.mk (Kd.R_lower ho21 (below_size (bB))); have n1_ := Aside0.mk (below_step (bB) hb); clear HB; have HO784 := n0_; have HB := n1_; clear n0_ n1_; clear hb ho21) | ((with_reducible refine gate_callee (f := 64) rfl ?_); refine goesL_ (some 52) rfl rfl Try.func64 (by kernel_rfl) rfl #[.int .u64 (IntKind.u64.wrap (a1))] rfl (by (try simp only [List.map_toArray, List.map_cons, List.map_nil]); first | done | rfl | (simp only [List.length_drop, List.length_take]; rfl)) ?_; (with_reducible refine (bits_Len.calls kj8 (IntKind.u64.wrap (a1)) t785 _ A19.out).mono ?_); rintro e w' ⟨rfl, ⟨nd, rfl⟩⟩; refine ⟨_, rfl, ?_⟩))
         go_loopg [6, 7] kj8 (fun kq v6 v7 w' => ∃ (x6_2 : List Int) (x7_2 : Int), v7 = .int .i64 x7_2 ∧ Aside0 (nat_Pow.l0 kq l0 a1 x6_2 x7_2 = some (r1, r2)) ∧ Aside0 (kq ≤ kj8) ∧ Aside0 (Kd.V (Kd.int .u32) 36 w' w.heap.size (fun _ => True) v6 x6_2) ∧ Aside0 (Below w.heap.size w w'))
         case atStart => exact ⟨(y782), (wrap64 (t785 - 1)), (by first | rfl | (simp; done) | (simp [*]; done)), H', ⟨Nat.le_refl _⟩, ⟨Kd.R_V (by (with_reducible repeat (first | apply Kd.R_alloc | apply Kd.R_drewN | apply Kd.R_drew)); exact HO784.out)⟩, ⟨by repeat (first | (with_reducible first | exact HB.out | apply below_alloc | apply pw_below_drewN | apply below_drew1) | exact HB.out)⟩⟩
         case round =>
          clear H'
          try clear c1
          try clear p2
          try clear c3
          try clear c4
          try clear c5
          try clear c5b0
          try clear c6
          try clear c6b0
          try clear c6b1
          try clear p6
          try clear p7
          try clear q7
          try clear hx7
          try clear qi7
          try clear c10
          try clear c10b0
          try clear c10b1
          try clear c10b2
          try clear c11
          try clear c11b0
          try clear c11b1
          try clear c12
          try clear c12b0
          try clear c12b1
          try clear c13
          try clear c16
          try clear c16b0
          try clear c18
          try clear c18b0
          try clear hx776_0
          try clear p2
          try clear p7
          try clear p776
          try clear q7
          try clear q776
          obtain ⟨x6_2, x7_2, rfl, HA, HK2, HO_6, HB⟩ := hrel
          cases gk with
          | zero => exact absurd HA.out (by simp [nat_Pow.l0])
          | succ k2 =>
           have H := HA.out
           clear HA
           simp only [nat_Pow.l0] at H
           by_cases c22 : x7_2 ≥ 0
           ·rw [if_pos c22] at H
            have c22b0 : decide (0 ≤ x7_2) = true := decide_eq_true c22
            clear c22
            replace H := Option.bind_eq_some_iff.mp H
            obtain ⟨t790, A230, H⟩ := H
            replace H : (if 0 ≤ x7_2 then (if (Go.bits .and .i64 (shr .i64 a1 x7_2) 1) = 1 then ((mag_Mul.f k2 t790 l0).bind fun t793 => (nat_Pow.l0 k2 l0 a1 t793 (wrap64 (x7_2 - 1)))) else (nat_Pow.l0 k2 l0 a1 t790 (wrap64 (x7_2 - 1)))) else (none)) = some (r1, r2) := H
            have A23 := Aside0.mk A230
            clear A230
            by_cases c24 : 0 ≤ x7_2
            ·rw [if_pos c24] at H
             have c24b0 := eq_true c24
             have c24b1 : decide (0 ≤ x7_2) = true := decide_eq_true c24
             clear c24
             obtain ⟨ji25, hji25⟩ : ∃ j_ : Int, (shr .i64 a1 x7_2) = j_ := ⟨_, rfl⟩
             replace H : (if (Go.bits .and .i64 (ji25) 1) = 1 then ((mag_Mul.f k2 t790 l0).bind fun t793 => (nat_Pow.l0 k2 l0 a1 t793 (wrap64 (x7_2 - 1)))) else (nat_Pow.l0 k2 l0 a1 t790 (wrap64 (x7_2 - 1)))) = some (r1, r2) := by first | (rw [hji25] at H; exact H) | (simp only [hji25] at H ⊢; exact H)
             (try rw [hji25] at A23)
             have hji25_ : (a1 / 2 ^ min x7_2.toNat 64) = ji25 := hji25
             have hji25z : x7_2 ≤ 64 → (a1 / 2 ^ x7_2.toNat) = ji25 := shr_small hji25
             by_cases c26 : (Go.bits .and .i64 (ji25) 1) = 1
             ·rw [if_pos c26] at H
              have c26b0 : ((Go.bits .and .i64 (ji25) 1) == 1) = true := beq_iff_eq.mpr c26
              have c26b1 : ((Go.bits .and .i64 (ji25) 1) != 1) = false := bne_eq_false_iff_eq.mpr c26
              clear c26
              replace H := Option.bind_eq_some_iff.mp H
              obtain ⟨t793, A270, H⟩ := H
              replace H : (nat_Pow.l0 k2 l0 a1 t793 (wrap64 (x7_2 - 1))) = some (r1, r2) := H
              have A27 := Aside0.mk A270
              clear A270
              have H' := Aside0.mk H
              clear H
              obtain ⟨Ao28, co28, eo28⟩ := Kd.V_slice HO_6.out
              subst eo28
              go_wp2_with (first | ((with_reducible refine gate_callee (f := 55) rfl ?_); refine goesL_ (some 60) rfl rfl Try.func55 (by kernel_rfl) rfl #[.slice Ao28 x6_2.length co28, .slice Ao28 x6_2.length co28] rfl (by (try simp only [List.map_toArray, List.map_cons, List.map_nil]); first | done | rfl | (simp only [List.length_drop, List.length_take]; rfl)) ?_; (with_reducible refine (mag_Mul.calls k2 _ _ x6_2 _ _ x6_2 t790 _ ?side1 ?side2 ?side3 ?side4 A23.out).mono ?_); (case side1 => repeat (first | exact (Kd.V_reads' HO_6.out).2.2 | (with_reducible refine Kd.C_alloc ?_ _) | (with_reducible refine Kd.C_drewN ?_ _) | (with_reducible refine Kd.C_drew ?_))); (case side2 => exact (Kd.V_reads' HO_6.out).2.1); (case side3 => repeat (first | exact (Kd.V_reads' HO_6.out).2.2 | (with_reducible refine Kd.C_alloc ?_ _) | (with_reducible refine Kd.C_drewN ?_ _) | (with_reducible refine Kd.C_drew ?_))); (case side4 => exact (Kd.V_reads' HO_6.out).2.1); rintro e w29 ⟨v791, rfl, ho0, hb⟩; refine ⟨_, rfl, ?_⟩; have n0_ := Aside0.mk (Kd.V_below (by (with_reducible repeat (first | apply Kd.V_alloc | apply Kd.V_drewN | apply Kd.V_drew)); exact HO_6.out) hb); have n1_ := Aside0.mk (Kd.V_lower (Kd.V_mono (ok' := fun k_ => True) ho0 (fun k_ hk_ => trivial)) (below_size (bB))); have n2_ := Aside0.mk (below_step (bB) hb); clear HO_6; clear HB; have HO_6 := n0_; have HO792 := n1_; have HB := n2_; clear n0_ n1_ n2_; (try clear hb); (try clear hb2); (try clear hk); (try clear hi); (try clear ho0); obtain ⟨Ao30, co30, eo30⟩ := Kd.V_slice HO792.out; subst eo30) | ((with_reducible refine gate_callee (f := 55) rfl ?_); refine goesL_ (some 68) rfl rfl Try.func55 (by kernel_rfl) rfl #[.slice Ao30 t790.length co30, .slice A0 l0.length c0] rfl (by (try simp only [List.map_toArray, List.map_cons, List.map_nil]); first | done | rfl | (simp only [List.length_drop, List.length_take]; rfl)) ?_; (with_reducible refine (mag_Mul.calls k2 _ _ t790 _ _ l0 t793 _ ?side1 ?side2 ?side3 ?side4 A27.out).mono ?_); (case side1 => repeat (first | exact (Kd.V_reads' HO792.out).2.2 | (with_reducible refine Kd.C_alloc ?_ _) | (with_reducible refine Kd.C_drewN ?_ _) | (with_reducible refine Kd.C_drew ?_))); (case side2 => exact (Kd.V_reads' HO792.out).2.1); (case side3 => repeat (first | exact (Kd.C_below HR0.out HB.out) | (with_reducible refine Kd.C_alloc ?_ _) | (with_reducible refine Kd.C_drewN ?_ _) | (with_reducible refine Kd.C_drew ?_))); (case side4 => exact HC0.out); rintro e w31 ⟨v794, rfl, ho0, hb⟩; refine ⟨_, rfl, ?_⟩; have n0_ := Aside0.mk (Kd.V_below (by (with_reducible repeat (first | apply Kd.V_alloc | apply Kd.V_drewN | apply Kd.V_drew)); exact HO_6.out) hb); have n1_ := Aside0.mk (Kd.V_below (by (with_reducible repeat (first | apply Kd.V_alloc | apply Kd.V_drewN | apply Kd.V_drew)); exact HO792.out) hb); have n2_ := Aside0.mk (Kd.V_lower (Kd.V_mono (ok' := fun k_ => True) ho0 (fun k_ hk_ => trivial)) (below_size (bB))); have n3_ := Aside0.mk (below_step (bB) hb); clear HO_6; clear HO792; clear HB; have HO_6 := n0_; have HO792 := n1_; have HO795 := n2_; have HB := n3_; clear n0_ n1_ n2_ n3_; (try clear hb); (try clear hb2); (try clear hk); (try clear hi); (try clear ho0)))
              (try simp only [← hji25])
              go_roundg k2
              case measure => have := HJ8.out; have := HK2.out; omega
              case rel => exact ⟨(t793), (wrap64 (x7_2 - 1)), (by first | rfl | (simp; done) | (simp [*]; done)), (by first | with_reducible exact H' | (simp only [hji25]; exact H') | exact H'), ⟨by have := HJ8.out; have := HK2.out; omega⟩, ⟨by (with_reducible repeat (first | apply Kd.V_alloc | apply Kd.V_drewN | apply Kd.V_drew)); exact HO795.out⟩, ⟨by repeat (first | (with_reducible first | exact HB.out | apply below_alloc | apply pw_below_drewN | apply below_drew1) | exact HB.out)⟩⟩
             ·rw [if_neg c26] at H
              have c26b0 : ((Go.bits .and .i64 (ji25) 1) == 1) = false := beq_eq_false_iff_ne.mpr c26
              have c26b1 : ((Go.bits .and .i64 (ji25) 1) != 1) = true := bne_iff_ne.mpr c26
              have H' := Aside0.mk H
              clear H
              obtain ⟨Ao32, co32, eo32⟩ := Kd.V_slice HO_6.out
              subst eo32
              go_wp2_with (first | ((with_reducible refine gate_callee (f := 55) rfl ?_); refine goesL_ (some 60) rfl rfl Try.func55 (by kernel_rfl) rfl #[.slice Ao32 x6_2.length co32, .slice Ao32 x6_2.length co32] rfl (by (try simp only [List.map_toArray, List.map_cons, List.map_nil]); first | done | rfl | (simp only [List.length_drop, List.length_take]; rfl)) ?_; (with_reducible refine (mag_Mul.calls k2 _ _ x6_2 _ _ x6_2 t790 _ ?side1 ?side2 ?side3 ?side4 A23.out).mono ?_); (case side1 => repeat (first | exact (Kd.V_reads' HO_6.out).2.2 | (with_reducible refine Kd.C_alloc ?_ _) | (with_reducible refine Kd.C_drewN ?_ _) | (with_reducible refine Kd.C_drew ?_))); (case side2 => exact (Kd.V_reads' HO_6.out).2.1); (case side3 => repeat (first | exact (Kd.V_reads' HO_6.out).2.2 | (with_reducible refine Kd.C_alloc ?_ _) | (with_reducible refine Kd.C_drewN ?_ _) | (with_reducible refine Kd.C_drew ?_))); (case side4 => exact (Kd.V_reads' HO_6.out).2.1); rintro e w33 ⟨v791, rfl, ho0, hb⟩; refine ⟨_, rfl, ?_⟩; have n0_ := Aside0.mk (Kd.V_below (by (with_reducible repeat (first | apply Kd.V_alloc | apply Kd.V_drewN | apply Kd.V_drew)); exact HO_6.out) hb); have n1_ := Aside0.mk (Kd.V_lower (Kd.V_mono (ok' := fun k_ => True) ho0 (fun k_ hk_ => trivial)) (below_size (bB))); have n2_ := Aside0.mk (below_step (bB) hb); clear HO_6; clear HB; have HO_6 := n0_; have HO792 := n1_; have HB := n2_; clear n0_ n1_ n2_; (try clear hb); (try clear hb2); (try clear hk); (try clear hi); (try clear ho0)))
              (try simp only [← hji25])
              go_roundg k2
              case measure => have := HJ8.out; have := HK2.out; omega
              case rel => exact ⟨(t790), (wrap64 (x7_2 - 1)), (by first | rfl | (simp; done) | (simp [*]; done)), (by first | with_reducible exact H' | (simp only [hji25]; exact H') | exact H'), ⟨by have := HJ8.out; have := HK2.out; omega⟩, ⟨by (with_reducible repeat (first | apply Kd.V_alloc | apply Kd.V_drewN | apply Kd.V_drew)); exact HO792.out⟩, ⟨by repeat (first | (with_reducible first | exact HB.out | apply below_alloc | apply pw_below_drewN | apply below_drew1) | exact HB.out)⟩⟩
            ·rw [if_neg c24] at H
             exact absurd H (by simp)
           ·rw [if_neg c22] at H
            have c22b0 : decide (0 ≤ x7_2) = false := decide_eq_false c22
            clear c22
            replace H := Option.bind_eq_some_iff.mp H
            obtain ⟨⟨t786, t787⟩, A340, H⟩ := H
            replace H : (some (t786, t787)) = some (r1, r2) := H
            have A34 := Aside0.mk A340
            clear A340
            simp only [Option.some.injEq, Prod.mk.injEq] at H
            obtain ⟨rfl, rfl⟩ := H
            obtain ⟨Ao35, co35, eo35⟩ := Kd.V_slice HO_6.out
            subst eo35
            go_wp2_with (first | ((with_reducible refine gate_callee (f := 52) rfl ?_); refine goesL_ (some 70) rfl rfl Try.func52 (by kernel_rfl) rfl #[.slice Ao35 x6_2.length co35] rfl (by (try simp only [List.map_toArray, List.map_cons, List.map_nil]); first | done | rfl | (simp only [List.length_drop, List.length_take]; rfl)) ?_; (with_reducible refine (nat_limited.calls _ _ x6_2 t786 t787 _ ?side1 ?side2 A34.out).mono ?_); (case side1 => repeat (first | exact (Kd.V_reads' HO_6.out).2.2 | (with_reducible refine Kd.C_alloc ?_ _) | (with_reducible refine Kd.C_drewN ?_ _) | (with_reducible refine Kd.C_drew ?_))); (case side2 => exact (Kd.V_reads' HO_6.out).2.1); rintro e w36 ⟨v788, rfl, ho0, hb⟩; refine ⟨_, rfl, ?_⟩; have n0_ := Aside0.mk (Kd.V_elder' (by (with_reducible repeat (first | apply Kd.V_alloc | apply Kd.V_drewN | apply Kd.V_drew)); exact HO_6.out) (Kd.R_base ho0) hb); have n1_ := Aside0.mk (Kd.R_lower ho0 (below_size (bB))); have n2_ := Aside0.mk (below_step (bB) hb); clear HO_6; clear HB; have HO_6 := n0_; have HO789 := n1_; have HB := n2_; clear n0_ n1_ n2_; (try clear hb); (try clear hb2); (try clear hk); (try clear hi); (try clear ho0)))
            go_ret2
            exact ⟨_, by first | rfl | (simp [errW_none, errW_some] <;> rfl) | (simp [*, errW_none, errW_some] <;> rfl), by (with_reducible repeat (first | apply Kd.R_alloc | apply Kd.R_drewN | apply Kd.R_drew)); exact HO789.out, by repeat (first | (with_reducible first | exact HB.out | apply below_alloc | apply pw_below_drewN | apply below_drew1) | exact HB.out)⟩
 ·replace c4 := Bool.eq_false_iff.mpr c4
  subst c4
  have H1 : (some (([] : List Int), 3)) = some (r1, r2) := by rw [if_neg (show ¬ (false = true) by decide)] at H; exact H
  clear H
  have H := H1
  clear H1
  simp only [Option.some.injEq, Prod.mk.injEq] at H
  obtain ⟨rfl, rfl⟩ := H
  go_enter Try.func37, Try.ntmps37
  go_wp2_with (first | ((with_reducible refine gate_callee (f := 45) rfl ?_); refine goesL_ (some 10) rfl rfl Try.func45 (by kernel_rfl) rfl #[.slice A0 l0.length c0] rfl (by (try simp only [List.map_toArray, List.map_cons, List.map_nil]); first | done | rfl | (simp only [List.length_drop, List.length_take]; rfl)) ?_; (with_reducible refine (nat_Valid.calls _ _ l0 false _ ?side1 ?side2 A3.out).mono ?_); (case side1 => repeat (first | exact HR0.out | (with_reducible refine Kd.C_alloc ?_ _) | (with_reducible refine Kd.C_drewN ?_ _) | (with_reducible refine Kd.C_drew ?_))); (case side2 => exact HC0.out); rintro e w' ⟨rfl, ⟨nd, rfl⟩⟩; refine ⟨_, rfl, ?_⟩))
  go_ret2
  exact ⟨_, by first | rfl | (simp [errW_none, errW_some] <;> rfl) | (simp [*, errW_none, errW_some] <;> rfl), by first | exact Kd.R_nil _ _ _ _ _ | exact Kd.N_nil _ _ _ _ _ | exact Kd.V_nil _ _ _ _ _ | exact Kd.Q_nil _ _ _ _ _ | exact Kd.S_nil _ _ _ _ _, by repeat (first | (with_reducible first | exact HB.out | apply below_alloc | apply pw_below_drewN | apply below_drew1) | exact HB.out)⟩
end Go.Proofs.Ytfmobogdnlmdbaa.P
end
section
namespace Go.Proofs.Ytfmobogdnlmdbaa.P
open Go.RowKit Go.Proofs.YtfmobogdnlmdbaaW.PrintWords Go.Proofs.YtfmobogdnlmdbaaW.PrintLast Go.Proofs.YtfmobogdnlmdbaaW.PrintMore Go.Proofs.YtfmobogdnlmdbaaW
attribute [local go_sem] max2_int min2_int max_two min_two max_three min_three max_four min_four
set_option linter.unusedVariables false
set_option linter.unusedSimpArgs false
set_option maxHeartbeats 8000000 in
set_option maxRecDepth 100000 in
theorem isochroneref01_Mul.calls (k : Nat) (A0 : Option Addr) (c0 : Nat) (l0 : List Int) (A1 : Option Addr) (c1 : Nat) (l1 : List Int) (r : List Int) (w : World) (hr0 : Kd.C (Kd.int .i64) w A0 l0.length l0) (hc0 : l0.length ≤ c0) (hr1 : Kd.C (Kd.int .i64) w A1 l1.length l1) (hc1 : l1.length ≤ c1) (h : isochroneref01_Mul.f k l0 l1 = some r) :
  Calls Try.prog 19 #[.slice A0 l0.length c0, .slice A1 l1.length c1] w fun e w' => ∃ v0_ : Value, e = .returned (v0_) ∧ Kd.R (Kd.int .i64) 3 w' w.heap.size (fun _ => True) v0_ r ∧ Below w.heap.size w w' := by
 have HR0 := Aside0.mk hr0
 have HC0 := Aside0.mk hc0
 clear hr0 hc0
 have HR1 := Aside0.mk hr1
 have HC1 := Aside0.mk hc1
 clear hr1 hc1
 have HB := Aside0.mk (Below.refl w.heap.size w)
 have H : (if 0 ≤ (wrap64 ((wrap64 ((l0.length : Int) + (l1.length : Int))) + 1)) then (if (wrap64 ((wrap64 ((l0.length : Int) + (l1.length : Int))) + 1) : Int).toNat ≤ 35184372088832 then (isochroneref01_Mul.l0 k l1 (List.replicate (wrap64 ((wrap64 ((l0.length : Int) + (l1.length : Int))) + 1) : Int).toNat 0) l0 (l0.length : Int) 0) else (none)) else (none)) = some r := h
 clear h
 obtain ⟨ji3, hji3⟩ : ∃ j_ : Int, (wrap64 ((wrap64 ((l0.length : Int) + (l1.length : Int))) + 1)) = j_ := ⟨_, rfl⟩
 replace H : (if 0 ≤ (ji3) then (if (ji3 : Int).toNat ≤ 35184372088832 then (isochroneref01_Mul.l0 k l1 (List.replicate (ji3 : Int).toNat 0) l0 (l0.length : Int) 0) else (none)) else (none)) = some r := by first | (rw [hji3] at H; exact H) | (simp only [hji3] at H ⊢; exact H)
 have hji3w : (IntKind.i64.wrap ((wrap64 ((l0.length : Int) + (l1.length : Int))) + 1)) = ji3 := (i64_w _).trans hji3
 by_cases c4 : 0 ≤ (ji3)
 ·rw [if_pos c4] at H
  have c4b0 := eq_true c4
  have c4b1 : decide (0 ≤ (ji3)) = true := decide_eq_true c4
  clear c4
  by_cases c5 : (ji3 : Int).toNat ≤ 35184372088832
  ·rw [if_pos c5] at H
   have c5b0 := eq_true c5
   have c5b1 : decide ((ji3 : Int).toNat ≤ 35184372088832) = true := decide_eq_true c5
   clear c5
   obtain ⟨y407, hy407⟩ : ∃ y_ : List Int, y_ = (List.replicate (ji3 : Int).toNat 0) := ⟨_, rfl⟩
   replace H : (isochroneref01_Mul.l0 k l1 y407 l0 (l0.length : Int) 0) = some r := by first | (rw [hy407]; with_reducible exact H) | (have H2_ := (Option.bind_some _ _).symm.trans H; rw [hy407]; with_reducible exact H2_) | (have H2_ := (Option.bind_some _ _).symm.trans H; with_reducible exact H2_) | with_reducible exact H | (rw [hy407]; exact H) | exact H
   have Ny407 := Aside0.mk hy407
   clear hy407
   have H' := Aside0.mk H
   clear H
   go_enter Try.func19, Try.ntmps19
   go_wp2_with (first | ((with_reducible refine gate_dst (N := 18) rfl ?_); refine Kd.R_make (Kd.int .i64) _ 3 rfl (N := 18) rfl 30 _ _ rfl ji3 rfl rfl Try.underlying30 (.int .i64 0) 8 info3 rfl (by decide) (by omega) 0 (ok := fun _ => True) (okp := fun _ => True) rfl (fun _ hk => hk) trivial (of_decide_eq_true aS) (Nat.le_trans (Nat.mul_le_mul_right _ (of_decide_eq_true aS : ji3.toNat ≤ 35184372088832)) (by omega)) (Below.refl _ _) (Nat.le_refl _) ?_; intro v408 w6 ho7 hb hg_ hnew_; clear hg_ hnew_; (first | rw [← Ny407.out] at ho7 | (simp only [Int.reduceToNat] at ho7; rw [← Ny407.out] at ho7)); have n0_ := Aside0.mk (Kd.R_lower ho7 (below_size (bB))); have n1_ := Aside0.mk (below_step (bB) hb); clear HB; have HO409 := n0_; have HB := n1_; clear n0_ n1_; clear hb ho7))
   go_loopg [21] k (fun kq v21 w' => ∃ (x5_1 : List Int) (x21_1 : Int), v21 = .int .i64 x21_1 ∧ Aside0 (isochroneref01_Mul.l0 kq l1 x5_1 l0 (l0.length : Int) x21_1 = some r) ∧ Aside0 (kq ≤ k) ∧ Aside0 (Kd.R (Kd.int .i64) 3 w' w.heap.size (fun _ => True) v408 x5_1) ∧ Aside0 (Below w.heap.size w w'))
   case atStart => exact ⟨(y407), (0), (by first | rfl | (simp; done) | (simp [*]; done)), H', ⟨Nat.le_refl _⟩, ⟨by (with_reducible repeat (first | apply Kd.R_alloc | apply Kd.R_drewN | apply Kd.R_drew)); exact HO409.out⟩, ⟨by repeat (first | (with_reducible first | exact HB.out | apply below_alloc | apply pw_below_drewN | apply below_drew1) | exact HB.out)⟩⟩
   case round =>
    clear H'
    try clear c1
    try clear p2
    try clear c4
    try clear c4b0
    try clear c4b1
    try clear c5
    try clear c5b0
    try clear c5b1
    try clear p6
    obtain ⟨x5_1, x21_1, rfl, HA, HK1, HO_5, HB⟩ := hrel
    cases gk with
    | zero => exact absurd HA.out (by simp [isochroneref01_Mul.l0])
    | succ k1 =>
     have H := HA.out
     clear HA
     simp only [isochroneref01_Mul.l0] at H
     by_cases c8 : x21_1 < (l0.length : Int)
     ·rw [if_pos c8] at H
      have c8b0 : decide (x21_1 < (l0.length : Int)) = true := decide_eq_true c8
      clear c8
      by_cases c9 : 0 ≤ x21_1
      ·rw [if_pos c9] at H
       have c9b0 : decide (0 ≤ x21_1) = true := decide_eq_true c9
       clear c9
       by_cases c10 : x21_1 < (l0.length : Int)
       ·rw [if_pos c10] at H
        have c10b0 : decide (x21_1 < (l0.length : Int)) = true := decide_eq_true c10
        clear c10
        have H' := Aside0.mk H
        clear H
        have p413 : 0 ≤ (x21_1 : Int) := of_decide_eq_true aS
        have q413 : x21_1 < (l0.length : Int) := of_decide_eq_true aS
        obtain ⟨ad413, e413, hx413_0⟩ := Kd.at_int HR0.out x21_1 p413 q413
        cases e413
        replace hx413_0 := (HB.out.cell (World.block_lt_of_cell? w _ hx413_0)).trans hx413_0
        replace p413 := eq_true p413
        replace q413 := eq_true q413
        go_wp2
        go_loopg [8, 28] k1 (fun kq v8 v28 w' => ∃ (x5_2 : List Int) (x8_2 : Int) (x28_2 : Int), v8 = .int .i64 x8_2 ∧ v28 = .int .i64 x28_2 ∧ Aside0 (isochroneref01_Mul.l1 kq l1 x5_2 x21_1 (rd l0 x21_1) x8_2 l0 (l0.length : Int) x21_1 l1 (l1.length : Int) x28_2 = some r) ∧ Aside0 (kq ≤ k1) ∧ Aside0 (Kd.R (Kd.int .i64) 3 w' w.heap.size (fun _ => True) v408 x5_2) ∧ Aside0 (Below w.heap.size w w'))
        case atStart => exact ⟨(x5_1), (0), (0), (by first | rfl | (simp; done) | (simp [*]; done)), (by first | rfl | (simp; done) | (simp [*]; done)), H', ⟨Nat.le_refl _⟩, ⟨by (with_reducible repeat (first | apply Kd.R_alloc | apply Kd.R_drewN | apply Kd.R_drew)); exact HO_5.out⟩, ⟨by repeat (first | (with_reducible first | exact HB.out | apply below_alloc | apply pw_below_drewN | apply below_drew1) | exact HB.out)⟩⟩
        case round =>
         clear H'
         try clear c1
         try clear p2
         try clear c4
         try clear c4b0
         try clear c4b1
         try clear p4
         try clear q4
         try clear hx4
         try clear c5
         try clear c5b0
         try clear c5b1
         try clear p6
         try clear c8
         try clear c8b0
         try clear c9
         try clear c9b0
         try clear c10
         try clear c10b0
         try clear hx413_0
         try clear p2
         try clear p413
         try clear p6
         try clear q413
         obtain ⟨x5_2, x8_2, x28_2, rfl, rfl, HA, HK2, HO_5, HB⟩ := hrel
         cases gk with
         | zero => exact absurd HA.out (by simp [isochroneref01_Mul.l1])
         | succ k2 =>
          have H := HA.out
          clear HA
          simp only [isochroneref01_Mul.l1] at H
          by_cases c11 : x28_2 < (l1.length : Int)
          ·rw [if_pos c11] at H
           have c11b0 : decide (x28_2 < (l1.length : Int)) = true := decide_eq_true c11
           clear c11
           by_cases c12 : 0 ≤ x28_2
           ·rw [if_pos c12] at H
            have c12b0 : decide (0 ≤ x28_2) = true := decide_eq_true c12
            clear c12
            by_cases c13 : x28_2 < (l1.length : Int)
            ·rw [if_pos c13] at H
             have c13b0 : decide (x28_2 < (l1.length : Int)) = true := decide_eq_true c13
             clear c13
             obtain ⟨ji14, hji14⟩ : ∃ j_ : Int, (wrap64 (x21_1 + x28_2)) = j_ := ⟨_, rfl⟩
             replace H : (if 0 ≤ (ji14) then (if (ji14) < (x5_2.length : Int) then (isochroneref01_Mul.l1 k2 l1 (x5_2.set ((ji14) : Int).toNat (Int.tmod (wrap64 (x8_2 + (wrap64 ((rd x5_2 (ji14)) + (wrap64 ((rd l0 x21_1) * (rd l1 x28_2))))))) 10000)) x21_1 (rd l0 x21_1) (wrap64 (Int.tdiv (wrap64 (x8_2 + (wrap64 ((rd x5_2 (ji14)) + (wrap64 ((rd l0 x21_1) * (rd l1 x28_2))))))) 10000)) l0 (l0.length : Int) x21_1 l1 (l1.length : Int) (wrap64 (x28_2 + 1))) else (none)) else (none)) = some r := by first | (rw [hji14] at H; exact H) | (simp only [hji14] at H ⊢; exact H)
             have hji14w : (IntKind.i64.wrap (x21_1 + x28_2)) = ji14 := (i64_w _).trans hji14
             by_cases c15 : 0 ≤ (ji14)
             ·rw [if_pos c15] at H
              have c15b0 : decide (0 ≤ (ji14)) = true := decide_eq_true c15
              clear c15
              by_cases c16 : (ji14) < (x5_2.length : Int)
              ·rw [if_pos c16] at H
               have c16b0 : decide ((ji14) < (x5_2.length : Int)) = true := decide_eq_true c16
               clear c16
               obtain ⟨y416, hy416⟩ : ∃ y_ : List Int, y_ = (x5_2.set ((ji14) : Int).toNat (Int.tmod (wrap64 (x8_2 + (wrap64 ((rd x5_2 (ji14)) + (wrap64 ((rd l0 x21_1) * (rd l1 x28_2))))))) 10000)) := ⟨_, rfl⟩
               replace H : (isochroneref01_Mul.l1 k2 l1 y416 x21_1 (rd l0 x21_1) (wrap64 (Int.tdiv (wrap64 (x8_2 + (wrap64 ((rd x5_2 (ji14)) + (wrap64 ((rd l0 x21_1) * (rd l1 x28_2))))))) 10000)) l0 (l0.length : Int) x21_1 l1 (l1.length : Int) (wrap64 (x28_2 + 1))) = some r := by first | (rw [hy416]; with_reducible exact H) | (have H2_ := (Option.bind_some _ _).symm.trans H; rw [hy416]; with_reducible exact H2_) | (have H2_ := (Option.bind_some _ _).symm.trans H; with_reducible exact H2_) | with_reducible exact H | (rw [hy416]; exact H) | exact H
               have Ny416 := Aside0.mk hy416
               clear hy416
               have H' := Aside0.mk H
               clear H
               have p414 : 0 ≤ (x28_2 : Int) := of_decide_eq_true aS
               have q414 : x28_2 < (l1.length : Int) := of_decide_eq_true aS
               obtain ⟨ad414, e414, hx414_0⟩ := Kd.at_int HR1.out x28_2 p414 q414
               cases e414
               replace hx414_0 := (HB.out.cell (World.block_lt_of_cell? w _ hx414_0)).trans hx414_0
               replace p414 := eq_true p414
               replace q414 := eq_true q414
               obtain ⟨Ao18, co18, eo18⟩ := Kd.R_slice HO_5.out
               subst eo18
               have p415 : 0 ≤ ((ji14) : Int) := of_decide_eq_true aS
               have q415 : (ji14) < (x5_2.length : Int) := of_decide_eq_true aS
               obtain ⟨ad415, e415, hx415_0⟩ := Kd.at_int (Kd.R_reads' HO_5.out).2.2 (ji14) p415 q415
               cases e415
               replace p415 := eq_true p415
               replace q415 := eq_true q415
               have p17 : 0 ≤ ((ji14) : Int) := of_decide_eq_true aS
               have q17 : ((ji14) : Int) < ((x5_2.length : Int) : Int) := of_decide_eq_true aS
               obtain ⟨go17, co17, eo17, gb17, gl17, cl17, HG17⟩ := Kd.R_form HO_5.out (by omega)
               (first | cases eo17 | (injection eo17 with ea_ en_ ec_; (first | subst ea_ | (injection ea_ with ea_; subst ea_)); subst ec_; clear en_))
               have GB17 := Aside0.mk gb17
               have GG17 := Aside0.mk HG17
               clear gb17 gl17 HG17
               (first | simp only [add_plain] at hx415_0 | skip)
               obtain ⟨hx17_0, hf17_0⟩ := Kd.R_celln 0 HO_5.out ((ji14) : Int) p17 q17
               replace p17 := eq_true p17
               replace q17 := eq_true q17
               have HP19 := Kd.R_putg HO_5.out ((ji14) : Int) (Int.tmod (wrap64 (x8_2 + (wrap64 ((rd x5_2 (ji14)) + (wrap64 ((rd l0 x21_1) * (rd l1 x28_2))))))) 10000)
               go_wp2_with (first | ((with_reducible refine gate_store (t := 3) (p := 51) rfl ?_); refine store_event (t := 3) (p := 51) (v := ?vo_w20) (w1 := (wr.setCell ⟨go17, ((ji14) : Int).toNat, none⟩ (.int .i64 (Int.tmod (wrap64 (x8_2 + (wrap64 ((rd x5_2 (ji14)) + (wrap64 ((rd l0 x21_1) * (rd l1 x28_2))))))) 10000)))) ?hg ?ho ?hn ?hr ?_; (case ho => rfl); (case hg => rfl); (case hn => rfl); (case hr => first | (go_simp; done) | (go_simp; rfl)); intro w20 hw; have hg : wr.grownBy w20 (some go17) := (by rw [hw]; exact HP19.2); have hp_ : Kd.R (Kd.int .i64) 3 w20 w.heap.size (fun _ => True) (.slice (some ⟨go17, 0, none⟩) x5_2.length co18) y416 := (by rw [hw, Ny416.out]; exact HP19.1); clear HP19; have n0_ := Aside0.mk (hp_); have n1_ := Aside0.mk ((by rw [hw]; exact below_set (HB.out) GB17.out : Below w.heap.size w w20)); clear HO_5; clear HB; have HO_5 := n0_; have HB := n1_; clear n0_ n1_; clear hg hw hp_))
               (try simp only [← hji14])
               go_roundg k2
               case measure => have := HK1.out; have := HK2.out; omega
               case rel => exact ⟨(y416), (wrap64 (Int.tdiv (wrap64 (x8_2 + (wrap64 ((rd x5_2 (ji14)) + (wrap64 ((rd l0 x21_1) * (rd l1 x28_2))))))) 10000)), (wrap64 (x28_2 + 1)), (by first | rfl | (simp; done) | (simp only [← hji14] <;> (first | rfl | simp)) | (simp [*]; done)), (by first | rfl | (simp; done) | (simp [*]; done)), (by first | with_reducible exact H' | (simp only [hji14]; exact H') | exact H'), ⟨by have := HK1.out; have := HK2.out; omega⟩, ⟨by (with_reducible repeat (first | apply Kd.R_alloc | apply Kd.R_drewN | apply Kd.R_drew)); exact HO_5.out⟩, ⟨by repeat (first | (with_reducible first | exact HB.out | apply below_alloc | apply pw_below_drewN | apply below_drew1) | exact HB.out)⟩⟩
              ·rw [if_neg c16] at H
               exact absurd H (by simp)
             ·rw [if_neg c15] at H
              exact absurd H (by simp)
            ·rw [if_neg c13] at H
             exact absurd H (by simp)
           ·rw [if_neg c12] at H
            exact absurd H (by simp)
          ·rw [if_neg c11] at H
           have c11b0 : decide (x28_2 < (l1.length : Int)) = false := decide_eq_false c11
           clear c11
           have H' := Aside0.mk H
           clear H
           go_wp2
           go_loopg [8, 11] k2 (fun kq v8 v11 w' => ∃ (x5_3 : List Int) (x8_3 : Int) (x11_3 : Int), v8 = .int .i64 x8_3 ∧ v11 = .int .i64 x11_3 ∧ Aside0 (isochroneref01_Mul.l2 kq l1 x5_3 x8_3 x11_3 l0 (l0.length : Int) x21_1 = some r) ∧ Aside0 (kq ≤ k2) ∧ Aside0 (Kd.R (Kd.int .i64) 3 w' w.heap.size (fun _ => True) v408 x5_3) ∧ Aside0 (Below w.heap.size w w'))
           case atStart => exact ⟨(x5_2), (x8_2), (wrap64 (x21_1 + (l1.length : Int))), (by first | rfl | (simp; done) | (simp [*]; done)), (by first | rfl | (simp; done) | (simp [*]; done)), H', ⟨Nat.le_refl _⟩, ⟨by (with_reducible repeat (first | apply Kd.R_alloc | apply Kd.R_drewN | apply Kd.R_drew)); exact HO_5.out⟩, ⟨by repeat (first | (with_reducible first | exact HB.out | apply below_alloc | apply pw_below_drewN | apply below_drew1) | exact HB.out)⟩⟩
           case round =>
            clear H'
            try clear c1
            try clear p1
            try clear q1
            try clear hx1
            try clear p2
            try clear c4
            try clear c4b0
            try clear c4b1
            try clear p4
            try clear q4
            try clear hx4
            try clear c5
            try clear c5b0
            try clear c5b1
            try clear p6
            try clear c8
            try clear c8b0
            try clear c9
            try clear c9b0
            try clear c10
            try clear c10b0
            try clear c11
            try clear c11b0
            try clear c12
            try clear c12b0
            try clear c13
            try clear c13b0
            try clear c15
            try clear c15b0
            try clear c16
            try clear c16b0
            try clear p17
            try clear q17
            try clear hx17
            try clear hf17
            try clear c19
            try clear hx17_0
            try clear hx413_0
            try clear hx414_0
            try clear hx415_0
            try clear p17
            try clear p2
            try clear p4
            try clear p413
            try clear p414
            try clear p415
            try clear p6
            try clear q17
            try clear q4
            try clear q413
            try clear q414
            try clear q415
            obtain ⟨x5_3, x8_3, x11_3, rfl, rfl, HA, HK3, HO_5, HB⟩ := hrel
            cases gk with
            | zero => exact absurd HA.out (by simp [isochroneref01_Mul.l2])
            | succ k3 =>
             have H := HA.out
             clear HA
             simp only [isochroneref01_Mul.l2] at H
             by_cases c21 : x8_3 > 0
             ·rw [if_pos c21] at H
              have c21b0 : decide (0 < x8_3) = true := decide_eq_true c21
              clear c21
              by_cases c22 : 0 ≤ x11_3
              ·rw [if_pos c22] at H
               have c22b0 : decide (0 ≤ x11_3) = true := decide_eq_true c22
               clear c22
               by_cases c23 : x11_3 < (x5_3.length : Int)
               ·rw [if_pos c23] at H
                have c23b0 : decide (x11_3 < (x5_3.length : Int)) = true := decide_eq_true c23
                clear c23
                obtain ⟨y418, hy418⟩ : ∃ y_ : List Int, y_ = (x5_3.set (x11_3 : Int).toNat (Int.tmod (wrap64 (x8_3 + (rd x5_3 x11_3))) 10000)) := ⟨_, rfl⟩
                replace H : (isochroneref01_Mul.l2 k3 l1 y418 (wrap64 (Int.tdiv (wrap64 (x8_3 + (rd x5_3 x11_3))) 10000)) (wrap64 (x11_3 + 1)) l0 (l0.length : Int) x21_1) = some r := by first | (rw [hy418]; with_reducible exact H) | (have H2_ := (Option.bind_some _ _).symm.trans H; rw [hy418]; with_reducible exact H2_) | (have H2_ := (Option.bind_some _ _).symm.trans H; with_reducible exact H2_) | with_reducible exact H | (rw [hy418]; exact H) | exact H
                have Ny418 := Aside0.mk hy418
                clear hy418
                have H' := Aside0.mk H
                clear H
                obtain ⟨Ao25, co25, eo25⟩ := Kd.R_slice HO_5.out
                subst eo25
                have p417 : 0 ≤ (x11_3 : Int) := of_decide_eq_true aS
                have q417 : x11_3 < (x5_3.length : Int) := of_decide_eq_true aS
                obtain ⟨ad417, e417, hx417_0⟩ := Kd.at_int (Kd.R_reads' HO_5.out).2.2 x11_3 p417 q417
                cases e417
                replace p417 := eq_true p417
                replace q417 := eq_true q417
                have p24 : 0 ≤ (x11_3 : Int) := of_decide_eq_true aS
                have q24 : (x11_3 : Int) < ((x5_3.length : Int) : Int) := of_decide_eq_true aS
                obtain ⟨go24, co24, eo24, gb24, gl24, cl24, HG24⟩ := Kd.R_form HO_5.out (by omega)
                (first | cases eo24 | (injection eo24 with ea_ en_ ec_; (first | subst ea_ | (injection ea_ with ea_; subst ea_)); subst ec_; clear en_))
                have GB24 := Aside0.mk gb24
                have GG24 := Aside0.mk HG24
                clear gb24 gl24 HG24
                (first | simp only [add_plain] at hx417_0 | skip)
                obtain ⟨hx24_0, hf24_0⟩ := Kd.R_celln 0 HO_5.out (x11_3 : Int) p24 q24
                replace p24 := eq_true p24
                replace q24 := eq_true q24
                have HP26 := Kd.R_putg HO_5.out (x11_3 : Int) (Int.tmod (wrap64 (x8_3 + (rd x5_3 x11_3))) 10000)
                go_wp2_with (first | ((with_reducible refine gate_store (t := 3) (p := 73) rfl ?_); refine store_event (t := 3) (p := 73) (v := ?vo_w27) (w1 := (wr.setCell ⟨go24, (x11_3 : Int).toNat, none⟩ (.int .i64 (Int.tmod (wrap64 (x8_3 + (rd x5_3 x11_3))) 10000)))) ?hg ?ho ?hn ?hr ?_; (case ho => rfl); (case hg => rfl); (case hn => rfl); (case hr => first | (go_simp; done) | (go_simp; rfl)); intro w27 hw; have hg : wr.grownBy w27 (some go24) := (by rw [hw]; exact HP26.2); have hp_ : Kd.R (Kd.int .i64) 3 w27 w.heap.size (fun _ => True) (.slice (some ⟨go24, 0, none⟩) x5_3.length co25) y418 := (by rw [hw, Ny418.out]; exact HP26.1); clear HP26; have n0_ := Aside0.mk (hp_); have n1_ := Aside0.mk ((by rw [hw]; exact below_set (HB.out) GB24.out : Below w.heap.size w w27)); clear HO_5; clear HB; have HO_5 := n0_; have HB := n1_; clear n0_ n1_; clear hg hw hp_))
                go_roundg k3
                case measure => have := HK1.out; have := HK2.out; have := HK3.out; omega
                case rel => exact ⟨(y418), (wrap64 (Int.tdiv (wrap64 (x8_3 + (rd x5_3 x11_3))) 10000)), (wrap64 (x11_3 + 1)), (by first | rfl | (simp; done) | (simp [*]; done)), (by first | rfl | (simp; done) | (simp [*]; done)), H', ⟨by have := HK1.out; have := HK2.out; have := HK3.out; omega⟩, ⟨by (with_reducible repeat (first | apply Kd.R_alloc | apply Kd.R_drewN | apply Kd.R_drew)); exact HO_5.out⟩, ⟨by repeat (first | (with_reducible first | exact HB.out | apply below_alloc | apply pw_below_drewN | apply below_drew1) | exact HB.out)⟩⟩
               ·rw [if_neg c23] at H
                exact absurd H (by simp)
              ·rw [if_neg c22] at H
               exact absurd H (by simp)
             ·rw [if_neg c21] at H
              have c21b0 : decide (0 < x8_3) = false := decide_eq_false c21
              clear c21
              have H' := Aside0.mk H
              clear H
              go_wp2
              go_roundg k3
              case measure => have := HK1.out; have := HK2.out; have := HK3.out; omega
              case rel => exact ⟨(x5_3), (wrap64 (x21_1 + 1)), (by first | rfl | (simp; done) | (simp [*]; done)), H', ⟨by have := HK1.out; have := HK2.out; have := HK3.out; omega⟩, ⟨by (with_reducible repeat (first | apply Kd.R_alloc | apply Kd.R_drewN | apply Kd.R_drew)); exact HO_5.out⟩, ⟨by repeat (first | (with_reducible first | exact HB.out | apply below_alloc | apply pw_below_drewN | apply below_drew1) | exact HB.out)⟩⟩
       ·rw [if_neg c10] at H
        exact absurd H (by simp)
      ·rw [if_neg c9] at H
       exact absurd H (by simp)
     ·rw [if_neg c8] at H
      have c8b0 : decide (x21_1 < (l0.length : Int)) = false := decide_eq_false c8
      clear c8
      replace H := Option.bind_eq_some_iff.mp H
      obtain ⟨t410, A280, H⟩ := H
      replace H : (some t410) = some r := H
      have A28 := Aside0.mk A280
      clear A280
      obtain rfl := Option.some.inj H
      obtain ⟨Ao29, co29, eo29⟩ := Kd.R_slice HO_5.out
      subst eo29
      go_wp2_with (first | ((with_reducible refine gate_callee (f := 53) rfl ?_); refine goesL_ (some 78) rfl rfl Try.func53 (by kernel_rfl) rfl #[.slice Ao29 x5_1.length co29] rfl (by (try simp only [List.map_toArray, List.map_cons, List.map_nil]); first | done | rfl | (simp only [List.length_drop, List.length_take]; rfl)) ?_; (with_reducible refine (isochroneref01_trim.calls k1 (fun k_ => some k_ = (.slice Ao29 x5_1.length co29 : Value).ownBlock) (.slice Ao29 x5_1.length co29) x5_1 t410 w _ ?side1 ?side2 A28.out).mono ?_); (case side1 => repeat (first | (with_reducible first | exact HB.out | apply below_alloc | apply pw_below_drewN | apply below_drew1) | exact HB.out)); (case side2 => exact Kd.R_tight rfl HO_5.out); rintro e w30 ⟨v411, rfl, ho0, hb, hkp⟩; refine ⟨_, rfl, ?_⟩; have n0_ := Aside0.mk (Kd.R_mono (ok' := fun k_ => True) ho0 (fun k_ hk_ => trivial)); have n1_ := Aside0.mk (hb); clear HB; clear HO_5; have HO412 := n0_; have HB := n1_; clear n0_ n1_; (try clear hb); (try clear hkp); (try clear ho0)))
      go_ret
      exact ⟨_, by first | rfl | (simp [errW_none, errW_some] <;> rfl) | (simp only [← hji3]; first | rfl | (simp [errW_none, errW_some] <;> rfl)) | (simp [*, errW_none, errW_some] <;> rfl), by (with_reducible repeat (first | apply Kd.R_alloc | apply Kd.R_drewN | apply Kd.R_drew)); exact HO412.out, by repeat (first | (with_reducible first | exact HB.out | apply below_alloc | apply pw_below_drewN | apply below_drew1) | exact HB.out)⟩
  ·rw [if_neg c5] at H
   exact absurd H (by simp)
 ·rw [if_neg c4] at H
  exact absurd H (by simp)
end Go.Proofs.Ytfmobogdnlmdbaa.P
end
section
namespace Go.Proofs.Ytfmobogdnlmdbaa.P
open Go.RowKit Go.Proofs.YtfmobogdnlmdbaaW.PrintWords Go.Proofs.YtfmobogdnlmdbaaW.PrintLast Go.Proofs.YtfmobogdnlmdbaaW.PrintMore Go.Proofs.YtfmobogdnlmdbaaW
attribute [local go_sem] max2_int min2_int max_two min_two max_three min_three max_four min_four
set_option linter.unusedVariables false
set_option linter.unusedSimpArgs false
set_option maxHeartbeats 8000000 in
set_option maxRecDepth 100000 in
theorem isochroneref01_Pow.calls (k : Nat) (A0 : Option Addr) (c0 : Nat) (l0 : List Int) (a1 : Int) (r : List Int) (w : World) (hr0 : Kd.C (Kd.int .i64) w A0 l0.length l0) (hc0 : l0.length ≤ c0) (h : isochroneref01_Pow.f k l0 a1 = some r) :
  Calls Try.prog 38 #[.slice A0 l0.length c0, .int .i64 a1] w fun e w' => ∃ v0_ : Value, e = .returned (v0_) ∧ Kd.R (Kd.int .i64) 3 w' w.heap.size (fun _ => True) v0_ r ∧ Below w.heap.size w w' := by
 have HR0 := Aside0.mk hr0
 have HC0 := Aside0.mk hc0
 clear hr0 hc0
 have HB := Aside0.mk (Below.refl w.heap.size w)
 have H : (isochroneref01_Pow.l0 k l0 (([1] : List Int)) a1 0) = some r := h
 clear h
 obtain ⟨y796, hy796⟩ : ∃ y_ : List Int, y_ = (([1] : List Int)) := ⟨_, rfl⟩
 replace H : (isochroneref01_Pow.l0 k l0 y796 a1 0) = some r := by first | (rw [hy796]; with_reducible exact H) | (have H2_ := (Option.bind_some _ _).symm.trans H; rw [hy796]; with_reducible exact H2_) | (have H2_ := (Option.bind_some _ _).symm.trans H; with_reducible exact H2_) | with_reducible exact H | (rw [hy796]; exact H) | exact H
 have Ny796 := Aside0.mk hy796
 clear hy796
 have H' := Aside0.mk H
 clear H
 go_enter Try.func38, Try.ntmps38
 go_wp2_with (first | ((with_reducible refine gate_dst (N := 6) rfl ?_); refine Kd.R_lit (Kd.int .i64) _ 3 ?hg (N := 6) ?hd (xs := ([1] : List Int)) (inner := [.int .i64 1]) (ok := fun _ => True) (okp := fun _ => True) ?hr ?hp (fun _ hk => hk) trivial (Below.refl _ _) (Nat.le_refl _) (by simp) ?_; (case hd => rfl); (case hg => rfl); (case hr => first | (go_simp; done) | (go_simp; rfl)); (case hp => exact (Reps.one (show Kd.M (Kd.int .i64) _ _ _ 1 [.int .i64 1] from rfl) (Reps.none _ _))); intro v797 w3 ho4 hb hg_ hnew_; clear hg_ hnew_; (first | rw [← Ny796.out] at ho4 | (simp only [Int.reduceToNat] at ho4; rw [← Ny796.out] at ho4)); have n0_ := Aside0.mk (Kd.R_lower ho4 (below_size (bB))); have n1_ := Aside0.mk (below_step (bB) hb); clear HB; have HO798 := n0_; have HB := n1_; clear n0_ n1_; clear hb ho4))
 go_loopg [5, 8] k (fun kq v5 v8 w' => ∃ (x5_1 : List Int) (x8_1 : Int), v8 = .int .i64 x8_1 ∧ Aside0 (isochroneref01_Pow.l0 kq l0 x5_1 a1 x8_1 = some r) ∧ Aside0 (kq ≤ k) ∧ Aside0 (Kd.R (Kd.int .i64) 3 w' w.heap.size (fun _ => True) v5 x5_1) ∧ Aside0 (Below w.heap.size w w'))
 case atStart => exact ⟨(y796), (0), (by first | rfl | (simp; done) | (simp [*]; done)), H', ⟨Nat.le_refl _⟩, ⟨by (with_reducible repeat (first | apply Kd.R_alloc | apply Kd.R_drewN | apply Kd.R_drew)); exact HO798.out⟩, ⟨by repeat (first | (with_reducible first | exact HB.out | apply below_alloc | apply pw_below_drewN | apply below_drew1) | exact HB.out)⟩⟩
 case round =>
  clear H'
  try clear p2
  try clear c3
  obtain ⟨x5_1, x8_1, rfl, HA, HK1, HO_5, HB⟩ := hrel
  cases gk with
  | zero => exact absurd HA.out (by simp [isochroneref01_Pow.l0])
  | succ k1 =>
   have H := HA.out
   clear HA
   simp only [isochroneref01_Pow.l0] at H
   by_cases c5 : x8_1 < a1
   ·rw [if_pos c5] at H
    have c5b0 : decide (x8_1 < a1) = true := decide_eq_true c5
    clear c5
    replace H := Option.bind_eq_some_iff.mp H
    obtain ⟨t799, A60, H⟩ := H
    replace H : (isochroneref01_Pow.l0 k1 l0 t799 a1 (wrap64 (x8_1 + 1))) = some r := H
    have A6 := Aside0.mk A60
    clear A60
    have H' := Aside0.mk H
    clear H
    obtain ⟨Ao7, co7, eo7⟩ := Kd.R_slice HO_5.out
    subst eo7
    go_wp2_with (first | ((with_reducible refine gate_callee (f := 19) rfl ?_); refine goesL_ (some 12) rfl rfl Try.func19 (by kernel_rfl) rfl #[.slice Ao7 x5_1.length co7, .slice A0 l0.length c0] rfl (by (try simp only [List.map_toArray, List.map_cons, List.map_nil]); first | done | rfl | (simp only [List.length_drop, List.length_take]; rfl)) ?_; (with_reducible refine (isochroneref01_Mul.calls k1 _ _ x5_1 _ _ l0 t799 _ ?side1 ?side2 ?side3 ?side4 A6.out).mono ?_); (case side1 => repeat (first | exact (Kd.R_reads' HO_5.out).2.2 | (with_reducible refine Kd.C_alloc ?_ _) | (with_reducible refine Kd.C_drewN ?_ _) | (with_reducible refine Kd.C_drew ?_))); (case side2 => exact (Kd.R_reads' HO_5.out).2.1); (case side3 => repeat (first | exact (Kd.C_below HR0.out HB.out) | (with_reducible refine Kd.C_alloc ?_ _) | (with_reducible refine Kd.C_drewN ?_ _) | (with_reducible refine Kd.C_drew ?_))); (case side4 => exact HC0.out); rintro e w8 ⟨v800, rfl, ho0, hb⟩; refine ⟨_, rfl, ?_⟩; have n0_ := Aside0.mk (Kd.R_elder' (by (with_reducible repeat (first | apply Kd.R_alloc | apply Kd.R_drewN | apply Kd.R_drew)); exact HO_5.out) (Kd.R_base ho0) hb); have n1_ := Aside0.mk (Kd.R_lower (Kd.R_new' ho0 (Kd.R_lt (by (with_reducible repeat (first | apply Kd.R_alloc | apply Kd.R_drewN | apply Kd.R_drew)); exact HO_5.out))) (below_size (bB))); have n2_ := Aside0.mk (below_step (bB) hb); clear HO_5; clear HB; have HO_5 := n0_; have HO801 := n1_; have HB := n2_; clear n0_ n1_ n2_; (try clear hb); (try clear hb2); (try clear hk); (try clear hi); (try clear ho0)))
    go_roundg k1
    case measure => have := HK1.out; omega
    case rel => exact ⟨(t799), (wrap64 (x8_1 + 1)), (by first | rfl | (simp; done) | (simp [*]; done)), H', ⟨by have := HK1.out; omega⟩, ⟨by (with_reducible repeat (first | apply Kd.R_alloc | apply Kd.R_drewN | apply Kd.R_drew)); exact Kd.R_mono HO801.out (fun _ hk => trivial)⟩, ⟨by repeat (first | (with_reducible first | exact HB.out | apply below_alloc | apply pw_below_drewN | apply below_drew1) | exact HB.out)⟩⟩
   ·rw [if_neg c5] at H
    have c5b0 : decide (x8_1 < a1) = false := decide_eq_false c5
    clear c5
    obtain rfl := Option.some.inj H
    go_wp2
    go_ret
    exact ⟨_, by first | rfl | (simp [errW_none, errW_some] <;> rfl) | (simp [*, errW_none, errW_some] <;> rfl), by (with_reducible repeat (first | apply Kd.R_alloc | apply Kd.R_drewN | apply Kd.R_drew)); exact HO_5.out, by repeat (first | (with_reducible first | exact HB.out | apply below_alloc | apply pw_below_drewN | apply below_drew1) | exact HB.out)⟩
end Go.Proofs.Ytfmobogdnlmdbaa.P
end
section
namespace Go.Proofs.Ytfmobogdnlmdbaa.P
open Go.RowKit Go.Proofs.YtfmobogdnlmdbaaW.PrintWords Go.Proofs.YtfmobogdnlmdbaaW.PrintLast Go.Proofs.YtfmobogdnlmdbaaW.PrintMore Go.Proofs.YtfmobogdnlmdbaaW
attribute [local go_sem] max2_int min2_int max_two min_two max_three min_three max_four min_four
set_option linter.unusedVariables false
set_option linter.unusedSimpArgs false
set_option maxHeartbeats 8000000 in
set_option maxRecDepth 100000 in
theorem isochronelaw01_NatPowers.calls (k : Nat) (A0 : Option Addr) (c0 : Nat) (l0 : List Int) (a1 : Int) (r : Bool) (w : World) (hr0 : Kd.C (Kd.int .u32) w A0 l0.length l0) (hc0 : l0.length ≤ c0) (h : isochronelaw01_NatPowers.f k l0 a1 = some r) :
  Calls Try.prog 8 #[.slice A0 l0.length c0, .int .i64 a1] w fun e w' => e = .returned (.bool r) ∧ Below w.heap.size w w' := by
 have HR0 := Aside0.mk hr0
 have HC0 := Aside0.mk hc0
 clear hr0 hc0
 have HB := Aside0.mk (Below.refl w.heap.size w)
 have H : ((isochronelaw01_awake.f k).bind fun t802 => (if t802 = true then ((isochronelaw01_small.f l0 ([] : List Int) 4).bind fun t803 => (if t803 = true then ((nat_Pow.f k l0 a1).bind fun bt804 => (if a1 < 0 then (if bt804.2 = 1 then (some ((bt804.1.length : Int) == 0)) else (some false)) else (if (l0.length : Int) = 0 then (isochronelaw01_NatPowers.j0 k l0 a1 bt804.1 bt804.2 true) else (if (l0.length : Int) = 1 then (if 0 < (l0.length : Int) then (isochronelaw01_NatPowers.j0 k l0 a1 bt804.1 bt804.2 ((rd l0 0) == 1)) else (none)) else (isochronelaw01_NatPowers.j0 k l0 a1 bt804.1 bt804.2 false))))) else (some true))) else (some false))) = some r := h
 clear h
 replace H := Option.bind_eq_some_iff.mp H
 obtain ⟨t802, A30, H⟩ := H
 replace H : (if t802 = true then ((isochronelaw01_small.f l0 ([] : List Int) 4).bind fun t803 => (if t803 = true then ((nat_Pow.f k l0 a1).bind fun bt804 => (if a1 < 0 then (if bt804.2 = 1 then (some ((bt804.1.length : Int) == 0)) else (some false)) else (if (l0.length : Int) = 0 then (isochronelaw01_NatPowers.j0 k l0 a1 bt804.1 bt804.2 true) else (if (l0.length : Int) = 1 then (if 0 < (l0.length : Int) then (isochronelaw01_NatPowers.j0 k l0 a1 bt804.1 bt804.2 ((rd l0 0) == 1)) else (none)) else (isochronelaw01_NatPowers.j0 k l0 a1 bt804.1 bt804.2 false))))) else (some true))) else (some false)) = some r := H
 have A3 := Aside0.mk A30
 clear A30
 by_cases c4 : t802 = true
 ·subst c4
  have H1 : ((isochronelaw01_small.f l0 ([] : List Int) 4).bind fun t803 => (if t803 = true then ((nat_Pow.f k l0 a1).bind fun bt804 => (if a1 < 0 then (if bt804.2 = 1 then (some ((bt804.1.length : Int) == 0)) else (some false)) else (if (l0.length : Int) = 0 then (isochronelaw01_NatPowers.j0 k l0 a1 bt804.1 bt804.2 true) else (if (l0.length : Int) = 1 then (if 0 < (l0.length : Int) then (isochronelaw01_NatPowers.j0 k l0 a1 bt804.1 bt804.2 ((rd l0 0) == 1)) else (none)) else (isochronelaw01_NatPowers.j0 k l0 a1 bt804.1 bt804.2 false))))) else (some true))) = some r := by rw [if_pos rfl] at H; exact H
  clear H
  have H := H1
  clear H1
  replace H := Option.bind_eq_some_iff.mp H
  obtain ⟨t803, A50, H⟩ := H
  replace H : (if t803 = true then ((nat_Pow.f k l0 a1).bind fun bt804 => (if a1 < 0 then (if bt804.2 = 1 then (some ((bt804.1.length : Int) == 0)) else (some false)) else (if (l0.length : Int) = 0 then (isochronelaw01_NatPowers.j0 k l0 a1 bt804.1 bt804.2 true) else (if (l0.length : Int) = 1 then (if 0 < (l0.length : Int) then (isochronelaw01_NatPowers.j0 k l0 a1 bt804.1 bt804.2 ((rd l0 0) == 1)) else (none)) else (isochronelaw01_NatPowers.j0 k l0 a1 bt804.1 bt804.2 false))))) else (some true)) = some r := H
  have A5 := Aside0.mk A50
  clear A50
  by_cases c6 : t803 = true
  ·subst c6
   have H1 : ((nat_Pow.f k l0 a1).bind fun bt804 => (if a1 < 0 then (if bt804.2 = 1 then (some ((bt804.1.length : Int) == 0)) else (some false)) else (if (l0.length : Int) = 0 then (isochronelaw01_NatPowers.j0 k l0 a1 bt804.1 bt804.2 true) else (if (l0.length : Int) = 1 then (if 0 < (l0.length : Int) then (isochronelaw01_NatPowers.j0 k l0 a1 bt804.1 bt804.2 ((rd l0 0) == 1)) else (none)) else (isochronelaw01_NatPowers.j0 k l0 a1 bt804.1 bt804.2 false))))) = some r := by rw [if_pos rfl] at H; exact H
   clear H
   have H := H1
   clear H1
   replace H := Option.bind_eq_some_iff.mp H
   obtain ⟨⟨t804, t805⟩, A70, H⟩ := H
   replace H : (if a1 < 0 then (if t805 = 1 then (some ((t804.length : Int) == 0)) else (some false)) else (if (l0.length : Int) = 0 then (isochronelaw01_NatPowers.j0 k l0 a1 t804 t805 true) else (if (l0.length : Int) = 1 then (if 0 < (l0.length : Int) then (isochronelaw01_NatPowers.j0 k l0 a1 t804 t805 ((rd l0 0) == 1)) else (none)) else (isochronelaw01_NatPowers.j0 k l0 a1 t804 t805 false)))) = some r := H
   have A7 := Aside0.mk A70
   clear A70
   by_cases c8 : a1 < 0
   ·rw [if_pos c8] at H
    have c8b0 : decide (a1 < 0) = true := decide_eq_true c8
    clear c8
    by_cases c9 : t805 = 1
    ·rw [if_pos c9] at H
     have c9b0 : (t805 == 1) = true := beq_iff_eq.mpr c9
     have c9b1 : (t805 != 1) = false := bne_eq_false_iff_eq.mpr c9
     clear c9
     obtain rfl := Option.some.inj H
     go_enter Try.func8, Try.ntmps8
     go_wp2_with (first | ((with_reducible refine gate_callee (f := 11) rfl ?_); refine goesL_ (some 7) rfl rfl Try.func11 (by kernel_rfl) rfl #[] rfl (by (try simp only [List.map_toArray, List.map_cons, List.map_nil]); first | done | rfl | (simp only [List.length_drop, List.length_take]; rfl)) ?_; (with_reducible refine (isochronelaw01_awake.calls k  true _ A3.out).mono ?_); rintro e w10 ⟨rfl, hb⟩; refine ⟨_, rfl, ?_⟩; have n0_ := Aside0.mk (below_step (bB) hb); clear HB; have HB := n0_; clear n0_; (try clear hb); (try clear hb2); (try clear hk); (try clear hi)) | ((with_reducible refine gate_callee (f := 12) rfl ?_); refine goesL_ (some 10) rfl rfl Try.func12 (by kernel_rfl) rfl #[.slice A0 l0.length c0, .slice none 0 0, .int .i64 4] rfl (by (try simp only [List.map_toArray, List.map_cons, List.map_nil]); first | done | rfl | (simp only [List.length_drop, List.length_take]; rfl)) ?_; (refine (isochronelaw01_small.calls _ _ l0 _ _ ([] : List Int) 4 true _ ?side1 ?side2 ?side3 ?side4 A5.out).mono ?_); (case side1 => repeat (first | exact (Kd.C_below HR0.out HB.out) | (with_reducible refine Kd.C_alloc ?_ _) | (with_reducible refine Kd.C_drewN ?_ _) | (with_reducible refine Kd.C_drew ?_))); (case side2 => exact HC0.out); (case side3 => exact Kd.C_nil _ _); (case side4 => exact Nat.le_refl _); rintro e w' ⟨rfl, ⟨nd, rfl⟩⟩; refine ⟨_, rfl, ?_⟩) | ((with_reducible refine gate_callee (f := 37) rfl ?_); refine goesL_ (some 15) rfl rfl Try.func37 (by kernel_rfl) rfl #[.slice A0 l0.length c0, .int .i64 a1] rfl (by (try simp only [List.map_toArray, List.map_cons, List.map_nil]); first | done | rfl | (simp only [List.length_drop, List.length_take]; rfl)) ?_; (with_reducible refine (nat_Pow.calls k _ _ l0 a1 t804 t805 _ ?side1 ?side2 A7.out).mono ?_); (case side1 => repeat (first | exact (Kd.C_below HR0.out (bB)) | (with_reducible refine Kd.C_alloc ?_ _) | (with_reducible refine Kd.C_drewN ?_ _) | (with_reducible refine Kd.C_drew ?_))); (case side2 => exact HC0.out); rintro e w11 ⟨v806, rfl, ho0, hb⟩; refine ⟨_, rfl, ?_⟩; have n0_ := Aside0.mk (Kd.R_lower ho0 (below_size (bB))); have n1_ := Aside0.mk (below_step (bB) hb); clear HB; have HO807 := n0_; have HB := n1_; clear n0_ n1_; (try clear hb); (try clear hb2); (try clear hk); (try clear hi); (try clear ho0); obtain ⟨Ao12, co12, eo12⟩ := Kd.R_slice HO807.out; subst eo12))
     go_ret
     exact ⟨by first | rfl | (simp [errW_none, errW_some] <;> rfl) | (simp [*, errW_none, errW_some] <;> rfl), by repeat (first | (with_reducible first | exact HB.out | apply below_alloc | apply pw_below_drewN | apply below_drew1) | exact HB.out)⟩
    ·rw [if_neg c9] at H
     have c9b0 : (t805 == 1) = false := beq_eq_false_iff_ne.mpr c9
     have c9b1 : (t805 != 1) = true := bne_iff_ne.mpr c9
     obtain rfl := Option.some.inj H
     go_enter Try.func8, Try.ntmps8
     go_wp2_with (first | ((with_reducible refine gate_callee (f := 11) rfl ?_); refine goesL_ (some 7) rfl rfl Try.func11 (by kernel_rfl) rfl #[] rfl (by (try simp only [List.map_toArray, List.map_cons, List.map_nil]); first | done | rfl | (simp only [List.length_drop, List.length_take]; rfl)) ?_; (with_reducible refine (isochronelaw01_awake.calls k  true _ A3.out).mono ?_); rintro e w13 ⟨rfl, hb⟩; refine ⟨_, rfl, ?_⟩; have n0_ := Aside0.mk (below_step (bB) hb); clear HB; have HB := n0_; clear n0_; (try clear hb); (try clear hb2); (try clear hk); (try clear hi)) | ((with_reducible refine gate_callee (f := 12) rfl ?_); refine goesL_ (some 10) rfl rfl Try.func12 (by kernel_rfl) rfl #[.slice A0 l0.length c0, .slice none 0 0, .int .i64 4] rfl (by (try simp only [List.map_toArray, List.map_cons, List.map_nil]); first | done | rfl | (simp only [List.length_drop, List.length_take]; rfl)) ?_; (refine (isochronelaw01_small.calls _ _ l0 _ _ ([] : List Int) 4 true _ ?side1 ?side2 ?side3 ?side4 A5.out).mono ?_); (case side1 => repeat (first | exact (Kd.C_below HR0.out HB.out) | (with_reducible refine Kd.C_alloc ?_ _) | (with_reducible refine Kd.C_drewN ?_ _) | (with_reducible refine Kd.C_drew ?_))); (case side2 => exact HC0.out); (case side3 => exact Kd.C_nil _ _); (case side4 => exact Nat.le_refl _); rintro e w' ⟨rfl, ⟨nd, rfl⟩⟩; refine ⟨_, rfl, ?_⟩) | ((with_reducible refine gate_callee (f := 37) rfl ?_); refine goesL_ (some 15) rfl rfl Try.func37 (by kernel_rfl) rfl #[.slice A0 l0.length c0, .int .i64 a1] rfl (by (try simp only [List.map_toArray, List.map_cons, List.map_nil]); first | done | rfl | (simp only [List.length_drop, List.length_take]; rfl)) ?_; (with_reducible refine (nat_Pow.calls k _ _ l0 a1 t804 t805 _ ?side1 ?side2 A7.out).mono ?_); (case side1 => repeat (first | exact (Kd.C_below HR0.out (bB)) | (with_reducible refine Kd.C_alloc ?_ _) | (with_reducible refine Kd.C_drewN ?_ _) | (with_reducible refine Kd.C_drew ?_))); (case side2 => exact HC0.out); rintro e w14 ⟨v806, rfl, ho0, hb⟩; refine ⟨_, rfl, ?_⟩; have n0_ := Aside0.mk (Kd.R_lower ho0 (below_size (bB))); have n1_ := Aside0.mk (below_step (bB) hb); clear HB; have HO807 := n0_; have HB := n1_; clear n0_ n1_; (try clear hb); (try clear hb2); (try clear hk); (try clear hi); (try clear ho0)))
     go_ret
     exact ⟨by first | rfl | (simp [errW_none, errW_some] <;> rfl) | (simp [*, errW_none, errW_some] <;> rfl), by repeat (first | (with_reducible first | exact HB.out | apply below_alloc | apply pw_below_drewN | apply below_drew1) | exact HB.out)⟩
   ·rw [if_neg c8] at H
    have c8b0 : decide (a1 < 0) = false := decide_eq_false c8
    clear c8
    have HC15 := Aside0.mk H
    clear H
    go_enter Try.func8, Try.ntmps8
    go_upto_region 8 with (first | ((with_reducible refine gate_callee (f := 11) rfl ?_); refine goesL_ (some 7) rfl rfl Try.func11 (by kernel_rfl) rfl #[] rfl (by (try simp only [List.map_toArray, List.map_cons, List.map_nil]); first | done | rfl | (simp only [List.length_drop, List.length_take]; rfl)) ?_; (with_reducible refine (isochronelaw01_awake.calls k  true _ A3.out).mono ?_); rintro e w16 ⟨rfl, hb⟩; refine ⟨_, rfl, ?_⟩; have n0_ := Aside0.mk (below_step (bB) hb); clear HB; have HB := n0_; clear n0_; (try clear hb); (try clear hb2); (try clear hk); (try clear hi)) | ((with_reducible refine gate_callee (f := 12) rfl ?_); refine goesL_ (some 10) rfl rfl Try.func12 (by kernel_rfl) rfl #[.slice A0 l0.length c0, .slice none 0 0, .int .i64 4] rfl (by (try simp only [List.map_toArray, List.map_cons, List.map_nil]); first | done | rfl | (simp only [List.length_drop, List.length_take]; rfl)) ?_; (refine (isochronelaw01_small.calls _ _ l0 _ _ ([] : List Int) 4 true _ ?side1 ?side2 ?side3 ?side4 A5.out).mono ?_); (case side1 => repeat (first | exact (Kd.C_below HR0.out HB.out) | (with_reducible refine Kd.C_alloc ?_ _) | (with_reducible refine Kd.C_drewN ?_ _) | (with_reducible refine Kd.C_drew ?_))); (case side2 => exact HC0.out); (case side3 => exact Kd.C_nil _ _); (case side4 => exact Nat.le_refl _); rintro e w' ⟨rfl, ⟨nd, rfl⟩⟩; refine ⟨_, rfl, ?_⟩) | ((with_reducible refine gate_callee (f := 37) rfl ?_); refine goesL_ (some 15) rfl rfl Try.func37 (by kernel_rfl) rfl #[.slice A0 l0.length c0, .int .i64 a1] rfl (by (try simp only [List.map_toArray, List.map_cons, List.map_nil]); first | done | rfl | (simp only [List.length_drop, List.length_take]; rfl)) ?_; (with_reducible refine (nat_Pow.calls k _ _ l0 a1 t804 t805 _ ?side1 ?side2 A7.out).mono ?_); (case side1 => repeat (first | exact (Kd.C_below HR0.out (bB)) | (with_reducible refine Kd.C_alloc ?_ _) | (with_reducible refine Kd.C_drewN ?_ _) | (with_reducible refine Kd.C_drew ?_))); (case side2 => exact HC0.out); rintro e w17 ⟨v806, rfl, ho0, hb⟩; refine ⟨_, rfl, ?_⟩; have n0_ := Aside0.mk (Kd.R_lower ho0 (below_size (bB))); have n1_ := Aside0.mk (below_step (bB) hb); clear HB; have HO807 := n0_; have HB := n1_; clear n0_ n1_; (try clear hb); (try clear hb2); (try clear hk); (try clear hi); (try clear ho0)))
    (try simp only [Act.put, List.setIfInBounds_toArray, List.set_cons_zero, List.set_cons_succ])
    go_cut [40] (fun v40 wc => ∃ (kq : Nat) (x40_14 : Bool), v40 = .bool x40_14 ∧ Aside0 (isochronelaw01_NatPowers.j0 kq l0 a1 t804 t805 x40_14 = some r) ∧ Aside0 (kq ≤ k) ∧ Aside0 (Kd.R (Kd.int .u32) 36 wc w.heap.size (fun _ => True) v806 t804) ∧ Aside0 (Below w.heap.size w wc))
    case first =>
     have H := HC15.out
     clear HC15
     by_cases c18 : (l0.length : Int) = 0
     ·rw [if_pos c18] at H
      have c18b0 : ((l0.length : Int) == 0) = true := beq_iff_eq.mpr c18
      have c18b1 : ((l0.length : Int) != 0) = false := bne_eq_false_iff_eq.mpr c18
      clear c18
      (first | rw [c18b0] | (simp only [i64_w, i32_w]; rw [c18b0]) | rw [c18b1] | skip)
      have H' := Aside0.mk H
      clear H
      go_wp2
      go_meet
      case rel => exact ⟨_, (true), (by first | rfl | (simp; done) | (simp [*]; done)), H', ⟨by first | omega | exact Nat.le_refl _⟩, ⟨by (with_reducible repeat (first | apply Kd.R_alloc | apply Kd.R_drewN | apply Kd.R_drew)); exact HO807.out⟩, ⟨by repeat (first | (with_reducible first | exact HB.out | apply below_alloc | apply pw_below_drewN | apply below_drew1) | exact HB.out)⟩⟩
     ·rw [if_neg c18] at H
      have c18b0 : ((l0.length : Int) == 0) = false := beq_eq_false_iff_ne.mpr c18
      have c18b1 : ((l0.length : Int) != 0) = true := bne_iff_ne.mpr c18
      have c18b2 : ¬ (l0 = []) := fun h_ => c18 (by rw [h_]; rfl)
      (first | rw [c18b0] | (simp only [i64_w, i32_w]; rw [c18b0]) | rw [c18b1] | skip)
      by_cases c19 : (l0.length : Int) = 1
      ·rw [if_pos c19] at H
       have c19b0 : ((l0.length : Int) == 1) = true := beq_iff_eq.mpr c19
       have c19b1 : ((l0.length : Int) != 1) = false := bne_eq_false_iff_eq.mpr c19
       clear c19
       by_cases c20 : 0 < (l0.length : Int)
       ·rw [if_pos c20] at H
        have c20b0 : decide (0 < (l0.length : Int)) = true := decide_eq_true c20
        have c20b1 : decide (0 < l0.length) = true := decide_eq_true (by omega)
        clear c20
        have H' := Aside0.mk H
        clear H
        have p808 : 0 ≤ (0 : Int) := (by omega)
        have q808 : 0 < (l0.length : Int) := of_decide_eq_true aS
        obtain ⟨ad808, e808, hx808_0⟩ := Kd.at_int HR0.out 0 p808 q808
        cases e808
        have qi808 : (0 < l0.length) = True := eq_true (by omega)
        (try rw [show ((0 : Int)).toNat = 0 from rfl] at hx808_0)
        (try rw [Addr.add_zero'] at hx808_0)
        replace hx808_0 := (HB.out.cell (World.block_lt_of_cell? w _ hx808_0)).trans hx808_0
        replace p808 := eq_true p808
        replace q808 := eq_true q808
        go_wp2
        go_meet
        case rel => exact ⟨_, (((rd l0 0) == 1)), (by first | rfl | (simp; done) | (simp [*]; done)), H', ⟨by first | omega | exact Nat.le_refl _⟩, ⟨by (with_reducible repeat (first | apply Kd.R_alloc | apply Kd.R_drewN | apply Kd.R_drew)); exact HO807.out⟩, ⟨by repeat (first | (with_reducible first | exact HB.out | apply below_alloc | apply pw_below_drewN | apply below_drew1) | exact HB.out)⟩⟩
       ·rw [if_neg c20] at H
        exact absurd H (by simp)
      ·rw [if_neg c19] at H
       have c19b0 : ((l0.length : Int) == 1) = false := beq_eq_false_iff_ne.mpr c19
       have c19b1 : ((l0.length : Int) != 1) = true := bne_iff_ne.mpr c19
       have H' := Aside0.mk H
       clear H
       go_wp2
       go_meet
       case rel => exact ⟨_, (false), (by first | rfl | (simp; done) | (simp [*]; done)), H', ⟨by first | omega | exact Nat.le_refl _⟩, ⟨by (with_reducible repeat (first | apply Kd.R_alloc | apply Kd.R_drewN | apply Kd.R_drew)); exact HO807.out⟩, ⟨by repeat (first | (with_reducible first | exact HB.out | apply below_alloc | apply pw_below_drewN | apply below_drew1) | exact HB.out)⟩⟩
    case rest =>
     clear HC15
     try clear c1
     try clear c2
     try clear p2
     try clear c3
     try clear c4
     try clear c6
     try clear c8
     try clear c8b0
     try clear p8
     try clear q8
     try clear hx8
     try clear qi8
     try clear c9
     try clear c9b0
     try clear c9b1
     try clear c11
     try clear c12
     try clear c18
     try clear c18b0
     try clear c18b1
     try clear c18b2
     try clear c19
     try clear c19b0
     try clear c19b1
     try clear c20
     try clear c20b0
     try clear c20b1
     try clear hx808_0
     try clear p808
     try clear q808
     obtain ⟨kq, x40_14, rfl, HA, HJ14, HO_5, HB⟩ := hcut
     cases kq with
     | zero => exact absurd HA.out (by simp [isochronelaw01_NatPowers.j0])
     | succ kj14 =>
      have H := HA.out
      clear HA
      simp only [isochronelaw01_NatPowers.j0] at H
      by_cases c21 : x40_14 = true
      ·subst c21
       have H1 : (if t805 = 0 then ((isochroneref01_Of.f kj14 l0).bind fun t809 => ((isochronelaw01_is.f kj14 t804 t809).bind fun t812 => (if t812 = true then (if a1 > 0 then (some true) else (if a1 = 0 then ((isochroneref01_Int.f kj14 1).bind fun t813 => ((isochronelaw01_is.f kj14 t804 t813).bind fun t816 => (some t816))) else (some false))) else (if a1 = 0 then ((isochroneref01_Int.f kj14 1).bind fun t817 => ((isochronelaw01_is.f kj14 t804 t817).bind fun t820 => (some t820))) else (some false))))) else (some false)) = some r := by rw [if_pos rfl] at H; exact H
       clear H
       have H := H1
       clear H1
       by_cases c22 : t805 = 0
       ·rw [if_pos c22] at H
        have c22b0 : (t805 == 0) = true := beq_iff_eq.mpr c22
        have c22b1 : (t805 != 0) = false := bne_eq_false_iff_eq.mpr c22
        clear c22
        replace H := Option.bind_eq_some_iff.mp H
        obtain ⟨t809, A230, H⟩ := H
        replace H : ((isochronelaw01_is.f kj14 t804 t809).bind fun t812 => (if t812 = true then (if a1 > 0 then (some true) else (if a1 = 0 then ((isochroneref01_Int.f kj14 1).bind fun t813 => ((isochronelaw01_is.f kj14 t804 t813).bind fun t816 => (some t816))) else (some false))) else (if a1 = 0 then ((isochroneref01_Int.f kj14 1).bind fun t817 => ((isochronelaw01_is.f kj14 t804 t817).bind fun t820 => (some t820))) else (some false)))) = some r := H
        have A23 := Aside0.mk A230
        clear A230
        replace H := Option.bind_eq_some_iff.mp H
        obtain ⟨t812, A240, H⟩ := H
        replace H : (if t812 = true then (if a1 > 0 then (some true) else (if a1 = 0 then ((isochroneref01_Int.f kj14 1).bind fun t813 => ((isochronelaw01_is.f kj14 t804 t813).bind fun t816 => (some t816))) else (some false))) else (if a1 = 0 then ((isochroneref01_Int.f kj14 1).bind fun t817 => ((isochronelaw01_is.f kj14 t804 t817).bind fun t820 => (some t820))) else (some false))) = some r := H
        have A24 := Aside0.mk A240
        clear A240
        by_cases c25 : t812 = true
        ·subst c25
         have H1 : (if a1 > 0 then (some true) else (if a1 = 0 then ((isochroneref01_Int.f kj14 1).bind fun t813 => ((isochronelaw01_is.f kj14 t804 t813).bind fun t816 => (some t816))) else (some false))) = some r := by rw [if_pos rfl] at H; exact H
         clear H
         have H := H1
         clear H1
         by_cases c26 : a1 > 0
         ·rw [if_pos c26] at H
          have c26b0 : decide (0 < a1) = true := decide_eq_true c26
          clear c26
          obtain rfl := Option.some.inj H
          go_wp2_with (first | (go_at_call 15; (with_reducible refine (isochroneref01_Of.calls kj14 _ _ l0 t809 _ ?side1 ?side2 A23.out).mono ?_); (case side1 => repeat (first | exact (Kd.C_below HR0.out HB.out) | (with_reducible refine Kd.C_alloc ?_ _) | (with_reducible refine Kd.C_drewN ?_ _) | (with_reducible refine Kd.C_drew ?_))); (case side2 => exact HC0.out); rintro e w27 ⟨v810, rfl, ho0, hb⟩; have n0_ := Aside0.mk (Kd.R_below (by (with_reducible repeat (first | apply Kd.R_alloc | apply Kd.R_drewN | apply Kd.R_drew)); exact HO_5.out) hb); have n1_ := Aside0.mk (Kd.R_lower ho0 (below_size (bB))); have n2_ := Aside0.mk (below_step (bB) hb); clear HO_5; clear HB; have HO_5 := n0_; have HO811 := n1_; have HB := n2_; clear n0_ n1_ n2_; (try clear hb); (try clear hb2); (try clear hk); (try clear hi); (try clear ho0); obtain ⟨Ao28, co28, eo28⟩ := Kd.R_slice HO_5.out; subst eo28; obtain ⟨Ao29, co29, eo29⟩ := Kd.R_slice HO811.out; subst eo29) | (go_at_call 25; (with_reducible refine (isochronelaw01_is.calls kj14 _ _ t804 _ _ t809 true _ ?side1 ?side2 ?side3 ?side4 A24.out).mono ?_); (case side1 => repeat (first | exact (Kd.R_reads' HO_5.out).2.2 | (with_reducible refine Kd.C_alloc ?_ _) | (with_reducible refine Kd.C_drewN ?_ _) | (with_reducible refine Kd.C_drew ?_))); (case side2 => exact (Kd.R_reads' HO_5.out).2.1); (case side3 => repeat (first | exact (Kd.R_reads' HO811.out).2.2 | (with_reducible refine Kd.C_alloc ?_ _) | (with_reducible refine Kd.C_drewN ?_ _) | (with_reducible refine Kd.C_drew ?_))); (case side4 => exact (Kd.R_reads' HO811.out).2.1); rintro e w30 ⟨rfl, hb⟩; have n0_ := Aside0.mk (Kd.R_below (by (with_reducible repeat (first | apply Kd.R_alloc | apply Kd.R_drewN | apply Kd.R_drew)); exact HO_5.out) hb); have n1_ := Aside0.mk (Kd.R_below (by (with_reducible repeat (first | apply Kd.R_alloc | apply Kd.R_drewN | apply Kd.R_drew)); exact HO811.out) hb); have n2_ := Aside0.mk (below_step (bB) hb); clear HO_5; clear HO811; clear HB; have HO_5 := n0_; have HO811 := n1_; have HB := n2_; clear n0_ n1_ n2_; (try clear hb); (try clear hb2); (try clear hk); (try clear hi)))
          go_ret
          exact ⟨by first | rfl | (simp [errW_none, errW_some] <;> rfl) | (simp [*, errW_none, errW_some] <;> rfl), by repeat (first | (with_reducible first | exact HB.out | apply below_alloc | apply pw_below_drewN | apply below_drew1) | exact HB.out)⟩
         ·rw [if_neg c26] at H
          have c26b0 : decide (0 < a1) = false := decide_eq_false c26
          clear c26
          by_cases c31 : a1 = 0
          ·rw [if_pos c31] at H
           have c31b0 : (a1 == 0) = true := beq_iff_eq.mpr c31
           have c31b1 : (a1 != 0) = false := bne_eq_false_iff_eq.mpr c31
           clear c31
           replace H := Option.bind_eq_some_iff.mp H
           obtain ⟨t813, A320, H⟩ := H
           replace H : ((isochronelaw01_is.f kj14 t804 t813).bind fun t816 => (some t816)) = some r := H
           have A32 := Aside0.mk A320
           clear A320
           replace H := Option.bind_eq_some_iff.mp H
           obtain ⟨t816, A330, H⟩ := H
           replace H : (some t816) = some r := H
           have A33 := Aside0.mk A330
           clear A330
           obtain rfl := Option.some.inj H
           go_wp2_with (first | (go_at_call 15; (with_reducible refine (isochroneref01_Of.calls kj14 _ _ l0 t809 _ ?side1 ?side2 A23.out).mono ?_); (case side1 => repeat (first | exact (Kd.C_below HR0.out HB.out) | (with_reducible refine Kd.C_alloc ?_ _) | (with_reducible refine Kd.C_drewN ?_ _) | (with_reducible refine Kd.C_drew ?_))); (case side2 => exact HC0.out); rintro e w34 ⟨v810, rfl, ho0, hb⟩; have n0_ := Aside0.mk (Kd.R_below (by (with_reducible repeat (first | apply Kd.R_alloc | apply Kd.R_drewN | apply Kd.R_drew)); exact HO_5.out) hb); have n1_ := Aside0.mk (Kd.R_lower ho0 (below_size (bB))); have n2_ := Aside0.mk (below_step (bB) hb); clear HO_5; clear HB; have HO_5 := n0_; have HO811 := n1_; have HB := n2_; clear n0_ n1_ n2_; (try clear hb); (try clear hb2); (try clear hk); (try clear hi); (try clear ho0); obtain ⟨Ao35, co35, eo35⟩ := Kd.R_slice HO_5.out; subst eo35; obtain ⟨Ao36, co36, eo36⟩ := Kd.R_slice HO811.out; subst eo36) | (go_at_call 25; (with_reducible refine (isochronelaw01_is.calls kj14 _ _ t804 _ _ t809 true _ ?side1 ?side2 ?side3 ?side4 A24.out).mono ?_); (case side1 => repeat (first | exact (Kd.R_reads' HO_5.out).2.2 | (with_reducible refine Kd.C_alloc ?_ _) | (with_reducible refine Kd.C_drewN ?_ _) | (with_reducible refine Kd.C_drew ?_))); (case side2 => exact (Kd.R_reads' HO_5.out).2.1); (case side3 => repeat (first | exact (Kd.R_reads' HO811.out).2.2 | (with_reducible refine Kd.C_alloc ?_ _) | (with_reducible refine Kd.C_drewN ?_ _) | (with_reducible refine Kd.C_drew ?_))); (case side4 => exact (Kd.R_reads' HO811.out).2.1); rintro e w37 ⟨rfl, hb⟩; have n0_ := Aside0.mk (Kd.R_below (by (with_reducible repeat (first | apply Kd.R_alloc | apply Kd.R_drewN | apply Kd.R_drew)); exact HO_5.out) hb); have n1_ := Aside0.mk (Kd.R_below (by (with_reducible repeat (first | apply Kd.R_alloc | apply Kd.R_drewN | apply Kd.R_drew)); exact HO811.out) hb); have n2_ := Aside0.mk (below_step (bB) hb); clear HO_5; clear HO811; clear HB; have HO_5 := n0_; have HO811 := n1_; have HB := n2_; clear n0_ n1_ n2_; (try clear hb); (try clear hb2); (try clear hk); (try clear hi)) | (go_at_call 17; (with_reducible refine (isochroneref01_Int.calls kj14 1 t813 _ A32.out).mono ?_); rintro e w38 ⟨v814, rfl, ho0, hb⟩; have n0_ := Aside0.mk (Kd.R_below (by (with_reducible repeat (first | apply Kd.R_alloc | apply Kd.R_drewN | apply Kd.R_drew)); exact HO_5.out) hb); have n1_ := Aside0.mk (Kd.R_elder' (by (with_reducible repeat (first | apply Kd.R_alloc | apply Kd.R_drewN | apply Kd.R_drew)); exact HO811.out) (Kd.R_base ho0) hb); have n2_ := Aside0.mk (Kd.R_lower (Kd.R_new' ho0 (Kd.R_lt (by (with_reducible repeat (first | apply Kd.R_alloc | apply Kd.R_drewN | apply Kd.R_drew)); exact HO811.out))) (below_size (bB))); have n3_ := Aside0.mk (below_step (bB) hb); clear HO_5; clear HO811; clear HB; have HO_5 := n0_; have HO811 := n1_; have HO815 := n2_; have HB := n3_; clear n0_ n1_ n2_ n3_; (try clear hb); (try clear hb2); (try clear hk); (try clear hi); (try clear ho0); obtain ⟨Ao39, co39, eo39⟩ := Kd.R_slice HO815.out; subst eo39) | (go_at_call 25; (with_reducible refine (isochronelaw01_is.calls kj14 _ _ t804 _ _ t813 t816 _ ?side1 ?side2 ?side3 ?side4 A33.out).mono ?_); (case side1 => repeat (first | exact (Kd.R_reads' HO_5.out).2.2 | (with_reducible refine Kd.C_alloc ?_ _) | (with_reducible refine Kd.C_drewN ?_ _) | (with_reducible refine Kd.C_drew ?_))); (case side2 => exact (Kd.R_reads' HO_5.out).2.1); (case side3 => repeat (first | exact (Kd.R_reads' HO815.out).2.2 | (with_reducible refine Kd.C_alloc ?_ _) | (with_reducible refine Kd.C_drewN ?_ _) | (with_reducible refine Kd.C_drew ?_))); (case side4 => exact (Kd.R_reads' HO815.out).2.1); rintro e w40 ⟨rfl, hb⟩; have n0_ := Aside0.mk (Kd.R_below (by (with_reducible repeat (first | apply Kd.R_alloc | apply Kd.R_drewN | apply Kd.R_drew)); exact HO_5.out) hb); have n1_ := Aside0.mk (Kd.R_below (by (with_reducible repeat (first | apply Kd.R_alloc | apply Kd.R_drewN | apply Kd.R_drew)); exact HO811.out) hb); have n2_ := Aside0.mk (Kd.R_below (by (with_reducible repeat (first | apply Kd.R_alloc | apply Kd.R_drewN | apply Kd.R_drew)); exact HO815.out) hb); have n3_ := Aside0.mk (below_step (bB) hb); clear HO_5; clear HO811; clear HO815; clear HB; have HO_5 := n0_; have HO811 := n1_; have HO815 := n2_; have HB := n3_; clear n0_ n1_ n2_ n3_; (try clear hb); (try clear hb2); (try clear hk); (try clear hi)))
           go_ret
           exact ⟨by first | rfl | (simp [errW_none, errW_some] <;> rfl) | (simp [*, errW_none, errW_some] <;> rfl), by repeat (first | (with_reducible first | exact HB.out | apply below_alloc | apply pw_below_drewN | apply below_drew1) | exact HB.out)⟩
          ·rw [if_neg c31] at H
           have c31b0 : (a1 == 0) = false := beq_eq_false_iff_ne.mpr c31
           have c31b1 : (a1 != 0) = true := bne_iff_ne.mpr c31
           obtain rfl := Option.some.inj H
           go_wp2_with (first | (go_at_call 15; (with_reducible refine (isochroneref01_Of.calls kj14 _ _ l0 t809 _ ?side1 ?side2 A23.out).mono ?_); (case side1 => repeat (first | exact (Kd.C_below HR0.out HB.out) | (with_reducible refine Kd.C_alloc ?_ _) | (with_reducible refine Kd.C_drewN ?_ _) | (with_reducible refine Kd.C_drew ?_))); (case side2 => exact HC0.out); rintro e w41 ⟨v810, rfl, ho0, hb⟩; have n0_ := Aside0.mk (Kd.R_below (by (with_reducible repeat (first | apply Kd.R_alloc | apply Kd.R_drewN | apply Kd.R_drew)); exact HO_5.out) hb); have n1_ := Aside0.mk (Kd.R_lower ho0 (below_size (bB))); have n2_ := Aside0.mk (below_step (bB) hb); clear HO_5; clear HB; have HO_5 := n0_; have HO811 := n1_; have HB := n2_; clear n0_ n1_ n2_; (try clear hb); (try clear hb2); (try clear hk); (try clear hi); (try clear ho0); obtain ⟨Ao42, co42, eo42⟩ := Kd.R_slice HO_5.out; subst eo42; obtain ⟨Ao43, co43, eo43⟩ := Kd.R_slice HO811.out; subst eo43) | (go_at_call 25; (with_reducible refine (isochronelaw01_is.calls kj14 _ _ t804 _ _ t809 true _ ?side1 ?side2 ?side3 ?side4 A24.out).mono ?_); (case side1 => repeat (first | exact (Kd.R_reads' HO_5.out).2.2 | (with_reducible refine Kd.C_alloc ?_ _) | (with_reducible refine Kd.C_drewN ?_ _) | (with_reducible refine Kd.C_drew ?_))); (case side2 => exact (Kd.R_reads' HO_5.out).2.1); (case side3 => repeat (first | exact (Kd.R_reads' HO811.out).2.2 | (with_reducible refine Kd.C_alloc ?_ _) | (with_reducible refine Kd.C_drewN ?_ _) | (with_reducible refine Kd.C_drew ?_))); (case side4 => exact (Kd.R_reads' HO811.out).2.1); rintro e w44 ⟨rfl, hb⟩; have n0_ := Aside0.mk (Kd.R_below (by (with_reducible repeat (first | apply Kd.R_alloc | apply Kd.R_drewN | apply Kd.R_drew)); exact HO_5.out) hb); have n1_ := Aside0.mk (Kd.R_below (by (with_reducible repeat (first | apply Kd.R_alloc | apply Kd.R_drewN | apply Kd.R_drew)); exact HO811.out) hb); have n2_ := Aside0.mk (below_step (bB) hb); clear HO_5; clear HO811; clear HB; have HO_5 := n0_; have HO811 := n1_; have HB := n2_; clear n0_ n1_ n2_; (try clear hb); (try clear hb2); (try clear hk); (try clear hi)))
           go_ret
           exact ⟨by first | rfl | (simp [errW_none, errW_some] <;> rfl) | (simp [*, errW_none, errW_some] <;> rfl), by repeat (first | (with_reducible first | exact HB.out | apply below_alloc | apply pw_below_drewN | apply below_drew1) | exact HB.out)⟩
        ·replace c25 := Bool.eq_false_iff.mpr c25
         subst c25
         have H1 : (if a1 = 0 then ((isochroneref01_Int.f kj14 1).bind fun t817 => ((isochronelaw01_is.f kj14 t804 t817).bind fun t820 => (some t820))) else (some false)) = some r := by rw [if_neg (show ¬ (false = true) by decide)] at H; exact H
         clear H
         have H := H1
         clear H1
         by_cases c45 : a1 = 0
         ·rw [if_pos c45] at H
          have c45b0 : (a1 == 0) = true := beq_iff_eq.mpr c45
          have c45b1 : (a1 != 0) = false := bne_eq_false_iff_eq.mpr c45
          clear c45
          replace H := Option.bind_eq_some_iff.mp H
          obtain ⟨t817, A460, H⟩ := H
          replace H : ((isochronelaw01_is.f kj14 t804 t817).bind fun t820 => (some t820)) = some r := H
          have A46 := Aside0.mk A460
          clear A460
          replace H := Option.bind_eq_some_iff.mp H
          obtain ⟨t820, A470, H⟩ := H
          replace H : (some t820) = some r := H
          have A47 := Aside0.mk A470
          clear A470
          obtain rfl := Option.some.inj H
          go_wp2_with (first | (go_at_call 15; (with_reducible refine (isochroneref01_Of.calls kj14 _ _ l0 t809 _ ?side1 ?side2 A23.out).mono ?_); (case side1 => repeat (first | exact (Kd.C_below HR0.out HB.out) | (with_reducible refine Kd.C_alloc ?_ _) | (with_reducible refine Kd.C_drewN ?_ _) | (with_reducible refine Kd.C_drew ?_))); (case side2 => exact HC0.out); rintro e w48 ⟨v810, rfl, ho0, hb⟩; have n0_ := Aside0.mk (Kd.R_below (by (with_reducible repeat (first | apply Kd.R_alloc | apply Kd.R_drewN | apply Kd.R_drew)); exact HO_5.out) hb); have n1_ := Aside0.mk (Kd.R_lower ho0 (below_size (bB))); have n2_ := Aside0.mk (below_step (bB) hb); clear HO_5; clear HB; have HO_5 := n0_; have HO811 := n1_; have HB := n2_; clear n0_ n1_ n2_; (try clear hb); (try clear hb2); (try clear hk); (try clear hi); (try clear ho0); obtain ⟨Ao49, co49, eo49⟩ := Kd.R_slice HO_5.out; subst eo49; obtain ⟨Ao50, co50, eo50⟩ := Kd.R_slice HO811.out; subst eo50) | (go_at_call 25; (with_reducible refine (isochronelaw01_is.calls kj14 _ _ t804 _ _ t809 false _ ?side1 ?side2 ?side3 ?side4 A24.out).mono ?_); (case side1 => repeat (first | exact (Kd.R_reads' HO_5.out).2.2 | (with_reducible refine Kd.C_alloc ?_ _) | (with_reducible refine Kd.C_drewN ?_ _) | (with_reducible refine Kd.C_drew ?_))); (case side2 => exact (Kd.R_reads' HO_5.out).2.1); (case side3 => repeat (first | exact (Kd.R_reads' HO811.out).2.2 | (with_reducible refine Kd.C_alloc ?_ _) | (with_reducible refine Kd.C_drewN ?_ _) | (with_reducible refine Kd.C_drew ?_))); (case side4 => exact (Kd.R_reads' HO811.out).2.1); rintro e w51 ⟨rfl, hb⟩; have n0_ := Aside0.mk (Kd.R_below (by (with_reducible repeat (first | apply Kd.R_alloc | apply Kd.R_drewN | apply Kd.R_drew)); exact HO_5.out) hb); have n1_ := Aside0.mk (Kd.R_below (by (with_reducible repeat (first | apply Kd.R_alloc | apply Kd.R_drewN | apply Kd.R_drew)); exact HO811.out) hb); have n2_ := Aside0.mk (below_step (bB) hb); clear HO_5; clear HO811; clear HB; have HO_5 := n0_; have HO811 := n1_; have HB := n2_; clear n0_ n1_ n2_; (try clear hb); (try clear hb2); (try clear hk); (try clear hi)) | (go_at_call 17; (with_reducible refine (isochroneref01_Int.calls kj14 1 t817 _ A46.out).mono ?_); rintro e w52 ⟨v818, rfl, ho0, hb⟩; have n0_ := Aside0.mk (Kd.R_below (by (with_reducible repeat (first | apply Kd.R_alloc | apply Kd.R_drewN | apply Kd.R_drew)); exact HO_5.out) hb); have n1_ := Aside0.mk (Kd.R_elder' (by (with_reducible repeat (first | apply Kd.R_alloc | apply Kd.R_drewN | apply Kd.R_drew)); exact HO811.out) (Kd.R_base ho0) hb); have n2_ := Aside0.mk (Kd.R_lower (Kd.R_new' ho0 (Kd.R_lt (by (with_reducible repeat (first | apply Kd.R_alloc | apply Kd.R_drewN | apply Kd.R_drew)); exact HO811.out))) (below_size (bB))); have n3_ := Aside0.mk (below_step (bB) hb); clear HO_5; clear HO811; clear HB; have HO_5 := n0_; have HO811 := n1_; have HO819 := n2_; have HB := n3_; clear n0_ n1_ n2_ n3_; (try clear hb); (try clear hb2); (try clear hk); (try clear hi); (try clear ho0); obtain ⟨Ao53, co53, eo53⟩ := Kd.R_slice HO819.out; subst eo53) | (go_at_call 25; (with_reducible refine (isochronelaw01_is.calls kj14 _ _ t804 _ _ t817 t820 _ ?side1 ?side2 ?side3 ?side4 A47.out).mono ?_); (case side1 => repeat (first | exact (Kd.R_reads' HO_5.out).2.2 | (with_reducible refine Kd.C_alloc ?_ _) | (with_reducible refine Kd.C_drewN ?_ _) | (with_reducible refine Kd.C_drew ?_))); (case side2 => exact (Kd.R_reads' HO_5.out).2.1); (case side3 => repeat (first | exact (Kd.R_reads' HO819.out).2.2 | (with_reducible refine Kd.C_alloc ?_ _) | (with_reducible refine Kd.C_drewN ?_ _) | (with_reducible refine Kd.C_drew ?_))); (case side4 => exact (Kd.R_reads' HO819.out).2.1); rintro e w54 ⟨rfl, hb⟩; have n0_ := Aside0.mk (Kd.R_below (by (with_reducible repeat (first | apply Kd.R_alloc | apply Kd.R_drewN | apply Kd.R_drew)); exact HO_5.out) hb); have n1_ := Aside0.mk (Kd.R_below (by (with_reducible repeat (first | apply Kd.R_alloc | apply Kd.R_drewN | apply Kd.R_drew)); exact HO811.out) hb); have n2_ := Aside0.mk (Kd.R_below (by (with_reducible repeat (first | apply Kd.R_alloc | apply Kd.R_drewN | apply Kd.R_drew)); exact HO819.out) hb); have n3_ := Aside0.mk (below_step (bB) hb); clear HO_5; clear HO811; clear HO819; clear HB; have HO_5 := n0_; have HO811 := n1_; have HO819 := n2_; have HB := n3_; clear n0_ n1_ n2_ n3_; (try clear hb); (try clear hb2); (try clear hk); (try clear hi)))
          go_ret
          exact ⟨by first | rfl | (simp [errW_none, errW_some] <;> rfl) | (simp [*, errW_none, errW_some] <;> rfl), by repeat (first | (with_reducible first | exact HB.out | apply below_alloc | apply pw_below_drewN | apply below_drew1) | exact HB.out)⟩
         ·rw [if_neg c45] at H
          have c45b0 : (a1 == 0) = false := beq_eq_false_iff_ne.mpr c45
          have c45b1 : (a1 != 0) = true := bne_iff_ne.mpr c45
          obtain rfl := Option.some.inj H
          go_wp2_with (first | (go_at_call 15; (with_reducible refine (isochroneref01_Of.calls kj14 _ _ l0 t809 _ ?side1 ?side2 A23.out).mono ?_); (case side1 => repeat (first | exact (Kd.C_below HR0.out HB.out) | (with_reducible refine Kd.C_alloc ?_ _) | (with_reducible refine Kd.C_drewN ?_ _) | (with_reducible refine Kd.C_drew ?_))); (case side2 => exact HC0.out); rintro e w55 ⟨v810, rfl, ho0, hb⟩; have n0_ := Aside0.mk (Kd.R_below (by (with_reducible repeat (first | apply Kd.R_alloc | apply Kd.R_drewN | apply Kd.R_drew)); exact HO_5.out) hb); have n1_ := Aside0.mk (Kd.R_lower ho0 (below_size (bB))); have n2_ := Aside0.mk (below_step (bB) hb); clear HO_5; clear HB; have HO_5 := n0_; have HO811 := n1_; have HB := n2_; clear n0_ n1_ n2_; (try clear hb); (try clear hb2); (try clear hk); (try clear hi); (try clear ho0); obtain ⟨Ao56, co56, eo56⟩ := Kd.R_slice HO_5.out; subst eo56; obtain ⟨Ao57, co57, eo57⟩ := Kd.R_slice HO811.out; subst eo57) | (go_at_call 25; (with_reducible refine (isochronelaw01_is.calls kj14 _ _ t804 _ _ t809 false _ ?side1 ?side2 ?side3 ?side4 A24.out).mono ?_); (case side1 => repeat (first | exact (Kd.R_reads' HO_5.out).2.2 | (with_reducible refine Kd.C_alloc ?_ _) | (with_reducible refine Kd.C_drewN ?_ _) | (with_reducible refine Kd.C_drew ?_))); (case side2 => exact (Kd.R_reads' HO_5.out).2.1); (case side3 => repeat (first | exact (Kd.R_reads' HO811.out).2.2 | (with_reducible refine Kd.C_alloc ?_ _) | (with_reducible refine Kd.C_drewN ?_ _) | (with_reducible refine Kd.C_drew ?_))); (case side4 => exact (Kd.R_reads' HO811.out).2.1); rintro e w58 ⟨rfl, hb⟩; have n0_ := Aside0.mk (Kd.R_below (by (with_reducible repeat (first | apply Kd.R_alloc | apply Kd.R_drewN | apply Kd.R_drew)); exact HO_5.out) hb); have n1_ := Aside0.mk (Kd.R_below (by (with_reducible repeat (first | apply Kd.R_alloc | apply Kd.R_drewN | apply Kd.R_drew)); exact HO811.out) hb); have n2_ := Aside0.mk (below_step (bB) hb); clear HO_5; clear HO811; clear HB; have HO_5 := n0_; have HO811 := n1_; have HB := n2_; clear n0_ n1_ n2_; (try clear hb); (try clear hb2); (try clear hk); (try clear hi)))
          go_ret
          exact ⟨by first | rfl | (simp [errW_none, errW_some] <;> rfl) | (simp [*, errW_none, errW_some] <;> rfl), by repeat (first | (with_reducible first | exact HB.out | apply below_alloc | apply pw_below_drewN | apply below_drew1) | exact HB.out)⟩
       ·rw [if_neg c22] at H
        have c22b0 : (t805 == 0) = false := beq_eq_false_iff_ne.mpr c22
        have c22b1 : (t805 != 0) = true := bne_iff_ne.mpr c22
        obtain rfl := Option.some.inj H
        go_wp2
        go_ret
        exact ⟨by first | rfl | (simp [errW_none, errW_some] <;> rfl) | (simp [*, errW_none, errW_some] <;> rfl), by repeat (first | (with_reducible first | exact HB.out | apply below_alloc | apply pw_below_drewN | apply below_drew1) | exact HB.out)⟩
      ·replace c21 := Bool.eq_false_iff.mpr c21
       subst c21
       have H1 : (if a1 ≤ 60 then (if t805 = 0 then ((isochroneref01_Of.f kj14 l0).bind fun t821 => ((isochroneref01_Pow.f kj14 t821 a1).bind fun t824 => ((isochronelaw01_is.f kj14 t804 t824).bind fun t827 => (some t827)))) else (some false)) else (if a1 ≥ 131072 then (if t805 = 2 then (some ((t804.length : Int) == 0)) else (some false)) else (some true))) = some r := by rw [if_neg (show ¬ (false = true) by decide)] at H; exact H
       clear H
       have H := H1
       clear H1
       by_cases c59 : a1 ≤ 60
       ·rw [if_pos c59] at H
        have c59b0 : decide (a1 ≤ 60) = true := decide_eq_true c59
        clear c59
        by_cases c60 : t805 = 0
        ·rw [if_pos c60] at H
         have c60b0 : (t805 == 0) = true := beq_iff_eq.mpr c60
         have c60b1 : (t805 != 0) = false := bne_eq_false_iff_eq.mpr c60
         clear c60
         replace H := Option.bind_eq_some_iff.mp H
         obtain ⟨t821, A610, H⟩ := H
         replace H : ((isochroneref01_Pow.f kj14 t821 a1).bind fun t824 => ((isochronelaw01_is.f kj14 t804 t824).bind fun t827 => (some t827))) = some r := H
         have A61 := Aside0.mk A610
         clear A610
         replace H := Option.bind_eq_some_iff.mp H
         obtain ⟨t824, A620, H⟩ := H
         replace H : ((isochronelaw01_is.f kj14 t804 t824).bind fun t827 => (some t827)) = some r := H
         have A62 := Aside0.mk A620
         clear A620
         replace H := Option.bind_eq_some_iff.mp H
         obtain ⟨t827, A630, H⟩ := H
         replace H : (some t827) = some r := H
         have A63 := Aside0.mk A630
         clear A630
         obtain rfl := Option.some.inj H
         go_wp2_with (first | (go_at_call 15; (with_reducible refine (isochroneref01_Of.calls kj14 _ _ l0 t821 _ ?side1 ?side2 A61.out).mono ?_); (case side1 => repeat (first | exact (Kd.C_below HR0.out HB.out) | (with_reducible refine Kd.C_alloc ?_ _) | (with_reducible refine Kd.C_drewN ?_ _) | (with_reducible refine Kd.C_drew ?_))); (case side2 => exact HC0.out); rintro e w64 ⟨v822, rfl, ho0, hb⟩; have n0_ := Aside0.mk (Kd.R_below (by (with_reducible repeat (first | apply Kd.R_alloc | apply Kd.R_drewN | apply Kd.R_drew)); exact HO_5.out) hb); have n1_ := Aside0.mk (Kd.R_lower ho0 (below_size (bB))); have n2_ := Aside0.mk (below_step (bB) hb); clear HO_5; clear HB; have HO_5 := n0_; have HO823 := n1_; have HB := n2_; clear n0_ n1_ n2_; (try clear hb); (try clear hb2); (try clear hk); (try clear hi); (try clear ho0); obtain ⟨Ao65, co65, eo65⟩ := Kd.R_slice HO823.out; subst eo65) | (go_at_call 38; (with_reducible refine (isochroneref01_Pow.calls kj14 _ _ t821 a1 t824 _ ?side1 ?side2 A62.out).mono ?_); (case side1 => repeat (first | exact (Kd.R_reads' HO823.out).2.2 | (with_reducible refine Kd.C_alloc ?_ _) | (with_reducible refine Kd.C_drewN ?_ _) | (with_reducible refine Kd.C_drew ?_))); (case side2 => exact (Kd.R_reads' HO823.out).2.1); rintro e w66 ⟨v825, rfl, ho0, hb⟩; have n0_ := Aside0.mk (Kd.R_below (by (with_reducible repeat (first | apply Kd.R_alloc | apply Kd.R_drewN | apply Kd.R_drew)); exact HO_5.out) hb); have n1_ := Aside0.mk (Kd.R_elder' (by (with_reducible repeat (first | apply Kd.R_alloc | apply Kd.R_drewN | apply Kd.R_drew)); exact HO823.out) (Kd.R_base ho0) hb); have n2_ := Aside0.mk (Kd.R_lower (Kd.R_new' ho0 (Kd.R_lt (by (with_reducible repeat (first | apply Kd.R_alloc | apply Kd.R_drewN | apply Kd.R_drew)); exact HO823.out))) (below_size (bB))); have n3_ := Aside0.mk (below_step (bB) hb); clear HO_5; clear HO823; clear HB; have HO_5 := n0_; have HO823 := n1_; have HO826 := n2_; have HB := n3_; clear n0_ n1_ n2_ n3_; (try clear hb); (try clear hb2); (try clear hk); (try clear hi); (try clear ho0); obtain ⟨Ao67, co67, eo67⟩ := Kd.R_slice HO_5.out; subst eo67; obtain ⟨Ao68, co68, eo68⟩ := Kd.R_slice HO826.out; subst eo68) | (go_at_call 25; (with_reducible refine (isochronelaw01_is.calls kj14 _ _ t804 _ _ t824 t827 _ ?side1 ?side2 ?side3 ?side4 A63.out).mono ?_); (case side1 => repeat (first | exact (Kd.R_reads' HO_5.out).2.2 | (with_reducible refine Kd.C_alloc ?_ _) | (with_reducible refine Kd.C_drewN ?_ _) | (with_reducible refine Kd.C_drew ?_))); (case side2 => exact (Kd.R_reads' HO_5.out).2.1); (case side3 => repeat (first | exact (Kd.R_reads' HO826.out).2.2 | (with_reducible refine Kd.C_alloc ?_ _) | (with_reducible refine Kd.C_drewN ?_ _) | (with_reducible refine Kd.C_drew ?_))); (case side4 => exact (Kd.R_reads' HO826.out).2.1); rintro e w69 ⟨rfl, hb⟩; have n0_ := Aside0.mk (Kd.R_below (by (with_reducible repeat (first | apply Kd.R_alloc | apply Kd.R_drewN | apply Kd.R_drew)); exact HO_5.out) hb); have n1_ := Aside0.mk (Kd.R_below (by (with_reducible repeat (first | apply Kd.R_alloc | apply Kd.R_drewN | apply Kd.R_drew)); exact HO823.out) hb); have n2_ := Aside0.mk (Kd.R_below (by (with_reducible repeat (first | apply Kd.R_alloc | apply Kd.R_drewN | apply Kd.R_drew)); exact HO826.out) hb); have n3_ := Aside0.mk (below_step (bB) hb); clear HO_5; clear HO823; clear HO826; clear HB; have HO_5 := n0_; have HO823 := n1_; have HO826 := n2_; have HB := n3_; clear n0_ n1_ n2_ n3_; (try clear hb); (try clear hb2); (try clear hk); (try clear hi)))
         go_ret
         exact ⟨by first | rfl | (simp [errW_none, errW_some] <;> rfl) | (simp [*, errW_none, errW_some] <;> rfl), by repeat (first | (with_reducible first | exact HB.out | apply below_alloc | apply pw_below_drewN | apply below_drew1) | exact HB.out)⟩
        ·rw [if_neg c60] at H
         have c60b0 : (t805 == 0) = false := beq_eq_false_iff_ne.mpr c60
         have c60b1 : (t805 != 0) = true := bne_iff_ne.mpr c60
         obtain rfl := Option.some.inj H
         go_wp2
         go_ret
         exact ⟨by first | rfl | (simp [errW_none, errW_some] <;> rfl) | (simp [*, errW_none, errW_some] <;> rfl), by repeat (first | (with_reducible first | exact HB.out | apply below_alloc | apply pw_below_drewN | apply below_drew1) | exact HB.out)⟩
       ·rw [if_neg c59] at H
        have c59b0 : decide (a1 ≤ 60) = false := decide_eq_false c59
        clear c59
        by_cases c70 : a1 ≥ 131072
        ·rw [if_pos c70] at H
         have c70b0 : decide (131072 ≤ a1) = true := decide_eq_true c70
         clear c70
         by_cases c71 : t805 = 2
         ·rw [if_pos c71] at H
          have c71b0 : (t805 == 2) = true := beq_iff_eq.mpr c71
          have c71b1 : (t805 != 2) = false := bne_eq_false_iff_eq.mpr c71
          clear c71
          obtain rfl := Option.some.inj H
          obtain ⟨Ao72, co72, eo72⟩ := Kd.R_slice HO_5.out
          subst eo72
          go_wp2
          go_ret
          exact ⟨by first | rfl | (simp [errW_none, errW_some] <;> rfl) | (simp [*, errW_none, errW_some] <;> rfl), by repeat (first | (with_reducible first | exact HB.out | apply below_alloc | apply pw_below_drewN | apply below_drew1) | exact HB.out)⟩
         ·rw [if_neg c71] at H
          have c71b0 : (t805 == 2) = false := beq_eq_false_iff_ne.mpr c71
          have c71b1 : (t805 != 2) = true := bne_iff_ne.mpr c71
          obtain rfl := Option.some.inj H
          go_wp2
          go_ret
          exact ⟨by first | rfl | (simp [errW_none, errW_some] <;> rfl) | (simp [*, errW_none, errW_some] <;> rfl), by repeat (first | (with_reducible first | exact HB.out | apply below_alloc | apply pw_below_drewN | apply below_drew1) | exact HB.out)⟩
        ·rw [if_neg c70] at H
         have c70b0 : decide (131072 ≤ a1) = false := decide_eq_false c70
         clear c70
         obtain rfl := Option.some.inj H
         go_wp2
         go_ret
         exact ⟨by first | rfl | (simp [errW_none, errW_some] <;> rfl) | (simp [*, errW_none, errW_some] <;> rfl), by repeat (first | (with_reducible first | exact HB.out | apply below_alloc | apply pw_below_drewN | apply below_drew1) | exact HB.out)⟩
  ·replace c6 := Bool.eq_false_iff.mpr c6
   subst c6
   have H1 : (some true) = some r := by rw [if_neg (show ¬ (false = true) by decide)] at H; exact H
   clear H
   have H := H1
   clear H1
   obtain rfl := Option.some.inj H
   go_enter Try.func8, Try.ntmps8
   go_wp2_with (first | ((with_reducible refine gate_callee (f := 11) rfl ?_); refine goesL_ (some 7) rfl rfl Try.func11 (by kernel_rfl) rfl #[] rfl (by (try simp only [List.map_toArray, List.map_cons, List.map_nil]); first | done | rfl | (simp only [List.length_drop, List.length_take]; rfl)) ?_; (with_reducible refine (isochronelaw01_awake.calls k  true _ A3.out).mono ?_); rintro e w73 ⟨rfl, hb⟩; refine ⟨_, rfl, ?_⟩; have n0_ := Aside0.mk (below_step (bB) hb); clear HB; have HB := n0_; clear n0_; (try clear hb); (try clear hb2); (try clear hk); (try clear hi)) | ((with_reducible refine gate_callee (f := 12) rfl ?_); refine goesL_ (some 10) rfl rfl Try.func12 (by kernel_rfl) rfl #[.slice A0 l0.length c0, .slice none 0 0, .int .i64 4] rfl (by (try simp only [List.map_toArray, List.map_cons, List.map_nil]); first | done | rfl | (simp only [List.length_drop, List.length_take]; rfl)) ?_; (refine (isochronelaw01_small.calls _ _ l0 _ _ ([] : List Int) 4 false _ ?side1 ?side2 ?side3 ?side4 A5.out).mono ?_); (case side1 => repeat (first | exact (Kd.C_below HR0.out HB.out) | (with_reducible refine Kd.C_alloc ?_ _) | (with_reducible refine Kd.C_drewN ?_ _) | (with_reducible refine Kd.C_drew ?_))); (case side2 => exact HC0.out); (case side3 => exact Kd.C_nil _ _); (case side4 => exact Nat.le_refl _); rintro e w' ⟨rfl, ⟨nd, rfl⟩⟩; refine ⟨_, rfl, ?_⟩))
   go_ret
   exact ⟨by first | rfl | (simp [errW_none, errW_some] <;> rfl) | (simp [*, errW_none, errW_some] <;> rfl), by repeat (first | (with_reducible first | exact HB.out | apply below_alloc | apply pw_below_drewN | apply below_drew1) | exact HB.out)⟩
 ·replace c4 := Bool.eq_false_iff.mpr c4
  subst c4
  have H1 : (some false) = some r := by rw [if_neg (show ¬ (false = true) by decide)] at H; exact H
  clear H
  have H := H1
  clear H1
  obtain rfl := Option.some.inj H
  go_enter Try.func8, Try.ntmps8
  go_wp2_with (first | ((with_reducible refine gate_callee (f := 11) rfl ?_); refine goesL_ (some 7) rfl rfl Try.func11 (by kernel_rfl) rfl #[] rfl (by (try simp only [List.map_toArray, List.map_cons, List.map_nil]); first | done | rfl | (simp only [List.length_drop, List.length_take]; rfl)) ?_; (with_reducible refine (isochronelaw01_awake.calls k  false _ A3.out).mono ?_); rintro e w74 ⟨rfl, hb⟩; refine ⟨_, rfl, ?_⟩; have n0_ := Aside0.mk (below_step (bB) hb); clear HB; have HB := n0_; clear n0_; (try clear hb); (try clear hb2); (try clear hk); (try clear hi)))
  go_ret
  exact ⟨by first | rfl | (simp [errW_none, errW_some] <;> rfl) | (simp [*, errW_none, errW_some] <;> rfl), by repeat (first | (with_reducible first | exact HB.out | apply below_alloc | apply pw_below_drewN | apply below_drew1) | exact HB.out)⟩
def isochronelaw01_NatPowers.Pure : Prop := ∀ (l0 : List Int) (a1 : Int), l0.length ≤ maxLen → l0.length * 4 ≤ 140737488351232 → (∀ x ∈ l0, (Lit.int .u32 x).wf = true) → (Lit.int .i64 a1).wf = true → ∃ k, isochronelaw01_NatPowers.f k l0 a1 = some true
theorem isochronelaw01_NatPowers.walk (P : isochronelaw01_NatPowers.Pure) (a0 : Option Addr) (len0 cap0 : Nat) (z0 : List Int) (a1 : Int) (w : World) (w0 : (a0 = none ∧ len0 = 0 ∧ cap0 = 0 ∧ z0 = []) ∨ ∃ x, a0 = some x ∧ len0 ≤ cap0 ∧ cap0 ≤ maxLen ∧ z0.length = cap0 ∧ (∀ i, i < z0.length → w.cell? (x.add i) = some (.int .u32 (z0.getD i 0))) ∧ ∀ n ∈ z0, (Lit.int .u32 n).wf = true) (y0 : len0 * 4 ≤ 140737488351232) (w1 : (Lit.int .i64 a1).wf = true) :
  Calls Try.prog 8 #[.slice a0 len0 cap0, .int .i64 a1] w fun e w' => e = .returned (.bool true) ∧ Below w.heap.size w w' := by
 obtain ⟨l0, rfl, hr0, hm0, hw0, hc0⟩ := ReadsInt.ofRowC w0
 obtain ⟨k, h⟩ := P l0 a1 hm0 y0 hw0 w1
 refine (isochronelaw01_NatPowers.calls k _ _ l0 a1 true w (Kd.C_of_reads (d := (0 : Int)) (h1 := fun _ => rfl) hr0) hc0 h).mono ?_
 rintro e w' ⟨rfl, hd⟩
 exact ⟨rfl, hd⟩
end Go.Proofs.Ytfmobogdnlmdbaa.P
end
section
namespace Go.Proofs.Ytfmobogdnlmdbaa.P
open Go.RowKit Go.Proofs.YtfmobogdnlmdbaaW.PrintWords Go.Proofs.YtfmobogdnlmdbaaW.PrintLast Go.Proofs.YtfmobogdnlmdbaaW.PrintMore
set_option linter.unusedVariables false
theorem evp {α : Type} {c : Prop} [Decidable c] {f g : Nat → Option α} {r : α} (hc : c) (h : Ev f r) : Ev (fun k => if c then f k else g k) r := by simpa only [if_pos hc] using h
theorem evn {α : Type} {c : Prop} [Decidable c] {f g : Nat → Option α} {r : α} (hc : ¬ c) (h : Ev g r) : Ev (fun k => if c then f k else g k) r := by simpa only [if_neg hc] using h
theorem evb {α β : Type} {o : Option α} {f : Nat → α → Option β} {a : α} {r : β} (h : o = some a) (k : Ev (fun n => f n a) r) : Ev (fun n => o.bind (f n)) r := by subst h; exact k
theorem evs {α : Type} (r : α) : Ev (fun _ => some r) r := ⟨0, fun _ _ => rfl⟩
theorem evk {α : Type} {o : Option α} {r : α} (h : o = some r) : Ev (fun _ => o) r := ⟨0, fun _ _ => h⟩
theorem w64 {x : Int} (h0 : -9223372036854775808 ≤ x) (h1 : x ≤ 9223372036854775807) : wrap64 x = x := by unfold wrap64; omega
theorem u64 {x : Int} (h0 : 0 ≤ x) (h1 : x < 18446744073709551616) : IntKind.u64.wrap x = x := by rw [IntKind.wrap_u64]; omega
def vl (B : Int) : List Int → Int
  | [] => 0
  | x :: t => x + B * vl B t
def Dg (B : Int) (l : List Int) : Prop := ∀ x ∈ l, 0 ≤ x ∧ x < B
def Nm (l : List Int) : Prop := ∀ h : l ≠ [], l.getLast h ≠ 0
def Can (B : Int) (l : List Int) (n : Int) : Prop := Dg B l ∧ Nm l ∧ vl B l = n
section
variable {B : Int} {l a b : List Int}
theorem vl_append (B : Int) (a b : List Int) : vl B (a ++ b) = vl B a + B ^ a.length * vl B b := by
  induction a with
  | nil => simp [vl]
  | cons x t ih =>
    simp only [List.cons_append, vl, ih, List.length_cons]
    grind
theorem rd_lt (l : List Int) (i : Nat) (h : i < l.length) : rd l (i : Int) = l[i] := by simp [rd, h]
theorem vl_take (B : Int) (l : List Int) (i : Nat) (h : i < l.length) : vl B (l.take (i + 1)) = vl B (l.take i) + rd l (i : Int) * B ^ i := by
  rw [List.take_succ_eq_append_getElem h, vl_append, rd_lt l i h, List.length_take, Nat.min_eq_left (by omega)]
  simp only [vl]
  grind
theorem take_set (l : List Int) (i : Nat) (v : Int) (h : i < l.length) : (l.set i v).take (i + 1) = l.take i ++ [v] := by
  rw [List.take_succ_eq_append_getElem (by simpa using h), List.take_set_of_le (by omega)]
  simp
theorem vl_set (B : Int) (l : List Int) (i : Nat) (v : Int) (h : i < l.length) : vl B ((l.set i v).take (i + 1)) = vl B (l.take i) + v * B ^ i := by
  rw [take_set l i v h, vl_append, List.length_take, Nat.min_eq_left (by omega)]
  simp only [vl]
  grind
theorem Dg.nil (B : Int) : Dg B [] := fun x hx => by cases hx
theorem Dg.cons {x : Int} (h : Dg B (x :: l)) : (0 ≤ x ∧ x < B) ∧ Dg B l := ⟨h x (by simp), fun y hy => h y (by simp [hy])⟩
theorem Dg.mk {x : Int} (h0 : 0 ≤ x) (h1 : x < B) (h : Dg B l) : Dg B (x :: l) := by
  intro y hy
  rcases List.mem_cons.1 hy with rfl | hy
  · exact ⟨h0, h1⟩
  · exact h y hy
theorem Dg.append (ha : Dg B a) (hb : Dg B b) : Dg B (a ++ b) := by
  intro y hy
  rcases List.mem_append.1 hy with hy | hy
  · exact ha y hy
  · exact hb y hy
theorem Dg.take (h : Dg B l) (i : Nat) : Dg B (l.take i) := fun x hx => h x (List.mem_of_mem_take hx)
theorem Dg.drop (h : Dg B l) (i : Nat) : Dg B (l.drop i) := fun x hx => h x (List.mem_of_mem_drop hx)
theorem Dg.set (h : Dg B l) (i : Nat) {v : Int} (h0 : 0 ≤ v) (h1 : v < B) : Dg B (l.set i v) := by
  intro x hx
  rcases List.mem_or_eq_of_mem_set hx with hx | rfl
  · exact h x hx
  · exact ⟨h0, h1⟩
theorem Dg.rep (hB : 0 < B) (n : Nat) : Dg B (List.replicate n 0) := by
  intro x hx
  have := (List.mem_replicate.1 hx).2
  omega
theorem Dg.take_set {i : Nat} {v : Int} (hi : i < l.length) (h' : Dg B (l.take i)) (h0 : 0 ≤ v) (h1 : v < B) : Dg B ((l.set i v).take (i + 1)) := by
  rw [P.take_set l i v hi]
  exact h'.append (Dg.mk h0 h1 (Dg.nil B))
theorem dg_rd (h : Dg B l) (i : Int) (h0 : 0 ≤ i) (h1 : i < l.length) : 0 ≤ rd l i ∧ rd l i < B := by
  obtain ⟨n, rfl⟩ := Int.eq_ofNat_of_zero_le h0
  rw [rd_lt l n (by omega)]
  exact h _ (List.getElem_mem _)
theorem pow_pos' (hB : 0 < B) (n : Nat) : 0 < B ^ n := Int.pow_pos hB
theorem vl_nonneg (hB : 0 < B) : ∀ {l : List Int}, Dg B l → 0 ≤ vl B l
  | [], _ => by simp [vl]
  | x :: t, h => by
    have h1 := h.cons
    have h2 := vl_nonneg hB h1.2
    have h3 : 0 ≤ B * vl B t := Int.mul_nonneg (by omega) h2
    simp only [vl]
    omega
theorem vl_lt (hB : 0 < B) : ∀ {l : List Int}, Dg B l → vl B l < B ^ l.length
  | [], _ => by simp [vl]
  | x :: t, h => by
    have h1 := h.cons
    have h2 := vl_lt hB h1.2
    have h3 : B * (vl B t + 1) ≤ B * B ^ t.length := Int.mul_le_mul_of_nonneg_left (by omega) (by omega)
    simp only [vl, List.length_cons]
    rw [Int.mul_add] at h3
    have h4 : B ^ (t.length + 1) = B * B ^ t.length := by grind
    omega
theorem Nm.nil : Nm [] := fun h => absurd rfl h
theorem Nm.tail {x : Int} (h : Nm (x :: l)) : Nm l := by
  intro hl
  have := h (by simp)
  rwa [List.getLast_cons hl] at this
theorem vl_pos (hB : 0 < B) : ∀ {l : List Int}, Dg B l → Nm l → l ≠ [] → 0 < vl B l
  | [], _, _, h => absurd rfl h
  | [x], hd, hn, _ => by
    have h1 := hd.cons
    have h2 := hn (by simp)
    simp at h2
    simp [vl]
    omega
  | x :: y :: t, hd, hn, _ => by
    have h1 := hd.cons
    have h2 := vl_pos hB h1.2 hn.tail (by simp)
    have h3 : 0 < B * vl B (y :: t) := Int.mul_pos hB h2
    rw [vl]
    omega
theorem vl_ge (hB : 0 < B) : ∀ {l : List Int}, Dg B l → Nm l → l ≠ [] → B ^ (l.length - 1) ≤ vl B l
  | [], _, _, h => absurd rfl h
  | [x], hd, hn, _ => by
    have h1 := vl_pos hB hd hn (by simp)
    simp
    omega
  | x :: y :: t, hd, hn, _ => by
    have h1 := hd.cons
    have h2 := vl_ge hB h1.2 hn.tail (by simp)
    have h3 : B * B ^ ((y :: t).length - 1) ≤ B * vl B (y :: t) := Int.mul_le_mul_of_nonneg_left h2 (by omega)
    rw [vl]
    have h4 : B ^ ((x :: y :: t).length - 1) = B * B ^ ((y :: t).length - 1) := by
      simp only [List.length_cons, Nat.add_sub_cancel]
      grind
    omega
theorem can_uniq (hB : 0 < B) : ∀ {a b : List Int} {n : Int}, Can B a n → Can B b n → a = b
  | [], [], _, _, _ => rfl
  | [], y :: t, n, h, h' => by
    have h1 := vl_pos hB h'.1 h'.2.1 (by simp)
    have h2 := h.2.2
    have h3 := h'.2.2
    simp only [vl] at h2
    omega
  | x :: t, [], n, h, h' => by
    have h1 := vl_pos hB h.1 h.2.1 (by simp)
    have h2 := h.2.2
    have h3 := h'.2.2
    simp only [vl] at h3
    omega
  | x :: s, y :: t, n, h, h' => by
    have h1 := h.1.cons
    have h2 := h'.1.cons
    have h3 := h.2.2
    have h4 := h'.2.2
    simp only [vl] at h3 h4
    have e1 : x = n % B := by rw [← h3, Int.add_mul_emod_self_left, Int.emod_eq_of_lt h1.1.1 h1.1.2]
    have e2 : y = n % B := by rw [← h4, Int.add_mul_emod_self_left, Int.emod_eq_of_lt h2.1.1 h2.1.2]
    have e3 : x = y := by omega
    subst e3
    have e4 : vl B s = vl B t := Int.eq_of_mul_eq_mul_left (a := B) (by omega) (by omega)
    rw [can_uniq hB (n := vl B t) ⟨h1.2, h.2.1.tail, e4⟩ ⟨h2.2, h'.2.1.tail, rfl⟩]
theorem Can.nonneg (hB : 0 < B) {n : Int} (h : Can B l n) : 0 ≤ n := by rw [← h.2.2]; exact vl_nonneg hB h.1
theorem Can.zero (B : Int) : Can B [] 0 := ⟨Dg.nil B, Nm.nil, rfl⟩
theorem Can.nil_iff (hB : 0 < B) {n : Int} (h : Can B l n) : l = [] ↔ n = 0 := by
  constructor
  · rintro rfl
    exact h.2.2.symm
  · rintro rfl
    exact can_uniq hB h (Can.zero B)
theorem Can.len_iff (hB : 0 < B) {n : Int} (h : Can B l n) : l.length = 0 ↔ n = 0 := by rw [← h.nil_iff hB]; exact List.length_eq_zero_iff
theorem Can.lt (hB : 0 < B) {n : Int} (h : Can B l n) : n < B ^ l.length := by rw [← h.2.2]; exact vl_lt hB h.1
theorem Can.ge (hB : 0 < B) {n : Int} (h : Can B l n) (h0 : l.length ≠ 0) : B ^ (l.length - 1) ≤ n := by
  rw [← h.2.2]
  exact vl_ge hB h.1 h.2.1 (fun e => h0 (by rw [e]; rfl))
theorem pow_le {B : Int} (hB : 1 ≤ B) {i j : Nat} (h : i ≤ j) : B ^ i ≤ B ^ j := by
  obtain ⟨d, rfl⟩ := Nat.exists_eq_add_of_le h
  rw [Int.pow_add]
  have h1 : 1 ≤ B ^ d := Int.pow_pos (by omega)
  have h2 : B ^ i * 1 ≤ B ^ i * B ^ d := Int.mul_le_mul_of_nonneg_left h1 (Int.le_of_lt (Int.pow_pos (by omega)))
  omega
theorem Can.len_le (hB : 1 < B) {n : Int} (h : Can B l n) {k : Nat} (hn : n < B ^ k) : l.length ≤ k := by
  rcases Nat.lt_or_ge k l.length with hk | hk
  · have h1 := h.ge (by omega) (by omega)
    have h2 := pow_le (B := B) (by omega) (show k ≤ l.length - 1 by omega)
    omega
  · exact hk
theorem vl_drop (B : Int) (l : List Int) (i : Nat) (h : i ≤ l.length) : vl B l = vl B (l.take i) + B ^ i * vl B (l.drop i) := by
  conv => lhs; rw [← List.take_append_drop i l]
  rw [vl_append, List.length_take, Nat.min_eq_left h]
theorem rd_take (l : List Int) (j : Int) (i : Nat) (h : j.toNat < i) : rd (l.take i) j = rd l j := by
  simp only [rd, List.getD_eq_getElem?_getD]
  rw [List.getElem?_take_of_lt h]
theorem getLast_rd (l : List Int) (h : l ≠ []) : l.getLast h = rd l ((l.length : Int) - 1) := by
  have hp : 0 < l.length := List.length_pos_iff.2 h
  rw [List.getLast_eq_getElem]
  have e : (l.length : Int) - 1 = ((l.length - 1 : Nat) : Int) := by omega
  rw [e, rd_lt _ _ (by omega)]
theorem nm_of_rd (h : 0 < l.length → rd l ((l.length : Int) - 1) ≠ 0) : Nm l := by
  intro hl
  rw [getLast_rd l hl]
  exact h (List.length_pos_iff.2 hl)
theorem Nm.rd (h : Nm l) (hp : 0 < l.length) : rd l ((l.length : Int) - 1) ≠ 0 := by
  have hl : l ≠ [] := List.ne_nil_of_length_pos hp
  rw [← getLast_rd l hl]
  exact h hl
theorem vl_rep (B : Int) (n : Nat) : vl B (List.replicate n 0) = 0 := by
  induction n with
  | zero => rfl
  | succ n ih => simp [List.replicate_succ, vl, ih]
theorem can_ex_nat (hB : 1 < B) (n : Nat) : ∃ l, Can B l (n : Int) := by
  induction n using Nat.strongRecOn with
  | _ n ih =>
    by_cases h0 : n = 0
    · subst h0
      exact ⟨[], Can.zero B⟩
    · have hlt : ((n : Int) / B).toNat < n := by
        have h1 : (n : Int) / B < n := Int.ediv_lt_self_of_pos_of_ne_one (by omega) (by omega)
        have h2 : 0 ≤ (n : Int) / B := Int.ediv_nonneg (by omega) (by omega)
        omega
      obtain ⟨l, h1, h2, h3⟩ := ih _ hlt
      have h4 : 0 ≤ (n : Int) / B := Int.ediv_nonneg (by omega) (by omega)
      have hm := Int.emod_nonneg (n : Int) (show B ≠ 0 by omega)
      have hm2 := Int.emod_lt_of_pos (n : Int) (show 0 < B by omega)
      have h5 : vl B ((n : Int) % B :: l) = n := by
        rw [vl, h3, Int.toNat_of_nonneg h4]
        exact Int.emod_add_mul_ediv _ _
      refine ⟨(n : Int) % B :: l, Dg.mk hm hm2 h1, ?_, h5⟩
      intro hne
      rcases List.eq_nil_or_concat l with hl | ⟨_, _, hl⟩
      · subst hl
        simp only [vl, Int.mul_zero, Int.add_zero] at h5
        simp only [List.getLast_singleton]
        omega
      · have hne' : l ≠ [] := by rw [hl]; simp
        rw [List.getLast_cons hne']
        exact h2 hne'
theorem can_ex (hB : 1 < B) {n : Int} (h : 0 ≤ n) : ∃ l, Can B l n := by
  obtain ⟨k, rfl⟩ := Int.eq_ofNat_of_zero_le h
  exact can_ex_nat hB k
end
end Go.Proofs.Ytfmobogdnlmdbaa.P
end
section
namespace Go.Proofs.Ytfmobogdnlmdbaa.P
open Go.RowKit Go.Proofs.YtfmobogdnlmdbaaW.PrintWords Go.Proofs.YtfmobogdnlmdbaaW.PrintLast Go.Proofs.YtfmobogdnlmdbaaW.PrintMore
set_option linter.unusedVariables false
abbrev WW : Int := 4294967296
theorem WW_pos : (0 : Int) < WW := by decide
theorem WW_one : (1 : Int) < WW := by decide
theorem WW_eq : WW = 4294967296 := rfl
theorem wsucc {i : Nat} (h : i < 4611686018427387904) : wrap64 ((i : Int) + 1) = ((i + 1 : Nat) : Int) := by rw [w64 (by omega) (by omega)]; omega
theorem mag_Trim_ev (n : Nat) : ∀ (l : List Int), l.length = n → n < 4611686018427387904 → Dg WW l → ∃ r, Ev (fun k => mag_Trim.l0 k l) r ∧ Can WW r (vl WW l) ∧ r.length ≤ l.length := by
  induction n with
  | zero =>
    intro l hl _ hd
    have e : l = [] := List.eq_nil_of_length_eq_zero hl
    subst e
    refine ⟨[], ?_, Can.zero _, Nat.le_refl _⟩
    refine Ev.step (fun k => by rw [mag_Trim.l0]) ?_
    exact evn (by simp) (evs _)
  | succ n ih =>
    intro l hl hn hd
    have ew : wrap64 ((l.length : Int) - 1) = (n : Int) := by rw [w64 (by omega) (by omega)]; omega
    by_cases hz : rd l n = 0
    · obtain ⟨r, h1, h2, h3⟩ := ih (l.take n) (by rw [List.length_take]; omega) (by omega) (hd.take n)
      refine ⟨r, ?_, ?_, ?_⟩
      · refine Ev.step (fun k => by rw [mag_Trim.l0]) ?_
        rw [ew]
        refine evp (by omega) (evp (by omega) (evp (by omega) (evp hz (evp (by omega) ?_))))
        simpa using h1
      · have h4 := vl_take WW l n (by omega)
        rw [hz, show n + 1 = l.length by omega, List.take_length] at h4
        rw [h4]
        simpa using h2
      · rw [List.length_take] at h3
        omega
    · refine ⟨l, ?_, ⟨hd, nm_of_rd (fun _ => ?_), rfl⟩, Nat.le_refl _⟩
      · refine Ev.step (fun k => by rw [mag_Trim.l0]) ?_
        rw [ew]
        exact evp (by omega) (evp (by omega) (evp (by omega) (evn hz (evs _))))
      · rw [hl]
        have e : (((n + 1 : Nat) : Int) - 1) = (n : Int) := by omega
        rw [e]
        exact hz
theorem mag_Trim_sp {l : List Int} (hn : l.length < 4611686018427387904) (hd : Dg WW l) : ∃ r, Ev (fun k => mag_Trim.f k l) r ∧ Can WW r (vl WW l) ∧ r.length ≤ l.length := by
  obtain ⟨r, h1, h2⟩ := mag_Trim_ev l.length l rfl hn hd
  exact ⟨r, Ev.congr (fun k => by rw [mag_Trim.f]) h1, h2⟩
end Go.Proofs.Ytfmobogdnlmdbaa.P
end
section
namespace Go.Proofs.Ytfmobogdnlmdbaa.P
open Go.RowKit Go.Proofs.YtfmobogdnlmdbaaW.PrintWords Go.Proofs.YtfmobogdnlmdbaaW.PrintLast Go.Proofs.YtfmobogdnlmdbaaW.PrintMore
set_option linter.unusedVariables false
theorem vl_set_mid (B : Int) (l : List Int) (p q : Nat) (v : Int) (h : p < q) (hq : q ≤ l.length) : vl B ((l.set p v).take q) = vl B (l.take q) + (v - rd l (p : Int)) * B ^ p := by
  have h1 := vl_drop B ((l.set p v).take q) (p + 1) (by simp; omega)
  have h2 := vl_drop B (l.take q) (p + 1) (by simp; omega)
  have e1 : ((l.set p v).take q).take (p + 1) = (l.set p v).take (p + 1) := by rw [List.take_take, Nat.min_eq_left (by omega)]
  have e2 : (l.take q).take (p + 1) = l.take (p + 1) := by rw [List.take_take, Nat.min_eq_left (by omega)]
  have e3 : ((l.set p v).take q).drop (p + 1) = (l.take q).drop (p + 1) := by
    rw [List.drop_take, List.drop_take, List.drop_set_of_lt (by omega)]
  rw [e1, e3, vl_set _ _ _ _ (by omega)] at h1
  rw [e2, vl_take _ _ _ (by omega)] at h2
  rw [h1, h2]
  grind
theorem alg_mul {T va vb x y old P c c' v W xb Pi Pj : Int} (h : T + c * P = va * vb + x * Pi * xb) (h2 : v + W * c' = c + (x * y + old)) (hP : P = Pi * Pj) : (T + (v - old) * P) + c' * (W * P) = va * vb + x * Pi * (xb + y * Pj) := by grind
theorem mul_bd {x y : Int} (hx : 0 ≤ x ∧ x < 4294967296) (hy : 0 ≤ y ∧ y < 4294967296) : 0 ≤ x * y ∧ x * y ≤ 18446744065119617025 := by
  have h1 : 0 ≤ x * y := Int.mul_nonneg hx.1 hy.1
  have h2 : x * y ≤ 4294967295 * 4294967295 := Int.mul_le_mul (by omega) (by omega) hy.1 (by omega)
  omega
theorem mulc {x y old c : Int} (hx : 0 ≤ x ∧ x < 4294967296) (hy : 0 ≤ y ∧ y < 4294967296) (ho : 0 ≤ old ∧ old < 4294967296) (hc : 0 ≤ c ∧ c < 4294967296) :
    ∃ v c', IntKind.u64.wrap (c + IntKind.u64.wrap (IntKind.u64.wrap (IntKind.u64.wrap x * IntKind.u64.wrap y) + IntKind.u64.wrap old)) % 4294967296 = v ∧ IntKind.u64.wrap (c + IntKind.u64.wrap (IntKind.u64.wrap (IntKind.u64.wrap x * IntKind.u64.wrap y) + IntKind.u64.wrap old)) / 4294967296 = c' ∧ v + 4294967296 * c' = c + (x * y + old) ∧ 0 ≤ v ∧ v < 4294967296 ∧ 0 ≤ c' ∧ c' < 4294967296 := by
  have hb := mul_bd hx hy
  rw [u64 (x := x) (by omega) (by omega), u64 (x := y) (by omega) (by omega), u64 (x := old) (by omega) (by omega), u64 (x := x * y) (by omega) (by omega), u64 (x := x * y + old) (by omega) (by omega), u64 (x := c + (x * y + old)) (by omega) (by omega)]
  refine ⟨_, _, rfl, rfl, ?_, ?_, ?_, ?_, ?_⟩ <;> omega
theorem alg_mul2 {T c P va vb x Pi : Int} (h : T + c * P = va * vb + x * Pi * vb) : T + c * P = (va + x * Pi) * vb := by rw [h]; grind
theorem mag_Mul_in {a b : List Int} (hn : a.length + b.length < 1099511627776) (ha : Dg WW a) (hb : Dg WW b) (i : Nat) (hi : i < a.length) (R : List Int)
    (hout : ∀ o : List Int, o.length = a.length + b.length → Dg WW o → vl WW (o.take (i + 1 + b.length)) = vl WW (a.take (i + 1)) * vl WW b → Ev (fun k => mag_Mul.l0 k b o a (a.length : Int) ((i + 1 : Nat) : Int)) R) (d : Nat) :
    ∀ (j : Nat) (o : List Int) (c : Int), b.length - j = d → j ≤ b.length → o.length = a.length + b.length → Dg WW o → 0 ≤ c → c < 4294967296 →
    vl WW (o.take (i + b.length)) + c * WW ^ (i + j) = vl WW (a.take i) * vl WW b + rd a i * WW ^ i * vl WW (b.take j) →
    Ev (fun k => mag_Mul.l1 k b o (i : Int) (rd a i) c a (a.length : Int) (i : Int) b (b.length : Int) (j : Int)) R := by
  induction d with
  | zero =>
    intro j o c h1 h2 h3 h4 h5 h6 h7
    have e : j = b.length := by omega
    subst e
    rw [List.take_length] at h7
    have ei : ((i : Int) + (b.length : Int)) = ((i + b.length : Nat) : Int) := by omega
    refine Ev.step (fun k => by rw [mag_Mul.l1]) ?_
    rw [ei, w64 (x := ((i + b.length : Nat) : Int)) (by omega) (by omega), Int.toNat_natCast, wsucc (i := i) (by omega), Int.emod_eq_of_lt h5 h6]
    refine evn (by omega) (evp (by omega) (evp (by omega) ?_))
    refine hout _ (by simpa using h3) (h4.set _ h5 (by rw [WW_eq]; exact h6)) ?_
    rw [show i + 1 + b.length = i + b.length + 1 by omega, vl_set _ _ _ _ (by omega), vl_take WW a i hi]
    exact alg_mul2 h7
  | succ d ih =>
    intro j o c h1 h2 h3 h4 h5 h6 h7
    have hx := dg_rd ha (i : Int) (by omega) (by omega)
    have hy := dg_rd hb (j : Int) (by omega) (by omega)
    have ho := dg_rd h4 ((i + j : Nat) : Int) (by omega) (by omega)
    rw [WW_eq] at hx hy ho
    obtain ⟨v, c', e1, e2, e3, v0, v1, c0, c1⟩ := mulc hx hy ho ⟨h5, h6⟩
    have h8 := ih (j + 1) (o.set (i + j) v) c' (by omega) (by omega) (by simpa using h3) (h4.set _ v0 (by rw [WW_eq]; exact v1)) c0 c1
      (by
        rw [vl_set_mid _ _ _ _ _ (by omega) (by omega), vl_take WW b j (by omega), show i + (j + 1) = i + j + 1 by omega, Int.pow_succ, Int.mul_comm (WW ^ (i + j)) WW]
        exact alg_mul h7 e3 (Int.pow_add _ _ _))
    have ei : ((i : Int) + (j : Int)) = ((i + j : Nat) : Int) := by omega
    refine Ev.step (fun k => by rw [mag_Mul.l1]) ?_
    rw [ei, w64 (x := ((i + j : Nat) : Int)) (by omega) (by omega), e1, e2, wsucc (by omega), Int.toNat_natCast]
    exact evp (by omega) (evp (by omega) (evp (by omega) (evp (by omega) (evp (by omega) h8))))
theorem mul_lt' {n m A C : Int} (h1 : n < A) (h2 : m < C) (h3 : 0 ≤ n) (h4 : 0 ≤ m) : n * m < A * C := by
  have h5 : n * m ≤ n * C := Int.mul_le_mul_of_nonneg_left (by omega) h3
  have h6 : n * C < A * C := Int.mul_lt_mul_of_pos_right h1 (by omega)
  omega
theorem mag_Mul_out {a b : List Int} (hn : a.length + b.length < 1099511627776) (ha : Dg WW a) (hb : Dg WW b) : ∃ R, Can WW R (vl WW a * vl WW b) ∧ R.length ≤ a.length + b.length ∧ ∀ (d i : Nat) (o : List Int), a.length - i = d → i ≤ a.length → o.length = a.length + b.length → Dg WW o → vl WW (o.take (i + b.length)) = vl WW (a.take i) * vl WW b →
    Ev (fun k => mag_Mul.l0 k b o a (a.length : Int) (i : Int)) R := by
  have key : ∀ o : List Int, o.length = a.length + b.length → Dg WW o → vl WW (o.take (a.length + b.length)) = vl WW (a.take a.length) * vl WW b → ∃ r, Ev (fun k => mag_Mul.l0 k b o a (a.length : Int) (a.length : Int)) r ∧ Can WW r (vl WW a * vl WW b) ∧ r.length ≤ a.length + b.length := by
    intro o h1 h2 h3
    obtain ⟨r, h8, h9, h10⟩ := mag_Trim_sp (l := o) (by omega) h2
    rw [← h1, List.take_length, List.take_length] at h3
    refine ⟨r, ?_, by rw [← h3]; exact h9, by omega⟩
    refine Ev.step (fun k => by rw [mag_Mul.l0]) ?_
    exact evn (by omega) (Ev.bind h8 (evs _))
  have hv : ∃ R, Can WW R (vl WW a * vl WW b) ∧ R.length ≤ a.length + b.length := by
    have hnn : 0 ≤ vl WW a * vl WW b := Int.mul_nonneg (vl_nonneg WW_pos ha) (vl_nonneg WW_pos hb)
    obtain ⟨R, hR⟩ := can_ex WW_one hnn
    refine ⟨R, hR, ?_⟩
    refine hR.len_le WW_one ?_
    rw [Int.pow_add]
    have h1 := vl_lt WW_pos ha
    have h2 := vl_lt WW_pos hb
    have h3 := vl_nonneg WW_pos ha
    have h4 := vl_nonneg WW_pos hb
    exact mul_lt' h1 h2 h3 h4
  obtain ⟨R, hR, hRl⟩ := hv
  refine ⟨R, hR, hRl, ?_⟩
  intro d
  induction d with
  | zero =>
    intro i o h1 h2 h3 h4 h5
    have e : i = a.length := by omega
    subst e
    obtain ⟨r, h6, h7, _⟩ := key o h3 h4 h5
    rw [can_uniq WW_pos hR h7]
    exact h6
  | succ d ih =>
    intro i o h1 h2 h3 h4 h5
    have h6 := mag_Mul_in hn ha hb i (by omega) R (fun o' q1 q2 q3 => ih (i + 1) o' (by omega) (by omega) q1 q2 (by rw [q3])) b.length 0 o 0 (by omega) (by omega) h3 h4 (by omega) (by omega) (by rw [h5]; simp [vl])
    refine Ev.step (fun k => by rw [mag_Mul.l0]) ?_
    exact evp (by omega) (evp (by omega) (evp (by omega) h6))
theorem mag_Mul_sp {a b : List Int} {n m : Int} (hn : a.length + b.length < 1099511627776) (ha : Can WW a n) (hb : Can WW b m) : ∃ r, Ev (fun k => mag_Mul.f k a b) r ∧ Can WW r (n * m) ∧ r.length ≤ a.length + b.length := by
  by_cases ha0 : a.length = 0
  · have e : a = [] := List.eq_nil_of_length_eq_zero ha0
    subst e
    have : n = 0 := by rw [← ha.2.2]; rfl
    subst this
    refine ⟨[], ?_, by rw [Int.zero_mul]; exact Can.zero _, Nat.zero_le _⟩
    unfold mag_Mul.f
    refine evp (by simp) ?_
    refine Ev.step (fun k => by rw [mag_Mul.j0]) ?_
    exact evp rfl (evs _)
  · by_cases hb0 : b.length = 0
    · have e : b = [] := List.eq_nil_of_length_eq_zero hb0
      subst e
      have : m = 0 := by rw [← hb.2.2]; rfl
      subst this
      refine ⟨[], ?_, by rw [Int.mul_zero]; exact Can.zero _, Nat.zero_le _⟩
      unfold mag_Mul.f
      refine evn (by omega) ?_
      refine Ev.step (fun k => by rw [mag_Mul.j0]) ?_
      exact evp rfl (evs _)
    · obtain ⟨R, h1, h2, h3⟩ := mag_Mul_out hn ha.1 hb.1
      rw [ha.2.2, hb.2.2] at h1
      refine ⟨R, ?_, h1, h2⟩
      have h4 := h3 a.length 0 (List.replicate (a.length + b.length) 0) (by omega) (by omega) (by simp) (Dg.rep WW_pos _) (by rw [List.take_replicate]; simp [vl, vl_rep])
      unfold mag_Mul.f
      refine evn (by omega) ?_
      refine Ev.step (fun k => by rw [mag_Mul.j0]) ?_
      have e : (a.length : Int) + (b.length : Int) = ((a.length + b.length : Nat) : Int) := by omega
      rw [e, w64 (by omega) (by omega), Int.toNat_natCast]
      refine evn ?_ (evp (by omega) (evp (by omega) h4))
      simp only [beq_iff_eq]
      omega
end Go.Proofs.Ytfmobogdnlmdbaa.P
end
section
namespace Go.Proofs.Ytfmobogdnlmdbaa.P
open Go.RowKit Go.Proofs.YtfmobogdnlmdbaaW.PrintWords Go.Proofs.YtfmobogdnlmdbaaW.PrintLast Go.Proofs.YtfmobogdnlmdbaaW.PrintMore
set_option linter.unusedVariables false
abbrev RR : Int := 10000
theorem RR_pos : (0 : Int) < RR := by decide
theorem RR_one : (1 : Int) < RR := by decide
theorem RR_eq : RR = 10000 := rfl
theorem r_trim_ev {l : List Int} (hn : l.length < 4611686018427387904) (hd : Dg RR l) (d : Nat) : ∀ i : Nat, i = d → i ≤ l.length → ∃ r, Ev (fun k => isochroneref01_trim.l0 k l (i : Int)) r ∧ Can RR r (vl RR (l.take i)) ∧ r.length ≤ i := by
  induction d with
  | zero =>
    rintro i rfl h
    refine ⟨[], ?_, Can.zero _, Nat.le_refl _⟩
    refine Ev.step (fun k => by rw [isochroneref01_trim.l0]) ?_
    exact evn (by omega) (evp (by omega) (evp (by omega) (evs _)))
  | succ d ih =>
    rintro i rfl h
    have hw : ((d + 1 : Nat) : Int) - 1 = (d : Int) := by omega
    by_cases hz : rd l d = 0
    · obtain ⟨r, h1, h2, h3⟩ := ih d rfl (by omega)
      refine ⟨r, ?_, ?_, by omega⟩
      · refine Ev.step (fun k => by rw [isochroneref01_trim.l0]) ?_
        rw [hw, w64 (x := (d : Int)) (by omega) (by omega)]
        exact evp (by omega) (evp (by omega) (evp (by omega) (evp hz h1)))
      · rw [vl_take RR l d (by omega), hz, Int.zero_mul, Int.add_zero]
        exact h2
    · refine ⟨l.take (d + 1), ?_, ⟨hd.take _, nm_of_rd (fun _ => ?_), rfl⟩, by rw [List.length_take]; omega⟩
      · refine Ev.step (fun k => by rw [isochroneref01_trim.l0]) ?_
        rw [hw, w64 (x := (d : Int)) (by omega) (by omega), Int.toNat_natCast]
        exact evp (by omega) (evp (by omega) (evp (by omega) (evn hz (evp (by omega) (evp (by omega) (evs _))))))
      · rw [List.length_take, Nat.min_eq_left (by omega), hw, rd_take _ _ _ (by omega)]
        exact hz
theorem r_trim_sp {l : List Int} (hn : l.length < 4611686018427387904) (hd : Dg RR l) : ∃ r, Ev (fun k => isochroneref01_trim.f k l) r ∧ Can RR r (vl RR l) ∧ r.length ≤ l.length := by
  obtain ⟨r, h1, h2⟩ := r_trim_ev hn hd l.length l.length rfl (Nat.le_refl _)
  rw [List.take_length] at h2
  exact ⟨r, Ev.congr (fun k => by rw [isochroneref01_trim.f]) h1, h2⟩
theorem tmod_nn {x : Int} (h : 0 ≤ x) (m : Int) : Int.tmod x m = x % m := Int.tmod_eq_emod_of_nonneg h
theorem tdiv_nn {x : Int} (h : 0 ≤ x) (m : Int) : Int.tdiv x m = x / m := Int.tdiv_eq_ediv_of_nonneg h
theorem vl_snoc (B : Int) (l : List Int) (x : Int) : vl B (l ++ [x]) = vl B l + x * B ^ l.length := by
  rw [vl_append]
  simp only [vl]
  grind
theorem alg_sm {vo c P n v c' R : Int} (h : vo + c * P = n) (h2 : v + R * c' = c) : vo + v * P + c' * (R * P) = n := by grind
theorem alg_sm2 {vo c P va x k v c' R c0 : Int} (h : vo + c * P = c0 + k * va) (h2 : v + R * c' = c + x * k) : vo + v * P + c' * (R * P) = c0 + k * (va + x * P) := by grind
theorem r_Small_in (o0 : List Int) (n : Int) (c : Nat) : ∀ (o : List Int) (cc : Int), cc = (c : Int) → cc < 4611686018427387904 → o.length + c < 1099511627776 → Dg RR o → vl RR o + cc * RR ^ o.length = n → ∃ r, Ev (fun k => isochroneref01_Small.l1 k cc o) r ∧ Can RR r n := by
  induction c using Nat.strongRecOn with
  | _ c ih =>
    intro o cc hcc hlt hl hd hv
    by_cases h0 : c = 0
    · subst h0
      have e : cc = 0 := by omega
      subst e
      rw [Int.zero_mul, Int.add_zero] at hv
      obtain ⟨r, h1, h2, _⟩ := r_trim_sp (l := o) (by omega) hd
      refine ⟨r, ?_, by rw [← hv]; exact h2⟩
      refine Ev.step (fun k => by rw [isochroneref01_Small.l1]) ?_
      exact evn (by omega) (Ev.bind h1 (evs _))
    · obtain ⟨r, h1, h2⟩ := ih (c / 10000) (by omega) (o ++ [cc % 10000]) (cc / 10000) (by omega) (by omega) (by simp; omega) (hd.append (Dg.mk (by omega) (by rw [RR_eq]; omega) (Dg.nil _)))
        (by rw [vl_snoc, List.length_append, List.length_singleton, Int.pow_succ, Int.mul_comm (RR ^ o.length) RR]; exact alg_sm hv (by rw [RR_eq]; omega))
      refine ⟨r, ?_, h2⟩
      refine Ev.step (fun k => by rw [isochroneref01_Small.l1]) ?_
      rw [tmod_nn (x := cc) (by omega), tdiv_nn (x := cc) (by omega), w64 (x := cc / 10000) (by omega) (by omega)]
      exact evp (by omega) (evp (by omega) h1)
theorem r_Small_l0 {a : List Int} (hn : a.length < 549755813888) (ha : Dg RR a) {k0 c0 : Int} (hk : 0 ≤ k0 ∧ k0 ≤ 65536) (d : Nat) :
    ∀ (i : Nat) (o : List Int) (c : Int), a.length - i = d → i ≤ a.length → o.length = i → Dg RR o → 0 ≤ c → c ≤ 65536 → vl RR o + c * RR ^ i = c0 + k0 * vl RR (a.take i) →
    ∃ r, Ev (fun k => isochroneref01_Small.l0 k k0 c o a (a.length : Int) (i : Int)) r ∧ Can RR r (c0 + k0 * vl RR a) := by
  induction d with
  | zero =>
    intro i o c h1 h2 h3 h4 h5 h6 h7
    have e : i = a.length := by omega
    subst e
    rw [List.take_length] at h7
    obtain ⟨r, h8, h9⟩ := r_Small_in o (c0 + k0 * vl RR a) c.toNat o c (by omega) (by omega) (by omega) h4 (by rw [h3]; exact h7)
    refine ⟨r, ?_, h9⟩
    refine Ev.step (fun k => by rw [isochroneref01_Small.l0]) ?_
    exact evn (by omega) h8
  | succ d ih =>
    intro i o c h1 h2 h3 h4 h5 h6 h7
    have hx := dg_rd ha (i : Int) (by omega) (by omega)
    rw [RR_eq] at hx
    have hm : 0 ≤ rd a i * k0 := Int.mul_nonneg hx.1 hk.1
    have hm2 : rd a i * k0 ≤ 9999 * 65536 := Int.mul_le_mul (by omega) hk.2 hk.1 (by omega)
    obtain ⟨r, h8, h9⟩ := ih (i + 1) (o ++ [(c + rd a i * k0) % 10000]) ((c + rd a i * k0) / 10000) (by omega) (by omega) (by simp; omega) (h4.append (Dg.mk (by omega) (by rw [RR_eq]; omega) (Dg.nil _))) (by omega) (by omega)
      (by rw [vl_snoc, h3, vl_take RR a i (by omega), Int.pow_succ, Int.mul_comm (RR ^ i) RR]; exact alg_sm2 h7 (by rw [RR_eq]; omega))
    refine ⟨r, ?_, h9⟩
    refine Ev.step (fun k => by rw [isochroneref01_Small.l0]) ?_
    rw [w64 (x := rd a i * k0) (by omega) (by omega), w64 (x := c + rd a i * k0) (by omega) (by omega), tmod_nn (x := c + rd a i * k0) (by omega), tdiv_nn (x := c + rd a i * k0) (by omega), w64 (x := (c + rd a i * k0) / 10000) (by omega) (by omega), wsucc (i := i) (by omega)]
    exact evp (by omega) (evp (by omega) (evp (by omega) (evp (by omega) h8)))
theorem r_Small_sp {a : List Int} {n k0 c0 : Int} (hn : a.length < 549755813888) (ha : Can RR a n) (hk : 0 ≤ k0 ∧ k0 ≤ 65536) (hc : 0 ≤ c0 ∧ c0 ≤ 65536) : ∃ r, Ev (fun k => isochroneref01_Small.f k a k0 c0) r ∧ Can RR r (n * k0 + c0) ∧ r.length ≤ a.length + 2 := by
  obtain ⟨r, h1, h2⟩ := r_Small_l0 hn ha.1 hk (c0 := c0) a.length 0 [] c0 (by omega) (by omega) rfl (Dg.nil _) hc.1 hc.2 (by simp [vl])
  rw [ha.2.2, Int.add_comm, Int.mul_comm] at h2
  refine ⟨r, ?_, h2, ?_⟩
  · unfold isochroneref01_Small.f
    have e : (a.length : Int) + 2 = ((a.length + 2 : Nat) : Int) := by omega
    rw [e, w64 (by omega) (by omega), Int.toNat_natCast]
    exact evp (by omega) (evp (by omega) h1)
  · refine h2.len_le RR_one ?_
    have h3 := ha.lt RR_pos
    have h4 := ha.nonneg RR_pos
    have h5 : n * k0 ≤ n * 65536 := Int.mul_le_mul_of_nonneg_left hk.2 h4
    have h6 : RR ^ (a.length + 2) = RR ^ a.length * 100000000 := by rw [Int.pow_add]; rfl
    rw [h6]
    omega
theorem r_Int_ev (n : Int) (c : Nat) : ∀ (o : List Int) (cc : Int), cc = (c : Int) → cc < 4611686018427387904 → o.length + c < 17592186044416 → Dg RR o → (c = 0 → Nm o) → vl RR o + cc * RR ^ o.length = n → ∃ r, Ev (fun k => isochroneref01_Int.l0 k cc o) r ∧ Can RR r n := by
  induction c using Nat.strongRecOn with
  | _ c ih =>
    intro o cc hcc hlt hl hd hnm hv
    by_cases h0 : c = 0
    · subst h0
      have e : cc = 0 := by omega
      subst e
      rw [Int.zero_mul, Int.add_zero] at hv
      refine ⟨o, ?_, hd, hnm rfl, hv⟩
      refine Ev.step (fun k => by rw [isochroneref01_Int.l0]) ?_
      exact evn (by omega) (evs _)
    · obtain ⟨r, h1, h2⟩ := ih (c / 10000) (by omega) (o ++ [cc % 10000]) (cc / 10000) (by omega) (by omega) (by simp; omega) (hd.append (Dg.mk (by omega) (by rw [RR_eq]; omega) (Dg.nil _)))
        (by
          intro hz hne
          simp only [List.getLast_append, List.getLast_singleton]
          simp
          omega)
        (by rw [vl_snoc, List.length_append, List.length_singleton, Int.pow_succ, Int.mul_comm (RR ^ o.length) RR]; exact alg_sm hv (by rw [RR_eq]; omega))
      refine ⟨r, ?_, h2⟩
      refine Ev.step (fun k => by rw [isochroneref01_Int.l0]) ?_
      rw [tmod_nn (x := cc) (by omega), tdiv_nn (x := cc) (by omega), w64 (x := cc / 10000) (by omega) (by omega)]
      exact evp (by omega) (evp (by omega) h1)
theorem r_Int_sp {a : Int} (h0 : 0 ≤ a) (h1 : a < 10000000000000) : ∃ r, Ev (fun k => isochroneref01_Int.f k a) r ∧ Can RR r a := by
  obtain ⟨r, h2, h3⟩ := r_Int_ev a a.toNat [] a (by omega) (by omega) (by simp; omega) (Dg.nil _) (fun _ => Nm.nil) (by simp [vl])
  exact ⟨r, Ev.congr (fun k => by rw [isochroneref01_Int.f]) h2, h3⟩
theorem and16 {x : Int} (h0 : 0 ≤ x) (h1 : x < 4294967296) : Go.bits .and .u32 x 65535 = x % 65536 :=
  bits_mask .u32 32 (by decide) (fun n h0 h1 => by rw [IntKind.wrap_u32]; omega) 16 (by decide) x h0 h1
theorem r_Of_ev {a : List Int} (hn : a.length < 137438953472) (ha : Dg WW a) (d : Nat) : ∀ (i : Nat) (o : List Int), i = d → i ≤ a.length → Can RR o (vl WW (a.drop i)) → o.length ≤ 4 * (a.length - i) → ∃ r, Ev (fun k => isochroneref01_Of.l0 k a o ((i : Int) - 1)) r ∧ Can RR r (vl WW a) ∧ r.length ≤ 4 * a.length := by
  induction d with
  | zero =>
    rintro i o rfl h1 h2 h3
    refine ⟨o, ?_, by simpa using h2, by omega⟩
    refine Ev.step (fun k => by rw [isochroneref01_Of.l0]) ?_
    exact evn (by omega) (evs _)
  | succ d ih =>
    rintro i o rfl h1 h2 h3
    have e1 : (((d + 1 : Nat) : Int) - 1) = (d : Int) := by omega
    have hx := dg_rd ha (d : Int) (by omega) (by omega)
    rw [WW_eq] at hx
    obtain ⟨p, h4, h5, h6⟩ := r_Small_sp (k0 := 65536) (c0 := rd a d / 65536) (by omega) h2 (by omega) (by omega)
    obtain ⟨q, h7, h8, h9⟩ := r_Small_sp (k0 := 65536) (c0 := rd a d % 65536) (by omega) h5 (by omega) (by omega)
    have ea : a.drop d = rd a d :: a.drop (d + 1) := by rw [rd_lt a d (by omega)]; exact (List.drop_eq_getElem_cons (by omega))
    have ev : (vl WW (a.drop (d + 1)) * 65536 + rd a d / 65536) * 65536 + rd a d % 65536 = vl WW (a.drop d) := by
      rw [ea, vl, WW_eq]
      omega
    rw [ev] at h8
    obtain ⟨r, h10, h11⟩ := ih d q rfl (by omega) h8 (by omega)
    refine ⟨r, ?_, h11⟩
    refine Ev.step (fun k => by rw [isochroneref01_Of.l0]) ?_
    rw [e1, and16 hx.1 hx.2, w64 (x := rd a d / 65536) (by omega) (by omega), w64 (x := rd a d % 65536) (by omega) (by omega), w64 (x := (d : Int) - 1) (by omega) (by omega)]
    exact evp (by omega) (evp (by omega) (evp (by omega) (Ev.bind h4 (Ev.bind h7 h10))))
theorem r_Of_sp {a : List Int} {n : Int} (hn : a.length < 137438953472) (ha : Can WW a n) : ∃ r, Ev (fun k => isochroneref01_Of.f k a) r ∧ Can RR r n ∧ r.length ≤ 4 * a.length := by
  obtain ⟨r, h1, h2⟩ := r_Of_ev hn ha.1 a.length a.length [] rfl (Nat.le_refl _) (by rw [List.drop_length]; exact Can.zero _) (by simp)
  rw [ha.2.2] at h2
  refine ⟨r, ?_, h2⟩
  unfold isochroneref01_Of.f
  rw [w64 (x := (a.length : Int) - 1) (by omega) (by omega)]
  exact h1
end Go.Proofs.Ytfmobogdnlmdbaa.P
end
section
namespace Go.Proofs.Ytfmobogdnlmdbaa.P
open Go.RowKit Go.Proofs.YtfmobogdnlmdbaaW.PrintWords Go.Proofs.YtfmobogdnlmdbaaW.PrintLast Go.Proofs.YtfmobogdnlmdbaaW.PrintMore
set_option linter.unusedVariables false
theorem drop_set_ge (l : List Int) (i : Nat) (v : Int) : (l.set i v).drop (i + 1) = l.drop (i + 1) := by rw [List.drop_set_of_lt (by omega)]
theorem vl_set_all (B : Int) (l : List Int) (p : Nat) (v : Int) (h : p < l.length) : vl B (l.set p v) = vl B l + (v - rd l (p : Int)) * B ^ p := by
  have h1 := vl_set_mid B l p l.length v h (Nat.le_refl _)
  rwa [List.take_of_length_le (by simp), List.take_length] at h1
theorem alg_carry {T c P V old v c' W : Int} (h : T + c * P = V) (h2 : v + W * c' = c + old) : (T + (v - old) * P) + c' * (W * P) = V := by grind
theorem r_Mul_c {a b : List Int} {V : Int} (hn : a.length + b.length < 68719476736) (hV : V < RR ^ (a.length + b.length)) (s : Int) (R : List Int)
    (hout : ∀ o : List Int, o.length = a.length + b.length + 1 → Dg RR o → vl RR o = V → Ev (fun k => isochroneref01_Mul.l0 k b o a (a.length : Int) (wrap64 (s + 1))) R) (d : Nat) :
    ∀ (p : Nat) (o : List Int) (c : Int), a.length + b.length + 1 - p = d → p ≤ a.length + b.length + 1 → o.length = a.length + b.length + 1 → Dg RR o → 0 ≤ c → c < 10000 → vl RR o + c * RR ^ p = V →
    Ev (fun k => isochroneref01_Mul.l2 k b o c (p : Int) a (a.length : Int) s) R := by
  induction d with
  | zero =>
    intro p o c h1 h2 h3 h4 h5 h6 h7
    have hvo := vl_nonneg RR_pos h4
    have hc : c = 0 := by
      rcases Int.lt_or_eq_of_le h5 with h | h
      · have h8 := pow_le (B := RR) (by have := RR_one; omega) (show a.length + b.length ≤ p by omega)
        have h9 : 1 * RR ^ p ≤ c * RR ^ p := Int.mul_le_mul_of_nonneg_right (by omega) (Int.le_of_lt (Int.pow_pos RR_pos))
        omega
      · omega
    subst hc
    rw [Int.zero_mul, Int.add_zero] at h7
    refine Ev.step (fun k => by rw [isochroneref01_Mul.l2]) ?_
    exact evn (by omega) (hout o h3 h4 h7)
  | succ d ih =>
    intro p o c h1 h2 h3 h4 h5 h6 h7
    by_cases hc : c = 0
    · subst hc
      rw [Int.zero_mul, Int.add_zero] at h7
      refine Ev.step (fun k => by rw [isochroneref01_Mul.l2]) ?_
      exact evn (by omega) (hout o h3 h4 h7)
    · have ho := dg_rd h4 (p : Int) (by omega) (by omega)
      rw [RR_eq] at ho
      have h8 := ih (p + 1) (o.set p ((c + rd o p) % 10000)) ((c + rd o p) / 10000) (by omega) (by omega) (by simpa using h3) (h4.set _ (by omega) (by rw [RR_eq]; omega)) (by omega) (by omega)
        (by rw [vl_set_all _ _ _ _ (by omega), Int.pow_succ, Int.mul_comm (RR ^ p) RR]; exact alg_carry h7 (by rw [RR_eq]; omega))
      refine Ev.step (fun k => by rw [isochroneref01_Mul.l2]) ?_
      rw [w64 (x := c + rd o p) (by omega) (by omega), tmod_nn (x := c + rd o p) (by omega), tdiv_nn (x := c + rd o p) (by omega), w64 (x := (c + rd o p) / 10000) (by omega) (by omega), wsucc (i := p) (by omega), Int.toNat_natCast]
      exact evp (by omega) (evp (by omega) (evp (by omega) h8))
theorem mul_bd4 {x y : Int} (hx : 0 ≤ x ∧ x < 10000) (hy : 0 ≤ y ∧ y < 10000) : 0 ≤ x * y ∧ x * y ≤ 99980001 := by
  have h1 : 0 ≤ x * y := Int.mul_nonneg hx.1 hy.1
  have h2 : x * y ≤ 9999 * 9999 := Int.mul_le_mul (by omega) (by omega) hy.1 (by omega)
  omega
theorem alg_rmul {T va vb x y old P c c' v W xb Pi Pj : Int} (h : T + c * P = va * vb + x * Pi * xb) (h2 : v + W * c' = c + (old + x * y)) (hP : P = Pi * Pj) : (T + (v - old) * P) + c' * (W * P) = va * vb + x * Pi * (xb + y * Pj) := by grind
theorem r_Mul_in {a b : List Int} (hn : a.length + b.length < 68719476736) (ha : Dg RR a) (hb : Dg RR b) (i : Nat) (hi : i < a.length) (R : List Int)
    (hout : ∀ o : List Int, o.length = a.length + b.length + 1 → Dg RR o → vl RR o = vl RR (a.take (i + 1)) * vl RR b → Ev (fun k => isochroneref01_Mul.l0 k b o a (a.length : Int) ((i + 1 : Nat) : Int)) R) (d : Nat) :
    ∀ (j : Nat) (o : List Int) (c : Int), b.length - j = d → j ≤ b.length → o.length = a.length + b.length + 1 → Dg RR o → 0 ≤ c → c < 10000 →
    vl RR o + c * RR ^ (i + j) = vl RR (a.take i) * vl RR b + rd a i * RR ^ i * vl RR (b.take j) →
    Ev (fun k => isochroneref01_Mul.l1 k b o (i : Int) (rd a i) c a (a.length : Int) (i : Int) b (b.length : Int) (j : Int)) R := by
  have hx := dg_rd ha (i : Int) (by omega) (by omega)
  rw [RR_eq] at hx
  induction d with
  | zero =>
    intro j o c h1 h2 h3 h4 h5 h6 h7
    have e : j = b.length := by omega
    subst e
    rw [List.take_length] at h7
    have h8 := alg_mul2 h7
    rw [← vl_take RR a i hi] at h8
    have hlt : vl RR (a.take (i + 1)) * vl RR b < RR ^ (a.length + b.length) := by
      rw [Int.pow_add]
      have q1 := vl_lt RR_pos (ha.take (i + 1))
      have q2 := pow_le (B := RR) (by have := RR_one; omega) (show (a.take (i + 1)).length ≤ a.length by rw [List.length_take]; omega)
      exact mul_lt' (by omega) (vl_lt RR_pos hb) (vl_nonneg RR_pos (ha.take _)) (vl_nonneg RR_pos hb)
    have h9 := r_Mul_c (a := a) (b := b) (V := vl RR (a.take (i + 1)) * vl RR b) hn hlt (i : Int) R (fun o' q1 q2 q3 => by rw [wsucc (i := i) (by omega)]; exact hout o' q1 q2 q3) (a.length + b.length + 1 - (i + b.length)) (i + b.length) o c rfl (by omega) h3 h4 h5 h6 h8
    have ei : ((i : Int) + (b.length : Int)) = ((i + b.length : Nat) : Int) := by omega
    refine Ev.step (fun k => by rw [isochroneref01_Mul.l1]) ?_
    rw [ei, w64 (x := ((i + b.length : Nat) : Int)) (by omega) (by omega)]
    exact evn (by omega) h9
  | succ d ih =>
    intro j o c h1 h2 h3 h4 h5 h6 h7
    have hy := dg_rd hb (j : Int) (by omega) (by omega)
    have ho := dg_rd h4 ((i + j : Nat) : Int) (by omega) (by omega)
    rw [RR_eq] at hy ho
    have hm := mul_bd4 hx hy
    have h8 := ih (j + 1) (o.set (i + j) ((c + (rd o ((i + j : Nat) : Int) + rd a i * rd b j)) % 10000)) ((c + (rd o ((i + j : Nat) : Int) + rd a i * rd b j)) / 10000) (by omega) (by omega) (by simpa using h3) (h4.set _ (by omega) (by rw [RR_eq]; omega)) (by omega) (by omega)
      (by
        rw [vl_set_all _ _ _ _ (by omega), vl_take RR b j (by omega), show i + (j + 1) = i + j + 1 by omega, Int.pow_succ, Int.mul_comm (RR ^ (i + j)) RR]
        exact alg_rmul h7 (by rw [RR_eq]; omega) (Int.pow_add _ _ _))
    have ei : ((i : Int) + (j : Int)) = ((i + j : Nat) : Int) := by omega
    refine Ev.step (fun k => by rw [isochroneref01_Mul.l1]) ?_
    rw [ei, w64 (x := ((i + j : Nat) : Int)) (by omega) (by omega), w64 (x := rd a i * rd b j) (by omega) (by omega), w64 (x := rd o ((i + j : Nat) : Int) + rd a i * rd b j) (by omega) (by omega), w64 (x := c + (rd o ((i + j : Nat) : Int) + rd a i * rd b j)) (by omega) (by omega),
      tmod_nn (x := c + (rd o ((i + j : Nat) : Int) + rd a i * rd b j)) (by omega), tdiv_nn (x := c + (rd o ((i + j : Nat) : Int) + rd a i * rd b j)) (by omega), w64 (x := (c + (rd o ((i + j : Nat) : Int) + rd a i * rd b j)) / 10000) (by omega) (by omega), wsucc (i := j) (by omega), Int.toNat_natCast]
    exact evp (by omega) (evp (by omega) (evp (by omega) (evp (by omega) (evp (by omega) h8))))
theorem r_Mul_out {a b : List Int} (hn : a.length + b.length < 68719476736) (ha : Dg RR a) (hb : Dg RR b) : ∃ R, Can RR R (vl RR a * vl RR b) ∧ R.length ≤ a.length + b.length ∧ ∀ (d i : Nat) (o : List Int), a.length - i = d → i ≤ a.length → o.length = a.length + b.length + 1 → Dg RR o → vl RR o = vl RR (a.take i) * vl RR b →
    Ev (fun k => isochroneref01_Mul.l0 k b o a (a.length : Int) (i : Int)) R := by
  have hnn : 0 ≤ vl RR a * vl RR b := Int.mul_nonneg (vl_nonneg RR_pos ha) (vl_nonneg RR_pos hb)
  obtain ⟨R, hR⟩ := can_ex RR_one hnn
  have hRl : R.length ≤ a.length + b.length := by
    refine hR.len_le RR_one ?_
    rw [Int.pow_add]
    exact mul_lt' (vl_lt RR_pos ha) (vl_lt RR_pos hb) (vl_nonneg RR_pos ha) (vl_nonneg RR_pos hb)
  refine ⟨R, hR, hRl, ?_⟩
  intro d
  induction d with
  | zero =>
    intro i o h1 h2 h3 h4 h5
    have e : i = a.length := by omega
    subst e
    rw [List.take_length] at h5
    obtain ⟨r, h8, h9, h10⟩ := r_trim_sp (l := o) (by omega) h4
    rw [h5] at h9
    rw [can_uniq RR_pos hR h9]
    refine Ev.step (fun k => by rw [isochroneref01_Mul.l0]) ?_
    exact evn (by omega) (Ev.bind h8 (evs _))
  | succ d ih =>
    intro i o h1 h2 h3 h4 h5
    have h6 := r_Mul_in hn ha hb i (by omega) R (fun o' q1 q2 q3 => ih (i + 1) o' (by omega) (by omega) q1 q2 q3) b.length 0 o 0 (by omega) (by omega) h3 h4 (by omega) (by omega) (by rw [h5]; simp [vl])
    refine Ev.step (fun k => by rw [isochroneref01_Mul.l0]) ?_
    exact evp (by omega) (evp (by omega) (evp (by omega) h6))
theorem r_Mul_sp {a b : List Int} {n m : Int} (hn : a.length + b.length < 68719476736) (ha : Can RR a n) (hb : Can RR b m) : ∃ r, Ev (fun k => isochroneref01_Mul.f k a b) r ∧ Can RR r (n * m) ∧ r.length ≤ a.length + b.length := by
  obtain ⟨R, h1, h2, h3⟩ := r_Mul_out hn ha.1 hb.1
  rw [ha.2.2, hb.2.2] at h1
  refine ⟨R, ?_, h1, h2⟩
  have h4 := h3 a.length 0 (List.replicate (a.length + b.length + 1) 0) (by omega) (by omega) (by simp) (Dg.rep RR_pos _) (by simp [vl, vl_rep])
  unfold isochroneref01_Mul.f
  have e : (a.length : Int) + (b.length : Int) = ((a.length + b.length : Nat) : Int) := by omega
  rw [e, w64 (x := ((a.length + b.length : Nat) : Int)) (by omega) (by omega), wsucc (i := a.length + b.length) (by omega), Int.toNat_natCast]
  exact evp (by omega) (evp (by omega) h4)
end Go.Proofs.Ytfmobogdnlmdbaa.P
end
section
namespace Go.Proofs.Ytfmobogdnlmdbaa.P
open Go.RowKit Go.Proofs.YtfmobogdnlmdbaaW.PrintWords Go.Proofs.YtfmobogdnlmdbaaW.PrintLast Go.Proofs.YtfmobogdnlmdbaaW.PrintMore
set_option linter.unusedVariables false
theorem getLast_snoc (l : List Int) (x : Int) (h : l ++ [x] ≠ []) : (l ++ [x]).getLast h = x := by simp
theorem drop_set_self (l : List Int) (i : Nat) (v : Int) (h : i < l.length) : (l.set i v).drop i = v :: l.drop (i + 1) := by
  rw [List.drop_eq_getElem_cons (by simpa using h), List.getElem_set_self, drop_set_ge]
theorem drop_rd (l : List Int) (i : Nat) (h : i < l.length) : l.drop i = rd l i :: l.drop (i + 1) := by
  rw [rd_lt l i h]
  exact List.drop_eq_getElem_cons h
theorem alg_split {t r va q rr d R K : Int} (h : t * K + r = va) (h2 : q * K + rr = r * R + d) : (q + R * t) * K + rr = d + R * va := by grind
theorem r_Split_ev {a : List Int} (hn : a.length < 68719476736) (ha : Dg RR a) {K : Int} (hK : 1 ≤ K ∧ K ≤ 65536) (d : Nat) : ∀ (i : Nat) (o : List Int) (r : Int), i = d → i ≤ a.length → o.length = a.length → Dg RR (o.drop i) → 0 ≤ r → r < K → vl RR (o.drop i) * K + r = vl RR (a.drop i) →
    ∃ q z, Ev (fun k => isochroneref01_Split.l0 k a K o r ((i : Int) - 1)) (q, z) ∧ (∃ m, Can RR q m ∧ m * K + z = vl RR a) ∧ 0 ≤ z ∧ z < K ∧ q.length ≤ a.length := by
  induction d with
  | zero =>
    rintro i o r rfl h1 h2 h3 h4 h5 h6
    rw [List.drop_zero] at h3 h6
    rw [List.drop_zero] at h6
    obtain ⟨q, h7, h8, h9⟩ := r_trim_sp (l := o) (by omega) h3
    refine ⟨q, r, ?_, ⟨_, h8, h6⟩, h4, h5, by omega⟩
    refine Ev.step (fun k => by rw [isochroneref01_Split.l0]) ?_
    exact evn (by omega) (Ev.bind h7 (evs _))
  | succ d ih =>
    rintro i o r rfl h1 h2 h3 h4 h5 h6
    have e1 : (((d + 1 : Nat) : Int) - 1) = (d : Int) := by omega
    have hx := dg_rd ha (d : Int) (by omega) (by omega)
    rw [RR_eq] at hx
    have hv0 : 0 ≤ r * 10000 + rd a d := by omega
    have hq0 : 0 ≤ (r * 10000 + rd a d) / K := Int.ediv_nonneg hv0 (by omega)
    have hq1 : (r * 10000 + rd a d) / K < 10000 := by
      refine Int.ediv_lt_of_lt_mul (by omega) ?_
      have : (r + 1) * 10000 ≤ K * 10000 := Int.mul_le_mul_of_nonneg_right (by omega) (by omega)
      omega
    have hm0 := Int.emod_nonneg (r * 10000 + rd a d) (show K ≠ 0 by omega)
    have hm1 := Int.emod_lt_of_pos (r * 10000 + rd a d) (show 0 < K by omega)
    have hdv : (r * 10000 + rd a d) / K * K + (r * 10000 + rd a d) % K = r * RR + rd a d := by rw [RR_eq]; exact Int.ediv_mul_add_emod _ _
    obtain ⟨q, z, h7, h8⟩ := ih d (o.set d ((r * 10000 + rd a d) / K)) ((r * 10000 + rd a d) % K) rfl (by omega) (by simpa using h2)
      (by rw [drop_set_self _ _ _ (by omega)]; exact Dg.mk hq0 (by rw [RR_eq]; exact hq1) h3) hm0 hm1
      (by rw [drop_set_self _ _ _ (by omega), drop_rd a d (by omega), vl, vl]; exact alg_split h6 hdv)
    refine ⟨q, z, ?_, h8⟩
    refine Ev.step (fun k => by rw [isochroneref01_Split.l0]) ?_
    rw [e1, w64 (x := r * 10000) (by omega) (by omega), w64 (x := r * 10000 + rd a d) (by omega) (by omega), tdiv_nn hv0, tmod_nn hv0, w64 (x := (r * 10000 + rd a d) / K) (by omega) (by omega), w64 (x := (d : Int) - 1) (by omega) (by omega), Int.toNat_natCast]
    exact evp (by omega) (evp (by omega) (evp (by omega) (evn (by omega) (evp (by omega) h7))))
theorem r_Split_sp {a : List Int} {n K : Int} (hn : a.length < 68719476736) (ha : Can RR a n) (hK : 1 ≤ K ∧ K ≤ 65536) : ∃ q, Ev (fun k => isochroneref01_Split.f k a K) (q, n % K) ∧ Can RR q (n / K) ∧ q.length ≤ a.length := by
  obtain ⟨q, z, h1, ⟨m, h2, h3⟩, h4, h5, h6⟩ := r_Split_ev hn ha.1 hK a.length a.length (List.replicate a.length 0) 0 rfl (Nat.le_refl _) (by simp) (by rw [List.drop_of_length_le (by simp)]; exact Dg.nil _) (by omega) (by omega) (by rw [List.drop_of_length_le (by simp), List.drop_of_length_le (by simp)]; simp [vl])
  rw [ha.2.2] at h3
  have e1 : n % K = z := by rw [← h3, Int.add_comm, Int.add_mul_emod_self_right, Int.emod_eq_of_lt h4 h5]
  have e2 : n / K = m := by
    have h7 := Int.ediv_mul_add_emod n K
    rw [e1] at h7
    exact Int.eq_of_mul_eq_mul_right (a := K) (by omega) (by omega)
  rw [e1, e2]
  refine ⟨q, ?_, h2, h6⟩
  unfold isochroneref01_Split.f
  rw [Int.toNat_natCast, w64 (by omega) (by omega)]
  exact evp (by omega) (evp (by omega) h1)
abbrev HH : Int := 65536
theorem HH_eq : HH = 65536 := rfl
theorem vl2 (h : List Int) (i : Nat) (hi : i + 1 < h.length) : vl HH (h.drop i) = rd h i + 65536 * rd h ((i + 1 : Nat) : Int) + WW * vl HH (h.drop (i + 2)) := by
  rw [drop_rd h i (by omega), vl, drop_rd h (i + 1) hi, vl, WW_eq, HH_eq, show i + 1 + 1 = i + 2 from rfl]
  omega
theorem vl1 (h : List Int) (i : Nat) (hi : i + 1 = h.length) : vl HH (h.drop i) = rd h i := by
  rw [drop_rd h i (by omega), vl, List.drop_of_length_le (by omega)]
  simp [vl]
theorem alg_w {vo P x w V W T : Int} (h : vo + P * T = V) (h2 : T = w + W * x) : (vo + w * P) + (W * P) * x = V := by grind
theorem r_Words_out {h : List Int} (hn : h.length < 68719476736) (hd : Dg HH h) (hnm : Nm h) (n : Int) (d : Nat) : ∀ (i : Nat) (o : List Int), h.length - i = d → i = 2 * o.length → Dg WW o → (h.length ≤ i → Nm o) → vl WW o + WW ^ o.length * vl HH (h.drop i) = n →
    ∃ r, Ev (fun k => isochroneref01_Words.l1 k h o (i : Int)) r ∧ Can WW r n := by
  induction d using Nat.strongRecOn with
  | _ d ih =>
    intro i o h1 h2 h3 h4 h5
    by_cases hi : i < h.length
    · have hx := dg_rd hd (i : Int) (by omega) (by omega)
      rw [HH_eq] at hx
      have ei2 : (i : Int) + 2 = ((i + 2 : Nat) : Int) := by omega
      by_cases hi1 : i + 1 < h.length
      · have hy := dg_rd hd ((i + 1 : Nat) : Int) (by omega) (by omega)
        rw [HH_eq] at hy
        have hl : i + 2 = h.length → rd h ((i + 1 : Nat) : Int) ≠ 0 := by
          intro he
          have h6 := hnm.rd (by omega)
          rw [show (h.length : Int) - 1 = ((i + 1 : Nat) : Int) by omega] at h6
          exact h6
        obtain ⟨r, h7, h8⟩ := ih (h.length - (i + 2)) (by omega) (i + 2) (o ++ [rd h i + 65536 * rd h ((i + 1 : Nat) : Int)]) rfl (by simp; omega) (h3.append (Dg.mk (by omega) (by rw [WW_eq]; omega) (Dg.nil _)))
          (by
            intro hle hne
            rw [getLast_snoc]
            have := hl (by omega)
            omega)
          (by rw [vl_snoc, List.length_append, List.length_singleton, Int.pow_succ, Int.mul_comm (WW ^ o.length) WW]; exact alg_w h5 (vl2 h i hi1))
        refine ⟨r, ?_, h8⟩
        refine Ev.step (fun k => by rw [isochroneref01_Words.l1]) ?_
        have ew : (rd h i % 4294967296 + rd h ((i + 1 : Nat) : Int) % 4294967296 * 65536 % 4294967296) % 4294967296 = rd h i + 65536 * rd h ((i + 1 : Nat) : Int) := by omega
        rw [wsucc (i := i) (by omega), ew, ei2, w64 (x := ((i + 2 : Nat) : Int)) (by omega) (by omega)]
        exact evp (by omega) (evp (by omega) (evp (by omega) (evp (by omega) (evp (by omega) h7))))
      · have hl : rd h (i : Int) ≠ 0 := by
          have h6 := hnm.rd (by omega)
          rw [show (h.length : Int) - 1 = (i : Int) by omega] at h6
          exact h6
        obtain ⟨r, h7, h8⟩ := ih (h.length - (i + 2)) (by omega) (i + 2) (o ++ [rd h i]) rfl (by simp; omega) (h3.append (Dg.mk (by omega) (by rw [WW_eq]; omega) (Dg.nil _)))
          (by
            intro hle hne
            rw [getLast_snoc]
            exact hl)
          (by
            rw [vl_snoc, List.length_append, List.length_singleton, Int.pow_succ, Int.mul_comm (WW ^ o.length) WW]
            refine alg_w (T := vl HH (h.drop i)) h5 ?_
            rw [vl1 h i (by omega), List.drop_of_length_le (by omega)]
            simp [vl])
        refine ⟨r, ?_, h8⟩
        refine Ev.step (fun k => by rw [isochroneref01_Words.l1]) ?_
        have ew : rd h i % 4294967296 = rd h i := by omega
        rw [wsucc (i := i) (by omega), ew, ei2, w64 (x := ((i + 2 : Nat) : Int)) (by omega) (by omega)]
        exact evp (by omega) (evp (by omega) (evn (by omega) (evp (by omega) h7)))
    · rw [List.drop_of_length_le (by omega)] at h5
      refine ⟨o, ?_, h3, h4 (by omega), by simpa [vl] using h5⟩
      refine Ev.step (fun k => by rw [isochroneref01_Words.l1]) ?_
      exact evn (by omega) (evs _)
theorem alg_h {vh P m q r K n : Int} (h : vh + m * P = n) (h2 : q * K + r = m) : (vh + r * P) + q * (K * P) = n := by grind
theorem r_Words_in (n : Int) (c : Nat) : ∀ (a h : List Int) (m : Int), m.toNat = c → Can RR a m → a.length + h.length < 17179869184 → h.length + 4 * a.length < 17179869184 → Dg HH h → (m = 0 → Nm h) → vl HH h + m * HH ^ h.length = n → (∀ a' : List Int, a'.length ≤ a.length → True) →
    ∃ r, Ev (fun k => isochroneref01_Words.l0 k a h) r ∧ Can WW r n := by
  induction c using Nat.strongRecOn with
  | _ c ih =>
    intro a h m hm ha hl hl2 hd hnm hv _
    have hm0 := ha.nonneg RR_pos
    by_cases hz : m = 0
    · have e : a = [] := (ha.nil_iff RR_pos).2 hz
      subst hz
      subst e
      rw [Int.zero_mul, Int.add_zero] at hv
      obtain ⟨r, h1, h2⟩ := r_Words_out (by omega) hd (hnm rfl) n h.length 0 [] (by omega) rfl (Dg.nil _) (fun _ => Nm.nil) (by simpa [vl] using hv)
      refine ⟨r, ?_, h2⟩
      refine Ev.step (fun k => by rw [isochroneref01_Words.l0]) ?_
      exact evn (by simp) h1
    · have hal : a.length ≠ 0 := fun h0 => hz ((ha.len_iff RR_pos).1 h0)
      obtain ⟨q, h1, h2, h3⟩ := r_Split_sp (K := 65536) (by omega) ha (by omega)
      have hq : q.length + 1 ≤ a.length := by
        have h4 := ha.lt RR_pos
        have h5 : m / 65536 < RR ^ (a.length - 1) := by
          have h6 : RR ^ a.length = RR ^ (a.length - 1) * RR := by
            conv => lhs; rw [show a.length = a.length - 1 + 1 by omega, Int.pow_succ]
          rw [h6, RR_eq] at h4
          rw [RR_eq]
          omega
        have := h2.len_le RR_one h5
        omega
      obtain ⟨r, h7, h8⟩ := ih (m / 65536).toNat (by omega) q (h ++ [m % 65536]) (m / 65536) rfl h2 (by simp; omega) (by simp; omega) (hd.append (Dg.mk (by omega) (by rw [HH_eq]; omega) (Dg.nil _)))
        (by
          intro hz2 hne
          rw [getLast_snoc]
          omega)
        (by rw [vl_snoc, List.length_append, List.length_singleton, Int.pow_succ, Int.mul_comm (HH ^ h.length) HH]; exact alg_h hv (by rw [HH_eq]; omega)) (fun _ _ => trivial)
      refine ⟨r, ?_, h8⟩
      refine Ev.step (fun k => by rw [isochroneref01_Words.l0]) ?_
      exact evp (by omega) (Ev.bind h1 (evp (by omega) h7))
theorem r_Words_sp {a : List Int} {n : Int} (hn : a.length < 1073741824) (ha : Can RR a n) : ∃ r, Ev (fun k => isochroneref01_Words.f k a) r ∧ Can WW r n := by
  obtain ⟨r, h1, h2⟩ := r_Words_in n n.toNat a [] n rfl ha (by simp; omega) (by simp; omega) (Dg.nil _) (fun _ => Nm.nil) (by simp [vl]) (fun _ _ => trivial)
  exact ⟨r, Ev.congr (fun k => by rw [isochroneref01_Words.f]) h1, h2⟩
theorem eq_ev {a b : List Int} (hl : a.length = b.length) (hn : a.length < 4611686018427387904) (d : Nat) : ∀ i : Nat, a.length - i = d → i ≤ a.length → a.take i = b.take i → ∃ r, Ev (fun k => slices_Equal_uint32_uint32.l0 k a b (a.length : Int) (i : Int)) r ∧ (r = true ↔ a = b) := by
  induction d with
  | zero =>
    intro i h1 h2 h3
    have e : i = a.length := by omega
    subst e
    rw [List.take_length, List.take_of_length_le (by omega)] at h3
    refine ⟨true, ?_, by simp [h3]⟩
    refine Ev.step (fun k => by rw [slices_Equal_uint32_uint32.l0]) ?_
    exact evn (by omega) (evs _)
  | succ d ih =>
    intro i h1 h2 h3
    by_cases he : rd a i = rd b i
    · obtain ⟨r, h4, h5⟩ := ih (i + 1) (by omega) (by omega) (by
        rw [List.take_succ_eq_append_getElem (by omega), List.take_succ_eq_append_getElem (by omega), h3, ← rd_lt a i (by omega), ← rd_lt b i (by omega), he])
      refine ⟨r, ?_, h5⟩
      refine Ev.step (fun k => by rw [slices_Equal_uint32_uint32.l0]) ?_
      rw [wsucc (i := i) (by omega)]
      exact evp (by omega) (evp (by omega) (evp (by omega) (evp (by omega) (evp he h4))))
    · refine ⟨false, ?_, by
        simp only [Bool.false_eq_true, false_iff]
        rintro rfl
        exact he rfl⟩
      refine Ev.step (fun k => by rw [slices_Equal_uint32_uint32.l0]) ?_
      exact evp (by omega) (evp (by omega) (evp (by omega) (evp (by omega) (evn he (evs _)))))
theorem eq_sp (a b : List Int) (hn : a.length < 4611686018427387904) : ∃ r, Ev (fun k => slices_Equal_uint32_uint32.f k a b) r ∧ (r = true ↔ a = b) := by
  unfold slices_Equal_uint32_uint32.f
  by_cases hl : a.length = b.length
  · obtain ⟨r, h1, h2⟩ := eq_ev hl hn a.length 0 (by omega) (by omega) (by simp)
    exact ⟨r, evp (by omega) h1, h2⟩
  · refine ⟨false, evn (by omega) (evs _), ?_⟩
    simp only [Bool.false_eq_true, false_iff]
    rintro rfl
    exact hl rfl
theorem is_sp {l w : List Int} {n : Int} (hn : w.length < 1073741824) (hl : l.length < 4611686018427387904) (h1 : Can WW l n) (h2 : Can RR w n) : Ev (fun k => isochronelaw01_is.f k l w) true := by
  obtain ⟨r, h3, h4⟩ := r_Words_sp hn h2
  obtain ⟨e, h5, h6⟩ := eq_sp l r hl
  have : e = true := h6.2 (can_uniq WW_pos h1 h4)
  subst this
  unfold isochronelaw01_is.f
  exact Ev.bind h3 (Ev.bind h5 (evs _))
theorem valid_sp (l : List Int) (hl : l.length < 4611686018427387904) : ∃ b, isochroneref01_Valid.f l = some b ∧ nat_Valid.f l = some b ∧ (b = true ↔ l.length ≤ 4096 ∧ Nm l) := by
  unfold isochroneref01_Valid.f nat_Valid.f
  by_cases h1 : l.length ≤ 4096
  · by_cases h0 : l.length = 0
    · refine ⟨true, by rw [if_pos (by omega), if_pos (by omega)], by rw [if_pos (by omega), if_pos (by omega)], ?_⟩
      have : l = [] := List.eq_nil_of_length_eq_zero h0
      subst this
      simp
      exact Nm.nil
    · have e : wrap64 ((l.length : Int) - 1) = (l.length : Int) - 1 := w64 (by omega) (by omega)
      rw [e, if_pos (by omega), if_neg (by omega), if_pos (by omega), if_pos (by omega)]
      refine ⟨_, rfl, rfl, ?_⟩
      simp only [bne_iff_ne]
      constructor
      · intro h
        exact ⟨h1, nm_of_rd (fun _ => h)⟩
      · intro h
        exact h.2.rd (by omega)
  · refine ⟨false, by rw [if_neg (by omega)], by rw [if_neg (by omega)], ?_⟩
    simp
    omega
theorem awake_ok : Ev (fun k => isochronelaw01_awake.f k) true := Ev.of (fun k => isochronelaw01_awake.mono k) (k := 60) (by decide +kernel)
end Go.Proofs.Ytfmobogdnlmdbaa.P
end
section
namespace Go.Proofs.Ytfmobogdnlmdbaa.P
open Go.RowKit Go.Proofs.YtfmobogdnlmdbaaW.PrintWords Go.Proofs.YtfmobogdnlmdbaaW.PrintLast Go.Proofs.YtfmobogdnlmdbaaW.PrintMore
set_option linter.unusedVariables false
theorem tab_len : ∀ i : Fin 256, ∃ L : Fin 9, bt (⟨#[0, 1, 2, 2, 3, 3, 3, 3, 4, 4, 4, 4, 4, 4, 4, 4, 5, 5, 5, 5, 5, 5, 5, 5, 5, 5, 5, 5, 5, 5, 5, 5, 6, 6, 6, 6, 6, 6, 6, 6, 6, 6, 6, 6, 6, 6, 6, 6, 6, 6, 6, 6, 6, 6, 6, 6, 6, 6, 6, 6, 6, 6, 6, 6, 7, 7, 7, 7, 7, 7, 7, 7, 7, 7, 7, 7, 7, 7, 7, 7, 7, 7, 7, 7, 7, 7, 7, 7, 7, 7, 7, 7, 7, 7, 7, 7, 7, 7, 7, 7, 7, 7, 7, 7, 7, 7, 7, 7, 7, 7, 7, 7, 7, 7, 7, 7, 7, 7, 7, 7, 7, 7, 7, 7, 7, 7, 7, 7, 8, 8, 8, 8, 8, 8, 8, 8, 8, 8, 8, 8, 8, 8, 8, 8, 8, 8, 8, 8, 8, 8, 8, 8, 8, 8, 8, 8, 8, 8, 8, 8, 8, 8, 8, 8, 8, 8, 8, 8, 8, 8, 8, 8, 8, 8, 8, 8, 8, 8, 8, 8, 8, 8, 8, 8, 8, 8, 8, 8, 8, 8, 8, 8, 8, 8, 8, 8, 8, 8, 8, 8, 8, 8, 8, 8, 8, 8, 8, 8, 8, 8, 8, 8, 8, 8, 8, 8, 8, 8, 8, 8, 8, 8, 8, 8, 8, 8, 8, 8, 8, 8, 8, 8, 8, 8, 8, 8, 8, 8, 8, 8, 8, 8, 8, 8, 8, 8, 8, 8, 8, 8, 8, 8, 8, 8, 8, 8]⟩ : ByteArray) ((i.val : Nat) : Int) = (L.val : Int) ∧ i.val < 2 ^ L.val ∧ (i.val ≠ 0 → 2 ^ (L.val - 1) ≤ i.val ∧ 1 ≤ L.val) := by decide +kernel
theorem tab_len' {x : Int} (h0 : 0 ≤ x) (h1 : x < 256) : ∃ L : Nat, bt (⟨#[0, 1, 2, 2, 3, 3, 3, 3, 4, 4, 4, 4, 4, 4, 4, 4, 5, 5, 5, 5, 5, 5, 5, 5, 5, 5, 5, 5, 5, 5, 5, 5, 6, 6, 6, 6, 6, 6, 6, 6, 6, 6, 6, 6, 6, 6, 6, 6, 6, 6, 6, 6, 6, 6, 6, 6, 6, 6, 6, 6, 6, 6, 6, 6, 7, 7, 7, 7, 7, 7, 7, 7, 7, 7, 7, 7, 7, 7, 7, 7, 7, 7, 7, 7, 7, 7, 7, 7, 7, 7, 7, 7, 7, 7, 7, 7, 7, 7, 7, 7, 7, 7, 7, 7, 7, 7, 7, 7, 7, 7, 7, 7, 7, 7, 7, 7, 7, 7, 7, 7, 7, 7, 7, 7, 7, 7, 7, 7, 8, 8, 8, 8, 8, 8, 8, 8, 8, 8, 8, 8, 8, 8, 8, 8, 8, 8, 8, 8, 8, 8, 8, 8, 8, 8, 8, 8, 8, 8, 8, 8, 8, 8, 8, 8, 8, 8, 8, 8, 8, 8, 8, 8, 8, 8, 8, 8, 8, 8, 8, 8, 8, 8, 8, 8, 8, 8, 8, 8, 8, 8, 8, 8, 8, 8, 8, 8, 8, 8, 8, 8, 8, 8, 8, 8, 8, 8, 8, 8, 8, 8, 8, 8, 8, 8, 8, 8, 8, 8, 8, 8, 8, 8, 8, 8, 8, 8, 8, 8, 8, 8, 8, 8, 8, 8, 8, 8, 8, 8, 8, 8, 8, 8, 8, 8, 8, 8, 8, 8, 8, 8, 8, 8, 8, 8, 8, 8]⟩ : ByteArray) x = (L : Int) ∧ L ≤ 8 ∧ x < 2 ^ L ∧ (x ≠ 0 → 2 ^ (L - 1) ≤ x ∧ 1 ≤ L) := by
  obtain ⟨n, rfl⟩ := Int.eq_ofNat_of_zero_le h0
  obtain ⟨L, h2, h3, h4⟩ := tab_len ⟨n, by omega⟩
  refine ⟨L.val, h2, by omega, by exact_mod_cast h3, fun h => ?_⟩
  obtain ⟨h5, h6⟩ := h4 (show n ≠ 0 by omega)
  exact ⟨by exact_mod_cast h5, h6⟩
theorem sh_pow {x y : Int} {L k : Nat} (h0 : 0 ≤ x) (e : y = x / 2 ^ k) (h1 : y < 2 ^ L) (h2 : 2 ^ (L - 1) ≤ y) (h3 : 1 ≤ L) : x < 2 ^ (k + L) ∧ 2 ^ (k + L - 1) ≤ x := by
  have hp : (0 : Int) < 2 ^ k := Int.pow_pos (by decide)
  have d1 := Int.mul_ediv_add_emod x (2 ^ k)
  have d2 := Int.emod_nonneg x (show (2 : Int) ^ k ≠ 0 by omega)
  have d3 := Int.emod_lt_of_pos x hp
  rw [← e] at d1
  have e2 : k + L - 1 = k + (L - 1) := by omega
  rw [e2, Int.pow_add, Int.pow_add]
  have m1 : (2 : Int) ^ k * (y + 1) ≤ 2 ^ k * 2 ^ L := Int.mul_le_mul_of_nonneg_left (by omega) (by omega)
  have m2 : (2 : Int) ^ k * 2 ^ (L - 1) ≤ 2 ^ k * y := Int.mul_le_mul_of_nonneg_left h2 (by omega)
  rw [Int.mul_add] at m1
  omega
theorem len32_sp {x : Int} (h0 : 0 ≤ x) (h1 : x < 4294967296) : ∃ L : Nat, bits_Len32.f x = some (L : Int) ∧ L ≤ 32 ∧ x < 2 ^ L ∧ (x ≠ 0 → 2 ^ (L - 1) ≤ x ∧ 1 ≤ L) := by
  unfold bits_Len32.f
  by_cases c1 : x ≥ 65536
  · by_cases c2 : x / 65536 ≥ 256
    · have e : x / 65536 / 256 % 256 = x / 2 ^ 24 := by omega
      obtain ⟨L, t1, t2, t3, t4⟩ := tab_len' (x := x / 2 ^ 24) (by omega) (by omega)
      obtain ⟨t5, t6⟩ := t4 (by omega)
      obtain ⟨t7, t8⟩ := sh_pow h0 rfl t3 t5 t6
      refine ⟨24 + L, ?_, by omega, t7, fun _ => ⟨t8, by omega⟩⟩
      rw [if_pos c1, if_pos c2, e, if_pos (by omega), if_pos (by omega), t1, w64 (x := (L : Int)) (by omega) (by omega), w64 (by omega) (by omega)]
      exact congrArg some (by omega)
    · have e : x / 65536 % 256 = x / 2 ^ 16 := by omega
      obtain ⟨L, t1, t2, t3, t4⟩ := tab_len' (x := x / 2 ^ 16) (by omega) (by omega)
      obtain ⟨t5, t6⟩ := t4 (by omega)
      obtain ⟨t7, t8⟩ := sh_pow h0 rfl t3 t5 t6
      refine ⟨16 + L, ?_, by omega, t7, fun _ => ⟨t8, by omega⟩⟩
      rw [if_pos c1, if_neg c2, e, if_pos (by omega), if_pos (by omega), t1, w64 (x := (L : Int)) (by omega) (by omega), w64 (by omega) (by omega)]
      exact congrArg some (by omega)
  · by_cases c2 : x ≥ 256
    · have e : x / 256 % 256 = x / 2 ^ 8 := by omega
      obtain ⟨L, t1, t2, t3, t4⟩ := tab_len' (x := x / 2 ^ 8) (by omega) (by omega)
      obtain ⟨t5, t6⟩ := t4 (by omega)
      obtain ⟨t7, t8⟩ := sh_pow h0 rfl t3 t5 t6
      refine ⟨8 + L, ?_, by omega, t7, fun _ => ⟨t8, by omega⟩⟩
      rw [if_neg c1, if_pos c2, e, if_pos (by omega), if_pos (by omega), t1, w64 (x := (L : Int)) (by omega) (by omega), w64 (by omega) (by omega)]
      exact congrArg some (by omega)
    · have e : x % 256 = x := by omega
      obtain ⟨L, t1, t2, t3, t4⟩ := tab_len' (x := x) (by omega) (by omega)
      refine ⟨L, ?_, by omega, t3, t4⟩
      rw [if_neg c1, if_neg c2, e, if_pos (by omega), if_pos (by omega), t1, w64 (x := (L : Int)) (by omega) (by omega), w64 (by omega) (by omega)]
      exact congrArg some (by omega)
theorem lz32_sp {x : Int} (h0 : 0 ≤ x) (h1 : x < 4294967296) : ∃ L : Nat, bits_LeadingZeros32.f x = some ((32 - L : Nat) : Int) ∧ L ≤ 32 ∧ x < 2 ^ L ∧ (x ≠ 0 → 2 ^ (L - 1) ≤ x ∧ 1 ≤ L) := by
  obtain ⟨L, t1, t2, t3⟩ := len32_sp h0 h1
  refine ⟨L, ?_, t2, t3⟩
  unfold bits_LeadingZeros32.f
  rw [t1, Option.bind_some, w64 (by omega) (by omega)]
  exact congrArg some (by omega)
theorem WW_pow (w : Nat) : WW ^ w = 2 ^ (32 * w) := by rw [Int.pow_mul]; rfl
theorem last_vl {a : List Int} (h : 0 < a.length) : vl WW a = vl WW (a.take (a.length - 1)) + rd a ((a.length : Int) - 1) * WW ^ (a.length - 1) := by
  have e := vl_take WW a (a.length - 1) (by omega)
  rw [Nat.sub_add_cancel h, List.take_length] at e
  rw [e]
  congr 2
  congr 1
  omega
theorem mag_Bits_sp {a : List Int} {n : Int} (hn : a.length < 68719476736) (ha : Can WW a n) : ∃ b : Nat, mag_Bits.f a = some (b : Int) ∧ b ≤ 32 * a.length ∧ (a.length = 0 → b = 0) ∧ (n ≠ 0 → 2 ^ (b - 1) ≤ n ∧ n < 2 ^ b ∧ 1 ≤ b ∧ 32 * (a.length - 1) < b) := by
  unfold mag_Bits.f
  by_cases c : a.length = 0
  · refine ⟨0, by rw [if_pos (by omega)]; rfl, by omega, fun _ => rfl, fun h => absurd ((ha.len_iff WW_pos).1 c) h⟩
  · have hx := dg_rd ha.1 ((a.length : Int) - 1) (by omega) (by omega)
    have hnz := ha.2.1.rd (by omega)
    rw [WW_eq] at hx
    obtain ⟨L, t1, t2, t3, t4⟩ := lz32_sp hx.1 hx.2
    obtain ⟨t5, t6⟩ := t4 hnz
    refine ⟨32 * a.length - (32 - L), ?_, by omega, fun h => absurd h c, fun _ => ?_⟩
    · rw [if_neg (by omega), w64 (x := (a.length : Int) - 1) (by omega) (by omega), if_pos (by omega), if_pos (by omega), t1, Option.bind_some, w64 (x := 32 * (a.length : Int)) (by omega) (by omega), w64 (by omega) (by omega)]
      congr 1
      omega
    · have lv := last_vl (a := a) (by omega)
      rw [ha.2.2] at lv
      have hd := ha.1.take (a.length - 1)
      have l0 := vl_nonneg WW_pos hd
      have l1 := vl_lt WW_pos hd
      rw [List.length_take, Nat.min_eq_left (by omega)] at l1
      have hP : (0 : Int) < WW ^ (a.length - 1) := pow_pos' WW_pos _
      generalize hr : rd a ((a.length : Int) - 1) = r at *
      have e1 : (2 : Int) ^ (32 * a.length - (32 - L)) = 2 ^ L * WW ^ (a.length - 1) := by rw [WW_pow, ← Int.pow_add]; congr 1; omega
      have e2 : (2 : Int) ^ (32 * a.length - (32 - L) - 1) = 2 ^ (L - 1) * WW ^ (a.length - 1) := by rw [WW_pow, ← Int.pow_add]; congr 1; omega
      have m1 : (r + 1) * WW ^ (a.length - 1) ≤ 2 ^ L * WW ^ (a.length - 1) := Int.mul_le_mul_of_nonneg_right (by omega) (by omega)
      have m2 : 2 ^ (L - 1) * WW ^ (a.length - 1) ≤ r * WW ^ (a.length - 1) := Int.mul_le_mul_of_nonneg_right t5 (by omega)
      rw [Int.add_mul] at m1
      rw [e1, e2]
      exact ⟨by omega, by omega, by omega, by omega⟩
end Go.Proofs.Ytfmobogdnlmdbaa.P
end
section
namespace Go.Proofs.Ytfmobogdnlmdbaa.P
open Go.RowKit Go.Proofs.YtfmobogdnlmdbaaW.PrintWords Go.Proofs.YtfmobogdnlmdbaaW.PrintLast Go.Proofs.YtfmobogdnlmdbaaW.PrintMore
set_option linter.unusedVariables false
theorem dg_wf {l : List Int} (h : ∀ x ∈ l, (Lit.int .u32 x).wf = true) : Dg WW l := by
  intro x hx
  have h1 := h x hx
  have h2 : IntKind.u32.min = 0 := rfl
  have h3 : IntKind.u32.max = 4294967295 := rfl
  simp only [Lit.wf, Bool.and_eq_true, decide_eq_true_eq, h2, h3] at h1
  rw [WW_eq]
  omega
theorem can_of {l : List Int} (hd : Dg WW l) (hn : Nm l) : Can WW l (vl WW l) := ⟨hd, hn, rfl⟩
theorem small_sp (a b : List Int) (k : Int) (ha : a.length < 4611686018427387904) (hb : b.length < 4611686018427387904) : ∃ t, isochronelaw01_small.f a b k = some t ∧ (t = true ↔ ((a.length : Int) ≤ k ∧ (b.length : Int) ≤ k ∧ a.length ≤ 4096 ∧ b.length ≤ 4096 ∧ Nm a ∧ Nm b)) := by
  obtain ⟨p, h1, _, h2⟩ := valid_sp a ha
  obtain ⟨q, h3, _, h4⟩ := valid_sp b hb
  unfold isochronelaw01_small.f
  by_cases c1 : (a.length : Int) ≤ k
  · by_cases c2 : (b.length : Int) ≤ k
    · rw [if_pos c1, if_pos c2, h1, h3]
      cases p
      · refine ⟨false, rfl, ?_⟩
        simp only [Bool.false_eq_true, false_iff] at h2 ⊢
        exact fun h => h2 ⟨h.2.2.1, h.2.2.2.2.1⟩
      · cases q
        · refine ⟨false, rfl, ?_⟩
          simp only [Bool.false_eq_true, false_iff] at h4 ⊢
          exact fun h => h4 ⟨h.2.2.2.1, h.2.2.2.2.2⟩
        · refine ⟨true, rfl, ?_⟩
          simp only [true_iff] at h2 h4 ⊢
          exact ⟨c1, c2, h2.1, h4.1, h2.2, h4.2⟩
    · refine ⟨false, by rw [if_pos c1, if_neg c2], ?_⟩
      simp only [Bool.false_eq_true, false_iff]
      exact fun h => c2 h.2.1
  · refine ⟨false, by rw [if_neg c1], ?_⟩
    simp only [Bool.false_eq_true, false_iff]
    exact fun h => c1 h.1
theorem limited_sp {a : List Int} (h : a.length ≤ 4096) : nat_limited.f a = some (a, 0) := by
  unfold nat_limited.f
  rw [if_neg (by omega), if_pos (by simp; omega)]
  rfl
end Go.Proofs.Ytfmobogdnlmdbaa.P
end
section
namespace Go.Proofs.Ytfmobogdnlmdbaa.P
open Go.RowKit Go.Proofs.YtfmobogdnlmdbaaW.PrintWords Go.Proofs.YtfmobogdnlmdbaaW.PrintLast Go.Proofs.YtfmobogdnlmdbaaW.PrintMore
set_option linter.unusedVariables false
theorem can_one : Can WW [1] 1 := ⟨Dg.mk (by decide) (by decide) (Dg.nil _), fun h => by simp, by decide⟩
theorem nat_valid {a : List Int} (hl : a.length ≤ 4096) (hn : Nm a) : nat_Valid.f a = some true := by
  obtain ⟨p, _, h1, h2⟩ := valid_sp a (by omega)
  rw [h1, h2.2 ⟨hl, hn⟩]
end Go.Proofs.Ytfmobogdnlmdbaa.P
end
section
namespace Go.Proofs.Ytfmobogdnlmdbaa.P
open Go.RowKit Go.Proofs.YtfmobogdnlmdbaaW.PrintWords Go.Proofs.YtfmobogdnlmdbaaW.PrintLast Go.Proofs.YtfmobogdnlmdbaaW.PrintMore
set_option linter.unusedVariables false
theorem is_any {l w : List Int} {n m : Int} (hn : w.length < 1073741824) (hl : l.length < 4611686018427387904) (h1 : Can WW l n) (h2 : Can RR w m) : ∃ t, Ev (fun k => isochronelaw01_is.f k l w) t ∧ (t = true ↔ n = m) := by
  obtain ⟨r, h3, h4⟩ := r_Words_sp hn h2
  obtain ⟨e, h5, h6⟩ := eq_sp l r hl
  refine ⟨e, ?_, h6.trans ⟨fun h => ?_, fun h => ?_⟩⟩
  · unfold isochronelaw01_is.f
    exact Ev.bind h3 (Ev.bind h5 (evs _))
  · rw [← h1.2.2, ← h4.2.2, h]
  · subst h
    exact can_uniq WW_pos h1 h4
theorem len64_sp {x : Int} (h0 : 0 ≤ x) (h1 : x < 4294967296) : ∃ L : Nat, Ev (fun k => bits_Len64.f k x) (L : Int) ∧ L ≤ 32 ∧ x < 2 ^ L := by
  have key : ∃ L : Nat, Ev (fun k => bits_Len64.j0 k x 0) (L : Int) ∧ L ≤ 32 ∧ x < 2 ^ L := by
    by_cases c1 : x ≥ 65536
    · by_cases c2 : x / 65536 ≥ 256
      · have e : x / 65536 / 256 % 256 = x / 2 ^ 24 := by omega
        obtain ⟨L, t1, t2, t3, t4⟩ := tab_len' (x := x / 2 ^ 24) (by omega) (by omega)
        obtain ⟨t5, t6⟩ := t4 (by omega)
        obtain ⟨t7, t8⟩ := sh_pow h0 rfl t3 t5 t6
        refine ⟨24 + L, ?_, by omega, t7⟩
        refine Ev.step (fun k => by rw [bits_Len64.j0]) (evk ?_)
        rw [if_pos c1, if_pos c2, e, if_pos (by omega), if_pos (by omega), t1, w64 (x := (L : Int)) (by omega) (by omega), w64 (x := 0 + 16) (by omega) (by omega), w64 (x := 0 + 16 + 8) (by omega) (by omega), w64 (by omega) (by omega)]
        exact congrArg some (by omega)
      · have e : x / 65536 % 256 = x / 2 ^ 16 := by omega
        obtain ⟨L, t1, t2, t3, t4⟩ := tab_len' (x := x / 2 ^ 16) (by omega) (by omega)
        obtain ⟨t5, t6⟩ := t4 (by omega)
        obtain ⟨t7, t8⟩ := sh_pow h0 rfl t3 t5 t6
        refine ⟨16 + L, ?_, by omega, t7⟩
        refine Ev.step (fun k => by rw [bits_Len64.j0]) (evk ?_)
        rw [if_pos c1, if_neg c2, e, if_pos (by omega), if_pos (by omega), t1, w64 (x := (L : Int)) (by omega) (by omega), w64 (x := 0 + 16) (by omega) (by omega), w64 (by omega) (by omega)]
        exact congrArg some (by omega)
    · by_cases c2 : x ≥ 256
      · have e : x / 256 % 256 = x / 2 ^ 8 := by omega
        obtain ⟨L, t1, t2, t3, t4⟩ := tab_len' (x := x / 2 ^ 8) (by omega) (by omega)
        obtain ⟨t5, t6⟩ := t4 (by omega)
        obtain ⟨t7, t8⟩ := sh_pow h0 rfl t3 t5 t6
        refine ⟨8 + L, ?_, by omega, t7⟩
        refine Ev.step (fun k => by rw [bits_Len64.j0]) (evk ?_)
        rw [if_neg c1, if_pos c2, e, if_pos (by omega), if_pos (by omega), t1, w64 (x := (L : Int)) (by omega) (by omega), w64 (x := 0 + 8) (by omega) (by omega), w64 (by omega) (by omega)]
        exact congrArg some (by omega)
      · have e : x % 256 = x := by omega
        obtain ⟨L, t1, t2, t3, t4⟩ := tab_len' (x := x) (by omega) (by omega)
        refine ⟨L, ?_, by omega, t3⟩
        refine Ev.step (fun k => by rw [bits_Len64.j0]) (evk ?_)
        rw [if_neg c1, if_neg c2, e, if_pos (by omega), if_pos (by omega), t1, w64 (x := (L : Int)) (by omega) (by omega), w64 (by omega) (by omega)]
        exact congrArg some (by omega)
  obtain ⟨L, k1, k2⟩ := key
  exact ⟨L, by unfold bits_Len64.f; exact evn (by omega) k1, k2⟩
theorem shr_i64 {x : Int} {c : Nat} (hc : c ≤ 63) : shr .i64 x (c : Int) = x / 2 ^ c := by
  have hm : min c IntKind.i64.bits = c := by
    have : IntKind.i64.bits = 64 := rfl
    omega
  unfold shr
  rw [Int.toNat_natCast, hm]
theorem and1 {x : Int} (h0 : 0 ≤ x) (h1 : x < 4294967296) : Go.bits .and .i64 x 1 = x % 2 :=
  bits_mask .i64 32 (by decide) (fun n h0 h1 => by rw [IntKind.wrap_i64]; omega) 1 (by decide) x h0 h1
theorem nat_Pow_ev {a : List Int} {v : Int} {N : Nat} (hl : a.length ≤ 4) (ha : Can WW a v) (hv : 1 ≤ v) (hN : N ≤ 131072) {z : List Int} {R : List Int × Int} (hz : Can WW z (v ^ N)) (hR : nat_limited.f z = some R) (c : Nat) : c ≤ 32 → ∀ o : List Int, Can WW o (v ^ (N / 2 ^ c)) →
    Ev (fun k => nat_Pow.l0 k a (N : Int) o ((c : Int) - 1)) R := by
  have hvW : v < WW ^ 4 := Int.lt_of_lt_of_le (ha.lt WW_pos) (pow_le (by decide) hl)
  have big : ∀ m : Nat, m ≤ 131072 → ∀ l : List Int, Can WW l (v ^ m) → l.length ≤ 524289 := by
    intro m hm l hl
    have h1 : v ^ m ≤ (WW ^ 4) ^ m := by
      have : v.toNat ^ m ≤ (WW ^ 4).toNat ^ m := Nat.pow_le_pow_left (by omega) m
      have e1 : v = (v.toNat : Int) := by omega
      have e2 : (WW ^ 4 : Int) = ((WW ^ 4).toNat : Int) := by decide
      rw [e1, e2]
      exact_mod_cast this
    rw [← Int.pow_mul] at h1
    have h2 : v ^ m < WW ^ (4 * m + 1) := by
      rw [Int.pow_succ]
      have h3 : (0 : Int) < WW ^ (4 * m) := pow_pos' WW_pos _
      have h4 : WW ^ (4 * m) * 1 < WW ^ (4 * m) * WW := Int.mul_lt_mul_of_pos_left (by decide) h3
      omega
    have h5 := hl.len_le WW_one h2
    have : 4 * m + 1 ≤ 524289 := by omega
    omega
  induction c with
  | zero =>
    intro _ o ho
    rw [Nat.pow_zero, Nat.div_one] at ho
    have e := can_uniq WW_pos ho hz
    subst e
    refine Ev.step (fun k => by rw [nat_Pow.l0]) ?_
    exact evn (by omega) (evb hR (evs _))
  | succ c ih =>
    intro hc o ho
    have hdiv : N / 2 ^ (c + 1) = N / 2 ^ c / 2 := by rw [Nat.pow_succ, Nat.div_div_eq_div_mul]
    have hle : N / 2 ^ c ≤ N := Nat.div_le_self _ _
    have hsh : (N : Int) / 2 ^ c = ((N / 2 ^ c : Nat) : Int) := by exact_mod_cast rfl
    generalize hm : N / 2 ^ c = m at *
    rw [hdiv] at ho
    have lo := big _ (by omega) o ho
    obtain ⟨p, p1, p2, p3⟩ := mag_Mul_sp (by omega) ho ho
    rw [← Int.pow_add] at p2
    refine Ev.step (fun k => by rw [nat_Pow.l0]) ?_
    rw [show ((c + 1 : Nat) : Int) - 1 = (c : Int) by omega, shr_i64 (by omega), hsh, and1 (by omega) (by omega), w64 (x := (c : Int) - 1) (by omega) (by omega)]
    refine evp (by omega) (Ev.bind p1 (evp (by omega) ?_))
    by_cases c1 : (m : Int) % 2 = 1
    · have lp := big _ (by omega) p p2
      obtain ⟨q, q1, q2, q3⟩ := mag_Mul_sp (by omega) p2 ha
      rw [← Int.pow_succ, show (m / 2 + m / 2).succ = m by omega] at q2
      exact evp c1 (Ev.bind q1 (ih (by omega) q q2))
    · rw [show m / 2 + m / 2 = m by omega] at p2
      exact evn c1 (ih (by omega) p p2)
theorem r_Pow_ev {a : List Int} {v : Int} (hl : a.length ≤ 16) (ha : Can RR a v) (N : Nat) (hN : N ≤ 60) (d : Nat) : ∀ (i : Nat) (o : List Int), N - i = d → i ≤ N → Can RR o (v ^ i) → o.length ≤ 16 * i + 1 →
    ∃ r, Ev (fun k => isochroneref01_Pow.l0 k a o (N : Int) (i : Int)) r ∧ Can RR r (v ^ N) ∧ r.length ≤ 16 * N + 1 := by
  induction d with
  | zero =>
    intro i o h1 h2 h3 h4
    have e : i = N := by omega
    subst e
    refine ⟨o, ?_, h3, h4⟩
    refine Ev.step (fun k => by rw [isochroneref01_Pow.l0]) ?_
    exact evn (by omega) (evs _)
  | succ d ih =>
    intro i o h1 h2 h3 h4
    obtain ⟨p, p1, p2, p3⟩ := r_Mul_sp (by omega) h3 ha
    rw [← Int.pow_succ] at p2
    obtain ⟨r, r1, r2⟩ := ih (i + 1) p (by omega) (by omega) p2 (by omega)
    refine ⟨r, ?_, r2⟩
    refine Ev.step (fun k => by rw [isochroneref01_Pow.l0]) ?_
    rw [wsucc (i := i) (by omega)]
    exact evp (by omega) (Ev.bind p1 r1)
theorem r_Pow_sp {a : List Int} {v : Int} (hl : a.length ≤ 16) (ha : Can RR a v) (N : Nat) (hN : N ≤ 60) : ∃ r, Ev (fun k => isochroneref01_Pow.f k a (N : Int)) r ∧ Can RR r (v ^ N) ∧ r.length ≤ 16 * N + 1 := by
  obtain ⟨r, r1, r2⟩ := r_Pow_ev hl ha N hN N 0 [1] (by omega) (by omega) (by rw [Int.pow_zero]; exact ⟨Dg.mk (by decide) (by decide) (Dg.nil _), fun h => by simp, by decide⟩) (by simp)
  exact ⟨r, by unfold isochroneref01_Pow.f; exact r1, r2⟩
end Go.Proofs.Ytfmobogdnlmdbaa.P
end
section
namespace Go.Proofs.Ytfmobogdnlmdbaa.P
open Go.RowKit Go.Proofs.YtfmobogdnlmdbaaW.PrintWords Go.Proofs.YtfmobogdnlmdbaaW.PrintLast Go.Proofs.YtfmobogdnlmdbaaW.PrintMore
set_option linter.unusedVariables false
theorem sel {α : Type} {a : List Int} {v : Int} (ha : Can WW a v) : ∃ t : Bool, (t = true ↔ v = 0 ∨ v = 1) ∧ ∀ (F : Nat → Bool → Option α) (R : α), Ev (fun k => F k t) R → Ev (fun k => if (a.length : Int) = 0 then F k true else (if (a.length : Int) = 1 then (if 0 < (a.length : Int) then F k ((rd a 0) == 1) else none) else F k false)) R := by
  by_cases c0 : a.length = 0
  · exact ⟨true, by simp [(ha.len_iff WW_pos).1 c0], fun F R h => evp (by omega) h⟩
  · by_cases c1 : a.length = 1
    · have e1 : v = rd a 0 := by
        have := last_vl (a := a) (by omega)
        rw [ha.2.2, c1] at this
        simpa [vl] using this
      have hz : v ≠ 0 := fun h => c0 ((ha.len_iff WW_pos).2 h)
      refine ⟨rd a 0 == 1, ?_, fun F R h => evn (by omega) (evp (by omega) (evp (by omega) h))⟩
      rw [beq_iff_eq, ← e1]
      exact ⟨fun h => .inr h, fun h => h.resolve_left hz⟩
    · refine ⟨false, ?_, fun F R h => evn (by omega) (evn (by omega) h)⟩
      have h1 := ha.ge WW_pos c0
      have h2 := pow_le (B := WW) (by decide) (show 1 ≤ a.length - 1 by omega)
      rw [show WW ^ 1 = 4294967296 from rfl] at h2
      simp only [Bool.false_eq_true, false_iff]
      omega
theorem nat_Pow_sp {a : List Int} {v : Int} (hl : a.length ≤ 4) (ha : Can WW a v) (N : Nat) (hN : N < 9223372036854775808) : ∃ p e, Ev (fun k => nat_Pow.f k a (N : Int)) (p, e) ∧ (N = 0 → p = [1] ∧ e = 0) ∧ ((v = 0 ∨ v = 1) → 0 < N → p = a ∧ e = 0) ∧ (¬ (v = 0 ∨ v = 1) → N ≤ 60 → Can WW p (v ^ N) ∧ e = 0 ∧ p.length ≤ 4096) ∧ (¬ (v = 0 ∨ v = 1) → 131072 ≤ N → p = [] ∧ e = 2) := by
  have hv0 := ha.nonneg WW_pos
  have hval := nat_valid (a := a) (by omega) ha.2.1
  obtain ⟨t, ht, hsel⟩ := sel (α := List Int × Int) ha
  by_cases c0 : N = 0
  · subst c0
    refine ⟨[1], 0, ?_, fun _ => ⟨rfl, rfl⟩, fun _ h => absurd h (Nat.lt_irrefl _), fun _ _ => ⟨by rw [Int.pow_zero]; exact can_one, rfl, by simp⟩, fun _ h => by omega⟩
    unfold nat_Pow.f
    exact evb hval (evp rfl (evn (by omega) (evp (by omega) (evs _))))
  · have start : ∀ R, Ev (fun k => nat_Pow.j0 k a (N : Int) t) R → Ev (fun k => nat_Pow.f k a (N : Int)) R := by
      intro R h
      unfold nat_Pow.f
      exact evb hval (evp rfl (evn (by omega) (evn (by omega) (hsel (fun k b => nat_Pow.j0 k a (N : Int) b) R h))))
    by_cases ct : v = 0 ∨ v = 1
    · have : t = true := ht.2 ct
      subst this
      refine ⟨a, 0, start _ ?_, fun h => absurd h c0, fun _ _ => ⟨rfl, rfl⟩, fun h => absurd ct h, fun h => absurd ct h⟩
      refine Ev.step (fun k => by rw [nat_Pow.j0]) ?_
      exact evp rfl (evb (limited_sp (by omega)) (evs _))
    · have : t = false := by
        cases t
        · rfl
        · exact absurd (ht.1 rfl) ct
      subst this
      by_cases cb : N > 131072
      · refine ⟨[], 2, start _ ?_, fun h => absurd h c0, fun h => absurd h ct, fun _ h => by omega, fun _ _ => ⟨rfl, rfl⟩⟩
        refine Ev.step (fun k => by rw [nat_Pow.j0]) ?_
        exact evn (by simp) (evp (by omega) (evs _))
      · obtain ⟨b, b1, b2, b3, b4⟩ := mag_Bits_sp (by omega) ha
        obtain ⟨b5, b6, b7, b8⟩ := b4 (by omega)
        have hb2 : 2 ≤ b := by
          rcases Nat.lt_or_ge b 2 with c | c
          · have : b = 1 := by omega
            subst this
            rw [show (2 : Int) ^ 1 = 2 from rfl] at b6
            omega
          · exact c
        have hprod : (((b - 1 : Nat) : Int)) * (N : Int) = (((b - 1) * N : Nat) : Int) := by exact_mod_cast rfl
        have hpb : (b - 1) * N ≤ 127 * N := Nat.mul_le_mul_right N (by omega)
        have hpb2 : 1 * N ≤ (b - 1) * N := Nat.mul_le_mul_right N (by omega)
        have hw : wrap64 (wrap64 ((b : Int) - 1) * (N : Int)) = (((b - 1) * N : Nat) : Int) := by
          rw [w64 (x := (b : Int) - 1) (by omega) (by omega), show (b : Int) - 1 = ((b - 1 : Nat) : Int) by omega, hprod, w64 (by omega) (by omega)]
        by_cases cc : (b - 1) * N ≥ 131072
        · refine ⟨[], 2, start _ ?_, fun h => absurd h c0, fun h => absurd h ct, fun _ h => by omega, fun _ _ => ⟨rfl, rfl⟩⟩
          refine Ev.step (fun k => by rw [nat_Pow.j0]) ?_
          refine evn (by simp) (evn (by omega) (evb b1 ?_))
          rw [hw]
          exact evp (by omega) (evs _)
        · obtain ⟨z, hz⟩ := can_ex WW_one (n := v ^ N) (Int.le_of_lt (Int.pow_pos (by omega)))
          have hzl : N ≤ 60 → z.length ≤ 4096 := by
            intro h60
            have hvW : v < WW ^ 4 := Int.lt_of_lt_of_le (ha.lt WW_pos) (pow_le (by decide) hl)
            have h1 : v ^ N ≤ (WW ^ 4) ^ N := by
              have : v.toNat ^ N ≤ (WW ^ 4).toNat ^ N := Nat.pow_le_pow_left (by omega) N
              have e1 : v = (v.toNat : Int) := by omega
              have e2 : (WW ^ 4 : Int) = ((WW ^ 4).toNat : Int) := by decide
              rw [e1, e2]
              exact_mod_cast this
            rw [← Int.pow_mul] at h1
            have h2 : v ^ N < WW ^ (4 * N + 1) := by
              rw [Int.pow_succ]
              have h3 : (0 : Int) < WW ^ (4 * N) := pow_pos' WW_pos _
              have h4 : WW ^ (4 * N) * 1 < WW ^ (4 * N) * WW := Int.mul_lt_mul_of_pos_left (by decide) h3
              omega
            have := hz.len_le WW_one h2
            omega
          have hloop : ∀ R, nat_limited.f z = some R → Ev (fun k => nat_Pow.f k a (N : Int)) R := by
            intro R hR
            obtain ⟨L, l1, l2, l3⟩ := len64_sp (x := (N : Int)) (by omega) (by omega)
            have hdz : N / 2 ^ L = 0 := Nat.div_eq_of_lt (by exact_mod_cast l3)
            have := nat_Pow_ev hl ha (by omega) (by omega) hz hR L l2 [1] (by rw [hdz, Int.pow_zero]; exact can_one)
            refine start _ (Ev.step (fun k => by rw [nat_Pow.j0]) ?_)
            have hlen : Ev (fun k => bits_Len.f k (N : Int)) (L : Int) := by
              unfold bits_Len.f
              exact Ev.bind l1 (evs _)
            refine evn (by simp) (evn (by omega) (evb b1 ?_))
            rw [hw, u64 (x := (N : Int)) (by omega) (by omega)]
            refine evn (by omega) (Ev.bind hlen ?_)
            rw [w64 (x := (L : Int) - 1) (by omega) (by omega)]
            exact this
          by_cases h60 : N ≤ 60
          · exact ⟨z, 0, hloop _ (limited_sp (hzl h60)), fun h => absurd h c0, fun h => absurd h ct, fun _ _ => ⟨hz, rfl, hzl h60⟩, fun _ h => by omega⟩
          · obtain ⟨R, hR⟩ : ∃ R, nat_limited.f z = some R := by
              by_cases c : z.length ≤ 4096
              · exact ⟨_, limited_sp c⟩
              · refine ⟨([], 2), ?_⟩
                unfold nat_limited.f
                rw [if_pos (by omega)]
            exact ⟨R.1, R.2, hloop _ hR, fun h => absurd h c0, fun h => absurd h ct, fun _ h => absurd h h60, fun _ h => by omega⟩
theorem NatPowers : isochronelaw01_NatPowers.Pure := by
  intro a N ha1 ha2 ha3 hN
  have bN : -9223372036854775808 ≤ N ∧ N ≤ 9223372036854775807 := by
    have e1 : IntKind.i64.min = -9223372036854775808 := rfl
    have e2 : IntKind.i64.max = 9223372036854775807 := rfl
    simpa only [Lit.wf, Bool.and_eq_true, decide_eq_true_eq, e1, e2] using hN
  refine Ev.rounds ?_
  unfold isochronelaw01_NatPowers.f
  refine Ev.bind awake_ok (evp rfl ?_)
  obtain ⟨t, ht, hti⟩ := small_sp a [] 4 (by omega) (by simp)
  refine evb ht ?_
  cases t with
  | false => exact evn (by simp) (evs _)
  | true =>
    obtain ⟨c1, c2, c3, c4, na, nb⟩ := hti.1 rfl
    refine evp rfl ?_
    have ca := can_of (dg_wf ha3) na
    generalize hv : vl WW a = v at ca
    have hv0 := ca.nonneg WW_pos
    by_cases cn : N < 0
    · have hp : Ev (fun k => nat_Pow.f k a N) ([], 1) := by
        unfold nat_Pow.f
        exact evb (nat_valid c3 na) (evp rfl (evp cn (evs _)))
      refine Ev.bind hp (evp cn (evp rfl ?_))
      exact evs _
    · obtain ⟨M, rfl⟩ := Int.eq_ofNat_of_zero_le (show 0 ≤ N by omega)
      obtain ⟨p, e, p1, p2, p3, p4, p5⟩ := nat_Pow_sp (by omega) ca M (by omega)
      obtain ⟨s, hs, hsel⟩ := sel (α := Bool) ca
      refine Ev.bind p1 (evn cn (hsel (fun k b => isochronelaw01_NatPowers.j0 k a (M : Int) p e b) true ?_))
      refine Ev.step (fun k => by rw [isochronelaw01_NatPowers.j0]) ?_
      obtain ⟨x, x1, x2, x3⟩ := r_Of_sp (by omega) ca
      cases s with
      | true =>
        have ct := hs.1 rfl
        refine evp rfl ?_
        by_cases c0 : M = 0
        · obtain ⟨rfl, rfl⟩ := p2 c0
          subst c0
          obtain ⟨o, o1, o2⟩ := r_Int_sp (a := 1) (by omega) (by omega)
          have lo : o.length ≤ 1 := o2.len_le RR_one (k := 1) (by decide)
          have hi := is_sp (by omega) (by simp) can_one o2
          obtain ⟨t2, t3, t4⟩ := is_any (l := [1]) (w := x) (by omega) (by simp) can_one x2
          refine evp rfl (Ev.bind x1 (Ev.bind t3 ?_))
          cases t2
          · exact evn (by simp) (evp (by omega) (Ev.bind o1 (Ev.bind hi (evs _))))
          · exact evp rfl (evn (by omega) (evp (by omega) (Ev.bind o1 (Ev.bind hi (evs _)))))
        · obtain ⟨rfl, rfl⟩ := p3 ct (by omega)
          have hi := is_sp (by omega) (by omega) ca x2
          exact evp rfl (Ev.bind x1 (Ev.bind hi (evp rfl (evp (by omega) (evs _)))))
      | false =>
        have ct : ¬ (v = 0 ∨ v = 1) := fun h => by have := hs.2 h; simp at this
        refine evn (by simp) ?_
        by_cases c6 : M ≤ 60
        · obtain ⟨q1, rfl, q3⟩ := p4 ct c6
          obtain ⟨r, r1, r2, r3⟩ := r_Pow_sp (by omega) x2 M c6
          exact evp (by omega) (evp rfl (Ev.bind x1 (Ev.bind r1 (Ev.bind (is_sp (by omega) (by omega) q1 r2) (evs _)))))
        · by_cases c7 : M ≥ 131072
          · obtain ⟨rfl, rfl⟩ := p5 ct c7
            refine evn (by omega) (evp (by omega) (evp rfl ?_))
            exact evs _
          · exact evn (by omega) (evn (by omega) (evs _))
end Go.Proofs.Ytfmobogdnlmdbaa.P
namespace Go.Proofs.Ytfmobogdnlmdbaa.Pure
theorem NatPowers : P.isochronelaw01_NatPowers.Pure := P.NatPowers
end Go.Proofs.Ytfmobogdnlmdbaa.Pure
end
section
namespace Go.Proofs.YtfmobogdnlmdbaaW.PrintWords
open Go.ChangeShapes Go.WideShapes
theorem sized_ints {H : Type} {enc : TypeId × Value → H} {P : Program} {W : World} {base : Nat} {spare : Nat → Bool} {held : Bool} {t e : TypeId} {k : IntKind} {a : Option Addr} {len cap : Nat} {d : DataW H} {ps : List MemPlace} {ts : List TypeId} {ds : List (DataW H)} {j : Nat}
    (hsz : (DataW.weightsEach P ts ds).all (· ≤ reachBytes) = true) (ht : ts[j]? = some t) (hd : ds[j]? = some d) (hu : P.underlying t = some (.slice e)) (he : P.underlying e = some (.int k)) (hc : P.cellsOf e = 1) {B : Nat} (hB : P.bytesOf e = B)
    (h : DataW.Trod enc P W base spare held t (.slice a len cap) d ps) : len * B ≤ 140737488351232 := by
  obtain ⟨fuel, hf⟩ := h
  rcases open_ints hu he hc hf with ⟨hcs, _⟩ | ⟨x, l, c, zs, hcs, _, hl, _, hz, hx, _, _⟩
  · simp [Value.cells] at hcs
    obtain ⟨rfl, rfl, rfl⟩ := hcs
    simp
  · simp [Value.cells] at hcs
    obtain ⟨rfl, rfl, rfl⟩ := hcs
    obtain ⟨hx, _⟩ := Prod.mk.inj hx
    subst hx
    have z := sized_slice hsz ht hd hu
    rw [hB] at z
    have hl2 : len ≤ zs.length := by
      rw [hz]
      split
      · exact hl
      · exact Nat.le_refl _
    have h1 : (lits (H := H) k (zs.take len)).length + (lits (H := H) k (zs.drop len)).length = zs.length := by
      simp [lits]
      omega
    rw [h1] at z
    exact Nat.le_trans (Nat.mul_le_mul_right _ hl2) z
end Go.Proofs.YtfmobogdnlmdbaaW.PrintWords
end
section
namespace Go.Proofs.Ytfmobogdnlmdbaa.natPowers
open Go.ChangeShapes Go.WideShapes Go.ChangeAt Go.RowKit
open Go.ChangeMaps (open_string shut_string)
set_option linter.unusedVariables false
theorem own : ownKnob Try.prog.godebug = none := by kernel_rfl
theorem laidOut : laidOutB Try.prog = true := by kernel_rfl
def IsRow (k : IntKind) (w : World) (a : Option Addr) (len cap : Nat) (zs : List Int) : Prop :=
  (a = none ∧ len = 0 ∧ cap = 0 ∧ zs = []) ∨
  ∃ x, a = some x ∧ len ≤ cap ∧ cap ≤ maxLen ∧ zs.length = cap ∧ (∀ i, i < zs.length → w.cell? (x.add i) = some (.int k (zs.getD i 0))) ∧ ∀ n ∈ zs, (Lit.int k n).wf = true
set_option maxRecDepth 100000 in
theorem lifted (os : Os) (started : os.Started) (H : Type) (enc : TypeId × Value → H) :
    ReturnsInHanded {} Try.checked os 8 .any (Rows.natPowersSpec.pre6 enc Try.prog Try.f8 Rows.natPowersRow.domain false) (Rows.natPowersSpec.post enc Try.prog Try.f8 false true false false) := by
  refine returnsInHanded_of_change_sized (C := Try.checked) own started (by kernel_rfl) Try.func8
    (ChangeSpec.witness6 (enc := enc) (C := Try.checked) false ⟨#[], #[.slice none 0 0, .int .i64 0], []⟩ 8 (by kernel_rfl) (by kernel_rfl) (by kernel_rfl) (by kernel_rfl)) ?_
  intro W base args ds gs before hval0 hW hcnd hsz0 _
  have hsz : (DataW.weightsEach Try.prog (Try.f8.params.toList ++ Rows.natPowersSpec.plain.varTypes Try.prog) (ds ++ gs)).all (· ≤ reachBytes) = true := hsz0
  have hval : ∀ (j : Nat) t v, Try.f8.params[j]? = some t → args[j]? = some v → Value.okWide Try.prog W .any base t v := hval0
  have hW' := hW
  obtain ⟨p, q, hA0, hV, rfl, hfz, hnd⟩ := hW
  have hA : DataW.TrodAll enc Try.prog W 0 (fun _ => true) true Try.f8.params.toList args.toList ds p := hA0
  rw [Try.params8] at hA hval hsz
  obtain ⟨v0, vs0, d0, ds0, p0, q0, hargs, rfl, rfl, h0, r0⟩ := trodAll_cons hA
  obtain ⟨v1, vs1, d1, ds1, p1, q1, rfl, rfl, rfl, h1, r1⟩ := trodAll_cons r0
  obtain ⟨rfl, rfl, rfl⟩ := trodAll_nil r1
  obtain rfl : args = #[v0, v1] := by cases args; simp_all
  obtain ⟨rfl, rfl⟩ := trodVars_none hV
  obtain ⟨a0, len0, cap0, rfl⟩ := okWide_slice Try.underlying22 (hval 0 22 v0 rfl rfl)
  have k0 := h0
  have lt0 : ∀ x ∈ p0, x.block < W.heap.size := by obtain ⟨m, hm⟩ := k0; exact DataW.trod_lt m _ _ _ hm
  obtain ⟨z0, w0⟩ : ∃ zs, IsRow .u32 W a0 len0 cap0 zs := by
    obtain ⟨fuel, hf⟩ := h0
    rcases open_ints Try.underlying22 Try.underlying36 (by kernel_rfl) hf with ⟨hcs, _⟩ | ⟨x, l, c, zs, hcs, _, hl, hm, hz, _, hcell, hwz⟩
    · simp [Value.cells] at hcs
      obtain ⟨rfl, rfl, rfl⟩ := hcs
      exact ⟨[], .inl ⟨rfl, rfl, rfl, rfl⟩⟩
    · simp [Value.cells] at hcs
      obtain ⟨rfl, rfl, rfl⟩ := hcs
      exact ⟨zs, .inr ⟨_, rfl, hl, hm, by simpa using hz, hcell, hwz⟩⟩
  have y0 : len0 * 4 ≤ 140737488351232 := Go.Proofs.YtfmobogdnlmdbaaW.PrintWords.sized_ints hsz (j := 0) (t := 22) rfl rfl Try.underlying22 Try.underlying36 (by kernel_rfl) (by kernel_rfl) h0
  obtain ⟨a1, rfl, rfl, rfl, w1⟩ := open_int Try.underlying3 (hval 1 3 v1 rfl rfl) h1
  clear hA0 hval0 hsz0 hsz
  refine (P.isochronelaw01_NatPowers.walk Pure.NatPowers a0 len0 cap0 z0 a1 W w0 y0 w1).mono fun e W' ⟨he, bel⟩ => ?_
  subst he
  exact ⟨_, rfl, _, _, _, [], _, [], hW', trodAll_mk1 (shut_bool Try.underlying4 _), (trodAll_cons_mk (Below.trod laidOut (by kernel_rfl) (of_decide_eq_true (by kernel_rfl)) k0 bel lt0) (trodAll_cons_mk (shut_int Try.underlying3 w1) trodAll_mk0)), rfl, bel.frame _, fun h => by cases h⟩
theorem over : Rows.natPowersRow.holds Try.pinned (OpenSpec.ofChange Rows.natPowersSpec) :=
  OpenClaim.holds_of_wide 8 Try.f8 rfl rfl rfl rfl rfl rfl rfl ⟨rfl, rfl, rfl, rfl, rfl⟩ rfl rfl rfl rfl rfl (by kernel_rfl) Try.func8 (by kernel_rfl)
    (of_decide_eq_true (by kernel_rfl)) (by unfold Func.isWrapper; first | (rw [if_pos (by decide +kernel)]; kernel_rfl) | (rw [if_neg (by decide +kernel)]; exact ⟨rfl, rfl⟩))
    (fun os started H enc _ => lifted os started H enc)
theorem proved : Rows.NatPowersSaid := over
#print axioms proved
end Go.Proofs.Ytfmobogdnlmdbaa.natPowers
namespace Go.Proofs.Ytfmobogdnlmdbaa
theorem natPowers_holds : Rows.NatPowersSaid := natPowers.proved
end Go.Proofs.Ytfmobogdnlmdbaa
end
