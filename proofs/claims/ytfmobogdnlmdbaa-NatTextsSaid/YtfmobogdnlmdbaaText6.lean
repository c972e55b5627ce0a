/- NatTexts: Text returns the decimal digits of a magnitude of at most 40 words, Parse of them the magnitude; Parse of another string returns its number, ErrSyntax or ErrLimit, for every input. No condition. (text 6 of 7) -/
import Derived.Laws.BitsLemmas
import Derived.Test.YtfmobogdnlmdbaaText5
section
namespace Go.Proofs.Ytfmobogdnlmdbaa.P
open Go.RowKit Go.Proofs.YtfmobogdnlmdbaaW.PrintWords Go.Proofs.YtfmobogdnlmdbaaW.PrintLast Go.Proofs.YtfmobogdnlmdbaaW.PrintMore Go.Proofs.YtfmobogdnlmdbaaW
attribute [local go_sem] max2_int min2_int max_two min_two max_three min_three max_four min_four
set_option linter.unusedVariables false
set_option linter.unusedSimpArgs false
set_option maxHeartbeats 8000000 in
set_option maxRecDepth 100000 in
theorem mag_Mul.calls (k : Nat) (A0 : Option Addr) (c0 : Nat) (l0 : List Int) (A1 : Option Addr) (c1 : Nat) (l1 : List Int) (r : List Int) (w : World) (hr0 : Kd.C (Kd.int .u32) w A0 l0.length l0) (hc0 : l0.length ≤ c0) (hr1 : Kd.C (Kd.int .u32) w A1 l1.length l1) (hc1 : l1.length ≤ c1) (h : mag_Mul.f k l0 l1 = some r) :
  Calls Try.prog 55 #[.slice A0 l0.length c0, .slice A1 l1.length c1] w fun e w' => ∃ v0_ : Value, e = .returned (v0_) ∧ Kd.V (Kd.int .u32) 36 w' w.heap.size (fun k_ => (w.heap.size ≤ k_)) v0_ r ∧ Below w.heap.size w w' := by
 have HR0 := Aside0.mk hr0
 have HC0 := Aside0.mk hc0
 clear hr0 hc0
 have HR1 := Aside0.mk hr1
 have HC1 := Aside0.mk hc1
 clear hr1 hc1
 have HB := Aside0.mk (Below.refl w.heap.size w)
 have H : (if (l0.length : Int) = 0 then (mag_Mul.j0 k l0 l1 true) else (mag_Mul.j0 k l0 l1 ((l1.length : Int) == 0))) = some r := h
 clear h
 have HC3 := Aside0.mk H
 clear H
 go_enter Try.func55, Try.ntmps55
 go_upto_region 1 with (fail)
 go_cut [18] (fun v18 wc => ∃ (kq : Nat) (x18_2 : Bool), v18 = .bool x18_2 ∧ Aside0 (mag_Mul.j0 kq l0 l1 x18_2 = some r) ∧ Aside0 (kq ≤ k) ∧ Aside0 (Below w.heap.size w wc))
 case first =>
  have H := HC3.out
  clear HC3
  by_cases c4 : (l0.length : Int) = 0
  ·rw [if_pos c4] at H
   have c4b0 : ((l0.length : Int) == 0) = true := beq_iff_eq.mpr c4
   have c4b1 : ((l0.length : Int) != 0) = false := bne_eq_false_iff_eq.mpr c4
   clear c4
   (first | rw [c4b0] | (simp only [i64_w, i32_w]; rw [c4b0]) | rw [c4b1] | skip)
   have H' := Aside0.mk H
   clear H
   go_wp2
   go_meet
   case rel => exact ⟨_, (true), (by first | rfl | (simp; done) | (simp [*]; done)), H', ⟨by first | omega | exact Nat.le_refl _⟩, ⟨by repeat (first | (with_reducible first | exact HB.out | apply below_alloc | apply pw_below_drewN | apply below_drew1) | exact HB.out)⟩⟩
  ·rw [if_neg c4] at H
   have c4b0 : ((l0.length : Int) == 0) = false := beq_eq_false_iff_ne.mpr c4
   have c4b1 : ((l0.length : Int) != 0) = true := bne_iff_ne.mpr c4
   have c4b2 : ¬ (l0 = []) := fun h_ => c4 (by rw [h_]; rfl)
   (first | rw [c4b0] | (simp only [i64_w, i32_w]; rw [c4b0]) | rw [c4b1] | skip)
   have H' := Aside0.mk H
   clear H
   go_wp2
   go_meet
   case rel => exact ⟨_, (((l1.length : Int) == 0)), (by first | rfl | (simp; done) | (simp [*]; done)), H', ⟨by first | omega | exact Nat.le_refl _⟩, ⟨by repeat (first | (with_reducible first | exact HB.out | apply below_alloc | apply pw_below_drewN | apply below_drew1) | exact HB.out)⟩⟩
 case rest =>
  clear HC3
  try clear c1
  try clear p2
  try clear c4
  try clear c4b0
  try clear c4b1
  try clear c4b2
  obtain ⟨kq, x18_2, rfl, HA, HJ2, HB⟩ := hcut
  cases kq with
  | zero => exact absurd HA.out (by simp [mag_Mul.j0])
  | succ kj2 =>
   have H := HA.out
   clear HA
   simp only [mag_Mul.j0] at H
   by_cases c5 : x18_2 = true
   ·subst c5
    have H1 : (some ([] : List Int)) = some r := by rw [if_pos rfl] at H; exact H
    clear H
    have H := H1
    clear H1
    obtain rfl := Option.some.inj H
    go_wp2
    go_ret
    exact ⟨_, by first | rfl | (simp [errW_none, errW_some] <;> rfl) | (simp [*, errW_none, errW_some] <;> rfl), Kd.V_nil _ _ _ _ _, by repeat (first | (with_reducible first | exact HB.out | apply below_alloc | apply pw_below_drewN | apply below_drew1) | exact HB.out)⟩
   ·replace c5 := Bool.eq_false_iff.mpr c5
    subst c5
    have H1 : (if 0 ≤ (wrap64 ((l0.length : Int) + (l1.length : Int))) then (if (wrap64 ((l0.length : Int) + (l1.length : Int)) : Int).toNat ≤ 70368744177664 then (mag_Mul.l0 kj2 l1 (List.replicate (wrap64 ((l0.length : Int) + (l1.length : Int)) : Int).toNat 0) l0 (l0.length : Int) 0) else (none)) else (none)) = some r := by rw [if_neg (show ¬ (false = true) by decide)] at H; exact H
    clear H
    have H := H1
    clear H1
    obtain ⟨ji6, hji6⟩ : ∃ j_ : Int, (wrap64 ((l0.length : Int) + (l1.length : Int))) = j_ := ⟨_, rfl⟩
    replace H : (if 0 ≤ (ji6) then (if (ji6 : Int).toNat ≤ 70368744177664 then (mag_Mul.l0 kj2 l1 (List.replicate (ji6 : Int).toNat 0) l0 (l0.length : Int) 0) else (none)) else (none)) = some r := by first | (rw [hji6] at H; exact H) | (simp only [hji6] at H ⊢; exact H)
    have hji6w : (IntKind.i64.wrap ((l0.length : Int) + (l1.length : Int))) = ji6 := (i64_w _).trans hji6
    by_cases c7 : 0 ≤ (ji6)
    ·rw [if_pos c7] at H
     have c7b0 := eq_true c7
     have c7b1 : decide (0 ≤ (ji6)) = true := decide_eq_true c7
     clear c7
     by_cases c8 : (ji6 : Int).toNat ≤ 70368744177664
     ·rw [if_pos c8] at H
      have c8b0 := eq_true c8
      have c8b1 : decide ((ji6 : Int).toNat ≤ 70368744177664) = true := decide_eq_true c8
      clear c8
      obtain ⟨y446, hy446⟩ : ∃ y_ : List Int, y_ = (List.replicate (ji6 : Int).toNat 0) := ⟨_, rfl⟩
      replace H : (mag_Mul.l0 kj2 l1 y446 l0 (l0.length : Int) 0) = some r := by first | (rw [hy446]; with_reducible exact H) | (have H2_ := (Option.bind_some _ _).symm.trans H; rw [hy446]; with_reducible exact H2_) | (have H2_ := (Option.bind_some _ _).symm.trans H; with_reducible exact H2_) | with_reducible exact H | (rw [hy446]; exact H) | exact H
      have Ny446 := Aside0.mk hy446
      clear hy446
      have H' := Aside0.mk H
      clear H
      go_wp2_with (first | ((with_reducible refine gate_dst (N := 24) rfl ?_); (try (refine gate_guard (by rfl) ?_; dsimp only)); refine Kd.R_make (Kd.int .u32) _ 36 rfl (N := 24) rfl 22 _ _ rfl ji6 rfl rfl Try.underlying22 (.int .u32 0) 4 info36 rfl (by decide) (by omega) 0 (ok := fun _ => True) (okp := fun _ => True) rfl (fun _ hk => hk) trivial (of_decide_eq_true aS) (Nat.le_trans (Nat.mul_le_mul_right _ (of_decide_eq_true aS : ji6.toNat ≤ 70368744177664)) (by omega)) (Below.refl _ _) (Nat.le_refl _) ?_; intro v447 w9 ho10 hb hg_ hnew_; clear hg_ hnew_; (first | rw [← Ny446.out] at ho10 | (simp only [Int.reduceToNat] at ho10; rw [← Ny446.out] at ho10)); have n0_ := Aside0.mk (Kd.R_lower (Kd.R_newM (M := fun k_ => (w.heap.size ≤ k_)) ho10 (below_size (bB)) (fun k_ h_ => h_)) (below_size (bB))); have n1_ := Aside0.mk (below_step (bB) hb); clear HB; have HO448 := n0_; have HB := n1_; clear n0_ n1_; clear hb ho10))
      go_loopg [27] kj2 (fun kq v27 w' => ∃ (x5_2 : List Int) (x27_2 : Int), v27 = .int .i64 x27_2 ∧ Aside0 (mag_Mul.l0 kq l1 x5_2 l0 (l0.length : Int) x27_2 = some r) ∧ Aside0 (kq ≤ kj2) ∧ Aside0 (Kd.R (Kd.int .u32) 36 w' w.heap.size (fun k_ => (w.heap.size ≤ k_)) v447 x5_2) ∧ Aside0 (Below w.heap.size w w'))
      case atStart => exact ⟨(y446), (0), (by first | rfl | (simp; done) | (simp [*]; done)), H', ⟨Nat.le_refl _⟩, ⟨by (with_reducible repeat (first | apply Kd.R_alloc | apply Kd.R_drewN | apply Kd.R_drew)); exact Kd.R_mono HO448.out (fun _ hk => hk.1)⟩, ⟨by repeat (first | (with_reducible first | exact HB.out | apply below_alloc | apply pw_below_drewN | apply below_drew1) | exact HB.out)⟩⟩
      case round =>
       clear H'
       try clear c1
       try clear p2
       try clear c4
       try clear c4b0
       try clear c4b1
       try clear c4b2
       try clear c5
       try clear p6
       try clear c7
       try clear c7b0
       try clear c7b1
       try clear c8
       try clear c8b0
       try clear c8b1
       try clear p2
       obtain ⟨x5_2, x27_2, rfl, HA, HK2, HO_5, HB⟩ := hrel
       cases gk with
       | zero => exact absurd HA.out (by simp [mag_Mul.l0])
       | succ k2 =>
        have H := HA.out
        clear HA
        simp only [mag_Mul.l0] at H
        by_cases c11 : x27_2 < (l0.length : Int)
        ·rw [if_pos c11] at H
         have c11b0 : decide (x27_2 < (l0.length : Int)) = true := decide_eq_true c11
         clear c11
         by_cases c12 : 0 ≤ x27_2
         ·rw [if_pos c12] at H
          have c12b0 : decide (0 ≤ x27_2) = true := decide_eq_true c12
          clear c12
          by_cases c13 : x27_2 < (l0.length : Int)
          ·rw [if_pos c13] at H
           have c13b0 : decide (x27_2 < (l0.length : Int)) = true := decide_eq_true c13
           clear c13
           have H' := Aside0.mk H
           clear H
           have p452 : 0 ≤ (x27_2 : Int) := of_decide_eq_true aS
           have q452 : x27_2 < (l0.length : Int) := of_decide_eq_true aS
           obtain ⟨ad452, e452, hx452_0⟩ := Kd.at_int HR0.out x27_2 p452 q452
           cases e452
           replace hx452_0 := (HB.out.cell (World.block_lt_of_cell? w _ hx452_0)).trans hx452_0
           replace p452 := eq_true p452
           replace q452 := eq_true q452
           go_wp2
           go_loopg [8, 34] k2 (fun kq v8 v34 w' => ∃ (x5_3 : List Int) (x8_3 : Int) (x34_3 : Int), v8 = .int .u64 x8_3 ∧ v34 = .int .i64 x34_3 ∧ Aside0 (mag_Mul.l1 kq l1 x5_3 x27_2 (rd l0 x27_2) x8_3 l0 (l0.length : Int) x27_2 l1 (l1.length : Int) x34_3 = some r) ∧ Aside0 (kq ≤ k2) ∧ Aside0 (Kd.R (Kd.int .u32) 36 w' w.heap.size (fun k_ => (w.heap.size ≤ k_)) v447 x5_3) ∧ Aside0 (Below w.heap.size w w'))
           case atStart => exact ⟨(x5_2), (0), (0), (by first | rfl | (simp; done) | (simp [*]; done)), (by first | rfl | (simp; done) | (simp [*]; done)), H', ⟨Nat.le_refl _⟩, ⟨by (with_reducible repeat (first | apply Kd.R_alloc | apply Kd.R_drewN | apply Kd.R_drew)); exact HO_5.out⟩, ⟨by repeat (first | (with_reducible first | exact HB.out | apply below_alloc | apply pw_below_drewN | apply below_drew1) | exact HB.out)⟩⟩
           case round =>
            clear H'
            try clear c1
            try clear p2
            try clear c4
            try clear c4b0
            try clear c4b1
            try clear c4b2
            try clear p4
            try clear q4
            try clear hx4
            try clear c5
            try clear p6
            try clear c7
            try clear c7b0
            try clear c7b1
            try clear c8
            try clear c8b0
            try clear c8b1
            try clear c11
            try clear c11b0
            try clear c12
            try clear c12b0
            try clear c13
            try clear c13b0
            try clear hx452_0
            try clear p2
            try clear p452
            try clear p6
            try clear q452
            obtain ⟨x5_3, x8_3, x34_3, rfl, rfl, HA, HK3, HO_5, HB⟩ := hrel
            cases gk with
            | zero => exact absurd HA.out (by simp [mag_Mul.l1])
            | succ k3 =>
             have H := HA.out
             clear HA
             simp only [mag_Mul.l1] at H
             by_cases c14 : x34_3 < (l1.length : Int)
             ·rw [if_pos c14] at H
              have c14b0 : decide (x34_3 < (l1.length : Int)) = true := decide_eq_true c14
              clear c14
              by_cases c15 : 0 ≤ x34_3
              ·rw [if_pos c15] at H
               have c15b0 : decide (0 ≤ x34_3) = true := decide_eq_true c15
               clear c15
               by_cases c16 : x34_3 < (l1.length : Int)
               ·rw [if_pos c16] at H
                have c16b0 : decide (x34_3 < (l1.length : Int)) = true := decide_eq_true c16
                clear c16
                obtain ⟨ji17, hji17⟩ : ∃ j_ : Int, (wrap64 (x27_2 + x34_3)) = j_ := ⟨_, rfl⟩
                replace H : (if 0 ≤ (ji17) then (if (ji17) < (x5_3.length : Int) then (mag_Mul.l1 k3 l1 (x5_3.set ((ji17) : Int).toNat ((IntKind.u64.wrap (x8_3 + (IntKind.u64.wrap ((IntKind.u64.wrap ((IntKind.u64.wrap ((rd l0 x27_2))) * (IntKind.u64.wrap (rd l1 x34_3)))) + (IntKind.u64.wrap (rd x5_3 (ji17))))))) % 4294967296)) x27_2 (rd l0 x27_2) ((IntKind.u64.wrap (x8_3 + (IntKind.u64.wrap ((IntKind.u64.wrap ((IntKind.u64.wrap ((rd l0 x27_2))) * (IntKind.u64.wrap (rd l1 x34_3)))) + (IntKind.u64.wrap (rd x5_3 (ji17))))))) / 4294967296) l0 (l0.length : Int) x27_2 l1 (l1.length : Int) (wrap64 (x34_3 + 1))) else (none)) else (none)) = some r := by first | (rw [hji17] at H; exact H) | (simp only [hji17] at H ⊢; exact H)
                have hji17w : (IntKind.i64.wrap (x27_2 + x34_3)) = ji17 := (i64_w _).trans hji17
                by_cases c18 : 0 ≤ (ji17)
                ·rw [if_pos c18] at H
                 have c18b0 : decide (0 ≤ (ji17)) = true := decide_eq_true c18
                 clear c18
                 by_cases c19 : (ji17) < (x5_3.length : Int)
                 ·rw [if_pos c19] at H
                  have c19b0 : decide ((ji17) < (x5_3.length : Int)) = true := decide_eq_true c19
                  clear c19
                  obtain ⟨y455, hy455⟩ : ∃ y_ : List Int, y_ = (x5_3.set ((ji17) : Int).toNat ((IntKind.u64.wrap (x8_3 + (IntKind.u64.wrap ((IntKind.u64.wrap ((IntKind.u64.wrap ((rd l0 x27_2))) * (IntKind.u64.wrap (rd l1 x34_3)))) + (IntKind.u64.wrap (rd x5_3 (ji17))))))) % 4294967296)) := ⟨_, rfl⟩
                  replace H : (mag_Mul.l1 k3 l1 y455 x27_2 (rd l0 x27_2) ((IntKind.u64.wrap (x8_3 + (IntKind.u64.wrap ((IntKind.u64.wrap ((IntKind.u64.wrap ((rd l0 x27_2))) * (IntKind.u64.wrap (rd l1 x34_3)))) + (IntKind.u64.wrap (rd x5_3 (ji17))))))) / 4294967296) l0 (l0.length : Int) x27_2 l1 (l1.length : Int) (wrap64 (x34_3 + 1))) = some r := by first | (rw [hy455]; with_reducible exact H) | (have H2_ := (Option.bind_some _ _).symm.trans H; rw [hy455]; with_reducible exact H2_) | (have H2_ := (Option.bind_some _ _).symm.trans H; with_reducible exact H2_) | with_reducible exact H | (rw [hy455]; exact H) | exact H
                  have Ny455 := Aside0.mk hy455
                  clear hy455
                  have H' := Aside0.mk H
                  clear H
                  have p453 : 0 ≤ (x34_3 : Int) := of_decide_eq_true aS
                  have q453 : x34_3 < (l1.length : Int) := of_decide_eq_true aS
                  obtain ⟨ad453, e453, hx453_0⟩ := Kd.at_int HR1.out x34_3 p453 q453
                  cases e453
                  replace hx453_0 := (HB.out.cell (World.block_lt_of_cell? w _ hx453_0)).trans hx453_0
                  replace p453 := eq_true p453
                  replace q453 := eq_true q453
                  obtain ⟨Ao21, co21, eo21⟩ := Kd.R_slice HO_5.out
                  subst eo21
                  have p454 : 0 ≤ ((ji17) : Int) := of_decide_eq_true aS
                  have q454 : (ji17) < (x5_3.length : Int) := of_decide_eq_true aS
                  obtain ⟨ad454, e454, hx454_0⟩ := Kd.at_int (Kd.R_reads' HO_5.out).2.2 (ji17) p454 q454
                  cases e454
                  replace p454 := eq_true p454
                  replace q454 := eq_true q454
                  have p20 : 0 ≤ ((ji17) : Int) := of_decide_eq_true aS
                  have q20 : ((ji17) : Int) < ((x5_3.length : Int) : Int) := of_decide_eq_true aS
                  obtain ⟨go20, co20, eo20, gb20, gl20, cl20, HG20⟩ := Kd.R_form HO_5.out (by omega)
                  (first | cases eo20 | (injection eo20 with ea_ en_ ec_; (first | subst ea_ | (injection ea_ with ea_; subst ea_)); subst ec_; clear en_))
                  have GB20 := Aside0.mk gb20
                  have GG20 := Aside0.mk HG20
                  clear gb20 gl20 HG20
                  (first | simp only [add_plain] at hx454_0 | skip)
                  obtain ⟨hx20_0, hf20_0⟩ := Kd.R_celln 0 HO_5.out ((ji17) : Int) p20 q20
                  replace p20 := eq_true p20
                  replace q20 := eq_true q20
                  have HP22 := Kd.R_putg HO_5.out ((ji17) : Int) ((IntKind.u64.wrap (x8_3 + (IntKind.u64.wrap ((IntKind.u64.wrap ((IntKind.u64.wrap ((rd l0 x27_2))) * (IntKind.u64.wrap (rd l1 x34_3)))) + (IntKind.u64.wrap (rd x5_3 (ji17))))))) % 4294967296)
                  go_wp2_with (first | ((with_reducible refine gate_store (t := 36) (p := 60) rfl ?_); refine store_event (t := 36) (p := 60) (v := ?vo_w23) (w1 := (wr.setCell ⟨go20, ((ji17) : Int).toNat, none⟩ (.int .u32 ((IntKind.u64.wrap (x8_3 + (IntKind.u64.wrap ((IntKind.u64.wrap ((IntKind.u64.wrap ((rd l0 x27_2))) * (IntKind.u64.wrap (rd l1 x34_3)))) + (IntKind.u64.wrap (rd x5_3 (ji17))))))) % 4294967296)))) ?hg ?ho ?hn ?hr ?_; (case ho => rfl); (case hg => rfl); (case hn => rfl); (case hr => first | (go_simp; done) | (go_simp; rfl)); intro w23 hw; have hg : wr.grownBy w23 (some go20) := (by rw [hw]; exact HP22.2); have hp_ : Kd.R (Kd.int .u32) 36 w23 w.heap.size (fun k_ => (w.heap.size ≤ k_)) (.slice (some ⟨go20, 0, none⟩) x5_3.length co21) y455 := (by rw [hw, Ny455.out]; exact HP22.1); clear HP22; have n0_ := Aside0.mk (hp_); have n1_ := Aside0.mk ((by rw [hw]; exact below_set (HB.out) GB20.out : Below w.heap.size w w23)); clear HO_5; clear HB; have HO_5 := n0_; have HB := n1_; clear n0_ n1_; clear hg hw hp_))
                  (try simp only [← hji17])
                  go_roundg k3
                  case measure => have := HJ2.out; have := HK2.out; have := HK3.out; omega
                  case rel => exact ⟨(y455), ((IntKind.u64.wrap (x8_3 + (IntKind.u64.wrap ((IntKind.u64.wrap ((IntKind.u64.wrap ((rd l0 x27_2))) * (IntKind.u64.wrap (rd l1 x34_3)))) + (IntKind.u64.wrap (rd x5_3 (ji17))))))) / 4294967296), (wrap64 (x34_3 + 1)), (by first | rfl | (simp; done) | (simp only [← hji17] <;> (first | rfl | simp)) | (simp [*]; done)), (by first | rfl | (simp; done) | (simp [*]; done)), (by first | with_reducible exact H' | (simp only [hji17]; exact H') | exact H'), ⟨by have := HJ2.out; have := HK2.out; have := HK3.out; omega⟩, ⟨by (with_reducible repeat (first | apply Kd.R_alloc | apply Kd.R_drewN | apply Kd.R_drew)); exact HO_5.out⟩, ⟨by repeat (first | (with_reducible first | exact HB.out | apply below_alloc | apply pw_below_drewN | apply below_drew1) | exact HB.out)⟩⟩
                 ·rw [if_neg c19] at H
                  exact absurd H (by simp)
                ·rw [if_neg c18] at H
                 exact absurd H (by simp)
               ·rw [if_neg c16] at H
                exact absurd H (by simp)
              ·rw [if_neg c15] at H
               exact absurd H (by simp)
             ·rw [if_neg c14] at H
              have c14b0 : decide (x34_3 < (l1.length : Int)) = false := decide_eq_false c14
              clear c14
              obtain ⟨ji24, hji24⟩ : ∃ j_ : Int, (wrap64 (x27_2 + (l1.length : Int))) = j_ := ⟨_, rfl⟩
              replace H : (if 0 ≤ (ji24) then (if (ji24) < (x5_3.length : Int) then (mag_Mul.l0 k3 l1 (x5_3.set ((ji24) : Int).toNat ((x8_3) % 4294967296)) l0 (l0.length : Int) (wrap64 (x27_2 + 1))) else (none)) else (none)) = some r := by first | (rw [hji24] at H; exact H) | (simp only [hji24] at H ⊢; exact H)
              have hji24w : (IntKind.i64.wrap (x27_2 + (l1.length : Int))) = ji24 := (i64_w _).trans hji24
              by_cases c25 : 0 ≤ (ji24)
              ·rw [if_pos c25] at H
               have c25b0 : decide (0 ≤ (ji24)) = true := decide_eq_true c25
               clear c25
               by_cases c26 : (ji24) < (x5_3.length : Int)
               ·rw [if_pos c26] at H
                have c26b0 : decide ((ji24) < (x5_3.length : Int)) = true := decide_eq_true c26
                clear c26
                obtain ⟨y456, hy456⟩ : ∃ y_ : List Int, y_ = (x5_3.set ((ji24) : Int).toNat ((x8_3) % 4294967296)) := ⟨_, rfl⟩
                replace H : (mag_Mul.l0 k3 l1 y456 l0 (l0.length : Int) (wrap64 (x27_2 + 1))) = some r := by first | (rw [hy456]; with_reducible exact H) | (have H2_ := (Option.bind_some _ _).symm.trans H; rw [hy456]; with_reducible exact H2_) | (have H2_ := (Option.bind_some _ _).symm.trans H; with_reducible exact H2_) | with_reducible exact H | (rw [hy456]; exact H) | exact H
                have Ny456 := Aside0.mk hy456
                clear hy456
                have H' := Aside0.mk H
                clear H
                have p27 : 0 ≤ ((ji24) : Int) := of_decide_eq_true aS
                have q27 : ((ji24) : Int) < ((x5_3.length : Int) : Int) := of_decide_eq_true aS
                obtain ⟨go27, co27, eo27, gb27, gl27, cl27, HG27⟩ := Kd.R_form HO_5.out (by omega)
                (first | cases eo27 | (injection eo27 with ea_ en_ ec_; (first | subst ea_ | (injection ea_ with ea_; subst ea_)); subst ec_; clear en_))
                have GB27 := Aside0.mk gb27
                have GG27 := Aside0.mk HG27
                clear gb27 gl27 HG27
                obtain ⟨hx27_0, hf27_0⟩ := Kd.R_celln 0 HO_5.out ((ji24) : Int) p27 q27
                replace p27 := eq_true p27
                replace q27 := eq_true q27
                have HP28 := Kd.R_putg HO_5.out ((ji24) : Int) ((x8_3) % 4294967296)
                go_wp2_with (first | ((with_reducible refine gate_store (t := 36) (p := 71) rfl ?_); refine store_event (t := 36) (p := 71) (v := ?vo_w29) (w1 := (wr.setCell ⟨go27, ((ji24) : Int).toNat, none⟩ (.int .u32 ((x8_3) % 4294967296)))) ?hg ?ho ?hn ?hr ?_; (case ho => rfl); (case hg => rfl); (case hn => rfl); (case hr => first | (go_simp; done) | (go_simp; rfl)); intro w29 hw; have hg : wr.grownBy w29 (some go27) := (by rw [hw]; exact HP28.2); have hp_ : Kd.R (Kd.int .u32) 36 w29 w.heap.size (fun k_ => (w.heap.size ≤ k_)) (.slice (some ⟨go27, 0, none⟩) x5_3.length co27) y456 := (by rw [hw, Ny456.out]; exact HP28.1); clear HP28; have n0_ := Aside0.mk (hp_); have n1_ := Aside0.mk ((by rw [hw]; exact below_set (HB.out) GB27.out : Below w.heap.size w w29)); clear HO_5; clear HB; have HO_5 := n0_; have HB := n1_; clear n0_ n1_; clear hg hw hp_))
                (try simp only [← hji24])
                go_roundg k3
                case measure => have := HJ2.out; have := HK2.out; have := HK3.out; omega
                case rel => exact ⟨(y456), (wrap64 (x27_2 + 1)), (by first | rfl | (simp; done) | (simp [*]; done)), (by first | with_reducible exact H' | (simp only [hji24]; exact H') | exact H'), ⟨by have := HJ2.out; have := HK2.out; have := HK3.out; omega⟩, ⟨by (with_reducible repeat (first | apply Kd.R_alloc | apply Kd.R_drewN | apply Kd.R_drew)); exact HO_5.out⟩, ⟨by repeat (first | (with_reducible first | exact HB.out | apply below_alloc | apply pw_below_drewN | apply below_drew1) | exact HB.out)⟩⟩
               ·rw [if_neg c26] at H
                exact absurd H (by simp)
              ·rw [if_neg c25] at H
               exact absurd H (by simp)
          ·rw [if_neg c13] at H
           exact absurd H (by simp)
         ·rw [if_neg c12] at H
          exact absurd H (by simp)
        ·rw [if_neg c11] at H
         have c11b0 : decide (x27_2 < (l0.length : Int)) = false := decide_eq_false c11
         clear c11
         replace H := Option.bind_eq_some_iff.mp H
         obtain ⟨t449, A300, H⟩ := H
         replace H : (some t449) = some r := H
         have A30 := Aside0.mk A300
         clear A300
         obtain rfl := Option.some.inj H
         obtain ⟨Ao31, co31, eo31⟩ := Kd.R_slice HO_5.out
         subst eo31
         go_wp2_with (first | ((with_reducible refine gate_callee (f := 66) rfl ?_); refine goesL_ (some 74) rfl rfl Try.func66 (by kernel_rfl) rfl #[.slice Ao31 x5_2.length co31] rfl (by (try simp only [List.map_toArray, List.map_cons, List.map_nil]); first | done | rfl | (simp only [List.length_drop, List.length_take]; rfl)) ?_; (with_reducible refine (mag_Trim.calls k2 (fun k_ => some k_ = (.slice Ao31 x5_2.length co31 : Value).ownBlock) _ _ x5_2 t449 _ ?side1 A30.out).mono ?_); (case side1 => exact Kd.R_V (Kd.R_tight rfl (HO_5.out))); rintro e w32 ⟨v450, rfl, ho0, hb⟩; refine ⟨_, rfl, ?_⟩; have n0_ := Aside0.mk (Kd.R_below (by (with_reducible repeat (first | apply Kd.R_alloc | apply Kd.R_drewN | apply Kd.R_drew)); exact HO_5.out) hb); have n1_ := Aside0.mk (Kd.V_lower (Kd.V_mono (ok' := fun k_ => (w.heap.size ≤ k_)) ho0 (fun k_ hk_ => Or.elim hk_ (fun hs_ => ((HO_5.out).1 k_ hs_.symm)) (fun hn_ => (Nat.le_trans (below_size (bB)) hn_)))) (below_size (bB))); have n2_ := Aside0.mk (below_step (bB) hb); clear HO_5; clear HB; have HO_5 := n0_; have HO451 := n1_; have HB := n2_; clear n0_ n1_ n2_; (try clear hb); (try clear hb2); (try clear hk); (try clear hi); (try clear ho0)))
         go_ret
         exact ⟨_, by first | rfl | (simp [errW_none, errW_some] <;> rfl) | (simp only [← hji6]; first | rfl | (simp [errW_none, errW_some] <;> rfl)) | (simp [*, errW_none, errW_some] <;> rfl), by (with_reducible repeat (first | apply Kd.V_alloc | apply Kd.V_drewN | apply Kd.V_drew)); exact HO451.out, by repeat (first | (with_reducible first | exact HB.out | apply below_alloc | apply pw_below_drewN | apply below_drew1) | exact HB.out)⟩
     ·rw [if_neg c8] at H
      exact absurd H (by simp)
    ·rw [if_neg c7] at H
     exact absurd H (by simp)
end Go.Proofs.Ytfmobogdnlmdbaa.P
end
section
namespace Go.Proofs.Ytfmobogdnlmdbaa.P
open Go.RowKit Go.Proofs.YtfmobogdnlmdbaaW.PrintWords Go.Proofs.YtfmobogdnlmdbaaW.PrintLast Go.Proofs.YtfmobogdnlmdbaaW.PrintMore Go.Proofs.YtfmobogdnlmdbaaW
attribute [local go_sem] max2_int min2_int max_two min_two max_three min_three max_four min_four
set_option linter.unusedVariables false
set_option linter.unusedSimpArgs false
set_option maxHeartbeats 8000000 in
set_option maxRecDepth 100000 in
theorem nat_Parse.calls (k : Nat) (a0 : ByteArray) (r1 : List Int) (r2 : Int) (w : World) (h : nat_Parse.f k a0 = some (r1, r2)) :
  Calls Try.prog 29 #[.string a0] w fun e w' => ∃ v0_ : Value, e = .returned (.tuple #[v0_, .int .i64 r2]) ∧ Kd.R (Kd.int .u32) 36 w' w.heap.size (fun _ => True) v0_ r1 ∧ Below w.heap.size w w' := by
 have HB := Aside0.mk (Below.refl w.heap.size w)
 have H : (if (a0.size : Int) > 20000 then (some (([] : List Int), 2)) else (if a0.toList = ([] : List UInt8) then (some (([] : List Int), 90)) else (nat_Parse.l0 k a0 ([] : List Int) 0 1 0))) = some (r1, r2) := h
 clear h
 by_cases c2 : (a0.size : Int) > 20000
 ·rw [if_pos c2] at H
  have c2b0 : decide (20000 < (a0.size : Int)) = true := decide_eq_true c2
  have c2b1 : decide (20000 < a0.size) = true := decide_eq_true (by omega)
  clear c2
  simp only [Option.some.injEq, Prod.mk.injEq] at H
  obtain ⟨rfl, rfl⟩ := H
  go_enter Try.func29, Try.ntmps29
  go_wp2
  go_step3
  go_wp2
  try (go_step3; go_wp2)
  try rw [Exit.noGoto_ret]
  go_ret2
  exact ⟨_, by first | rfl | (simp [errW_none, errW_some] <;> rfl) | (simp [*, errW_none, errW_some] <;> rfl), by first | exact Kd.R_nil _ _ _ _ _ | exact Kd.N_nil _ _ _ _ _ | exact Kd.V_nil _ _ _ _ _ | exact Kd.Q_nil _ _ _ _ _ | exact Kd.S_nil _ _ _ _ _, by repeat (first | (with_reducible first | exact HB.out | apply below_alloc | apply pw_below_drewN | apply below_drew1) | exact HB.out)⟩
 ·rw [if_neg c2] at H
  have c2b0 : decide (20000 < (a0.size : Int)) = false := decide_eq_false c2
  have c2b1 : decide (20000 < a0.size) = false := decide_eq_false (by omega)
  clear c2
  by_cases c3 : a0.toList = ([] : List UInt8)
  ·rw [if_pos c3] at H
   have c3b0 : (a0.toList == ([] : List UInt8)) = true := beq_iff_eq.mpr c3
   have c3b1 : (a0.toList != ([] : List UInt8)) = false := bne_eq_false_iff_eq.mpr c3
   clear c3
   simp only [Option.some.injEq, Prod.mk.injEq] at H
   obtain ⟨rfl, rfl⟩ := H
   go_enter Try.func29, Try.ntmps29
   go_wp2
   go_step3
   go_wp2
   try (go_step3; go_wp2)
   try rw [Exit.noGoto_ret]
   go_ret2
   exact ⟨_, by first | rfl | (simp [errW_none, errW_some] <;> rfl) | (simp [*, errW_none, errW_some] <;> rfl), by first | exact Kd.R_nil _ _ _ _ _ | exact Kd.N_nil _ _ _ _ _ | exact Kd.V_nil _ _ _ _ _ | exact Kd.Q_nil _ _ _ _ _ | exact Kd.S_nil _ _ _ _ _, by repeat (first | (with_reducible first | exact HB.out | apply below_alloc | apply pw_below_drewN | apply below_drew1) | exact HB.out)⟩
  ·rw [if_neg c3] at H
   have c3b0 : (a0.toList == ([] : List UInt8)) = false := beq_eq_false_iff_ne.mpr c3
   have c3b1 : (a0.toList != ([] : List UInt8)) = true := bne_iff_ne.mpr c3
   have H' := Aside0.mk H
   clear H
   go_enter Try.func29, Try.ntmps29
   go_wp2
   go_step3
   go_wp2
   try (go_step3; go_wp2)
   go_loopg [4, 5, 6, 7] k (fun kq v4 v5 v6 v7 w' => ∃ (x4_1 : List Int) (x5_1 : Int) (x6_1 : Int) (x7_1 : Int), v5 = .int .u64 x5_1 ∧ v6 = .int .u64 x6_1 ∧ v7 = .int .i64 x7_1 ∧ Aside0 (nat_Parse.l0 kq a0 x4_1 x5_1 x6_1 x7_1 = some (r1, r2)) ∧ Aside0 (kq ≤ k) ∧ Aside0 (Kd.V (Kd.int .u32) 36 w' w.heap.size (fun _ => True) v4 x4_1) ∧ Aside0 (Below w.heap.size w w'))
   case atStart => exact ⟨(([] : List Int)), (0), (1), (0), (by first | rfl | (simp; done) | (simp [*]; done) | (simp; cases a0.toList <;> rfl)), (by first | rfl | (simp; done) | (simp [*]; done) | (simp; cases a0.toList <;> rfl)), (by first | rfl | (simp; done) | (simp [*]; done) | (simp; cases a0.toList <;> rfl)), H', ⟨Nat.le_refl _⟩, ⟨Kd.V_nil _ _ _ _ _⟩, ⟨by repeat (first | (with_reducible first | exact HB.out | apply below_alloc | apply pw_below_drewN | apply below_drew1) | exact HB.out)⟩⟩
   case round =>
    clear H'
    try clear c2
    try clear c2b0
    try clear c2b1
    try clear p2
    try clear c3
    try clear c3b0
    try clear c3b1
    try clear p3
    obtain ⟨x4_1, x5_1, x6_1, x7_1, rfl, rfl, rfl, HA, HK1, HO_4, HB⟩ := hrel
    cases gk with
    | zero => exact absurd HA.out (by simp [nat_Parse.l0])
    | succ k1 =>
     have H := HA.out
     clear HA
     simp only [nat_Parse.l0] at H
     by_cases c4 : x7_1 = (a0.size : Int)
     ·rw [if_pos c4] at H
      have c4b0 : (x7_1 == (a0.size : Int)) = true := beq_iff_eq.mpr c4
      have c4b1 : (x7_1 != (a0.size : Int)) = false := bne_eq_false_iff_eq.mpr c4
      clear c4
      replace H := Option.bind_eq_some_iff.mp H
      obtain ⟨t649, A50, H⟩ := H
      replace H : ((mag_Mul.f k1 x4_1 t649).bind fun t652 => ((mag_From.f k1 x5_1).bind fun t655 => ((mag_Add.f k1 t652 t655).bind fun t658 => ((nat_limited.f t658).bind fun bt661 => (some (bt661.1, bt661.2)))))) = some (r1, r2) := H
      have A5 := Aside0.mk A50
      clear A50
      replace H := Option.bind_eq_some_iff.mp H
      obtain ⟨t652, A60, H⟩ := H
      replace H : ((mag_From.f k1 x5_1).bind fun t655 => ((mag_Add.f k1 t652 t655).bind fun t658 => ((nat_limited.f t658).bind fun bt661 => (some (bt661.1, bt661.2))))) = some (r1, r2) := H
      have A6 := Aside0.mk A60
      clear A60
      replace H := Option.bind_eq_some_iff.mp H
      obtain ⟨t655, A70, H⟩ := H
      replace H : ((mag_Add.f k1 t652 t655).bind fun t658 => ((nat_limited.f t658).bind fun bt661 => (some (bt661.1, bt661.2)))) = some (r1, r2) := H
      have A7 := Aside0.mk A70
      clear A70
      replace H := Option.bind_eq_some_iff.mp H
      obtain ⟨t658, A80, H⟩ := H
      replace H : ((nat_limited.f t658).bind fun bt661 => (some (bt661.1, bt661.2))) = some (r1, r2) := H
      have A8 := Aside0.mk A80
      clear A80
      replace H := Option.bind_eq_some_iff.mp H
      obtain ⟨⟨t661, t662⟩, A90, H⟩ := H
      replace H : (some (t661, t662)) = some (r1, r2) := H
      have A9 := Aside0.mk A90
      clear A90
      simp only [Option.some.injEq, Prod.mk.injEq] at H
      obtain ⟨rfl, rfl⟩ := H
      go_wp2_with (first | ((with_reducible refine gate_callee (f := 59) rfl ?_); refine goesL_ (some 22) rfl rfl Try.func59 (by kernel_rfl) rfl #[.int .u64 x6_1] rfl (by (try simp only [List.map_toArray, List.map_cons, List.map_nil]); first | done | rfl | (simp only [List.length_drop, List.length_take]; rfl)) ?_; (with_reducible refine (mag_From.calls k1 x6_1 t649 _ A5.out).mono ?_); rintro e w10 ⟨v650, rfl, ho0, hb⟩; refine ⟨_, rfl, ?_⟩; have n0_ := Aside0.mk (Kd.V_below (by (with_reducible repeat (first | apply Kd.V_alloc | apply Kd.V_drewN | apply Kd.V_drew)); exact HO_4.out) hb); have n1_ := Aside0.mk (Kd.V_lower (Kd.V_mono (ok' := fun k_ => True) ho0 (fun k_ hk_ => trivial)) (below_size (bB))); have n2_ := Aside0.mk (below_step (bB) hb); clear HO_4; clear HB; have HO_4 := n0_; have HO651 := n1_; have HB := n2_; clear n0_ n1_ n2_; (try clear hb); (try clear hb2); (try clear hk); (try clear hi); (try clear ho0); obtain ⟨Ao11, co11, eo11⟩ := Kd.V_slice HO_4.out; subst eo11; obtain ⟨Ao12, co12, eo12⟩ := Kd.V_slice HO651.out; subst eo12) | ((with_reducible refine gate_callee (f := 55) rfl ?_); refine goesL_ (some 23) rfl rfl Try.func55 (by kernel_rfl) rfl #[.slice Ao11 x4_1.length co11, .slice Ao12 t649.length co12] rfl (by (try simp only [List.map_toArray, List.map_cons, List.map_nil]); first | done | rfl | (simp only [List.length_drop, List.length_take]; rfl)) ?_; (with_reducible refine (mag_Mul.calls k1 _ _ x4_1 _ _ t649 t652 _ ?side1 ?side2 ?side3 ?side4 A6.out).mono ?_); (case side1 => repeat (first | exact (Kd.V_reads' HO_4.out).2.2 | (with_reducible refine Kd.C_alloc ?_ _) | (with_reducible refine Kd.C_drewN ?_ _) | (with_reducible refine Kd.C_drew ?_))); (case side2 => exact (Kd.V_reads' HO_4.out).2.1); (case side3 => repeat (first | exact (Kd.V_reads' HO651.out).2.2 | (with_reducible refine Kd.C_alloc ?_ _) | (with_reducible refine Kd.C_drewN ?_ _) | (with_reducible refine Kd.C_drew ?_))); (case side4 => exact (Kd.V_reads' HO651.out).2.1); rintro e w13 ⟨v653, rfl, ho0, hb⟩; refine ⟨_, rfl, ?_⟩; have n0_ := Aside0.mk (Kd.V_below (by (with_reducible repeat (first | apply Kd.V_alloc | apply Kd.V_drewN | apply Kd.V_drew)); exact HO_4.out) hb); have n1_ := Aside0.mk (Kd.V_below (by (with_reducible repeat (first | apply Kd.V_alloc | apply Kd.V_drewN | apply Kd.V_drew)); exact HO651.out) hb); have n2_ := Aside0.mk (Kd.V_lower (Kd.V_mono (ok' := fun k_ => True) ho0 (fun k_ hk_ => trivial)) (below_size (bB))); have n3_ := Aside0.mk (below_step (bB) hb); clear HO_4; clear HO651; clear HB; have HO_4 := n0_; have HO651 := n1_; have HO654 := n2_; have HB := n3_; clear n0_ n1_ n2_ n3_; (try clear hb); (try clear hb2); (try clear hk); (try clear hi); (try clear ho0)) | ((with_reducible refine gate_callee (f := 59) rfl ?_); refine goesL_ (some 25) rfl rfl Try.func59 (by kernel_rfl) rfl #[.int .u64 x5_1] rfl (by (try simp only [List.map_toArray, List.map_cons, List.map_nil]); first | done | rfl | (simp only [List.length_drop, List.length_take]; rfl)) ?_; (with_reducible refine (mag_From.calls k1 x5_1 t655 _ A7.out).mono ?_); rintro e w14 ⟨v656, rfl, ho0, hb⟩; refine ⟨_, rfl, ?_⟩; have n0_ := Aside0.mk (Kd.V_below (by (with_reducible repeat (first | apply Kd.V_alloc | apply Kd.V_drewN | apply Kd.V_drew)); exact HO_4.out) hb); have n1_ := Aside0.mk (Kd.V_below (by (with_reducible repeat (first | apply Kd.V_alloc | apply Kd.V_drewN | apply Kd.V_drew)); exact HO651.out) hb); have n2_ := Aside0.mk (Kd.V_below (by (with_reducible repeat (first | apply Kd.V_alloc | apply Kd.V_drewN | apply Kd.V_drew)); exact HO654.out) hb); have n3_ := Aside0.mk (Kd.V_lower (Kd.V_mono (ok' := fun k_ => True) ho0 (fun k_ hk_ => trivial)) (below_size (bB))); have n4_ := Aside0.mk (below_step (bB) hb); clear HO_4; clear HO651; clear HO654; clear HB; have HO_4 := n0_; have HO651 := n1_; have HO654 := n2_; have HO657 := n3_; have HB := n4_; clear n0_ n1_ n2_ n3_ n4_; (try clear hb); (try clear hb2); (try clear hk); (try clear hi); (try clear ho0); obtain ⟨Ao15, co15, eo15⟩ := Kd.V_slice HO654.out; subst eo15; obtain ⟨Ao16, co16, eo16⟩ := Kd.V_slice HO657.out; subst eo16) | ((with_reducible refine gate_callee (f := 50) rfl ?_); refine goesL_ (some 26) rfl rfl Try.func50 (by kernel_rfl) rfl #[.slice Ao15 t652.length co15, .slice Ao16 t655.length co16] rfl (by (try simp only [List.map_toArray, List.map_cons, List.map_nil]); first | done | rfl | (simp only [List.length_drop, List.length_take]; rfl)) ?_; (with_reducible refine (mag_Add.calls k1 (fun k_ => True) _ _ t652 (fun k_ => True) _ _ t655 t658 _ ?side1 ?side2 A8.out).mono ?_); (case side1 => exact HO654.out); (case side2 => exact HO657.out); rintro e w17 ⟨v659, rfl, ho0, hb⟩; refine ⟨_, rfl, ?_⟩; have n0_ := Aside0.mk (Kd.V_below (by (with_reducible repeat (first | apply Kd.V_alloc | apply Kd.V_drewN | apply Kd.V_drew)); exact HO_4.out) hb); have n1_ := Aside0.mk (Kd.V_below (by (with_reducible repeat (first | apply Kd.V_alloc | apply Kd.V_drewN | apply Kd.V_drew)); exact HO651.out) hb); have n2_ := Aside0.mk (Kd.V_below (by (with_reducible repeat (first | apply Kd.V_alloc | apply Kd.V_drewN | apply Kd.V_drew)); exact HO654.out) hb); have n3_ := Aside0.mk (Kd.V_below (by (with_reducible repeat (first | apply Kd.V_alloc | apply Kd.V_drewN | apply Kd.V_drew)); exact HO657.out) hb); have n4_ := Aside0.mk (Kd.V_lower (Kd.V_mono (ok' := fun k_ => True) ho0 (fun k_ hk_ => trivial)) (below_size (bB))); have n5_ := Aside0.mk (below_step (bB) hb); clear HO_4; clear HO651; clear HO654; clear HO657; clear HB; have HO_4 := n0_; have HO651 := n1_; have HO654 := n2_; have HO657 := n3_; have HO660 := n4_; have HB := n5_; clear n0_ n1_ n2_ n3_ n4_ n5_; (try clear hb); (try clear hb2); (try clear hk); (try clear hi); (try clear ho0); obtain ⟨Ao18, co18, eo18⟩ := Kd.V_slice HO660.out; subst eo18) | ((with_reducible refine gate_callee (f := 52) rfl ?_); refine goesL_ (some 59) rfl rfl Try.func52 (by kernel_rfl) rfl #[.slice Ao18 t658.length co18] rfl (by (try simp only [List.map_toArray, List.map_cons, List.map_nil]); first | done | rfl | (simp only [List.length_drop, List.length_take]; rfl)) ?_; (with_reducible refine (nat_limited.calls _ _ t658 t661 t662 _ ?side1 ?side2 A9.out).mono ?_); (case side1 => repeat (first | exact (Kd.V_reads' HO660.out).2.2 | (with_reducible refine Kd.C_alloc ?_ _) | (with_reducible refine Kd.C_drewN ?_ _) | (with_reducible refine Kd.C_drew ?_))); (case side2 => exact (Kd.V_reads' HO660.out).2.1); rintro e w19 ⟨v663, rfl, ho0, hb⟩; refine ⟨_, rfl, ?_⟩; have n0_ := Aside0.mk (Kd.V_elder' (by (with_reducible repeat (first | apply Kd.V_alloc | apply Kd.V_drewN | apply Kd.V_drew)); exact HO_4.out) (Kd.R_base ho0) hb); have n1_ := Aside0.mk (Kd.V_elder' (by (with_reducible repeat (first | apply Kd.V_alloc | apply Kd.V_drewN | apply Kd.V_drew)); exact HO651.out) (Kd.R_base ho0) hb); have n2_ := Aside0.mk (Kd.V_elder' (by (with_reducible repeat (first | apply Kd.V_alloc | apply Kd.V_drewN | apply Kd.V_drew)); exact HO654.out) (Kd.R_base ho0) hb); have n3_ := Aside0.mk (Kd.V_elder' (by (with_reducible repeat (first | apply Kd.V_alloc | apply Kd.V_drewN | apply Kd.V_drew)); exact HO657.out) (Kd.R_base ho0) hb); have n4_ := Aside0.mk (Kd.V_elder' (by (with_reducible repeat (first | apply Kd.V_alloc | apply Kd.V_drewN | apply Kd.V_drew)); exact HO660.out) (Kd.R_base ho0) hb); have n5_ := Aside0.mk (Kd.R_lower ho0 (below_size (bB))); have n6_ := Aside0.mk (below_step (bB) hb); clear HO_4; clear HO651; clear HO654; clear HO657; clear HO660; clear HB; have HO_4 := n0_; have HO651 := n1_; have HO654 := n2_; have HO657 := n3_; have HO660 := n4_; have HO664 := n5_; have HB := n6_; clear n0_ n1_ n2_ n3_ n4_ n5_ n6_; (try clear hb); (try clear hb2); (try clear hk); (try clear hi); (try clear ho0)))
      try (go_step3; go_wp2_with (first | ((with_reducible refine gate_callee (f := 59) rfl ?_); refine goesL_ (some 22) rfl rfl Try.func59 (by kernel_rfl) rfl #[.int .u64 x6_1] rfl (by (try simp only [List.map_toArray, List.map_cons, List.map_nil]); first | done | rfl | (simp only [List.length_drop, List.length_take]; rfl)) ?_; (with_reducible refine (mag_From.calls k1 x6_1 t649 _ A5.out).mono ?_); rintro e w10 ⟨v650, rfl, ho0, hb⟩; refine ⟨_, rfl, ?_⟩; have n0_ := Aside0.mk (Kd.V_below (by (with_reducible repeat (first | apply Kd.V_alloc | apply Kd.V_drewN | apply Kd.V_drew)); exact HO_4.out) hb); have n1_ := Aside0.mk (Kd.V_lower (Kd.V_mono (ok' := fun k_ => True) ho0 (fun k_ hk_ => trivial)) (below_size (bB))); have n2_ := Aside0.mk (below_step (bB) hb); clear HO_4; clear HB; have HO_4 := n0_; have HO651 := n1_; have HB := n2_; clear n0_ n1_ n2_; (try clear hb); (try clear hb2); (try clear hk); (try clear hi); (try clear ho0); obtain ⟨Ao11, co11, eo11⟩ := Kd.V_slice HO_4.out; subst eo11; obtain ⟨Ao12, co12, eo12⟩ := Kd.V_slice HO651.out; subst eo12) | ((with_reducible refine gate_callee (f := 55) rfl ?_); refine goesL_ (some 23) rfl rfl Try.func55 (by kernel_rfl) rfl #[.slice Ao11 x4_1.length co11, .slice Ao12 t649.length co12] rfl (by (try simp only [List.map_toArray, List.map_cons, List.map_nil]); first | done | rfl | (simp only [List.length_drop, List.length_take]; rfl)) ?_; (with_reducible refine (mag_Mul.calls k1 _ _ x4_1 _ _ t649 t652 _ ?side1 ?side2 ?side3 ?side4 A6.out).mono ?_); (case side1 => repeat (first | exact (Kd.V_reads' HO_4.out).2.2 | (with_reducible refine Kd.C_alloc ?_ _) | (with_reducible refine Kd.C_drewN ?_ _) | (with_reducible refine Kd.C_drew ?_))); (case side2 => exact (Kd.V_reads' HO_4.out).2.1); (case side3 => repeat (first | exact (Kd.V_reads' HO651.out).2.2 | (with_reducible refine Kd.C_alloc ?_ _) | (with_reducible refine Kd.C_drewN ?_ _) | (with_reducible refine Kd.C_drew ?_))); (case side4 => exact (Kd.V_reads' HO651.out).2.1); rintro e w13 ⟨v653, rfl, ho0, hb⟩; refine ⟨_, rfl, ?_⟩; have n0_ := Aside0.mk (Kd.V_below (by (with_reducible repeat (first | apply Kd.V_alloc | apply Kd.V_drewN | apply Kd.V_drew)); exact HO_4.out) hb); have n1_ := Aside0.mk (Kd.V_below (by (with_reducible repeat (first | apply Kd.V_alloc | apply Kd.V_drewN | apply Kd.V_drew)); exact HO651.out) hb); have n2_ := Aside0.mk (Kd.V_lower (Kd.V_mono (ok' := fun k_ => True) ho0 (fun k_ hk_ => trivial)) (below_size (bB))); have n3_ := Aside0.mk (below_step (bB) hb); clear HO_4; clear HO651; clear HB; have HO_4 := n0_; have HO651 := n1_; have HO654 := n2_; have HB := n3_; clear n0_ n1_ n2_ n3_; (try clear hb); (try clear hb2); (try clear hk); (try clear hi); (try clear ho0)) | ((with_reducible refine gate_callee (f := 59) rfl ?_); refine goesL_ (some 25) rfl rfl Try.func59 (by kernel_rfl) rfl #[.int .u64 x5_1] rfl (by (try simp only [List.map_toArray, List.map_cons, List.map_nil]); first | done | rfl | (simp only [List.length_drop, List.length_take]; rfl)) ?_; (with_reducible refine (mag_From.calls k1 x5_1 t655 _ A7.out).mono ?_); rintro e w14 ⟨v656, rfl, ho0, hb⟩; refine ⟨_, rfl, ?_⟩; have n0_ := Aside0.mk (Kd.V_below (by (with_reducible repeat (first | apply Kd.V_alloc | apply Kd.V_drewN | apply Kd.V_drew)); exact HO_4.out) hb); have n1_ := Aside0.mk (Kd.V_below (by (with_reducible repeat (first | apply Kd.V_alloc | apply Kd.V_drewN | apply Kd.V_drew)); exact HO651.out) hb); have n2_ := Aside0.mk (Kd.V_below (by (with_reducible repeat (first | apply Kd.V_alloc | apply Kd.V_drewN | apply Kd.V_drew)); exact HO654.out) hb); have n3_ := Aside0.mk (Kd.V_lower (Kd.V_mono (ok' := fun k_ => True) ho0 (fun k_ hk_ => trivial)) (below_size (bB))); have n4_ := Aside0.mk (below_step (bB) hb); clear HO_4; clear HO651; clear HO654; clear HB; have HO_4 := n0_; have HO651 := n1_; have HO654 := n2_; have HO657 := n3_; have HB := n4_; clear n0_ n1_ n2_ n3_ n4_; (try clear hb); (try clear hb2); (try clear hk); (try clear hi); (try clear ho0); obtain ⟨Ao15, co15, eo15⟩ := Kd.V_slice HO654.out; subst eo15; obtain ⟨Ao16, co16, eo16⟩ := Kd.V_slice HO657.out; subst eo16) | ((with_reducible refine gate_callee (f := 50) rfl ?_); refine goesL_ (some 26) rfl rfl Try.func50 (by kernel_rfl) rfl #[.slice Ao15 t652.length co15, .slice Ao16 t655.length co16] rfl (by (try simp only [List.map_toArray, List.map_cons, List.map_nil]); first | done | rfl | (simp only [List.length_drop, List.length_take]; rfl)) ?_; (with_reducible refine (mag_Add.calls k1 (fun k_ => True) _ _ t652 (fun k_ => True) _ _ t655 t658 _ ?side1 ?side2 A8.out).mono ?_); (case side1 => exact HO654.out); (case side2 => exact HO657.out); rintro e w17 ⟨v659, rfl, ho0, hb⟩; refine ⟨_, rfl, ?_⟩; have n0_ := Aside0.mk (Kd.V_below (by (with_reducible repeat (first | apply Kd.V_alloc | apply Kd.V_drewN | apply Kd.V_drew)); exact HO_4.out) hb); have n1_ := Aside0.mk (Kd.V_below (by (with_reducible repeat (first | apply Kd.V_alloc | apply Kd.V_drewN | apply Kd.V_drew)); exact HO651.out) hb); have n2_ := Aside0.mk (Kd.V_below (by (with_reducible repeat (first | apply Kd.V_alloc | apply Kd.V_drewN | apply Kd.V_drew)); exact HO654.out) hb); have n3_ := Aside0.mk (Kd.V_below (by (with_reducible repeat (first | apply Kd.V_alloc | apply Kd.V_drewN | apply Kd.V_drew)); exact HO657.out) hb); have n4_ := Aside0.mk (Kd.V_lower (Kd.V_mono (ok' := fun k_ => True) ho0 (fun k_ hk_ => trivial)) (below_size (bB))); have n5_ := Aside0.mk (below_step (bB) hb); clear HO_4; clear HO651; clear HO654; clear HO657; clear HB; have HO_4 := n0_; have HO651 := n1_; have HO654 := n2_; have HO657 := n3_; have HO660 := n4_; have HB := n5_; clear n0_ n1_ n2_ n3_ n4_ n5_; (try clear hb); (try clear hb2); (try clear hk); (try clear hi); (try clear ho0); obtain ⟨Ao18, co18, eo18⟩ := Kd.V_slice HO660.out; subst eo18) | ((with_reducible refine gate_callee (f := 52) rfl ?_); refine goesL_ (some 59) rfl rfl Try.func52 (by kernel_rfl) rfl #[.slice Ao18 t658.length co18] rfl (by (try simp only [List.map_toArray, List.map_cons, List.map_nil]); first | done | rfl | (simp only [List.length_drop, List.length_take]; rfl)) ?_; (with_reducible refine (nat_limited.calls _ _ t658 t661 t662 _ ?side1 ?side2 A9.out).mono ?_); (case side1 => repeat (first | exact (Kd.V_reads' HO660.out).2.2 | (with_reducible refine Kd.C_alloc ?_ _) | (with_reducible refine Kd.C_drewN ?_ _) | (with_reducible refine Kd.C_drew ?_))); (case side2 => exact (Kd.V_reads' HO660.out).2.1); rintro e w19 ⟨v663, rfl, ho0, hb⟩; refine ⟨_, rfl, ?_⟩; have n0_ := Aside0.mk (Kd.V_elder' (by (with_reducible repeat (first | apply Kd.V_alloc | apply Kd.V_drewN | apply Kd.V_drew)); exact HO_4.out) (Kd.R_base ho0) hb); have n1_ := Aside0.mk (Kd.V_elder' (by (with_reducible repeat (first | apply Kd.V_alloc | apply Kd.V_drewN | apply Kd.V_drew)); exact HO651.out) (Kd.R_base ho0) hb); have n2_ := Aside0.mk (Kd.V_elder' (by (with_reducible repeat (first | apply Kd.V_alloc | apply Kd.V_drewN | apply Kd.V_drew)); exact HO654.out) (Kd.R_base ho0) hb); have n3_ := Aside0.mk (Kd.V_elder' (by (with_reducible repeat (first | apply Kd.V_alloc | apply Kd.V_drewN | apply Kd.V_drew)); exact HO657.out) (Kd.R_base ho0) hb); have n4_ := Aside0.mk (Kd.V_elder' (by (with_reducible repeat (first | apply Kd.V_alloc | apply Kd.V_drewN | apply Kd.V_drew)); exact HO660.out) (Kd.R_base ho0) hb); have n5_ := Aside0.mk (Kd.R_lower ho0 (below_size (bB))); have n6_ := Aside0.mk (below_step (bB) hb); clear HO_4; clear HO651; clear HO654; clear HO657; clear HO660; clear HB; have HO_4 := n0_; have HO651 := n1_; have HO654 := n2_; have HO657 := n3_; have HO660 := n4_; have HO664 := n5_; have HB := n6_; clear n0_ n1_ n2_ n3_ n4_ n5_ n6_; (try clear hb); (try clear hb2); (try clear hk); (try clear hi); (try clear ho0))))
      try rw [Exit.noGoto_ret]
      go_ret2
      exact ⟨_, by first | rfl | (simp [errW_none, errW_some] <;> rfl) | (simp [*, errW_none, errW_some] <;> rfl), by (with_reducible repeat (first | apply Kd.R_alloc | apply Kd.R_drewN | apply Kd.R_drew)); exact HO664.out, by repeat (first | (with_reducible first | exact HB.out | apply below_alloc | apply pw_below_drewN | apply below_drew1) | exact HB.out)⟩
     ·rw [if_neg c4] at H
      have c4b0 : (x7_1 == (a0.size : Int)) = false := beq_eq_false_iff_ne.mpr c4
      have c4b1 : (x7_1 != (a0.size : Int)) = true := bne_iff_ne.mpr c4
      have HC20 := Aside0.mk H
      clear H
      go_upto_region 11 with (fail)
      go_cut [27] (fun v27 wc => ∃ (kq : Nat) (x27_19 : Bool), v27 = .bool x27_19 ∧ Aside0 (nat_Parse.j1 kq a0 x4_1 x5_1 x6_1 x7_1 x27_19 = some (r1, r2)) ∧ Aside0 (kq ≤ k1) ∧ Aside0 (Kd.V (Kd.int .u32) 36 wc w.heap.size (fun _ => True) u4 x4_1) ∧ Aside0 (Below w.heap.size w wc))
      case first =>
       have H := HC20.out
       clear HC20
       by_cases c21 : 0 ≤ x7_1
       ·rw [if_pos c21] at H
        have c21b0 : decide (0 ≤ x7_1) = true := decide_eq_true c21
        clear c21
        (first | rw [c21b0] | (simp only [i64_w, i32_w]; rw [c21b0]) | rw [c21b1] | skip)
        by_cases c22 : x7_1 < (a0.size : Int)
        ·rw [if_pos c22] at H
         have c22b0 : decide (x7_1 < (a0.size : Int)) = true := decide_eq_true c22
         clear c22
         by_cases c24 : (bt a0 x7_1) < 48
         ·rw [if_pos c24] at H
          have c24b0 : decide ((bt a0 x7_1) < 48) = true := decide_eq_true c24
          clear c24
          have H' := Aside0.mk H
          clear H
          have p23 : 0 ≤ (x7_1 : Int) := of_decide_eq_true aS
          have q23 : x7_1 < (a0.size : Int) := of_decide_eq_true aS
          have hx23 := bt_at a0 x7_1
          replace p23 := eq_true p23
          replace q23 := eq_true q23
          go_wp2
          try (go_step3; go_wp2)
          go_meet
          case rel => exact ⟨_, (true), (by first | rfl | (simp; done) | (simp [*]; done) | (simp; cases a0.toList <;> rfl)), H', ⟨by have := HK1.out; first | omega | exact Nat.le_refl _⟩, ⟨by (with_reducible repeat (first | apply Kd.V_alloc | apply Kd.V_drewN | apply Kd.V_drew)); exact HO_4.out⟩, ⟨by repeat (first | (with_reducible first | exact HB.out | apply below_alloc | apply pw_below_drewN | apply below_drew1) | exact HB.out)⟩⟩
         ·rw [if_neg c24] at H
          have c24b0 : decide ((bt a0 x7_1) < 48) = false := decide_eq_false c24
          clear c24
          have H' := Aside0.mk H
          clear H
          have p23 : 0 ≤ (x7_1 : Int) := of_decide_eq_true aS
          have q23 : x7_1 < (a0.size : Int) := of_decide_eq_true aS
          have hx23 := bt_at a0 x7_1
          replace p23 := eq_true p23
          replace q23 := eq_true q23
          have p25 : 0 ≤ (x7_1 : Int) := of_decide_eq_true aS
          have q25 : x7_1 < (a0.size : Int) := of_decide_eq_true aS
          have hx25 := bt_at a0 x7_1
          replace p25 := eq_true p25
          replace q25 := eq_true q25
          go_wp2
          try (go_step3; go_wp2)
          go_meet
          case rel => exact ⟨_, (decide ((bt a0 x7_1) > 57)), (by first | rfl | (simp; done) | (simp [*]; done) | (simp; cases a0.toList <;> rfl)), H', ⟨by have := HK1.out; first | omega | exact Nat.le_refl _⟩, ⟨by (with_reducible repeat (first | apply Kd.V_alloc | apply Kd.V_drewN | apply Kd.V_drew)); exact HO_4.out⟩, ⟨by repeat (first | (with_reducible first | exact HB.out | apply below_alloc | apply pw_below_drewN | apply below_drew1) | exact HB.out)⟩⟩
        ·rw [if_neg c22] at H
         exact absurd H (by simp)
       ·rw [if_neg c21] at H
        exact absurd H (by simp)
      case rest =>
       clear HC20
       try clear c2
       try clear c2b0
       try clear c2b1
       try clear p2
       try clear q2
       try clear hx2
       try clear c3
       try clear c3b0
       try clear c3b1
       try clear p3
       try clear c4
       try clear c4b0
       try clear c4b1
       try clear c5
       try clear c21
       try clear c21b0
       try clear c21b1
       try clear c22
       try clear c22b0
       try clear p23
       try clear q23
       try clear hx23
       try clear c24
       try clear c24b0
       try clear p25
       try clear q25
       try clear hx25
       try clear p2
       try clear p23
       try clear p25
       try clear p3
       try clear q23
       try clear q25
       obtain ⟨kq, x27_19, rfl, HA, HJ19, HO_4, HB⟩ := hcut
       cases kq with
       | zero => exact absurd HA.out (by simp [nat_Parse.j1])
       | succ kj19 =>
        have H := HA.out
        clear HA
        simp only [nat_Parse.j1] at H
        by_cases c26 : x27_19 = true
        ·subst c26
         have H1 : (some (([] : List Int), 90)) = some (r1, r2) := by rw [if_pos rfl] at H; exact H
         clear H
         have H := H1
         clear H1
         simp only [Option.some.injEq, Prod.mk.injEq] at H
         obtain ⟨rfl, rfl⟩ := H
         go_wp2
         try (go_step3; go_wp2)
         try rw [Exit.noGoto_ret]
         go_ret2
         exact ⟨_, by first | rfl | (simp [errW_none, errW_some] <;> rfl) | (simp [*, errW_none, errW_some] <;> rfl), by first | exact Kd.R_nil _ _ _ _ _ | exact Kd.N_nil _ _ _ _ _ | exact Kd.V_nil _ _ _ _ _ | exact Kd.Q_nil _ _ _ _ _ | exact Kd.S_nil _ _ _ _ _, by repeat (first | (with_reducible first | exact HB.out | apply below_alloc | apply pw_below_drewN | apply below_drew1) | exact HB.out)⟩
        ·replace c26 := Bool.eq_false_iff.mpr c26
         subst c26
         have H1 : (if x6_1 = 1000000000 then ((mag_From.f kj19 x6_1).bind fun t665 => ((mag_Mul.f kj19 x4_1 t665).bind fun t668 => ((mag_From.f kj19 x5_1).bind fun t671 => ((mag_Add.f kj19 t668 t671).bind fun t674 => (if 0 ≤ x7_1 then (if x7_1 < (a0.size : Int) then (nat_Parse.l0 kj19 a0 t674 ((0 * 10) + (((bt a0 x7_1) - 48) % 256)) (1 * 10) (wrap64 (x7_1 + 1))) else (none)) else (none)))))) else (if 0 ≤ x7_1 then (if x7_1 < (a0.size : Int) then (nat_Parse.l0 kj19 a0 x4_1 (IntKind.u64.wrap ((IntKind.u64.wrap (x5_1 * 10)) + (((bt a0 x7_1) - 48) % 256))) (IntKind.u64.wrap (x6_1 * 10)) (wrap64 (x7_1 + 1))) else (none)) else (none))) = some (r1, r2) := by rw [if_neg (show ¬ (false = true) by decide)] at H; exact H
         clear H
         have H := H1
         clear H1
         by_cases c27 : x6_1 = 1000000000
         ·rw [if_pos c27] at H
          have c27b0 : (x6_1 == 1000000000) = true := beq_iff_eq.mpr c27
          have c27b1 : (x6_1 != 1000000000) = false := bne_eq_false_iff_eq.mpr c27
          clear c27
          replace H := Option.bind_eq_some_iff.mp H
          obtain ⟨t665, A280, H⟩ := H
          replace H : ((mag_Mul.f kj19 x4_1 t665).bind fun t668 => ((mag_From.f kj19 x5_1).bind fun t671 => ((mag_Add.f kj19 t668 t671).bind fun t674 => (if 0 ≤ x7_1 then (if x7_1 < (a0.size : Int) then (nat_Parse.l0 kj19 a0 t674 ((0 * 10) + (((bt a0 x7_1) - 48) % 256)) (1 * 10) (wrap64 (x7_1 + 1))) else (none)) else (none))))) = some (r1, r2) := H
          have A28 := Aside0.mk A280
          clear A280
          replace H := Option.bind_eq_some_iff.mp H
          obtain ⟨t668, A290, H⟩ := H
          replace H : ((mag_From.f kj19 x5_1).bind fun t671 => ((mag_Add.f kj19 t668 t671).bind fun t674 => (if 0 ≤ x7_1 then (if x7_1 < (a0.size : Int) then (nat_Parse.l0 kj19 a0 t674 ((0 * 10) + (((bt a0 x7_1) - 48) % 256)) (1 * 10) (wrap64 (x7_1 + 1))) else (none)) else (none)))) = some (r1, r2) := H
          have A29 := Aside0.mk A290
          clear A290
          replace H := Option.bind_eq_some_iff.mp H
          obtain ⟨t671, A300, H⟩ := H
          replace H : ((mag_Add.f kj19 t668 t671).bind fun t674 => (if 0 ≤ x7_1 then (if x7_1 < (a0.size : Int) then (nat_Parse.l0 kj19 a0 t674 ((0 * 10) + (((bt a0 x7_1) - 48) % 256)) (1 * 10) (wrap64 (x7_1 + 1))) else (none)) else (none))) = some (r1, r2) := H
          have A30 := Aside0.mk A300
          clear A300
          replace H := Option.bind_eq_some_iff.mp H
          obtain ⟨t674, A310, H⟩ := H
          replace H : (if 0 ≤ x7_1 then (if x7_1 < (a0.size : Int) then (nat_Parse.l0 kj19 a0 t674 ((0 * 10) + (((bt a0 x7_1) - 48) % 256)) (1 * 10) (wrap64 (x7_1 + 1))) else (none)) else (none)) = some (r1, r2) := H
          have A31 := Aside0.mk A310
          clear A310
          by_cases c32 : 0 ≤ x7_1
          ·rw [if_pos c32] at H
           have c32b0 : decide (0 ≤ x7_1) = true := decide_eq_true c32
           clear c32
           by_cases c33 : x7_1 < (a0.size : Int)
           ·rw [if_pos c33] at H
            have c33b0 : decide (x7_1 < (a0.size : Int)) = true := decide_eq_true c33
            clear c33
            have H' := Aside0.mk H
            clear H
            go_wp2_with (first | ((with_reducible refine gate_callee (f := 59) rfl ?_); refine goesL_ (some 43) rfl rfl Try.func59 (by kernel_rfl) rfl #[.int .u64 x6_1] rfl (by (try simp only [List.map_toArray, List.map_cons, List.map_nil]); first | done | rfl | (simp only [List.length_drop, List.length_take]; rfl)) ?_; (with_reducible refine (mag_From.calls kj19 x6_1 t665 _ A28.out).mono ?_); rintro e w35 ⟨v666, rfl, ho0, hb⟩; refine ⟨_, rfl, ?_⟩; have n0_ := Aside0.mk (Kd.V_below (by (with_reducible repeat (first | apply Kd.V_alloc | apply Kd.V_drewN | apply Kd.V_drew)); exact HO_4.out) hb); have n1_ := Aside0.mk (Kd.V_lower (Kd.V_mono (ok' := fun k_ => True) ho0 (fun k_ hk_ => trivial)) (below_size (bB))); have n2_ := Aside0.mk (below_step (bB) hb); clear HO_4; clear HB; have HO_4 := n0_; have HO667 := n1_; have HB := n2_; clear n0_ n1_ n2_; (try clear hb); (try clear hb2); (try clear hk); (try clear hi); (try clear ho0); obtain ⟨Ao36, co36, eo36⟩ := Kd.V_slice HO_4.out; subst eo36; obtain ⟨Ao37, co37, eo37⟩ := Kd.V_slice HO667.out; subst eo37) | ((with_reducible refine gate_callee (f := 55) rfl ?_); refine goesL_ (some 44) rfl rfl Try.func55 (by kernel_rfl) rfl #[.slice Ao36 x4_1.length co36, .slice Ao37 t665.length co37] rfl (by (try simp only [List.map_toArray, List.map_cons, List.map_nil]); first | done | rfl | (simp only [List.length_drop, List.length_take]; rfl)) ?_; (with_reducible refine (mag_Mul.calls kj19 _ _ x4_1 _ _ t665 t668 _ ?side1 ?side2 ?side3 ?side4 A29.out).mono ?_); (case side1 => repeat (first | exact (Kd.V_reads' HO_4.out).2.2 | (with_reducible refine Kd.C_alloc ?_ _) | (with_reducible refine Kd.C_drewN ?_ _) | (with_reducible refine Kd.C_drew ?_))); (case side2 => exact (Kd.V_reads' HO_4.out).2.1); (case side3 => repeat (first | exact (Kd.V_reads' HO667.out).2.2 | (with_reducible refine Kd.C_alloc ?_ _) | (with_reducible refine Kd.C_drewN ?_ _) | (with_reducible refine Kd.C_drew ?_))); (case side4 => exact (Kd.V_reads' HO667.out).2.1); rintro e w38 ⟨v669, rfl, ho0, hb⟩; refine ⟨_, rfl, ?_⟩; have n0_ := Aside0.mk (Kd.V_below (by (with_reducible repeat (first | apply Kd.V_alloc | apply Kd.V_drewN | apply Kd.V_drew)); exact HO_4.out) hb); have n1_ := Aside0.mk (Kd.V_below (by (with_reducible repeat (first | apply Kd.V_alloc | apply Kd.V_drewN | apply Kd.V_drew)); exact HO667.out) hb); have n2_ := Aside0.mk (Kd.V_lower (Kd.V_mono (ok' := fun k_ => True) ho0 (fun k_ hk_ => trivial)) (below_size (bB))); have n3_ := Aside0.mk (below_step (bB) hb); clear HO_4; clear HO667; clear HB; have HO_4 := n0_; have HO667 := n1_; have HO670 := n2_; have HB := n3_; clear n0_ n1_ n2_ n3_; (try clear hb); (try clear hb2); (try clear hk); (try clear hi); (try clear ho0)) | ((with_reducible refine gate_callee (f := 59) rfl ?_); refine goesL_ (some 46) rfl rfl Try.func59 (by kernel_rfl) rfl #[.int .u64 x5_1] rfl (by (try simp only [List.map_toArray, List.map_cons, List.map_nil]); first | done | rfl | (simp only [List.length_drop, List.length_take]; rfl)) ?_; (with_reducible refine (mag_From.calls kj19 x5_1 t671 _ A30.out).mono ?_); rintro e w39 ⟨v672, rfl, ho0, hb⟩; refine ⟨_, rfl, ?_⟩; have n0_ := Aside0.mk (Kd.V_below (by (with_reducible repeat (first | apply Kd.V_alloc | apply Kd.V_drewN | apply Kd.V_drew)); exact HO_4.out) hb); have n1_ := Aside0.mk (Kd.V_below (by (with_reducible repeat (first | apply Kd.V_alloc | apply Kd.V_drewN | apply Kd.V_drew)); exact HO667.out) hb); have n2_ := Aside0.mk (Kd.V_below (by (with_reducible repeat (first | apply Kd.V_alloc | apply Kd.V_drewN | apply Kd.V_drew)); exact HO670.out) hb); have n3_ := Aside0.mk (Kd.V_lower (Kd.V_mono (ok' := fun k_ => True) ho0 (fun k_ hk_ => trivial)) (below_size (bB))); have n4_ := Aside0.mk (below_step (bB) hb); clear HO_4; clear HO667; clear HO670; clear HB; have HO_4 := n0_; have HO667 := n1_; have HO670 := n2_; have HO673 := n3_; have HB := n4_; clear n0_ n1_ n2_ n3_ n4_; (try clear hb); (try clear hb2); (try clear hk); (try clear hi); (try clear ho0); obtain ⟨Ao40, co40, eo40⟩ := Kd.V_slice HO670.out; subst eo40; obtain ⟨Ao41, co41, eo41⟩ := Kd.V_slice HO673.out; subst eo41) | ((with_reducible refine gate_callee (f := 50) rfl ?_); refine goesL_ (some 47) rfl rfl Try.func50 (by kernel_rfl) rfl #[.slice Ao40 t668.length co40, .slice Ao41 t671.length co41] rfl (by (try simp only [List.map_toArray, List.map_cons, List.map_nil]); first | done | rfl | (simp only [List.length_drop, List.length_take]; rfl)) ?_; (with_reducible refine (mag_Add.calls kj19 (fun k_ => True) _ _ t668 (fun k_ => True) _ _ t671 t674 _ ?side1 ?side2 A31.out).mono ?_); (case side1 => exact HO670.out); (case side2 => exact HO673.out); rintro e w42 ⟨v675, rfl, ho0, hb⟩; refine ⟨_, rfl, ?_⟩; have n0_ := Aside0.mk (Kd.V_below (by (with_reducible repeat (first | apply Kd.V_alloc | apply Kd.V_drewN | apply Kd.V_drew)); exact HO_4.out) hb); have n1_ := Aside0.mk (Kd.V_below (by (with_reducible repeat (first | apply Kd.V_alloc | apply Kd.V_drewN | apply Kd.V_drew)); exact HO667.out) hb); have n2_ := Aside0.mk (Kd.V_below (by (with_reducible repeat (first | apply Kd.V_alloc | apply Kd.V_drewN | apply Kd.V_drew)); exact HO670.out) hb); have n3_ := Aside0.mk (Kd.V_below (by (with_reducible repeat (first | apply Kd.V_alloc | apply Kd.V_drewN | apply Kd.V_drew)); exact HO673.out) hb); have n4_ := Aside0.mk (Kd.V_lower (Kd.V_mono (ok' := fun k_ => True) ho0 (fun k_ hk_ => trivial)) (below_size (bB))); have n5_ := Aside0.mk (below_step (bB) hb); clear HO_4; clear HO667; clear HO670; clear HO673; clear HB; have HO_4 := n0_; have HO667 := n1_; have HO670 := n2_; have HO673 := n3_; have HO676 := n4_; have HB := n5_; clear n0_ n1_ n2_ n3_ n4_ n5_; (try clear hb); (try clear hb2); (try clear hk); (try clear hi); (try clear ho0); have p34 : 0 ≤ (x7_1 : Int) := of_decide_eq_true aS; have q34 : x7_1 < (a0.size : Int) := of_decide_eq_true aS; have hx34 := bt_at a0 x7_1; replace p34 := eq_true p34; replace q34 := eq_true q34))
            try (go_step3; go_wp2_with (first | ((with_reducible refine gate_callee (f := 59) rfl ?_); refine goesL_ (some 43) rfl rfl Try.func59 (by kernel_rfl) rfl #[.int .u64 x6_1] rfl (by (try simp only [List.map_toArray, List.map_cons, List.map_nil]); first | done | rfl | (simp only [List.length_drop, List.length_take]; rfl)) ?_; (with_reducible refine (mag_From.calls kj19 x6_1 t665 _ A28.out).mono ?_); rintro e w35 ⟨v666, rfl, ho0, hb⟩; refine ⟨_, rfl, ?_⟩; have n0_ := Aside0.mk (Kd.V_below (by (with_reducible repeat (first | apply Kd.V_alloc | apply Kd.V_drewN | apply Kd.V_drew)); exact HO_4.out) hb); have n1_ := Aside0.mk (Kd.V_lower (Kd.V_mono (ok' := fun k_ => True) ho0 (fun k_ hk_ => trivial)) (below_size (bB))); have n2_ := Aside0.mk (below_step (bB) hb); clear HO_4; clear HB; have HO_4 := n0_; have HO667 := n1_; have HB := n2_; clear n0_ n1_ n2_; (try clear hb); (try clear hb2); (try clear hk); (try clear hi); (try clear ho0); obtain ⟨Ao36, co36, eo36⟩ := Kd.V_slice HO_4.out; subst eo36; obtain ⟨Ao37, co37, eo37⟩ := Kd.V_slice HO667.out; subst eo37) | ((with_reducible refine gate_callee (f := 55) rfl ?_); refine goesL_ (some 44) rfl rfl Try.func55 (by kernel_rfl) rfl #[.slice Ao36 x4_1.length co36, .slice Ao37 t665.length co37] rfl (by (try simp only [List.map_toArray, List.map_cons, List.map_nil]); first | done | rfl | (simp only [List.length_drop, List.length_take]; rfl)) ?_; (with_reducible refine (mag_Mul.calls kj19 _ _ x4_1 _ _ t665 t668 _ ?side1 ?side2 ?side3 ?side4 A29.out).mono ?_); (case side1 => repeat (first | exact (Kd.V_reads' HO_4.out).2.2 | (with_reducible refine Kd.C_alloc ?_ _) | (with_reducible refine Kd.C_drewN ?_ _) | (with_reducible refine Kd.C_drew ?_))); (case side2 => exact (Kd.V_reads' HO_4.out).2.1); (case side3 => repeat (first | exact (Kd.V_reads' HO667.out).2.2 | (with_reducible refine Kd.C_alloc ?_ _) | (with_reducible refine Kd.C_drewN ?_ _) | (with_reducible refine Kd.C_drew ?_))); (case side4 => exact (Kd.V_reads' HO667.out).2.1); rintro e w38 ⟨v669, rfl, ho0, hb⟩; refine ⟨_, rfl, ?_⟩; have n0_ := Aside0.mk (Kd.V_below (by (with_reducible repeat (first | apply Kd.V_alloc | apply Kd.V_drewN | apply Kd.V_drew)); exact HO_4.out) hb); have n1_ := Aside0.mk (Kd.V_below (by (with_reducible repeat (first | apply Kd.V_alloc | apply Kd.V_drewN | apply Kd.V_drew)); exact HO667.out) hb); have n2_ := Aside0.mk (Kd.V_lower (Kd.V_mono (ok' := fun k_ => True) ho0 (fun k_ hk_ => trivial)) (below_size (bB))); have n3_ := Aside0.mk (below_step (bB) hb); clear HO_4; clear HO667; clear HB; have HO_4 := n0_; have HO667 := n1_; have HO670 := n2_; have HB := n3_; clear n0_ n1_ n2_ n3_; (try clear hb); (try clear hb2); (try clear hk); (try clear hi); (try clear ho0)) | ((with_reducible refine gate_callee (f := 59) rfl ?_); refine goesL_ (some 46) rfl rfl Try.func59 (by kernel_rfl) rfl #[.int .u64 x5_1] rfl (by (try simp only [List.map_toArray, List.map_cons, List.map_nil]); first | done | rfl | (simp only [List.length_drop, List.length_take]; rfl)) ?_; (with_reducible refine (mag_From.calls kj19 x5_1 t671 _ A30.out).mono ?_); rintro e w39 ⟨v672, rfl, ho0, hb⟩; refine ⟨_, rfl, ?_⟩; have n0_ := Aside0.mk (Kd.V_below (by (with_reducible repeat (first | apply Kd.V_alloc | apply Kd.V_drewN | apply Kd.V_drew)); exact HO_4.out) hb); have n1_ := Aside0.mk (Kd.V_below (by (with_reducible repeat (first | apply Kd.V_alloc | apply Kd.V_drewN | apply Kd.V_drew)); exact HO667.out) hb); have n2_ := Aside0.mk (Kd.V_below (by (with_reducible repeat (first | apply Kd.V_alloc | apply Kd.V_drewN | apply Kd.V_drew)); exact HO670.out) hb); have n3_ := Aside0.mk (Kd.V_lower (Kd.V_mono (ok' := fun k_ => True) ho0 (fun k_ hk_ => trivial)) (below_size (bB))); have n4_ := Aside0.mk (below_step (bB) hb); clear HO_4; clear HO667; clear HO670; clear HB; have HO_4 := n0_; have HO667 := n1_; have HO670 := n2_; have HO673 := n3_; have HB := n4_; clear n0_ n1_ n2_ n3_ n4_; (try clear hb); (try clear hb2); (try clear hk); (try clear hi); (try clear ho0); obtain ⟨Ao40, co40, eo40⟩ := Kd.V_slice HO670.out; subst eo40; obtain ⟨Ao41, co41, eo41⟩ := Kd.V_slice HO673.out; subst eo41) | ((with_reducible refine gate_callee (f := 50) rfl ?_); refine goesL_ (some 47) rfl rfl Try.func50 (by kernel_rfl) rfl #[.slice Ao40 t668.length co40, .slice Ao41 t671.length co41] rfl (by (try simp only [List.map_toArray, List.map_cons, List.map_nil]); first | done | rfl | (simp only [List.length_drop, List.length_take]; rfl)) ?_; (with_reducible refine (mag_Add.calls kj19 (fun k_ => True) _ _ t668 (fun k_ => True) _ _ t671 t674 _ ?side1 ?side2 A31.out).mono ?_); (case side1 => exact HO670.out); (case side2 => exact HO673.out); rintro e w42 ⟨v675, rfl, ho0, hb⟩; refine ⟨_, rfl, ?_⟩; have n0_ := Aside0.mk (Kd.V_below (by (with_reducible repeat (first | apply Kd.V_alloc | apply Kd.V_drewN | apply Kd.V_drew)); exact HO_4.out) hb); have n1_ := Aside0.mk (Kd.V_below (by (with_reducible repeat (first | apply Kd.V_alloc | apply Kd.V_drewN | apply Kd.V_drew)); exact HO667.out) hb); have n2_ := Aside0.mk (Kd.V_below (by (with_reducible repeat (first | apply Kd.V_alloc | apply Kd.V_drewN | apply Kd.V_drew)); exact HO670.out) hb); have n3_ := Aside0.mk (Kd.V_below (by (with_reducible repeat (first | apply Kd.V_alloc | apply Kd.V_drewN | apply Kd.V_drew)); exact HO673.out) hb); have n4_ := Aside0.mk (Kd.V_lower (Kd.V_mono (ok' := fun k_ => True) ho0 (fun k_ hk_ => trivial)) (below_size (bB))); have n5_ := Aside0.mk (below_step (bB) hb); clear HO_4; clear HO667; clear HO670; clear HO673; clear HB; have HO_4 := n0_; have HO667 := n1_; have HO670 := n2_; have HO673 := n3_; have HO676 := n4_; have HB := n5_; clear n0_ n1_ n2_ n3_ n4_ n5_; (try clear hb); (try clear hb2); (try clear hk); (try clear hi); (try clear ho0); have p34 : 0 ≤ (x7_1 : Int) := of_decide_eq_true aS; have q34 : x7_1 < (a0.size : Int) := of_decide_eq_true aS; have hx34 := bt_at a0 x7_1; replace p34 := eq_true p34; replace q34 := eq_true q34)))
            go_roundg kj19
            case measure => have := HK1.out; have := HJ19.out; omega
            case rel => exact ⟨(t674), ((0 * 10) + (((bt a0 x7_1) - 48) % 256)), (1 * 10), (wrap64 (x7_1 + 1)), (by first | rfl | (simp; done) | (simp [*]; done) | (simp; cases a0.toList <;> rfl)), (by first | rfl | (simp; done) | (simp [*]; done) | (simp; cases a0.toList <;> rfl)), (by first | rfl | (simp; done) | (simp [*]; done) | (simp; cases a0.toList <;> rfl)), H', ⟨by have := HK1.out; have := HJ19.out; omega⟩, ⟨by (with_reducible repeat (first | apply Kd.V_alloc | apply Kd.V_drewN | apply Kd.V_drew)); exact HO676.out⟩, ⟨by repeat (first | (with_reducible first | exact HB.out | apply below_alloc | apply pw_below_drewN | apply below_drew1) | exact HB.out)⟩⟩
           ·rw [if_neg c33] at H
            exact absurd H (by simp)
          ·rw [if_neg c32] at H
           exact absurd H (by simp)
         ·rw [if_neg c27] at H
          have c27b0 : (x6_1 == 1000000000) = false := beq_eq_false_iff_ne.mpr c27
          have c27b1 : (x6_1 != 1000000000) = true := bne_iff_ne.mpr c27
          by_cases c43 : 0 ≤ x7_1
          ·rw [if_pos c43] at H
           have c43b0 : decide (0 ≤ x7_1) = true := decide_eq_true c43
           clear c43
           by_cases c44 : x7_1 < (a0.size : Int)
           ·rw [if_pos c44] at H
            have c44b0 : decide (x7_1 < (a0.size : Int)) = true := decide_eq_true c44
            clear c44
            have H' := Aside0.mk H
            clear H
            have p45 : 0 ≤ (x7_1 : Int) := of_decide_eq_true aS
            have q45 : x7_1 < (a0.size : Int) := of_decide_eq_true aS
            have hx45 := bt_at a0 x7_1
            replace p45 := eq_true p45
            replace q45 := eq_true q45
            go_wp2
            try (go_step3; go_wp2)
            go_roundg kj19
            case measure => have := HK1.out; have := HJ19.out; omega
            case rel => exact ⟨(x4_1), (IntKind.u64.wrap ((IntKind.u64.wrap (x5_1 * 10)) + (((bt a0 x7_1) - 48) % 256))), (IntKind.u64.wrap (x6_1 * 10)), (wrap64 (x7_1 + 1)), (by first | rfl | (simp; done) | (simp [*]; done) | (simp; cases a0.toList <;> rfl)), (by first | rfl | (simp; done) | (simp [*]; done) | (simp; cases a0.toList <;> rfl)), (by first | rfl | (simp; done) | (simp [*]; done) | (simp; cases a0.toList <;> rfl)), H', ⟨by have := HK1.out; have := HJ19.out; omega⟩, ⟨by (with_reducible repeat (first | apply Kd.V_alloc | apply Kd.V_drewN | apply Kd.V_drew)); exact HO_4.out⟩, ⟨by repeat (first | (with_reducible first | exact HB.out | apply below_alloc | apply pw_below_drewN | apply below_drew1) | exact HB.out)⟩⟩
           ·rw [if_neg c44] at H
            exact absurd H (by simp)
          ·rw [if_neg c43] at H
           exact absurd H (by simp)
end Go.Proofs.Ytfmobogdnlmdbaa.P
end
section
namespace Go.Proofs.Ytfmobogdnlmdbaa.P
open Go.RowKit Go.Proofs.YtfmobogdnlmdbaaW.PrintWords Go.Proofs.YtfmobogdnlmdbaaW.PrintLast Go.Proofs.YtfmobogdnlmdbaaW.PrintMore Go.Proofs.YtfmobogdnlmdbaaW
attribute [local go_sem] max2_int min2_int max_two min_two max_three min_three max_four min_four
set_option linter.unusedVariables false
set_option linter.unusedSimpArgs false
set_option maxHeartbeats 8000000 in
set_option maxRecDepth 100000 in
theorem isochroneref01_Text.calls (k : Nat) (A0 : Option Addr) (c0 : Nat) (l0 : List Int) (r : ByteArray) (w : World) (hr0 : Kd.C (Kd.int .i64) w A0 l0.length l0) (hc0 : l0.length ≤ c0) (h : isochroneref01_Text.f k l0 = some r) :
  Calls Try.prog 30 #[.slice A0 l0.length c0] w fun e w' => e = .returned (.string r) ∧ Below w.heap.size w w' := by
 have HR0 := Aside0.mk hr0
 have HC0 := Aside0.mk hc0
 clear hr0 hc0
 have HB := Aside0.mk (Below.refl w.heap.size w)
 have H : (if (l0.length : Int) = 0 then (some (⟨#[48]⟩ : ByteArray)) else (isochroneref01_Text.l0 k l0 ([] : List Int) (wrap64 ((l0.length : Int) - 1)))) = some r := h
 clear h
 by_cases c2 : (l0.length : Int) = 0
 ·rw [if_pos c2] at H
  have c2b0 : ((l0.length : Int) == 0) = true := beq_iff_eq.mpr c2
  have c2b1 : ((l0.length : Int) != 0) = false := bne_eq_false_iff_eq.mpr c2
  clear c2
  obtain rfl := Option.some.inj H
  go_enter Try.func30, Try.ntmps30
  go_wp2
  go_ret
  exact ⟨by first | rfl | (simp [errW_none, errW_some] <;> rfl) | (simp [*, errW_none, errW_some] <;> rfl), by repeat (first | (with_reducible first | exact HB.out | apply below_alloc | apply pw_below_drewN | apply below_drew1) | exact HB.out)⟩
 ·rw [if_neg c2] at H
  have c2b0 : ((l0.length : Int) == 0) = false := beq_eq_false_iff_ne.mpr c2
  have c2b1 : ((l0.length : Int) != 0) = true := bne_iff_ne.mpr c2
  have c2b2 : ¬ (l0 = []) := fun h_ => c2 (by rw [h_]; rfl)
  have H' := Aside0.mk H
  clear H
  go_enter Try.func30, Try.ntmps30
  go_wp2
  go_loopg [3, 4] k (fun kq v3 v4 w' => ∃ (x3_1 : List Int) (x4_1 : Int), v4 = .int .i64 x4_1 ∧ Aside0 (isochroneref01_Text.l0 kq l0 x3_1 x4_1 = some r) ∧ Aside0 (kq ≤ k) ∧ Aside0 (Kd.R (Kd.int .u8) 5 w' w.heap.size (fun _ => True) v3 x3_1) ∧ Aside0 (Below w.heap.size w w'))
  case atStart => exact ⟨(([] : List Int)), (wrap64 ((l0.length : Int) - 1)), (by first | rfl | (simp; done) | (simp [*]; done)), H', ⟨Nat.le_refl _⟩, ⟨by first | exact Kd.R_nil _ _ _ _ _ | exact Kd.N_nil _ _ _ _ _ | exact Kd.V_nil _ _ _ _ _ | exact Kd.Q_nil _ _ _ _ _ | exact Kd.S_nil _ _ _ _ _⟩, ⟨by repeat (first | (with_reducible first | exact HB.out | apply below_alloc | apply pw_below_drewN | apply below_drew1) | exact HB.out)⟩⟩
  case round =>
   clear H'
   try clear c2
   try clear c2b0
   try clear c2b1
   try clear c2b2
   try clear p2
   obtain ⟨x3_1, x4_1, rfl, HA, HK1, HO_3, HB⟩ := hrel
   cases gk with
   | zero => exact absurd HA.out (by simp [isochroneref01_Text.l0])
   | succ k1 =>
    have H := HA.out
    clear HA
    simp only [isochroneref01_Text.l0] at H
    by_cases c3 : x4_1 ≥ 0
    ·rw [if_pos c3] at H
     have c3b0 : decide (0 ≤ x4_1) = true := decide_eq_true c3
     clear c3
     have H' := Aside0.mk H
     clear H
     go_wp2
     go_loopg [3, 5] k1 (fun kq v3 v5 w' => ∃ (x3_2 : List Int) (x5_2 : Int), v5 = .int .i64 x5_2 ∧ Aside0 (isochroneref01_Text.l1 kq l0 x3_2 x4_1 x5_2 = some r) ∧ Aside0 (kq ≤ k1) ∧ Aside0 (Kd.R (Kd.int .u8) 5 w' w.heap.size (fun _ => True) v3 x3_2) ∧ Aside0 (Below w.heap.size w w'))
     case atStart => exact ⟨(x3_1), (1000), (by first | rfl | (simp; done) | (simp [*]; done)), H', ⟨Nat.le_refl _⟩, ⟨by (with_reducible repeat (first | apply Kd.R_alloc | apply Kd.R_drewN | apply Kd.R_drew)); exact HO_3.out⟩, ⟨by repeat (first | (with_reducible first | exact HB.out | apply below_alloc | apply pw_below_drewN | apply below_drew1) | exact HB.out)⟩⟩
     case round =>
      clear H'
      try clear c2
      try clear c2b0
      try clear c2b1
      try clear c2b2
      try clear p2
      try clear c3
      try clear c3b0
      try clear p2
      obtain ⟨x3_2, x5_2, rfl, HA, HK2, HO_3, HB⟩ := hrel
      cases gk with
      | zero => exact absurd HA.out (by simp [isochroneref01_Text.l1])
      | succ k2 =>
       have H := HA.out
       clear HA
       simp only [isochroneref01_Text.l1] at H
       by_cases c4 : x5_2 > 0
       ·rw [if_pos c4] at H
        have c4b0 : decide (0 < x5_2) = true := decide_eq_true c4
        clear c4
        by_cases c5 : 0 ≤ x4_1
        ·rw [if_pos c5] at H
         have c5b0 : decide (0 ≤ x4_1) = true := decide_eq_true c5
         clear c5
         by_cases c6 : x4_1 < (l0.length : Int)
         ·rw [if_pos c6] at H
          have c6b0 : decide (x4_1 < (l0.length : Int)) = true := decide_eq_true c6
          clear c6
          by_cases c7 : x5_2 = 0
          ·rw [if_pos c7] at H
           exact absurd H (by simp)
          ·rw [if_neg c7] at H
           have c7b0 : (x5_2 == 0) = false := beq_eq_false_iff_ne.mpr c7
           have c7b1 : (x5_2 != 0) = true := bne_iff_ne.mpr c7
           by_cases c8 : (x3_2.length : Int) > 0
           ·rw [if_pos c8] at H
            have c8b0 : decide (0 < (x3_2.length : Int)) = true := decide_eq_true c8
            have c8b1 : decide (0 < x3_2.length) = true := decide_eq_true (by omega)
            clear c8
            by_cases c9 : x3_2.length < 140737488355328
            ·rw [if_pos c9] at H
             have LMc9 := Aside0.mk c9
             clear c9
             obtain ⟨y678, hy678⟩ : ∃ y_ : List Int, y_ = (x3_2 ++ [(wrap64 (48 + (Int.tmod (wrap64 (Int.tdiv (rd l0 x4_1) x5_2)) 10))) % 256]) := ⟨_, rfl⟩
             replace H : (isochroneref01_Text.l1 k2 l0 y678 x4_1 (wrap64 (Int.tdiv x5_2 10))) = some r := by first | (rw [hy678]; with_reducible exact H) | (have H2_ := (Option.bind_some _ _).symm.trans H; rw [hy678]; with_reducible exact H2_) | (have H2_ := (Option.bind_some _ _).symm.trans H; with_reducible exact H2_) | with_reducible exact H | (rw [hy678]; exact H) | exact H
             have Ny678 := Aside0.mk hy678
             clear hy678
             have H' := Aside0.mk H
             clear H
             have p677 : 0 ≤ (x4_1 : Int) := of_decide_eq_true aS
             have q677 : x4_1 < (l0.length : Int) := of_decide_eq_true aS
             obtain ⟨ad677, e677, hx677_0⟩ := Kd.at_int HR0.out x4_1 p677 q677
             cases e677
             replace hx677_0 := (HB.out.cell (World.block_lt_of_cell? w _ hx677_0)).trans hx677_0
             replace p677 := eq_true p677
             replace q677 := eq_true q677
             obtain ⟨Ao10, co10, eo10⟩ := Kd.R_slice HO_3.out
             subst eo10
             go_wp2_with (first | ((with_reducible refine gate_builtin (b := .append) (xs := #[.tmp 35, .tmp 39]) rfl ?_); at_builtin; refine Kd.R_append (Kd.int .u8) (w0 := w) w.heap.size rfl (.tmp 35) (.tmp 39) 79 5 (.int .u8 0) 1 rfl Try.underlying79 info5 rfl (by decide) (by omega) (.slice Ao10 x3_2.length co10) x3_2 ((wrap64 (48 + (Int.tmod (wrap64 (Int.tdiv (rd l0 x4_1) x5_2)) 10))) % 256) [.int .u8 _] (fun _ => True) (fun _ => False) rfl (by first | rfl | (go_simp; done) | (go_simp; rfl)) ?aP (fun _ hk => hk.elim) ?aF ?aO ?aB ?aS ?aL ?_; (case aP => first | exact rfl | (show [Value.int _ _] = [Value.int _ _]; simp)); (case aB => exact (bB)); (case aF => exact (fun _ _ => trivial)); (case aO => exact (by (with_reducible repeat (first | apply Kd.R_alloc | apply Kd.R_drewN | apply Kd.R_drew)); exact HO_3.out)); (case aS => exact (below_size (bB))); (case aL => have := LMc9.out; omega); intro v679 w11 ho hb hg hat; rw [← Ny678.out] at ho; have n0_ := Aside0.mk (hb); have n1_ := Aside0.mk (ho); clear HB; clear HO_3; have HB := n0_; have HO680 := n1_; clear n0_ n1_; clear ho hb hg hat))
             go_roundg k2
             case measure => have := HK1.out; have := HK2.out; omega
             case rel => exact ⟨(y678), (wrap64 (Int.tdiv x5_2 10)), (by first | rfl | (simp; done) | (simp [*]; done)), H', ⟨by have := HK1.out; have := HK2.out; omega⟩, ⟨by (with_reducible repeat (first | apply Kd.R_alloc | apply Kd.R_drewN | apply Kd.R_drew)); exact HO680.out⟩, ⟨by repeat (first | (with_reducible first | exact HB.out | apply below_alloc | apply pw_below_drewN | apply below_drew1) | exact HB.out)⟩⟩
            ·rw [if_neg c9] at H
             exact absurd H (by simp)
           ·rw [if_neg c8] at H
            have c8b0 : decide (0 < (x3_2.length : Int)) = false := decide_eq_false c8
            have c8b1 : decide (0 < x3_2.length) = false := decide_eq_false (by omega)
            clear c8
            by_cases c12 : (Int.tmod (wrap64 (Int.tdiv (rd l0 x4_1) x5_2)) 10) > 0
            ·rw [if_pos c12] at H
             have c12b0 : decide (0 < (Int.tmod (wrap64 (Int.tdiv (rd l0 x4_1) x5_2)) 10)) = true := decide_eq_true c12
             clear c12
             by_cases c13 : x3_2.length < 140737488355328
             ·rw [if_pos c13] at H
              have LMc13 := Aside0.mk c13
              clear c13
              obtain ⟨y681, hy681⟩ : ∃ y_ : List Int, y_ = (x3_2 ++ [(wrap64 (48 + (Int.tmod (wrap64 (Int.tdiv (rd l0 x4_1) x5_2)) 10))) % 256]) := ⟨_, rfl⟩
              replace H : (isochroneref01_Text.l1 k2 l0 y681 x4_1 (wrap64 (Int.tdiv x5_2 10))) = some r := by first | (rw [hy681]; with_reducible exact H) | (have H2_ := (Option.bind_some _ _).symm.trans H; rw [hy681]; with_reducible exact H2_) | (have H2_ := (Option.bind_some _ _).symm.trans H; with_reducible exact H2_) | with_reducible exact H | (rw [hy681]; exact H) | exact H
              have Ny681 := Aside0.mk hy681
              clear hy681
              have H' := Aside0.mk H
              clear H
              have p677 : 0 ≤ (x4_1 : Int) := of_decide_eq_true aS
              have q677 : x4_1 < (l0.length : Int) := of_decide_eq_true aS
              obtain ⟨ad677, e677, hx677_0⟩ := Kd.at_int HR0.out x4_1 p677 q677
              cases e677
              replace hx677_0 := (HB.out.cell (World.block_lt_of_cell? w _ hx677_0)).trans hx677_0
              replace p677 := eq_true p677
              replace q677 := eq_true q677
              obtain ⟨Ao14, co14, eo14⟩ := Kd.R_slice HO_3.out
              subst eo14
              go_wp2_with (first | ((with_reducible refine gate_builtin (b := .append) (xs := #[.tmp 35, .tmp 39]) rfl ?_); at_builtin; refine Kd.R_append (Kd.int .u8) (w0 := w) w.heap.size rfl (.tmp 35) (.tmp 39) 79 5 (.int .u8 0) 1 rfl Try.underlying79 info5 rfl (by decide) (by omega) (.slice Ao14 x3_2.length co14) x3_2 ((wrap64 (48 + (Int.tmod (wrap64 (Int.tdiv (rd l0 x4_1) x5_2)) 10))) % 256) [.int .u8 _] (fun _ => True) (fun _ => False) rfl (by first | rfl | (go_simp; done) | (go_simp; rfl)) ?aP (fun _ hk => hk.elim) ?aF ?aO ?aB ?aS ?aL ?_; (case aP => first | exact rfl | (show [Value.int _ _] = [Value.int _ _]; simp)); (case aB => exact (bB)); (case aF => exact (fun _ _ => trivial)); (case aO => exact (by (with_reducible repeat (first | apply Kd.R_alloc | apply Kd.R_drewN | apply Kd.R_drew)); exact HO_3.out)); (case aS => exact (below_size (bB))); (case aL => have := LMc13.out; omega); intro v682 w15 ho hb hg hat; rw [← Ny681.out] at ho; have n0_ := Aside0.mk (hb); have n1_ := Aside0.mk (ho); clear HB; clear HO_3; have HB := n0_; have HO683 := n1_; clear n0_ n1_; clear ho hb hg hat))
              go_roundg k2
              case measure => have := HK1.out; have := HK2.out; omega
              case rel => exact ⟨(y681), (wrap64 (Int.tdiv x5_2 10)), (by first | rfl | (simp; done) | (simp [*]; done)), H', ⟨by have := HK1.out; have := HK2.out; omega⟩, ⟨by (with_reducible repeat (first | apply Kd.R_alloc | apply Kd.R_drewN | apply Kd.R_drew)); exact HO683.out⟩, ⟨by repeat (first | (with_reducible first | exact HB.out | apply below_alloc | apply pw_below_drewN | apply below_drew1) | exact HB.out)⟩⟩
             ·rw [if_neg c13] at H
              exact absurd H (by simp)
            ·rw [if_neg c12] at H
             have c12b0 : decide (0 < (Int.tmod (wrap64 (Int.tdiv (rd l0 x4_1) x5_2)) 10)) = false := decide_eq_false c12
             clear c12
             have H' := Aside0.mk H
             clear H
             have p677 : 0 ≤ (x4_1 : Int) := of_decide_eq_true aS
             have q677 : x4_1 < (l0.length : Int) := of_decide_eq_true aS
             obtain ⟨ad677, e677, hx677_0⟩ := Kd.at_int HR0.out x4_1 p677 q677
             cases e677
             replace hx677_0 := (HB.out.cell (World.block_lt_of_cell? w _ hx677_0)).trans hx677_0
             replace p677 := eq_true p677
             replace q677 := eq_true q677
             obtain ⟨Ao16, co16, eo16⟩ := Kd.R_slice HO_3.out
             subst eo16
             go_wp2
             go_roundg k2
             case measure => have := HK1.out; have := HK2.out; omega
             case rel => exact ⟨(x3_2), (wrap64 (Int.tdiv x5_2 10)), (by first | rfl | (simp; done) | (simp [*]; done)), H', ⟨by have := HK1.out; have := HK2.out; omega⟩, ⟨by (with_reducible repeat (first | apply Kd.R_alloc | apply Kd.R_drewN | apply Kd.R_drew)); exact HO_3.out⟩, ⟨by repeat (first | (with_reducible first | exact HB.out | apply below_alloc | apply pw_below_drewN | apply below_drew1) | exact HB.out)⟩⟩
         ·rw [if_neg c6] at H
          exact absurd H (by simp)
        ·rw [if_neg c5] at H
         exact absurd H (by simp)
       ·rw [if_neg c4] at H
        have c4b0 : decide (0 < x5_2) = false := decide_eq_false c4
        clear c4
        have H' := Aside0.mk H
        clear H
        go_wp2
        go_roundg k2
        case measure => have := HK1.out; have := HK2.out; omega
        case rel => exact ⟨(x3_2), (wrap64 (x4_1 - 1)), (by first | rfl | (simp; done) | (simp [*]; done)), H', ⟨by have := HK1.out; have := HK2.out; omega⟩, ⟨by (with_reducible repeat (first | apply Kd.R_alloc | apply Kd.R_drewN | apply Kd.R_drew)); exact HO_3.out⟩, ⟨by repeat (first | (with_reducible first | exact HB.out | apply below_alloc | apply pw_below_drewN | apply below_drew1) | exact HB.out)⟩⟩
    ·rw [if_neg c3] at H
     have c3b0 : decide (0 ≤ x4_1) = false := decide_eq_false c3
     clear c3
     obtain rfl := Option.some.inj H
     have hcv17 := own_string (P := Try.prog) Try.underlying79 Try.underlying5 Try.underlying9 (Kd.own_of_R HO_3.out)
     go_wp2
     go_ret
     exact ⟨by first | rfl | (simp [errW_none, errW_some] <;> rfl) | (simp [*, errW_none, errW_some] <;> rfl), by repeat (first | (with_reducible first | exact HB.out | apply below_alloc | apply pw_below_drewN | apply below_drew1) | exact HB.out)⟩
set_option maxHeartbeats 8000000 in
set_option maxRecDepth 100000 in
theorem isochroneref01_Decimal.calls (k : Nat) (a0 : ByteArray) (r : Bool) (w : World) (h : isochroneref01_Decimal.f k a0 = some r) :
  Calls Try.prog 32 #[.string a0] w fun e w' => e = .returned (.bool r) ∧ Drawn0 w w' := by
 have H : (isochroneref01_Decimal.l0 k a0 (a0.size : Int) 0) = some r := h
 clear h
 have H' := Aside0.mk H
 clear H
 go_enter Try.func32, Try.ntmps32
 go_wp2
 go_loopg [6] k (fun kq v6 w' => ∃ (x6_1 : Int), v6 = .int .i64 x6_1 ∧ Aside0 (isochroneref01_Decimal.l0 kq a0 (a0.size : Int) x6_1 = some r) ∧ Aside0 (kq ≤ k) ∧ Drawn0 w w')
 case atStart => exact ⟨(0), (by first | rfl | (simp; done) | (simp [*]; done) | (simp; cases a0.toList <;> rfl)), H', ⟨Nat.le_refl _⟩, by repeat (first | exact Drawn0.refl _ | apply Drawn0.step)⟩
 case round =>
  clear H'
  obtain ⟨x6_1, rfl, HA, HK1, ⟨m1, rfl⟩⟩ := hrel
  cases gk with
  | zero => exact absurd HA.out (by simp [isochroneref01_Decimal.l0])
  | succ k1 =>
   have H := HA.out
   clear HA
   simp only [isochroneref01_Decimal.l0] at H
   by_cases c2 : x6_1 < (a0.size : Int)
   ·rw [if_pos c2] at H
    have c2b0 : decide (x6_1 < (a0.size : Int)) = true := decide_eq_true c2
    clear c2
    by_cases c3 : 0 ≤ x6_1
    ·rw [if_pos c3] at H
     have c3b0 : decide (0 ≤ x6_1) = true := decide_eq_true c3
     clear c3
     by_cases c4 : x6_1 < (a0.size : Int)
     ·rw [if_pos c4] at H
      have c4b0 : decide (x6_1 < (a0.size : Int)) = true := decide_eq_true c4
      clear c4
      by_cases c6 : (bt a0 x6_1) < 48
      ·rw [if_pos c6] at H
       have c6b0 : decide ((bt a0 x6_1) < 48) = true := decide_eq_true c6
       clear c6
       obtain rfl := Option.some.inj H
       have p5 : 0 ≤ (x6_1 : Int) := of_decide_eq_true aS
       have q5 : x6_1 < (a0.size : Int) := of_decide_eq_true aS
       have hx5 := bt_at a0 x6_1
       replace p5 := eq_true p5
       replace q5 := eq_true q5
       go_wp2
       go_ret
       exact ⟨by first | rfl | (simp; done) | (simp [*]; done) | (simp; cases a0.toList <;> rfl), by repeat (first | exact Drawn0.refl _ | apply Drawn0.step)⟩
      ·rw [if_neg c6] at H
       have c6b0 : decide ((bt a0 x6_1) < 48) = false := decide_eq_false c6
       clear c6
       by_cases c8 : (bt a0 x6_1) > 57
       ·rw [if_pos c8] at H
        have c8b0 : decide (57 < (bt a0 x6_1)) = true := decide_eq_true c8
        clear c8
        obtain rfl := Option.some.inj H
        have p5 : 0 ≤ (x6_1 : Int) := of_decide_eq_true aS
        have q5 : x6_1 < (a0.size : Int) := of_decide_eq_true aS
        have hx5 := bt_at a0 x6_1
        replace p5 := eq_true p5
        replace q5 := eq_true q5
        have p7 : 0 ≤ (x6_1 : Int) := of_decide_eq_true aS
        have q7 : x6_1 < (a0.size : Int) := of_decide_eq_true aS
        have hx7 := bt_at a0 x6_1
        replace p7 := eq_true p7
        replace q7 := eq_true q7
        go_wp2
        go_ret
        exact ⟨by first | rfl | (simp; done) | (simp [*]; done) | (simp; cases a0.toList <;> rfl), by repeat (first | exact Drawn0.refl _ | apply Drawn0.step)⟩
       ·rw [if_neg c8] at H
        have c8b0 : decide (57 < (bt a0 x6_1)) = false := decide_eq_false c8
        clear c8
        have H' := Aside0.mk H
        clear H
        have p5 : 0 ≤ (x6_1 : Int) := of_decide_eq_true aS
        have q5 : x6_1 < (a0.size : Int) := of_decide_eq_true aS
        have hx5 := bt_at a0 x6_1
        replace p5 := eq_true p5
        replace q5 := eq_true q5
        have p7 : 0 ≤ (x6_1 : Int) := of_decide_eq_true aS
        have q7 : x6_1 < (a0.size : Int) := of_decide_eq_true aS
        have hx7 := bt_at a0 x6_1
        replace p7 := eq_true p7
        replace q7 := eq_true q7
        go_wp2
        go_roundg k1
        case measure => have := HK1.out; omega
        case rel => exact ⟨(wrap64 (x6_1 + 1)), (by first | rfl | (simp; done) | (simp [*]; done) | (simp; cases a0.toList <;> rfl)), H', ⟨by have := HK1.out; omega⟩, by repeat (first | exact Drawn0.refl _ | apply Drawn0.step)⟩
     ·rw [if_neg c4] at H
      exact absurd H (by simp)
    ·rw [if_neg c3] at H
     exact absurd H (by simp)
   ·rw [if_neg c2] at H
    have c2b0 : decide (x6_1 < (a0.size : Int)) = false := decide_eq_false c2
    clear c2
    obtain rfl := Option.some.inj H
    go_wp2
    go_ret
    exact ⟨by first | rfl | (simp; done) | (simp [*]; done) | (simp; cases a0.toList <;> rfl), by repeat (first | exact Drawn0.refl _ | apply Drawn0.step)⟩
end Go.Proofs.Ytfmobogdnlmdbaa.P
end
section
namespace Go.Proofs.Ytfmobogdnlmdbaa.P
open Go.RowKit Go.Proofs.YtfmobogdnlmdbaaW.PrintWords Go.Proofs.YtfmobogdnlmdbaaW.PrintLast Go.Proofs.YtfmobogdnlmdbaaW.PrintMore Go.Proofs.YtfmobogdnlmdbaaW
attribute [local go_sem] max2_int min2_int max_two min_two max_three min_three max_four min_four
set_option linter.unusedVariables false
set_option linter.unusedSimpArgs false
set_option maxHeartbeats 8000000 in
set_option maxRecDepth 100000 in
theorem isochroneref01_Digits.calls (k : Nat) (a0 : ByteArray) (r : List Int) (w : World) (h : isochroneref01_Digits.f k a0 = some r) :
  Calls Try.prog 33 #[.string a0] w fun e w' => ∃ v0_ : Value, e = .returned (v0_) ∧ Kd.R (Kd.int .i64) 3 w' w.heap.size (fun _ => True) v0_ r ∧ Below w.heap.size w w' := by
 have HB := Aside0.mk (Below.refl w.heap.size w)
 have H : (isochroneref01_Digits.l0 k a0 (([] : List Int)) (a0.size : Int)) = some r := h
 clear h
 obtain ⟨y684, hy684⟩ : ∃ y_ : List Int, y_ = (([] : List Int)) := ⟨_, rfl⟩
 replace H : (isochroneref01_Digits.l0 k a0 y684 (a0.size : Int)) = some r := by first | (rw [hy684]; with_reducible exact H) | (have H2_ := (Option.bind_some _ _).symm.trans H; rw [hy684]; with_reducible exact H2_) | (have H2_ := (Option.bind_some _ _).symm.trans H; with_reducible exact H2_) | with_reducible exact H | (rw [hy684]; exact H) | exact H
 have Ny684 := Aside0.mk hy684
 clear hy684
 have H' := Aside0.mk H
 clear H
 go_enter Try.func33, Try.ntmps33
 go_wp2_with (first | ((with_reducible refine gate_dst (N := 7) rfl ?_); refine Kd.R_lit (Kd.int .i64) _ 3 ?hg (N := 7) ?hd (xs := ([] : List Int)) (inner := []) (ok := fun _ => True) (okp := fun _ => True) ?hr ?hp (fun _ hk => hk) trivial (Below.refl _ _) (Nat.le_refl _) (by simp) ?_; (case hd => rfl); (case hg => rfl); (case hr => first | (go_simp; done) | (go_simp; rfl)); (case hp => exact (Reps.none _ _)); intro v685 w2 ho3 hb hg_ hnew_; clear hg_ hnew_; (first | rw [← Ny684.out] at ho3 | (simp only [Int.reduceToNat] at ho3; rw [← Ny684.out] at ho3)); have n0_ := Aside0.mk (Kd.R_lower ho3 (below_size (bB))); have n1_ := Aside0.mk (below_step (bB) hb); clear HB; have HO686 := n0_; have HB := n1_; clear n0_ n1_; clear hb ho3))
 go_loopg [3, 4] k (fun kq v3 v4 w' => ∃ (x3_1 : List Int) (x4_1 : Int), v4 = .int .i64 x4_1 ∧ Aside0 (isochroneref01_Digits.l0 kq a0 x3_1 x4_1 = some r) ∧ Aside0 (kq ≤ k) ∧ Aside0 (Kd.R (Kd.int .i64) 3 w' w.heap.size (fun _ => True) v3 x3_1) ∧ Aside0 (Below w.heap.size w w'))
 case atStart => exact ⟨(y684), ((a0.size : Int)), (by first | rfl | (simp; done) | (simp [*]; done) | (simp; cases a0.toList <;> rfl)), H', ⟨Nat.le_refl _⟩, ⟨by (with_reducible repeat (first | apply Kd.R_alloc | apply Kd.R_drewN | apply Kd.R_drew)); exact HO686.out⟩, ⟨by repeat (first | (with_reducible first | exact HB.out | apply below_alloc | apply pw_below_drewN | apply below_drew1) | exact HB.out)⟩⟩
 case round =>
  clear H'
  try clear p2
  try clear c3
  obtain ⟨x3_1, x4_1, rfl, HA, HK1, HO_3, HB⟩ := hrel
  cases gk with
  | zero => exact absurd HA.out (by simp [isochroneref01_Digits.l0])
  | succ k1 =>
   have H := HA.out
   clear HA
   simp only [isochroneref01_Digits.l0] at H
   by_cases c4 : x4_1 > 0
   ·rw [if_pos c4] at H
    have c4b0 : decide (0 < x4_1) = true := decide_eq_true c4
    clear c4
    obtain ⟨ji5, hji5⟩ : ∃ j_ : Int, (mx 0 (wrap64 (x4_1 - 4))) = j_ := ⟨_, rfl⟩
    replace H : (isochroneref01_Digits.l1 k1 a0 x3_1 x4_1 0 ji5) = some r := by first | (rw [hji5] at H; exact H) | (simp only [hji5] at H ⊢; exact H)
    have hji5_ : (if 0 < (wrap64 (x4_1 - 4)) then (wrap64 (x4_1 - 4)) else 0) = ji5 := hji5
    have H' := Aside0.mk H
    clear H
    go_wp2
    go_loopg [5, 6] k1 (fun kq v5 v6 w' => ∃ (x5_2 : Int) (x6_2 : Int), v5 = .int .i64 x5_2 ∧ v6 = .int .i64 x6_2 ∧ Aside0 (isochroneref01_Digits.l1 kq a0 x3_1 x4_1 x5_2 x6_2 = some r) ∧ Aside0 (kq ≤ k1) ∧ Aside0 (Kd.R (Kd.int .i64) 3 w' w.heap.size (fun _ => True) u3 x3_1) ∧ Aside0 (Below w.heap.size w w'))
    case atStart => exact ⟨(0), (ji5), (by first | rfl | (simp; done) | (simp [*]; done) | (simp; cases a0.toList <;> rfl)), (by first | rfl | (simp; done) | (simp only [← hji5] <;> (first | rfl | simp)) | (simp [*]; done) | (simp; cases a0.toList <;> rfl)), H', ⟨Nat.le_refl _⟩, ⟨by (with_reducible repeat (first | apply Kd.R_alloc | apply Kd.R_drewN | apply Kd.R_drew)); exact HO_3.out⟩, ⟨by repeat (first | (with_reducible first | exact HB.out | apply below_alloc | apply pw_below_drewN | apply below_drew1) | exact HB.out)⟩⟩
    case round =>
     clear H'
     try clear p2
     try clear c3
     try clear c4
     try clear c4b0
     try clear p2
     obtain ⟨x5_2, x6_2, rfl, rfl, HA, HK2, HO_3, HB⟩ := hrel
     cases gk with
     | zero => exact absurd HA.out (by simp [isochroneref01_Digits.l1])
     | succ k2 =>
      have H := HA.out
      clear HA
      simp only [isochroneref01_Digits.l1] at H
      by_cases c6 : x6_2 < x4_1
      ·rw [if_pos c6] at H
       have c6b0 : decide (x6_2 < x4_1) = true := decide_eq_true c6
       clear c6
       by_cases c7 : 0 ≤ x6_2
       ·rw [if_pos c7] at H
        have c7b0 : decide (0 ≤ x6_2) = true := decide_eq_true c7
        clear c7
        by_cases c8 : x6_2 < (a0.size : Int)
        ·rw [if_pos c8] at H
         have c8b0 : decide (x6_2 < (a0.size : Int)) = true := decide_eq_true c8
         clear c8
         have H' := Aside0.mk H
         clear H
         have p9 : 0 ≤ (x6_2 : Int) := of_decide_eq_true aS
         have q9 : x6_2 < (a0.size : Int) := of_decide_eq_true aS
         have hx9 := bt_at a0 x6_2
         replace p9 := eq_true p9
         replace q9 := eq_true q9
         go_wp2
         go_roundg k2
         case measure => have := HK1.out; have := HK2.out; omega
         case rel => exact ⟨(wrap64 ((wrap64 (x5_2 * 10)) + (((bt a0 x6_2) - 48) % 256))), (wrap64 (x6_2 + 1)), (by first | rfl | (simp; done) | (simp [*]; done) | (simp; cases a0.toList <;> rfl)), (by first | rfl | (simp; done) | (simp [*]; done) | (simp; cases a0.toList <;> rfl)), H', ⟨by have := HK1.out; have := HK2.out; omega⟩, ⟨by (with_reducible repeat (first | apply Kd.R_alloc | apply Kd.R_drewN | apply Kd.R_drew)); exact HO_3.out⟩, ⟨by repeat (first | (with_reducible first | exact HB.out | apply below_alloc | apply pw_below_drewN | apply below_drew1) | exact HB.out)⟩⟩
        ·rw [if_neg c8] at H
         exact absurd H (by simp)
       ·rw [if_neg c7] at H
        exact absurd H (by simp)
      ·rw [if_neg c6] at H
       have c6b0 : decide (x6_2 < x4_1) = false := decide_eq_false c6
       clear c6
       by_cases c10 : x3_1.length < 17592186044416
       ·rw [if_pos c10] at H
        have LMc10 := Aside0.mk c10
        clear c10
        obtain ⟨y690, hy690⟩ : ∃ y_ : List Int, y_ = (x3_1 ++ [x5_2]) := ⟨_, rfl⟩
        replace H : (isochroneref01_Digits.l0 k2 a0 y690 (wrap64 (x4_1 - 4))) = some r := by first | (rw [hy690]; with_reducible exact H) | (have H2_ := (Option.bind_some _ _).symm.trans H; rw [hy690]; with_reducible exact H2_) | (have H2_ := (Option.bind_some _ _).symm.trans H; with_reducible exact H2_) | with_reducible exact H | (rw [hy690]; exact H) | exact H
        have Ny690 := Aside0.mk hy690
        clear hy690
        have H' := Aside0.mk H
        clear H
        go_wp2_with (first | ((with_reducible refine gate_builtin (b := .append) (xs := #[.tmp 30, .tmp 32]) rfl ?_); at_builtin; refine Kd.R_append (Kd.int .i64) (w0 := w) w.heap.size rfl (.tmp 30) (.tmp 32) 30 3 (.int .i64 0) 8 rfl Try.underlying30 info3 rfl (by decide) (by omega) u3 x3_1 x5_2 [.int .i64 x5_2] (fun _ => True) (fun _ => False) rfl (by first | rfl | (go_simp; done) | (go_simp; rfl)) ?aP (fun _ hk => hk.elim) ?aF ?aO ?aB ?aS ?aL ?_; (case aP => exact rfl); (case aB => exact (bB)); (case aF => exact (fun _ _ => trivial)); (case aO => exact (by (with_reducible repeat (first | apply Kd.R_alloc | apply Kd.R_drewN | apply Kd.R_drew)); exact HO_3.out)); (case aS => exact (below_size (bB))); (case aL => have := LMc10.out; omega); intro v691 w11 ho hb hg hat; rw [← Ny690.out] at ho; have n0_ := Aside0.mk (hb); have n1_ := Aside0.mk (ho); clear HB; clear HO_3; have HB := n0_; have HO692 := n1_; clear n0_ n1_; clear ho hb hg hat))
        (try simp only [← hji5])
        go_roundg k2
        case measure => have := HK1.out; have := HK2.out; omega
        case rel => exact ⟨(y690), (wrap64 (x4_1 - 4)), (by first | rfl | (simp; done) | (simp [*]; done) | (simp; cases a0.toList <;> rfl)), (by first | with_reducible exact H' | (simp only [hji5]; exact H') | exact H'), ⟨by have := HK1.out; have := HK2.out; omega⟩, ⟨by (with_reducible repeat (first | apply Kd.R_alloc | apply Kd.R_drewN | apply Kd.R_drew)); exact HO692.out⟩, ⟨by repeat (first | (with_reducible first | exact HB.out | apply below_alloc | apply pw_below_drewN | apply below_drew1) | exact HB.out)⟩⟩
       ·rw [if_neg c10] at H
        exact absurd H (by simp)
   ·rw [if_neg c4] at H
    have c4b0 : decide (0 < x4_1) = false := decide_eq_false c4
    clear c4
    replace H := Option.bind_eq_some_iff.mp H
    obtain ⟨t687, A120, H⟩ := H
    replace H : (some t687) = some r := H
    have A12 := Aside0.mk A120
    clear A120
    obtain rfl := Option.some.inj H
    obtain ⟨Ao13, co13, eo13⟩ := Kd.R_slice HO_3.out
    subst eo13
    go_wp2_with (first | ((with_reducible refine gate_callee (f := 53) rfl ?_); refine goesL_ (some 35) rfl rfl Try.func53 (by kernel_rfl) rfl #[.slice Ao13 x3_1.length co13] rfl (by (try simp only [List.map_toArray, List.map_cons, List.map_nil]); first | done | rfl | (simp only [List.length_drop, List.length_take]; rfl)) ?_; (with_reducible refine (isochroneref01_trim.calls k1 (fun k_ => some k_ = (.slice Ao13 x3_1.length co13 : Value).ownBlock) (.slice Ao13 x3_1.length co13) x3_1 t687 w _ ?side1 ?side2 A12.out).mono ?_); (case side1 => repeat (first | (with_reducible first | exact HB.out | apply below_alloc | apply pw_below_drewN | apply below_drew1) | exact HB.out)); (case side2 => exact Kd.R_tight rfl HO_3.out); rintro e w14 ⟨v688, rfl, ho0, hb, hkp⟩; refine ⟨_, rfl, ?_⟩; have n0_ := Aside0.mk (Kd.R_mono (ok' := fun k_ => True) ho0 (fun k_ hk_ => trivial)); have n1_ := Aside0.mk (hb); clear HB; clear HO_3; have HO689 := n0_; have HB := n1_; clear n0_ n1_; (try clear hb); (try clear hkp); (try clear ho0)))
    go_ret
    exact ⟨_, by first | rfl | (simp [errW_none, errW_some] <;> rfl) | (simp [*, errW_none, errW_some] <;> rfl), by (with_reducible repeat (first | apply Kd.R_alloc | apply Kd.R_drewN | apply Kd.R_drew)); exact HO689.out, by repeat (first | (with_reducible first | exact HB.out | apply below_alloc | apply pw_below_drewN | apply below_drew1) | exact HB.out)⟩
end Go.Proofs.Ytfmobogdnlmdbaa.P
end
section
namespace Go.Proofs.Ytfmobogdnlmdbaa.P
open Go.RowKit Go.Proofs.YtfmobogdnlmdbaaW.PrintWords Go.Proofs.YtfmobogdnlmdbaaW.PrintLast Go.Proofs.YtfmobogdnlmdbaaW.PrintMore Go.Proofs.YtfmobogdnlmdbaaW
attribute [local go_sem] max2_int min2_int max_two min_two max_three min_three max_four min_four
set_option linter.unusedVariables false
set_option linter.unusedSimpArgs false
set_option maxHeartbeats 8000000 in
set_option maxRecDepth 100000 in
theorem isochronelaw01_NatTexts.calls (k : Nat) (A0 : Option Addr) (c0 : Nat) (l0 : List Int) (a1 : ByteArray) (r : Bool) (w : World) (hr0 : Kd.C (Kd.int .u32) w A0 l0.length l0) (hc0 : l0.length ≤ c0) (h : isochronelaw01_NatTexts.f k l0 a1 = some r) :
  Calls Try.prog 6 #[.slice A0 l0.length c0, .string a1] w fun e w' => e = .returned (.bool r) ∧ Below w.heap.size w w' := by
 have HR0 := Aside0.mk hr0
 have HC0 := Aside0.mk hc0
 clear hr0 hc0
 have HB := Aside0.mk (Below.refl w.heap.size w)
 have H : ((isochronelaw01_awake.f k).bind fun t693 => (if t693 = true then ((isochronelaw01_small.f l0 ([] : List Int) 40).bind fun t694 => (if t694 = true then ((nat_Text.f k l0).bind fun bt695 => ((nat_Parse.f k bt695.1).bind fun bt697 => (if bt695.2 = 0 then (if bt697.2 = 0 then ((isochroneref01_Of.f k l0).bind fun t701 => ((isochroneref01_Text.f k t701).bind fun t704 => (if bt695.1.toList = t704.toList then ((slices_Equal_uint32_uint32.f k bt697.1 l0).bind fun t705 => (isochronelaw01_NatTexts.j0 k a1 (!t705))) else (isochronelaw01_NatTexts.j0 k a1 true)))) else (isochronelaw01_NatTexts.j0 k a1 true)) else (isochronelaw01_NatTexts.j0 k a1 true)))) else (some true))) else (some false))) = some r := h
 clear h
 replace H := Option.bind_eq_some_iff.mp H
 obtain ⟨t693, A30, H⟩ := H
 replace H : (if t693 = true then ((isochronelaw01_small.f l0 ([] : List Int) 40).bind fun t694 => (if t694 = true then ((nat_Text.f k l0).bind fun bt695 => ((nat_Parse.f k bt695.1).bind fun bt697 => (if bt695.2 = 0 then (if bt697.2 = 0 then ((isochroneref01_Of.f k l0).bind fun t701 => ((isochroneref01_Text.f k t701).bind fun t704 => (if bt695.1.toList = t704.toList then ((slices_Equal_uint32_uint32.f k bt697.1 l0).bind fun t705 => (isochronelaw01_NatTexts.j0 k a1 (!t705))) else (isochronelaw01_NatTexts.j0 k a1 true)))) else (isochronelaw01_NatTexts.j0 k a1 true)) else (isochronelaw01_NatTexts.j0 k a1 true)))) else (some true))) else (some false)) = some r := H
 have A3 := Aside0.mk A30
 clear A30
 by_cases c4 : t693 = true
 ·subst c4
  have H1 : ((isochronelaw01_small.f l0 ([] : List Int) 40).bind fun t694 => (if t694 = true then ((nat_Text.f k l0).bind fun bt695 => ((nat_Parse.f k bt695.1).bind fun bt697 => (if bt695.2 = 0 then (if bt697.2 = 0 then ((isochroneref01_Of.f k l0).bind fun t701 => ((isochroneref01_Text.f k t701).bind fun t704 => (if bt695.1.toList = t704.toList then ((slices_Equal_uint32_uint32.f k bt697.1 l0).bind fun t705 => (isochronelaw01_NatTexts.j0 k a1 (!t705))) else (isochronelaw01_NatTexts.j0 k a1 true)))) else (isochronelaw01_NatTexts.j0 k a1 true)) else (isochronelaw01_NatTexts.j0 k a1 true)))) else (some true))) = some r := by rw [if_pos rfl] at H; exact H
  clear H
  have H := H1
  clear H1
  replace H := Option.bind_eq_some_iff.mp H
  obtain ⟨t694, A50, H⟩ := H
  replace H : (if t694 = true then ((nat_Text.f k l0).bind fun bt695 => ((nat_Parse.f k bt695.1).bind fun bt697 => (if bt695.2 = 0 then (if bt697.2 = 0 then ((isochroneref01_Of.f k l0).bind fun t701 => ((isochroneref01_Text.f k t701).bind fun t704 => (if bt695.1.toList = t704.toList then ((slices_Equal_uint32_uint32.f k bt697.1 l0).bind fun t705 => (isochronelaw01_NatTexts.j0 k a1 (!t705))) else (isochronelaw01_NatTexts.j0 k a1 true)))) else (isochronelaw01_NatTexts.j0 k a1 true)) else (isochronelaw01_NatTexts.j0 k a1 true)))) else (some true)) = some r := H
  have A5 := Aside0.mk A50
  clear A50
  by_cases c6 : t694 = true
  ·subst c6
   have H1 : ((nat_Text.f k l0).bind fun bt695 => ((nat_Parse.f k bt695.1).bind fun bt697 => (if bt695.2 = 0 then (if bt697.2 = 0 then ((isochroneref01_Of.f k l0).bind fun t701 => ((isochroneref01_Text.f k t701).bind fun t704 => (if bt695.1.toList = t704.toList then ((slices_Equal_uint32_uint32.f k bt697.1 l0).bind fun t705 => (isochronelaw01_NatTexts.j0 k a1 (!t705))) else (isochronelaw01_NatTexts.j0 k a1 true)))) else (isochronelaw01_NatTexts.j0 k a1 true)) else (isochronelaw01_NatTexts.j0 k a1 true)))) = some r := by rw [if_pos rfl] at H; exact H
   clear H
   have H := H1
   clear H1
   replace H := Option.bind_eq_some_iff.mp H
   obtain ⟨⟨t695, t696⟩, A70, H⟩ := H
   replace H : ((nat_Parse.f k t695).bind fun bt697 => (if t696 = 0 then (if bt697.2 = 0 then ((isochroneref01_Of.f k l0).bind fun t701 => ((isochroneref01_Text.f k t701).bind fun t704 => (if t695.toList = t704.toList then ((slices_Equal_uint32_uint32.f k bt697.1 l0).bind fun t705 => (isochronelaw01_NatTexts.j0 k a1 (!t705))) else (isochronelaw01_NatTexts.j0 k a1 true)))) else (isochronelaw01_NatTexts.j0 k a1 true)) else (isochronelaw01_NatTexts.j0 k a1 true))) = some r := H
   have A7 := Aside0.mk A70
   clear A70
   replace H := Option.bind_eq_some_iff.mp H
   obtain ⟨⟨t697, t698⟩, A80, H⟩ := H
   replace H : (if t696 = 0 then (if t698 = 0 then ((isochroneref01_Of.f k l0).bind fun t701 => ((isochroneref01_Text.f k t701).bind fun t704 => (if t695.toList = t704.toList then ((slices_Equal_uint32_uint32.f k t697 l0).bind fun t705 => (isochronelaw01_NatTexts.j0 k a1 (!t705))) else (isochronelaw01_NatTexts.j0 k a1 true)))) else (isochronelaw01_NatTexts.j0 k a1 true)) else (isochronelaw01_NatTexts.j0 k a1 true)) = some r := H
   have A8 := Aside0.mk A80
   clear A80
   have HC9 := Aside0.mk H
   clear H
   go_enter Try.func6, Try.ntmps6
   go_upto_region 7 with (first | ((with_reducible refine gate_callee (f := 11) rfl ?_); refine goesL_ (some 11) rfl rfl Try.func11 (by kernel_rfl) rfl #[] rfl (by (try simp only [List.map_toArray, List.map_cons, List.map_nil]); first | done | rfl | (simp only [List.length_drop, List.length_take]; rfl)) ?_; (with_reducible refine (isochronelaw01_awake.calls k  true _ A3.out).mono ?_); rintro e w10 ⟨rfl, hb⟩; refine ⟨_, rfl, ?_⟩; have n0_ := Aside0.mk (below_step (bB) hb); clear HB; have HB := n0_; clear n0_; (try clear hb); (try clear hb2); (try clear hk); (try clear hi)) | ((with_reducible refine gate_callee (f := 12) rfl ?_); refine goesL_ (some 14) rfl rfl Try.func12 (by kernel_rfl) rfl #[.slice A0 l0.length c0, .slice none 0 0, .int .i64 40] rfl (by (try simp only [List.map_toArray, List.map_cons, List.map_nil]); first | done | rfl | (simp only [List.length_drop, List.length_take]; rfl)) ?_; (refine (isochronelaw01_small.calls _ _ l0 _ _ ([] : List Int) 40 true _ ?side1 ?side2 ?side3 ?side4 A5.out).mono ?_); (case side1 => repeat (first | exact (Kd.C_below HR0.out HB.out) | (with_reducible refine Kd.C_alloc ?_ _) | (with_reducible refine Kd.C_drewN ?_ _) | (with_reducible refine Kd.C_drew ?_))); (case side2 => exact HC0.out); (case side3 => exact Kd.C_nil _ _); (case side4 => exact Nat.le_refl _); rintro e w' ⟨rfl, ⟨nd, rfl⟩⟩; refine ⟨_, rfl, ?_⟩) | ((with_reducible refine gate_callee (f := 28) rfl ?_); refine goesL_ (some 18) rfl rfl Try.func28 (by kernel_rfl) rfl #[.slice A0 l0.length c0] rfl (by (try simp only [List.map_toArray, List.map_cons, List.map_nil]); first | done | rfl | (simp only [List.length_drop, List.length_take]; rfl)) ?_; (with_reducible refine (nat_Text.calls k (fun k_ => k_ < w.heap.size) _ _ l0 t695 t696 _ ?side1 A7.out).mono ?_); (case side1 => exact Kd.V_mk HC0.out (Kd.F_below (Kd.C_F (Kd.heap_int .u32) HR0.out) (bB))); rintro e w11 ⟨rfl, hb⟩; refine ⟨_, rfl, ?_⟩; have n0_ := Aside0.mk (below_step (bB) hb); clear HB; have HB := n0_; clear n0_; (try clear hb); (try clear hb2); (try clear hk); (try clear hi)) | ((with_reducible refine gate_callee (f := 29) rfl ?_); refine goesL_ (some 23) rfl rfl Try.func29 (by kernel_rfl) rfl #[.string t695] rfl (by (try simp only [List.map_toArray, List.map_cons, List.map_nil]); first | done | rfl | (simp only [List.length_drop, List.length_take]; rfl)) ?_; (with_reducible refine (nat_Parse.calls k t695 t697 t698 _ A8.out).mono ?_); rintro e w12 ⟨v699, rfl, ho0, hb⟩; refine ⟨_, rfl, ?_⟩; have n0_ := Aside0.mk (Kd.R_lower ho0 (below_size (bB))); have n1_ := Aside0.mk (below_step (bB) hb); clear HB; have HO700 := n0_; have HB := n1_; clear n0_ n1_; (try clear hb); (try clear hb2); (try clear hk); (try clear hi); (try clear ho0)))
   (try simp only [Act.put, List.setIfInBounds_toArray, List.set_cons_zero, List.set_cons_succ])
   go_cut [44] (fun v44 wc => ∃ (kq : Nat) (x44_8 : Bool), v44 = .bool x44_8 ∧ Aside0 (isochronelaw01_NatTexts.j0 kq a1 x44_8 = some r) ∧ Aside0 (kq ≤ k) ∧ Aside0 (Below w.heap.size w wc))
   case first =>
    have H := HC9.out
    clear HC9
    by_cases c13 : t696 = 0
    ·rw [if_pos c13] at H
     have c13b0 : (t696 == 0) = true := beq_iff_eq.mpr c13
     have c13b1 : (t696 != 0) = false := bne_eq_false_iff_eq.mpr c13
     clear c13
     (first | rw [c13b0] | (simp only [i64_w, i32_w]; rw [c13b0]) | rw [c13b1] | skip)
     by_cases c14 : t698 = 0
     ·rw [if_pos c14] at H
      have c14b0 : (t698 == 0) = true := beq_iff_eq.mpr c14
      have c14b1 : (t698 != 0) = false := bne_eq_false_iff_eq.mpr c14
      clear c14
      replace H := Option.bind_eq_some_iff.mp H
      obtain ⟨t701, A150, H⟩ := H
      replace H : ((isochroneref01_Text.f k t701).bind fun t704 => (if t695.toList = t704.toList then ((slices_Equal_uint32_uint32.f k t697 l0).bind fun t705 => (isochronelaw01_NatTexts.j0 k a1 (!t705))) else (isochronelaw01_NatTexts.j0 k a1 true))) = some r := H
      have A15 := Aside0.mk A150
      clear A150
      replace H := Option.bind_eq_some_iff.mp H
      obtain ⟨t704, A160, H⟩ := H
      replace H : (if t695.toList = t704.toList then ((slices_Equal_uint32_uint32.f k t697 l0).bind fun t705 => (isochronelaw01_NatTexts.j0 k a1 (!t705))) else (isochronelaw01_NatTexts.j0 k a1 true)) = some r := H
      have A16 := Aside0.mk A160
      clear A160
      by_cases c17 : t695.toList = t704.toList
      ·rw [if_pos c17] at H
       have c17b0 : (t695.toList == t704.toList) = true := beq_iff_eq.mpr c17
       have c17b1 : (t695.toList != t704.toList) = false := bne_eq_false_iff_eq.mpr c17
       clear c17
       replace H := Option.bind_eq_some_iff.mp H
       obtain ⟨t705, A180, H⟩ := H
       replace H : (isochronelaw01_NatTexts.j0 k a1 (!t705)) = some r := H
       have A18 := Aside0.mk A180
       clear A180
       have H' := Aside0.mk H
       clear H
       go_wp2_with (first | (go_at_call 15; (with_reducible refine (isochroneref01_Of.calls k _ _ l0 t701 _ ?side1 ?side2 A15.out).mono ?_); (case side1 => repeat (first | exact (Kd.C_below HR0.out HB.out) | (with_reducible refine Kd.C_alloc ?_ _) | (with_reducible refine Kd.C_drewN ?_ _) | (with_reducible refine Kd.C_drew ?_))); (case side2 => exact HC0.out); rintro e w19 ⟨v702, rfl, ho0, hb⟩; have n0_ := Aside0.mk (Kd.R_below (by (with_reducible repeat (first | apply Kd.R_alloc | apply Kd.R_drewN | apply Kd.R_drew)); exact HO700.out) hb); have n1_ := Aside0.mk (Kd.R_lower ho0 (below_size (bB))); have n2_ := Aside0.mk (below_step (bB) hb); clear HO700; clear HB; have HO700 := n0_; have HO703 := n1_; have HB := n2_; clear n0_ n1_ n2_; (try clear hb); (try clear hb2); (try clear hk); (try clear hi); (try clear ho0); obtain ⟨Ao20, co20, eo20⟩ := Kd.R_slice HO703.out; subst eo20) | (go_at_call 30; (with_reducible refine (isochroneref01_Text.calls k _ _ t701 t704 _ ?side1 ?side2 A16.out).mono ?_); (case side1 => repeat (first | exact (Kd.R_reads' HO703.out).2.2 | (with_reducible refine Kd.C_alloc ?_ _) | (with_reducible refine Kd.C_drewN ?_ _) | (with_reducible refine Kd.C_drew ?_))); (case side2 => exact (Kd.R_reads' HO703.out).2.1); rintro e w21 ⟨rfl, hb⟩; have n0_ := Aside0.mk (Kd.R_below (by (with_reducible repeat (first | apply Kd.R_alloc | apply Kd.R_drewN | apply Kd.R_drew)); exact HO700.out) hb); have n1_ := Aside0.mk (Kd.R_below (by (with_reducible repeat (first | apply Kd.R_alloc | apply Kd.R_drewN | apply Kd.R_drew)); exact HO703.out) hb); have n2_ := Aside0.mk (below_step (bB) hb); clear HO700; clear HO703; clear HB; have HO700 := n0_; have HO703 := n1_; have HB := n2_; clear n0_ n1_ n2_; (try clear hb); (try clear hb2); (try clear hk); (try clear hi); obtain ⟨Ao22, co22, eo22⟩ := Kd.R_slice HO700.out; subst eo22) | (go_at_call 31; (with_reducible refine (slices_Equal_uint32_uint32.calls k _ _ t697 _ _ l0 t705 _ ?side1 ?side2 ?side3 ?side4 A18.out).mono ?_); (case side1 => repeat (first | exact (Kd.R_reads' HO700.out).2.2 | (with_reducible refine Kd.C_alloc ?_ _) | (with_reducible refine Kd.C_drewN ?_ _) | (with_reducible refine Kd.C_drew ?_))); (case side2 => exact (Kd.R_reads' HO700.out).2.1); (case side3 => repeat (first | exact (Kd.C_below HR0.out HB.out) | (with_reducible refine Kd.C_alloc ?_ _) | (with_reducible refine Kd.C_drewN ?_ _) | (with_reducible refine Kd.C_drew ?_))); (case side4 => exact HC0.out); rintro e w' ⟨rfl, ⟨nd, rfl⟩⟩))
       go_meet
       case rel => exact ⟨_, (!t705), (by first | rfl | (simp; done) | (simp [*]; done) | (simp; cases a1.toList <;> rfl)), H', ⟨by first | omega | exact Nat.le_refl _⟩, ⟨by repeat (first | (with_reducible first | exact HB.out | apply below_alloc | apply pw_below_drewN | apply below_drew1) | exact HB.out)⟩⟩
      ·rw [if_neg c17] at H
       have c17b0 : (t695.toList == t704.toList) = false := beq_eq_false_iff_ne.mpr c17
       have c17b1 : (t695.toList != t704.toList) = true := bne_iff_ne.mpr c17
       have H' := Aside0.mk H
       clear H
       go_wp2_with (first | (go_at_call 15; (with_reducible refine (isochroneref01_Of.calls k _ _ l0 t701 _ ?side1 ?side2 A15.out).mono ?_); (case side1 => repeat (first | exact (Kd.C_below HR0.out HB.out) | (with_reducible refine Kd.C_alloc ?_ _) | (with_reducible refine Kd.C_drewN ?_ _) | (with_reducible refine Kd.C_drew ?_))); (case side2 => exact HC0.out); rintro e w23 ⟨v702, rfl, ho0, hb⟩; have n0_ := Aside0.mk (Kd.R_below (by (with_reducible repeat (first | apply Kd.R_alloc | apply Kd.R_drewN | apply Kd.R_drew)); exact HO700.out) hb); have n1_ := Aside0.mk (Kd.R_lower ho0 (below_size (bB))); have n2_ := Aside0.mk (below_step (bB) hb); clear HO700; clear HB; have HO700 := n0_; have HO703 := n1_; have HB := n2_; clear n0_ n1_ n2_; (try clear hb); (try clear hb2); (try clear hk); (try clear hi); (try clear ho0); obtain ⟨Ao24, co24, eo24⟩ := Kd.R_slice HO703.out; subst eo24) | (go_at_call 30; (with_reducible refine (isochroneref01_Text.calls k _ _ t701 t704 _ ?side1 ?side2 A16.out).mono ?_); (case side1 => repeat (first | exact (Kd.R_reads' HO703.out).2.2 | (with_reducible refine Kd.C_alloc ?_ _) | (with_reducible refine Kd.C_drewN ?_ _) | (with_reducible refine Kd.C_drew ?_))); (case side2 => exact (Kd.R_reads' HO703.out).2.1); rintro e w25 ⟨rfl, hb⟩; have n0_ := Aside0.mk (Kd.R_below (by (with_reducible repeat (first | apply Kd.R_alloc | apply Kd.R_drewN | apply Kd.R_drew)); exact HO700.out) hb); have n1_ := Aside0.mk (Kd.R_below (by (with_reducible repeat (first | apply Kd.R_alloc | apply Kd.R_drewN | apply Kd.R_drew)); exact HO703.out) hb); have n2_ := Aside0.mk (below_step (bB) hb); clear HO700; clear HO703; clear HB; have HO700 := n0_; have HO703 := n1_; have HB := n2_; clear n0_ n1_ n2_; (try clear hb); (try clear hb2); (try clear hk); (try clear hi)))
       go_meet
       case rel => exact ⟨_, (true), (by first | rfl | (simp; done) | (simp [*]; done) | (simp; cases a1.toList <;> rfl)), H', ⟨by first | omega | exact Nat.le_refl _⟩, ⟨by repeat (first | (with_reducible first | exact HB.out | apply below_alloc | apply pw_below_drewN | apply below_drew1) | exact HB.out)⟩⟩
     ·rw [if_neg c14] at H
      have c14b0 : (t698 == 0) = false := beq_eq_false_iff_ne.mpr c14
      have c14b1 : (t698 != 0) = true := bne_iff_ne.mpr c14
      have H' := Aside0.mk H
      clear H
      go_wp2
      go_meet
      case rel => exact ⟨_, (true), (by first | rfl | (simp; done) | (simp [*]; done) | (simp; cases a1.toList <;> rfl)), H', ⟨by first | omega | exact Nat.le_refl _⟩, ⟨by repeat (first | (with_reducible first | exact HB.out | apply below_alloc | apply pw_below_drewN | apply below_drew1) | exact HB.out)⟩⟩
    ·rw [if_neg c13] at H
     have c13b0 : (t696 == 0) = false := beq_eq_false_iff_ne.mpr c13
     have c13b1 : (t696 != 0) = true := bne_iff_ne.mpr c13
     (first | rw [c13b0] | (simp only [i64_w, i32_w]; rw [c13b0]) | rw [c13b1] | skip)
     have H' := Aside0.mk H
     clear H
     go_wp2
     go_meet
     case rel => exact ⟨_, (true), (by first | rfl | (simp; done) | (simp [*]; done) | (simp; cases a1.toList <;> rfl)), H', ⟨by first | omega | exact Nat.le_refl _⟩, ⟨by repeat (first | (with_reducible first | exact HB.out | apply below_alloc | apply pw_below_drewN | apply below_drew1) | exact HB.out)⟩⟩
   case rest =>
    clear HC9
    try clear c1
    try clear c2
    try clear p2
    try clear c4
    try clear c6
    try clear c11
    try clear c12
    try clear c13
    try clear c13b0
    try clear c13b1
    try clear c14
    try clear c14b0
    try clear c14b1
    try clear c17
    try clear c17b0
    try clear c17b1
    obtain ⟨kq, x44_8, rfl, HA, HJ8, HB⟩ := hcut
    cases kq with
    | zero => exact absurd HA.out (by simp [isochronelaw01_NatTexts.j0])
    | succ kj8 =>
     have H := HA.out
     clear HA
     simp only [isochronelaw01_NatTexts.j0] at H
     by_cases c26 : x44_8 = true
     ·subst c26
      have H1 : (some false) = some r := by rw [if_pos rfl] at H; exact H
      clear H
      have H := H1
      clear H1
      obtain rfl := Option.some.inj H
      go_wp2
      go_ret
      exact ⟨by first | rfl | (simp [errW_none, errW_some] <;> rfl) | (simp [*, errW_none, errW_some] <;> rfl), by repeat (first | (with_reducible first | exact HB.out | apply below_alloc | apply pw_below_drewN | apply below_drew1) | exact HB.out)⟩
     ·replace c26 := Bool.eq_false_iff.mpr c26
      subst c26
      have H1 : ((nat_Parse.f kj8 a1).bind fun bt706 => (if (a1.size : Int) > 20000 then (if bt706.2 = 2 then (some ((bt706.1.length : Int) == 0)) else (some false)) else (if (a1.size : Int) > 400 then (some true) else ((isochroneref01_Decimal.f kj8 a1).bind fun t710 => (if t710 = true then (if bt706.2 = 0 then ((isochroneref01_Digits.f kj8 a1).bind fun t711 => ((isochronelaw01_is.f kj8 bt706.1 t711).bind fun t714 => (some t714))) else (some false)) else (if bt706.2 = 90 then (some ((bt706.1.length : Int) == 0)) else (some false))))))) = some r := by rw [if_neg (show ¬ (false = true) by decide)] at H; exact H
      clear H
      have H := H1
      clear H1
      replace H := Option.bind_eq_some_iff.mp H
      obtain ⟨⟨t706, t707⟩, A270, H⟩ := H
      replace H : (if (a1.size : Int) > 20000 then (if t707 = 2 then (some ((t706.length : Int) == 0)) else (some false)) else (if (a1.size : Int) > 400 then (some true) else ((isochroneref01_Decimal.f kj8 a1).bind fun t710 => (if t710 = true then (if t707 = 0 then ((isochroneref01_Digits.f kj8 a1).bind fun t711 => ((isochronelaw01_is.f kj8 t706 t711).bind fun t714 => (some t714))) else (some false)) else (if t707 = 90 then (some ((t706.length : Int) == 0)) else (some false)))))) = some r := H
      have A27 := Aside0.mk A270
      clear A270
      by_cases c28 : (a1.size : Int) > 20000
      ·rw [if_pos c28] at H
       have c28b0 : decide (20000 < (a1.size : Int)) = true := decide_eq_true c28
       have c28b1 : decide (20000 < a1.size) = true := decide_eq_true (by omega)
       clear c28
       by_cases c29 : t707 = 2
       ·rw [if_pos c29] at H
        have c29b0 : (t707 == 2) = true := beq_iff_eq.mpr c29
        have c29b1 : (t707 != 2) = false := bne_eq_false_iff_eq.mpr c29
        clear c29
        obtain rfl := Option.some.inj H
        go_wp2_with (first | ((with_reducible refine gate_callee (f := 29) rfl ?_); refine goesL_ (some 47) rfl rfl Try.func29 (by kernel_rfl) rfl #[.string a1] rfl (by (try simp only [List.map_toArray, List.map_cons, List.map_nil]); first | done | rfl | (simp only [List.length_drop, List.length_take]; rfl)) ?_; (with_reducible refine (nat_Parse.calls kj8 a1 t706 t707 _ A27.out).mono ?_); rintro e w30 ⟨v708, rfl, ho0, hb⟩; refine ⟨_, rfl, ?_⟩; have n0_ := Aside0.mk (Kd.R_lower ho0 (below_size (bB))); have n1_ := Aside0.mk (below_step (bB) hb); clear HB; have HO709 := n0_; have HB := n1_; clear n0_ n1_; (try clear hb); (try clear hb2); (try clear hk); (try clear hi); (try clear ho0); obtain ⟨Ao31, co31, eo31⟩ := Kd.R_slice HO709.out; subst eo31))
        go_ret
        exact ⟨by first | rfl | (simp [errW_none, errW_some] <;> rfl) | (simp [*, errW_none, errW_some] <;> rfl), by repeat (first | (with_reducible first | exact HB.out | apply below_alloc | apply pw_below_drewN | apply below_drew1) | exact HB.out)⟩
       ·rw [if_neg c29] at H
        have c29b0 : (t707 == 2) = false := beq_eq_false_iff_ne.mpr c29
        have c29b1 : (t707 != 2) = true := bne_iff_ne.mpr c29
        obtain rfl := Option.some.inj H
        go_wp2_with (first | ((with_reducible refine gate_callee (f := 29) rfl ?_); refine goesL_ (some 47) rfl rfl Try.func29 (by kernel_rfl) rfl #[.string a1] rfl (by (try simp only [List.map_toArray, List.map_cons, List.map_nil]); first | done | rfl | (simp only [List.length_drop, List.length_take]; rfl)) ?_; (with_reducible refine (nat_Parse.calls kj8 a1 t706 t707 _ A27.out).mono ?_); rintro e w32 ⟨v708, rfl, ho0, hb⟩; refine ⟨_, rfl, ?_⟩; have n0_ := Aside0.mk (Kd.R_lower ho0 (below_size (bB))); have n1_ := Aside0.mk (below_step (bB) hb); clear HB; have HO709 := n0_; have HB := n1_; clear n0_ n1_; (try clear hb); (try clear hb2); (try clear hk); (try clear hi); (try clear ho0)))
        go_ret
        exact ⟨by first | rfl | (simp [errW_none, errW_some] <;> rfl) | (simp [*, errW_none, errW_some] <;> rfl), by repeat (first | (with_reducible first | exact HB.out | apply below_alloc | apply pw_below_drewN | apply below_drew1) | exact HB.out)⟩
      ·rw [if_neg c28] at H
       have c28b0 : decide (20000 < (a1.size : Int)) = false := decide_eq_false c28
       have c28b1 : decide (20000 < a1.size) = false := decide_eq_false (by omega)
       clear c28
       by_cases c33 : (a1.size : Int) > 400
       ·rw [if_pos c33] at H
        have c33b0 : decide (400 < (a1.size : Int)) = true := decide_eq_true c33
        have c33b1 : decide (400 < a1.size) = true := decide_eq_true (by omega)
        clear c33
        obtain rfl := Option.some.inj H
        go_wp2_with (first | ((with_reducible refine gate_callee (f := 29) rfl ?_); refine goesL_ (some 47) rfl rfl Try.func29 (by kernel_rfl) rfl #[.string a1] rfl (by (try simp only [List.map_toArray, List.map_cons, List.map_nil]); first | done | rfl | (simp only [List.length_drop, List.length_take]; rfl)) ?_; (with_reducible refine (nat_Parse.calls kj8 a1 t706 t707 _ A27.out).mono ?_); rintro e w34 ⟨v708, rfl, ho0, hb⟩; refine ⟨_, rfl, ?_⟩; have n0_ := Aside0.mk (Kd.R_lower ho0 (below_size (bB))); have n1_ := Aside0.mk (below_step (bB) hb); clear HB; have HO709 := n0_; have HB := n1_; clear n0_ n1_; (try clear hb); (try clear hb2); (try clear hk); (try clear hi); (try clear ho0)))
        go_ret
        exact ⟨by first | rfl | (simp [errW_none, errW_some] <;> rfl) | (simp [*, errW_none, errW_some] <;> rfl), by repeat (first | (with_reducible first | exact HB.out | apply below_alloc | apply pw_below_drewN | apply below_drew1) | exact HB.out)⟩
       ·rw [if_neg c33] at H
        have c33b0 : decide (400 < (a1.size : Int)) = false := decide_eq_false c33
        have c33b1 : decide (400 < a1.size) = false := decide_eq_false (by omega)
        clear c33
        replace H := Option.bind_eq_some_iff.mp H
        obtain ⟨t710, A350, H⟩ := H
        replace H : (if t710 = true then (if t707 = 0 then ((isochroneref01_Digits.f kj8 a1).bind fun t711 => ((isochronelaw01_is.f kj8 t706 t711).bind fun t714 => (some t714))) else (some false)) else (if t707 = 90 then (some ((t706.length : Int) == 0)) else (some false))) = some r := H
        have A35 := Aside0.mk A350
        clear A350
        by_cases c36 : t710 = true
        ·subst c36
         have H1 : (if t707 = 0 then ((isochroneref01_Digits.f kj8 a1).bind fun t711 => ((isochronelaw01_is.f kj8 t706 t711).bind fun t714 => (some t714))) else (some false)) = some r := by rw [if_pos rfl] at H; exact H
         clear H
         have H := H1
         clear H1
         by_cases c37 : t707 = 0
         ·rw [if_pos c37] at H
          have c37b0 : (t707 == 0) = true := beq_iff_eq.mpr c37
          have c37b1 : (t707 != 0) = false := bne_eq_false_iff_eq.mpr c37
          clear c37
          replace H := Option.bind_eq_some_iff.mp H
          obtain ⟨t711, A380, H⟩ := H
          replace H : ((isochronelaw01_is.f kj8 t706 t711).bind fun t714 => (some t714)) = some r := H
          have A38 := Aside0.mk A380
          clear A380
          replace H := Option.bind_eq_some_iff.mp H
          obtain ⟨t714, A390, H⟩ := H
          replace H : (some t714) = some r := H
          have A39 := Aside0.mk A390
          clear A390
          obtain rfl := Option.some.inj H
          go_wp2_with (first | ((with_reducible refine gate_callee (f := 29) rfl ?_); refine goesL_ (some 47) rfl rfl Try.func29 (by kernel_rfl) rfl #[.string a1] rfl (by (try simp only [List.map_toArray, List.map_cons, List.map_nil]); first | done | rfl | (simp only [List.length_drop, List.length_take]; rfl)) ?_; (with_reducible refine (nat_Parse.calls kj8 a1 t706 t707 _ A27.out).mono ?_); rintro e w40 ⟨v708, rfl, ho0, hb⟩; refine ⟨_, rfl, ?_⟩; have n0_ := Aside0.mk (Kd.R_lower ho0 (below_size (bB))); have n1_ := Aside0.mk (below_step (bB) hb); clear HB; have HO709 := n0_; have HB := n1_; clear n0_ n1_; (try clear hb); (try clear hb2); (try clear hk); (try clear hi); (try clear ho0)) | ((with_reducible refine gate_callee (f := 32) rfl ?_); refine goesL_ (some 64) rfl rfl Try.func32 (by kernel_rfl) rfl #[.string a1] rfl (by (try simp only [List.map_toArray, List.map_cons, List.map_nil]); first | done | rfl | (simp only [List.length_drop, List.length_take]; rfl)) ?_; (with_reducible refine (isochroneref01_Decimal.calls kj8 a1 true _ A35.out).mono ?_); rintro e w' ⟨rfl, ⟨nd, rfl⟩⟩; refine ⟨_, rfl, ?_⟩) | (go_at_call 33; (with_reducible refine (isochroneref01_Digits.calls kj8 a1 t711 _ A38.out).mono ?_); rintro e w41 ⟨v712, rfl, ho0, hb⟩; have n0_ := Aside0.mk (Kd.R_below (by (with_reducible repeat (first | apply Kd.R_alloc | apply Kd.R_drewN | apply Kd.R_drew)); exact HO709.out) hb); have n1_ := Aside0.mk (Kd.R_lower ho0 (below_size (bB))); have n2_ := Aside0.mk (below_step (bB) hb); clear HO709; clear HB; have HO709 := n0_; have HO713 := n1_; have HB := n2_; clear n0_ n1_ n2_; (try clear hb); (try clear hb2); (try clear hk); (try clear hi); (try clear ho0); obtain ⟨Ao42, co42, eo42⟩ := Kd.R_slice HO709.out; subst eo42; obtain ⟨Ao43, co43, eo43⟩ := Kd.R_slice HO713.out; subst eo43) | (go_at_call 25; (with_reducible refine (isochronelaw01_is.calls kj8 _ _ t706 _ _ t711 t714 _ ?side1 ?side2 ?side3 ?side4 A39.out).mono ?_); (case side1 => repeat (first | exact (Kd.R_reads' HO709.out).2.2 | (with_reducible refine Kd.C_alloc ?_ _) | (with_reducible refine Kd.C_drewN ?_ _) | (with_reducible refine Kd.C_drew ?_))); (case side2 => exact (Kd.R_reads' HO709.out).2.1); (case side3 => repeat (first | exact (Kd.R_reads' HO713.out).2.2 | (with_reducible refine Kd.C_alloc ?_ _) | (with_reducible refine Kd.C_drewN ?_ _) | (with_reducible refine Kd.C_drew ?_))); (case side4 => exact (Kd.R_reads' HO713.out).2.1); rintro e w44 ⟨rfl, hb⟩; have n0_ := Aside0.mk (Kd.R_below (by (with_reducible repeat (first | apply Kd.R_alloc | apply Kd.R_drewN | apply Kd.R_drew)); exact HO709.out) hb); have n1_ := Aside0.mk (Kd.R_below (by (with_reducible repeat (first | apply Kd.R_alloc | apply Kd.R_drewN | apply Kd.R_drew)); exact HO713.out) hb); have n2_ := Aside0.mk (below_step (bB) hb); clear HO709; clear HO713; clear HB; have HO709 := n0_; have HO713 := n1_; have HB := n2_; clear n0_ n1_ n2_; (try clear hb); (try clear hb2); (try clear hk); (try clear hi)))
          go_ret
          exact ⟨by first | rfl | (simp [errW_none, errW_some] <;> rfl) | (simp [*, errW_none, errW_some] <;> rfl), by repeat (first | (with_reducible first | exact HB.out | apply below_alloc | apply pw_below_drewN | apply below_drew1) | exact HB.out)⟩
         ·rw [if_neg c37] at H
          have c37b0 : (t707 == 0) = false := beq_eq_false_iff_ne.mpr c37
          have c37b1 : (t707 != 0) = true := bne_iff_ne.mpr c37
          obtain rfl := Option.some.inj H
          go_wp2_with (first | ((with_reducible refine gate_callee (f := 29) rfl ?_); refine goesL_ (some 47) rfl rfl Try.func29 (by kernel_rfl) rfl #[.string a1] rfl (by (try simp only [List.map_toArray, List.map_cons, List.map_nil]); first | done | rfl | (simp only [List.length_drop, List.length_take]; rfl)) ?_; (with_reducible refine (nat_Parse.calls kj8 a1 t706 t707 _ A27.out).mono ?_); rintro e w45 ⟨v708, rfl, ho0, hb⟩; refine ⟨_, rfl, ?_⟩; have n0_ := Aside0.mk (Kd.R_lower ho0 (below_size (bB))); have n1_ := Aside0.mk (below_step (bB) hb); clear HB; have HO709 := n0_; have HB := n1_; clear n0_ n1_; (try clear hb); (try clear hb2); (try clear hk); (try clear hi); (try clear ho0)) | ((with_reducible refine gate_callee (f := 32) rfl ?_); refine goesL_ (some 64) rfl rfl Try.func32 (by kernel_rfl) rfl #[.string a1] rfl (by (try simp only [List.map_toArray, List.map_cons, List.map_nil]); first | done | rfl | (simp only [List.length_drop, List.length_take]; rfl)) ?_; (with_reducible refine (isochroneref01_Decimal.calls kj8 a1 true _ A35.out).mono ?_); rintro e w' ⟨rfl, ⟨nd, rfl⟩⟩; refine ⟨_, rfl, ?_⟩))
          go_ret
          exact ⟨by first | rfl | (simp [errW_none, errW_some] <;> rfl) | (simp [*, errW_none, errW_some] <;> rfl), by repeat (first | (with_reducible first | exact HB.out | apply below_alloc | apply pw_below_drewN | apply below_drew1) | exact HB.out)⟩
        ·replace c36 := Bool.eq_false_iff.mpr c36
         subst c36
         have H1 : (if t707 = 90 then (some ((t706.length : Int) == 0)) else (some false)) = some r := by rw [if_neg (show ¬ (false = true) by decide)] at H; exact H
         clear H
         have H := H1
         clear H1
         by_cases c46 : t707 = 90
         ·rw [if_pos c46] at H
          have c46b0 : (t707 == 90) = true := beq_iff_eq.mpr c46
          have c46b1 : (t707 != 90) = false := bne_eq_false_iff_eq.mpr c46
          clear c46
          obtain rfl := Option.some.inj H
          go_wp2_with (first | ((with_reducible refine gate_callee (f := 29) rfl ?_); refine goesL_ (some 47) rfl rfl Try.func29 (by kernel_rfl) rfl #[.string a1] rfl (by (try simp only [List.map_toArray, List.map_cons, List.map_nil]); first | done | rfl | (simp only [List.length_drop, List.length_take]; rfl)) ?_; (with_reducible refine (nat_Parse.calls kj8 a1 t706 t707 _ A27.out).mono ?_); rintro e w47 ⟨v708, rfl, ho0, hb⟩; refine ⟨_, rfl, ?_⟩; have n0_ := Aside0.mk (Kd.R_lower ho0 (below_size (bB))); have n1_ := Aside0.mk (below_step (bB) hb); clear HB; have HO709 := n0_; have HB := n1_; clear n0_ n1_; (try clear hb); (try clear hb2); (try clear hk); (try clear hi); (try clear ho0)) | ((with_reducible refine gate_callee (f := 32) rfl ?_); refine goesL_ (some 64) rfl rfl Try.func32 (by kernel_rfl) rfl #[.string a1] rfl (by (try simp only [List.map_toArray, List.map_cons, List.map_nil]); first | done | rfl | (simp only [List.length_drop, List.length_take]; rfl)) ?_; (with_reducible refine (isochroneref01_Decimal.calls kj8 a1 false _ A35.out).mono ?_); rintro e w' ⟨rfl, ⟨nd, rfl⟩⟩; refine ⟨_, rfl, ?_⟩; obtain ⟨Ao48, co48, eo48⟩ := Kd.R_slice HO709.out; subst eo48))
          go_ret
          exact ⟨by first | rfl | (simp [errW_none, errW_some] <;> rfl) | (simp [*, errW_none, errW_some] <;> rfl), by repeat (first | (with_reducible first | exact HB.out | apply below_alloc | apply pw_below_drewN | apply below_drew1) | exact HB.out)⟩
         ·rw [if_neg c46] at H
          have c46b0 : (t707 == 90) = false := beq_eq_false_iff_ne.mpr c46
          have c46b1 : (t707 != 90) = true := bne_iff_ne.mpr c46
          obtain rfl := Option.some.inj H
          go_wp2_with (first | ((with_reducible refine gate_callee (f := 29) rfl ?_); refine goesL_ (some 47) rfl rfl Try.func29 (by kernel_rfl) rfl #[.string a1] rfl (by (try simp only [List.map_toArray, List.map_cons, List.map_nil]); first | done | rfl | (simp only [List.length_drop, List.length_take]; rfl)) ?_; (with_reducible refine (nat_Parse.calls kj8 a1 t706 t707 _ A27.out).mono ?_); rintro e w49 ⟨v708, rfl, ho0, hb⟩; refine ⟨_, rfl, ?_⟩; have n0_ := Aside0.mk (Kd.R_lower ho0 (below_size (bB))); have n1_ := Aside0.mk (below_step (bB) hb); clear HB; have HO709 := n0_; have HB := n1_; clear n0_ n1_; (try clear hb); (try clear hb2); (try clear hk); (try clear hi); (try clear ho0)) | ((with_reducible refine gate_callee (f := 32) rfl ?_); refine goesL_ (some 64) rfl rfl Try.func32 (by kernel_rfl) rfl #[.string a1] rfl (by (try simp only [List.map_toArray, List.map_cons, List.map_nil]); first | done | rfl | (simp only [List.length_drop, List.length_take]; rfl)) ?_; (with_reducible refine (isochroneref01_Decimal.calls kj8 a1 false _ A35.out).mono ?_); rintro e w' ⟨rfl, ⟨nd, rfl⟩⟩; refine ⟨_, rfl, ?_⟩))
          go_ret
          exact ⟨by first | rfl | (simp [errW_none, errW_some] <;> rfl) | (simp [*, errW_none, errW_some] <;> rfl), by repeat (first | (with_reducible first | exact HB.out | apply below_alloc | apply pw_below_drewN | apply below_drew1) | exact HB.out)⟩
  ·replace c6 := Bool.eq_false_iff.mpr c6
   subst c6
   have H1 : (some true) = some r := by rw [if_neg (show ¬ (false = true) by decide)] at H; exact H
   clear H
   have H := H1
   clear H1
   obtain rfl := Option.some.inj H
   go_enter Try.func6, Try.ntmps6
   go_wp2_with (first | ((with_reducible refine gate_callee (f := 11) rfl ?_); refine goesL_ (some 11) rfl rfl Try.func11 (by kernel_rfl) rfl #[] rfl (by (try simp only [List.map_toArray, List.map_cons, List.map_nil]); first | done | rfl | (simp only [List.length_drop, List.length_take]; rfl)) ?_; (with_reducible refine (isochronelaw01_awake.calls k  true _ A3.out).mono ?_); rintro e w50 ⟨rfl, hb⟩; refine ⟨_, rfl, ?_⟩; have n0_ := Aside0.mk (below_step (bB) hb); clear HB; have HB := n0_; clear n0_; (try clear hb); (try clear hb2); (try clear hk); (try clear hi)) | ((with_reducible refine gate_callee (f := 12) rfl ?_); refine goesL_ (some 14) rfl rfl Try.func12 (by kernel_rfl) rfl #[.slice A0 l0.length c0, .slice none 0 0, .int .i64 40] rfl (by (try simp only [List.map_toArray, List.map_cons, List.map_nil]); first | done | rfl | (simp only [List.length_drop, List.length_take]; rfl)) ?_; (refine (isochronelaw01_small.calls _ _ l0 _ _ ([] : List Int) 40 false _ ?side1 ?side2 ?side3 ?side4 A5.out).mono ?_); (case side1 => repeat (first | exact (Kd.C_below HR0.out HB.out) | (with_reducible refine Kd.C_alloc ?_ _) | (with_reducible refine Kd.C_drewN ?_ _) | (with_reducible refine Kd.C_drew ?_))); (case side2 => exact HC0.out); (case side3 => exact Kd.C_nil _ _); (case side4 => exact Nat.le_refl _); rintro e w' ⟨rfl, ⟨nd, rfl⟩⟩; refine ⟨_, rfl, ?_⟩))
   go_ret
   exact ⟨by first | rfl | (simp [errW_none, errW_some] <;> rfl) | (simp [*, errW_none, errW_some] <;> rfl), by repeat (first | (with_reducible first | exact HB.out | apply below_alloc | apply pw_below_drewN | apply below_drew1) | exact HB.out)⟩
 ·replace c4 := Bool.eq_false_iff.mpr c4
  subst c4
  have H1 : (some false) = some r := by rw [if_neg (show ¬ (false = true) by decide)] at H; exact H
  clear H
  have H := H1
  clear H1
  obtain rfl := Option.some.inj H
  go_enter Try.func6, Try.ntmps6
  go_wp2_with (first | ((with_reducible refine gate_callee (f := 11) rfl ?_); refine goesL_ (some 11) rfl rfl Try.func11 (by kernel_rfl) rfl #[] rfl (by (try simp only [List.map_toArray, List.map_cons, List.map_nil]); first | done | rfl | (simp only [List.length_drop, List.length_take]; rfl)) ?_; (with_reducible refine (isochronelaw01_awake.calls k  false _ A3.out).mono ?_); rintro e w51 ⟨rfl, hb⟩; refine ⟨_, rfl, ?_⟩; have n0_ := Aside0.mk (below_step (bB) hb); clear HB; have HB := n0_; clear n0_; (try clear hb); (try clear hb2); (try clear hk); (try clear hi)))
  go_ret
  exact ⟨by first | rfl | (simp [errW_none, errW_some] <;> rfl) | (simp [*, errW_none, errW_some] <;> rfl), by repeat (first | (with_reducible first | exact HB.out | apply below_alloc | apply pw_below_drewN | apply below_drew1) | exact HB.out)⟩
def isochronelaw01_NatTexts.Pure : Prop := ∀ (l0 : List Int) (a1 : ByteArray), l0.length ≤ maxLen → l0.length * 4 ≤ 140737488351232 → (∀ x ∈ l0, (Lit.int .u32 x).wf = true) → a1.size ≤ 140737488351232 → ∃ k, isochronelaw01_NatTexts.f k l0 a1 = some true
theorem isochronelaw01_NatTexts.walk (P : isochronelaw01_NatTexts.Pure) (a0 : Option Addr) (len0 cap0 : Nat) (z0 : List Int) (a1 : ByteArray) (w : World) (w0 : (a0 = none ∧ len0 = 0 ∧ cap0 = 0 ∧ z0 = []) ∨ ∃ x, a0 = some x ∧ len0 ≤ cap0 ∧ cap0 ≤ maxLen ∧ z0.length = cap0 ∧ (∀ i, i < z0.length → w.cell? (x.add i) = some (.int .u32 (z0.getD i 0))) ∧ ∀ n ∈ z0, (Lit.int .u32 n).wf = true) (y0 : len0 * 4 ≤ 140737488351232) (w1 : a1.size ≤ 140737488351232) :
  Calls Try.prog 6 #[.slice a0 len0 cap0, .string a1] w fun e w' => e = .returned (.bool true) ∧ Below w.heap.size w w' := by
 obtain ⟨l0, rfl, hr0, hm0, hw0, hc0⟩ := ReadsInt.ofRowC w0
 obtain ⟨k, h⟩ := P l0 a1 hm0 y0 hw0 w1
 refine (isochronelaw01_NatTexts.calls k _ _ l0 a1 true w (Kd.C_of_reads (d := (0 : Int)) (h1 := fun _ => rfl) hr0) hc0 h).mono ?_
 rintro e w' ⟨rfl, hd⟩
 exact ⟨rfl, hd⟩
end Go.Proofs.Ytfmobogdnlmdbaa.P
end
section
namespace Go.Proofs.Ytfmobogdnlmdbaa.P
open Go.RowKit Go.Proofs.YtfmobogdnlmdbaaW.PrintWords Go.Proofs.YtfmobogdnlmdbaaW.PrintLast Go.Proofs.YtfmobogdnlmdbaaW.PrintMore
set_option linter.unusedVariables false
theorem evp {α : Type} {c : Prop} [Decidable c] {f g : Nat → Option α} {r : α} (hc : c) (h : Ev f r) : Ev (fun k => if c then f k else g k) r := by simpa only [if_pos hc] using h
theorem evn {α : Type} {c : Prop} [Decidable c] {f g : Nat → Option α} {r : α} (hc : ¬ c) (h : Ev g r) : Ev (fun k => if c then f k else g k) r := by simpa only [if_neg hc] using h
theorem evb {α β : Type} {o : Option α} {f : Nat → α → Option β} {a : α} {r : β} (h : o = some a) (k : Ev (fun n => f n a) r) : Ev (fun n => o.bind (f n)) r := by subst h; exact k
theorem evs {α : Type} (r : α) : Ev (fun _ => some r) r := ⟨0, fun _ _ => rfl⟩
theorem w64 {x : Int} (h0 : -9223372036854775808 ≤ x) (h1 : x ≤ 9223372036854775807) : wrap64 x = x := by unfold wrap64; omega
theorem u64 {x : Int} (h0 : 0 ≤ x) (h1 : x < 18446744073709551616) : IntKind.u64.wrap x = x := by rw [IntKind.wrap_u64]; omega
def vl (B : Int) : List Int → Int
  | [] => 0
  | x :: t => x + B * vl B t
def Dg (B : Int) (l : List Int) : Prop := ∀ x ∈ l, 0 ≤ x ∧ x < B
def Nm (l : List Int) : Prop := ∀ h : l ≠ [], l.getLast h ≠ 0
def Can (B : Int) (l : List Int) (n : Int) : Prop := Dg B l ∧ Nm l ∧ vl B l = n
section
variable {B : Int} {l a b : List Int}
theorem vl_append (B : Int) (a b : List Int) : vl B (a ++ b) = vl B a + B ^ a.length * vl B b := by
  induction a with
  | nil => simp [vl]
  | cons x t ih =>
    simp only [List.cons_append, vl, ih, List.length_cons]
    grind
theorem rd_lt (l : List Int) (i : Nat) (h : i < l.length) : rd l (i : Int) = l[i] := by simp [rd, h]
theorem vl_take (B : Int) (l : List Int) (i : Nat) (h : i < l.length) : vl B (l.take (i + 1)) = vl B (l.take i) + rd l (i : Int) * B ^ i := by
  rw [List.take_succ_eq_append_getElem h, vl_append, rd_lt l i h, List.length_take, Nat.min_eq_left (by omega)]
  simp only [vl]
  grind
theorem take_set (l : List Int) (i : Nat) (v : Int) (h : i < l.length) : (l.set i v).take (i + 1) = l.take i ++ [v] := by
  rw [List.take_succ_eq_append_getElem (by simpa using h), List.take_set_of_le (by omega)]
  simp
theorem vl_set (B : Int) (l : List Int) (i : Nat) (v : Int) (h : i < l.length) : vl B ((l.set i v).take (i + 1)) = vl B (l.take i) + v * B ^ i := by
  rw [take_set l i v h, vl_append, List.length_take, Nat.min_eq_left (by omega)]
  simp only [vl]
  grind
theorem Dg.nil (B : Int) : Dg B [] := fun x hx => by cases hx
theorem Dg.cons {x : Int} (h : Dg B (x :: l)) : (0 ≤ x ∧ x < B) ∧ Dg B l := ⟨h x (by simp), fun y hy => h y (by simp [hy])⟩
theorem Dg.mk {x : Int} (h0 : 0 ≤ x) (h1 : x < B) (h : Dg B l) : Dg B (x :: l) := by
  intro y hy
  rcases List.mem_cons.1 hy with rfl | hy
  · exact ⟨h0, h1⟩
  · exact h y hy
theorem Dg.append (ha : Dg B a) (hb : Dg B b) : Dg B (a ++ b) := by
  intro y hy
  rcases List.mem_append.1 hy with hy | hy
  · exact ha y hy
  · exact hb y hy
theorem Dg.take (h : Dg B l) (i : Nat) : Dg B (l.take i) := fun x hx => h x (List.mem_of_mem_take hx)
theorem Dg.drop (h : Dg B l) (i : Nat) : Dg B (l.drop i) := fun x hx => h x (List.mem_of_mem_drop hx)
theorem Dg.set (h : Dg B l) (i : Nat) {v : Int} (h0 : 0 ≤ v) (h1 : v < B) : Dg B (l.set i v) := by
  intro x hx
  rcases List.mem_or_eq_of_mem_set hx with hx | rfl
  · exact h x hx
  · exact ⟨h0, h1⟩
theorem Dg.rep (hB : 0 < B) (n : Nat) : Dg B (List.replicate n 0) := by
  intro x hx
  have := (List.mem_replicate.1 hx).2
  omega
theorem Dg.take_set {i : Nat} {v : Int} (hi : i < l.length) (h' : Dg B (l.take i)) (h0 : 0 ≤ v) (h1 : v < B) : Dg B ((l.set i v).take (i + 1)) := by
  rw [P.take_set l i v hi]
  exact h'.append (Dg.mk h0 h1 (Dg.nil B))
theorem dg_rd (h : Dg B l) (i : Int) (h0 : 0 ≤ i) (h1 : i < l.length) : 0 ≤ rd l i ∧ rd l i < B := by
  obtain ⟨n, rfl⟩ := Int.eq_ofNat_of_zero_le h0
  rw [rd_lt l n (by omega)]
  exact h _ (List.getElem_mem _)
theorem pow_pos' (hB : 0 < B) (n : Nat) : 0 < B ^ n := Int.pow_pos hB
theorem vl_nonneg (hB : 0 < B) : ∀ {l : List Int}, Dg B l → 0 ≤ vl B l
  | [], _ => by simp [vl]
  | x :: t, h => by
    have h1 := h.cons
    have h2 := vl_nonneg hB h1.2
    have h3 : 0 ≤ B * vl B t := Int.mul_nonneg (by omega) h2
    simp only [vl]
    omega
theorem vl_lt (hB : 0 < B) : ∀ {l : List Int}, Dg B l → vl B l < B ^ l.length
  | [], _ => by simp [vl]
  | x :: t, h => by
    have h1 := h.cons
    have h2 := vl_lt hB h1.2
    have h3 : B * (vl B t + 1) ≤ B * B ^ t.length := Int.mul_le_mul_of_nonneg_left (by omega) (by omega)
    simp only [vl, List.length_cons]
    rw [Int.mul_add] at h3
    have h4 : B ^ (t.length + 1) = B * B ^ t.length := by grind
    omega
theorem Nm.nil : Nm [] := fun h => absurd rfl h
theorem Nm.tail {x : Int} (h : Nm (x :: l)) : Nm l := by
  intro hl
  have := h (by simp)
  rwa [List.getLast_cons hl] at this
theorem vl_pos (hB : 0 < B) : ∀ {l : List Int}, Dg B l → Nm l → l ≠ [] → 0 < vl B l
  | [], _, _, h => absurd rfl h
  | [x], hd, hn, _ => by
    have h1 := hd.cons
    have h2 := hn (by simp)
    simp at h2
    simp [vl]
    omega
  | x :: y :: t, hd, hn, _ => by
    have h1 := hd.cons
    have h2 := vl_pos hB h1.2 hn.tail (by simp)
    have h3 : 0 < B * vl B (y :: t) := Int.mul_pos hB h2
    rw [vl]
    omega
theorem vl_ge (hB : 0 < B) : ∀ {l : List Int}, Dg B l → Nm l → l ≠ [] → B ^ (l.length - 1) ≤ vl B l
  | [], _, _, h => absurd rfl h
  | [x], hd, hn, _ => by
    have h1 := vl_pos hB hd hn (by simp)
    simp
    omega
  | x :: y :: t, hd, hn, _ => by
    have h1 := hd.cons
    have h2 := vl_ge hB h1.2 hn.tail (by simp)
    have h3 : B * B ^ ((y :: t).length - 1) ≤ B * vl B (y :: t) := Int.mul_le_mul_of_nonneg_left h2 (by omega)
    rw [vl]
    have h4 : B ^ ((x :: y :: t).length - 1) = B * B ^ ((y :: t).length - 1) := by
      simp only [List.length_cons, Nat.add_sub_cancel]
      grind
    omega
theorem can_uniq (hB : 0 < B) : ∀ {a b : List Int} {n : Int}, Can B a n → Can B b n → a = b
  | [], [], _, _, _ => rfl
  | [], y :: t, n, h, h' => by
    have h1 := vl_pos hB h'.1 h'.2.1 (by simp)
    have h2 := h.2.2
    have h3 := h'.2.2
    simp only [vl] at h2
    omega
  | x :: t, [], n, h, h' => by
    have h1 := vl_pos hB h.1 h.2.1 (by simp)
    have h2 := h.2.2
    have h3 := h'.2.2
    simp only [vl] at h3
    omega
  | x :: s, y :: t, n, h, h' => by
    have h1 := h.1.cons
    have h2 := h'.1.cons
    have h3 := h.2.2
    have h4 := h'.2.2
    simp only [vl] at h3 h4
    have e1 : x = n % B := by rw [← h3, Int.add_mul_emod_self_left, Int.emod_eq_of_lt h1.1.1 h1.1.2]
    have e2 : y = n % B := by rw [← h4, Int.add_mul_emod_self_left, Int.emod_eq_of_lt h2.1.1 h2.1.2]
    have e3 : x = y := by omega
    subst e3
    have e4 : vl B s = vl B t := Int.eq_of_mul_eq_mul_left (a := B) (by omega) (by omega)
    rw [can_uniq hB (n := vl B t) ⟨h1.2, h.2.1.tail, e4⟩ ⟨h2.2, h'.2.1.tail, rfl⟩]
theorem Can.nonneg (hB : 0 < B) {n : Int} (h : Can B l n) : 0 ≤ n := by rw [← h.2.2]; exact vl_nonneg hB h.1
theorem Can.zero (B : Int) : Can B [] 0 := ⟨Dg.nil B, Nm.nil, rfl⟩
theorem Can.nil_iff (hB : 0 < B) {n : Int} (h : Can B l n) : l = [] ↔ n = 0 := by
  constructor
  · rintro rfl
    exact h.2.2.symm
  · rintro rfl
    exact can_uniq hB h (Can.zero B)
theorem Can.len_iff (hB : 0 < B) {n : Int} (h : Can B l n) : l.length = 0 ↔ n = 0 := by rw [← h.nil_iff hB]; exact List.length_eq_zero_iff
theorem Can.lt (hB : 0 < B) {n : Int} (h : Can B l n) : n < B ^ l.length := by rw [← h.2.2]; exact vl_lt hB h.1
theorem Can.ge (hB : 0 < B) {n : Int} (h : Can B l n) (h0 : l.length ≠ 0) : B ^ (l.length - 1) ≤ n := by
  rw [← h.2.2]
  exact vl_ge hB h.1 h.2.1 (fun e => h0 (by rw [e]; rfl))
theorem pow_le {B : Int} (hB : 1 ≤ B) {i j : Nat} (h : i ≤ j) : B ^ i ≤ B ^ j := by
  obtain ⟨d, rfl⟩ := Nat.exists_eq_add_of_le h
  rw [Int.pow_add]
  have h1 : 1 ≤ B ^ d := Int.pow_pos (by omega)
  have h2 : B ^ i * 1 ≤ B ^ i * B ^ d := Int.mul_le_mul_of_nonneg_left h1 (Int.le_of_lt (Int.pow_pos (by omega)))
  omega
theorem Can.len_lt (hB : 1 < B) {n m : Int} (h : Can B a n) (h' : Can B b m) (hl : a.length < b.length) : n < m := by
  have h1 := h.lt (by omega)
  have h2 := h'.ge (by omega) (by omega)
  have h3 := pow_le (B := B) (by omega) (show a.length ≤ b.length - 1 by omega)
  omega
theorem Can.len_le (hB : 1 < B) {n : Int} (h : Can B l n) {k : Nat} (hn : n < B ^ k) : l.length ≤ k := by
  rcases Nat.lt_or_ge k l.length with hk | hk
  · have h1 := h.ge (by omega) (by omega)
    have h2 := pow_le (B := B) (by omega) (show k ≤ l.length - 1 by omega)
    omega
  · exact hk
theorem Can.len_ge (hB : 1 < B) {n : Int} (h : Can B l n) {k : Nat} (hn : B ^ k ≤ n) : k < l.length := by
  rcases Nat.lt_or_ge k l.length with hk | hk
  · exact hk
  · have h1 := h.lt (by omega)
    have h2 := pow_le (B := B) (by omega) hk
    omega
theorem vl_drop (B : Int) (l : List Int) (i : Nat) (h : i ≤ l.length) : vl B l = vl B (l.take i) + B ^ i * vl B (l.drop i) := by
  conv => lhs; rw [← List.take_append_drop i l]
  rw [vl_append, List.length_take, Nat.min_eq_left h]
theorem rd_set_ne (l : List Int) (i j : Int) (v : Int) (h : i.toNat ≠ j.toNat) : rd (l.set i.toNat v) j = rd l j := by
  simp only [rd, List.getD_eq_getElem?_getD]
  rw [List.getElem?_set_ne h]
theorem rd_set_eq (l : List Int) (i : Int) (v : Int) (h : i.toNat < l.length) : rd (l.set i.toNat v) i = v := by
  simp only [rd, List.getD_eq_getElem?_getD]
  rw [List.getElem?_set_self h]
  rfl
theorem rd_take (l : List Int) (j : Int) (i : Nat) (h : j.toNat < i) : rd (l.take i) j = rd l j := by
  simp only [rd, List.getD_eq_getElem?_getD]
  rw [List.getElem?_take_of_lt h]
theorem getLast_rd (l : List Int) (h : l ≠ []) : l.getLast h = rd l ((l.length : Int) - 1) := by
  have hp : 0 < l.length := List.length_pos_iff.2 h
  rw [List.getLast_eq_getElem]
  have e : (l.length : Int) - 1 = ((l.length - 1 : Nat) : Int) := by omega
  rw [e, rd_lt _ _ (by omega)]
theorem nm_of_rd (h : 0 < l.length → rd l ((l.length : Int) - 1) ≠ 0) : Nm l := by
  intro hl
  rw [getLast_rd l hl]
  exact h (List.length_pos_iff.2 hl)
theorem Nm.rd (h : Nm l) (hp : 0 < l.length) : rd l ((l.length : Int) - 1) ≠ 0 := by
  have hl : l ≠ [] := List.ne_nil_of_length_pos hp
  rw [← getLast_rd l hl]
  exact h hl
theorem vl_rep (B : Int) (n : Nat) : vl B (List.replicate n 0) = 0 := by
  induction n with
  | zero => rfl
  | succ n ih => simp [List.replicate_succ, vl, ih]
theorem can_ex_nat (hB : 1 < B) (n : Nat) : ∃ l, Can B l (n : Int) := by
  induction n using Nat.strongRecOn with
  | _ n ih =>
    by_cases h0 : n = 0
    · subst h0
      exact ⟨[], Can.zero B⟩
    · have hlt : ((n : Int) / B).toNat < n := by
        have h1 : (n : Int) / B < n := Int.ediv_lt_self_of_pos_of_ne_one (by omega) (by omega)
        have h2 : 0 ≤ (n : Int) / B := Int.ediv_nonneg (by omega) (by omega)
        omega
      obtain ⟨l, h1, h2, h3⟩ := ih _ hlt
      have h4 : 0 ≤ (n : Int) / B := Int.ediv_nonneg (by omega) (by omega)
      have hm := Int.emod_nonneg (n : Int) (show B ≠ 0 by omega)
      have hm2 := Int.emod_lt_of_pos (n : Int) (show 0 < B by omega)
      have h5 : vl B ((n : Int) % B :: l) = n := by
        rw [vl, h3, Int.toNat_of_nonneg h4]
        exact Int.emod_add_mul_ediv _ _
      refine ⟨(n : Int) % B :: l, Dg.mk hm hm2 h1, ?_, h5⟩
      intro hne
      rcases List.eq_nil_or_concat l with hl | ⟨_, _, hl⟩
      · subst hl
        simp only [vl, Int.mul_zero, Int.add_zero] at h5
        simp only [List.getLast_singleton]
        omega
      · have hne' : l ≠ [] := by rw [hl]; simp
        rw [List.getLast_cons hne']
        exact h2 hne'
theorem can_ex (hB : 1 < B) {n : Int} (h : 0 ≤ n) : ∃ l, Can B l n := by
  obtain ⟨k, rfl⟩ := Int.eq_ofNat_of_zero_le h
  exact can_ex_nat hB k
end
end Go.Proofs.Ytfmobogdnlmdbaa.P
end
section
namespace Go.Proofs.Ytfmobogdnlmdbaa.P
open Go.RowKit Go.Proofs.YtfmobogdnlmdbaaW.PrintWords Go.Proofs.YtfmobogdnlmdbaaW.PrintLast Go.Proofs.YtfmobogdnlmdbaaW.PrintMore
set_option linter.unusedVariables false
abbrev WW : Int := 4294967296
theorem WW_pos : (0 : Int) < WW := by decide
theorem WW_one : (1 : Int) < WW := by decide
theorem WW_eq : WW = 4294967296 := rfl
theorem alg_add {vo va vb P c c' v x y W : Int} (h : vo + c * P = va + vb) (h2 : v + W * c' = c + x + y) : vo + v * P + c' * (W * P) = (va + x * P) + (vb + y * P) := by grind
theorem alg_add1 {vo va vb P c c' v x W : Int} (h : vo + c * P = va + vb) (h2 : v + W * c' = c + x) : vo + v * P + c' * (W * P) = (va + x * P) + vb := by grind
theorem alg_last {vo c P n W : Int} (h : vo + c * P = n) : vo + P * (c + W * 0) = n := by grind
theorem wsucc {i : Nat} (h : i < 4611686018427387904) : wrap64 ((i : Int) + 1) = ((i + 1 : Nat) : Int) := by rw [w64 (by omega) (by omega)]; omega
theorem mag_Trim_ev (n : Nat) : ∀ (l : List Int), l.length = n → n < 4611686018427387904 → Dg WW l → ∃ r, Ev (fun k => mag_Trim.l0 k l) r ∧ Can WW r (vl WW l) ∧ r.length ≤ l.length := by
  induction n with
  | zero =>
    intro l hl _ hd
    have e : l = [] := List.eq_nil_of_length_eq_zero hl
    subst e
    refine ⟨[], ?_, Can.zero _, Nat.le_refl _⟩
    refine Ev.step (fun k => by rw [mag_Trim.l0]) ?_
    exact evn (by simp) (evs _)
  | succ n ih =>
    intro l hl hn hd
    have ew : wrap64 ((l.length : Int) - 1) = (n : Int) := by rw [w64 (by omega) (by omega)]; omega
    by_cases hz : rd l n = 0
    · obtain ⟨r, h1, h2, h3⟩ := ih (l.take n) (by rw [List.length_take]; omega) (by omega) (hd.take n)
      refine ⟨r, ?_, ?_, ?_⟩
      · refine Ev.step (fun k => by rw [mag_Trim.l0]) ?_
        rw [ew]
        refine evp (by omega) (evp (by omega) (evp (by omega) (evp hz (evp (by omega) ?_))))
        simpa using h1
      · have h4 := vl_take WW l n (by omega)
        rw [hz, show n + 1 = l.length by omega, List.take_length] at h4
        rw [h4]
        simpa using h2
      · rw [List.length_take] at h3
        omega
    · refine ⟨l, ?_, ⟨hd, nm_of_rd (fun _ => ?_), rfl⟩, Nat.le_refl _⟩
      · refine Ev.step (fun k => by rw [mag_Trim.l0]) ?_
        rw [ew]
        exact evp (by omega) (evp (by omega) (evp (by omega) (evn hz (evs _))))
      · rw [hl]
        have e : (((n + 1 : Nat) : Int) - 1) = (n : Int) := by omega
        rw [e]
        exact hz
theorem mag_Trim_sp {l : List Int} (hn : l.length < 4611686018427387904) (hd : Dg WW l) : ∃ r, Ev (fun k => mag_Trim.f k l) r ∧ Can WW r (vl WW l) ∧ r.length ≤ l.length := by
  obtain ⟨r, h1, h2⟩ := mag_Trim_ev l.length l rfl hn hd
  exact ⟨r, Ev.congr (fun k => by rw [mag_Trim.f]) h1, h2⟩
theorem mag_From_sp {a : Int} (h0 : 0 ≤ a) (h1 : a < 18446744073709551616) : ∃ r, Ev (fun k => mag_From.f k a) r ∧ Can WW r a := by
  have hW := WW_eq
  have hd : Dg WW [a % 4294967296, (a / 4294967296) % 4294967296] := Dg.mk (by omega) (by omega) (Dg.mk (by omega) (by omega) (Dg.nil _))
  obtain ⟨r, h2, h3, _⟩ := mag_Trim_sp (by simp) hd
  refine ⟨r, ?_, ?_⟩
  · unfold mag_From.f
    exact Ev.bind h2 (evs _)
  · have e : vl WW [a % 4294967296, (a / 4294967296) % 4294967296] = a := by
      simp only [vl, Int.mul_zero, Int.add_zero, WW_eq]
      omega
    rw [← e]
    exact h3
theorem mag_Cmp_ev {a b : List Int} (hl : a.length = b.length) (hn : a.length < 4611686018427387904) (ha : Dg WW a) (hb : Dg WW b) (d : Nat) :
    ∀ (i : Nat), i = d → i ≤ a.length → vl WW (a.drop i) = vl WW (b.drop i) → ∃ r, Ev (fun k => mag_Cmp.l0 k a b ((i : Int) - 1)) r ∧ (r = -1 ∧ vl WW a < vl WW b ∨ r = 0 ∧ vl WW a = vl WW b ∨ r = 1 ∧ vl WW b < vl WW a) := by
  induction d with
  | zero =>
    rintro i rfl h1 h2
    refine ⟨0, ?_, .inr (.inl ⟨rfl, by simpa using h2⟩)⟩
    refine Ev.step (fun k => by rw [mag_Cmp.l0]) ?_
    exact evn (by omega) (evs _)
  | succ d ih =>
    rintro i rfl h1 h2
    have e1 : (((d + 1 : Nat) : Int) - 1) = (d : Int) := by omega
    rw [e1]
    have h3 := vl_drop WW a d (by omega)
    have h4 := vl_drop WW b d (by omega)
    have ea : a.drop d = rd a d :: a.drop (d + 1) := by rw [rd_lt a d (by omega)]; exact (List.drop_eq_getElem_cons (by omega))
    have eb : b.drop d = rd b d :: b.drop (d + 1) := by rw [rd_lt b d (by omega)]; exact (List.drop_eq_getElem_cons (by omega))
    have ta := vl_lt WW_pos (ha.take d)
    have tb := vl_lt WW_pos (hb.take d)
    have ta0 := vl_nonneg WW_pos (ha.take d)
    have tb0 := vl_nonneg WW_pos (hb.take d)
    rw [List.length_take, Nat.min_eq_left (by omega)] at ta tb
    by_cases he : rd a d = rd b d
    · obtain ⟨r, h5, h6⟩ := ih d rfl (by omega) (by rw [ea, eb, vl, vl, he, h2])
      refine ⟨r, ?_, h6⟩
      refine Ev.step (fun k => by rw [mag_Cmp.l0]) ?_
      rw [w64 (by omega) (by omega)]
      exact evp (by omega) (evp (by omega) (evp (by omega) (evp (by omega) (evp he h5))))
    · have h7 : vl WW (a.drop d) = rd a d + WW * vl WW (a.drop (d + 1)) := by rw [ea, vl]
      have h8 : vl WW (b.drop d) = rd b d + WW * vl WW (b.drop (d + 1)) := by rw [eb, vl]
      have hp : 0 < WW ^ d := Int.pow_pos WW_pos
      by_cases hlt : rd a d < rd b d
      · refine ⟨-1, ?_, .inl ⟨rfl, ?_⟩⟩
        · refine Ev.step (fun k => by rw [mag_Cmp.l0]) ?_
          exact evp (by omega) (evp (by omega) (evp (by omega) (evp (by omega) (evn he (evp hlt (evs _))))))
        · have h9 : WW ^ d * (vl WW (a.drop d) + 1) ≤ WW ^ d * vl WW (b.drop d) := Int.mul_le_mul_of_nonneg_left (by rw [h7, h8, h2]; omega) (by omega)
          rw [Int.mul_add] at h9
          omega
      · refine ⟨1, ?_, .inr (.inr ⟨rfl, ?_⟩)⟩
        · refine Ev.step (fun k => by rw [mag_Cmp.l0]) ?_
          exact evp (by omega) (evp (by omega) (evp (by omega) (evp (by omega) (evn he (evn hlt (evs _))))))
        · have h9 : WW ^ d * (vl WW (b.drop d) + 1) ≤ WW ^ d * vl WW (a.drop d) := Int.mul_le_mul_of_nonneg_left (by rw [h7, h8, h2]; omega) (by omega)
          rw [Int.mul_add] at h9
          omega
def cmpi (n m : Int) : Int := if n < m then -1 else if n = m then 0 else 1
theorem mag_Cmp_sp {a b : List Int} {n m : Int} (hn : a.length < 4611686018427387904) (ha : Can WW a n) (hb : Can WW b m) : Ev (fun k => mag_Cmp.f k a b) (cmpi n m) := by
  unfold mag_Cmp.f
  by_cases hl : a.length = b.length
  · obtain ⟨r, h1, h2⟩ := mag_Cmp_ev hl hn ha.1 hb.1 a.length a.length rfl (Nat.le_refl _) (by rw [List.drop_length, hl, List.drop_length])
    have e : r = cmpi n m := by
      rw [ha.2.2, hb.2.2] at h2
      unfold cmpi
      rcases h2 with ⟨rfl, h⟩ | ⟨rfl, h⟩ | ⟨rfl, h⟩
      · rw [if_pos h]
      · rw [if_neg (by omega), if_pos h]
      · rw [if_neg (by omega), if_neg (by omega)]
    rw [← e]
    refine evp (by omega) ?_
    rw [w64 (by omega) (by omega)]
    exact h1
  · refine evn (by omega) ?_
    unfold cmpi
    by_cases h : a.length < b.length
    · have := Can.len_lt WW_one ha hb h
      rw [if_pos this]
      exact evp (by omega) (evs _)
    · have := Can.len_lt WW_one hb ha (by omega)
      rw [if_neg (show ¬ n < m by omega), if_neg (show ¬ n = m by omega)]
      exact evn (by omega) (evs _)
theorem mag_Add_ev {a b : List Int} (hba : b.length ≤ a.length) (hn : a.length < 1099511627776) (ha : Dg WW a) (hb : Dg WW b) (d : Nat) :
    ∀ (i : Nat) (o : List Int) (c : Int), a.length - i = d → i ≤ a.length → o.length = a.length + 1 → Dg WW (o.take i) → 0 ≤ c → c ≤ 1 → vl WW (o.take i) + c * WW ^ i = vl WW (a.take i) + vl WW (b.take i) →
    ∃ r, Ev (fun k => mag_Add.l0 k a b o c a (a.length : Int) (i : Int)) r ∧ Can WW r (vl WW a + vl WW b) ∧ r.length ≤ a.length + 1 := by
  induction d with
  | zero =>
    intro i o c h1 h2 h3 h4 h5 h6 h7
    have e : i = a.length := by omega
    subst e
    have hset : o.set a.length c = o.take a.length ++ [c] := by
      have := P.take_set o a.length c (by omega)
      rw [show a.length + 1 = (o.set a.length c).length by simp [h3], List.take_length] at this
      exact this
    have hd : Dg WW (o.set a.length c) := by rw [hset]; exact h4.append (Dg.mk h5 (by have := WW_one; omega) (Dg.nil _))
    obtain ⟨r, h8, h9, h10⟩ := mag_Trim_sp (l := o.set a.length c) (by simp; omega) hd
    have hv : vl WW (o.set a.length c) = vl WW a + vl WW b := by
      rw [hset, vl_append, List.length_take, Nat.min_eq_left (by omega)]
      rw [List.take_length, List.take_of_length_le hba] at h7
      simp only [vl]
      exact alg_last h7
    refine ⟨r, ?_, by rw [← hv]; exact h9, by simp at h10; omega⟩
    refine Ev.step (fun k => by rw [mag_Add.l0]) ?_
    refine evn (by omega) (evp (by omega) (evp (by omega) ?_))
    have ec : c % 4294967296 = c := by omega
    rw [ec, show ((a.length : Int)).toNat = a.length by omega]
    exact Ev.bind h8 (evs _)
  | succ d ih =>
    intro i o c h1 h2 h3 h4 h5 h6 h7
    have hi : i < a.length := by omega
    have hx := dg_rd ha (i : Int) (by omega) (by omega)
    have ti := vl_take WW a i hi
    have ep : WW ^ (i + 1) = WW * WW ^ i := by rw [Int.pow_succ, Int.mul_comm]
    have hW := WW_eq
    by_cases hib : i < b.length
    · have hy := dg_rd hb (i : Int) (by omega) (by omega)
      have tb := vl_take WW b i hib
      have ev : (c + rd a i + rd b i) % 4294967296 + WW * ((c + rd a i + rd b i) / 4294967296) = c + rd a i + rd b i := by rw [WW_eq]; omega
      obtain ⟨r, h8, h9⟩ := ih (i + 1) (o.set i ((c + rd a i + rd b i) % 4294967296)) ((c + rd a i + rd b i) / 4294967296) (by omega) (by omega) (by simpa using h3)
        (Dg.take_set (by omega) h4 (by omega) (by omega)) (by omega) (by omega)
        (by rw [vl_set _ _ _ _ (by omega), ti, tb, ep]; exact alg_add h7 ev)
      refine ⟨r, ?_, h9⟩
      refine Ev.step (fun k => by rw [mag_Add.l0]) ?_
      rw [u64 (x := rd a i) (by omega) (by omega), u64 (x := rd b i) (by omega) (by omega), u64 (x := c + rd a i) (by omega) (by omega), u64 (x := c + rd a i + rd b i) (by omega) (by omega), wsucc (by omega)]
      exact evp (by omega) (evp (by omega) (evp (by omega) (evp (by omega) (evp (by omega) h8))))
    · have tb : vl WW (b.take (i + 1)) = vl WW (b.take i) := by rw [List.take_of_length_le (by omega), List.take_of_length_le (by omega)]
      have ev : (c + rd a i) % 4294967296 + WW * ((c + rd a i) / 4294967296) = c + rd a i := by rw [WW_eq]; omega
      obtain ⟨r, h8, h9⟩ := ih (i + 1) (o.set i ((c + rd a i) % 4294967296)) ((c + rd a i) / 4294967296) (by omega) (by omega) (by simpa using h3)
        (Dg.take_set (by omega) h4 (by omega) (by omega)) (by omega) (by omega)
        (by rw [vl_set _ _ _ _ (by omega), ti, tb, ep]; exact alg_add1 h7 ev)
      refine ⟨r, ?_, h9⟩
      refine Ev.step (fun k => by rw [mag_Add.l0]) ?_
      rw [u64 (x := rd a i) (by omega) (by omega), u64 (x := c + rd a i) (by omega) (by omega), wsucc (by omega)]
      exact evp (by omega) (evp (by omega) (evp (by omega) (evn (by omega) (evp (by omega) h8))))
theorem mag_Add_j {a b : List Int} (hba : b.length ≤ a.length) (hn : a.length < 1099511627776) (ha : Dg WW a) (hb : Dg WW b) : ∃ r, Ev (fun k => mag_Add.j0 k a b) r ∧ Can WW r (vl WW a + vl WW b) ∧ r.length ≤ a.length + 1 := by
  obtain ⟨r, h1, h2⟩ := mag_Add_ev hba hn ha hb a.length 0 (List.replicate (a.length + 1) 0) 0 (by omega) (by omega) (by simp) (by simp; exact Dg.nil _) (by omega) (by omega) (by simp [vl])
  refine ⟨r, ?_, h2⟩
  refine Ev.step (fun k => by rw [mag_Add.j0]) ?_
  have e : wrap64 ((a.length : Int) + 1) = ((a.length + 1 : Nat) : Int) := by rw [w64 (by omega) (by omega)]; omega
  rw [e, Int.toNat_natCast]
  exact evp (by omega) (evp (by omega) h1)
theorem mag_Add_sp {a b : List Int} {n m : Int} (hla : a.length < 1099511627776) (hlb : b.length < 1099511627776) (ha : Can WW a n) (hb : Can WW b m) : ∃ r, Ev (fun k => mag_Add.f k a b) r ∧ Can WW r (n + m) ∧ r.length ≤ max a.length b.length + 1 := by
  unfold mag_Add.f
  rw [← ha.2.2, ← hb.2.2]
  by_cases h : a.length < b.length
  · obtain ⟨r, h1, h2, h3⟩ := mag_Add_j (a := b) (b := a) (by omega) hlb hb.1 ha.1
    exact ⟨r, evp (by omega) h1, by rw [Int.add_comm]; exact h2, by omega⟩
  · obtain ⟨r, h1, h2, h3⟩ := mag_Add_j (a := a) (b := b) (by omega) hla ha.1 hb.1
    exact ⟨r, evn (by omega) h1, h2, by omega⟩
end Go.Proofs.Ytfmobogdnlmdbaa.P
end
section
namespace Go.Proofs.Ytfmobogdnlmdbaa.P
open Go.RowKit Go.Proofs.YtfmobogdnlmdbaaW.PrintWords Go.Proofs.YtfmobogdnlmdbaaW.PrintLast Go.Proofs.YtfmobogdnlmdbaaW.PrintMore
set_option linter.unusedVariables false
theorem can_len_le {a b : List Int} {n m : Int} (ha : Can WW a n) (hb : Can WW b m) (h : m ≤ n) : b.length ≤ a.length := by
  rcases Nat.lt_or_ge a.length b.length with hl | hl
  · have := Can.len_lt WW_one ha hb hl
    omega
  · exact hl
theorem vl_set_mid (B : Int) (l : List Int) (p q : Nat) (v : Int) (h : p < q) (hq : q ≤ l.length) : vl B ((l.set p v).take q) = vl B (l.take q) + (v - rd l (p : Int)) * B ^ p := by
  have h1 := vl_drop B ((l.set p v).take q) (p + 1) (by simp; omega)
  have h2 := vl_drop B (l.take q) (p + 1) (by simp; omega)
  have e1 : ((l.set p v).take q).take (p + 1) = (l.set p v).take (p + 1) := by rw [List.take_take, Nat.min_eq_left (by omega)]
  have e2 : (l.take q).take (p + 1) = l.take (p + 1) := by rw [List.take_take, Nat.min_eq_left (by omega)]
  have e3 : ((l.set p v).take q).drop (p + 1) = (l.take q).drop (p + 1) := by
    rw [List.drop_take, List.drop_take, List.drop_set_of_lt (by omega)]
  rw [e1, e3, vl_set _ _ _ _ (by omega)] at h1
  rw [e2, vl_take _ _ _ (by omega)] at h2
  rw [h1, h2]
  grind
theorem alg_mul {T va vb x y old P c c' v W xb Pi Pj : Int} (h : T + c * P = va * vb + x * Pi * xb) (h2 : v + W * c' = c + (x * y + old)) (hP : P = Pi * Pj) : (T + (v - old) * P) + c' * (W * P) = va * vb + x * Pi * (xb + y * Pj) := by grind
theorem mul_bd {x y : Int} (hx : 0 ≤ x ∧ x < 4294967296) (hy : 0 ≤ y ∧ y < 4294967296) : 0 ≤ x * y ∧ x * y ≤ 18446744065119617025 := by
  have h1 : 0 ≤ x * y := Int.mul_nonneg hx.1 hy.1
  have h2 : x * y ≤ 4294967295 * 4294967295 := Int.mul_le_mul (by omega) (by omega) hy.1 (by omega)
  omega
theorem mulc {x y old c : Int} (hx : 0 ≤ x ∧ x < 4294967296) (hy : 0 ≤ y ∧ y < 4294967296) (ho : 0 ≤ old ∧ old < 4294967296) (hc : 0 ≤ c ∧ c < 4294967296) :
    ∃ v c', IntKind.u64.wrap (c + IntKind.u64.wrap (IntKind.u64.wrap (IntKind.u64.wrap x * IntKind.u64.wrap y) + IntKind.u64.wrap old)) % 4294967296 = v ∧ IntKind.u64.wrap (c + IntKind.u64.wrap (IntKind.u64.wrap (IntKind.u64.wrap x * IntKind.u64.wrap y) + IntKind.u64.wrap old)) / 4294967296 = c' ∧ v + 4294967296 * c' = c + (x * y + old) ∧ 0 ≤ v ∧ v < 4294967296 ∧ 0 ≤ c' ∧ c' < 4294967296 := by
  have hb := mul_bd hx hy
  rw [u64 (x := x) (by omega) (by omega), u64 (x := y) (by omega) (by omega), u64 (x := old) (by omega) (by omega), u64 (x := x * y) (by omega) (by omega), u64 (x := x * y + old) (by omega) (by omega), u64 (x := c + (x * y + old)) (by omega) (by omega)]
  refine ⟨_, _, rfl, rfl, ?_, ?_, ?_, ?_, ?_⟩ <;> omega
theorem alg_mul2 {T c P va vb x Pi : Int} (h : T + c * P = va * vb + x * Pi * vb) : T + c * P = (va + x * Pi) * vb := by rw [h]; grind
theorem mag_Mul_in {a b : List Int} (hn : a.length + b.length < 1099511627776) (ha : Dg WW a) (hb : Dg WW b) (i : Nat) (hi : i < a.length) (R : List Int)
    (hout : ∀ o : List Int, o.length = a.length + b.length → Dg WW o → vl WW (o.take (i + 1 + b.length)) = vl WW (a.take (i + 1)) * vl WW b → Ev (fun k => mag_Mul.l0 k b o a (a.length : Int) ((i + 1 : Nat) : Int)) R) (d : Nat) :
    ∀ (j : Nat) (o : List Int) (c : Int), b.length - j = d → j ≤ b.length → o.length = a.length + b.length → Dg WW o → 0 ≤ c → c < 4294967296 →
    vl WW (o.take (i + b.length)) + c * WW ^ (i + j) = vl WW (a.take i) * vl WW b + rd a i * WW ^ i * vl WW (b.take j) →
    Ev (fun k => mag_Mul.l1 k b o (i : Int) (rd a i) c a (a.length : Int) (i : Int) b (b.length : Int) (j : Int)) R := by
  induction d with
  | zero =>
    intro j o c h1 h2 h3 h4 h5 h6 h7
    have e : j = b.length := by omega
    subst e
    rw [List.take_length] at h7
    have ei : ((i : Int) + (b.length : Int)) = ((i + b.length : Nat) : Int) := by omega
    refine Ev.step (fun k => by rw [mag_Mul.l1]) ?_
    rw [ei, w64 (x := ((i + b.length : Nat) : Int)) (by omega) (by omega), Int.toNat_natCast, wsucc (i := i) (by omega), Int.emod_eq_of_lt h5 h6]
    refine evn (by omega) (evp (by omega) (evp (by omega) ?_))
    refine hout _ (by simpa using h3) (h4.set _ h5 (by rw [WW_eq]; exact h6)) ?_
    rw [show i + 1 + b.length = i + b.length + 1 by omega, vl_set _ _ _ _ (by omega), vl_take WW a i hi]
    exact alg_mul2 h7
  | succ d ih =>
    intro j o c h1 h2 h3 h4 h5 h6 h7
    have hx := dg_rd ha (i : Int) (by omega) (by omega)
    have hy := dg_rd hb (j : Int) (by omega) (by omega)
    have ho := dg_rd h4 ((i + j : Nat) : Int) (by omega) (by omega)
    rw [WW_eq] at hx hy ho
    obtain ⟨v, c', e1, e2, e3, v0, v1, c0, c1⟩ := mulc hx hy ho ⟨h5, h6⟩
    have h8 := ih (j + 1) (o.set (i + j) v) c' (by omega) (by omega) (by simpa using h3) (h4.set _ v0 (by rw [WW_eq]; exact v1)) c0 c1
      (by
        rw [vl_set_mid _ _ _ _ _ (by omega) (by omega), vl_take WW b j (by omega), show i + (j + 1) = i + j + 1 by omega, Int.pow_succ, Int.mul_comm (WW ^ (i + j)) WW]
        exact alg_mul h7 e3 (Int.pow_add _ _ _))
    have ei : ((i : Int) + (j : Int)) = ((i + j : Nat) : Int) := by omega
    refine Ev.step (fun k => by rw [mag_Mul.l1]) ?_
    rw [ei, w64 (x := ((i + j : Nat) : Int)) (by omega) (by omega), e1, e2, wsucc (by omega), Int.toNat_natCast]
    exact evp (by omega) (evp (by omega) (evp (by omega) (evp (by omega) (evp (by omega) h8))))
theorem mul_lt' {n m A C : Int} (h1 : n < A) (h2 : m < C) (h3 : 0 ≤ n) (h4 : 0 ≤ m) : n * m < A * C := by
  have h5 : n * m ≤ n * C := Int.mul_le_mul_of_nonneg_left (by omega) h3
  have h6 : n * C < A * C := Int.mul_lt_mul_of_pos_right h1 (by omega)
  omega
theorem mag_Mul_out {a b : List Int} (hn : a.length + b.length < 1099511627776) (ha : Dg WW a) (hb : Dg WW b) : ∃ R, Can WW R (vl WW a * vl WW b) ∧ R.length ≤ a.length + b.length ∧ ∀ (d i : Nat) (o : List Int), a.length - i = d → i ≤ a.length → o.length = a.length + b.length → Dg WW o → vl WW (o.take (i + b.length)) = vl WW (a.take i) * vl WW b →
    Ev (fun k => mag_Mul.l0 k b o a (a.length : Int) (i : Int)) R := by
  have key : ∀ o : List Int, o.length = a.length + b.length → Dg WW o → vl WW (o.take (a.length + b.length)) = vl WW (a.take a.length) * vl WW b → ∃ r, Ev (fun k => mag_Mul.l0 k b o a (a.length : Int) (a.length : Int)) r ∧ Can WW r (vl WW a * vl WW b) ∧ r.length ≤ a.length + b.length := by
    intro o h1 h2 h3
    obtain ⟨r, h8, h9, h10⟩ := mag_Trim_sp (l := o) (by omega) h2
    rw [← h1, List.take_length, List.take_length] at h3
    refine ⟨r, ?_, by rw [← h3]; exact h9, by omega⟩
    refine Ev.step (fun k => by rw [mag_Mul.l0]) ?_
    exact evn (by omega) (Ev.bind h8 (evs _))
  have hv : ∃ R, Can WW R (vl WW a * vl WW b) ∧ R.length ≤ a.length + b.length := by
    have hnn : 0 ≤ vl WW a * vl WW b := Int.mul_nonneg (vl_nonneg WW_pos ha) (vl_nonneg WW_pos hb)
    obtain ⟨R, hR⟩ := can_ex WW_one hnn
    refine ⟨R, hR, ?_⟩
    refine hR.len_le WW_one ?_
    rw [Int.pow_add]
    have h1 := vl_lt WW_pos ha
    have h2 := vl_lt WW_pos hb
    have h3 := vl_nonneg WW_pos ha
    have h4 := vl_nonneg WW_pos hb
    exact mul_lt' h1 h2 h3 h4
  obtain ⟨R, hR, hRl⟩ := hv
  refine ⟨R, hR, hRl, ?_⟩
  intro d
  induction d with
  | zero =>
    intro i o h1 h2 h3 h4 h5
    have e : i = a.length := by omega
    subst e
    obtain ⟨r, h6, h7, _⟩ := key o h3 h4 h5
    rw [can_uniq WW_pos hR h7]
    exact h6
  | succ d ih =>
    intro i o h1 h2 h3 h4 h5
    have h6 := mag_Mul_in hn ha hb i (by omega) R (fun o' q1 q2 q3 => ih (i + 1) o' (by omega) (by omega) q1 q2 (by rw [q3])) b.length 0 o 0 (by omega) (by omega) h3 h4 (by omega) (by omega) (by rw [h5]; simp [vl])
    refine Ev.step (fun k => by rw [mag_Mul.l0]) ?_
    exact evp (by omega) (evp (by omega) (evp (by omega) h6))
theorem mag_Mul_sp {a b : List Int} {n m : Int} (hn : a.length + b.length < 1099511627776) (ha : Can WW a n) (hb : Can WW b m) : ∃ r, Ev (fun k => mag_Mul.f k a b) r ∧ Can WW r (n * m) ∧ r.length ≤ a.length + b.length := by
  by_cases ha0 : a.length = 0
  · have e : a = [] := List.eq_nil_of_length_eq_zero ha0
    subst e
    have : n = 0 := by rw [← ha.2.2]; rfl
    subst this
    refine ⟨[], ?_, by rw [Int.zero_mul]; exact Can.zero _, Nat.zero_le _⟩
    unfold mag_Mul.f
    refine evp (by simp) ?_
    refine Ev.step (fun k => by rw [mag_Mul.j0]) ?_
    exact evp rfl (evs _)
  · by_cases hb0 : b.length = 0
    · have e : b = [] := List.eq_nil_of_length_eq_zero hb0
      subst e
      have : m = 0 := by rw [← hb.2.2]; rfl
      subst this
      refine ⟨[], ?_, by rw [Int.mul_zero]; exact Can.zero _, Nat.zero_le _⟩
      unfold mag_Mul.f
      refine evn (by omega) ?_
      refine Ev.step (fun k => by rw [mag_Mul.j0]) ?_
      exact evp rfl (evs _)
    · obtain ⟨R, h1, h2, h3⟩ := mag_Mul_out hn ha.1 hb.1
      rw [ha.2.2, hb.2.2] at h1
      refine ⟨R, ?_, h1, h2⟩
      have h4 := h3 a.length 0 (List.replicate (a.length + b.length) 0) (by omega) (by omega) (by simp) (Dg.rep WW_pos _) (by rw [List.take_replicate]; simp [vl, vl_rep])
      unfold mag_Mul.f
      refine evn (by omega) ?_
      refine Ev.step (fun k => by rw [mag_Mul.j0]) ?_
      have e : (a.length : Int) + (b.length : Int) = ((a.length + b.length : Nat) : Int) := by omega
      rw [e, w64 (by omega) (by omega), Int.toNat_natCast]
      refine evn ?_ (evp (by omega) (evp (by omega) h4))
      simp only [beq_iff_eq]
      omega
end Go.Proofs.Ytfmobogdnlmdbaa.P
end
section
namespace Go.Proofs.Ytfmobogdnlmdbaa.P
open Go.RowKit Go.Proofs.YtfmobogdnlmdbaaW.PrintWords Go.Proofs.YtfmobogdnlmdbaaW.PrintLast Go.Proofs.YtfmobogdnlmdbaaW.PrintMore
set_option linter.unusedVariables false
abbrev RR : Int := 10000
theorem RR_pos : (0 : Int) < RR := by decide
theorem RR_one : (1 : Int) < RR := by decide
theorem RR_eq : RR = 10000 := rfl
theorem r_trim_ev {l : List Int} (hn : l.length < 4611686018427387904) (hd : Dg RR l) (d : Nat) : ∀ i : Nat, i = d → i ≤ l.length → ∃ r, Ev (fun k => isochroneref01_trim.l0 k l (i : Int)) r ∧ Can RR r (vl RR (l.take i)) ∧ r.length ≤ i := by
  induction d with
  | zero =>
    rintro i rfl h
    refine ⟨[], ?_, Can.zero _, Nat.le_refl _⟩
    refine Ev.step (fun k => by rw [isochroneref01_trim.l0]) ?_
    exact evn (by omega) (evp (by omega) (evp (by omega) (evs _)))
  | succ d ih =>
    rintro i rfl h
    have hw : ((d + 1 : Nat) : Int) - 1 = (d : Int) := by omega
    by_cases hz : rd l d = 0
    · obtain ⟨r, h1, h2, h3⟩ := ih d rfl (by omega)
      refine ⟨r, ?_, ?_, by omega⟩
      · refine Ev.step (fun k => by rw [isochroneref01_trim.l0]) ?_
        rw [hw, w64 (x := (d : Int)) (by omega) (by omega)]
        exact evp (by omega) (evp (by omega) (evp (by omega) (evp hz h1)))
      · rw [vl_take RR l d (by omega), hz, Int.zero_mul, Int.add_zero]
        exact h2
    · refine ⟨l.take (d + 1), ?_, ⟨hd.take _, nm_of_rd (fun _ => ?_), rfl⟩, by rw [List.length_take]; omega⟩
      · refine Ev.step (fun k => by rw [isochroneref01_trim.l0]) ?_
        rw [hw, w64 (x := (d : Int)) (by omega) (by omega), Int.toNat_natCast]
        exact evp (by omega) (evp (by omega) (evp (by omega) (evn hz (evp (by omega) (evp (by omega) (evs _))))))
      · rw [List.length_take, Nat.min_eq_left (by omega), hw, rd_take _ _ _ (by omega)]
        exact hz
theorem r_trim_sp {l : List Int} (hn : l.length < 4611686018427387904) (hd : Dg RR l) : ∃ r, Ev (fun k => isochroneref01_trim.f k l) r ∧ Can RR r (vl RR l) ∧ r.length ≤ l.length := by
  obtain ⟨r, h1, h2⟩ := r_trim_ev hn hd l.length l.length rfl (Nat.le_refl _)
  rw [List.take_length] at h2
  exact ⟨r, Ev.congr (fun k => by rw [isochroneref01_trim.f]) h1, h2⟩
theorem tmod_nn {x : Int} (h : 0 ≤ x) (m : Int) : Int.tmod x m = x % m := Int.tmod_eq_emod_of_nonneg h
theorem tdiv_nn {x : Int} (h : 0 ≤ x) (m : Int) : Int.tdiv x m = x / m := Int.tdiv_eq_ediv_of_nonneg h
theorem vl_snoc (B : Int) (l : List Int) (x : Int) : vl B (l ++ [x]) = vl B l + x * B ^ l.length := by
  rw [vl_append]
  simp only [vl]
  grind
theorem alg_sm {vo c P n v c' R : Int} (h : vo + c * P = n) (h2 : v + R * c' = c) : vo + v * P + c' * (R * P) = n := by grind
theorem alg_sm2 {vo c P va x k v c' R c0 : Int} (h : vo + c * P = c0 + k * va) (h2 : v + R * c' = c + x * k) : vo + v * P + c' * (R * P) = c0 + k * (va + x * P) := by grind
theorem r_Small_in (o0 : List Int) (n : Int) (c : Nat) : ∀ (o : List Int) (cc : Int), cc = (c : Int) → cc < 4611686018427387904 → o.length + c < 1099511627776 → Dg RR o → vl RR o + cc * RR ^ o.length = n → ∃ r, Ev (fun k => isochroneref01_Small.l1 k cc o) r ∧ Can RR r n := by
  induction c using Nat.strongRecOn with
  | _ c ih =>
    intro o cc hcc hlt hl hd hv
    by_cases h0 : c = 0
    · subst h0
      have e : cc = 0 := by omega
      subst e
      rw [Int.zero_mul, Int.add_zero] at hv
      obtain ⟨r, h1, h2, _⟩ := r_trim_sp (l := o) (by omega) hd
      refine ⟨r, ?_, by rw [← hv]; exact h2⟩
      refine Ev.step (fun k => by rw [isochroneref01_Small.l1]) ?_
      exact evn (by omega) (Ev.bind h1 (evs _))
    · obtain ⟨r, h1, h2⟩ := ih (c / 10000) (by omega) (o ++ [cc % 10000]) (cc / 10000) (by omega) (by omega) (by simp; omega) (hd.append (Dg.mk (by omega) (by rw [RR_eq]; omega) (Dg.nil _)))
        (by rw [vl_snoc, List.length_append, List.length_singleton, Int.pow_succ, Int.mul_comm (RR ^ o.length) RR]; exact alg_sm hv (by rw [RR_eq]; omega))
      refine ⟨r, ?_, h2⟩
      refine Ev.step (fun k => by rw [isochroneref01_Small.l1]) ?_
      rw [tmod_nn (x := cc) (by omega), tdiv_nn (x := cc) (by omega), w64 (x := cc / 10000) (by omega) (by omega)]
      exact evp (by omega) (evp (by omega) h1)
theorem r_Small_l0 {a : List Int} (hn : a.length < 549755813888) (ha : Dg RR a) {k0 c0 : Int} (hk : 0 ≤ k0 ∧ k0 ≤ 65536) (d : Nat) :
    ∀ (i : Nat) (o : List Int) (c : Int), a.length - i = d → i ≤ a.length → o.length = i → Dg RR o → 0 ≤ c → c ≤ 65536 → vl RR o + c * RR ^ i = c0 + k0 * vl RR (a.take i) →
    ∃ r, Ev (fun k => isochroneref01_Small.l0 k k0 c o a (a.length : Int) (i : Int)) r ∧ Can RR r (c0 + k0 * vl RR a) := by
  induction d with
  | zero =>
    intro i o c h1 h2 h3 h4 h5 h6 h7
    have e : i = a.length := by omega
    subst e
    rw [List.take_length] at h7
    obtain ⟨r, h8, h9⟩ := r_Small_in o (c0 + k0 * vl RR a) c.toNat o c (by omega) (by omega) (by omega) h4 (by rw [h3]; exact h7)
    refine ⟨r, ?_, h9⟩
    refine Ev.step (fun k => by rw [isochroneref01_Small.l0]) ?_
    exact evn (by omega) h8
  | succ d ih =>
    intro i o c h1 h2 h3 h4 h5 h6 h7
    have hx := dg_rd ha (i : Int) (by omega) (by omega)
    rw [RR_eq] at hx
    have hm : 0 ≤ rd a i * k0 := Int.mul_nonneg hx.1 hk.1
    have hm2 : rd a i * k0 ≤ 9999 * 65536 := Int.mul_le_mul (by omega) hk.2 hk.1 (by omega)
    obtain ⟨r, h8, h9⟩ := ih (i + 1) (o ++ [(c + rd a i * k0) % 10000]) ((c + rd a i * k0) / 10000) (by omega) (by omega) (by simp; omega) (h4.append (Dg.mk (by omega) (by rw [RR_eq]; omega) (Dg.nil _))) (by omega) (by omega)
      (by rw [vl_snoc, h3, vl_take RR a i (by omega), Int.pow_succ, Int.mul_comm (RR ^ i) RR]; exact alg_sm2 h7 (by rw [RR_eq]; omega))
    refine ⟨r, ?_, h9⟩
    refine Ev.step (fun k => by rw [isochroneref01_Small.l0]) ?_
    rw [w64 (x := rd a i * k0) (by omega) (by omega), w64 (x := c + rd a i * k0) (by omega) (by omega), tmod_nn (x := c + rd a i * k0) (by omega), tdiv_nn (x := c + rd a i * k0) (by omega), w64 (x := (c + rd a i * k0) / 10000) (by omega) (by omega), wsucc (i := i) (by omega)]
    exact evp (by omega) (evp (by omega) (evp (by omega) (evp (by omega) h8)))
theorem r_Small_sp {a : List Int} {n k0 c0 : Int} (hn : a.length < 549755813888) (ha : Can RR a n) (hk : 0 ≤ k0 ∧ k0 ≤ 65536) (hc : 0 ≤ c0 ∧ c0 ≤ 65536) : ∃ r, Ev (fun k => isochroneref01_Small.f k a k0 c0) r ∧ Can RR r (n * k0 + c0) ∧ r.length ≤ a.length + 2 := by
  obtain ⟨r, h1, h2⟩ := r_Small_l0 hn ha.1 hk (c0 := c0) a.length 0 [] c0 (by omega) (by omega) rfl (Dg.nil _) hc.1 hc.2 (by simp [vl])
  rw [ha.2.2, Int.add_comm, Int.mul_comm] at h2
  refine ⟨r, ?_, h2, ?_⟩
  · unfold isochroneref01_Small.f
    have e : (a.length : Int) + 2 = ((a.length + 2 : Nat) : Int) := by omega
    rw [e, w64 (by omega) (by omega), Int.toNat_natCast]
    exact evp (by omega) (evp (by omega) h1)
  · refine h2.len_le RR_one ?_
    have h3 := ha.lt RR_pos
    have h4 := ha.nonneg RR_pos
    have h5 : n * k0 ≤ n * 65536 := Int.mul_le_mul_of_nonneg_left hk.2 h4
    have h6 : RR ^ (a.length + 2) = RR ^ a.length * 100000000 := by rw [Int.pow_add]; rfl
    rw [h6]
    omega
theorem and16 {x : Int} (h0 : 0 ≤ x) (h1 : x < 4294967296) : Go.bits .and .u32 x 65535 = x % 65536 :=
  bits_mask .u32 32 (by decide) (fun n h0 h1 => by rw [IntKind.wrap_u32]; omega) 16 (by decide) x h0 h1
theorem r_Of_ev {a : List Int} (hn : a.length < 137438953472) (ha : Dg WW a) (d : Nat) : ∀ (i : Nat) (o : List Int), i = d → i ≤ a.length → Can RR o (vl WW (a.drop i)) → o.length ≤ 4 * (a.length - i) → ∃ r, Ev (fun k => isochroneref01_Of.l0 k a o ((i : Int) - 1)) r ∧ Can RR r (vl WW a) ∧ r.length ≤ 4 * a.length := by
  induction d with
  | zero =>
    rintro i o rfl h1 h2 h3
    refine ⟨o, ?_, by simpa using h2, by omega⟩
    refine Ev.step (fun k => by rw [isochroneref01_Of.l0]) ?_
    exact evn (by omega) (evs _)
  | succ d ih =>
    rintro i o rfl h1 h2 h3
    have e1 : (((d + 1 : Nat) : Int) - 1) = (d : Int) := by omega
    have hx := dg_rd ha (d : Int) (by omega) (by omega)
    rw [WW_eq] at hx
    obtain ⟨p, h4, h5, h6⟩ := r_Small_sp (k0 := 65536) (c0 := rd a d / 65536) (by omega) h2 (by omega) (by omega)
    obtain ⟨q, h7, h8, h9⟩ := r_Small_sp (k0 := 65536) (c0 := rd a d % 65536) (by omega) h5 (by omega) (by omega)
    have ea : a.drop d = rd a d :: a.drop (d + 1) := by rw [rd_lt a d (by omega)]; exact (List.drop_eq_getElem_cons (by omega))
    have ev : (vl WW (a.drop (d + 1)) * 65536 + rd a d / 65536) * 65536 + rd a d % 65536 = vl WW (a.drop d) := by
      rw [ea, vl, WW_eq]
      omega
    rw [ev] at h8
    obtain ⟨r, h10, h11⟩ := ih d q rfl (by omega) h8 (by omega)
    refine ⟨r, ?_, h11⟩
    refine Ev.step (fun k => by rw [isochroneref01_Of.l0]) ?_
    rw [e1, and16 hx.1 hx.2, w64 (x := rd a d / 65536) (by omega) (by omega), w64 (x := rd a d % 65536) (by omega) (by omega), w64 (x := (d : Int) - 1) (by omega) (by omega)]
    exact evp (by omega) (evp (by omega) (evp (by omega) (Ev.bind h4 (Ev.bind h7 h10))))
theorem r_Of_sp {a : List Int} {n : Int} (hn : a.length < 137438953472) (ha : Can WW a n) : ∃ r, Ev (fun k => isochroneref01_Of.f k a) r ∧ Can RR r n ∧ r.length ≤ 4 * a.length := by
  obtain ⟨r, h1, h2⟩ := r_Of_ev hn ha.1 a.length a.length [] rfl (Nat.le_refl _) (by rw [List.drop_length]; exact Can.zero _) (by simp)
  rw [ha.2.2] at h2
  refine ⟨r, ?_, h2⟩
  unfold isochroneref01_Of.f
  rw [w64 (x := (a.length : Int) - 1) (by omega) (by omega)]
  exact h1
end Go.Proofs.Ytfmobogdnlmdbaa.P
end
section
namespace Go.Proofs.Ytfmobogdnlmdbaa.P
open Go.RowKit Go.Proofs.YtfmobogdnlmdbaaW.PrintWords Go.Proofs.YtfmobogdnlmdbaaW.PrintLast Go.Proofs.YtfmobogdnlmdbaaW.PrintMore
set_option linter.unusedVariables false
theorem drop_set_ge (l : List Int) (i : Nat) (v : Int) : (l.set i v).drop (i + 1) = l.drop (i + 1) := by rw [List.drop_set_of_lt (by omega)]
theorem rd_of_drop (a o : List Int) (i : Nat) (h : o.drop i = a.drop i) (hi : i < a.length) (hl : o.length = a.length) : rd o i = rd a i := by
  rw [rd_lt o i (by omega), rd_lt a i hi]
  have h1 : (o.drop i)[0]? = (a.drop i)[0]? := by rw [h]
  rw [List.getElem?_drop, List.getElem?_drop, Nat.add_zero, List.getElem?_eq_getElem (by omega), List.getElem?_eq_getElem hi] at h1
  exact Option.some.inj h1
theorem drop_tail (a o : List Int) (i : Nat) (h : o.drop i = a.drop i) : o.drop (i + 1) = a.drop (i + 1) := by
  rw [← List.drop_drop, ← List.drop_drop, h]
end Go.Proofs.Ytfmobogdnlmdbaa.P
end
section
namespace Go.Proofs.Ytfmobogdnlmdbaa.P
open Go.RowKit Go.Proofs.YtfmobogdnlmdbaaW.PrintWords Go.Proofs.YtfmobogdnlmdbaaW.PrintLast Go.Proofs.YtfmobogdnlmdbaaW.PrintMore
set_option linter.unusedVariables false
theorem getLast_snoc (l : List Int) (x : Int) (h : l ++ [x] ≠ []) : (l ++ [x]).getLast h = x := by simp
theorem drop_set_self (l : List Int) (i : Nat) (v : Int) (h : i < l.length) : (l.set i v).drop i = v :: l.drop (i + 1) := by
  rw [List.drop_eq_getElem_cons (by simpa using h), List.getElem_set_self, drop_set_ge]
theorem drop_rd (l : List Int) (i : Nat) (h : i < l.length) : l.drop i = rd l i :: l.drop (i + 1) := by
  rw [rd_lt l i h]
  exact List.drop_eq_getElem_cons h
theorem alg_split {t r va q rr d R K : Int} (h : t * K + r = va) (h2 : q * K + rr = r * R + d) : (q + R * t) * K + rr = d + R * va := by grind
theorem r_Split_ev {a : List Int} (hn : a.length < 68719476736) (ha : Dg RR a) {K : Int} (hK : 1 ≤ K ∧ K ≤ 65536) (d : Nat) : ∀ (i : Nat) (o : List Int) (r : Int), i = d → i ≤ a.length → o.length = a.length → Dg RR (o.drop i) → 0 ≤ r → r < K → vl RR (o.drop i) * K + r = vl RR (a.drop i) →
    ∃ q z, Ev (fun k => isochroneref01_Split.l0 k a K o r ((i : Int) - 1)) (q, z) ∧ (∃ m, Can RR q m ∧ m * K + z = vl RR a) ∧ 0 ≤ z ∧ z < K ∧ q.length ≤ a.length := by
  induction d with
  | zero =>
    rintro i o r rfl h1 h2 h3 h4 h5 h6
    rw [List.drop_zero] at h3 h6
    rw [List.drop_zero] at h6
    obtain ⟨q, h7, h8, h9⟩ := r_trim_sp (l := o) (by omega) h3
    refine ⟨q, r, ?_, ⟨_, h8, h6⟩, h4, h5, by omega⟩
    refine Ev.step (fun k => by rw [isochroneref01_Split.l0]) ?_
    exact evn (by omega) (Ev.bind h7 (evs _))
  | succ d ih =>
    rintro i o r rfl h1 h2 h3 h4 h5 h6
    have e1 : (((d + 1 : Nat) : Int) - 1) = (d : Int) := by omega
    have hx := dg_rd ha (d : Int) (by omega) (by omega)
    rw [RR_eq] at hx
    have hv0 : 0 ≤ r * 10000 + rd a d := by omega
    have hq0 : 0 ≤ (r * 10000 + rd a d) / K := Int.ediv_nonneg hv0 (by omega)
    have hq1 : (r * 10000 + rd a d) / K < 10000 := by
      refine Int.ediv_lt_of_lt_mul (by omega) ?_
      have : (r + 1) * 10000 ≤ K * 10000 := Int.mul_le_mul_of_nonneg_right (by omega) (by omega)
      omega
    have hm0 := Int.emod_nonneg (r * 10000 + rd a d) (show K ≠ 0 by omega)
    have hm1 := Int.emod_lt_of_pos (r * 10000 + rd a d) (show 0 < K by omega)
    have hdv : (r * 10000 + rd a d) / K * K + (r * 10000 + rd a d) % K = r * RR + rd a d := by rw [RR_eq]; exact Int.ediv_mul_add_emod _ _
    obtain ⟨q, z, h7, h8⟩ := ih d (o.set d ((r * 10000 + rd a d) / K)) ((r * 10000 + rd a d) % K) rfl (by omega) (by simpa using h2)
      (by rw [drop_set_self _ _ _ (by omega)]; exact Dg.mk hq0 (by rw [RR_eq]; exact hq1) h3) hm0 hm1
      (by rw [drop_set_self _ _ _ (by omega), drop_rd a d (by omega), vl, vl]; exact alg_split h6 hdv)
    refine ⟨q, z, ?_, h8⟩
    refine Ev.step (fun k => by rw [isochroneref01_Split.l0]) ?_
    rw [e1, w64 (x := r * 10000) (by omega) (by omega), w64 (x := r * 10000 + rd a d) (by omega) (by omega), tdiv_nn hv0, tmod_nn hv0, w64 (x := (r * 10000 + rd a d) / K) (by omega) (by omega), w64 (x := (d : Int) - 1) (by omega) (by omega), Int.toNat_natCast]
    exact evp (by omega) (evp (by omega) (evp (by omega) (evn (by omega) (evp (by omega) h7))))
theorem r_Split_sp {a : List Int} {n K : Int} (hn : a.length < 68719476736) (ha : Can RR a n) (hK : 1 ≤ K ∧ K ≤ 65536) : ∃ q, Ev (fun k => isochroneref01_Split.f k a K) (q, n % K) ∧ Can RR q (n / K) ∧ q.length ≤ a.length := by
  obtain ⟨q, z, h1, ⟨m, h2, h3⟩, h4, h5, h6⟩ := r_Split_ev hn ha.1 hK a.length a.length (List.replicate a.length 0) 0 rfl (Nat.le_refl _) (by simp) (by rw [List.drop_of_length_le (by simp)]; exact Dg.nil _) (by omega) (by omega) (by rw [List.drop_of_length_le (by simp), List.drop_of_length_le (by simp)]; simp [vl])
  rw [ha.2.2] at h3
  have e1 : n % K = z := by rw [← h3, Int.add_comm, Int.add_mul_emod_self_right, Int.emod_eq_of_lt h4 h5]
  have e2 : n / K = m := by
    have h7 := Int.ediv_mul_add_emod n K
    rw [e1] at h7
    exact Int.eq_of_mul_eq_mul_right (a := K) (by omega) (by omega)
  rw [e1, e2]
  refine ⟨q, ?_, h2, h6⟩
  unfold isochroneref01_Split.f
  rw [Int.toNat_natCast, w64 (by omega) (by omega)]
  exact evp (by omega) (evp (by omega) h1)
abbrev HH : Int := 65536
theorem HH_eq : HH = 65536 := rfl
theorem vl2 (h : List Int) (i : Nat) (hi : i + 1 < h.length) : vl HH (h.drop i) = rd h i + 65536 * rd h ((i + 1 : Nat) : Int) + WW * vl HH (h.drop (i + 2)) := by
  rw [drop_rd h i (by omega), vl, drop_rd h (i + 1) hi, vl, WW_eq, HH_eq, show i + 1 + 1 = i + 2 from rfl]
  omega
theorem vl1 (h : List Int) (i : Nat) (hi : i + 1 = h.length) : vl HH (h.drop i) = rd h i := by
  rw [drop_rd h i (by omega), vl, List.drop_of_length_le (by omega)]
  simp [vl]
theorem alg_w {vo P x w V W T : Int} (h : vo + P * T = V) (h2 : T = w + W * x) : (vo + w * P) + (W * P) * x = V := by grind
theorem r_Words_out {h : List Int} (hn : h.length < 68719476736) (hd : Dg HH h) (hnm : Nm h) (n : Int) (d : Nat) : ∀ (i : Nat) (o : List Int), h.length - i = d → i = 2 * o.length → Dg WW o → (h.length ≤ i → Nm o) → vl WW o + WW ^ o.length * vl HH (h.drop i) = n →
    ∃ r, Ev (fun k => isochroneref01_Words.l1 k h o (i : Int)) r ∧ Can WW r n := by
  induction d using Nat.strongRecOn with
  | _ d ih =>
    intro i o h1 h2 h3 h4 h5
    by_cases hi : i < h.length
    · have hx := dg_rd hd (i : Int) (by omega) (by omega)
      rw [HH_eq] at hx
      have ei2 : (i : Int) + 2 = ((i + 2 : Nat) : Int) := by omega
      by_cases hi1 : i + 1 < h.length
      · have hy := dg_rd hd ((i + 1 : Nat) : Int) (by omega) (by omega)
        rw [HH_eq] at hy
        have hl : i + 2 = h.length → rd h ((i + 1 : Nat) : Int) ≠ 0 := by
          intro he
          have h6 := hnm.rd (by omega)
          rw [show (h.length : Int) - 1 = ((i + 1 : Nat) : Int) by omega] at h6
          exact h6
        obtain ⟨r, h7, h8⟩ := ih (h.length - (i + 2)) (by omega) (i + 2) (o ++ [rd h i + 65536 * rd h ((i + 1 : Nat) : Int)]) rfl (by simp; omega) (h3.append (Dg.mk (by omega) (by rw [WW_eq]; omega) (Dg.nil _)))
          (by
            intro hle hne
            rw [getLast_snoc]
            have := hl (by omega)
            omega)
          (by rw [vl_snoc, List.length_append, List.length_singleton, Int.pow_succ, Int.mul_comm (WW ^ o.length) WW]; exact alg_w h5 (vl2 h i hi1))
        refine ⟨r, ?_, h8⟩
        refine Ev.step (fun k => by rw [isochroneref01_Words.l1]) ?_
        have ew : (rd h i % 4294967296 + rd h ((i + 1 : Nat) : Int) % 4294967296 * 65536 % 4294967296) % 4294967296 = rd h i + 65536 * rd h ((i + 1 : Nat) : Int) := by omega
        rw [wsucc (i := i) (by omega), ew, ei2, w64 (x := ((i + 2 : Nat) : Int)) (by omega) (by omega)]
        exact evp (by omega) (evp (by omega) (evp (by omega) (evp (by omega) (evp (by omega) h7))))
      · have hl : rd h (i : Int) ≠ 0 := by
          have h6 := hnm.rd (by omega)
          rw [show (h.length : Int) - 1 = (i : Int) by omega] at h6
          exact h6
        obtain ⟨r, h7, h8⟩ := ih (h.length - (i + 2)) (by omega) (i + 2) (o ++ [rd h i]) rfl (by simp; omega) (h3.append (Dg.mk (by omega) (by rw [WW_eq]; omega) (Dg.nil _)))
          (by
            intro hle hne
            rw [getLast_snoc]
            exact hl)
          (by
            rw [vl_snoc, List.length_append, List.length_singleton, Int.pow_succ, Int.mul_comm (WW ^ o.length) WW]
            refine alg_w (T := vl HH (h.drop i)) h5 ?_
            rw [vl1 h i (by omega), List.drop_of_length_le (by omega)]
            simp [vl])
        refine ⟨r, ?_, h8⟩
        refine Ev.step (fun k => by rw [isochroneref01_Words.l1]) ?_
        have ew : rd h i % 4294967296 = rd h i := by omega
        rw [wsucc (i := i) (by omega), ew, ei2, w64 (x := ((i + 2 : Nat) : Int)) (by omega) (by omega)]
        exact evp (by omega) (evp (by omega) (evn (by omega) (evp (by omega) h7)))
    · rw [List.drop_of_length_le (by omega)] at h5
      refine ⟨o, ?_, h3, h4 (by omega), by simpa [vl] using h5⟩
      refine Ev.step (fun k => by rw [isochroneref01_Words.l1]) ?_
      exact evn (by omega) (evs _)
theorem alg_h {vh P m q r K n : Int} (h : vh + m * P = n) (h2 : q * K + r = m) : (vh + r * P) + q * (K * P) = n := by grind
theorem r_Words_in (n : Int) (c : Nat) : ∀ (a h : List Int) (m : Int), m.toNat = c → Can RR a m → a.length + h.length < 17179869184 → h.length + 4 * a.length < 17179869184 → Dg HH h → (m = 0 → Nm h) → vl HH h + m * HH ^ h.length = n → (∀ a' : List Int, a'.length ≤ a.length → True) →
    ∃ r, Ev (fun k => isochroneref01_Words.l0 k a h) r ∧ Can WW r n := by
  induction c using Nat.strongRecOn with
  | _ c ih =>
    intro a h m hm ha hl hl2 hd hnm hv _
    have hm0 := ha.nonneg RR_pos
    by_cases hz : m = 0
    · have e : a = [] := (ha.nil_iff RR_pos).2 hz
      subst hz
      subst e
      rw [Int.zero_mul, Int.add_zero] at hv
      obtain ⟨r, h1, h2⟩ := r_Words_out (by omega) hd (hnm rfl) n h.length 0 [] (by omega) rfl (Dg.nil _) (fun _ => Nm.nil) (by simpa [vl] using hv)
      refine ⟨r, ?_, h2⟩
      refine Ev.step (fun k => by rw [isochroneref01_Words.l0]) ?_
      exact evn (by simp) h1
    · have hal : a.length ≠ 0 := fun h0 => hz ((ha.len_iff RR_pos).1 h0)
      obtain ⟨q, h1, h2, h3⟩ := r_Split_sp (K := 65536) (by omega) ha (by omega)
      have hq : q.length + 1 ≤ a.length := by
        have h4 := ha.lt RR_pos
        have h5 : m / 65536 < RR ^ (a.length - 1) := by
          have h6 : RR ^ a.length = RR ^ (a.length - 1) * RR := by
            conv => lhs; rw [show a.length = a.length - 1 + 1 by omega, Int.pow_succ]
          rw [h6, RR_eq] at h4
          rw [RR_eq]
          omega
        have := h2.len_le RR_one h5
        omega
      obtain ⟨r, h7, h8⟩ := ih (m / 65536).toNat (by omega) q (h ++ [m % 65536]) (m / 65536) rfl h2 (by simp; omega) (by simp; omega) (hd.append (Dg.mk (by omega) (by rw [HH_eq]; omega) (Dg.nil _)))
        (by
          intro hz2 hne
          rw [getLast_snoc]
          omega)
        (by rw [vl_snoc, List.length_append, List.length_singleton, Int.pow_succ, Int.mul_comm (HH ^ h.length) HH]; exact alg_h hv (by rw [HH_eq]; omega)) (fun _ _ => trivial)
      refine ⟨r, ?_, h8⟩
      refine Ev.step (fun k => by rw [isochroneref01_Words.l0]) ?_
      exact evp (by omega) (Ev.bind h1 (evp (by omega) h7))
theorem r_Words_sp {a : List Int} {n : Int} (hn : a.length < 1073741824) (ha : Can RR a n) : ∃ r, Ev (fun k => isochroneref01_Words.f k a) r ∧ Can WW r n := by
  obtain ⟨r, h1, h2⟩ := r_Words_in n n.toNat a [] n rfl ha (by simp; omega) (by simp; omega) (Dg.nil _) (fun _ => Nm.nil) (by simp [vl]) (fun _ _ => trivial)
  exact ⟨r, Ev.congr (fun k => by rw [isochroneref01_Words.f]) h1, h2⟩
theorem eq_ev {a b : List Int} (hl : a.length = b.length) (hn : a.length < 4611686018427387904) (d : Nat) : ∀ i : Nat, a.length - i = d → i ≤ a.length → a.take i = b.take i → ∃ r, Ev (fun k => slices_Equal_uint32_uint32.l0 k a b (a.length : Int) (i : Int)) r ∧ (r = true ↔ a = b) := by
  induction d with
  | zero =>
    intro i h1 h2 h3
    have e : i = a.length := by omega
    subst e
    rw [List.take_length, List.take_of_length_le (by omega)] at h3
    refine ⟨true, ?_, by simp [h3]⟩
    refine Ev.step (fun k => by rw [slices_Equal_uint32_uint32.l0]) ?_
    exact evn (by omega) (evs _)
  | succ d ih =>
    intro i h1 h2 h3
    by_cases he : rd a i = rd b i
    · obtain ⟨r, h4, h5⟩ := ih (i + 1) (by omega) (by omega) (by
        rw [List.take_succ_eq_append_getElem (by omega), List.take_succ_eq_append_getElem (by omega), h3, ← rd_lt a i (by omega), ← rd_lt b i (by omega), he])
      refine ⟨r, ?_, h5⟩
      refine Ev.step (fun k => by rw [slices_Equal_uint32_uint32.l0]) ?_
      rw [wsucc (i := i) (by omega)]
      exact evp (by omega) (evp (by omega) (evp (by omega) (evp (by omega) (evp he h4))))
    · refine ⟨false, ?_, by
        simp only [Bool.false_eq_true, false_iff]
        rintro rfl
        exact he rfl⟩
      refine Ev.step (fun k => by rw [slices_Equal_uint32_uint32.l0]) ?_
      exact evp (by omega) (evp (by omega) (evp (by omega) (evp (by omega) (evn he (evs _)))))
theorem eq_sp (a b : List Int) (hn : a.length < 4611686018427387904) : ∃ r, Ev (fun k => slices_Equal_uint32_uint32.f k a b) r ∧ (r = true ↔ a = b) := by
  unfold slices_Equal_uint32_uint32.f
  by_cases hl : a.length = b.length
  · obtain ⟨r, h1, h2⟩ := eq_ev hl hn a.length 0 (by omega) (by omega) (by simp)
    exact ⟨r, evp (by omega) h1, h2⟩
  · refine ⟨false, evn (by omega) (evs _), ?_⟩
    simp only [Bool.false_eq_true, false_iff]
    rintro rfl
    exact hl rfl
theorem is_sp {l w : List Int} {n : Int} (hn : w.length < 1073741824) (hl : l.length < 4611686018427387904) (h1 : Can WW l n) (h2 : Can RR w n) : Ev (fun k => isochronelaw01_is.f k l w) true := by
  obtain ⟨r, h3, h4⟩ := r_Words_sp hn h2
  obtain ⟨e, h5, h6⟩ := eq_sp l r hl
  have : e = true := h6.2 (can_uniq WW_pos h1 h4)
  subst this
  unfold isochronelaw01_is.f
  exact Ev.bind h3 (Ev.bind h5 (evs _))
theorem valid_sp (l : List Int) (hl : l.length < 4611686018427387904) : ∃ b, isochroneref01_Valid.f l = some b ∧ nat_Valid.f l = some b ∧ (b = true ↔ l.length ≤ 4096 ∧ Nm l) := by
  unfold isochroneref01_Valid.f nat_Valid.f
  by_cases h1 : l.length ≤ 4096
  · by_cases h0 : l.length = 0
    · refine ⟨true, by rw [if_pos (by omega), if_pos (by omega)], by rw [if_pos (by omega), if_pos (by omega)], ?_⟩
      have : l = [] := List.eq_nil_of_length_eq_zero h0
      subst this
      simp
      exact Nm.nil
    · have e : wrap64 ((l.length : Int) - 1) = (l.length : Int) - 1 := w64 (by omega) (by omega)
      rw [e, if_pos (by omega), if_neg (by omega), if_pos (by omega), if_pos (by omega)]
      refine ⟨_, rfl, rfl, ?_⟩
      simp only [bne_iff_ne]
      constructor
      · intro h
        exact ⟨h1, nm_of_rd (fun _ => h)⟩
      · intro h
        exact h.2.rd (by omega)
  · refine ⟨false, by rw [if_neg (by omega)], by rw [if_neg (by omega)], ?_⟩
    simp
    omega
theorem awake_ok : Ev (fun k => isochronelaw01_awake.f k) true := Ev.of (fun k => isochronelaw01_awake.mono k) (k := 60) (by decide +kernel)
end Go.Proofs.Ytfmobogdnlmdbaa.P
end
section
namespace Go.Proofs.Ytfmobogdnlmdbaa.P
open Go.RowKit Go.Proofs.YtfmobogdnlmdbaaW.PrintWords Go.Proofs.YtfmobogdnlmdbaaW.PrintLast Go.Proofs.YtfmobogdnlmdbaaW.PrintMore
set_option linter.unusedVariables false
theorem or_comm' (k : IntKind) (a b : Int) : Go.bits .or k a b = Go.bits .or k b a := by
  simp only [Go.bits]
  rw [BitVec.or_comm]
theorem or64 {h x : Int} (hh : 0 ≤ h ∧ h < 4294967296) (hx : 0 ≤ x ∧ x < 4294967296) : Go.bits .or .u64 (h * 4294967296) x = h * 4294967296 + x :=
  bits_join .u64 64 (by decide) (fun n h0 h1 => by rw [IntKind.wrap_u64]; omega) 32 _ _ (by omega) (by omega) (by omega) hx.1 (by omega) (by omega)
theorem or64' {h x : Int} (hh : 0 ≤ h ∧ h < 4294967296) (hx : 0 ≤ x ∧ x < 4294967296) : Go.bits .or .u64 x (h * 4294967296) = h * 4294967296 + x := by
  rw [or_comm', or64 hh hx]
theorem alg_dw {t r va q rr d R K : Int} (h : t * K + r = va) (h2 : q * K + rr = r * R + d) : (q + R * t) * K + rr = d + R * va := by grind
theorem mag_divWord_ev {a : List Int} (hn : a.length < 68719476736) (ha : Dg WW a) {K : Int} (hK : 1 ≤ K ∧ K < 4294967296) (d : Nat) : ∀ (i : Nat) (o : List Int) (r : Int), i = d → i ≤ a.length → o.length = a.length → Dg WW (o.drop i) → 0 ≤ r → r < K → vl WW (o.drop i) * K + r = vl WW (a.drop i) →
    ∃ q z, Ev (fun k => mag_divWord.l0 k a K o r ((i : Int) - 1)) (q, z) ∧ (∃ m, Can WW q m ∧ m * K + z = vl WW a) ∧ 0 ≤ z ∧ z < K ∧ q.length ≤ a.length := by
  induction d with
  | zero =>
    rintro i o r rfl h1 h2 h3 h4 h5 h6
    rw [List.drop_zero] at h3 h6
    rw [List.drop_zero] at h6
    obtain ⟨q, h7, h8, h9⟩ := mag_Trim_sp (l := o) (by omega) h3
    have er : r % 4294967296 = r := by omega
    refine ⟨q, r, ?_, ⟨_, h8, h6⟩, h4, h5, by omega⟩
    refine Ev.step (fun k => by rw [mag_divWord.l0]) ?_
    rw [er]
    exact evn (by omega) (Ev.bind h7 (evs _))
  | succ d ih =>
    rintro i o r rfl h1 h2 h3 h4 h5 h6
    have e1 : (((d + 1 : Nat) : Int) - 1) = (d : Int) := by omega
    have hx := dg_rd ha (d : Int) (by omega) (by omega)
    rw [WW_eq] at hx
    have hv0 : 0 ≤ r * 4294967296 + rd a d := by omega
    have hq0 : 0 ≤ (r * 4294967296 + rd a d) / K := Int.ediv_nonneg hv0 (by omega)
    have hq1 : (r * 4294967296 + rd a d) / K < 4294967296 := by
      refine Int.ediv_lt_of_lt_mul (by omega) ?_
      have : (r + 1) * 4294967296 ≤ K * 4294967296 := Int.mul_le_mul_of_nonneg_right (by omega) (by omega)
      omega
    have hm0 := Int.emod_nonneg (r * 4294967296 + rd a d) (show K ≠ 0 by omega)
    have hm1 := Int.emod_lt_of_pos (r * 4294967296 + rd a d) (show 0 < K by omega)
    have hdv : (r * 4294967296 + rd a d) / K * K + (r * 4294967296 + rd a d) % K = r * WW + rd a d := by rw [WW_eq]; exact Int.ediv_mul_add_emod _ _
    obtain ⟨q, z, h7, h8⟩ := ih d (o.set d ((r * 4294967296 + rd a d) / K)) ((r * 4294967296 + rd a d) % K) rfl (by omega) (by simpa using h2)
      (by rw [drop_set_self _ _ _ (by omega)]; exact Dg.mk hq0 (by rw [WW_eq]; exact hq1) h3) hm0 hm1
      (by rw [drop_set_self _ _ _ (by omega), drop_rd a d (by omega), vl, vl]; exact alg_dw h6 hdv)
    refine ⟨q, z, ?_, h8⟩
    refine Ev.step (fun k => by rw [mag_divWord.l0]) ?_
    rw [e1, u64 (x := r * 4294967296) (by omega) (by omega), u64 (x := rd a d) (by omega) (by omega), u64 (x := K) (by omega) (by omega), or64 ⟨h4, by omega⟩ hx, tdiv_nn hv0, tmod_nn hv0, u64 (x := (r * 4294967296 + rd a d) / K) (by omega) (by omega), w64 (x := (d : Int) - 1) (by omega) (by omega), Int.toNat_natCast, Int.emod_eq_of_lt hq0 hq1]
    exact evp (by omega) (evp (by omega) (evp (by omega) (evn (by omega) (evp (by omega) h7))))
theorem mag_divWord_sp {a : List Int} {n K : Int} (hn : a.length < 68719476736) (ha : Can WW a n) (hK : 1 ≤ K ∧ K < 4294967296) : ∃ q, Ev (fun k => mag_divWord.f k a K) (q, n % K) ∧ Can WW q (n / K) ∧ q.length ≤ a.length := by
  obtain ⟨q, z, h1, ⟨m, h2, h3⟩, h4, h5, h6⟩ := mag_divWord_ev hn ha.1 hK a.length a.length (List.replicate a.length 0) 0 rfl (Nat.le_refl _) (by simp) (by rw [List.drop_eq_nil_of_le (by simp)]; exact Dg.nil _) (by omega) (by omega) (by rw [List.drop_eq_nil_of_le (by simp), List.drop_length]; simp [vl])
  rw [ha.2.2] at h3
  have e1 : n / K = m := by
    rw [← h3, Int.add_comm, Int.add_mul_ediv_right _ _ (by omega), Int.ediv_eq_zero_of_lt h4 h5]; omega
  have e2 : n % K = z := by
    rw [← h3, Int.add_comm, Int.add_mul_emod_self_right, Int.emod_eq_of_lt h4 h5]
  refine ⟨q, ?_, by rw [e1]; exact h2, h6⟩
  unfold mag_divWord.f
  rw [e2, w64 (x := (a.length : Int) - 1) (by omega) (by omega), Int.toNat_natCast]
  exact evp (by omega) (evp (by omega) h1)
theorem tab_len : ∀ i : Fin 256, ∃ L : Fin 9, bt (⟨#[0, 1, 2, 2, 3, 3, 3, 3, 4, 4, 4, 4, 4, 4, 4, 4, 5, 5, 5, 5, 5, 5, 5, 5, 5, 5, 5, 5, 5, 5, 5, 5, 6, 6, 6, 6, 6, 6, 6, 6, 6, 6, 6, 6, 6, 6, 6, 6, 6, 6, 6, 6, 6, 6, 6, 6, 6, 6, 6, 6, 6, 6, 6, 6, 7, 7, 7, 7, 7, 7, 7, 7, 7, 7, 7, 7, 7, 7, 7, 7, 7, 7, 7, 7, 7, 7, 7, 7, 7, 7, 7, 7, 7, 7, 7, 7, 7, 7, 7, 7, 7, 7, 7, 7, 7, 7, 7, 7, 7, 7, 7, 7, 7, 7, 7, 7, 7, 7, 7, 7, 7, 7, 7, 7, 7, 7, 7, 7, 8, 8, 8, 8, 8, 8, 8, 8, 8, 8, 8, 8, 8, 8, 8, 8, 8, 8, 8, 8, 8, 8, 8, 8, 8, 8, 8, 8, 8, 8, 8, 8, 8, 8, 8, 8, 8, 8, 8, 8, 8, 8, 8, 8, 8, 8, 8, 8, 8, 8, 8, 8, 8, 8, 8, 8, 8, 8, 8, 8, 8, 8, 8, 8, 8, 8, 8, 8, 8, 8, 8, 8, 8, 8, 8, 8, 8, 8, 8, 8, 8, 8, 8, 8, 8, 8, 8, 8, 8, 8, 8, 8, 8, 8, 8, 8, 8, 8, 8, 8, 8, 8, 8, 8, 8, 8, 8, 8, 8, 8, 8, 8, 8, 8, 8, 8, 8, 8, 8, 8, 8, 8, 8, 8, 8, 8, 8, 8]⟩ : ByteArray) ((i.val : Nat) : Int) = (L.val : Int) ∧ i.val < 2 ^ L.val ∧ (i.val ≠ 0 → 2 ^ (L.val - 1) ≤ i.val ∧ 1 ≤ L.val) := by decide +kernel
theorem tab_len' {x : Int} (h0 : 0 ≤ x) (h1 : x < 256) : ∃ L : Nat, bt (⟨#[0, 1, 2, 2, 3, 3, 3, 3, 4, 4, 4, 4, 4, 4, 4, 4, 5, 5, 5, 5, 5, 5, 5, 5, 5, 5, 5, 5, 5, 5, 5, 5, 6, 6, 6, 6, 6, 6, 6, 6, 6, 6, 6, 6, 6, 6, 6, 6, 6, 6, 6, 6, 6, 6, 6, 6, 6, 6, 6, 6, 6, 6, 6, 6, 7, 7, 7, 7, 7, 7, 7, 7, 7, 7, 7, 7, 7, 7, 7, 7, 7, 7, 7, 7, 7, 7, 7, 7, 7, 7, 7, 7, 7, 7, 7, 7, 7, 7, 7, 7, 7, 7, 7, 7, 7, 7, 7, 7, 7, 7, 7, 7, 7, 7, 7, 7, 7, 7, 7, 7, 7, 7, 7, 7, 7, 7, 7, 7, 8, 8, 8, 8, 8, 8, 8, 8, 8, 8, 8, 8, 8, 8, 8, 8, 8, 8, 8, 8, 8, 8, 8, 8, 8, 8, 8, 8, 8, 8, 8, 8, 8, 8, 8, 8, 8, 8, 8, 8, 8, 8, 8, 8, 8, 8, 8, 8, 8, 8, 8, 8, 8, 8, 8, 8, 8, 8, 8, 8, 8, 8, 8, 8, 8, 8, 8, 8, 8, 8, 8, 8, 8, 8, 8, 8, 8, 8, 8, 8, 8, 8, 8, 8, 8, 8, 8, 8, 8, 8, 8, 8, 8, 8, 8, 8, 8, 8, 8, 8, 8, 8, 8, 8, 8, 8, 8, 8, 8, 8, 8, 8, 8, 8, 8, 8, 8, 8, 8, 8, 8, 8, 8, 8, 8, 8, 8, 8]⟩ : ByteArray) x = (L : Int) ∧ L ≤ 8 ∧ x < 2 ^ L ∧ (x ≠ 0 → 2 ^ (L - 1) ≤ x ∧ 1 ≤ L) := by
  obtain ⟨n, rfl⟩ := Int.eq_ofNat_of_zero_le h0
  obtain ⟨L, h2, h3, h4⟩ := tab_len ⟨n, by omega⟩
  refine ⟨L.val, h2, by omega, by exact_mod_cast h3, fun h => ?_⟩
  obtain ⟨h5, h6⟩ := h4 (show n ≠ 0 by omega)
  exact ⟨by exact_mod_cast h5, h6⟩
theorem sh_pow {x y : Int} {L k : Nat} (h0 : 0 ≤ x) (e : y = x / 2 ^ k) (h1 : y < 2 ^ L) (h2 : 2 ^ (L - 1) ≤ y) (h3 : 1 ≤ L) : x < 2 ^ (k + L) ∧ 2 ^ (k + L - 1) ≤ x := by
  have hp : (0 : Int) < 2 ^ k := Int.pow_pos (by decide)
  have d1 := Int.mul_ediv_add_emod x (2 ^ k)
  have d2 := Int.emod_nonneg x (show (2 : Int) ^ k ≠ 0 by omega)
  have d3 := Int.emod_lt_of_pos x hp
  rw [← e] at d1
  have e2 : k + L - 1 = k + (L - 1) := by omega
  rw [e2, Int.pow_add, Int.pow_add]
  have m1 : (2 : Int) ^ k * (y + 1) ≤ 2 ^ k * 2 ^ L := Int.mul_le_mul_of_nonneg_left (by omega) (by omega)
  have m2 : (2 : Int) ^ k * 2 ^ (L - 1) ≤ 2 ^ k * y := Int.mul_le_mul_of_nonneg_left h2 (by omega)
  rw [Int.mul_add] at m1
  omega
theorem len32_sp {x : Int} (h0 : 0 ≤ x) (h1 : x < 4294967296) : ∃ L : Nat, bits_Len32.f x = some (L : Int) ∧ L ≤ 32 ∧ x < 2 ^ L ∧ (x ≠ 0 → 2 ^ (L - 1) ≤ x ∧ 1 ≤ L) := by
  unfold bits_Len32.f
  by_cases c1 : x ≥ 65536
  · by_cases c2 : x / 65536 ≥ 256
    · have e : x / 65536 / 256 % 256 = x / 2 ^ 24 := by omega
      obtain ⟨L, t1, t2, t3, t4⟩ := tab_len' (x := x / 2 ^ 24) (by omega) (by omega)
      obtain ⟨t5, t6⟩ := t4 (by omega)
      obtain ⟨t7, t8⟩ := sh_pow h0 rfl t3 t5 t6
      refine ⟨24 + L, ?_, by omega, t7, fun _ => ⟨t8, by omega⟩⟩
      rw [if_pos c1, if_pos c2, e, if_pos (by omega), if_pos (by omega), t1, w64 (x := (L : Int)) (by omega) (by omega), w64 (by omega) (by omega)]
      exact congrArg some (by omega)
    · have e : x / 65536 % 256 = x / 2 ^ 16 := by omega
      obtain ⟨L, t1, t2, t3, t4⟩ := tab_len' (x := x / 2 ^ 16) (by omega) (by omega)
      obtain ⟨t5, t6⟩ := t4 (by omega)
      obtain ⟨t7, t8⟩ := sh_pow h0 rfl t3 t5 t6
      refine ⟨16 + L, ?_, by omega, t7, fun _ => ⟨t8, by omega⟩⟩
      rw [if_pos c1, if_neg c2, e, if_pos (by omega), if_pos (by omega), t1, w64 (x := (L : Int)) (by omega) (by omega), w64 (by omega) (by omega)]
      exact congrArg some (by omega)
  · by_cases c2 : x ≥ 256
    · have e : x / 256 % 256 = x / 2 ^ 8 := by omega
      obtain ⟨L, t1, t2, t3, t4⟩ := tab_len' (x := x / 2 ^ 8) (by omega) (by omega)
      obtain ⟨t5, t6⟩ := t4 (by omega)
      obtain ⟨t7, t8⟩ := sh_pow h0 rfl t3 t5 t6
      refine ⟨8 + L, ?_, by omega, t7, fun _ => ⟨t8, by omega⟩⟩
      rw [if_neg c1, if_pos c2, e, if_pos (by omega), if_pos (by omega), t1, w64 (x := (L : Int)) (by omega) (by omega), w64 (by omega) (by omega)]
      exact congrArg some (by omega)
    · have e : x % 256 = x := by omega
      obtain ⟨L, t1, t2, t3, t4⟩ := tab_len' (x := x) (by omega) (by omega)
      refine ⟨L, ?_, by omega, t3, t4⟩
      rw [if_neg c1, if_neg c2, e, if_pos (by omega), if_pos (by omega), t1, w64 (x := (L : Int)) (by omega) (by omega), w64 (by omega) (by omega)]
      exact congrArg some (by omega)
theorem lz32_sp {x : Int} (h0 : 0 ≤ x) (h1 : x < 4294967296) : ∃ L : Nat, bits_LeadingZeros32.f x = some ((32 - L : Nat) : Int) ∧ L ≤ 32 ∧ x < 2 ^ L ∧ (x ≠ 0 → 2 ^ (L - 1) ≤ x ∧ 1 ≤ L) := by
  obtain ⟨L, t1, t2, t3⟩ := len32_sp h0 h1
  refine ⟨L, ?_, t2, t3⟩
  unfold bits_LeadingZeros32.f
  rw [t1, Option.bind_some, w64 (by omega) (by omega)]
  exact congrArg some (by omega)
theorem WW_pow (w : Nat) : WW ^ w = 2 ^ (32 * w) := by rw [Int.pow_mul]; rfl
theorem pow_split (s : Nat) : (2 : Int) ^ s = WW ^ (s / 32) * 2 ^ (s % 32) := by
  rw [WW_pow, ← Int.pow_add]; congr 1; omega
theorem last_vl {a : List Int} (h : 0 < a.length) : vl WW a = vl WW (a.take (a.length - 1)) + rd a ((a.length : Int) - 1) * WW ^ (a.length - 1) := by
  have e := vl_take WW a (a.length - 1) (by omega)
  rw [Nat.sub_add_cancel h, List.take_length] at e
  rw [e]
  congr 2
  congr 1
  omega
theorem shl_p {x : Int} {p : Nat} (hp : p < 32) (hx : 0 ≤ x ∧ x < 4294967296) : shl .u64 (IntKind.u64.wrap x) (p : Int) = x * 2 ^ p ∧ 0 ≤ x * 2 ^ p ∧ x * 2 ^ p < 4294967296 * 2 ^ p ∧ (2 : Int) ^ p ≤ 2147483648 ∧ (1 : Int) ≤ 2 ^ p := by
  have h1 : (1 : Int) ≤ 2 ^ p := by have : (0 : Int) < 2 ^ p := Int.pow_pos (by decide); omega
  have h2 : (2 : Int) ^ p ≤ 2 ^ 31 := by
    have : 2 ^ p ≤ 2 ^ 31 := Nat.pow_le_pow_right (by decide) (by omega)
    exact_mod_cast this
  have h3 : x * 2 ^ p < 4294967296 * 2 ^ p := Int.mul_lt_mul_of_pos_right hx.2 (by omega)
  have h4 : 0 ≤ x * 2 ^ p := Int.mul_nonneg hx.1 (by omega)
  refine ⟨?_, h4, h3, by omega, h1⟩
  have hm : min p IntKind.u64.bits = p := by
    have : IntKind.u64.bits = 64 := rfl
    omega
  unfold shl
  rw [Int.toNat_natCast, hm, u64 (x := x) (by omega) (by omega), u64 h4 (by omega)]
theorem alg_shl {vo P old lo hi va x M W T Q : Int} (h : vo + old * P = va * M * T) (hy : lo + W * hi = x * M) (hP : P = T * Q) : (vo + (old + lo) * P) + hi * (W * P) = (va + x * Q) * M * T := by grind
theorem or_shl {x old : Int} {p : Nat} (hp : p < 32) (hx : 0 ≤ x ∧ x < 4294967296) (ho : 0 ≤ old ∧ old < 2 ^ p) : Go.bits .or .u32 old (x * 2 ^ p % 4294967296) = old + x * 2 ^ p % 4294967296 := by
  obtain ⟨_, h1, h2, h3, h4⟩ := shl_p hp hx
  have hd : x * 2 ^ p % 4294967296 % 2 ^ p = 0 := by
    have hdv : (2 : Int) ^ p ∣ 4294967296 := by
      have : (4294967296 : Int) = 2 ^ p * 2 ^ (32 - p) := by rw [← Int.pow_add, show p + (32 - p) = 32 by omega]; rfl
      rw [this]; exact Int.dvd_mul_right _ _
    rw [Int.emod_emod_of_dvd _ hdv, Int.mul_emod_left]
  rw [or_comm', bits_join .u32 32 (by decide) (fun n h0 h1 => by rw [IntKind.wrap_u32]; omega) p _ _ (by omega) hd (by omega) ho.1 ho.2 (by omega)]
  omega
theorem or_shl_lt {x old : Int} {p : Nat} (hp : p < 32) (hx : 0 ≤ x ∧ x < 4294967296) (ho : 0 ≤ old ∧ old < 2 ^ p) : old + x * 2 ^ p % 4294967296 < 4294967296 := by
  have h := (bits_within .or .u32 old (x * 2 ^ p % 4294967296)).2
  rw [or_shl hp hx ho] at h
  have e : IntKind.u32.max = 4294967295 := rfl
  rw [e] at h
  exact Int.lt_of_le_of_lt h (by decide)
theorem mag_Shl_ev {a : List Int} {w p : Nat} (hn : a.length + w < 68719476736) (hp : p < 32) (ha : Dg WW a) (d : Nat) : ∀ (i : Nat) (o : List Int), a.length - i = d → i ≤ a.length → o.length = a.length + w + 1 → Dg WW o → vl WW (o.take (i + w + 1)) = vl WW (a.take i) * 2 ^ p * WW ^ w → rd o ((i + w : Nat) : Int) < 2 ^ p →
    ∃ r, Ev (fun k => mag_Shl.l0 k (w : Int) (p : Int) o a (a.length : Int) (i : Int)) r ∧ Can WW r (vl WW a * (WW ^ w * 2 ^ p)) ∧ r.length ≤ a.length + w + 1 := by
  induction d with
  | zero =>
    intro i o h1 h2 h3 h4 h5 h6
    have ei : i = a.length := by omega
    subst ei
    rw [← h3, List.take_length, List.take_length] at h5
    obtain ⟨r, r1, r2, r3⟩ := mag_Trim_sp (l := o) (by omega) h4
    rw [h5] at r2
    refine ⟨r, ?_, by rw [Int.mul_comm (WW ^ w), ← Int.mul_assoc]; exact r2, by omega⟩
    refine Ev.step (fun k => by rw [mag_Shl.l0]) ?_
    exact evn (by omega) (Ev.bind r1 (evs _))
  | succ d ih =>
    intro i o h1 h2 h3 h4 h5 h6
    have hx := dg_rd ha (i : Int) (by omega) (by omega)
    have ho := dg_rd h4 ((i + w : Nat) : Int) (by omega) (by omega)
    rw [WW_eq] at hx ho
    obtain ⟨s2, s3, s4, s5⟩ := (shl_p hp hx).2
    have hy1 : rd a (i : Int) * 2 ^ p % 4294967296 + WW * (rd a (i : Int) * 2 ^ p / 4294967296) = rd a (i : Int) * 2 ^ p := by rw [WW_eq]; exact Int.emod_add_mul_ediv _ _
    have hhi0 : 0 ≤ rd a (i : Int) * 2 ^ p / 4294967296 := by omega
    have hhi1 : rd a (i : Int) * 2 ^ p / 4294967296 < 2 ^ p := Int.ediv_lt_of_lt_mul (by omega) (by omega)
    have hdv := or_shl_lt hp hx ⟨ho.1, h6⟩
    generalize hlo : rd a (i : Int) * 2 ^ p % 4294967296 = lo at *
    generalize hhi : rd a (i : Int) * 2 ^ p / 4294967296 = hi at *
    have hlo0 : 0 ≤ lo := by omega
    have d1 : Dg WW (o.set (i + w) (rd o ((i + w : Nat) : Int) + lo)) := h4.set _ (by omega) (by rw [WW_eq]; omega)
    obtain ⟨r, r1, r2⟩ := ih (i + 1) ((o.set (i + w) (rd o ((i + w : Nat) : Int) + lo)).set (i + w + 1) hi) (by omega) (by omega) (by simpa using h3)
      (d1.set _ hhi0 (by rw [WW_eq]; omega))
      (by
        rw [show i + 1 + w + 1 = i + w + 1 + 1 by omega, vl_set _ _ _ _ (by simp; omega), vl_set _ _ _ _ (by omega), vl_take WW a i (by omega), Int.pow_succ, Int.mul_comm (WW ^ (i + w)) WW]
        rw [vl_take WW o (i + w) (by omega)] at h5
        exact alg_shl h5 hy1 (by rw [Int.pow_add, Int.mul_comm]))
      (by
        rw [show ((i + 1 + w : Nat) : Int) = ((i + w + 1 : Nat) : Int) by omega]
        have := rd_set_eq (o.set (i + w) (rd o ((i + w : Nat) : Int) + lo)) ((i + w + 1 : Nat) : Int) hi (by simp; omega)
        rw [Int.toNat_natCast] at this
        rw [this]
        exact hhi1)
    refine ⟨r, ?_, r2⟩
    refine Ev.step (fun k => by rw [mag_Shl.l0]) ?_
    have e2 : hi % 4294967296 = hi := by omega
    rw [show (i : Int) + (w : Int) = ((i + w : Nat) : Int) by omega, w64 (x := ((i + w : Nat) : Int)) (by omega) (by omega), wsucc (i := i + w) (by omega), wsucc (i := i) (by omega), Int.toNat_natCast, Int.toNat_natCast, (shl_p hp hx).1, hlo, hhi, e2]
    have so := or_shl hp hx ⟨ho.1, h6⟩
    rw [hlo] at so
    rw [so]
    clear so
    exact evp (by omega) (evp (by omega) (evp (by omega) (evp (by omega) (evp (by omega) (evp (by omega) (evp (by omega) (evp (by omega) r1)))))))
theorem mag_Shl_sp {a : List Int} {n : Int} (s : Nat) (hn : a.length + s < 68719476736) (ha : Can WW a n) : ∃ r, Ev (fun k => mag_Shl.f k a (s : Int)) r ∧ Can WW r (n * 2 ^ s) ∧ r.length ≤ a.length + s / 32 + 1 := by
  unfold mag_Shl.f
  by_cases c : a.length = 0
  · refine ⟨[], evp (by omega) (evs _), ?_, by simp⟩
    rw [(ha.len_iff WW_pos).1 c, Int.zero_mul]
    exact Can.zero _
  · obtain ⟨r, r1, r2, r3⟩ := mag_Shl_ev (a := a) (w := s / 32) (p := s % 32) (by omega) (by omega) ha.1 a.length 0 (List.replicate (a.length + s / 32 + 1) 0) (by omega) (by omega) (by simp) (Dg.rep WW_pos _)
      (by rw [List.take_replicate, vl_rep, List.take_zero, vl]; simp)
      (by
        have h1 : (0 : Int) < 2 ^ (s % 32) := Int.pow_pos (by decide)
        have h2 : rd (List.replicate (a.length + s / 32 + 1) (0 : Int)) ((0 + s / 32 : Nat) : Int) = 0 := by
          rw [rd_lt _ _ (by simp; omega)]; simp
        rw [h2]; exact h1)
    rw [← pow_split, ha.2.2] at r2
    refine ⟨r, ?_, r2, r3⟩
    have e1 : wrap64 (Int.tdiv (s : Int) 32) = ((s / 32 : Nat) : Int) := by rw [tdiv_nn (by omega), w64 (by omega) (by omega)]; omega
    have e2 : IntKind.u64.wrap (Int.tmod (s : Int) 32) = ((s % 32 : Nat) : Int) := by rw [tmod_nn (by omega), u64 (by omega) (by omega)]; omega
    have e3 : wrap64 (wrap64 ((a.length : Int) + ((s / 32 : Nat) : Int)) + 1) = ((a.length + s / 32 + 1 : Nat) : Int) := by rw [w64 (x := (a.length : Int) + ((s / 32 : Nat) : Int)) (by omega) (by omega), w64 (by omega) (by omega)]; omega
    rw [e1, e2, e3, Int.toNat_natCast]
    exact evn (by omega) (evp (by omega) (evp (by omega) r1))
end Go.Proofs.Ytfmobogdnlmdbaa.P
end
section
namespace Go.Proofs.Ytfmobogdnlmdbaa.P
open Go.RowKit Go.Proofs.YtfmobogdnlmdbaaW.PrintWords Go.Proofs.YtfmobogdnlmdbaaW.PrintLast Go.Proofs.YtfmobogdnlmdbaaW.PrintMore
set_option linter.unusedVariables false
theorem two_pos (p : Nat) : (0 : Int) < 2 ^ p := Int.pow_pos (by decide)
theorem shr_p {x : Int} {p : Nat} (hp : p < 32) : shr .u64 x (p : Int) = x / 2 ^ p := by
  have hm : min p IntKind.u64.bits = p := by
    have : IntKind.u64.bits = 64 := rfl
    omega
  unfold shr
  rw [Int.toNat_natCast, hm]
theorem WW_split {p : Nat} (hp : p < 32) : WW = 2 ^ p * 2 ^ (32 - p) := by rw [← Int.pow_add, show p + (32 - p) = 32 by omega]; rfl
theorem shr_word {x T t : Int} {p : Nat} (hp : p < 32) (hx : 0 ≤ x ∧ x < WW) (ht : 0 ≤ t ∧ t < WW) (hT : ∃ u, 0 ≤ u ∧ T = t + WW * u) :
    (t * WW + x) / 2 ^ p % WW + WW * (T / 2 ^ p) = (x + WW * T) / 2 ^ p ∧ 0 ≤ (t * WW + x) / 2 ^ p % WW ∧ (t * WW + x) / 2 ^ p % WW < WW := by
  obtain ⟨u, hu, hT⟩ := hT
  have hM := two_pos p
  have hW := WW_split hp
  have hK := two_pos (32 - p)
  have hWp := WW_pos
  have hWe := WW_eq
  generalize hMM : (2 : Int) ^ p = M at *
  generalize hKK : (2 : Int) ^ (32 - p) = K at *
  refine ⟨?_, Int.emod_nonneg _ (by omega), Int.emod_lt_of_pos _ hWp⟩
  have d1 := Int.mul_ediv_add_emod t M
  have r0 := Int.emod_nonneg t (show M ≠ 0 by omega)
  have r1 := Int.emod_lt_of_pos t hM
  generalize hq : t / M = q at *
  generalize hr : t % M = r at *
  clear hq hr
  have a1 : t * WW + x = (x + WW * r) + M * (WW * q) := by rw [← d1]; grind
  have a2 : T = r + M * (q + K * u) := by rw [hT, ← d1, hW]; grind
  have a3 : x + WW * T = (x + WW * r) + M * (WW * (q + K * u)) := by rw [a2]; grind
  have lo : 0 ≤ x + WW * r := by
    have := Int.mul_nonneg (Int.le_of_lt hWp) r0
    omega
  have hi : x + WW * r < M * WW := by
    have m : WW * (r + 1) ≤ WW * M := Int.mul_le_mul_of_nonneg_left (by omega) (by omega)
    rw [Int.mul_add, Int.mul_comm WW M] at m
    omega
  rw [a1, a3, Int.add_mul_ediv_left _ _ (by omega), Int.add_mul_ediv_left _ _ (by omega)]
  have e2 : T / M = q + K * u := by rw [a2, Int.add_mul_ediv_left _ _ (by omega), Int.ediv_eq_zero_of_lt r0 r1]; omega
  rw [e2]
  have b0 : 0 ≤ (x + WW * r) / M := Int.ediv_nonneg lo (by omega)
  have b1 : (x + WW * r) / M < WW := Int.ediv_lt_of_lt_mul hM (by rw [Int.mul_comm WW M]; exact hi)
  rw [Int.add_mul_emod_self_left, Int.emod_eq_of_lt b0 b1]
theorem alg_shr {vo P d T W V T0 : Int} (h : vo + P * T0 = V) (h2 : d + W * T = T0) : (vo + d * P) + (P * W) * T = V := by grind
theorem vl_dropd (a : List Int) (ha : Dg WW a) (i : Nat) : ∃ t, 0 ≤ t ∧ t < WW ∧ (∃ u, 0 ≤ u ∧ vl WW (a.drop i) = t + WW * u) ∧ (i < a.length → t = rd a (i : Int)) ∧ (a.length ≤ i → t = 0) := by
  by_cases c : i < a.length
  · have hx := dg_rd ha (i : Int) (by omega) (by omega)
    refine ⟨rd a (i : Int), hx.1, hx.2, ⟨vl WW (a.drop (i + 1)), vl_nonneg WW_pos (ha.drop _), by rw [drop_rd a i c, vl]⟩, fun _ => rfl, fun h => by omega⟩
  · exact ⟨0, by decide, by decide, ⟨0, by decide, by rw [List.drop_eq_nil_of_le (by omega), vl]; rfl⟩, fun h => absurd h c, fun _ => rfl⟩
theorem mag_Shr_ev {a : List Int} {w p m : Nat} (hn : a.length < 68719476736) (hw : w + m = a.length) (hp : p < 32) (ha : Dg WW a) (d : Nat) : ∀ (i : Nat) (o : List Int), m - i = d → i ≤ m → o.length = m → Dg WW (o.take i) → vl WW (o.take i) + WW ^ i * (vl WW (a.drop (i + w)) / 2 ^ p) = vl WW (a.drop w) / 2 ^ p →
    ∃ r, Ev (fun k => mag_Shr.l0 k a (w : Int) (p : Int) o (m : Int) (i : Int)) r ∧ Can WW r (vl WW (a.drop w) / 2 ^ p) ∧ r.length ≤ m := by
  induction d with
  | zero =>
    intro i o h1 h2 h3 h4 h5
    have ei : i = m := by omega
    subst ei
    rw [List.drop_eq_nil_of_le (by omega), vl, Int.zero_ediv, Int.mul_zero, Int.add_zero, ← h3, List.take_length] at h5
    rw [← h3, List.take_length] at h4
    obtain ⟨r, r1, r2, r3⟩ := mag_Trim_sp (l := o) (by omega) h4
    rw [h5] at r2
    refine ⟨r, ?_, r2, by omega⟩
    refine Ev.step (fun k => by rw [mag_Shr.l0]) ?_
    exact evn (by omega) (Ev.bind r1 (evs _))
  | succ d ih =>
    intro i o h1 h2 h3 h4 h5
    have hx := dg_rd ha ((i + w : Nat) : Int) (by omega) (by omega)
    obtain ⟨t, t0, t1, t2, t3, t4⟩ := vl_dropd a ha (i + w + 1)
    obtain ⟨s1, s2, s3⟩ := shr_word hp hx ⟨t0, t1⟩ t2
    rw [drop_rd a (i + w) (by omega), vl] at h5
    obtain ⟨r, r1, r2⟩ := ih (i + 1) (o.set i ((t * WW + rd a ((i + w : Nat) : Int)) / 2 ^ p % WW)) (by omega) (by omega) (by simpa using h3)
      (Dg.take_set (by omega) h4 s2 s3)
      (by
        rw [vl_set _ _ _ _ (by omega), show i + 1 + w = i + w + 1 by omega, Int.pow_succ]
        exact alg_shr h5 s1)
    refine ⟨r, ?_, r2⟩
    refine Ev.step (fun k => by rw [mag_Shr.l0]) ?_
    rw [WW_eq] at hx t1
    rw [show (i : Int) + (w : Int) = ((i + w : Nat) : Int) by omega, w64 (x := ((i + w : Nat) : Int)) (by omega) (by omega), wsucc (i := i + w) (by omega), wsucc (i := i) (by omega), Int.toNat_natCast]
    refine evp (by omega) (evp (by omega) (evp (by omega) ?_))
    by_cases c : i + w + 1 < a.length
    · have e := t3 c
      rw [← e, u64 (x := t) (by omega) (by omega), u64 (x := rd a ((i + w : Nat) : Int)) (by omega) (by omega), u64 (x := t * 4294967296) (by omega) (by omega), or64' ⟨t0, t1⟩ hx, shr_p (x := t * 4294967296 + rd a ((i + w : Nat) : Int)) hp]
      exact evp (by omega) (evp (by omega) (evp (by omega) (evp (by omega) (evp (by omega) r1))))
    · have e := t4 (by omega)
      subst e
      rw [Int.zero_mul, Int.zero_add] at r1
      rw [u64 (x := rd a ((i + w : Nat) : Int)) (by omega) (by omega), shr_p (x := rd a ((i + w : Nat) : Int)) hp]
      exact evn (by omega) (evp (by omega) (evp (by omega) (evp (by omega) r1)))
theorem can_shr {a : List Int} {n : Int} (ha : Can WW a n) (s : Nat) : (s / 32 < a.length → n / 2 ^ s = vl WW (a.drop (s / 32)) / 2 ^ (s % 32)) ∧ (a.length ≤ s / 32 → n / 2 ^ s = 0) := by
  have hP := pow_pos' WW_pos (s / 32)
  have hM := two_pos (s % 32)
  rw [pow_split s]
  constructor
  · intro h
    have hd := vl_drop WW a (s / 32) (by omega)
    rw [ha.2.2] at hd
    have l0 := vl_nonneg WW_pos (ha.1.take (s / 32))
    have l1 := vl_lt WW_pos (ha.1.take (s / 32))
    rw [List.length_take, Nat.min_eq_left (by omega)] at l1
    rw [hd, ← Int.ediv_ediv_of_nonneg (by omega), Int.add_mul_ediv_left _ _ (by omega), Int.ediv_eq_zero_of_lt l0 l1, Int.zero_add]
  · intro h
    have h1 := ha.lt WW_pos
    have h2 := pow_le (B := WW) (by decide) h
    refine Int.ediv_eq_zero_of_lt (ha.nonneg WW_pos) ?_
    have h3 : WW ^ (s / 32) * 1 ≤ WW ^ (s / 32) * 2 ^ (s % 32) := Int.mul_le_mul_of_nonneg_left (by omega) (by omega)
    omega
theorem mag_Shr_sp {a : List Int} {n : Int} (s : Nat) (hn : a.length < 68719476736) (hs : s < 68719476736) (ha : Can WW a n) : ∃ r, Ev (fun k => mag_Shr.f k a (s : Int)) r ∧ Can WW r (n / 2 ^ s) ∧ r.length ≤ a.length := by
  obtain ⟨c1, c2⟩ := can_shr ha s
  have e1 : wrap64 (Int.tdiv (s : Int) 32) = ((s / 32 : Nat) : Int) := by rw [tdiv_nn (by omega), w64 (by omega) (by omega)]; omega
  have e2 : IntKind.u64.wrap (Int.tmod (s : Int) 32) = ((s % 32 : Nat) : Int) := by rw [tmod_nn (by omega), u64 (by omega) (by omega)]; omega
  unfold mag_Shr.f
  rw [e1, e2]
  clear e1 e2
  by_cases c : a.length ≤ s / 32
  · refine ⟨[], evp (by omega) (evs _), ?_, by simp⟩
    rw [c2 c]
    exact Can.zero _
  · obtain ⟨r, r1, r2, r3⟩ := mag_Shr_ev (a := a) (w := s / 32) (p := s % 32) (m := a.length - s / 32) hn (by omega) (by omega) ha.1 (a.length - s / 32) 0 (List.replicate (a.length - s / 32) 0) (by omega) (by omega) (by simp) (by rw [List.take_zero]; exact Dg.nil _)
      (by rw [List.take_zero, vl, Int.pow_zero, Nat.zero_add]; omega)
    rw [← c1 (by omega)] at r2
    refine ⟨r, ?_, r2, by omega⟩
    rw [show (a.length : Int) - ((s / 32 : Nat) : Int) = ((a.length - s / 32 : Nat) : Int) by omega, w64 (x := ((a.length - s / 32 : Nat) : Int)) (by omega) (by omega), Int.toNat_natCast]
    refine evn (by omega) (evp (by omega) (evp (by omega) (evb rfl ?_)))
    rw [List.length_replicate]
    exact r1
end Go.Proofs.Ytfmobogdnlmdbaa.P
end
section
namespace Go.Proofs.Ytfmobogdnlmdbaa.P
open Go.RowKit Go.Proofs.YtfmobogdnlmdbaaW.PrintWords Go.Proofs.YtfmobogdnlmdbaaW.PrintLast Go.Proofs.YtfmobogdnlmdbaaW.PrintMore
set_option linter.unusedVariables false
theorem sub_step {o c b g x : Int} (ho : 0 ≤ o ∧ o < 4294967296) (hc : 0 ≤ c ∧ c < 4294967296) (hb : 0 ≤ b ∧ b ≤ 1) (hg : 0 ≤ g ∧ g < 4294967296) (hx : 0 ≤ x ∧ x < 4294967296) :
    ∃ v c' b', IntKind.u64.wrap (c + IntKind.u64.wrap (g * IntKind.u64.wrap x)) / 4294967296 = c' ∧ IntKind.u64.wrap (IntKind.u64.wrap (IntKind.u64.wrap o - IntKind.u64.wrap (c + IntKind.u64.wrap (g * IntKind.u64.wrap x)) % 4294967296) - b) % 4294967296 = v ∧ IntKind.u64.wrap (IntKind.u64.wrap (IntKind.u64.wrap o - IntKind.u64.wrap (c + IntKind.u64.wrap (g * IntKind.u64.wrap x)) % 4294967296) - b) / 9223372036854775808 = b' ∧ v - 4294967296 * (c' + b') = o - (c + b) - g * x ∧ 0 ≤ v ∧ v < 4294967296 ∧ 0 ≤ c' ∧ c' < 4294967296 ∧ 0 ≤ b' ∧ b' ≤ 1 := by
  have hm := mul_bd hg hx
  rw [u64 (x := x) (by omega) (by omega), u64 (x := g * x) (by omega) (by omega), u64 (x := c + g * x) (by omega) (by omega), u64 (x := o) (by omega) (by omega), IntKind.wrap_u64, IntKind.wrap_u64]
  generalize g * x = t at *
  refine ⟨_, _, _, rfl, rfl, rfl, ?_, ?_, ?_, ?_, ?_, ?_, ?_⟩ <;> omega
theorem sub_last {o c b : Int} (ho : 0 ≤ o ∧ o < 4294967296) (hc : 0 ≤ c ∧ c < 4294967296) (hb : 0 ≤ b ∧ b ≤ 1) :
    ∃ v f, IntKind.u64.wrap (IntKind.u64.wrap (IntKind.u64.wrap o - c) - b) % 4294967296 = v ∧ (IntKind.u64.wrap (IntKind.u64.wrap (IntKind.u64.wrap o - c) - b) / 9223372036854775808 == 1) = f ∧ 0 ≤ v ∧ v < 4294967296 ∧ v = o - (c + b) + (if f = true then 4294967296 else 0) := by
  rw [u64 (x := o) (by omega) (by omega), IntKind.wrap_u64, IntKind.wrap_u64]
  refine ⟨_, _, rfl, rfl, by omega, by omega, ?_⟩
  simp only [beq_iff_eq]
  split <;> omega
theorem alg_s {vo c b P vu g vv v c' b' o x W : Int} (h : vo - (c + b) * P = vu - g * vv) (h2 : v - W * (c' + b') = o - (c + b) - g * x) : (vo + v * P) - (c' + b') * (W * P) = (vu + o * P) - g * (vv + x * P) := by grind
theorem alg_s2 {vo c b P vu g vv v o e W : Int} (h : vo - (c + b) * P = vu - g * vv) (h2 : v = o - (c + b) + e) : vo + v * P = (vu + o * P) - g * vv + e * P := by grind
theorem mag_subtract_ev {u v : List Int} {g : Int} (hl : u.length = v.length + 1) (hn : v.length < 68719476736) (hu : Dg WW u) (hv : Dg WW v) (hg : 0 ≤ g ∧ g < 4294967296) (d : Nat) : ∀ (i : Nat) (o : List Int) (c b : Int), v.length - i = d → i ≤ v.length → o.length = u.length → Dg WW (o.take i) → o.drop i = u.drop i → 0 ≤ c → c < 4294967296 → 0 ≤ b → b ≤ 1 → vl WW (o.take i) - (c + b) * WW ^ i = vl WW (u.take i) - g * vl WW (v.take i) →
    ∃ f r, Ev (fun k => mag_subtract.l0 k o v g c b v (v.length : Int) (i : Int)) (f, r) ∧ Dg WW r ∧ r.length = u.length ∧ vl WW r = vl WW u - g * vl WW v + (if f = true then WW ^ u.length else 0) := by
  induction d with
  | zero =>
    intro i o c b h1 h2 h3 h4 h5 h6 h7 h8 h9 h10
    have ei : i = v.length := by omega
    subst ei
    have ho := dg_rd hu (v.length : Int) (by omega) (by omega)
    rw [WW_eq] at ho
    obtain ⟨z, f, e1, e2, z0, z1, z2⟩ := sub_last ho ⟨h6, h7⟩ ⟨h8, h9⟩
    have er := rd_of_drop u o v.length h5 (by omega) h3
    refine ⟨f, o.set v.length z, ?_, ?_, by simpa using h3, ?_⟩
    · refine Ev.step (fun k => by rw [mag_subtract.l0]) ?_
      refine evn (by omega) (evp (by omega) (evp (by omega) ?_))
      rw [er, e1, e2, Int.toNat_natCast]
      exact evs _
    · have := Dg.take_set (l := o) (i := v.length) (v := z) (by omega) h4 z0 (by rw [WW_eq]; exact z1)
      rw [List.take_of_length_le (by simp; omega)] at this
      exact this
    · have e3 := vl_set WW o v.length z (by omega)
      rw [List.take_of_length_le (by simp; omega)] at e3
      have e4 := vl_take WW u v.length (by omega)
      rw [List.take_of_length_le (by omega)] at e4
      rw [List.take_length] at h10
      rw [e3, e4, alg_s2 (W := WW) h10 z2, hl, Int.pow_succ, Int.mul_comm (WW ^ v.length) WW]
      congr 1
      cases f
      · simp
      · simp
  | succ d ih =>
    intro i o c b h1 h2 h3 h4 h5 h6 h7 h8 h9 h10
    have ho := dg_rd hu (i : Int) (by omega) (by omega)
    have hx := dg_rd hv (i : Int) (by omega) (by omega)
    rw [WW_eq] at ho hx
    obtain ⟨z, c', b', e1, e2, e3, e4, z0, z1, c0, c1, b0, b1⟩ := sub_step ho ⟨h6, h7⟩ ⟨h8, h9⟩ hg hx
    have er := rd_of_drop u o i h5 (by omega) h3
    obtain ⟨f, r, r1, r2⟩ := ih (i + 1) (o.set i z) c' b' (by omega) (by omega) (by simpa using h3) (Dg.take_set (by omega) h4 z0 (by rw [WW_eq]; exact z1))
      (by rw [drop_set_ge]; exact drop_tail u o i h5) c0 c1 b0 b1
      (by
        rw [vl_set _ _ _ _ (by omega), vl_take WW u i (by omega), vl_take WW v i (by omega), Int.pow_succ, Int.mul_comm (WW ^ i) WW]
        exact alg_s h10 e4)
    refine ⟨f, r, ?_, r2⟩
    refine Ev.step (fun k => by rw [mag_subtract.l0]) ?_
    rw [er, e1, e2, e3, wsucc (i := i) (by omega), Int.toNat_natCast]
    clear e1 e2 e3
    exact evp (by omega) (evp (by omega) (evp (by omega) (evp (by omega) r1)))
theorem mag_subtract_sp {u v : List Int} {g : Int} (hl : u.length = v.length + 1) (hn : v.length < 68719476736) (hu : Dg WW u) (hv : Dg WW v) (hg : 0 ≤ g ∧ g < 4294967296) :
    ∃ f r, Ev (fun k => mag_subtract.f k u v g) (f, r) ∧ Dg WW r ∧ r.length = u.length ∧ vl WW r = vl WW u - g * vl WW v + (if f = true then WW ^ u.length else 0) := by
  obtain ⟨f, r, r1, r2⟩ := mag_subtract_ev hl hn hu hv hg v.length 0 u 0 0 (by omega) (by omega) rfl (by rw [List.take_zero]; exact Dg.nil _) rfl (by omega) (by omega) (by omega) (by omega) (by simp [vl])
  exact ⟨f, r, by unfold mag_subtract.f; exact r1, r2⟩
theorem alg_r {vo c P vu vv v c' o x W : Int} (h : vo + c * P = vu + vv) (h2 : v + W * c' = c + (o + x)) : (vo + v * P) + c' * (W * P) = (vu + o * P) + (vv + x * P) := by grind
theorem alg_r2 {vo c P vu vv v o e W : Int} (h : vo + c * P = vu + vv) (h2 : v + W * e = o + c) : vo + v * P + e * (W * P) = (vu + o * P) + vv := by grind
theorem mag_restore_ev {u v : List Int} (hl : u.length = v.length + 1) (hn : v.length < 68719476736) (hu : Dg WW u) (hv : Dg WW v) (d : Nat) : ∀ (i : Nat) (o : List Int) (c : Int), v.length - i = d → i ≤ v.length → o.length = u.length → Dg WW (o.take i) → o.drop i = u.drop i → 0 ≤ c → c ≤ 1 → vl WW (o.take i) + c * WW ^ i = vl WW (u.take i) + vl WW (v.take i) →
    ∃ r e, Ev (fun k => mag_restore.l0 k o v c v (v.length : Int) (i : Int)) r ∧ Dg WW r ∧ r.length = u.length ∧ vl WW r + e * WW ^ u.length = vl WW u + vl WW v ∧ 0 ≤ e := by
  induction d with
  | zero =>
    intro i o c h1 h2 h3 h4 h5 h6 h7 h8
    have ei : i = v.length := by omega
    subst ei
    have ho := dg_rd hu (v.length : Int) (by omega) (by omega)
    rw [WW_eq] at ho
    have er := rd_of_drop u o v.length h5 (by omega) h3
    have ev : (rd u (v.length : Int) + c) % 4294967296 + WW * ((rd u (v.length : Int) + c) / 4294967296) = rd u (v.length : Int) + c := by rw [WW_eq]; exact Int.emod_add_mul_ediv _ _
    refine ⟨o.set v.length ((rd u (v.length : Int) + c) % 4294967296), (rd u (v.length : Int) + c) / 4294967296, ?_, ?_, by simpa using h3, ?_, by omega⟩
    · have ec : c % 4294967296 = c := by omega
      refine Ev.step (fun k => by rw [mag_restore.l0]) ?_
      refine evn (by omega) (evp (by omega) (evp (by omega) ?_))
      rw [er, ec, Int.toNat_natCast]
      exact evs _
    · have := Dg.take_set (l := o) (i := v.length) (v := (rd u (v.length : Int) + c) % 4294967296) (by omega) h4 (by omega) (by rw [WW_eq]; omega)
      rw [List.take_of_length_le (by simp; omega)] at this
      exact this
    · have e3 := vl_set WW o v.length ((rd u (v.length : Int) + c) % 4294967296) (by omega)
      rw [List.take_of_length_le (by simp; omega)] at e3
      have e4 := vl_take WW u v.length (by omega)
      rw [List.take_of_length_le (by omega)] at e4
      rw [List.take_length] at h8
      rw [e3, e4, hl, Int.pow_succ, Int.mul_comm (WW ^ v.length) WW]
      exact alg_r2 h8 ev
  | succ d ih =>
    intro i o c h1 h2 h3 h4 h5 h6 h7 h8
    have ho := dg_rd hu (i : Int) (by omega) (by omega)
    have hx := dg_rd hv (i : Int) (by omega) (by omega)
    rw [WW_eq] at ho hx
    have er := rd_of_drop u o i h5 (by omega) h3
    have ev : (c + (rd u (i : Int) + rd v (i : Int))) % 4294967296 + WW * ((c + (rd u (i : Int) + rd v (i : Int))) / 4294967296) = c + (rd u (i : Int) + rd v (i : Int)) := by rw [WW_eq]; exact Int.emod_add_mul_ediv _ _
    obtain ⟨r, e, r1, r2⟩ := ih (i + 1) (o.set i ((c + (rd u (i : Int) + rd v (i : Int))) % 4294967296)) ((c + (rd u (i : Int) + rd v (i : Int))) / 4294967296) (by omega) (by omega) (by simpa using h3) (Dg.take_set (by omega) h4 (by omega) (by rw [WW_eq]; omega))
      (by rw [drop_set_ge]; exact drop_tail u o i h5) (by omega) (by omega)
      (by
        rw [vl_set _ _ _ _ (by omega), vl_take WW u i (by omega), vl_take WW v i (by omega), Int.pow_succ, Int.mul_comm (WW ^ i) WW]
        exact alg_r h8 ev)
    refine ⟨r, e, ?_, r2⟩
    refine Ev.step (fun k => by rw [mag_restore.l0]) ?_
    rw [er, u64 (x := rd u (i : Int)) (by omega) (by omega), u64 (x := rd v (i : Int)) (by omega) (by omega), u64 (x := rd u (i : Int) + rd v (i : Int)) (by omega) (by omega), u64 (x := c + (rd u (i : Int) + rd v (i : Int))) (by omega) (by omega), wsucc (i := i) (by omega), Int.toNat_natCast]
    exact evp (by omega) (evp (by omega) (evp (by omega) (evp (by omega) r1)))
theorem mag_restore_sp {u v : List Int} (hl : u.length = v.length + 1) (hn : v.length < 68719476736) (hu : Dg WW u) (hv : Dg WW v) :
    ∃ r e, Ev (fun k => mag_restore.f k u v) r ∧ Dg WW r ∧ r.length = u.length ∧ vl WW r + e * WW ^ u.length = vl WW u + vl WW v ∧ 0 ≤ e := by
  obtain ⟨r, e, r1, r2⟩ := mag_restore_ev hl hn hu hv v.length 0 u 0 (by omega) (by omega) rfl (by rw [List.take_zero]; exact Dg.nil _) rfl (by omega) (by omega) (by simp [vl])
  exact ⟨r, e, by unfold mag_restore.f; exact r1, r2⟩
end Go.Proofs.Ytfmobogdnlmdbaa.P
end
section
namespace Go.Proofs.Ytfmobogdnlmdbaa.P
open Go.RowKit Go.Proofs.YtfmobogdnlmdbaaW.PrintWords Go.Proofs.YtfmobogdnlmdbaaW.PrintLast Go.Proofs.YtfmobogdnlmdbaaW.PrintMore
set_option linter.unusedVariables false
theorem kd_gt {X M P top next x0 high g rest qd W : Int} (hM : (top * W + next) * P ≤ M) (hX : X < (high * W + x0 + 1) * P) (hP : 0 < P) (hq : qd * M ≤ X) (h : g * top + rest = high) (hd : 0 ≤ g) (hM0 : 0 ≤ M) (hne : g * next > rest * W + x0) : qd < g := by
  rcases Int.lt_or_le qd g with h1 | h1
  · exact h1
  · exfalso
    have a1 : g * M ≤ qd * M := Int.mul_le_mul_of_nonneg_right h1 hM0
    have a2 : g * ((top * W + next) * P) ≤ g * M := Int.mul_le_mul_of_nonneg_left hM hd
    have a3 : g * ((top * W + next) * P) = (g * (top * W + next)) * P := by grind
    have a4 : (g * (top * W + next)) * P < (high * W + x0 + 1) * P := by omega
    have a5 := Int.lt_of_mul_lt_mul_right a4 (Int.le_of_lt hP)
    have a6 : g * (top * W + next) = (high - rest) * W + g * next := by rw [← h]; grind
    have a7 : (high - rest) * W = high * W - rest * W := by grind
    omega
theorem kd_le {X M P top next x0 high g rest qd W : Int} (hM : M ≤ (top * W + next + 1) * P) (hM2 : W * P ≤ M) (hX : (high * W + x0) * P ≤ X) (hP : 0 < P) (hq : X < (qd + 1) * M) (h : g * top + rest = high) (hd : 0 ≤ g) (hg : g < W) (hE : g * next ≤ rest * W + x0) : g ≤ qd + 1 := by
  rcases Int.lt_or_le (qd + 1) g with h1 | h1
  · exfalso
    have hM0 : 0 ≤ M := by
      have : 0 ≤ W * P := Int.mul_nonneg (by omega) (by omega)
      omega
    have a1 : (qd + 1) * M ≤ (g - 1) * M := Int.mul_le_mul_of_nonneg_right (by omega) hM0
    have a2 : g * M ≤ g * ((top * W + next + 1) * P) := Int.mul_le_mul_of_nonneg_left hM hd
    have a3 : g * ((top * W + next + 1) * P) = (g * (top * W + next)) * P + g * P := by grind
    have a6 : g * (top * W + next) = (high - rest) * W + g * next := by rw [← h]; grind
    have a7 : (high - rest) * W = high * W - rest * W := by grind
    have a8 : (g * (top * W + next)) * P ≤ (high * W + x0) * P := Int.mul_le_mul_of_nonneg_right (by omega) (by omega)
    have a9 : g * P ≤ W * P := Int.mul_le_mul_of_nonneg_right (by omega) (by omega)
    have a10 : (g - 1) * M = g * M - M := by grind
    omega
  · exact h1
theorem dm_guess {q v u : List Int} {s : Int} {nn j : Nat} {X M P top next x0 high qd : Int} (hn : j + nn < 68719476736) (hnn : 2 ≤ nn) (hju : j + nn < u.length) (hx0 : rd u ((j + nn - 2 : Nat) : Int) = x0)
    (t0 : 0 < top) (t1 : top < 4294967296) (n0 : 0 ≤ next) (n1 : next < 4294967296) (b0 : 0 ≤ x0) (b1 : x0 < 4294967296)
    (hMl : (top * WW + next) * P ≤ M) (hMu : M ≤ (top * WW + next + 1) * P) (hM2 : WW * P ≤ M) (hXl : (high * WW + x0) * P ≤ X) (hXu : X < (high * WW + x0 + 1) * P) (hP : 0 < P) (hq : qd * M ≤ X) (hq2 : X < (qd + 1) * M) (hqW : qd < 4294967296) (hq0 : 0 ≤ qd) (c : Nat) :
    ∀ g rest : Int, (g - qd).toNat = c → g * top + rest = high → 0 ≤ rest → rest < 4294967296 → qd ≤ g → g ≤ 4294967297 → (g = 4294967297 → rest + top < 4294967296) →
    ∃ g', qd ≤ g' ∧ g' ≤ qd + 1 ∧ g' < 4294967296 ∧ ∀ R, Ev (fun k => mag_DivMod.j3 k q s v u (nn : Int) top next (j : Int) g') R → Ev (fun k => mag_DivMod.l1 k q s v u (nn : Int) top next (j : Int) g rest) R := by
  have hM0 : 0 ≤ M := by
    have : 0 ≤ WW * P := Int.mul_nonneg (by decide) (by omega)
    omega
  induction c with
  | zero =>
    intro g rest h1 h2 h3 h4 h5 h6 h7
    have eg : g = qd := by omega
    subst eg
    have hE : ¬ (g * next > rest * WW + x0) := fun hne => by
      have := kd_gt hMl hXu hP hq h2 (by omega) hM0 hne
      omega
    refine ⟨g, by omega, by omega, hqW, fun R hR => ?_⟩
    have hp := mul_bd (x := g) (y := next) ⟨by omega, hqW⟩ ⟨n0, n1⟩
    refine Ev.step (fun k => by rw [mag_DivMod.l1]) ?_
    rw [WW_eq] at hE
    rw [show (j : Int) + (nn : Int) = ((j + nn : Nat) : Int) by omega, w64 (x := ((j + nn : Nat) : Int)) (by omega) (by omega), show ((j + nn : Nat) : Int) - 2 = ((j + nn - 2 : Nat) : Int) by omega, w64 (x := ((j + nn - 2 : Nat) : Int)) (by omega) (by omega), hx0, u64 (x := g * next) (by omega) (by omega), u64 (x := rest * 4294967296) (by omega) (by omega), u64 (x := x0) (by omega) (by omega), or64 ⟨h3, h4⟩ ⟨b0, b1⟩, decide_eq_false hE]
    refine evn (by omega) (evp (by omega) (evp (by omega) ?_))
    refine Ev.step (fun k => by rw [mag_DivMod.j2]) ?_
    exact evn (by simp) hR
  | succ c ih =>
    intro g rest h1 h2 h3 h4 h5 h6 h7
    have hgq : qd < g := by omega
    have down : (g ≥ 4294967296 ∨ g * next > rest * WW + x0) → ∃ g', qd ≤ g' ∧ g' ≤ qd + 1 ∧ g' < 4294967296 ∧ ∀ R, Ev (fun k => mag_DivMod.j3 k q s v u (nn : Int) top next (j : Int) g') R → Ev (fun k => mag_DivMod.j2 k q s v u (nn : Int) top next (j : Int) g rest true) R := by
      intro hc
      by_cases c2 : rest + top ≥ 4294967296
      · have e : (g - 1) * top + (rest + top) = high := by rw [← h2]; grind
        have hp := mul_bd (x := g - 1) (y := next) ⟨by omega, by omega⟩ ⟨n0, n1⟩
        have hE : (g - 1) * next ≤ (rest + top) * WW + x0 := by rw [WW_eq]; omega
        refine ⟨g - 1, by omega, kd_le hMu hM2 hXl hP hq2 e (by omega) (by rw [WW_eq]; omega) hE, by omega, fun R hR => ?_⟩
        refine Ev.step (fun k => by rw [mag_DivMod.j2]) ?_
        rw [u64 (x := rest + top) (by omega) (by omega), u64 (x := g - 1) (by omega) (by omega)]
        exact evp rfl (evp c2 hR)
      · have e : (g - 1) * top + (rest + top) = high := by rw [← h2]; grind
        obtain ⟨g', g1, g2, g3, g4⟩ := ih (g - 1) (rest + top) (by omega) e (by omega) (by omega) (by omega) (by omega) (by omega)
        refine ⟨g', g1, g2, g3, fun R hR => ?_⟩
        refine Ev.step (fun k => by rw [mag_DivMod.j2]) ?_
        rw [u64 (x := rest + top) (by omega) (by omega), u64 (x := g - 1) (by omega) (by omega)]
        exact evp rfl (evn c2 (g4 R hR))
    by_cases c1 : g ≥ 4294967296
    · obtain ⟨g', g1, g2, g3, g4⟩ := down (.inl c1)
      refine ⟨g', g1, g2, g3, fun R hR => ?_⟩
      refine Ev.step (fun k => by rw [mag_DivMod.l1]) ?_
      exact evp c1 (g4 R hR)
    · have hp := mul_bd (x := g) (y := next) ⟨by omega, by omega⟩ ⟨n0, n1⟩
      by_cases c2 : g * next > rest * WW + x0
      · obtain ⟨g', g1, g2, g3, g4⟩ := down (.inr c2)
        refine ⟨g', g1, g2, g3, fun R hR => ?_⟩
        refine Ev.step (fun k => by rw [mag_DivMod.l1]) ?_
        rw [WW_eq] at c2
        rw [show (j : Int) + (nn : Int) = ((j + nn : Nat) : Int) by omega, w64 (x := ((j + nn : Nat) : Int)) (by omega) (by omega), show ((j + nn : Nat) : Int) - 2 = ((j + nn - 2 : Nat) : Int) by omega, w64 (x := ((j + nn - 2 : Nat) : Int)) (by omega) (by omega), hx0, u64 (x := g * next) (by omega) (by omega), u64 (x := rest * 4294967296) (by omega) (by omega), u64 (x := x0) (by omega) (by omega), or64 ⟨h3, h4⟩ ⟨b0, b1⟩, decide_eq_true c2]
        exact evn (by omega) (evp (by omega) (evp (by omega) (g4 R hR)))
      · have hle := kd_le hMu hM2 hXl hP hq2 h2 (by omega) (by rw [WW_eq]; omega) (by omega)
        refine ⟨g, by omega, hle, by omega, fun R hR => ?_⟩
        refine Ev.step (fun k => by rw [mag_DivMod.l1]) ?_
        rw [WW_eq] at c2
        rw [show (j : Int) + (nn : Int) = ((j + nn : Nat) : Int) by omega, w64 (x := ((j + nn : Nat) : Int)) (by omega) (by omega), show ((j + nn : Nat) : Int) - 2 = ((j + nn - 2 : Nat) : Int) by omega, w64 (x := ((j + nn - 2 : Nat) : Int)) (by omega) (by omega), hx0, u64 (x := g * next) (by omega) (by omega), u64 (x := rest * 4294967296) (by omega) (by omega), u64 (x := x0) (by omega) (by omega), or64 ⟨h3, h4⟩ ⟨b0, b1⟩, decide_eq_false c2]
        refine evn (by omega) (evp (by omega) (evp (by omega) ?_))
        refine Ev.step (fun k => by rw [mag_DivMod.j2]) ?_
        exact evn (by simp) hR
end Go.Proofs.Ytfmobogdnlmdbaa.P
end
section
namespace Go.Proofs.Ytfmobogdnlmdbaa.P
open Go.RowKit Go.Proofs.YtfmobogdnlmdbaaW.PrintWords Go.Proofs.YtfmobogdnlmdbaaW.PrintLast Go.Proofs.YtfmobogdnlmdbaaW.PrintMore
set_option linter.unusedVariables false
theorem seg_len (u : List Int) (j n : Nat) (h : j + n ≤ u.length) : ((u.take (j + n)).drop j).length = n := by
  rw [List.length_drop, List.length_take, Nat.min_eq_left h]; omega
theorem seg_put (u r : List Int) (j n : Nat) (h : j + n ≤ u.length) (hr : r.length = n) :
    ((u.take j ++ r ++ u.drop (j + n)).take (j + n)).drop j = r ∧ (u.take j ++ r ++ u.drop (j + n)).take j = u.take j ∧ (u.take j ++ r ++ u.drop (j + n)).drop (j + n) = u.drop (j + n) ∧ (u.take j ++ r ++ u.drop (j + n)).drop j = r ++ u.drop (j + n) ∧ (u.take j ++ r ++ u.drop (j + n)).length = u.length := by
  have l1 : (u.take j).length = j := by rw [List.length_take, Nat.min_eq_left (by omega)]
  have l2 : (u.take j ++ r).length = j + n := by rw [List.length_append, l1, hr]
  refine ⟨?_, ?_, ?_, ?_, ?_⟩
  · rw [List.take_left' l2, List.drop_left' l1]
  · rw [List.append_assoc, List.take_left' l1]
  · rw [List.drop_left' l2]
  · rw [List.append_assoc, List.drop_left' l1]
  · rw [List.length_append, l2, List.length_drop]; omega
theorem seg_vl (u : List Int) (j n : Nat) (h : j + n ≤ u.length) : vl WW (u.drop j) = vl WW ((u.take (j + n)).drop j) + WW ^ n * vl WW (u.drop (j + n)) := by
  have e := vl_drop WW (u.drop j) n (by rw [List.length_drop]; omega)
  rw [List.drop_drop] at e
  rw [e, List.drop_take, Nat.add_sub_cancel_left]
theorem dm_digit {q v u : List Int} {s top next : Int} {nn j : Nat} {X M qd g : Int} (hn : j + nn < 68719476736) (hv : v.length = nn) (dv : Dg WW v) (eM : vl WW v = M) (hju : j + nn + 1 ≤ u.length) (hjq : j < q.length) (du : Dg WW u)
    (eX : vl WW (u.drop j) = X) (hz : vl WW (u.drop (j + (nn + 1))) = 0) (hq : qd * M ≤ X) (hq2 : X < (qd + 1) * M) (hqW : qd < 4294967296) (hq0 : 0 ≤ qd) (g1 : qd ≤ g) (g2 : g ≤ qd + 1) (g3 : g < 4294967296) :
    ∃ u2, u2.length = u.length ∧ Dg WW u2 ∧ u2.take j = u.take j ∧ vl WW (u2.drop j) = X - qd * M ∧ ∀ R, Ev (fun k => mag_DivMod.l0 k (q.set j qd) s v u2 (nn : Int) top next ((j : Int) - 1)) R → Ev (fun k => mag_DivMod.j3 k q s v u (nn : Int) top next (j : Int) g) R := by
  have sl := seg_len u j (nn + 1) hju
  have sv := seg_vl u j (nn + 1) hju
  rw [hz, Int.mul_zero, Int.add_zero, eX] at sv
  have ds : Dg WW ((u.take (j + (nn + 1))).drop j) := (du.take _).drop _
  obtain ⟨f, r, r1, r2, r3, r4⟩ := mag_subtract_sp (u := (u.take (j + (nn + 1))).drop j) (v := v) (g := g) (by omega) (by omega) ds dv ⟨by omega, g3⟩
  rw [sl] at r3 r4
  rw [← sv, eM] at r4
  have b0 := vl_nonneg WW_pos r2
  have b1 := vl_lt WW_pos r2
  rw [r3] at b1
  obtain ⟨p1, p2, p3, p4, p5⟩ := seg_put u r j (nn + 1) hju r3
  have hb2 : ((((j + nn : Nat) : Int) + 1)).toNat = j + (nn + 1) := by omega
  have hsub : Ev (fun k => mag_subtractAt.f k u (j : Int) (((j + nn : Nat) : Int) + 1) v g) (f, u.take j ++ r ++ u.drop (j + (nn + 1))) := by
    unfold mag_subtractAt.f
    rw [hb2, Int.toNat_natCast]
    exact Ev.bind r1 (evs _)
  have eqd : qd % 4294967296 = qd := by omega
  have hM1 : (qd + 1) * M = qd * M + M := by grind
  have dall : ∀ z : List Int, Dg WW z → Dg WW (u.take j ++ z ++ u.drop (j + (nn + 1))) := fun z hz => ((du.take _).append hz).append (du.drop _)
  cases f
  · have eg : g = qd := by
      rcases Int.lt_or_le qd g with c | c
      · exfalso
        have : g = qd + 1 := by omega
        subst this
        simp only [Bool.false_eq_true, if_false] at r4
        omega
      · omega
    subst eg
    simp only [Bool.false_eq_true, if_false, Int.add_zero] at r4
    refine ⟨_, p5, dall r r2, p2, ?_, fun R hR => ?_⟩
    · rw [p4, vl_append, hz, Int.mul_zero, Int.add_zero, r4]
    · refine Ev.step (fun k => by rw [mag_DivMod.j3]) ?_
      rw [show (j : Int) + (nn : Int) = ((j + nn : Nat) : Int) by omega, w64 (x := ((j + nn : Nat) : Int)) (by omega) (by omega), w64 (x := ((j + nn : Nat) : Int) + 1) (by omega) (by omega), w64 (x := (j : Int) - 1) (by omega) (by omega), eqd, Int.toNat_natCast]
      exact evp (by omega) (evp (by omega) (evp (by omega) (Ev.bind hsub (evn (by simp) (evp (by omega) hR)))))
  · simp only [if_true] at r4
    have eg : g = qd + 1 := by
      rcases Int.lt_or_le qd g with c | c
      · omega
      · exfalso
        have : g = qd := by omega
        subst this
        omega
    subst eg
    rw [hM1] at r4
    obtain ⟨z, e, z1, z2, z3, z4, z5⟩ := mag_restore_sp (u := r) (v := v) (by omega) (by omega) r2 dv
    rw [r3, eM, r4] at z4
    rw [r3] at z3
    have c0 := vl_nonneg WW_pos z2
    have c1 := vl_lt WW_pos z2
    rw [z3] at c1
    have hMW : M < WW ^ (nn + 1) := by
      have h1 := vl_lt WW_pos dv
      have h2 := pow_le (B := WW) (by decide) (show nn ≤ nn + 1 by omega)
      rw [hv, eM] at h1
      omega
    have hz3 : vl WW z = X - qd * M := by
      generalize WW ^ (nn + 1) = Q at *
      have he : e = 1 := by
        rcases Int.lt_or_le e 1 with c | c
        · have : e = 0 := by omega
          subst this
          omega
        · rcases Int.lt_or_le 1 e with c' | c'
          · have : 2 * Q ≤ e * Q := Int.mul_le_mul_of_nonneg_right (by omega) (by omega)
            omega
          · omega
      subst he
      omega
    obtain ⟨t1, t2, t3, t4, t5⟩ := seg_put u z j (nn + 1) hju z3
    have hres : Ev (fun k => mag_restoreAt.f k (u.take j ++ r ++ u.drop (j + (nn + 1))) (j : Int) (((j + nn : Nat) : Int) + 1) v) (u.take j ++ z ++ u.drop (j + (nn + 1))) := by
      unfold mag_restoreAt.f
      rw [hb2, Int.toNat_natCast, p1, p2, p3]
      exact Ev.bind z1 (evs _)
    refine ⟨_, t5, dall z z2, t2, ?_, fun R hR => ?_⟩
    · rw [t4, vl_append, hz, Int.mul_zero, Int.add_zero, hz3]
    · refine Ev.step (fun k => by rw [mag_DivMod.j3]) ?_
      rw [show (j : Int) + (nn : Int) = ((j + nn : Nat) : Int) by omega, w64 (x := ((j + nn : Nat) : Int)) (by omega) (by omega), w64 (x := ((j + nn : Nat) : Int) + 1) (by omega) (by omega), w64 (x := (j : Int) - 1) (by omega) (by omega), show qd + 1 - 1 = qd by omega, u64 (x := qd) (by omega) (by omega), eqd, Int.toNat_natCast]
      exact evp (by omega) (evp (by omega) (evp (by omega) (Ev.bind hsub (evp rfl (Ev.bind hres (evp (by omega) hR))))))
theorem three {u : List Int} (du : Dg WW u) (j nn : Nat) (hnn : 2 ≤ nn) (hju : j + nn + 1 ≤ u.length) (hz : vl WW (u.drop (j + (nn + 1))) = 0) :
    ∃ low, 0 ≤ low ∧ low < WW ^ (nn - 2) ∧ vl WW (u.drop j) = low + (((rd u ((j + nn : Nat) : Int)) * WW + rd u ((j + nn - 1 : Nat) : Int)) * WW + rd u ((j + nn - 2 : Nat) : Int)) * WW ^ (nn - 2) := by
  have e := vl_drop WW (u.drop j) (nn - 2) (by rw [List.length_drop]; omega)
  rw [List.drop_drop] at e
  have d1 : Dg WW ((u.drop j).take (nn - 2)) := (du.drop _).take _
  have l1 := vl_lt WW_pos d1
  rw [List.length_take, List.length_drop, Nat.min_eq_left (by omega)] at l1
  refine ⟨_, vl_nonneg WW_pos d1, l1, ?_⟩
  rw [e, drop_rd u (j + (nn - 2)) (by omega), vl, drop_rd u (j + (nn - 2) + 1) (by omega), vl, drop_rd u (j + (nn - 2) + 1 + 1) (by omega), vl]
  rw [show j + (nn - 2) + 1 + 1 + 1 = j + (nn + 1) by omega, hz, show j + (nn - 2) + 1 + 1 = j + nn by omega, show j + (nn - 2) + 1 = j + nn - 1 by omega, show j + (nn - 2) = j + nn - 2 by omega]
  grind
theorem two {v : List Int} (dv : Dg WW v) (nn : Nat) (hnn : 2 ≤ nn) (hv : v.length = nn) :
    ∃ low, 0 ≤ low ∧ low < WW ^ (nn - 2) ∧ vl WW v = low + (rd v ((nn - 1 : Nat) : Int) * WW + rd v ((nn - 2 : Nat) : Int)) * WW ^ (nn - 2) := by
  have e := vl_drop WW v (nn - 2) (by omega)
  have d1 : Dg WW (v.take (nn - 2)) := dv.take _
  have l1 := vl_lt WW_pos d1
  rw [List.length_take, Nat.min_eq_left (by omega)] at l1
  refine ⟨_, vl_nonneg WW_pos d1, l1, ?_⟩
  rw [e, drop_rd v (nn - 2) (by omega), vl, drop_rd v (nn - 2 + 1) (by omega), vl]
  rw [show nn - 2 + 1 + 1 = nn by omega, List.drop_eq_nil_of_le (by omega), vl, show nn - 2 + 1 = nn - 1 by omega]
  grind
end Go.Proofs.Ytfmobogdnlmdbaa.P
end
section
namespace Go.Proofs.Ytfmobogdnlmdbaa.P
open Go.RowKit Go.Proofs.YtfmobogdnlmdbaaW.PrintWords Go.Proofs.YtfmobogdnlmdbaaW.PrintLast Go.Proofs.YtfmobogdnlmdbaaW.PrintMore
set_option linter.unusedVariables false
theorem alg_inv {ut Pj X M W qd vq N vu : Int} (h1 : vu = ut + Pj * X) (h2 : vu + M * ((Pj * W) * vq) = N) : (ut + Pj * (X - qd * M)) + M * (Pj * (qd + W * vq)) = N := by grind
theorem lt_of_mul' {a b P : Int} (h : a * P < b * P) (hP : 0 < P) : a < b := Int.lt_of_mul_lt_mul_right h (Int.le_of_lt hP)
theorem dm_l0 {v : List Int} {s nn : Nat} {M top next N : Int} (hs : s < 32) (hn2 : 2 ≤ nn) (hv : v.length = nn) (dv : Dg WW v) (eM : vl WW v = M) (et : rd v ((nn - 1 : Nat) : Int) = top) (en : rd v ((nn - 2 : Nat) : Int) = next) (ht : 2147483648 ≤ top) (d : Nat) :
    ∀ (i : Nat) (q u : List Int), i = d → i + nn ≤ u.length → u.length < 68719476736 → q.length = u.length - nn → Dg WW u → Dg WW (q.drop i) → vl WW (u.drop i) < M → vl WW u + M * (WW ^ i * vl WW (q.drop i)) = N →
    ∃ q' r', Ev (fun k => mag_DivMod.l0 k q (s : Int) v u (nn : Int) top next ((i : Int) - 1)) (q', r') ∧ Can WW q' (N / M) ∧ Can WW r' (N % M / 2 ^ s) := by
  have w0 : (0 : Int) < WW ^ (nn - 2) := pow_pos' WW_pos _
  have bt := dg_rd dv ((nn - 1 : Nat) : Int) (by omega) (by omega)
  have bn := dg_rd dv ((nn - 2 : Nat) : Int) (by omega) (by omega)
  rw [et, WW_eq] at bt
  rw [en, WW_eq] at bn
  obtain ⟨ml, ml0, ml1, hMe⟩ := two dv nn hn2 hv
  rw [et, en, eM] at hMe
  generalize hP : WW ^ (nn - 2) = P at *
  have hMl : (top * WW + next) * P ≤ M := by omega
  have hMu' : M < (top * WW + next + 1) * P := by rw [Int.add_mul _ 1 P, Int.one_mul]; omega
  have hM2 : WW * P ≤ M := by
    have : WW * P ≤ (top * WW + next) * P := Int.mul_le_mul_of_nonneg_right (by rw [WW_eq]; omega) (by omega)
    omega
  have hMpos : 0 < M := by
    have : 0 < WW * P := Int.mul_pos WW_pos w0
    omega
  induction d with
  | zero =>
    rintro i q u rfl h1 h2 h3 h4 h5 h6 h7
    rw [List.drop_zero] at h5 h6 h7
    rw [Int.pow_zero, Int.one_mul] at h7
    have b0 := vl_nonneg WW_pos h4
    have e1 : N / M = vl WW q := by rw [← h7, Int.add_mul_ediv_left _ _ (by omega), Int.ediv_eq_zero_of_lt b0 h6, Int.zero_add]
    have e2 : N % M = vl WW u := by rw [← h7, Int.add_mul_emod_self_left, Int.emod_eq_of_lt b0 h6]
    obtain ⟨q', q1, q2, q3⟩ := mag_Trim_sp (l := q) (by omega) h5
    obtain ⟨x, x1, x2, x3⟩ := mag_Trim_sp (l := u) (by omega) h4
    obtain ⟨y, y1, y2, y3⟩ := mag_Shr_sp s (by omega) (by omega) x2
    refine ⟨q', y, ?_, by rw [e1]; exact q2, by rw [e2]; exact y2⟩
    refine Ev.step (fun k => by rw [mag_DivMod.l0]) ?_
    exact evn (by omega) (Ev.bind q1 (Ev.bind x1 (Ev.bind y1 (evs _))))
  | succ d ih =>
    rintro i q u rfl h1 h2 h3 h4 h5 h6 h7
    have u0 := dg_rd h4 (d : Int) (by omega) (by omega)
    have eX : vl WW (u.drop d) = rd u (d : Int) + WW * vl WW (u.drop (d + 1)) := by rw [drop_rd u d (by omega), vl]
    have nx := vl_nonneg WW_pos (h4.drop (d + 1))
    have hXM : vl WW (u.drop d) < WW * M := by
      have : WW * (vl WW (u.drop (d + 1)) + 1) ≤ WW * M := Int.mul_le_mul_of_nonneg_left (by omega) (by decide)
      rw [Int.mul_add, Int.mul_one] at this
      omega
    have hX0 := vl_nonneg WW_pos (h4.drop d)
    have hMW : M < WW ^ nn := by
      have := vl_lt WW_pos dv
      rw [hv, eM] at this
      exact this
    have hz : vl WW (u.drop (d + (nn + 1))) = 0 := by
      have sv := seg_vl u d (nn + 1) (by omega)
      have g0 := vl_nonneg WW_pos (h4.drop (d + (nn + 1)))
      have g1 := vl_nonneg WW_pos ((h4.take (d + (nn + 1))).drop d)
      rcases Int.lt_or_le 0 (vl WW (u.drop (d + (nn + 1)))) with c | c
      · exfalso
        have hp : (0 : Int) < WW ^ (nn + 1) := pow_pos' WW_pos _
        have a1 : WW ^ (nn + 1) * 1 ≤ WW ^ (nn + 1) * vl WW (u.drop (d + (nn + 1))) := Int.mul_le_mul_of_nonneg_left (by omega) (by omega)
        have a2 : WW * M < WW * WW ^ nn := Int.mul_lt_mul_of_pos_left hMW WW_pos
        rw [Int.pow_succ, Int.mul_comm (WW ^ nn) WW] at a1 sv
        omega
      · omega
    obtain ⟨lo, lo0, lo1, eZ⟩ := three h4 d nn hn2 (by omega) hz
    rw [hP] at eZ lo1
    have b2 := dg_rd h4 ((d + nn : Nat) : Int) (by omega) (by omega)
    have b1 := dg_rd h4 ((d + nn - 1 : Nat) : Int) (by omega) (by omega)
    have b0 := dg_rd h4 ((d + nn - 2 : Nat) : Int) (by omega) (by omega)
    rw [WW_eq] at b2 b1 b0
    have hut := vl_drop WW u d (by omega)
    generalize hX : vl WW (u.drop d) = X at *
    generalize hx2 : rd u ((d + nn : Nat) : Int) = x2 at *
    generalize hx1 : rd u ((d + nn - 1 : Nat) : Int) = x1 at *
    generalize hx0 : rd u ((d + nn - 2 : Nat) : Int) = x0 at *
    have hXl : ((x2 * WW + x1) * WW + x0) * P ≤ X := by omega
    have hXu : X < ((x2 * WW + x1) * WW + x0 + 1) * P := by rw [Int.add_mul _ 1 P, Int.one_mul]; omega
    have hq0 : 0 ≤ X / M := Int.ediv_nonneg hX0 (by omega)
    have hqd := Int.mul_ediv_add_emod X M
    have hqr := Int.emod_nonneg X (show M ≠ 0 by omega)
    have hqs := Int.emod_lt_of_pos X hMpos
    have hq : X / M * M ≤ X := by rw [Int.mul_comm]; omega
    have hq2 : X < (X / M + 1) * M := by rw [Int.add_mul, Int.one_mul, Int.mul_comm]; omega
    have hqW : X / M < 4294967296 := Int.ediv_lt_of_lt_mul hMpos (by rw [← WW_eq]; exact hXM)
    generalize hQ : X / M = qd at *
    have hhi : x2 * WW + x1 ≤ top * WW + next := by
      have a1 : ((x2 * WW + x1) * WW + x0) * P < (WW * (top * WW + next + 1)) * P := by
        have : WW * M < WW * ((top * WW + next + 1) * P) := Int.mul_lt_mul_of_pos_left hMu' WW_pos
        rw [Int.mul_assoc]
        omega
      have a2 := lt_of_mul' a1 w0
      rw [WW_eq] at a2 ⊢
      omega
    have hh0 : 0 ≤ x2 * WW + x1 := by rw [WW_eq]; omega
    have hor := or64 b2 b1
    rw [← WW_eq] at hor
    generalize hH : x2 * WW + x1 = high at *
    have d1 := Int.mul_ediv_add_emod high top
    have d2 := Int.emod_nonneg high (show top ≠ 0 by omega)
    have d3 := Int.emod_lt_of_pos high (show 0 < top by omega)
    have d0 : 0 ≤ high / top := Int.ediv_nonneg hh0 (by omega)
    have gq : qd ≤ high / top := by
      refine Int.le_ediv_of_mul_le (by omega) ?_
      have a1 : qd * ((top * WW + next) * P) ≤ qd * M := Int.mul_le_mul_of_nonneg_left hMl hq0
      have a2 : (qd * (top * WW + next)) * P < (high * WW + x0 + 1) * P := by rw [Int.mul_assoc]; omega
      have a3 := lt_of_mul' a2 w0
      have a4 : qd * (top * WW + next) = (qd * top) * WW + qd * next := by grind
      have a5 : 0 ≤ qd * next := Int.mul_nonneg hq0 bn.1
      rw [WW_eq] at a3 a4
      omega
    have gW : high / top ≤ 4294967297 ∧ (high / top = 4294967297 → high % top + top < 4294967296) := by
      have a1 : top * (high / top) ≤ top * WW + next := by omega
      constructor
      · rcases Int.lt_or_le 4294967297 (high / top) with c | c
        · exfalso
          have : top * 4294967298 ≤ top * (high / top) := Int.mul_le_mul_of_nonneg_left (by omega) (by omega)
          rw [WW_eq] at a1
          omega
        · exact c
      · intro c
        rw [c] at d1
        rw [WW_eq] at hhi
        omega
    obtain ⟨g, g1, g2, g3, g4⟩ := dm_guess (q := q) (v := v) (u := u) (s := (s : Int)) (nn := nn) (j := d) (X := X) (M := M) (P := P) (top := top) (next := next) (x0 := x0) (high := high) (qd := qd) (by omega) hn2 (by omega) hx0 (by omega) bt.2 bn.1 bn.2 b0.1 b0.2 hMl (by omega) hM2 hXl hXu w0 hq hq2 hqW hq0 _ (high / top) (high % top) rfl (by rw [Int.mul_comm]; exact d1) d2 (by omega) gq gW.1 gW.2
    obtain ⟨u2, v1, v2, v3, v4, v5⟩ := dm_digit (q := q) (v := v) (u := u) (s := (s : Int)) (top := top) (next := next) (nn := nn) (j := d) (X := X) (M := M) (qd := qd) (g := g) (by omega) hv dv eM (by omega) (by omega) h4 hX hz hq hq2 hqW hq0 g1 g2 g3
    have hu2 := vl_drop WW u2 d (by omega)
    rw [v3, v4] at hu2
    obtain ⟨q', r', e1, e2⟩ := ih d (q.set d qd) u2 rfl (by omega) (by omega) (by rw [List.length_set, v1]; exact h3) v2
      (by rw [drop_set_self _ _ _ (by omega)]; exact Dg.mk hq0 (by rw [WW_eq]; exact hqW) h5)
      (by rw [v4]; rw [Int.add_mul, Int.one_mul] at hq2; omega)
      (by
        rw [drop_set_self _ _ _ (by omega), vl, hu2]
        rw [Int.pow_succ] at h7
        exact alg_inv hut h7)
    refine ⟨q', r', ?_, e2⟩
    refine Ev.step (fun k => by rw [mag_DivMod.l0]) ?_
    have hgu : high / top < 18446744073709551616 := by omega
    have fin := g4 _ (v5 _ e1)
    rw [show (((d + 1 : Nat) : Int) - 1) = (d : Int) by omega, show (d : Int) + (nn : Int) = ((d + nn : Nat) : Int) by omega, w64 (x := ((d + nn : Nat) : Int)) (by omega) (by omega), show ((d + nn : Nat) : Int) - 1 = ((d + nn - 1 : Nat) : Int) by omega, w64 (x := ((d + nn - 1 : Nat) : Int)) (by omega) (by omega), hx2, hx1, u64 (x := x2) (by omega) (by omega), u64 (x := x1) (by omega) (by omega), u64 (x := x2 * 4294967296) (by omega) (by omega), ← WW_eq, hor, tdiv_nn hh0, tmod_nn hh0, u64 (x := high / top) d0 hgu]
    clear hor
    exact evp (by omega) (evp (by omega) (evp (by omega) (evp (by omega) (evp (by omega) (evn (by omega) fin)))))
end Go.Proofs.Ytfmobogdnlmdbaa.P
end
section
namespace Go.Proofs.Ytfmobogdnlmdbaa.P
open Go.RowKit Go.Proofs.YtfmobogdnlmdbaaW.PrintWords Go.Proofs.YtfmobogdnlmdbaaW.PrintLast Go.Proofs.YtfmobogdnlmdbaaW.PrintMore
set_option linter.unusedVariables false
theorem cpy_zero {t : List Int} {n : Nat} (h : t.length ≤ n) (dt : Dg WW t) : (cpy (List.replicate n 0) t).length = n ∧ Dg WW (cpy (List.replicate n 0) t) ∧ vl WW (cpy (List.replicate n 0) t) = vl WW t := by
  have e : cpy (List.replicate n 0) t = t ++ List.replicate (n - t.length) 0 := by
    unfold cpy
    rw [List.length_replicate, Nat.min_eq_left h, List.take_length, List.drop_replicate]
  rw [e]
  refine ⟨by simp; omega, dt.append (Dg.rep WW_pos _), ?_⟩
  rw [vl_append, vl_rep, Int.mul_zero, Int.add_zero]
theorem two_le31 {s : Nat} (h : s ≤ 31) : (2 : Int) ^ s ≤ 2147483648 := by
  have h2 : (2 : Int) ^ s ≤ 2 ^ 31 := by
    have : 2 ^ s ≤ 2 ^ 31 := Nat.pow_le_pow_right (by decide) h
    exact_mod_cast this
  exact Int.le_trans h2 (by decide)
theorem normed {b : List Int} {m : Int} {L : Nat} (hb : Can WW b m) (hp : 0 < b.length) (h1 : rd b ((b.length : Int) - 1) < 2 ^ L) (h2 : 2 ^ (L - 1) ≤ rd b ((b.length : Int) - 1)) (hL : 1 ≤ L) (hL2 : L ≤ 32) :
    m * 2 ^ (32 - L) < WW ^ b.length ∧ 2147483648 * WW ^ (b.length - 1) ≤ m * 2 ^ (32 - L) := by
  have lv := last_vl (a := b) hp
  rw [hb.2.2] at lv
  have hd := hb.1.take (b.length - 1)
  have l0 := vl_nonneg WW_pos hd
  have l1 := vl_lt WW_pos hd
  rw [List.length_take, Nat.min_eq_left (by omega)] at l1
  have hP : (0 : Int) < WW ^ (b.length - 1) := pow_pos' WW_pos _
  have hs := two_pos (32 - L)
  have e1 : WW ^ b.length = (2 ^ L * WW ^ (b.length - 1)) * 2 ^ (32 - L) := by
    have : b.length = (b.length - 1) + 1 := by omega
    rw [this, Int.pow_succ, Nat.add_sub_cancel, Int.mul_comm (2 ^ L), Int.mul_assoc, ← Int.pow_add, show L + (32 - L) = 32 by omega]; rfl
  have e2 : 2147483648 * WW ^ (b.length - 1) = (2 ^ (L - 1) * WW ^ (b.length - 1)) * 2 ^ (32 - L) := by
    rw [Int.mul_comm (2 ^ (L - 1)), Int.mul_assoc, ← Int.pow_add, show L - 1 + (32 - L) = 31 by omega, Int.mul_comm]; rfl
  generalize rd b ((b.length : Int) - 1) = x at *
  have m1 : (x + 1) * WW ^ (b.length - 1) ≤ 2 ^ L * WW ^ (b.length - 1) := Int.mul_le_mul_of_nonneg_right (by omega) (by omega)
  have m2 : 2 ^ (L - 1) * WW ^ (b.length - 1) ≤ x * WW ^ (b.length - 1) := Int.mul_le_mul_of_nonneg_right h2 (by omega)
  rw [Int.add_mul] at m1
  rw [e1, e2]
  exact ⟨Int.mul_lt_mul_of_pos_right (by omega) hs, Int.mul_le_mul_of_nonneg_right (by omega) (by omega)⟩
theorem mag_DivMod_sp {a b : List Int} {n m : Int} (hn : a.length < 17179869184) (ha : Can WW a n) (hb : Can WW b m) (hm : 0 < m) :
    ∃ q r, Ev (fun k => mag_DivMod.f k a b) (q, r) ∧ Can WW q (n / m) ∧ Can WW r (n % m) := by
  have n0 := ha.nonneg WW_pos
  have lb : 0 < b.length := by
    rcases Nat.eq_zero_or_pos b.length with c | c
    · have := (hb.len_iff WW_pos).1 c
      omega
    · exact c
  have hc := mag_Cmp_sp (by omega) ha hb
  by_cases c1 : n < m
  · have e : cmpi n m = -1 := by unfold cmpi; rw [if_pos c1]
    rw [e] at hc
    refine ⟨[], a, ?_, ?_, ?_⟩
    · unfold mag_DivMod.f
      refine Ev.bind hc (evp (by omega) (evp (by simp; omega) ?_))
      exact evs _
    · rw [Int.ediv_eq_zero_of_lt n0 c1]; exact Can.zero _
    · rw [Int.emod_eq_of_lt n0 c1]; exact ha
  · have hcm : ¬ cmpi n m < 0 := by unfold cmpi; rw [if_neg c1]; split <;> omega
    have hba : b.length ≤ a.length := can_len_le ha hb (by omega)
    have bx := dg_rd hb.1 ((b.length : Int) - 1) (by omega) (by omega)
    have bz := hb.2.1.rd lb
    rw [WW_eq] at bx
    by_cases c2 : b.length = 1
    · have e1 : m = rd b 0 := by
        have := last_vl (a := b) lb
        rw [hb.2.2, c2] at this
        simpa [vl] using this
      rw [c2] at bx
      have bx' : 0 ≤ m ∧ m < 4294967296 := by rw [e1]; exact bx
      obtain ⟨q, q1, q2, q3⟩ := mag_divWord_sp (by omega) ha (K := m) ⟨by omega, bx'.2⟩
      have r0 := Int.emod_nonneg n (show m ≠ 0 by omega)
      have r1 := Int.emod_lt_of_pos n hm
      obtain ⟨r, r2, r3⟩ := mag_From_sp (a := n % m) r0 (by omega)
      refine ⟨q, r, ?_, q2, r3⟩
      unfold mag_DivMod.f
      refine Ev.bind hc (evn hcm (evp (by omega) (evp (by omega) ?_)))
      rw [← e1]
      refine Ev.bind q1 ?_
      rw [u64 (x := n % m) (by omega) (by omega)]
      exact Ev.bind r2 (evs _)
    · obtain ⟨L, z1, z2, z3, z4⟩ := lz32_sp bx.1 bx.2
      obtain ⟨z5, z6⟩ := z4 bz
      obtain ⟨M1, M2⟩ := normed hb lb z3 z5 z6 z2
      have hs := two_pos (32 - L)
      have hs31 := two_le31 (s := 32 - L) (by omega)
      obtain ⟨v, v1, v2, v3⟩ := mag_Shl_sp (32 - L) (by omega) hb
      obtain ⟨t, t1, t2, t3⟩ := mag_Shl_sp (32 - L) (by omega) ha
      have hvl : v.length = b.length := by
        have h1 := v2.len_le WW_one M1
        have h2 : WW ^ (b.length - 1) ≤ m * 2 ^ (32 - L) := by
          have : (0 : Int) < WW ^ (b.length - 1) := pow_pos' WW_pos _
          omega
        have h3 := v2.len_ge WW_one h2
        omega
      have htop : 2147483648 ≤ rd v ((b.length - 1 : Nat) : Int) := by
        have lv := last_vl (a := v) (by omega)
        rw [v2.2.2, hvl, show (b.length : Int) - 1 = ((b.length - 1 : Nat) : Int) by omega] at lv
        have hd := v2.1.take (b.length - 1)
        have l1 := vl_lt WW_pos hd
        rw [List.length_take, Nat.min_eq_left (by omega)] at l1
        have hP : (0 : Int) < WW ^ (b.length - 1) := pow_pos' WW_pos _
        have h3 : 2147483648 * WW ^ (b.length - 1) < (rd v ((b.length - 1 : Nat) : Int) + 1) * WW ^ (b.length - 1) := by
          rw [Int.add_mul]; omega
        have := lt_of_mul' h3 hP
        omega
      obtain ⟨u1, u2, u3⟩ := cpy_zero (t := t) (n := a.length + 1) (by omega) t2.1
      generalize hu : cpy (List.replicate (a.length + 1) 0) t = u at *
      rw [t2.2.2] at u3
      have htl := dg_rd v2.1 ((b.length - 1 : Nat) : Int) (by omega) (by omega)
      have hnl := dg_rd v2.1 ((b.length - 2 : Nat) : Int) (by omega) (by omega)
      rw [WW_eq] at htl hnl
      have hlow : vl WW (u.drop (a.length + 1 - b.length)) < m * 2 ^ (32 - L) := by
        rcases Int.lt_or_le (vl WW (u.drop (a.length + 1 - b.length))) (m * 2 ^ (32 - L)) with c | c
        · exact c
        · exfalso
          have hd := vl_drop WW u (a.length + 1 - b.length) (by omega)
          rw [u3] at hd
          have l0 := vl_nonneg WW_pos (u2.take (a.length + 1 - b.length))
          have hPi : (0 : Int) < WW ^ (a.length + 1 - b.length) := pow_pos' WW_pos _
          have a1 : WW ^ (a.length + 1 - b.length) * (2147483648 * WW ^ (b.length - 1)) ≤ WW ^ (a.length + 1 - b.length) * vl WW (u.drop (a.length + 1 - b.length)) := Int.mul_le_mul_of_nonneg_left (by omega) (by omega)
          have a2 : WW ^ (a.length + 1 - b.length) * (2147483648 * WW ^ (b.length - 1)) = 2147483648 * WW ^ a.length := by
            rw [Int.mul_left_comm, ← Int.pow_add, show a.length + 1 - b.length + (b.length - 1) = a.length by omega]
          have a3 : n * 2 ^ (32 - L) < WW ^ a.length * 2 ^ (32 - L) := Int.mul_lt_mul_of_pos_right (ha.lt WW_pos) hs
          have hPa : (0 : Int) < WW ^ a.length := pow_pos' WW_pos _
          have a4 : WW ^ a.length * 2 ^ (32 - L) ≤ WW ^ a.length * 2147483648 := Int.mul_le_mul_of_nonneg_left hs31 (by omega)
          omega
      obtain ⟨q, r, r1, r2, r3⟩ := dm_l0 (s := 32 - L) (nn := b.length) (v := v) (N := n * 2 ^ (32 - L)) (by omega) (by omega) hvl v2.1 v2.2.2 rfl rfl htop (a.length + 1 - b.length) (a.length + 1 - b.length) (List.replicate (a.length + 1 - b.length) 0) u rfl (by omega) (by omega) (by rw [List.length_replicate, u1]) u2
        (by rw [List.drop_eq_nil_of_le (by simp)]; exact Dg.nil _) hlow (by rw [List.drop_eq_nil_of_le (by simp), vl, Int.mul_zero, Int.mul_zero, Int.add_zero]; exact u3)
      rw [Int.mul_ediv_mul_of_pos_left _ _ hs] at r2
      rw [Int.mul_comm n, Int.mul_comm m, Int.mul_emod_mul_of_pos _ _ hs, Int.mul_ediv_cancel_left _ (by omega)] at r3
      refine ⟨q, r, ?_, r2, r3⟩
      unfold mag_DivMod.f
      refine Ev.bind hc (evn hcm (evn (by omega) ?_))
      rw [w64 (x := (b.length : Int) - 1) (by omega) (by omega), w64 (x := (a.length : Int) + 1) (by omega) (by omega)]
      refine evp (by omega) (evp (by omega) (evb z1 (Ev.bind v1 (evp (by omega) (evp (by omega) (evb rfl (Ev.bind t1 ?_)))))))
      rw [show ((a.length : Int) + 1).toNat = a.length + 1 by omega, hu, List.length_replicate, hvl, show ((a.length + 1 : Nat) : Int) - (b.length : Int) = ((a.length + 1 - b.length : Nat) : Int) by omega, w64 (x := ((a.length + 1 - b.length : Nat) : Int)) (by omega) (by omega), w64 (x := ((a.length + 1 - b.length : Nat) : Int) - 1) (by omega) (by omega), show (b.length : Int) - 1 = ((b.length - 1 : Nat) : Int) by omega, show (b.length : Int) - 2 = ((b.length - 2 : Nat) : Int) by omega, w64 (x := ((b.length - 1 : Nat) : Int)) (by omega) (by omega), w64 (x := ((b.length - 2 : Nat) : Int)) (by omega) (by omega), u64 (x := rd v ((b.length - 1 : Nat) : Int)) (by omega) (by omega), u64 (x := rd v ((b.length - 2 : Nat) : Int)) (by omega) (by omega), Int.toNat_natCast]
      exact evp (by omega) (evp (by omega) (evp (by omega) (evp (by omega) (evp (by omega) (evp (by omega) r1)))))
end Go.Proofs.Ytfmobogdnlmdbaa.P
end
