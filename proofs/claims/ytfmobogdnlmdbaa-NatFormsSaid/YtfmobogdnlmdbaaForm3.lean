/- NatForms: Valid accepts exactly the valid magnitudes, every function returns ErrForm if an argument is not one, and From returns the magnitude of a number, for every input. No condition. (text 3 of 6) -/
import Derived.Test.YtfmobogdnlmdbaaForm2
section
namespace Go.Proofs.Ytfmobogdnlmdbaa.P
open Go.RowKit Go.Proofs.YtfmobogdnlmdbaaW.PrintWords Go.Proofs.YtfmobogdnlmdbaaW.PrintLast Go.Proofs.YtfmobogdnlmdbaaW.PrintMore Go.Proofs.YtfmobogdnlmdbaaW
attribute [local go_sem] max2_int min2_int max_two min_two max_three min_three max_four min_four
set_option linter.unusedVariables false
set_option linter.unusedSimpArgs false
set_option maxRecDepth 100000 in
theorem mag_Cmp_calls_p0 {P : Prop} (h : P := by
 go_enter Try.func51, Try.ntmps51
 go_wp2
 repeat (go_quiet (fail); try go_wp2)
 go_ret
 exact ⟨by first | rfl | (simp; done) | (simp [*]; done), by repeat (first | exact Drawn0.refl _ | apply Drawn0.step)⟩) : P := h
set_option maxHeartbeats 8000000 in
set_option maxRecDepth 100000 in
theorem mag_Cmp.calls (k : Nat) (A0 : Option Addr) (c0 : Nat) (l0 : List Int) (A1 : Option Addr) (c1 : Nat) (l1 : List Int) (r : Int) (w : World) (hr0 : Kd.C (Kd.int .u32) w A0 l0.length l0) (hc0 : l0.length ≤ c0) (hr1 : Kd.C (Kd.int .u32) w A1 l1.length l1) (hc1 : l1.length ≤ c1) (h : mag_Cmp.f k l0 l1 = some r) :
  Calls Try.prog 51 #[.slice A0 l0.length c0, .slice A1 l1.length c1] w fun e w' => e = .returned (.int .i64 r) ∧ Drawn0 w w' := by
 have HR0 := Aside0.mk hr0
 have HC0 := Aside0.mk hc0
 clear hr0 hc0
 have HR1 := Aside0.mk hr1
 have HC1 := Aside0.mk hc1
 clear hr1 hc1
 have H : (if (l0.length : Int) = (l1.length : Int) then (mag_Cmp.l0 k l0 l1 (wrap64 ((l0.length : Int) - 1))) else (if (l0.length : Int) < (l1.length : Int) then (some (-1)) else (some 1))) = some r := h
 clear h
 by_cases c3 : (l0.length : Int) = (l1.length : Int)
 ·rw [if_pos c3] at H
  have c3b0 : ((l0.length : Int) == (l1.length : Int)) = true := beq_iff_eq.mpr c3
  have c3b1 : ((l0.length : Int) != (l1.length : Int)) = false := bne_eq_false_iff_eq.mpr c3
  have c3b2 : (l0.length == l1.length) = true := by first | simpa using c3 | (simp at c3 ⊢; omega)
  clear c3
  have H' := Aside0.mk H
  clear H
  go_enter Try.func51, Try.ntmps51
  go_wp2
  repeat (go_quiet (fail); try go_wp2)
  go_loopg [5] k (fun kq v5 w' => ∃ (x5_1 : Int), v5 = .int .i64 x5_1 ∧ Aside0 (mag_Cmp.l0 kq l0 l1 x5_1 = some r) ∧ Aside0 (kq ≤ k) ∧ Drawn0 w w')
  case atStart => exact ⟨(wrap64 ((l0.length : Int) - 1)), (by first | rfl | (simp; done) | (simp [*]; done)), H', ⟨Nat.le_refl _⟩, by repeat (first | exact Drawn0.refl _ | apply Drawn0.step)⟩
  case round =>
   clear H'
   try clear c1
   try clear p2
   try clear c3
   try clear c3b0
   try clear c3b1
   try clear c3b2
   obtain ⟨x5_1, rfl, HA, HK1, ⟨m1, rfl⟩⟩ := hrel
   cases gk with
   | zero => exact absurd HA.out (by simp [mag_Cmp.l0])
   | succ k1 =>
    have H := HA.out
    clear HA
    simp only [mag_Cmp.l0] at H
    by_cases c4 : x5_1 ≥ 0
    ·rw [if_pos c4] at H
     have c4b0 : decide (0 ≤ x5_1) = true := decide_eq_true c4
     clear c4
     by_cases c5 : 0 ≤ x5_1
     ·rw [if_pos c5] at H
      have c5b0 : decide (0 ≤ x5_1) = true := decide_eq_true c5
      clear c5
      by_cases c6 : x5_1 < (l0.length : Int)
      ·rw [if_pos c6] at H
       have c6b0 : decide (x5_1 < (l0.length : Int)) = true := decide_eq_true c6
       clear c6
       by_cases c7 : x5_1 < (l1.length : Int)
       ·rw [if_pos c7] at H
        have c7b0 : decide (x5_1 < (l1.length : Int)) = true := decide_eq_true c7
        clear c7
        by_cases c8 : (rd l0 x5_1) = (rd l1 x5_1)
        ·rw [if_pos c8] at H
         have c8b0 : ((rd l0 x5_1) == (rd l1 x5_1)) = true := beq_iff_eq.mpr c8
         have c8b1 : ((rd l0 x5_1) != (rd l1 x5_1)) = false := bne_eq_false_iff_eq.mpr c8
         clear c8
         have H' := Aside0.mk H
         clear H
         have p152 : 0 ≤ (x5_1 : Int) := of_decide_eq_true aS
         have q152 : x5_1 < (l0.length : Int) := of_decide_eq_true aS
         obtain ⟨ad152, e152, hx152_0⟩ := Kd.at_int HR0.out x5_1 p152 q152
         cases e152
         replace p152 := eq_true p152
         replace q152 := eq_true q152
         have p153 : 0 ≤ (x5_1 : Int) := of_decide_eq_true aS
         have q153 : x5_1 < (l1.length : Int) := of_decide_eq_true aS
         obtain ⟨ad153, e153, hx153_0⟩ := Kd.at_int HR1.out x5_1 p153 q153
         cases e153
         replace p153 := eq_true p153
         replace q153 := eq_true q153
         go_wp2
         repeat (go_quiet (fail); try go_wp2)
         go_roundg k1
         case measure => have := HK1.out; omega
         case rel => exact ⟨(wrap64 (x5_1 - 1)), (by first | rfl | (simp; done) | (simp [*]; done)), H', ⟨by have := HK1.out; omega⟩, by repeat (first | exact Drawn0.refl _ | apply Drawn0.step)⟩
        ·rw [if_neg c8] at H
         have c8b0 : ((rd l0 x5_1) == (rd l1 x5_1)) = false := beq_eq_false_iff_ne.mpr c8
         have c8b1 : ((rd l0 x5_1) != (rd l1 x5_1)) = true := bne_iff_ne.mpr c8
         by_cases c9 : (rd l0 x5_1) < (rd l1 x5_1)
         ·rw [if_pos c9] at H
          have c9b0 : decide ((rd l0 x5_1) < (rd l1 x5_1)) = true := decide_eq_true c9
          clear c9
          obtain rfl := Option.some.inj H
          have p152 : 0 ≤ (x5_1 : Int) := of_decide_eq_true aS
          have q152 : x5_1 < (l0.length : Int) := of_decide_eq_true aS
          obtain ⟨ad152, e152, hx152_0⟩ := Kd.at_int HR0.out x5_1 p152 q152
          cases e152
          replace p152 := eq_true p152
          replace q152 := eq_true q152
          have p153 : 0 ≤ (x5_1 : Int) := of_decide_eq_true aS
          have q153 : x5_1 < (l1.length : Int) := of_decide_eq_true aS
          obtain ⟨ad153, e153, hx153_0⟩ := Kd.at_int HR1.out x5_1 p153 q153
          cases e153
          replace p153 := eq_true p153
          replace q153 := eq_true q153
          have p154 : 0 ≤ (x5_1 : Int) := of_decide_eq_true aS
          have q154 : x5_1 < (l0.length : Int) := of_decide_eq_true aS
          obtain ⟨ad154, e154, hx154_0⟩ := Kd.at_int HR0.out x5_1 p154 q154
          obtain rfl : ad152 = ad154 := (by injection e154)
          replace p154 := eq_true p154
          replace q154 := eq_true q154
          have p155 : 0 ≤ (x5_1 : Int) := of_decide_eq_true aS
          have q155 : x5_1 < (l1.length : Int) := of_decide_eq_true aS
          obtain ⟨ad155, e155, hx155_0⟩ := Kd.at_int HR1.out x5_1 p155 q155
          obtain rfl : ad153 = ad155 := (by injection e155)
          replace p155 := eq_true p155
          replace q155 := eq_true q155
          go_wp2
          repeat (go_quiet (fail); try go_wp2)
          go_ret
          exact ⟨by first | rfl | (simp; done) | (simp [*]; done), by repeat (first | exact Drawn0.refl _ | apply Drawn0.step)⟩
         ·rw [if_neg c9] at H
          have c9b0 : decide ((rd l0 x5_1) < (rd l1 x5_1)) = false := decide_eq_false c9
          clear c9
          obtain rfl := Option.some.inj H
          have p152 : 0 ≤ (x5_1 : Int) := of_decide_eq_true aS
          have q152 : x5_1 < (l0.length : Int) := of_decide_eq_true aS
          obtain ⟨ad152, e152, hx152_0⟩ := Kd.at_int HR0.out x5_1 p152 q152
          cases e152
          replace p152 := eq_true p152
          replace q152 := eq_true q152
          have p153 : 0 ≤ (x5_1 : Int) := of_decide_eq_true aS
          have q153 : x5_1 < (l1.length : Int) := of_decide_eq_true aS
          obtain ⟨ad153, e153, hx153_0⟩ := Kd.at_int HR1.out x5_1 p153 q153
          cases e153
          replace p153 := eq_true p153
          replace q153 := eq_true q153
          have p154 : 0 ≤ (x5_1 : Int) := of_decide_eq_true aS
          have q154 : x5_1 < (l0.length : Int) := of_decide_eq_true aS
          obtain ⟨ad154, e154, hx154_0⟩ := Kd.at_int HR0.out x5_1 p154 q154
          obtain rfl : ad152 = ad154 := (by injection e154)
          replace p154 := eq_true p154
          replace q154 := eq_true q154
          have p155 : 0 ≤ (x5_1 : Int) := of_decide_eq_true aS
          have q155 : x5_1 < (l1.length : Int) := of_decide_eq_true aS
          obtain ⟨ad155, e155, hx155_0⟩ := Kd.at_int HR1.out x5_1 p155 q155
          obtain rfl : ad153 = ad155 := (by injection e155)
          replace p155 := eq_true p155
          replace q155 := eq_true q155
          go_wp2
          repeat (go_quiet (fail); try go_wp2)
          go_ret
          exact ⟨by first | rfl | (simp; done) | (simp [*]; done), by repeat (first | exact Drawn0.refl _ | apply Drawn0.step)⟩
       ·rw [if_neg c7] at H
        exact absurd H (by simp)
      ·rw [if_neg c6] at H
       exact absurd H (by simp)
     ·rw [if_neg c5] at H
      exact absurd H (by simp)
    ·rw [if_neg c4] at H
     have c4b0 : decide (0 ≤ x5_1) = false := decide_eq_false c4
     clear c4
     obtain rfl := Option.some.inj H
     go_wp2
     repeat (go_quiet (fail); try go_wp2)
     go_ret
     exact ⟨by first | rfl | (simp; done) | (simp [*]; done), by repeat (first | exact Drawn0.refl _ | apply Drawn0.step)⟩
 ·rw [if_neg c3] at H
  have c3b0 : ((l0.length : Int) == (l1.length : Int)) = false := beq_eq_false_iff_ne.mpr c3
  have c3b1 : ((l0.length : Int) != (l1.length : Int)) = true := bne_iff_ne.mpr c3
  have c3b2 : (l0.length == l1.length) = false := by first | simpa using c3 | (simp at c3 ⊢; omega)
  by_cases c10 : (l0.length : Int) < (l1.length : Int)
  ·rw [if_pos c10] at H
   have c10b0 : decide ((l0.length : Int) < (l1.length : Int)) = true := decide_eq_true c10
   have c10b1 : decide (l0.length < l1.length) = true := decide_eq_true (Int.ofNat_lt.mp c10)
   clear c10
   obtain rfl := Option.some.inj H
   exact mag_Cmp_calls_p0
  ·rw [if_neg c10] at H
   have c10b0 : decide ((l0.length : Int) < (l1.length : Int)) = false := decide_eq_false c10
   have c10b1 : decide (l0.length < l1.length) = false := decide_eq_false (fun h => c10 (Int.ofNat_lt.mpr h))
   clear c10
   obtain rfl := Option.some.inj H
   exact mag_Cmp_calls_p0
set_option maxHeartbeats 8000000 in
set_option maxRecDepth 100000 in
theorem mag_From.calls (k : Nat) (a0 : Int) (r : List Int) (w : World) (h : mag_From.f k a0 = some r) :
  Calls Try.prog 59 #[.int .u64 a0] w fun e w' => ∃ v0_ : Value, e = .returned (v0_) ∧ Kd.V (Kd.int .u32) 36 w' w.heap.size (fun k_ => (w.heap.size ≤ k_)) v0_ r ∧ Below w.heap.size w w' := by
 have HB := Aside0.mk (Below.refl w.heap.size w)
 have H : ((mag_Trim.f k (([(a0) % 4294967296, (a0 / 4294967296) % 4294967296] : List Int))).bind fun t159 => (some t159)) = some r := h
 clear h
 obtain ⟨y156, hy156⟩ : ∃ y_ : List Int, y_ = (([(a0) % 4294967296, (a0 / 4294967296) % 4294967296] : List Int)) := ⟨_, rfl⟩
 replace H : ((mag_Trim.f k y156).bind fun t159 => (some t159)) = some r := by first | (rw [hy156]; with_reducible exact H) | (have H2_ := (Option.bind_some _ _).symm.trans H; rw [hy156]; with_reducible exact H2_) | (have H2_ := (Option.bind_some _ _).symm.trans H; with_reducible exact H2_) | with_reducible exact H | (rw [hy156]; exact H) | exact H
 have Ny156 := Aside0.mk hy156
 clear hy156
 replace H := Option.bind_eq_some_iff.mp H
 obtain ⟨t159, A20, H⟩ := H
 replace H : (some t159) = some r := H
 have A2 := Aside0.mk A20
 clear A20
 obtain rfl := Option.some.inj H
 go_enter Try.func59, Try.ntmps59
 go_wp2_with (first | ((with_reducible refine gate_dst (N := 8) rfl ?_); refine Kd.R_lit (Kd.int .u32) _ 36 ?hg (N := 8) ?hd (xs := ([(a0) % 4294967296, (a0 / 4294967296) % 4294967296] : List Int)) (inner := [.int .u32 ((a0) % 4294967296), .int .u32 ((a0 / 4294967296) % 4294967296)]) (ok := fun _ => True) (okp := fun _ => True) ?hr ?hp (fun _ hk => hk) trivial (Below.refl _ _) (Nat.le_refl _) (by simp) ?_; (case hd => rfl); (case hg => rfl); (case hr => first | (go_simp; done) | (go_simp; rfl)); (case hp => exact (Reps.one (show Kd.M (Kd.int .u32) _ _ _ ((a0) % 4294967296) [.int .u32 ((a0) % 4294967296)] from rfl) (Reps.one (show Kd.M (Kd.int .u32) _ _ _ ((a0 / 4294967296) % 4294967296) [.int .u32 ((a0 / 4294967296) % 4294967296)] from rfl) (Reps.none _ _)))); intro v157 w3 ho4 hb hg_ hnew_; clear hg_ hnew_; (first | rw [← Ny156.out] at ho4 | (simp only [Int.reduceToNat] at ho4; rw [← Ny156.out] at ho4)); have n0_ := Aside0.mk (Kd.R_lower (Kd.R_newM (M := fun k_ => (w.heap.size ≤ k_)) ho4 (below_size (bB)) (fun k_ h_ => h_)) (below_size (bB))); have n1_ := Aside0.mk (below_step (bB) hb); clear HB; have HO158 := n0_; have HB := n1_; clear n0_ n1_; clear hb ho4; obtain ⟨Ao5, co5, eo5⟩ := Kd.R_slice HO158.out; subst eo5) | ((with_reducible refine gate_callee (f := 66) rfl ?_); refine goesL_ (some 9) rfl rfl Try.func66 (by kernel_rfl) rfl #[.slice Ao5 y156.length co5] rfl (by (try simp only [List.map_toArray, List.map_cons, List.map_nil]); first | done | rfl | (simp only [List.length_drop, List.length_take]; rfl)) ?_; (with_reducible refine (mag_Trim.calls k (fun k_ => some k_ = (.slice Ao5 y156.length co5 : Value).ownBlock) _ _ y156 t159 _ ?side1 A2.out).mono ?_); (case side1 => exact Kd.R_V (Kd.R_tight rfl (HO158.out))); rintro e w6 ⟨v160, rfl, ho0, hb⟩; refine ⟨_, rfl, ?_⟩; have n0_ := Aside0.mk (Kd.R_below (dR HO158.out) hb); have n1_ := Aside0.mk (Kd.V_lower (Kd.V_mono (ok' := fun k_ => (w.heap.size ≤ k_)) ho0 (fun k_ hk_ => Or.elim hk_ (fun hs_ => ((HO158.out).1 k_ hs_.symm).1) (fun hn_ => (Nat.le_trans (below_size (bB)) hn_)))) (below_size (bB))); have n2_ := Aside0.mk (below_step (bB) hb); clear HO158 HB; have HO158 := n0_; have HO161 := n1_; have HB := n2_; clear n0_ n1_ n2_; (try clear hb); (try clear hb2); (try clear hk); (try clear hi); (try clear ho0)))
 go_ret
 exact ⟨_, by first | rfl | (simp [errW_none, errW_some] <;> rfl) | (simp [*, errW_none, errW_some] <;> rfl), by (with_reducible repeat (first | apply Kd.V_alloc | apply Kd.V_drewN | apply Kd.V_drew)); exact HO161.out, by repeat (first | (with_reducible first | exact HB.out | apply below_alloc | apply pw_below_drewN | apply below_drew1) | exact HB.out)⟩
set_option maxHeartbeats 8000000 in
set_option maxRecDepth 100000 in
theorem bits_Len32.calls (a0 : Int) (r : Int) (w : World) (h : bits_Len32.f a0 = some r) :
  Calls Try.prog 71 #[.int .u32 a0] w fun e w' => e = .returned (.int .i64 r) ∧ Drawn0 w w' := by
 have H : (if a0 ≥ 65536 then (if (a0 / 65536) ≥ 256 then (if 0 ≤ (((a0 / 65536) / 256) % 256) then (if (((a0 / 65536) / 256) % 256) < 256 then (some (wrap64 ((16 + 8) + (wrap64 (bt (⟨#[0, 1, 2, 2, 3, 3, 3, 3, 4, 4, 4, 4, 4, 4, 4, 4, 5, 5, 5, 5, 5, 5, 5, 5, 5, 5, 5, 5, 5, 5, 5, 5, 6, 6, 6, 6, 6, 6, 6, 6, 6, 6, 6, 6, 6, 6, 6, 6, 6, 6, 6, 6, 6, 6, 6, 6, 6, 6, 6, 6, 6, 6, 6, 6, 7, 7, 7, 7, 7, 7, 7, 7, 7, 7, 7, 7, 7, 7, 7, 7, 7, 7, 7, 7, 7, 7, 7, 7, 7, 7, 7, 7, 7, 7, 7, 7, 7, 7, 7, 7, 7, 7, 7, 7, 7, 7, 7, 7, 7, 7, 7, 7, 7, 7, 7, 7, 7, 7, 7, 7, 7, 7, 7, 7, 7, 7, 7, 7, 8, 8, 8, 8, 8, 8, 8, 8, 8, 8, 8, 8, 8, 8, 8, 8, 8, 8, 8, 8, 8, 8, 8, 8, 8, 8, 8, 8, 8, 8, 8, 8, 8, 8, 8, 8, 8, 8, 8, 8, 8, 8, 8, 8, 8, 8, 8, 8, 8, 8, 8, 8, 8, 8, 8, 8, 8, 8, 8, 8, 8, 8, 8, 8, 8, 8, 8, 8, 8, 8, 8, 8, 8, 8, 8, 8, 8, 8, 8, 8, 8, 8, 8, 8, 8, 8, 8, 8, 8, 8, 8, 8, 8, 8, 8, 8, 8, 8, 8, 8, 8, 8, 8, 8, 8, 8, 8, 8, 8, 8, 8, 8, 8, 8, 8, 8, 8, 8, 8, 8, 8, 8, 8, 8, 8, 8, 8, 8]⟩ : ByteArray) (((a0 / 65536) / 256) % 256)))))) else (none)) else (none)) else (if 0 ≤ ((a0 / 65536) % 256) then (if ((a0 / 65536) % 256) < 256 then (some (wrap64 (16 + (wrap64 (bt (⟨#[0, 1, 2, 2, 3, 3, 3, 3, 4, 4, 4, 4, 4, 4, 4, 4, 5, 5, 5, 5, 5, 5, 5, 5, 5, 5, 5, 5, 5, 5, 5, 5, 6, 6, 6, 6, 6, 6, 6, 6, 6, 6, 6, 6, 6, 6, 6, 6, 6, 6, 6, 6, 6, 6, 6, 6, 6, 6, 6, 6, 6, 6, 6, 6, 7, 7, 7, 7, 7, 7, 7, 7, 7, 7, 7, 7, 7, 7, 7, 7, 7, 7, 7, 7, 7, 7, 7, 7, 7, 7, 7, 7, 7, 7, 7, 7, 7, 7, 7, 7, 7, 7, 7, 7, 7, 7, 7, 7, 7, 7, 7, 7, 7, 7, 7, 7, 7, 7, 7, 7, 7, 7, 7, 7, 7, 7, 7, 7, 8, 8, 8, 8, 8, 8, 8, 8, 8, 8, 8, 8, 8, 8, 8, 8, 8, 8, 8, 8, 8, 8, 8, 8, 8, 8, 8, 8, 8, 8, 8, 8, 8, 8, 8, 8, 8, 8, 8, 8, 8, 8, 8, 8, 8, 8, 8, 8, 8, 8, 8, 8, 8, 8, 8, 8, 8, 8, 8, 8, 8, 8, 8, 8, 8, 8, 8, 8, 8, 8, 8, 8, 8, 8, 8, 8, 8, 8, 8, 8, 8, 8, 8, 8, 8, 8, 8, 8, 8, 8, 8, 8, 8, 8, 8, 8, 8, 8, 8, 8, 8, 8, 8, 8, 8, 8, 8, 8, 8, 8, 8, 8, 8, 8, 8, 8, 8, 8, 8, 8, 8, 8, 8, 8, 8, 8, 8, 8]⟩ : ByteArray) ((a0 / 65536) % 256)))))) else (none)) else (none))) else (if a0 ≥ 256 then (if 0 ≤ ((a0 / 256) % 256) then (if ((a0 / 256) % 256) < 256 then (some (wrap64 ((0 + 8) + (wrap64 (bt (⟨#[0, 1, 2, 2, 3, 3, 3, 3, 4, 4, 4, 4, 4, 4, 4, 4, 5, 5, 5, 5, 5, 5, 5, 5, 5, 5, 5, 5, 5, 5, 5, 5, 6, 6, 6, 6, 6, 6, 6, 6, 6, 6, 6, 6, 6, 6, 6, 6, 6, 6, 6, 6, 6, 6, 6, 6, 6, 6, 6, 6, 6, 6, 6, 6, 7, 7, 7, 7, 7, 7, 7, 7, 7, 7, 7, 7, 7, 7, 7, 7, 7, 7, 7, 7, 7, 7, 7, 7, 7, 7, 7, 7, 7, 7, 7, 7, 7, 7, 7, 7, 7, 7, 7, 7, 7, 7, 7, 7, 7, 7, 7, 7, 7, 7, 7, 7, 7, 7, 7, 7, 7, 7, 7, 7, 7, 7, 7, 7, 8, 8, 8, 8, 8, 8, 8, 8, 8, 8, 8, 8, 8, 8, 8, 8, 8, 8, 8, 8, 8, 8, 8, 8, 8, 8, 8, 8, 8, 8, 8, 8, 8, 8, 8, 8, 8, 8, 8, 8, 8, 8, 8, 8, 8, 8, 8, 8, 8, 8, 8, 8, 8, 8, 8, 8, 8, 8, 8, 8, 8, 8, 8, 8, 8, 8, 8, 8, 8, 8, 8, 8, 8, 8, 8, 8, 8, 8, 8, 8, 8, 8, 8, 8, 8, 8, 8, 8, 8, 8, 8, 8, 8, 8, 8, 8, 8, 8, 8, 8, 8, 8, 8, 8, 8, 8, 8, 8, 8, 8, 8, 8, 8, 8, 8, 8, 8, 8, 8, 8, 8, 8, 8, 8, 8, 8, 8, 8]⟩ : ByteArray) ((a0 / 256) % 256)))))) else (none)) else (none)) else (if 0 ≤ ((a0) % 256) then (if ((a0) % 256) < 256 then (some (wrap64 (0 + (wrap64 (bt (⟨#[0, 1, 2, 2, 3, 3, 3, 3, 4, 4, 4, 4, 4, 4, 4, 4, 5, 5, 5, 5, 5, 5, 5, 5, 5, 5, 5, 5, 5, 5, 5, 5, 6, 6, 6, 6, 6, 6, 6, 6, 6, 6, 6, 6, 6, 6, 6, 6, 6, 6, 6, 6, 6, 6, 6, 6, 6, 6, 6, 6, 6, 6, 6, 6, 7, 7, 7, 7, 7, 7, 7, 7, 7, 7, 7, 7, 7, 7, 7, 7, 7, 7, 7, 7, 7, 7, 7, 7, 7, 7, 7, 7, 7, 7, 7, 7, 7, 7, 7, 7, 7, 7, 7, 7, 7, 7, 7, 7, 7, 7, 7, 7, 7, 7, 7, 7, 7, 7, 7, 7, 7, 7, 7, 7, 7, 7, 7, 7, 8, 8, 8, 8, 8, 8, 8, 8, 8, 8, 8, 8, 8, 8, 8, 8, 8, 8, 8, 8, 8, 8, 8, 8, 8, 8, 8, 8, 8, 8, 8, 8, 8, 8, 8, 8, 8, 8, 8, 8, 8, 8, 8, 8, 8, 8, 8, 8, 8, 8, 8, 8, 8, 8, 8, 8, 8, 8, 8, 8, 8, 8, 8, 8, 8, 8, 8, 8, 8, 8, 8, 8, 8, 8, 8, 8, 8, 8, 8, 8, 8, 8, 8, 8, 8, 8, 8, 8, 8, 8, 8, 8, 8, 8, 8, 8, 8, 8, 8, 8, 8, 8, 8, 8, 8, 8, 8, 8, 8, 8, 8, 8, 8, 8, 8, 8, 8, 8, 8, 8, 8, 8, 8, 8, 8, 8, 8, 8]⟩ : ByteArray) ((a0) % 256)))))) else (none)) else (none)))) = some r := h
 clear h
 by_cases c2 : a0 ≥ 65536
 ·rw [if_pos c2] at H
  have c2b0 : decide (65536 ≤ a0) = true := decide_eq_true c2
  clear c2
  by_cases c3 : (a0 / 65536) ≥ 256
  ·rw [if_pos c3] at H
   have c3b0 : decide (256 ≤ (a0 / 65536)) = true := decide_eq_true c3
   clear c3
   obtain ⟨ji4, hji4⟩ : ∃ j_ : Int, (((a0 / 65536) / 256) % 256) = j_ := ⟨_, rfl⟩
   replace H : (if 0 ≤ (ji4) then (if (ji4) < 256 then (some (wrap64 ((16 + 8) + (wrap64 (bt (⟨#[0, 1, 2, 2, 3, 3, 3, 3, 4, 4, 4, 4, 4, 4, 4, 4, 5, 5, 5, 5, 5, 5, 5, 5, 5, 5, 5, 5, 5, 5, 5, 5, 6, 6, 6, 6, 6, 6, 6, 6, 6, 6, 6, 6, 6, 6, 6, 6, 6, 6, 6, 6, 6, 6, 6, 6, 6, 6, 6, 6, 6, 6, 6, 6, 7, 7, 7, 7, 7, 7, 7, 7, 7, 7, 7, 7, 7, 7, 7, 7, 7, 7, 7, 7, 7, 7, 7, 7, 7, 7, 7, 7, 7, 7, 7, 7, 7, 7, 7, 7, 7, 7, 7, 7, 7, 7, 7, 7, 7, 7, 7, 7, 7, 7, 7, 7, 7, 7, 7, 7, 7, 7, 7, 7, 7, 7, 7, 7, 8, 8, 8, 8, 8, 8, 8, 8, 8, 8, 8, 8, 8, 8, 8, 8, 8, 8, 8, 8, 8, 8, 8, 8, 8, 8, 8, 8, 8, 8, 8, 8, 8, 8, 8, 8, 8, 8, 8, 8, 8, 8, 8, 8, 8, 8, 8, 8, 8, 8, 8, 8, 8, 8, 8, 8, 8, 8, 8, 8, 8, 8, 8, 8, 8, 8, 8, 8, 8, 8, 8, 8, 8, 8, 8, 8, 8, 8, 8, 8, 8, 8, 8, 8, 8, 8, 8, 8, 8, 8, 8, 8, 8, 8, 8, 8, 8, 8, 8, 8, 8, 8, 8, 8, 8, 8, 8, 8, 8, 8, 8, 8, 8, 8, 8, 8, 8, 8, 8, 8, 8, 8, 8, 8, 8, 8, 8, 8]⟩ : ByteArray) (ji4)))))) else (none)) else (none)) = some r := by first | (rw [hji4] at H; exact H) | (simp only [hji4] at H ⊢; exact H)
   by_cases c5 : 0 ≤ (ji4)
   ·rw [if_pos c5] at H
    have c5b0 : decide (0 ≤ (ji4)) = true := decide_eq_true c5
    clear c5
    by_cases c6 : (ji4) < 256
    ·rw [if_pos c6] at H
     have c6b0 : decide ((ji4) < 256) = true := decide_eq_true c6
     clear c6
     obtain rfl := Option.some.inj H
     have p7 : 0 ≤ ((ji4) : Int) := of_decide_eq_true aS
     have q7 : (ji4) < (256 : Int) := of_decide_eq_true aS
     have hx7 := bt_at (⟨#[0, 1, 2, 2, 3, 3, 3, 3, 4, 4, 4, 4, 4, 4, 4, 4, 5, 5, 5, 5, 5, 5, 5, 5, 5, 5, 5, 5, 5, 5, 5, 5, 6, 6, 6, 6, 6, 6, 6, 6, 6, 6, 6, 6, 6, 6, 6, 6, 6, 6, 6, 6, 6, 6, 6, 6, 6, 6, 6, 6, 6, 6, 6, 6, 7, 7, 7, 7, 7, 7, 7, 7, 7, 7, 7, 7, 7, 7, 7, 7, 7, 7, 7, 7, 7, 7, 7, 7, 7, 7, 7, 7, 7, 7, 7, 7, 7, 7, 7, 7, 7, 7, 7, 7, 7, 7, 7, 7, 7, 7, 7, 7, 7, 7, 7, 7, 7, 7, 7, 7, 7, 7, 7, 7, 7, 7, 7, 7, 8, 8, 8, 8, 8, 8, 8, 8, 8, 8, 8, 8, 8, 8, 8, 8, 8, 8, 8, 8, 8, 8, 8, 8, 8, 8, 8, 8, 8, 8, 8, 8, 8, 8, 8, 8, 8, 8, 8, 8, 8, 8, 8, 8, 8, 8, 8, 8, 8, 8, 8, 8, 8, 8, 8, 8, 8, 8, 8, 8, 8, 8, 8, 8, 8, 8, 8, 8, 8, 8, 8, 8, 8, 8, 8, 8, 8, 8, 8, 8, 8, 8, 8, 8, 8, 8, 8, 8, 8, 8, 8, 8, 8, 8, 8, 8, 8, 8, 8, 8, 8, 8, 8, 8, 8, 8, 8, 8, 8, 8, 8, 8, 8, 8, 8, 8, 8, 8, 8, 8, 8, 8, 8, 8, 8, 8, 8, 8]⟩ : ByteArray) (ji4)
     replace p7 := eq_true p7
     replace q7 := eq_true q7
     go_enter Try.func71, Try.ntmps71
     go_wp2
     go_ret
     exact ⟨by first | rfl | (simp; done) | (simp only [← hji4] <;> (first | rfl | simp)) | (simp [*]; done), by repeat (first | exact Drawn0.refl _ | apply Drawn0.step)⟩
    ·rw [if_neg c6] at H
     exact absurd H (by simp)
   ·rw [if_neg c5] at H
    exact absurd H (by simp)
  ·rw [if_neg c3] at H
   have c3b0 : decide (256 ≤ (a0 / 65536)) = false := decide_eq_false c3
   clear c3
   obtain ⟨ji8, hji8⟩ : ∃ j_ : Int, ((a0 / 65536) % 256) = j_ := ⟨_, rfl⟩
   replace H : (if 0 ≤ (ji8) then (if (ji8) < 256 then (some (wrap64 (16 + (wrap64 (bt (⟨#[0, 1, 2, 2, 3, 3, 3, 3, 4, 4, 4, 4, 4, 4, 4, 4, 5, 5, 5, 5, 5, 5, 5, 5, 5, 5, 5, 5, 5, 5, 5, 5, 6, 6, 6, 6, 6, 6, 6, 6, 6, 6, 6, 6, 6, 6, 6, 6, 6, 6, 6, 6, 6, 6, 6, 6, 6, 6, 6, 6, 6, 6, 6, 6, 7, 7, 7, 7, 7, 7, 7, 7, 7, 7, 7, 7, 7, 7, 7, 7, 7, 7, 7, 7, 7, 7, 7, 7, 7, 7, 7, 7, 7, 7, 7, 7, 7, 7, 7, 7, 7, 7, 7, 7, 7, 7, 7, 7, 7, 7, 7, 7, 7, 7, 7, 7, 7, 7, 7, 7, 7, 7, 7, 7, 7, 7, 7, 7, 8, 8, 8, 8, 8, 8, 8, 8, 8, 8, 8, 8, 8, 8, 8, 8, 8, 8, 8, 8, 8, 8, 8, 8, 8, 8, 8, 8, 8, 8, 8, 8, 8, 8, 8, 8, 8, 8, 8, 8, 8, 8, 8, 8, 8, 8, 8, 8, 8, 8, 8, 8, 8, 8, 8, 8, 8, 8, 8, 8, 8, 8, 8, 8, 8, 8, 8, 8, 8, 8, 8, 8, 8, 8, 8, 8, 8, 8, 8, 8, 8, 8, 8, 8, 8, 8, 8, 8, 8, 8, 8, 8, 8, 8, 8, 8, 8, 8, 8, 8, 8, 8, 8, 8, 8, 8, 8, 8, 8, 8, 8, 8, 8, 8, 8, 8, 8, 8, 8, 8, 8, 8, 8, 8, 8, 8, 8, 8]⟩ : ByteArray) (ji8)))))) else (none)) else (none)) = some r := by first | (rw [hji8] at H; exact H) | (simp only [hji8] at H ⊢; exact H)
   by_cases c9 : 0 ≤ (ji8)
   ·rw [if_pos c9] at H
    have c9b0 : decide (0 ≤ (ji8)) = true := decide_eq_true c9
    clear c9
    by_cases c10 : (ji8) < 256
    ·rw [if_pos c10] at H
     have c10b0 : decide ((ji8) < 256) = true := decide_eq_true c10
     clear c10
     obtain rfl := Option.some.inj H
     have p11 : 0 ≤ ((ji8) : Int) := of_decide_eq_true aS
     have q11 : (ji8) < (256 : Int) := of_decide_eq_true aS
     have hx11 := bt_at (⟨#[0, 1, 2, 2, 3, 3, 3, 3, 4, 4, 4, 4, 4, 4, 4, 4, 5, 5, 5, 5, 5, 5, 5, 5, 5, 5, 5, 5, 5, 5, 5, 5, 6, 6, 6, 6, 6, 6, 6, 6, 6, 6, 6, 6, 6, 6, 6, 6, 6, 6, 6, 6, 6, 6, 6, 6, 6, 6, 6, 6, 6, 6, 6, 6, 7, 7, 7, 7, 7, 7, 7, 7, 7, 7, 7, 7, 7, 7, 7, 7, 7, 7, 7, 7, 7, 7, 7, 7, 7, 7, 7, 7, 7, 7, 7, 7, 7, 7, 7, 7, 7, 7, 7, 7, 7, 7, 7, 7, 7, 7, 7, 7, 7, 7, 7, 7, 7, 7, 7, 7, 7, 7, 7, 7, 7, 7, 7, 7, 8, 8, 8, 8, 8, 8, 8, 8, 8, 8, 8, 8, 8, 8, 8, 8, 8, 8, 8, 8, 8, 8, 8, 8, 8, 8, 8, 8, 8, 8, 8, 8, 8, 8, 8, 8, 8, 8, 8, 8, 8, 8, 8, 8, 8, 8, 8, 8, 8, 8, 8, 8, 8, 8, 8, 8, 8, 8, 8, 8, 8, 8, 8, 8, 8, 8, 8, 8, 8, 8, 8, 8, 8, 8, 8, 8, 8, 8, 8, 8, 8, 8, 8, 8, 8, 8, 8, 8, 8, 8, 8, 8, 8, 8, 8, 8, 8, 8, 8, 8, 8, 8, 8, 8, 8, 8, 8, 8, 8, 8, 8, 8, 8, 8, 8, 8, 8, 8, 8, 8, 8, 8, 8, 8, 8, 8, 8, 8]⟩ : ByteArray) (ji8)
     replace p11 := eq_true p11
     replace q11 := eq_true q11
     go_enter Try.func71, Try.ntmps71
     go_wp2
     go_ret
     exact ⟨by first | rfl | (simp; done) | (simp only [← hji8] <;> (first | rfl | simp)) | (simp [*]; done), by repeat (first | exact Drawn0.refl _ | apply Drawn0.step)⟩
    ·rw [if_neg c10] at H
     exact absurd H (by simp)
   ·rw [if_neg c9] at H
    exact absurd H (by simp)
 ·rw [if_neg c2] at H
  have c2b0 : decide (65536 ≤ a0) = false := decide_eq_false c2
  clear c2
  by_cases c12 : a0 ≥ 256
  ·rw [if_pos c12] at H
   have c12b0 : decide (256 ≤ a0) = true := decide_eq_true c12
   clear c12
   obtain ⟨ji13, hji13⟩ : ∃ j_ : Int, ((a0 / 256) % 256) = j_ := ⟨_, rfl⟩
   replace H : (if 0 ≤ (ji13) then (if (ji13) < 256 then (some (wrap64 ((0 + 8) + (wrap64 (bt (⟨#[0, 1, 2, 2, 3, 3, 3, 3, 4, 4, 4, 4, 4, 4, 4, 4, 5, 5, 5, 5, 5, 5, 5, 5, 5, 5, 5, 5, 5, 5, 5, 5, 6, 6, 6, 6, 6, 6, 6, 6, 6, 6, 6, 6, 6, 6, 6, 6, 6, 6, 6, 6, 6, 6, 6, 6, 6, 6, 6, 6, 6, 6, 6, 6, 7, 7, 7, 7, 7, 7, 7, 7, 7, 7, 7, 7, 7, 7, 7, 7, 7, 7, 7, 7, 7, 7, 7, 7, 7, 7, 7, 7, 7, 7, 7, 7, 7, 7, 7, 7, 7, 7, 7, 7, 7, 7, 7, 7, 7, 7, 7, 7, 7, 7, 7, 7, 7, 7, 7, 7, 7, 7, 7, 7, 7, 7, 7, 7, 8, 8, 8, 8, 8, 8, 8, 8, 8, 8, 8, 8, 8, 8, 8, 8, 8, 8, 8, 8, 8, 8, 8, 8, 8, 8, 8, 8, 8, 8, 8, 8, 8, 8, 8, 8, 8, 8, 8, 8, 8, 8, 8, 8, 8, 8, 8, 8, 8, 8, 8, 8, 8, 8, 8, 8, 8, 8, 8, 8, 8, 8, 8, 8, 8, 8, 8, 8, 8, 8, 8, 8, 8, 8, 8, 8, 8, 8, 8, 8, 8, 8, 8, 8, 8, 8, 8, 8, 8, 8, 8, 8, 8, 8, 8, 8, 8, 8, 8, 8, 8, 8, 8, 8, 8, 8, 8, 8, 8, 8, 8, 8, 8, 8, 8, 8, 8, 8, 8, 8, 8, 8, 8, 8, 8, 8, 8, 8]⟩ : ByteArray) (ji13)))))) else (none)) else (none)) = some r := by first | (rw [hji13] at H; exact H) | (simp only [hji13] at H ⊢; exact H)
   by_cases c14 : 0 ≤ (ji13)
   ·rw [if_pos c14] at H
    have c14b0 : decide (0 ≤ (ji13)) = true := decide_eq_true c14
    clear c14
    by_cases c15 : (ji13) < 256
    ·rw [if_pos c15] at H
     have c15b0 : decide ((ji13) < 256) = true := decide_eq_true c15
     clear c15
     obtain rfl := Option.some.inj H
     have p16 : 0 ≤ ((ji13) : Int) := of_decide_eq_true aS
     have q16 : (ji13) < (256 : Int) := of_decide_eq_true aS
     have hx16 := bt_at (⟨#[0, 1, 2, 2, 3, 3, 3, 3, 4, 4, 4, 4, 4, 4, 4, 4, 5, 5, 5, 5, 5, 5, 5, 5, 5, 5, 5, 5, 5, 5, 5, 5, 6, 6, 6, 6, 6, 6, 6, 6, 6, 6, 6, 6, 6, 6, 6, 6, 6, 6, 6, 6, 6, 6, 6, 6, 6, 6, 6, 6, 6, 6, 6, 6, 7, 7, 7, 7, 7, 7, 7, 7, 7, 7, 7, 7, 7, 7, 7, 7, 7, 7, 7, 7, 7, 7, 7, 7, 7, 7, 7, 7, 7, 7, 7, 7, 7, 7, 7, 7, 7, 7, 7, 7, 7, 7, 7, 7, 7, 7, 7, 7, 7, 7, 7, 7, 7, 7, 7, 7, 7, 7, 7, 7, 7, 7, 7, 7, 8, 8, 8, 8, 8, 8, 8, 8, 8, 8, 8, 8, 8, 8, 8, 8, 8, 8, 8, 8, 8, 8, 8, 8, 8, 8, 8, 8, 8, 8, 8, 8, 8, 8, 8, 8, 8, 8, 8, 8, 8, 8, 8, 8, 8, 8, 8, 8, 8, 8, 8, 8, 8, 8, 8, 8, 8, 8, 8, 8, 8, 8, 8, 8, 8, 8, 8, 8, 8, 8, 8, 8, 8, 8, 8, 8, 8, 8, 8, 8, 8, 8, 8, 8, 8, 8, 8, 8, 8, 8, 8, 8, 8, 8, 8, 8, 8, 8, 8, 8, 8, 8, 8, 8, 8, 8, 8, 8, 8, 8, 8, 8, 8, 8, 8, 8, 8, 8, 8, 8, 8, 8, 8, 8, 8, 8, 8, 8]⟩ : ByteArray) (ji13)
     replace p16 := eq_true p16
     replace q16 := eq_true q16
     go_enter Try.func71, Try.ntmps71
     go_wp2
     go_ret
     exact ⟨by first | rfl | (simp; done) | (simp only [← hji13] <;> (first | rfl | simp)) | (simp [*]; done), by repeat (first | exact Drawn0.refl _ | apply Drawn0.step)⟩
    ·rw [if_neg c15] at H
     exact absurd H (by simp)
   ·rw [if_neg c14] at H
    exact absurd H (by simp)
  ·rw [if_neg c12] at H
   have c12b0 : decide (256 ≤ a0) = false := decide_eq_false c12
   clear c12
   obtain ⟨ji17, hji17⟩ : ∃ j_ : Int, ((a0) % 256) = j_ := ⟨_, rfl⟩
   replace H : (if 0 ≤ (ji17) then (if (ji17) < 256 then (some (wrap64 (0 + (wrap64 (bt (⟨#[0, 1, 2, 2, 3, 3, 3, 3, 4, 4, 4, 4, 4, 4, 4, 4, 5, 5, 5, 5, 5, 5, 5, 5, 5, 5, 5, 5, 5, 5, 5, 5, 6, 6, 6, 6, 6, 6, 6, 6, 6, 6, 6, 6, 6, 6, 6, 6, 6, 6, 6, 6, 6, 6, 6, 6, 6, 6, 6, 6, 6, 6, 6, 6, 7, 7, 7, 7, 7, 7, 7, 7, 7, 7, 7, 7, 7, 7, 7, 7, 7, 7, 7, 7, 7, 7, 7, 7, 7, 7, 7, 7, 7, 7, 7, 7, 7, 7, 7, 7, 7, 7, 7, 7, 7, 7, 7, 7, 7, 7, 7, 7, 7, 7, 7, 7, 7, 7, 7, 7, 7, 7, 7, 7, 7, 7, 7, 7, 8, 8, 8, 8, 8, 8, 8, 8, 8, 8, 8, 8, 8, 8, 8, 8, 8, 8, 8, 8, 8, 8, 8, 8, 8, 8, 8, 8, 8, 8, 8, 8, 8, 8, 8, 8, 8, 8, 8, 8, 8, 8, 8, 8, 8, 8, 8, 8, 8, 8, 8, 8, 8, 8, 8, 8, 8, 8, 8, 8, 8, 8, 8, 8, 8, 8, 8, 8, 8, 8, 8, 8, 8, 8, 8, 8, 8, 8, 8, 8, 8, 8, 8, 8, 8, 8, 8, 8, 8, 8, 8, 8, 8, 8, 8, 8, 8, 8, 8, 8, 8, 8, 8, 8, 8, 8, 8, 8, 8, 8, 8, 8, 8, 8, 8, 8, 8, 8, 8, 8, 8, 8, 8, 8, 8, 8, 8, 8]⟩ : ByteArray) (ji17)))))) else (none)) else (none)) = some r := by first | (rw [hji17] at H; exact H) | (simp only [hji17] at H ⊢; exact H)
   by_cases c18 : 0 ≤ (ji17)
   ·rw [if_pos c18] at H
    have c18b0 : decide (0 ≤ (ji17)) = true := decide_eq_true c18
    clear c18
    by_cases c19 : (ji17) < 256
    ·rw [if_pos c19] at H
     have c19b0 : decide ((ji17) < 256) = true := decide_eq_true c19
     clear c19
     obtain rfl := Option.some.inj H
     have p20 : 0 ≤ ((ji17) : Int) := of_decide_eq_true aS
     have q20 : (ji17) < (256 : Int) := of_decide_eq_true aS
     have hx20 := bt_at (⟨#[0, 1, 2, 2, 3, 3, 3, 3, 4, 4, 4, 4, 4, 4, 4, 4, 5, 5, 5, 5, 5, 5, 5, 5, 5, 5, 5, 5, 5, 5, 5, 5, 6, 6, 6, 6, 6, 6, 6, 6, 6, 6, 6, 6, 6, 6, 6, 6, 6, 6, 6, 6, 6, 6, 6, 6, 6, 6, 6, 6, 6, 6, 6, 6, 7, 7, 7, 7, 7, 7, 7, 7, 7, 7, 7, 7, 7, 7, 7, 7, 7, 7, 7, 7, 7, 7, 7, 7, 7, 7, 7, 7, 7, 7, 7, 7, 7, 7, 7, 7, 7, 7, 7, 7, 7, 7, 7, 7, 7, 7, 7, 7, 7, 7, 7, 7, 7, 7, 7, 7, 7, 7, 7, 7, 7, 7, 7, 7, 8, 8, 8, 8, 8, 8, 8, 8, 8, 8, 8, 8, 8, 8, 8, 8, 8, 8, 8, 8, 8, 8, 8, 8, 8, 8, 8, 8, 8, 8, 8, 8, 8, 8, 8, 8, 8, 8, 8, 8, 8, 8, 8, 8, 8, 8, 8, 8, 8, 8, 8, 8, 8, 8, 8, 8, 8, 8, 8, 8, 8, 8, 8, 8, 8, 8, 8, 8, 8, 8, 8, 8, 8, 8, 8, 8, 8, 8, 8, 8, 8, 8, 8, 8, 8, 8, 8, 8, 8, 8, 8, 8, 8, 8, 8, 8, 8, 8, 8, 8, 8, 8, 8, 8, 8, 8, 8, 8, 8, 8, 8, 8, 8, 8, 8, 8, 8, 8, 8, 8, 8, 8, 8, 8, 8, 8, 8, 8]⟩ : ByteArray) (ji17)
     replace p20 := eq_true p20
     replace q20 := eq_true q20
     go_enter Try.func71, Try.ntmps71
     go_wp2
     go_ret
     exact ⟨by first | rfl | (simp; done) | (simp only [← hji17] <;> (first | rfl | simp)) | (simp [*]; done), by repeat (first | exact Drawn0.refl _ | apply Drawn0.step)⟩
    ·rw [if_neg c19] at H
     exact absurd H (by simp)
   ·rw [if_neg c18] at H
    exact absurd H (by simp)
end Go.Proofs.Ytfmobogdnlmdbaa.P
end
section
namespace Go.Proofs.Ytfmobogdnlmdbaa.P
open Go.RowKit Go.Proofs.YtfmobogdnlmdbaaW.PrintWords Go.Proofs.YtfmobogdnlmdbaaW.PrintLast Go.Proofs.YtfmobogdnlmdbaaW.PrintMore Go.Proofs.YtfmobogdnlmdbaaW
attribute [local go_sem] max2_int min2_int max_two min_two max_three min_three max_four min_four
set_option linter.unusedVariables false
set_option linter.unusedSimpArgs false
set_option maxHeartbeats 8000000 in
set_option maxRecDepth 100000 in
theorem mag_Shl.calls (k : Nat) (A0 : Option Addr) (c0 : Nat) (l0 : List Int) (a1 : Int) (r : List Int) (w : World) (hr0 : Kd.C (Kd.int .u32) w A0 l0.length l0) (hc0 : l0.length ≤ c0) (h : mag_Shl.f k l0 a1 = some r) :
  Calls Try.prog 46 #[.slice A0 l0.length c0, .int .i64 a1] w fun e w' => ∃ v0_ : Value, e = .returned (v0_) ∧ Kd.V (Kd.int .u32) 36 w' w.heap.size (fun k_ => (w.heap.size ≤ k_)) v0_ r ∧ Below w.heap.size w w' := by
 have HR0 := Aside0.mk hr0
 have HC0 := Aside0.mk hc0
 clear hr0 hc0
 have HB := Aside0.mk (Below.refl w.heap.size w)
 have H : (if (l0.length : Int) = 0 then (some ([] : List Int)) else (if 0 ≤ (wrap64 ((wrap64 ((l0.length : Int) + (wrap64 (Int.tdiv a1 32)))) + 1)) then (if (wrap64 ((wrap64 ((l0.length : Int) + (wrap64 (Int.tdiv a1 32)))) + 1) : Int).toNat ≤ 70368744177664 then (mag_Shl.l0 k (wrap64 (Int.tdiv a1 32)) (IntKind.u64.wrap (Int.tmod a1 32)) (List.replicate (wrap64 ((wrap64 ((l0.length : Int) + (wrap64 (Int.tdiv a1 32)))) + 1) : Int).toNat 0) l0 (l0.length : Int) 0) else (none)) else (none))) = some r := h
 clear h
 by_cases c3 : (l0.length : Int) = 0
 ·rw [if_pos c3] at H
  have c3b0 : ((l0.length : Int) == 0) = true := beq_iff_eq.mpr c3
  have c3b1 : ((l0.length : Int) != 0) = false := bne_eq_false_iff_eq.mpr c3
  clear c3
  obtain rfl := Option.some.inj H
  go_enter Try.func46, Try.ntmps46
  go_wp2
  go_ret
  exact ⟨_, by first | rfl | (simp [errW_none, errW_some] <;> rfl) | (simp [*, errW_none, errW_some] <;> rfl), Kd.V_nil _ _ _ _ _, by repeat (first | (with_reducible first | exact HB.out | apply below_alloc | apply pw_below_drewN | apply below_drew1) | exact HB.out)⟩
 ·rw [if_neg c3] at H
  have c3b0 : ((l0.length : Int) == 0) = false := beq_eq_false_iff_ne.mpr c3
  have c3b1 : ((l0.length : Int) != 0) = true := bne_iff_ne.mpr c3
  have c3b2 : ¬ (l0 = []) := fun h_ => c3 (by rw [h_]; rfl)
  obtain ⟨ji4, hji4⟩ : ∃ j_ : Int, (wrap64 ((wrap64 ((l0.length : Int) + (wrap64 (Int.tdiv a1 32)))) + 1)) = j_ := ⟨_, rfl⟩
  replace H : (if 0 ≤ (ji4) then (if (ji4 : Int).toNat ≤ 70368744177664 then (mag_Shl.l0 k (wrap64 (Int.tdiv a1 32)) (IntKind.u64.wrap (Int.tmod a1 32)) (List.replicate (ji4 : Int).toNat 0) l0 (l0.length : Int) 0) else (none)) else (none)) = some r := by first | (rw [hji4] at H; exact H) | (simp only [hji4] at H ⊢; exact H)
  have hji4w : (IntKind.i64.wrap ((wrap64 ((l0.length : Int) + (wrap64 (Int.tdiv a1 32)))) + 1)) = ji4 := (i64_w _).trans hji4
  by_cases c5 : 0 ≤ (ji4)
  ·rw [if_pos c5] at H
   have c5b0 := eq_true c5
   have c5b1 : decide (0 ≤ (ji4)) = true := decide_eq_true c5
   clear c5
   by_cases c6 : (ji4 : Int).toNat ≤ 70368744177664
   ·rw [if_pos c6] at H
    have c6b0 := eq_true c6
    have c6b1 : decide ((ji4 : Int).toNat ≤ 70368744177664) = true := decide_eq_true c6
    clear c6
    obtain ⟨y132, hy132⟩ : ∃ y_ : List Int, y_ = (List.replicate (ji4 : Int).toNat 0) := ⟨_, rfl⟩
    replace H : (mag_Shl.l0 k (wrap64 (Int.tdiv a1 32)) (IntKind.u64.wrap (Int.tmod a1 32)) y132 l0 (l0.length : Int) 0) = some r := by first | (rw [hy132]; with_reducible exact H) | (have H2_ := (Option.bind_some _ _).symm.trans H; rw [hy132]; with_reducible exact H2_) | (have H2_ := (Option.bind_some _ _).symm.trans H; with_reducible exact H2_) | with_reducible exact H | (rw [hy132]; exact H) | exact H
    have Ny132 := Aside0.mk hy132
    clear hy132
    have H' := Aside0.mk H
    clear H
    go_enter Try.func46, Try.ntmps46
    go_wp2_with (first | ((with_reducible refine gate_dst (N := 24) rfl ?_); refine Kd.R_make (Kd.int .u32) _ 36 rfl (N := 24) rfl 22 _ _ rfl ji4 rfl rfl Try.underlying22 (.int .u32 0) 4 info36 rfl (by decide) (by omega) 0 (ok := fun _ => True) (okp := fun _ => True) rfl (fun _ hk => hk) trivial (of_decide_eq_true aS) (Nat.le_trans (Nat.mul_le_mul_right _ (of_decide_eq_true aS : ji4.toNat ≤ 70368744177664)) (by omega)) (Below.refl _ _) (Nat.le_refl _) ?_; intro v133 w7 ho8 hb hg_ hnew_; clear hg_ hnew_; (first | rw [← Ny132.out] at ho8 | (simp only [Int.reduceToNat] at ho8; rw [← Ny132.out] at ho8)); have n0_ := Aside0.mk (Kd.R_lower (Kd.R_newM (M := fun k_ => (w.heap.size ≤ k_)) ho8 (below_size (bB)) (fun k_ h_ => h_)) (below_size (bB))); have n1_ := Aside0.mk (below_step (bB) hb); clear HB; have HO134 := n0_; have HB := n1_; clear n0_ n1_; clear hb ho8))
    go_loopg [27] k (fun kq v27 w' => ∃ (x7_1 : List Int) (x27_1 : Int), v27 = .int .i64 x27_1 ∧ Aside0 (mag_Shl.l0 kq (wrap64 (Int.tdiv a1 32)) (IntKind.u64.wrap (Int.tmod a1 32)) x7_1 l0 (l0.length : Int) x27_1 = some r) ∧ Aside0 (kq ≤ k) ∧ Aside0 (Kd.R (Kd.int .u32) 36 w' w.heap.size (fun k_ => (w.heap.size ≤ k_)) v133 x7_1) ∧ Aside0 (Below w.heap.size w w'))
    case atStart => exact ⟨(y132), (0), (by first | rfl | (simp; done) | (simp [*]; done)), H', ⟨Nat.le_refl _⟩, ⟨by (with_reducible repeat (first | apply Kd.R_alloc | apply Kd.R_drewN | apply Kd.R_drew)); exact Kd.R_mono HO134.out (fun _ hk => hk.1)⟩, ⟨by repeat (first | (with_reducible first | exact HB.out | apply below_alloc | apply pw_below_drewN | apply below_drew1) | exact HB.out)⟩⟩
    case round =>
     clear H'
     try clear p2
     try clear c3
     try clear c3b0
     try clear c3b1
     try clear c3b2
     try clear c4
     try clear c5
     try clear c5b0
     try clear c5b1
     try clear c6
     try clear c6b0
     try clear c6b1
     try clear p6
     obtain ⟨x7_1, x27_1, rfl, HA, HK1, HO_7, HB⟩ := hrel
     cases gk with
     | zero => exact absurd HA.out (by simp [mag_Shl.l0])
     | succ k1 =>
      have H := HA.out
      clear HA
      simp only [mag_Shl.l0] at H
      by_cases c9 : x27_1 < (l0.length : Int)
      ·rw [if_pos c9] at H
       have c9b0 : decide (x27_1 < (l0.length : Int)) = true := decide_eq_true c9
       clear c9
       by_cases c10 : 0 ≤ x27_1
       ·rw [if_pos c10] at H
        have c10b0 : decide (0 ≤ x27_1) = true := decide_eq_true c10
        clear c10
        by_cases c11 : x27_1 < (l0.length : Int)
        ·rw [if_pos c11] at H
         have c11b0 : decide (x27_1 < (l0.length : Int)) = true := decide_eq_true c11
         clear c11
         obtain ⟨ji12, hji12⟩ : ∃ j_ : Int, (IntKind.u64.wrap (Int.tmod a1 32)) = j_ := ⟨_, rfl⟩
         replace H : (if 0 ≤ (ji12) then (if 0 ≤ (wrap64 (x27_1 + (wrap64 (Int.tdiv a1 32)))) then (if (wrap64 (x27_1 + (wrap64 (Int.tdiv a1 32)))) < (x7_1.length : Int) then (if 0 ≤ (wrap64 ((wrap64 (x27_1 + (wrap64 (Int.tdiv a1 32)))) + 1)) then (if (wrap64 ((wrap64 (x27_1 + (wrap64 (Int.tdiv a1 32)))) + 1)) < (x7_1.length : Int) then (mag_Shl.l0 k1 (wrap64 (Int.tdiv a1 32)) (ji12) ((x7_1.set ((wrap64 (x27_1 + (wrap64 (Int.tdiv a1 32)))) : Int).toNat (Go.bits .or .u32 (rd x7_1 (wrap64 (x27_1 + (wrap64 (Int.tdiv a1 32))))) ((shl .u64 (IntKind.u64.wrap (rd l0 x27_1)) (ji12)) % 4294967296))).set ((wrap64 ((wrap64 (x27_1 + (wrap64 (Int.tdiv a1 32)))) + 1)) : Int).toNat (((shl .u64 (IntKind.u64.wrap (rd l0 x27_1)) (ji12)) / 4294967296) % 4294967296)) l0 (l0.length : Int) (wrap64 (x27_1 + 1))) else (none)) else (none)) else (none)) else (none)) else (none)) = some r := by first | (rw [hji12] at H; exact H) | (simp only [hji12] at H ⊢; exact H)
         by_cases c13 : 0 ≤ (ji12)
         ·rw [if_pos c13] at H
          have c13b0 := eq_true c13
          have c13b1 : decide (0 ≤ (ji12)) = true := decide_eq_true c13
          clear c13
          obtain ⟨ji14, hji14⟩ : ∃ j_ : Int, (shl .u64 (IntKind.u64.wrap (rd l0 x27_1)) (ji12)) = j_ := ⟨_, rfl⟩
          replace H : (if 0 ≤ (wrap64 (x27_1 + (wrap64 (Int.tdiv a1 32)))) then (if (wrap64 (x27_1 + (wrap64 (Int.tdiv a1 32)))) < (x7_1.length : Int) then (if 0 ≤ (wrap64 ((wrap64 (x27_1 + (wrap64 (Int.tdiv a1 32)))) + 1)) then (if (wrap64 ((wrap64 (x27_1 + (wrap64 (Int.tdiv a1 32)))) + 1)) < (x7_1.length : Int) then (mag_Shl.l0 k1 (wrap64 (Int.tdiv a1 32)) (ji12) ((x7_1.set ((wrap64 (x27_1 + (wrap64 (Int.tdiv a1 32)))) : Int).toNat (Go.bits .or .u32 (rd x7_1 (wrap64 (x27_1 + (wrap64 (Int.tdiv a1 32))))) ((ji14) % 4294967296))).set ((wrap64 ((wrap64 (x27_1 + (wrap64 (Int.tdiv a1 32)))) + 1)) : Int).toNat (((ji14) / 4294967296) % 4294967296)) l0 (l0.length : Int) (wrap64 (x27_1 + 1))) else (none)) else (none)) else (none)) else (none)) = some r := by first | (rw [hji14] at H; exact H) | (simp only [hji14] at H ⊢; exact H)
          have hji14_ : (IntKind.u64.wrap ((IntKind.u64.wrap (rd l0 x27_1)) * 2 ^ min (ji12).toNat 64)) = ji14 := hji14
          have hji14z : (ji12) ≤ 64 → (IntKind.u64.wrap ((IntKind.u64.wrap (rd l0 x27_1)) * 2 ^ (ji12).toNat)) = ji14 := shl_small hji14
          obtain ⟨ji15, hji15⟩ : ∃ j_ : Int, (wrap64 (x27_1 + (wrap64 (Int.tdiv a1 32)))) = j_ := ⟨_, rfl⟩
          replace H : (if 0 ≤ (ji15) then (if (ji15) < (x7_1.length : Int) then (if 0 ≤ (wrap64 ((ji15) + 1)) then (if (wrap64 ((ji15) + 1)) < (x7_1.length : Int) then (mag_Shl.l0 k1 (wrap64 (Int.tdiv a1 32)) (ji12) ((x7_1.set ((ji15) : Int).toNat (Go.bits .or .u32 (rd x7_1 (ji15)) ((ji14) % 4294967296))).set ((wrap64 ((ji15) + 1)) : Int).toNat (((ji14) / 4294967296) % 4294967296)) l0 (l0.length : Int) (wrap64 (x27_1 + 1))) else (none)) else (none)) else (none)) else (none)) = some r := by first | (rw [hji15] at H; exact H) | (simp only [hji15] at H ⊢; exact H)
          have hji15w : (IntKind.i64.wrap (x27_1 + (wrap64 (Int.tdiv a1 32)))) = ji15 := (i64_w _).trans hji15
          by_cases c16 : 0 ≤ (ji15)
          ·rw [if_pos c16] at H
           have c16b0 : decide (0 ≤ (ji15)) = true := decide_eq_true c16
           clear c16
           by_cases c17 : (ji15) < (x7_1.length : Int)
           ·rw [if_pos c17] at H
            have c17b0 : decide ((ji15) < (x7_1.length : Int)) = true := decide_eq_true c17
            clear c17
            obtain ⟨y137, hy137⟩ : ∃ y_ : List Int, y_ = (x7_1.set ((ji15) : Int).toNat (Go.bits .or .u32 (rd x7_1 (ji15)) ((ji14) % 4294967296))) := ⟨_, rfl⟩
            replace H : (if 0 ≤ (wrap64 ((ji15) + 1)) then (if (wrap64 ((ji15) + 1)) < (x7_1.length : Int) then (mag_Shl.l0 k1 (wrap64 (Int.tdiv a1 32)) (ji12) (y137.set ((wrap64 ((ji15) + 1)) : Int).toNat (((ji14) / 4294967296) % 4294967296)) l0 (l0.length : Int) (wrap64 (x27_1 + 1))) else (none)) else (none)) = some r := by first | (rw [hy137]; with_reducible exact H) | (have H2_ := (Option.bind_some _ _).symm.trans H; rw [hy137]; with_reducible exact H2_) | (have H2_ := (Option.bind_some _ _).symm.trans H; with_reducible exact H2_) | with_reducible exact H | (rw [hy137]; exact H) | exact H
            have Ny137 := Aside0.mk hy137
            clear hy137
            obtain ⟨ji19, hji19⟩ : ∃ j_ : Int, (wrap64 ((ji15) + 1)) = j_ := ⟨_, rfl⟩
            replace H : (if 0 ≤ (ji19) then (if (ji19) < (x7_1.length : Int) then (mag_Shl.l0 k1 (wrap64 (Int.tdiv a1 32)) (ji12) (y137.set ((ji19) : Int).toNat (((ji14) / 4294967296) % 4294967296)) l0 (l0.length : Int) (wrap64 (x27_1 + 1))) else (none)) else (none)) = some r := by first | (rw [hji19] at H; exact H) | (simp only [hji19] at H ⊢; exact H)
            have hji19w : (IntKind.i64.wrap ((ji15) + 1)) = ji19 := (i64_w _).trans hji19
            by_cases c20 : 0 ≤ (ji19)
            ·rw [if_pos c20] at H
             have c20b0 : decide (0 ≤ (ji19)) = true := decide_eq_true c20
             clear c20
             by_cases c21 : (ji19) < (x7_1.length : Int)
             ·rw [if_pos c21] at H
              have c21b0 : decide ((ji19) < (x7_1.length : Int)) = true := decide_eq_true c21
              clear c21
              obtain ⟨y138, hy138⟩ : ∃ y_ : List Int, y_ = (y137.set ((ji19) : Int).toNat (((ji14) / 4294967296) % 4294967296)) := ⟨_, rfl⟩
              replace H : (mag_Shl.l0 k1 (wrap64 (Int.tdiv a1 32)) (ji12) y138 l0 (l0.length : Int) (wrap64 (x27_1 + 1))) = some r := by first | (rw [hy138]; with_reducible exact H) | (have H2_ := (Option.bind_some _ _).symm.trans H; rw [hy138]; with_reducible exact H2_) | (have H2_ := (Option.bind_some _ _).symm.trans H; with_reducible exact H2_) | with_reducible exact H | (rw [hy138]; exact H) | exact H
              have Ny138 := Aside0.mk hy138
              clear hy138
              have H' := Aside0.mk H
              clear H
              have p135 : 0 ≤ (x27_1 : Int) := of_decide_eq_true aS
              have q135 : x27_1 < (l0.length : Int) := of_decide_eq_true aS
              obtain ⟨ad135, e135, hx135_0⟩ := Kd.at_int HR0.out x27_1 p135 q135
              cases e135
              replace hx135_0 := (HB.out.cell (World.block_lt_of_cell? w _ hx135_0)).trans hx135_0
              replace p135 := eq_true p135
              replace q135 := eq_true q135
              obtain ⟨Ao23, co23, eo23⟩ := Kd.R_slice HO_7.out
              subst eo23
              have p136 : 0 ≤ ((ji15) : Int) := of_decide_eq_true aS
              have q136 : (ji15) < (x7_1.length : Int) := of_decide_eq_true aS
              obtain ⟨ad136, e136, hx136_0⟩ := Kd.at_int (Kd.R_reads' HO_7.out).2.2 (ji15) p136 q136
              cases e136
              replace p136 := eq_true p136
              replace q136 := eq_true q136
              have p18 : 0 ≤ ((ji15) : Int) := of_decide_eq_true aS
              have q18 : ((ji15) : Int) < ((x7_1.length : Int) : Int) := of_decide_eq_true aS
              obtain ⟨go18, co18, eo18, gb18, gl18, cl18, HG18⟩ := Kd.R_form HO_7.out (by omega)
              (first | cases eo18 | (injection eo18 with ea_ en_ ec_; (first | subst ea_ | (injection ea_ with ea_; subst ea_)); subst ec_; clear en_))
              have GB18 := Aside0.mk gb18
              have GG18 := Aside0.mk HG18
              clear gb18 gl18 HG18
              (first | simp only [add_plain] at hx136_0 | skip)
              obtain ⟨hx18_0, hf18_0⟩ := Kd.R_celln 0 HO_7.out ((ji15) : Int) p18 q18
              replace p18 := eq_true p18
              replace q18 := eq_true q18
              have HP24 := Kd.R_putg HO_7.out ((ji15) : Int) (Go.bits .or .u32 (rd x7_1 (ji15)) ((ji14) % 4294967296))
              go_wp2_with (first | ((with_reducible refine gate_store (t := 36) (p := 45) rfl ?_); refine store_event (t := 36) (p := 45) (v := ?vo_w25) (w1 := (wr.setCell ⟨go18, ((ji15) : Int).toNat, none⟩ (.int .u32 (Go.bits .or .u32 (rd x7_1 (ji15)) ((ji14) % 4294967296))))) ?hg ?ho ?hn ?hr ?_; (case ho => rfl); (case hg => rfl); (case hn => rfl); (case hr => first | (go_simp; done) | (go_simp; rfl)); intro w25 hw; have hg : wr.grownBy w25 (some go18) := (by rw [hw]; exact HP24.2); have hp_ : Kd.R (Kd.int .u32) 36 w25 w.heap.size (fun k_ => (w.heap.size ≤ k_)) (.slice (some ⟨go18, 0, none⟩) x7_1.length co23) y137 := (by rw [hw, Ny137.out]; exact HP24.1); clear HP24; have n0_ := Aside0.mk (hp_); have n1_ := Aside0.mk ((by rw [hw]; exact below_set (HB.out) GB18.out : Below w.heap.size w w25)); clear HO_7 HB; have HO_7 := n0_; have HB := n1_; clear n0_ n1_; clear hg hw hp_; have p22 : 0 ≤ ((ji19) : Int) := of_decide_eq_true aS; have q22 : ((ji19) : Int) < ((x7_1.length : Int) : Int) := of_decide_eq_true aS; obtain ⟨hx22_0, hf22_0⟩ := Kd.R_celln 0 HO_7.out ((ji19) : Int) p22 q22; replace p22 := eq_true p22; replace q22 := eq_true q22; obtain ⟨hy26_, hz26_⟩ := Kd.R_celln 0 HO_7.out ((ji19) : Int) (of_decide_eq_true aS) (of_decide_eq_true aS); have HP26 := Kd.R_putg HO_7.out ((ji19) : Int) (((ji14) / 4294967296) % 4294967296)) | ((with_reducible refine gate_store (t := 36) (p := 54) rfl ?_); refine store_event (t := 36) (p := 54) (v := ?vo_w27) (w1 := (w25.setCell ⟨go18, ((ji19) : Int).toNat, none⟩ (.int .u32 (((ji14) / 4294967296) % 4294967296)))) ?hg ?ho ?hn ?hr ?_; (case ho => rfl); (case hg => rfl); (case hn => rfl); (case hr => first | (go_simp; done) | (go_simp; rfl)); intro w27 hw; have hg : w25.grownBy w27 (some go18) := (by rw [hw]; exact HP26.2); have hp_ : Kd.R (Kd.int .u32) 36 w27 w.heap.size (fun k_ => (w.heap.size ≤ k_)) (.slice (some ⟨go18, 0, none⟩) x7_1.length co23) y138 := (by rw [hw, Ny138.out]; exact HP26.1); clear HP26; have n0_ := Aside0.mk (hp_); have n1_ := Aside0.mk ((by rw [hw]; exact below_set (HB.out) GB18.out : Below w.heap.size w w27)); clear HO_7 HB; have HO_7 := n0_; have HB := n1_; clear n0_ n1_; clear hg hw hp_))
              (try simp only [← hji12, ← hji14, ← hji15, ← hji19])
              go_roundg k1
              case measure => have := HK1.out; omega
              case rel => exact ⟨(y138), (wrap64 (x27_1 + 1)), (by first | rfl | (simp; done) | (simp [*]; done)), (by first | with_reducible exact H' | (simp only [hji12, hji14, hji15, hji19]; exact H') | exact H'), ⟨by have := HK1.out; omega⟩, ⟨by (with_reducible repeat (first | apply Kd.R_alloc | apply Kd.R_drewN | apply Kd.R_drew)); exact HO_7.out⟩, ⟨by repeat (first | (with_reducible first | exact HB.out | apply below_alloc | apply pw_below_drewN | apply below_drew1) | exact HB.out)⟩⟩
             ·rw [if_neg c21] at H
              exact absurd H (by simp)
            ·rw [if_neg c20] at H
             exact absurd H (by simp)
           ·rw [if_neg c17] at H
            exact absurd H (by simp)
          ·rw [if_neg c16] at H
           exact absurd H (by simp)
         ·rw [if_neg c13] at H
          exact absurd H (by simp)
        ·rw [if_neg c11] at H
         exact absurd H (by simp)
       ·rw [if_neg c10] at H
        exact absurd H (by simp)
      ·rw [if_neg c9] at H
       have c9b0 : decide (x27_1 < (l0.length : Int)) = false := decide_eq_false c9
       clear c9
       replace H := Option.bind_eq_some_iff.mp H
       obtain ⟨t139, A280, H⟩ := H
       replace H : (some t139) = some r := H
       have A28 := Aside0.mk A280
       clear A280
       obtain rfl := Option.some.inj H
       obtain ⟨Ao29, co29, eo29⟩ := Kd.R_slice HO_7.out
       subst eo29
       go_wp2_with (first | ((with_reducible refine gate_callee (f := 66) rfl ?_); refine goesL_ (some 57) rfl rfl Try.func66 (by kernel_rfl) rfl #[.slice Ao29 x7_1.length co29] rfl (by (try simp only [List.map_toArray, List.map_cons, List.map_nil]); first | done | rfl | (simp only [List.length_drop, List.length_take]; rfl)) ?_; (with_reducible refine (mag_Trim.calls k1 (fun k_ => some k_ = (.slice Ao29 x7_1.length co29 : Value).ownBlock) _ _ x7_1 t139 _ ?side1 A28.out).mono ?_); (case side1 => exact Kd.R_V (Kd.R_tight rfl (HO_7.out))); rintro e w30 ⟨v140, rfl, ho0, hb⟩; refine ⟨_, rfl, ?_⟩; have n0_ := Aside0.mk (Kd.R_below (dR HO_7.out) hb); have n1_ := Aside0.mk (Kd.V_lower (Kd.V_mono (ok' := fun k_ => (w.heap.size ≤ k_)) ho0 (fun k_ hk_ => Or.elim hk_ (fun hs_ => ((HO_7.out).1 k_ hs_.symm)) (fun hn_ => (Nat.le_trans (below_size (bB)) hn_)))) (below_size (bB))); have n2_ := Aside0.mk (below_step (bB) hb); clear HO_7 HB; have HO_7 := n0_; have HO141 := n1_; have HB := n2_; clear n0_ n1_ n2_; (try clear hb); (try clear hb2); (try clear hk); (try clear hi); (try clear ho0)))
       go_ret
       exact ⟨_, by first | rfl | (simp [errW_none, errW_some] <;> rfl) | (simp only [← hji4]; first | rfl | (simp [errW_none, errW_some] <;> rfl)) | (simp [*, errW_none, errW_some] <;> rfl), by (with_reducible repeat (first | apply Kd.V_alloc | apply Kd.V_drewN | apply Kd.V_drew)); exact HO141.out, by repeat (first | (with_reducible first | exact HB.out | apply below_alloc | apply pw_below_drewN | apply below_drew1) | exact HB.out)⟩
   ·rw [if_neg c6] at H
    exact absurd H (by simp)
  ·rw [if_neg c5] at H
   exact absurd H (by simp)
end Go.Proofs.Ytfmobogdnlmdbaa.P
end
section
namespace Go.Proofs.Ytfmobogdnlmdbaa.P
open Go.RowKit Go.Proofs.YtfmobogdnlmdbaaW.PrintWords Go.Proofs.YtfmobogdnlmdbaaW.PrintLast Go.Proofs.YtfmobogdnlmdbaaW.PrintMore Go.Proofs.YtfmobogdnlmdbaaW
attribute [local go_sem] max2_int min2_int max_two min_two max_three min_three max_four min_four
set_option linter.unusedVariables false
set_option linter.unusedSimpArgs false
set_option maxHeartbeats 8000000 in
set_option maxRecDepth 100000 in
theorem mag_Shr.calls (k : Nat) (A0 : Option Addr) (c0 : Nat) (l0 : List Int) (a1 : Int) (r : List Int) (w : World) (hr0 : Kd.C (Kd.int .u32) w A0 l0.length l0) (hc0 : l0.length ≤ c0) (h : mag_Shr.f k l0 a1 = some r) :
  Calls Try.prog 49 #[.slice A0 l0.length c0, .int .i64 a1] w fun e w' => ∃ v0_ : Value, e = .returned (v0_) ∧ Kd.V (Kd.int .u32) 36 w' w.heap.size (fun k_ => (w.heap.size ≤ k_)) v0_ r ∧ Below w.heap.size w w' := by
 have HR0 := Aside0.mk hr0
 have HC0 := Aside0.mk hc0
 clear hr0 hc0
 have HB := Aside0.mk (Below.refl w.heap.size w)
 have H : (if (wrap64 (Int.tdiv a1 32)) ≥ (l0.length : Int) then (some ([] : List Int)) else (if 0 ≤ (wrap64 ((l0.length : Int) - (wrap64 (Int.tdiv a1 32)))) then (if (wrap64 ((l0.length : Int) - (wrap64 (Int.tdiv a1 32))) : Int).toNat ≤ 70368744177664 then ((some (List.replicate (wrap64 ((l0.length : Int) - (wrap64 (Int.tdiv a1 32))) : Int).toNat 0 : List Int)).bind fun y142 => (mag_Shr.l0 k l0 (wrap64 (Int.tdiv a1 32)) (IntKind.u64.wrap (Int.tmod a1 32)) y142 (y142.length : Int) 0)) else (none)) else (none))) = some r := h
 clear h
 by_cases c3 : (wrap64 (Int.tdiv a1 32)) ≥ (l0.length : Int)
 ·rw [if_pos c3] at H
  have c3b0 : decide ((l0.length : Int) ≤ (wrap64 (Int.tdiv a1 32))) = true := decide_eq_true c3
  clear c3
  obtain rfl := Option.some.inj H
  go_enter Try.func49, Try.ntmps49
  go_wp2
  go_ret
  exact ⟨_, by first | rfl | (simp [errW_none, errW_some] <;> rfl) | (simp [*, errW_none, errW_some] <;> rfl), Kd.V_nil _ _ _ _ _, by repeat (first | (with_reducible first | exact HB.out | apply below_alloc | apply pw_below_drewN | apply below_drew1) | exact HB.out)⟩
 ·rw [if_neg c3] at H
  have c3b0 : decide ((l0.length : Int) ≤ (wrap64 (Int.tdiv a1 32))) = false := decide_eq_false c3
  clear c3
  obtain ⟨ji4, hji4⟩ : ∃ j_ : Int, (wrap64 ((l0.length : Int) - (wrap64 (Int.tdiv a1 32)))) = j_ := ⟨_, rfl⟩
  replace H : (if 0 ≤ (ji4) then (if (ji4 : Int).toNat ≤ 70368744177664 then ((some (List.replicate (ji4 : Int).toNat 0 : List Int)).bind fun y142 => (mag_Shr.l0 k l0 (wrap64 (Int.tdiv a1 32)) (IntKind.u64.wrap (Int.tmod a1 32)) y142 (y142.length : Int) 0)) else (none)) else (none)) = some r := by first | (rw [hji4] at H; exact H) | (simp only [hji4] at H ⊢; exact H)
  have hji4w : (IntKind.i64.wrap ((l0.length : Int) - (wrap64 (Int.tdiv a1 32)))) = ji4 := (i64_w _).trans hji4
  by_cases c5 : 0 ≤ (ji4)
  ·rw [if_pos c5] at H
   have c5b0 := eq_true c5
   have c5b1 : decide (0 ≤ (ji4)) = true := decide_eq_true c5
   clear c5
   by_cases c6 : (ji4 : Int).toNat ≤ 70368744177664
   ·rw [if_pos c6] at H
    have c6b0 := eq_true c6
    have c6b1 : decide ((ji4 : Int).toNat ≤ 70368744177664) = true := decide_eq_true c6
    clear c6
    obtain ⟨y142, hy142⟩ : ∃ y_ : List Int, y_ = (List.replicate (ji4 : Int).toNat 0) := ⟨_, rfl⟩
    replace H : (mag_Shr.l0 k l0 (wrap64 (Int.tdiv a1 32)) (IntKind.u64.wrap (Int.tmod a1 32)) y142 (y142.length : Int) 0) = some r := by first | (rw [hy142]; with_reducible exact H) | (have H2_ := (Option.bind_some _ _).symm.trans H; rw [hy142]; with_reducible exact H2_) | (have H2_ := (Option.bind_some _ _).symm.trans H; with_reducible exact H2_) | with_reducible exact H | (rw [hy142]; exact H) | exact H
    have Ny142 := Aside0.mk hy142
    clear hy142
    have H' := Aside0.mk H
    clear H
    go_enter Try.func49, Try.ntmps49
    go_wp2_with (first | ((with_reducible refine gate_dst (N := 23) rfl ?_); refine Kd.R_make (Kd.int .u32) _ 36 rfl (N := 23) rfl 22 _ _ rfl ji4 rfl rfl Try.underlying22 (.int .u32 0) 4 info36 rfl (by decide) (by omega) 0 (ok := fun _ => True) (okp := fun _ => True) rfl (fun _ hk => hk) trivial (of_decide_eq_true aS) (Nat.le_trans (Nat.mul_le_mul_right _ (of_decide_eq_true aS : ji4.toNat ≤ 70368744177664)) (by omega)) (Below.refl _ _) (Nat.le_refl _) ?_; intro v143 w7 ho8 hb hg_ hnew_; clear hg_ hnew_; (first | rw [← Ny142.out] at ho8 | (simp only [Int.reduceToNat] at ho8; rw [← Ny142.out] at ho8)); have n0_ := Aside0.mk (Kd.R_lower (Kd.R_newM (M := fun k_ => (w.heap.size ≤ k_)) ho8 (below_size (bB)) (fun k_ h_ => h_)) (below_size (bB))); have n1_ := Aside0.mk (below_step (bB) hb); clear HB; have HO144 := n0_; have HB := n1_; clear n0_ n1_; clear hb ho8; obtain ⟨Ao9, co9, eo9⟩ := Kd.R_slice HO144.out; subst eo9))
    go_loopg [26] k (fun kq v26 w' => ∃ (x7_1 : List Int) (x26_1 : Int), v26 = .int .i64 x26_1 ∧ Aside0 (mag_Shr.l0 kq l0 (wrap64 (Int.tdiv a1 32)) (IntKind.u64.wrap (Int.tmod a1 32)) x7_1 (y142.length : Int) x26_1 = some r) ∧ Aside0 (kq ≤ k) ∧ Aside0 (Kd.R (Kd.int .u32) 36 w' w.heap.size (fun k_ => (w.heap.size ≤ k_)) (.slice Ao9 y142.length co9) x7_1) ∧ Aside0 (Below w.heap.size w w'))
    case atStart => exact ⟨(y142), (0), (by first | rfl | (simp; done) | (simp [*]; done)), H', ⟨Nat.le_refl _⟩, ⟨by (with_reducible repeat (first | apply Kd.R_alloc | apply Kd.R_drewN | apply Kd.R_drew)); exact Kd.R_mono HO144.out (fun _ hk => hk.1)⟩, ⟨by repeat (first | (with_reducible first | exact HB.out | apply below_alloc | apply pw_below_drewN | apply below_drew1) | exact HB.out)⟩⟩
    case round =>
     clear H'
     try clear p2
     try clear c3
     try clear c3b0
     try clear c4
     try clear c5
     try clear c5b0
     try clear c5b1
     try clear c6
     try clear c6b0
     try clear c6b1
     try clear p6
     obtain ⟨x7_1, x26_1, rfl, HA, HK1, HO_7, HB⟩ := hrel
     have hl7_1 := (Kd.R_reads' HO_7.out).1
     rw [hl7_1] at HO_7
     (try simp only [hl7_1])
     cases gk with
     | zero => exact absurd HA.out (by simp [mag_Shr.l0])
     | succ k1 =>
      have H := HA.out
      clear HA
      simp only [mag_Shr.l0] at H
      by_cases c10 : x26_1 < (y142.length : Int)
      ·rw [if_pos c10] at H
       have c10b0 : decide (x26_1 < (y142.length : Int)) = true := decide_eq_true c10
       clear c10
       have c10bh := c10b0
       (try simp only [hl7_1] at c10bh)
       obtain ⟨ji11, hji11⟩ : ∃ j_ : Int, (wrap64 (x26_1 + (wrap64 (Int.tdiv a1 32)))) = j_ := ⟨_, rfl⟩
       replace H : (if 0 ≤ (ji11) then (if (ji11) < (l0.length : Int) then (if (wrap64 ((ji11) + 1)) < (l0.length : Int) then (if 0 ≤ (wrap64 ((ji11) + 1)) then (if 0 ≤ (IntKind.u64.wrap (Int.tmod a1 32)) then (if 0 ≤ x26_1 then (if x26_1 < (x7_1.length : Int) then (mag_Shr.l0 k1 l0 (wrap64 (Int.tdiv a1 32)) (IntKind.u64.wrap (Int.tmod a1 32)) (x7_1.set (x26_1 : Int).toNat ((shr .u64 (Go.bits .or .u64 (IntKind.u64.wrap (rd l0 (ji11))) (IntKind.u64.wrap ((IntKind.u64.wrap (rd l0 (wrap64 ((ji11) + 1)))) * 4294967296))) (IntKind.u64.wrap (Int.tmod a1 32))) % 4294967296)) (y142.length : Int) (wrap64 (x26_1 + 1))) else (none)) else (none)) else (none)) else (none)) else (if 0 ≤ (IntKind.u64.wrap (Int.tmod a1 32)) then (if 0 ≤ x26_1 then (if x26_1 < (x7_1.length : Int) then (mag_Shr.l0 k1 l0 (wrap64 (Int.tdiv a1 32)) (IntKind.u64.wrap (Int.tmod a1 32)) (x7_1.set (x26_1 : Int).toNat ((shr .u64 (IntKind.u64.wrap (rd l0 (ji11))) (IntKind.u64.wrap (Int.tmod a1 32))) % 4294967296)) (y142.length : Int) (wrap64 (x26_1 + 1))) else (none)) else (none)) else (none))) else (none)) else (none)) = some r := by first | (rw [hji11] at H; exact H) | (simp only [hji11] at H ⊢; exact H)
       have hji11w : (IntKind.i64.wrap (x26_1 + (wrap64 (Int.tdiv a1 32)))) = ji11 := (i64_w _).trans hji11
       by_cases c12 : 0 ≤ (ji11)
       ·rw [if_pos c12] at H
        have c12b0 : decide (0 ≤ (ji11)) = true := decide_eq_true c12
        clear c12
        by_cases c13 : (ji11) < (l0.length : Int)
        ·rw [if_pos c13] at H
         have c13b0 : decide ((ji11) < (l0.length : Int)) = true := decide_eq_true c13
         clear c13
         have c13bh := c13b0
         (try simp only [hl7_1] at c13bh)
         by_cases c14 : (wrap64 ((ji11) + 1)) < (l0.length : Int)
         ·rw [if_pos c14] at H
          have c14b0 : decide ((wrap64 ((ji11) + 1)) < (l0.length : Int)) = true := decide_eq_true c14
          clear c14
          have c14bh := c14b0
          (try simp only [hl7_1] at c14bh)
          obtain ⟨ji15, hji15⟩ : ∃ j_ : Int, (wrap64 ((ji11) + 1)) = j_ := ⟨_, rfl⟩
          replace H : (if 0 ≤ (ji15) then (if 0 ≤ (IntKind.u64.wrap (Int.tmod a1 32)) then (if 0 ≤ x26_1 then (if x26_1 < (x7_1.length : Int) then (mag_Shr.l0 k1 l0 (wrap64 (Int.tdiv a1 32)) (IntKind.u64.wrap (Int.tmod a1 32)) (x7_1.set (x26_1 : Int).toNat ((shr .u64 (Go.bits .or .u64 (IntKind.u64.wrap (rd l0 (ji11))) (IntKind.u64.wrap ((IntKind.u64.wrap (rd l0 (ji15))) * 4294967296))) (IntKind.u64.wrap (Int.tmod a1 32))) % 4294967296)) (y142.length : Int) (wrap64 (x26_1 + 1))) else (none)) else (none)) else (none)) else (none)) = some r := by first | (rw [hji15] at H; exact H) | (simp only [hji15] at H ⊢; exact H)
          (try rw [hji15] at c14b0)
          have hji15w : (IntKind.i64.wrap ((ji11) + 1)) = ji15 := (i64_w _).trans hji15
          by_cases c16 : 0 ≤ (ji15)
          ·rw [if_pos c16] at H
           have c16b0 : decide (0 ≤ (ji15)) = true := decide_eq_true c16
           clear c16
           obtain ⟨ji17, hji17⟩ : ∃ j_ : Int, (IntKind.u64.wrap (Int.tmod a1 32)) = j_ := ⟨_, rfl⟩
           replace H : (if 0 ≤ (ji17) then (if 0 ≤ x26_1 then (if x26_1 < (x7_1.length : Int) then (mag_Shr.l0 k1 l0 (wrap64 (Int.tdiv a1 32)) (ji17) (x7_1.set (x26_1 : Int).toNat ((shr .u64 (Go.bits .or .u64 (IntKind.u64.wrap (rd l0 (ji11))) (IntKind.u64.wrap ((IntKind.u64.wrap (rd l0 (ji15))) * 4294967296))) (ji17)) % 4294967296)) (y142.length : Int) (wrap64 (x26_1 + 1))) else (none)) else (none)) else (none)) = some r := by first | (rw [hji17] at H; exact H) | (simp only [hji17] at H ⊢; exact H)
           by_cases c18 : 0 ≤ (ji17)
           ·rw [if_pos c18] at H
            have c18b0 := eq_true c18
            have c18b1 : decide (0 ≤ (ji17)) = true := decide_eq_true c18
            clear c18
            obtain ⟨ji19, hji19⟩ : ∃ j_ : Int, (shr .u64 (Go.bits .or .u64 (IntKind.u64.wrap (rd l0 (ji11))) (IntKind.u64.wrap ((IntKind.u64.wrap (rd l0 (ji15))) * 4294967296))) (ji17)) = j_ := ⟨_, rfl⟩
            replace H : (if 0 ≤ x26_1 then (if x26_1 < (x7_1.length : Int) then (mag_Shr.l0 k1 l0 (wrap64 (Int.tdiv a1 32)) (ji17) (x7_1.set (x26_1 : Int).toNat ((ji19) % 4294967296)) (y142.length : Int) (wrap64 (x26_1 + 1))) else (none)) else (none)) = some r := by first | (rw [hji19] at H; exact H) | (simp only [hji19] at H ⊢; exact H)
            have hji19_ : ((Go.bits .or .u64 (IntKind.u64.wrap (rd l0 (ji11))) (IntKind.u64.wrap ((IntKind.u64.wrap (rd l0 (ji15))) * 4294967296))) / 2 ^ min (ji17).toNat 64) = ji19 := hji19
            have hji19z : (ji17) ≤ 64 → ((Go.bits .or .u64 (IntKind.u64.wrap (rd l0 (ji11))) (IntKind.u64.wrap ((IntKind.u64.wrap (rd l0 (ji15))) * 4294967296))) / 2 ^ (ji17).toNat) = ji19 := shr_small hji19
            by_cases c20 : 0 ≤ x26_1
            ·rw [if_pos c20] at H
             have c20b0 : decide (0 ≤ x26_1) = true := decide_eq_true c20
             clear c20
             by_cases c21 : x26_1 < (x7_1.length : Int)
             ·rw [if_pos c21] at H
              have c21b0 : decide (x26_1 < (x7_1.length : Int)) = true := decide_eq_true c21
              clear c21
              have c21bh := c21b0
              (try simp only [hl7_1] at c21bh)
              obtain ⟨y147, hy147⟩ : ∃ y_ : List Int, y_ = (x7_1.set (x26_1 : Int).toNat ((ji19) % 4294967296)) := ⟨_, rfl⟩
              replace H : (mag_Shr.l0 k1 l0 (wrap64 (Int.tdiv a1 32)) (ji17) y147 (y142.length : Int) (wrap64 (x26_1 + 1))) = some r := by first | (rw [hy147]; with_reducible exact H) | (have H2_ := (Option.bind_some _ _).symm.trans H; rw [hy147]; with_reducible exact H2_) | (have H2_ := (Option.bind_some _ _).symm.trans H; with_reducible exact H2_) | with_reducible exact H | (rw [hy147]; exact H) | exact H
              have Ny147 := Aside0.mk hy147
              clear hy147
              have H' := Aside0.mk H
              clear H
              have p145 : 0 ≤ ((ji11) : Int) := of_decide_eq_true aS
              have q145 : (ji11) < (l0.length : Int) := of_decide_eq_true aS
              obtain ⟨ad145, e145, hx145_0⟩ := Kd.at_int HR0.out (ji11) p145 q145
              cases e145
              replace hx145_0 := (HB.out.cell (World.block_lt_of_cell? w _ hx145_0)).trans hx145_0
              replace p145 := eq_true p145
              replace q145 := eq_true q145
              have p146 : 0 ≤ ((ji15) : Int) := of_decide_eq_true aS
              have q146 : (ji15) < (l0.length : Int) := of_decide_eq_true aS
              obtain ⟨ad146, e146, hx146_0⟩ := Kd.at_int HR0.out (ji15) p146 q146
              obtain rfl : ad145 = ad146 := (by injection e146)
              replace hx146_0 := (HB.out.cell (World.block_lt_of_cell? w _ hx146_0)).trans hx146_0
              replace p146 := eq_true p146
              replace q146 := eq_true q146
              have p22 : 0 ≤ (x26_1 : Int) := of_decide_eq_true aS
              have q22 : (x26_1 : Int) < ((x7_1.length : Int) : Int) := of_decide_eq_true aS
              obtain ⟨go22, co22, eo22, gb22, gl22, cl22, HG22⟩ := Kd.R_form HO_7.out (by omega)
              (first | cases eo22 | (injection eo22 with ea_ en_ ec_; (first | subst ea_ | (injection ea_ with ea_; subst ea_)); subst ec_; clear en_))
              have GB22 := Aside0.mk gb22
              have GG22 := Aside0.mk HG22
              clear gb22 gl22 HG22
              obtain ⟨hx22_0, hf22_0⟩ := Kd.R_celln 0 HO_7.out (x26_1 : Int) p22 q22
              replace p22 := eq_true p22
              replace q22 := eq_true q22
              have HP23 := Kd.R_putg HO_7.out (x26_1 : Int) ((ji19) % 4294967296)
              go_wp2_with (first | ((with_reducible refine gate_store (t := 36) (p := 60) rfl ?_); refine store_event (t := 36) (p := 60) (v := ?vo_w24) (w1 := (wr.setCell ⟨go22, (x26_1 : Int).toNat, none⟩ (.int .u32 ((ji19) % 4294967296)))) ?hg ?ho ?hn ?hr ?_; (case ho => rfl); (case hg => rfl); (case hn => rfl); (case hr => first | (go_simp; done) | (go_simp; rfl)); intro w24 hw; have hg : wr.grownBy w24 (some go22) := (by rw [hw]; exact HP23.2); have hp_ : Kd.R (Kd.int .u32) 36 w24 w.heap.size (fun k_ => (w.heap.size ≤ k_)) (.slice (some ⟨go22, 0, none⟩) x7_1.length co9) y147 := (by rw [hw, Ny147.out]; exact HP23.1); clear HP23; have n0_ := Aside0.mk (hp_); have n1_ := Aside0.mk ((by rw [hw]; exact below_set (HB.out) GB22.out : Below w.heap.size w w24)); clear HO_7 HB; have HO_7 := n0_; have HB := n1_; clear n0_ n1_; clear hg hw hp_))
              (try simp only [← hl7_1])
              (try simp only [← hji11, ← hji15, ← hji17, ← hji19])
              go_roundg k1
              case measure => have := HK1.out; omega
              case rel => exact ⟨(y147), (wrap64 (x26_1 + 1)), (by first | rfl | (simp; done) | (simp [*]; done)), (by first | with_reducible exact H' | (simp only [hji11, hji15, hji17, hji19]; exact H') | exact H'), ⟨by have := HK1.out; omega⟩, ⟨by (try simp only [hl7_1]); (with_reducible repeat (first | apply Kd.R_alloc | apply Kd.R_drewN | apply Kd.R_drew)); exact HO_7.out⟩, ⟨by repeat (first | (with_reducible first | exact HB.out | apply below_alloc | apply pw_below_drewN | apply below_drew1) | exact HB.out)⟩⟩
             ·rw [if_neg c21] at H
              exact absurd H (by simp)
            ·rw [if_neg c20] at H
             exact absurd H (by simp)
           ·rw [if_neg c18] at H
            exact absurd H (by simp)
          ·rw [if_neg c16] at H
           exact absurd H (by simp)
         ·rw [if_neg c14] at H
          have c14b0 : decide ((wrap64 ((ji11) + 1)) < (l0.length : Int)) = false := decide_eq_false c14
          clear c14
          have c14bh := c14b0
          (try simp only [hl7_1] at c14bh)
          obtain ⟨ji25, hji25⟩ : ∃ j_ : Int, (IntKind.u64.wrap (Int.tmod a1 32)) = j_ := ⟨_, rfl⟩
          replace H : (if 0 ≤ (ji25) then (if 0 ≤ x26_1 then (if x26_1 < (x7_1.length : Int) then (mag_Shr.l0 k1 l0 (wrap64 (Int.tdiv a1 32)) (ji25) (x7_1.set (x26_1 : Int).toNat ((shr .u64 (IntKind.u64.wrap (rd l0 (ji11))) (ji25)) % 4294967296)) (y142.length : Int) (wrap64 (x26_1 + 1))) else (none)) else (none)) else (none)) = some r := by first | (rw [hji25] at H; exact H) | (simp only [hji25] at H ⊢; exact H)
          by_cases c26 : 0 ≤ (ji25)
          ·rw [if_pos c26] at H
           have c26b0 := eq_true c26
           have c26b1 : decide (0 ≤ (ji25)) = true := decide_eq_true c26
           clear c26
           obtain ⟨ji27, hji27⟩ : ∃ j_ : Int, (shr .u64 (IntKind.u64.wrap (rd l0 (ji11))) (ji25)) = j_ := ⟨_, rfl⟩
           replace H : (if 0 ≤ x26_1 then (if x26_1 < (x7_1.length : Int) then (mag_Shr.l0 k1 l0 (wrap64 (Int.tdiv a1 32)) (ji25) (x7_1.set (x26_1 : Int).toNat ((ji27) % 4294967296)) (y142.length : Int) (wrap64 (x26_1 + 1))) else (none)) else (none)) = some r := by first | (rw [hji27] at H; exact H) | (simp only [hji27] at H ⊢; exact H)
           have hji27_ : ((IntKind.u64.wrap (rd l0 (ji11))) / 2 ^ min (ji25).toNat 64) = ji27 := hji27
           have hji27z : (ji25) ≤ 64 → ((IntKind.u64.wrap (rd l0 (ji11))) / 2 ^ (ji25).toNat) = ji27 := shr_small hji27
           by_cases c28 : 0 ≤ x26_1
           ·rw [if_pos c28] at H
            have c28b0 : decide (0 ≤ x26_1) = true := decide_eq_true c28
            clear c28
            by_cases c29 : x26_1 < (x7_1.length : Int)
            ·rw [if_pos c29] at H
             have c29b0 : decide (x26_1 < (x7_1.length : Int)) = true := decide_eq_true c29
             clear c29
             have c29bh := c29b0
             (try simp only [hl7_1] at c29bh)
             obtain ⟨y148, hy148⟩ : ∃ y_ : List Int, y_ = (x7_1.set (x26_1 : Int).toNat ((ji27) % 4294967296)) := ⟨_, rfl⟩
             replace H : (mag_Shr.l0 k1 l0 (wrap64 (Int.tdiv a1 32)) (ji25) y148 (y142.length : Int) (wrap64 (x26_1 + 1))) = some r := by first | (rw [hy148]; with_reducible exact H) | (have H2_ := (Option.bind_some _ _).symm.trans H; rw [hy148]; with_reducible exact H2_) | (have H2_ := (Option.bind_some _ _).symm.trans H; with_reducible exact H2_) | with_reducible exact H | (rw [hy148]; exact H) | exact H
             have Ny148 := Aside0.mk hy148
             clear hy148
             have H' := Aside0.mk H
             clear H
             have p145 : 0 ≤ ((ji11) : Int) := of_decide_eq_true aS
             have q145 : (ji11) < (l0.length : Int) := of_decide_eq_true aS
             obtain ⟨ad145, e145, hx145_0⟩ := Kd.at_int HR0.out (ji11) p145 q145
             cases e145
             replace hx145_0 := (HB.out.cell (World.block_lt_of_cell? w _ hx145_0)).trans hx145_0
             replace p145 := eq_true p145
             replace q145 := eq_true q145
             have p30 : 0 ≤ (x26_1 : Int) := of_decide_eq_true aS
             have q30 : (x26_1 : Int) < ((x7_1.length : Int) : Int) := of_decide_eq_true aS
             obtain ⟨go30, co30, eo30, gb30, gl30, cl30, HG30⟩ := Kd.R_form HO_7.out (by omega)
             (first | cases eo30 | (injection eo30 with ea_ en_ ec_; (first | subst ea_ | (injection ea_ with ea_; subst ea_)); subst ec_; clear en_))
             have GB30 := Aside0.mk gb30
             have GG30 := Aside0.mk HG30
             clear gb30 gl30 HG30
             obtain ⟨hx30_0, hf30_0⟩ := Kd.R_celln 0 HO_7.out (x26_1 : Int) p30 q30
             replace p30 := eq_true p30
             replace q30 := eq_true q30
             have HP31 := Kd.R_putg HO_7.out (x26_1 : Int) ((ji27) % 4294967296)
             go_wp2_with (first | ((with_reducible refine gate_store (t := 36) (p := 60) rfl ?_); refine store_event (t := 36) (p := 60) (v := ?vo_w32) (w1 := (wr.setCell ⟨go30, (x26_1 : Int).toNat, none⟩ (.int .u32 ((ji27) % 4294967296)))) ?hg ?ho ?hn ?hr ?_; (case ho => rfl); (case hg => rfl); (case hn => rfl); (case hr => first | (go_simp; done) | (go_simp; rfl)); intro w32 hw; have hg : wr.grownBy w32 (some go30) := (by rw [hw]; exact HP31.2); have hp_ : Kd.R (Kd.int .u32) 36 w32 w.heap.size (fun k_ => (w.heap.size ≤ k_)) (.slice (some ⟨go30, 0, none⟩) x7_1.length co9) y148 := (by rw [hw, Ny148.out]; exact HP31.1); clear HP31; have n0_ := Aside0.mk (hp_); have n1_ := Aside0.mk ((by rw [hw]; exact below_set (HB.out) GB30.out : Below w.heap.size w w32)); clear HO_7 HB; have HO_7 := n0_; have HB := n1_; clear n0_ n1_; clear hg hw hp_))
             (try simp only [← hl7_1])
             (try simp only [← hji11, ← hji25, ← hji27])
             go_roundg k1
             case measure => have := HK1.out; omega
             case rel => exact ⟨(y148), (wrap64 (x26_1 + 1)), (by first | rfl | (simp; done) | (simp [*]; done)), (by first | with_reducible exact H' | (simp only [hji11, hji25, hji27]; exact H') | exact H'), ⟨by have := HK1.out; omega⟩, ⟨by (try simp only [hl7_1]); (with_reducible repeat (first | apply Kd.R_alloc | apply Kd.R_drewN | apply Kd.R_drew)); exact HO_7.out⟩, ⟨by repeat (first | (with_reducible first | exact HB.out | apply below_alloc | apply pw_below_drewN | apply below_drew1) | exact HB.out)⟩⟩
            ·rw [if_neg c29] at H
             exact absurd H (by simp)
           ·rw [if_neg c28] at H
            exact absurd H (by simp)
          ·rw [if_neg c26] at H
           exact absurd H (by simp)
        ·rw [if_neg c13] at H
         exact absurd H (by simp)
       ·rw [if_neg c12] at H
        exact absurd H (by simp)
      ·rw [if_neg c10] at H
       have c10b0 : decide (x26_1 < (y142.length : Int)) = false := decide_eq_false c10
       clear c10
       have c10bh := c10b0
       (try simp only [hl7_1] at c10bh)
       replace H := Option.bind_eq_some_iff.mp H
       obtain ⟨t149, A330, H⟩ := H
       replace H : (some t149) = some r := H
       have A33 := Aside0.mk A330
       clear A330
       obtain rfl := Option.some.inj H
       go_wp2_with (first | ((with_reducible refine gate_callee (f := 66) rfl ?_); refine goesL_ (some 63) rfl rfl Try.func66 (by kernel_rfl) rfl #[.slice Ao9 x7_1.length co9] rfl (by (try simp only [List.map_toArray, List.map_cons, List.map_nil]); first | done | rfl | (simp only [List.length_drop, List.length_take]; rfl)) ?_; (with_reducible refine (mag_Trim.calls k1 (fun k_ => some k_ = (.slice Ao9 x7_1.length co9 : Value).ownBlock) _ _ x7_1 t149 _ ?side1 A33.out).mono ?_); (case side1 => exact Kd.R_V (Kd.R_tight rfl (HO_7.out))); rintro e w34 ⟨v150, rfl, ho0, hb⟩; refine ⟨_, rfl, ?_⟩; have n0_ := Aside0.mk (Kd.R_below (dR HO_7.out) hb); have n1_ := Aside0.mk (Kd.V_lower (Kd.V_mono (ok' := fun k_ => (w.heap.size ≤ k_)) ho0 (fun k_ hk_ => Or.elim hk_ (fun hs_ => ((HO_7.out).1 k_ hs_.symm)) (fun hn_ => (Nat.le_trans (below_size (bB)) hn_)))) (below_size (bB))); have n2_ := Aside0.mk (below_step (bB) hb); clear HO_7 HB; have HO_7 := n0_; have HO151 := n1_; have HB := n2_; clear n0_ n1_ n2_; (try clear hb); (try clear hb2); (try clear hk); (try clear hi); (try clear ho0)))
       go_ret
       exact ⟨_, by first | rfl | (simp [errW_none, errW_some] <;> rfl) | (simp only [← hji4]; first | rfl | (simp [errW_none, errW_some] <;> rfl)) | (simp [*, errW_none, errW_some] <;> rfl), by (with_reducible repeat (first | apply Kd.V_alloc | apply Kd.V_drewN | apply Kd.V_drew)); exact HO151.out, by repeat (first | (with_reducible first | exact HB.out | apply below_alloc | apply pw_below_drewN | apply below_drew1) | exact HB.out)⟩
   ·rw [if_neg c6] at H
    exact absurd H (by simp)
  ·rw [if_neg c5] at H
   exact absurd H (by simp)
end Go.Proofs.Ytfmobogdnlmdbaa.P
end
section
namespace Go.Proofs.Ytfmobogdnlmdbaa.P
open Go.RowKit Go.Proofs.YtfmobogdnlmdbaaW.PrintWords Go.Proofs.YtfmobogdnlmdbaaW.PrintLast Go.Proofs.YtfmobogdnlmdbaaW.PrintMore Go.Proofs.YtfmobogdnlmdbaaW
attribute [local go_sem] max2_int min2_int max_two min_two max_three min_three max_four min_four
set_option linter.unusedVariables false
set_option linter.unusedSimpArgs false
set_option maxHeartbeats 8000000 in
set_option maxRecDepth 100000 in
theorem bits_LeadingZeros32.calls (a0 : Int) (r : Int) (w : World) (h : bits_LeadingZeros32.f a0 = some r) :
  Calls Try.prog 67 #[.int .u32 a0] w fun e w' => e = .returned (.int .i64 r) ∧ Drawn0 w w' := by
 have H : ((bits_Len32.f a0).bind fun t162 => (some (wrap64 (32 - t162)))) = some r := h
 clear h
 replace H := Option.bind_eq_some_iff.mp H
 obtain ⟨t162, A20, H⟩ := H
 replace H : (some (wrap64 (32 - t162))) = some r := H
 have A2 := Aside0.mk A20
 clear A20
 obtain rfl := Option.some.inj H
 go_enter Try.func67, Try.ntmps67
 go_wp2_with (first | ((with_reducible refine gate_callee (f := 71) rfl ?_); refine goesL_ (some 4) rfl rfl Try.func71 (by kernel_rfl) rfl #[.int .u32 a0] rfl (by (try simp only [List.map_toArray, List.map_cons, List.map_nil]); first | done | rfl | (simp only [List.length_drop, List.length_take]; rfl)) ?_; (with_reducible refine (bits_Len32.calls a0 t162 _ A2.out).mono ?_); rintro e w' ⟨rfl, ⟨nd, rfl⟩⟩; refine ⟨_, rfl, ?_⟩))
 go_ret
 exact ⟨by first | rfl | (simp; done) | (simp [*]; done), by repeat (first | exact Drawn0.refl _ | apply Drawn0.step)⟩
set_option maxHeartbeats 8000000 in
set_option maxRecDepth 100000 in
theorem mag_divWord.calls (k : Nat) (A0 : Option Addr) (c0 : Nat) (l0 : List Int) (a1 : Int) (r1 : List Int) (r2 : Int) (w : World) (hr0 : Kd.C (Kd.int .u32) w A0 l0.length l0) (hc0 : l0.length ≤ c0) (h : mag_divWord.f k l0 a1 = some (r1, r2)) :
  Calls Try.prog 68 #[.slice A0 l0.length c0, .int .u32 a1] w fun e w' => ∃ v0_ : Value, e = .returned (.tuple #[v0_, .int .u32 r2]) ∧ Kd.V (Kd.int .u32) 36 w' w.heap.size (fun k_ => (w.heap.size ≤ k_)) v0_ r1 ∧ Below w.heap.size w w' := by
 have HR0 := Aside0.mk hr0
 have HC0 := Aside0.mk hc0
 clear hr0 hc0
 have HB := Aside0.mk (Below.refl w.heap.size w)
 have H : (if 0 ≤ (l0.length : Int) then (if ((l0.length : Int) : Int).toNat ≤ 70368744177664 then (mag_divWord.l0 k l0 a1 (List.replicate ((l0.length : Int) : Int).toNat 0) 0 (wrap64 ((l0.length : Int) - 1))) else (none)) else (none)) = some (r1, r2) := h
 clear h
 by_cases c3 : 0 ≤ (l0.length : Int)
 ·rw [if_pos c3] at H
  have c3b0 := eq_true c3
  have c3b1 : decide (0 ≤ (l0.length : Int)) = true := decide_eq_true c3
  clear c3
  by_cases c4 : ((l0.length : Int) : Int).toNat ≤ 70368744177664
  ·rw [if_pos c4] at H
   have c4b0 := eq_true c4
   have c4b1 : decide (((l0.length : Int) : Int).toNat ≤ 70368744177664) = true := decide_eq_true c4
   clear c4
   obtain ⟨y163, hy163⟩ : ∃ y_ : List Int, y_ = (List.replicate ((l0.length : Int) : Int).toNat 0) := ⟨_, rfl⟩
   replace H : (mag_divWord.l0 k l0 a1 y163 0 (wrap64 ((l0.length : Int) - 1))) = some (r1, r2) := by first | (rw [hy163]; with_reducible exact H) | (have H2_ := (Option.bind_some _ _).symm.trans H; rw [hy163]; with_reducible exact H2_) | (have H2_ := (Option.bind_some _ _).symm.trans H; with_reducible exact H2_) | with_reducible exact H | (rw [hy163]; exact H) | exact H
   have Ny163 := Aside0.mk hy163
   clear hy163
   have H' := Aside0.mk H
   clear H
   go_enter Try.func68, Try.ntmps68
   go_wp2_with (first | ((with_reducible refine gate_dst (N := 11) rfl ?_); refine Kd.R_make (Kd.int .u32) _ 36 rfl (N := 11) rfl 22 _ _ rfl (l0.length : Int) rfl rfl Try.underlying22 (.int .u32 0) 4 info36 rfl (by decide) (by omega) 0 (ok := fun _ => True) (okp := fun _ => True) rfl (fun _ hk => hk) trivial (of_decide_eq_true aS) (Nat.le_trans (Nat.mul_le_mul_right _ (of_decide_eq_true aS : (l0.length : Int).toNat ≤ 70368744177664)) (by omega)) (Below.refl _ _) (Nat.le_refl _) ?_; intro v164 w5 ho6 hb hg_ hnew_; clear hg_ hnew_; (first | rw [← Ny163.out] at ho6 | (simp only [Int.reduceToNat] at ho6; rw [← Ny163.out] at ho6)); have n0_ := Aside0.mk (Kd.R_lower (Kd.R_newM (M := fun k_ => (w.heap.size ≤ k_)) ho6 (below_size (bB)) (fun k_ h_ => h_)) (below_size (bB))); have n1_ := Aside0.mk (below_step (bB) hb); clear HB; have HO165 := n0_; have HB := n1_; clear n0_ n1_; clear hb ho6))
   go_loopg [7, 8] k (fun kq v7 v8 w' => ∃ (x6_1 : List Int) (x7_1 : Int) (x8_1 : Int), v7 = .int .u64 x7_1 ∧ v8 = .int .i64 x8_1 ∧ Aside0 (mag_divWord.l0 kq l0 a1 x6_1 x7_1 x8_1 = some (r1, r2)) ∧ Aside0 (kq ≤ k) ∧ Aside0 (Kd.R (Kd.int .u32) 36 w' w.heap.size (fun k_ => (w.heap.size ≤ k_)) v164 x6_1) ∧ Aside0 (Below w.heap.size w w'))
   case atStart => exact ⟨(y163), (0), (wrap64 ((l0.length : Int) - 1)), (by first | rfl | (simp; done) | (simp [*]; done)), (by first | rfl | (simp; done) | (simp [*]; done)), H', ⟨Nat.le_refl _⟩, ⟨by (with_reducible repeat (first | apply Kd.R_alloc | apply Kd.R_drewN | apply Kd.R_drew)); exact Kd.R_mono HO165.out (fun _ hk => hk.1)⟩, ⟨by repeat (first | (with_reducible first | exact HB.out | apply below_alloc | apply pw_below_drewN | apply below_drew1) | exact HB.out)⟩⟩
   case round =>
    clear H'
    try clear p2
    try clear c3
    try clear c3b0
    try clear c3b1
    try clear c4
    try clear c4b0
    try clear c4b1
    try clear c6
    try clear p6
    obtain ⟨x6_1, x7_1, x8_1, rfl, rfl, HA, HK1, HO_6, HB⟩ := hrel
    cases gk with
    | zero => exact absurd HA.out (by simp [mag_divWord.l0])
    | succ k1 =>
     have H := HA.out
     clear HA
     simp only [mag_divWord.l0] at H
     by_cases c7 : x8_1 ≥ 0
     ·rw [if_pos c7] at H
      have c7b0 : decide (0 ≤ x8_1) = true := decide_eq_true c7
      clear c7
      by_cases c8 : 0 ≤ x8_1
      ·rw [if_pos c8] at H
       have c8b0 : decide (0 ≤ x8_1) = true := decide_eq_true c8
       clear c8
       by_cases c9 : x8_1 < (l0.length : Int)
       ·rw [if_pos c9] at H
        have c9b0 : decide (x8_1 < (l0.length : Int)) = true := decide_eq_true c9
        clear c9
        by_cases c10 : (IntKind.u64.wrap (a1)) = 0
        ·rw [if_pos c10] at H
         exact absurd H (by simp)
        ·rw [if_neg c10] at H
         have c10b0 : ((IntKind.u64.wrap (a1)) == 0) = false := beq_eq_false_iff_ne.mpr c10
         have c10b1 : ((IntKind.u64.wrap (a1)) != 0) = true := bne_iff_ne.mpr c10
         by_cases c11 : x8_1 < (x6_1.length : Int)
         ·rw [if_pos c11] at H
          have c11b0 : decide (x8_1 < (x6_1.length : Int)) = true := decide_eq_true c11
          clear c11
          obtain ⟨y167, hy167⟩ : ∃ y_ : List Int, y_ = (x6_1.set (x8_1 : Int).toNat ((IntKind.u64.wrap (Int.tdiv (Go.bits .or .u64 (IntKind.u64.wrap (x7_1 * 4294967296)) (IntKind.u64.wrap (rd l0 x8_1))) (IntKind.u64.wrap (a1)))) % 4294967296)) := ⟨_, rfl⟩
          replace H : (mag_divWord.l0 k1 l0 a1 y167 (Int.tmod (Go.bits .or .u64 (IntKind.u64.wrap (x7_1 * 4294967296)) (IntKind.u64.wrap (rd l0 x8_1))) (IntKind.u64.wrap (a1))) (wrap64 (x8_1 - 1))) = some (r1, r2) := by first | (rw [hy167]; with_reducible exact H) | (have H2_ := (Option.bind_some _ _).symm.trans H; rw [hy167]; with_reducible exact H2_) | (have H2_ := (Option.bind_some _ _).symm.trans H; with_reducible exact H2_) | with_reducible exact H | (rw [hy167]; exact H) | exact H
          have Ny167 := Aside0.mk hy167
          clear hy167
          have H' := Aside0.mk H
          clear H
          have p166 : 0 ≤ (x8_1 : Int) := of_decide_eq_true aS
          have q166 : x8_1 < (l0.length : Int) := of_decide_eq_true aS
          obtain ⟨ad166, e166, hx166_0⟩ := Kd.at_int HR0.out x8_1 p166 q166
          cases e166
          replace hx166_0 := (HB.out.cell (World.block_lt_of_cell? w _ hx166_0)).trans hx166_0
          replace p166 := eq_true p166
          replace q166 := eq_true q166
          have p12 : 0 ≤ (x8_1 : Int) := of_decide_eq_true aS
          have q12 : (x8_1 : Int) < ((x6_1.length : Int) : Int) := of_decide_eq_true aS
          obtain ⟨go12, co12, eo12, gb12, gl12, cl12, HG12⟩ := Kd.R_form HO_6.out (by omega)
          (first | cases eo12 | (injection eo12 with ea_ en_ ec_; (first | subst ea_ | (injection ea_ with ea_; subst ea_)); subst ec_; clear en_))
          have GB12 := Aside0.mk gb12
          have GG12 := Aside0.mk HG12
          clear gb12 gl12 HG12
          obtain ⟨hx12_0, hf12_0⟩ := Kd.R_celln 0 HO_6.out (x8_1 : Int) p12 q12
          replace p12 := eq_true p12
          replace q12 := eq_true q12
          have HP13 := Kd.R_putg HO_6.out (x8_1 : Int) ((IntKind.u64.wrap (Int.tdiv (Go.bits .or .u64 (IntKind.u64.wrap (x7_1 * 4294967296)) (IntKind.u64.wrap (rd l0 x8_1))) (IntKind.u64.wrap (a1)))) % 4294967296)
          go_wp2_with (first | ((with_reducible refine gate_store (t := 36) (p := 34) rfl ?_); refine store_event (t := 36) (p := 34) (v := ?vo_w14) (w1 := (wr.setCell ⟨go12, (x8_1 : Int).toNat, none⟩ (.int .u32 ((IntKind.u64.wrap (Int.tdiv (Go.bits .or .u64 (IntKind.u64.wrap (x7_1 * 4294967296)) (IntKind.u64.wrap (rd l0 x8_1))) (IntKind.u64.wrap (a1)))) % 4294967296)))) ?hg ?ho ?hn ?hr ?_; (case ho => rfl); (case hg => rfl); (case hn => rfl); (case hr => first | (go_simp; done) | (go_simp; rfl)); intro w14 hw; have hg : wr.grownBy w14 (some go12) := (by rw [hw]; exact HP13.2); have hp_ : Kd.R (Kd.int .u32) 36 w14 w.heap.size (fun k_ => (w.heap.size ≤ k_)) (.slice (some ⟨go12, 0, none⟩) x6_1.length co12) y167 := (by rw [hw, Ny167.out]; exact HP13.1); clear HP13; have n0_ := Aside0.mk (hp_); have n1_ := Aside0.mk ((by rw [hw]; exact below_set (HB.out) GB12.out : Below w.heap.size w w14)); clear HO_6 HB; have HO_6 := n0_; have HB := n1_; clear n0_ n1_; clear hg hw hp_))
          go_roundg k1
          case measure => have := HK1.out; omega
          case rel => exact ⟨(y167), (Int.tmod (Go.bits .or .u64 (IntKind.u64.wrap (x7_1 * 4294967296)) (IntKind.u64.wrap (rd l0 x8_1))) (IntKind.u64.wrap (a1))), (wrap64 (x8_1 - 1)), (by first | rfl | (simp; done) | (simp [*]; done)), (by first | rfl | (simp; done) | (simp [*]; done)), H', ⟨by have := HK1.out; omega⟩, ⟨by (with_reducible repeat (first | apply Kd.R_alloc | apply Kd.R_drewN | apply Kd.R_drew)); exact HO_6.out⟩, ⟨by repeat (first | (with_reducible first | exact HB.out | apply below_alloc | apply pw_below_drewN | apply below_drew1) | exact HB.out)⟩⟩
         ·rw [if_neg c11] at H
          exact absurd H (by simp)
       ·rw [if_neg c9] at H
        exact absurd H (by simp)
      ·rw [if_neg c8] at H
       exact absurd H (by simp)
     ·rw [if_neg c7] at H
      have c7b0 : decide (0 ≤ x8_1) = false := decide_eq_false c7
      clear c7
      replace H := Option.bind_eq_some_iff.mp H
      obtain ⟨t168, A150, H⟩ := H
      replace H : (some (t168, (x7_1) % 4294967296)) = some (r1, r2) := H
      have A15 := Aside0.mk A150
      clear A150
      simp only [Option.some.injEq, Prod.mk.injEq] at H
      obtain ⟨rfl, rfl⟩ := H
      obtain ⟨Ao16, co16, eo16⟩ := Kd.R_slice HO_6.out
      subst eo16
      go_wp2_with (first | ((with_reducible refine gate_callee (f := 66) rfl ?_); refine goesL_ (some 40) rfl rfl Try.func66 (by kernel_rfl) rfl #[.slice Ao16 x6_1.length co16] rfl (by (try simp only [List.map_toArray, List.map_cons, List.map_nil]); first | done | rfl | (simp only [List.length_drop, List.length_take]; rfl)) ?_; (with_reducible refine (mag_Trim.calls k1 (fun k_ => some k_ = (.slice Ao16 x6_1.length co16 : Value).ownBlock) _ _ x6_1 t168 _ ?side1 A15.out).mono ?_); (case side1 => exact Kd.R_V (Kd.R_tight rfl (HO_6.out))); rintro e w17 ⟨v169, rfl, ho0, hb⟩; refine ⟨_, rfl, ?_⟩; have n0_ := Aside0.mk (Kd.R_below (dR HO_6.out) hb); have n1_ := Aside0.mk (Kd.V_lower (Kd.V_mono (ok' := fun k_ => (w.heap.size ≤ k_)) ho0 (fun k_ hk_ => Or.elim hk_ (fun hs_ => ((HO_6.out).1 k_ hs_.symm)) (fun hn_ => (Nat.le_trans (below_size (bB)) hn_)))) (below_size (bB))); have n2_ := Aside0.mk (below_step (bB) hb); clear HO_6 HB; have HO_6 := n0_; have HO170 := n1_; have HB := n2_; clear n0_ n1_ n2_; (try clear hb); (try clear hb2); (try clear hk); (try clear hi); (try clear ho0)))
      go_ret2
      exact ⟨_, by first | rfl | (simp [errW_none, errW_some] <;> rfl) | (simp [*, errW_none, errW_some] <;> rfl), by (with_reducible repeat (first | apply Kd.V_alloc | apply Kd.V_drewN | apply Kd.V_drew)); exact HO170.out, by repeat (first | (with_reducible first | exact HB.out | apply below_alloc | apply pw_below_drewN | apply below_drew1) | exact HB.out)⟩
  ·rw [if_neg c4] at H
   exact absurd H (by simp)
 ·rw [if_neg c3] at H
  exact absurd H (by simp)
end Go.Proofs.Ytfmobogdnlmdbaa.P
end
section
namespace Go.Proofs.Ytfmobogdnlmdbaa.P
open Go.RowKit Go.Proofs.YtfmobogdnlmdbaaW.PrintWords Go.Proofs.YtfmobogdnlmdbaaW.PrintLast Go.Proofs.YtfmobogdnlmdbaaW.PrintMore Go.Proofs.YtfmobogdnlmdbaaW
attribute [local go_sem] max2_int min2_int max_two min_two max_three min_three max_four min_four
set_option linter.unusedVariables false
set_option linter.unusedSimpArgs false
set_option maxHeartbeats 8000000 in
set_option maxRecDepth 100000 in
theorem mag_subtract.callsW (k : Nat) (pre_ post_ : List Int) (hcw_ : Nat) (P0_ : Nat → Prop) (u9000_ : Value) (l0 : List Int) (A1 : Option Addr) (c1 : Nat) (l1 : List Int) (a2 : Int) (r1 : Bool) (r2 : List Int) (w0 w : World) (hB : Below w0.heap.size w0 w) (ho0 : RW .u32 pre_ post_ hcw_ 36 w w0.heap.size P0_ u9000_ l0) (hr1 : ∀ W_, Kept w W_ (fun k_ => P0_ k_) → Kd.C (Kd.int .u32) W_ A1 l1.length l1) (hc1 : l1.length ≤ c1) (h : mag_subtract.f k l0 l1 a2 = some (r1, r2)) :
  Calls Try.prog 69 #[u9000_, .slice A1 l1.length c1, .int .u64 a2] w fun e w' => e = .returned (.bool r1) ∧ RW .u32 pre_ post_ hcw_ 36 w' w0.heap.size (fun k_ => (P0_ k_ ∨ w.heap.size ≤ k_)) u9000_ r2 ∧ Below w0.heap.size w0 w' ∧ Kept w w' (fun k_ => P0_ k_) := by
 have HO0 := Aside0.mk (show RW .u32 pre_ post_ hcw_ 36 w w0.heap.size (fun k_ => (P0_ k_ ∨ w.heap.size ≤ k_)) u9000_ l0 from RW_mono ho0 (fun k_ hk => (.inl hk)))
 have HR1 := Aside0.mk hr1
 have HC1 := Aside0.mk hc1
 clear hr1 hc1
 have HK := Aside0.mk (Kept.refl w (fun k_ => P0_ k_))
 have HW0 := Aside0.mk hB.size
 have HB := Aside0.mk hB
 clear hB
 have H : (mag_subtract.l0 k l0 l1 a2 0 0 l1 (l1.length : Int) 0) = some (r1, r2) := h
 clear h
 have H' := Aside0.mk H
 clear H
 go_enter Try.func69, Try.ntmps69
 go_wp2
 go_loopg [7, 8, 15] k (fun kq v7 v8 v15 w' => ∃ (x0_1 : List Int) (x7_1 : Int) (x8_1 : Int) (x15_1 : Int), v7 = .int .u64 x7_1 ∧ v8 = .int .u64 x8_1 ∧ v15 = .int .i64 x15_1 ∧ Aside0 (mag_subtract.l0 kq x0_1 l1 a2 x7_1 x8_1 l1 (l1.length : Int) x15_1 = some (r1, r2)) ∧ Aside0 (kq ≤ k) ∧ Aside0 (RW .u32 pre_ post_ hcw_ 36 w' w0.heap.size (fun k_ => (P0_ k_ ∨ w.heap.size ≤ k_)) u9000_ x0_1) ∧ Aside0 (Kept w w' (fun k_ => P0_ k_)) ∧ Aside0 (Below w0.heap.size w0 w'))
 case atStart => exact ⟨(l0), (0), (0), (0), (by first | rfl | (simp; done) | (simp [*]; done)), (by first | rfl | (simp; done) | (simp [*]; done)), (by first | rfl | (simp; done) | (simp [*]; done)), H', ⟨Nat.le_refl _⟩, ⟨by (with_reducible repeat (first | apply RW_alloc | apply RW_drewN | apply RW_drew)); exact HO0.out⟩, ⟨by repeat (first | (with_reducible first | exact HK.out | apply Kept.alloc | apply Kept.drewN | apply Kept.drew) | exact HK.out)⟩, ⟨by repeat (first | (with_reducible first | exact HB.out | apply below_alloc | apply pw_below_drewN | apply below_drew1) | exact HB.out)⟩⟩
 case round =>
  clear H'
  try clear c1
  try clear p2
  obtain ⟨x0_1, x7_1, x8_1, x15_1, rfl, rfl, rfl, HA, HK1, HO_0, HK, HB⟩ := hrel
  cases gk with
  | zero => exact absurd HA.out (by simp [mag_subtract.l0])
  | succ k1 =>
   have H := HA.out
   clear HA
   simp only [mag_subtract.l0] at H
   by_cases c4 : x15_1 < (l1.length : Int)
   ·rw [if_pos c4] at H
    have c4b0 : decide (x15_1 < (l1.length : Int)) = true := decide_eq_true c4
    clear c4
    by_cases c5 : 0 ≤ x15_1
    ·rw [if_pos c5] at H
     have c5b0 : decide (0 ≤ x15_1) = true := decide_eq_true c5
     clear c5
     by_cases c6 : x15_1 < (l1.length : Int)
     ·rw [if_pos c6] at H
      have c6b0 : decide (x15_1 < (l1.length : Int)) = true := decide_eq_true c6
      clear c6
      by_cases c7 : x15_1 < (x0_1.length : Int)
      ·rw [if_pos c7] at H
       have c7b0 : decide (x15_1 < (x0_1.length : Int)) = true := decide_eq_true c7
       clear c7
       obtain ⟨y173, hy173⟩ : ∃ y_ : List Int, y_ = (x0_1.set (x15_1 : Int).toNat ((IntKind.u64.wrap ((IntKind.u64.wrap ((IntKind.u64.wrap (rd x0_1 x15_1)) - ((IntKind.u64.wrap (x7_1 + (IntKind.u64.wrap (a2 * (IntKind.u64.wrap (rd l1 x15_1)))))) % 4294967296))) - x8_1)) % 4294967296)) := ⟨_, rfl⟩
       replace H : (mag_subtract.l0 k1 y173 l1 a2 ((IntKind.u64.wrap (x7_1 + (IntKind.u64.wrap (a2 * (IntKind.u64.wrap (rd l1 x15_1)))))) / 4294967296) ((IntKind.u64.wrap ((IntKind.u64.wrap ((IntKind.u64.wrap (rd x0_1 x15_1)) - ((IntKind.u64.wrap (x7_1 + (IntKind.u64.wrap (a2 * (IntKind.u64.wrap (rd l1 x15_1)))))) % 4294967296))) - x8_1)) / 9223372036854775808) l1 (l1.length : Int) (wrap64 (x15_1 + 1))) = some (r1, r2) := by first | (rw [hy173]; with_reducible exact H) | (have H2_ := (Option.bind_some _ _).symm.trans H; rw [hy173]; with_reducible exact H2_) | (have H2_ := (Option.bind_some _ _).symm.trans H; with_reducible exact H2_) | with_reducible exact H | (rw [hy173]; exact H) | exact H
       have Ny173 := Aside0.mk hy173
       clear hy173
       have H' := Aside0.mk H
       clear H
       have p171 : 0 ≤ (x15_1 : Int) := of_decide_eq_true aS
       have q171 : x15_1 < (l1.length : Int) := of_decide_eq_true aS
       obtain ⟨ad171, e171, hx171_0⟩ := Kd.at_int (Kd.C_kept_now HR1.out HK.out) x15_1 p171 q171
       cases e171
       replace p171 := eq_true p171
       replace q171 := eq_true q171
       obtain ⟨Ao9, co9, eo9⟩ := RW_slice HO_0.out
       subst eo9
       have p172 : 0 ≤ (x15_1 : Int) := of_decide_eq_true aS
       have q172 : x15_1 < (x0_1.length : Int) := of_decide_eq_true aS
       obtain ⟨ad172, e172, hx172_0⟩ := Kd.at_int (RW_reads' HO_0.out).2.2 x15_1 p172 q172
       cases e172
       replace p172 := eq_true p172
       replace q172 := eq_true q172
       have p8 : 0 ≤ (x15_1 : Int) := of_decide_eq_true aS
       have q8 : (x15_1 : Int) < ((x0_1.length : Int) : Int) := of_decide_eq_true aS
       obtain ⟨go8, co8, eo8, gb8, gl8, cl8, HG8⟩ := RW_form HO_0.out (by omega)
       (first | cases eo8 | (injection eo8 with ea_ en_ ec_; (first | subst ea_ | (injection ea_ with ea_; subst ea_)); subst ec_; clear en_))
       have GB8 := Aside0.mk gb8
       have GG8 := Aside0.mk HG8
       clear gb8 gl8 HG8
       have HMgo8 := Aside0.mk (show (P0_ go8 ∨ w.heap.size ≤ go8) from (HO_0.out.1 _ rfl))
       (first | simp only [add_at] at hx172_0 | skip)
       obtain ⟨hx8_0, hf8_0⟩ := RW_celln HO_0.out (x15_1 : Int) p8 q8
       replace p8 := eq_true p8
       replace q8 := eq_true q8
       have HP10 := RW_putg HO_0.out (x15_1 : Int) ((IntKind.u64.wrap ((IntKind.u64.wrap ((IntKind.u64.wrap (rd x0_1 x15_1)) - ((IntKind.u64.wrap (x7_1 + (IntKind.u64.wrap (a2 * (IntKind.u64.wrap (rd l1 x15_1)))))) % 4294967296))) - x8_1)) % 4294967296) (of_eq_true p8) (of_eq_true q8)
       go_wp2_with (first | ((with_reducible refine gate_store (t := 36) (p := 41) rfl ?_); refine store_event (t := 36) (p := 41) (v := ?vo_w11) (w1 := (wr.setCell ⟨go8, pre_.length + (x15_1 : Int).toNat, none⟩ (.int .u32 ((IntKind.u64.wrap ((IntKind.u64.wrap ((IntKind.u64.wrap (rd x0_1 x15_1)) - ((IntKind.u64.wrap (x7_1 + (IntKind.u64.wrap (a2 * (IntKind.u64.wrap (rd l1 x15_1)))))) % 4294967296))) - x8_1)) % 4294967296)))) ?hg ?ho ?hn ?hr ?_; (case ho => rfl); (case hg => rfl); (case hn => rfl); (case hr => first | (go_simp; done) | (go_simp; rfl)); intro w11 hw; have hg : wr.grownBy w11 (some go8) := (by rw [hw]; exact HP10.2); have hp_ : RW .u32 pre_ post_ hcw_ 36 w11 w0.heap.size (fun k_ => (P0_ k_ ∨ w.heap.size ≤ k_)) (.slice (some ⟨go8, pre_.length, none⟩) x0_1.length co9) y173 := (by rw [hw, Ny173.out]; exact HP10.1); clear HP10; have n0_ := Aside0.mk (hp_); have n1_ := Aside0.mk ((by rw [hw]; exact below_set (HB.out) GB8.out : Below w0.heap.size w0 w11)); have n2_ := Aside0.mk (Kept.of_grown (S := (fun k_ => P0_ k_)) hg (by repeat (first | (with_reducible first | exact HK.out | apply Kept.alloc | apply Kept.drewN | apply Kept.drew) | exact HK.out)) (fun k_ e_ => (HO_0.out.1 k_ e_))); clear HO_0 HB HK; have HO_0 := n0_; have HB := n1_; have HK := n2_; clear n0_ n1_ n2_; clear hg hw hp_))
       go_roundg k1
       case measure => have := HK1.out; omega
       case rel => exact ⟨(y173), ((IntKind.u64.wrap (x7_1 + (IntKind.u64.wrap (a2 * (IntKind.u64.wrap (rd l1 x15_1)))))) / 4294967296), ((IntKind.u64.wrap ((IntKind.u64.wrap ((IntKind.u64.wrap (rd x0_1 x15_1)) - ((IntKind.u64.wrap (x7_1 + (IntKind.u64.wrap (a2 * (IntKind.u64.wrap (rd l1 x15_1)))))) % 4294967296))) - x8_1)) / 9223372036854775808), (wrap64 (x15_1 + 1)), (by first | rfl | (simp; done) | (simp [*]; done)), (by first | rfl | (simp; done) | (simp [*]; done)), (by first | rfl | (simp; done) | (simp [*]; done)), H', ⟨by have := HK1.out; omega⟩, ⟨by (with_reducible repeat (first | apply RW_alloc | apply RW_drewN | apply RW_drew)); exact HO_0.out⟩, ⟨by repeat (first | (with_reducible first | exact HK.out | apply Kept.alloc | apply Kept.drewN | apply Kept.drew) | exact HK.out)⟩, ⟨by repeat (first | (with_reducible first | exact HB.out | apply below_alloc | apply pw_below_drewN | apply below_drew1) | exact HB.out)⟩⟩
      ·rw [if_neg c7] at H
       exact absurd H (by simp)
     ·rw [if_neg c6] at H
      exact absurd H (by simp)
    ·rw [if_neg c5] at H
     exact absurd H (by simp)
   ·rw [if_neg c4] at H
    have c4b0 : decide (x15_1 < (l1.length : Int)) = false := decide_eq_false c4
    clear c4
    by_cases c12 : 0 ≤ (l1.length : Int)
    ·rw [if_pos c12] at H
     have c12b0 : decide (0 ≤ (l1.length : Int)) = true := decide_eq_true c12
     have c12b1 : decide (0 ≤ l1.length) = true := decide_eq_true (by omega)
     clear c12
     by_cases c13 : (l1.length : Int) < (x0_1.length : Int)
     ·rw [if_pos c13] at H
      have c13b0 : decide ((l1.length : Int) < (x0_1.length : Int)) = true := decide_eq_true c13
      have c13b1 : decide (l1.length < x0_1.length) = true := decide_eq_true (Int.ofNat_lt.mp c13)
      clear c13
      obtain ⟨y175, hy175⟩ : ∃ y_ : List Int, y_ = (x0_1.set ((l1.length : Int) : Int).toNat ((IntKind.u64.wrap ((IntKind.u64.wrap ((IntKind.u64.wrap (rd x0_1 (l1.length : Int))) - x7_1)) - x8_1)) % 4294967296)) := ⟨_, rfl⟩
      replace H : (some ((((IntKind.u64.wrap ((IntKind.u64.wrap ((IntKind.u64.wrap (rd x0_1 (l1.length : Int))) - x7_1)) - x8_1)) / 9223372036854775808) == 1), y175)) = some (r1, r2) := by first | (rw [hy175]; with_reducible exact H) | (have H2_ := (Option.bind_some _ _).symm.trans H; rw [hy175]; with_reducible exact H2_) | (have H2_ := (Option.bind_some _ _).symm.trans H; with_reducible exact H2_) | with_reducible exact H | (rw [hy175]; exact H) | exact H
      have Ny175 := Aside0.mk hy175
      clear hy175
      simp only [Option.some.injEq, Prod.mk.injEq] at H
      obtain ⟨rfl, rfl⟩ := H
      obtain ⟨Ao15, co15, eo15⟩ := RW_slice HO_0.out
      subst eo15
      have p174 : 0 ≤ ((l1.length : Int) : Int) := of_decide_eq_true aS
      have q174 : (l1.length : Int) < (x0_1.length : Int) := of_decide_eq_true aS
      obtain ⟨ad174, e174, hx174_0⟩ := Kd.at_int (RW_reads' HO_0.out).2.2 (l1.length : Int) p174 q174
      cases e174
      (try simp only [Go.IntWalk.toNatUp] at hx174_0)
      replace p174 := eq_true p174
      replace q174 := eq_true q174
      have p14 : 0 ≤ ((l1.length : Int) : Int) := of_decide_eq_true aS
      have q14 : ((l1.length : Int) : Int) < ((x0_1.length : Int) : Int) := of_decide_eq_true aS
      obtain ⟨go14, co14, eo14, gb14, gl14, cl14, HG14⟩ := RW_form HO_0.out (by omega)
      (first | cases eo14 | (injection eo14 with ea_ en_ ec_; (first | subst ea_ | (injection ea_ with ea_; subst ea_)); subst ec_; clear en_))
      have GB14 := Aside0.mk gb14
      have GG14 := Aside0.mk HG14
      clear gb14 gl14 HG14
      have HMgo14 := Aside0.mk (show (P0_ go14 ∨ w.heap.size ≤ go14) from (HO_0.out.1 _ rfl))
      (first | simp only [add_at] at hx174_0 | skip)
      obtain ⟨hx14_0, hf14_0⟩ := RW_celln HO_0.out ((l1.length : Int) : Int) p14 q14
      (try simp only [Go.IntWalk.toNatUp] at hx14_0 hf14_0)
      replace p14 := eq_true p14
      replace q14 := eq_true q14
      have HP16 := RW_putg HO_0.out ((l1.length : Int) : Int) ((IntKind.u64.wrap ((IntKind.u64.wrap ((IntKind.u64.wrap (rd x0_1 (l1.length : Int))) - x7_1)) - x8_1)) % 4294967296) (of_eq_true p14) (of_eq_true q14)
      go_wp2_with (first | ((with_reducible refine gate_store (t := 36) (p := 62) rfl ?_); refine store_event (t := 36) (p := 62) (v := ?vo_w17) (w1 := (wr.setCell ⟨go14, pre_.length + ((l1.length : Int) : Int).toNat, none⟩ (.int .u32 ((IntKind.u64.wrap ((IntKind.u64.wrap ((IntKind.u64.wrap (rd x0_1 (l1.length : Int))) - x7_1)) - x8_1)) % 4294967296)))) ?hg ?ho ?hn ?hr ?_; (case ho => rfl); (case hg => rfl); (case hn => rfl); (case hr => first | (go_simp; done) | (go_simp; rfl)); intro w17 hw; have hg : wr.grownBy w17 (some go14) := (by rw [hw]; exact HP16.2); have hp_ : RW .u32 pre_ post_ hcw_ 36 w17 w0.heap.size (fun k_ => (P0_ k_ ∨ w.heap.size ≤ k_)) (.slice (some ⟨go14, pre_.length, none⟩) x0_1.length co15) y175 := (by rw [hw, Ny175.out]; exact HP16.1); clear HP16; have n0_ := Aside0.mk (hp_); have n1_ := Aside0.mk ((by rw [hw]; exact below_set (HB.out) GB14.out : Below w0.heap.size w0 w17)); have n2_ := Aside0.mk (Kept.of_grown (S := (fun k_ => P0_ k_)) hg (by repeat (first | (with_reducible first | exact HK.out | apply Kept.alloc | apply Kept.drewN | apply Kept.drew) | exact HK.out)) (fun k_ e_ => (HO_0.out.1 k_ e_))); clear HO_0 HB HK; have HO_0 := n0_; have HB := n1_; have HK := n2_; clear n0_ n1_ n2_; clear hg hw hp_))
      go_ret
      exact ⟨by first | rfl | (simp [errW_none, errW_some] <;> rfl) | (simp [*, errW_none, errW_some] <;> rfl), by (with_reducible repeat (first | apply RW_alloc | apply RW_drewN | apply RW_drew)); exact HO_0.out, by repeat (first | (with_reducible first | exact HB.out | apply below_alloc | apply pw_below_drewN | apply below_drew1) | exact HB.out), by repeat (first | (with_reducible first | exact HK.out | apply Kept.alloc | apply Kept.drewN | apply Kept.drew) | exact HK.out)⟩
     ·rw [if_neg c13] at H
      exact absurd H (by simp)
    ·rw [if_neg c12] at H
     exact absurd H (by simp)
theorem mag_subtractAt.calls {v_ : Value} (k : Nat) (P0_ : Nat → Prop) (u9000_ : Value) (l0 : List Int) (b1_ b2_ : Int) (A1 : Option Addr) (c1 : Nat) (l1 : List Int) (a2 : Int) (r1 : Bool) (r2 : List Int) (w0 w : World) (hB : Below w0.heap.size w0 w) (hcut_ : 0 ≤ b1_ ∧ b1_ < b2_ ∧ b2_ ≤ l0.length ∧ ∀ W : World, (Instr.slice 22 u9000_ (some (.int .i64 b1_)) (some (.int .i64 b2_)) none).run Try.prog W = .ok v_ W) (ho0 : Kd.R (Kd.int .u32) 36 w w0.heap.size P0_ u9000_ l0) (hr1 : ∀ W_, Kept w W_ (fun k_ => P0_ k_) → Kd.C (Kd.int .u32) W_ A1 l1.length l1) (hc1 : l1.length ≤ c1) (h : mag_subtractAt.f k l0 b1_ b2_ l1 a2 = some (r1, r2)) :
  Calls Try.prog 69 #[v_, .slice A1 l1.length c1, .int .u64 a2] w fun e w' => e = .returned (.bool r1) ∧ Kd.R (Kd.int .u32) 36 w' w0.heap.size (fun k_ => (P0_ k_ ∨ w.heap.size ≤ k_)) u9000_ r2 ∧ Below w0.heap.size w0 w' ∧ Kept w w' (fun k_ => P0_ k_) := by
 obtain ⟨h0_, h1_, h2_, hcut_⟩ := hcut_
 obtain ⟨A_, c_, rfl⟩ := Kd.R_slice ho0
 unfold mag_subtractAt.f at h
 replace h := Option.bind_eq_some_iff.mp h
 obtain ⟨p_, hf_, he_⟩ := h
 injection he_ with he_
 injection he_ with e1_ e2_
 subst e1_
 subst e2_
 obtain ⟨i0_, hi0_, _, hsz_, _⟩ := info_parts info36
 obtain ⟨g_, rfl, hv_, hW_⟩ := RW_open .i64 .i64 Try.underlying22 hi0_ hsz_ hcut_ ho0 h0_ h1_ h2_
 refine (mag_subtract.callsW k _ _ _ P0_ _ _ A1 c1 l1 a2 p_.1 p_.2 w0 w hB hW_ hr1 hc1 hf_).mono ?_
 rintro e w' ⟨rfl, hR_, hb_, hk_⟩
 refine ⟨rfl, ?_, hb_, hk_⟩
 rw [hv_] at hR_
 obtain ⟨hm_, hS_⟩ := RW_shut hR_
 have hl_ : (l0.take b1_.toNat ++ p_.2 ++ l0.drop b2_.toNat).length = l0.length := by
  rw [hv_] at hW_
  obtain ⟨hm2_, _⟩ := RW_shut hW_
  simp only [List.length_append, List.length_take, List.length_drop] at hm_ hm2_ ⊢
  omega
 rw [hl_] at hS_
 exact hS_
end Go.Proofs.Ytfmobogdnlmdbaa.P
end
section
namespace Go.Proofs.Ytfmobogdnlmdbaa.P
open Go.RowKit Go.Proofs.YtfmobogdnlmdbaaW.PrintWords Go.Proofs.YtfmobogdnlmdbaaW.PrintLast Go.Proofs.YtfmobogdnlmdbaaW.PrintMore Go.Proofs.YtfmobogdnlmdbaaW
attribute [local go_sem] max2_int min2_int max_two min_two max_three min_three max_four min_four
set_option linter.unusedVariables false
set_option linter.unusedSimpArgs false
set_option maxHeartbeats 8000000 in
set_option maxRecDepth 100000 in
theorem mag_restore.callsW (k : Nat) (pre_ post_ : List Int) (hcw_ : Nat) (P0_ : Nat → Prop) (u9000_ : Value) (l0 : List Int) (A1 : Option Addr) (c1 : Nat) (l1 : List Int) (r : List Int) (w0 w : World) (hB : Below w0.heap.size w0 w) (ho0 : RW .u32 pre_ post_ hcw_ 36 w w0.heap.size P0_ u9000_ l0) (hr1 : ∀ W_, Kept w W_ (fun k_ => P0_ k_) → Kd.C (Kd.int .u32) W_ A1 l1.length l1) (hc1 : l1.length ≤ c1) (h : mag_restore.f k l0 l1 = some r) :
  Calls Try.prog 70 #[u9000_, .slice A1 l1.length c1] w fun e w' => e = .returned (.tuple #[]) ∧ RW .u32 pre_ post_ hcw_ 36 w' w0.heap.size (fun k_ => (P0_ k_ ∨ w.heap.size ≤ k_)) u9000_ r ∧ Below w0.heap.size w0 w' ∧ Kept w w' (fun k_ => P0_ k_) := by
 have HO0 := Aside0.mk (show RW .u32 pre_ post_ hcw_ 36 w w0.heap.size (fun k_ => (P0_ k_ ∨ w.heap.size ≤ k_)) u9000_ l0 from RW_mono ho0 (fun k_ hk => (.inl hk)))
 have HR1 := Aside0.mk hr1
 have HC1 := Aside0.mk hc1
 clear hr1 hc1
 have HK := Aside0.mk (Kept.refl w (fun k_ => P0_ k_))
 have HW0 := Aside0.mk hB.size
 have HB := Aside0.mk hB
 clear hB
 have H : (mag_restore.l0 k l0 l1 0 l1 (l1.length : Int) 0) = some r := h
 clear h
 have H' := Aside0.mk H
 clear H
 go_enter Try.func70, Try.ntmps70
 go_wp2
 go_loopg [4, 9] k (fun kq v4 v9 w' => ∃ (x0_1 : List Int) (x4_1 : Int) (x9_1 : Int), v4 = .int .u64 x4_1 ∧ v9 = .int .i64 x9_1 ∧ Aside0 (mag_restore.l0 kq x0_1 l1 x4_1 l1 (l1.length : Int) x9_1 = some r) ∧ Aside0 (kq ≤ k) ∧ Aside0 (RW .u32 pre_ post_ hcw_ 36 w' w0.heap.size (fun k_ => (P0_ k_ ∨ w.heap.size ≤ k_)) u9000_ x0_1) ∧ Aside0 (Kept w w' (fun k_ => P0_ k_)) ∧ Aside0 (Below w0.heap.size w0 w'))
 case atStart => exact ⟨(l0), (0), (0), (by first | rfl | (simp; done) | (simp [*]; done)), (by first | rfl | (simp; done) | (simp [*]; done)), H', ⟨Nat.le_refl _⟩, ⟨by (with_reducible repeat (first | apply RW_alloc | apply RW_drewN | apply RW_drew)); exact HO0.out⟩, ⟨by repeat (first | (with_reducible first | exact HK.out | apply Kept.alloc | apply Kept.drewN | apply Kept.drew) | exact HK.out)⟩, ⟨by repeat (first | (with_reducible first | exact HB.out | apply below_alloc | apply pw_below_drewN | apply below_drew1) | exact HB.out)⟩⟩
 case round =>
  clear H'
  try clear c1
  try clear p2
  obtain ⟨x0_1, x4_1, x9_1, rfl, rfl, HA, HK1, HO_0, HK, HB⟩ := hrel
  cases gk with
  | zero => exact absurd HA.out (by simp [mag_restore.l0])
  | succ k1 =>
   have H := HA.out
   clear HA
   simp only [mag_restore.l0] at H
   by_cases c3 : x9_1 < (l1.length : Int)
   ·rw [if_pos c3] at H
    have c3b0 : decide (x9_1 < (l1.length : Int)) = true := decide_eq_true c3
    clear c3
    by_cases c4 : 0 ≤ x9_1
    ·rw [if_pos c4] at H
     have c4b0 : decide (0 ≤ x9_1) = true := decide_eq_true c4
     clear c4
     by_cases c5 : x9_1 < (l1.length : Int)
     ·rw [if_pos c5] at H
      have c5b0 : decide (x9_1 < (l1.length : Int)) = true := decide_eq_true c5
      clear c5
      by_cases c6 : x9_1 < (x0_1.length : Int)
      ·rw [if_pos c6] at H
       have c6b0 : decide (x9_1 < (x0_1.length : Int)) = true := decide_eq_true c6
       clear c6
       obtain ⟨y178, hy178⟩ : ∃ y_ : List Int, y_ = (x0_1.set (x9_1 : Int).toNat ((IntKind.u64.wrap (x4_1 + (IntKind.u64.wrap ((IntKind.u64.wrap (rd x0_1 x9_1)) + (IntKind.u64.wrap (rd l1 x9_1)))))) % 4294967296)) := ⟨_, rfl⟩
       replace H : (mag_restore.l0 k1 y178 l1 ((IntKind.u64.wrap (x4_1 + (IntKind.u64.wrap ((IntKind.u64.wrap (rd x0_1 x9_1)) + (IntKind.u64.wrap (rd l1 x9_1)))))) / 4294967296) l1 (l1.length : Int) (wrap64 (x9_1 + 1))) = some r := by first | (rw [hy178]; with_reducible exact H) | (have H2_ := (Option.bind_some _ _).symm.trans H; rw [hy178]; with_reducible exact H2_) | (have H2_ := (Option.bind_some _ _).symm.trans H; with_reducible exact H2_) | with_reducible exact H | (rw [hy178]; exact H) | exact H
       have Ny178 := Aside0.mk hy178
       clear hy178
       have H' := Aside0.mk H
       clear H
       have p176 : 0 ≤ (x9_1 : Int) := of_decide_eq_true aS
       have q176 : x9_1 < (l1.length : Int) := of_decide_eq_true aS
       obtain ⟨ad176, e176, hx176_0⟩ := Kd.at_int (Kd.C_kept_now HR1.out HK.out) x9_1 p176 q176
       cases e176
       replace p176 := eq_true p176
       replace q176 := eq_true q176
       obtain ⟨Ao8, co8, eo8⟩ := RW_slice HO_0.out
       subst eo8
       have p177 : 0 ≤ (x9_1 : Int) := of_decide_eq_true aS
       have q177 : x9_1 < (x0_1.length : Int) := of_decide_eq_true aS
       obtain ⟨ad177, e177, hx177_0⟩ := Kd.at_int (RW_reads' HO_0.out).2.2 x9_1 p177 q177
       cases e177
       replace p177 := eq_true p177
       replace q177 := eq_true q177
       have p7 : 0 ≤ (x9_1 : Int) := of_decide_eq_true aS
       have q7 : (x9_1 : Int) < ((x0_1.length : Int) : Int) := of_decide_eq_true aS
       obtain ⟨go7, co7, eo7, gb7, gl7, cl7, HG7⟩ := RW_form HO_0.out (by omega)
       (first | cases eo7 | (injection eo7 with ea_ en_ ec_; (first | subst ea_ | (injection ea_ with ea_; subst ea_)); subst ec_; clear en_))
       have GB7 := Aside0.mk gb7
       have GG7 := Aside0.mk HG7
       clear gb7 gl7 HG7
       have HMgo7 := Aside0.mk (show (P0_ go7 ∨ w.heap.size ≤ go7) from (HO_0.out.1 _ rfl))
       (first | simp only [add_at] at hx177_0 | skip)
       obtain ⟨hx7_0, hf7_0⟩ := RW_celln HO_0.out (x9_1 : Int) p7 q7
       replace p7 := eq_true p7
       replace q7 := eq_true q7
       have HP9 := RW_putg HO_0.out (x9_1 : Int) ((IntKind.u64.wrap (x4_1 + (IntKind.u64.wrap ((IntKind.u64.wrap (rd x0_1 x9_1)) + (IntKind.u64.wrap (rd l1 x9_1)))))) % 4294967296) (of_eq_true p7) (of_eq_true q7)
       go_wp2_with (first | ((with_reducible refine gate_store (t := 36) (p := 28) rfl ?_); refine store_event (t := 36) (p := 28) (v := ?vo_w10) (w1 := (wr.setCell ⟨go7, pre_.length + (x9_1 : Int).toNat, none⟩ (.int .u32 ((IntKind.u64.wrap (x4_1 + (IntKind.u64.wrap ((IntKind.u64.wrap (rd x0_1 x9_1)) + (IntKind.u64.wrap (rd l1 x9_1)))))) % 4294967296)))) ?hg ?ho ?hn ?hr ?_; (case ho => rfl); (case hg => rfl); (case hn => rfl); (case hr => first | (go_simp; done) | (go_simp; rfl)); intro w10 hw; have hg : wr.grownBy w10 (some go7) := (by rw [hw]; exact HP9.2); have hp_ : RW .u32 pre_ post_ hcw_ 36 w10 w0.heap.size (fun k_ => (P0_ k_ ∨ w.heap.size ≤ k_)) (.slice (some ⟨go7, pre_.length, none⟩) x0_1.length co8) y178 := (by rw [hw, Ny178.out]; exact HP9.1); clear HP9; have n0_ := Aside0.mk (hp_); have n1_ := Aside0.mk ((by rw [hw]; exact below_set (HB.out) GB7.out : Below w0.heap.size w0 w10)); have n2_ := Aside0.mk (Kept.of_grown (S := (fun k_ => P0_ k_)) hg (by repeat (first | (with_reducible first | exact HK.out | apply Kept.alloc | apply Kept.drewN | apply Kept.drew) | exact HK.out)) (fun k_ e_ => (HO_0.out.1 k_ e_))); clear HO_0 HB HK; have HO_0 := n0_; have HB := n1_; have HK := n2_; clear n0_ n1_ n2_; clear hg hw hp_))
       go_roundg k1
       case measure => have := HK1.out; omega
       case rel => exact ⟨(y178), ((IntKind.u64.wrap (x4_1 + (IntKind.u64.wrap ((IntKind.u64.wrap (rd x0_1 x9_1)) + (IntKind.u64.wrap (rd l1 x9_1)))))) / 4294967296), (wrap64 (x9_1 + 1)), (by first | rfl | (simp; done) | (simp [*]; done)), (by first | rfl | (simp; done) | (simp [*]; done)), H', ⟨by have := HK1.out; omega⟩, ⟨by (with_reducible repeat (first | apply RW_alloc | apply RW_drewN | apply RW_drew)); exact HO_0.out⟩, ⟨by repeat (first | (with_reducible first | exact HK.out | apply Kept.alloc | apply Kept.drewN | apply Kept.drew) | exact HK.out)⟩, ⟨by repeat (first | (with_reducible first | exact HB.out | apply below_alloc | apply pw_below_drewN | apply below_drew1) | exact HB.out)⟩⟩
      ·rw [if_neg c6] at H
       exact absurd H (by simp)
     ·rw [if_neg c5] at H
      exact absurd H (by simp)
    ·rw [if_neg c4] at H
     exact absurd H (by simp)
   ·rw [if_neg c3] at H
    have c3b0 : decide (x9_1 < (l1.length : Int)) = false := decide_eq_false c3
    clear c3
    by_cases c11 : 0 ≤ (l1.length : Int)
    ·rw [if_pos c11] at H
     have c11b0 : decide (0 ≤ (l1.length : Int)) = true := decide_eq_true c11
     have c11b1 : decide (0 ≤ l1.length) = true := decide_eq_true (by omega)
     clear c11
     by_cases c12 : (l1.length : Int) < (x0_1.length : Int)
     ·rw [if_pos c12] at H
      have c12b0 : decide ((l1.length : Int) < (x0_1.length : Int)) = true := decide_eq_true c12
      have c12b1 : decide (l1.length < x0_1.length) = true := decide_eq_true (Int.ofNat_lt.mp c12)
      clear c12
      obtain ⟨y180, hy180⟩ : ∃ y_ : List Int, y_ = (x0_1.set ((l1.length : Int) : Int).toNat (((rd x0_1 (l1.length : Int)) + ((x4_1) % 4294967296)) % 4294967296)) := ⟨_, rfl⟩
      replace H : (some y180) = some r := by first | (rw [hy180]; with_reducible exact H) | (have H2_ := (Option.bind_some _ _).symm.trans H; rw [hy180]; with_reducible exact H2_) | (have H2_ := (Option.bind_some _ _).symm.trans H; with_reducible exact H2_) | with_reducible exact H | (rw [hy180]; exact H) | exact H
      have Ny180 := Aside0.mk hy180
      clear hy180
      obtain rfl := Option.some.inj H
      obtain ⟨Ao14, co14, eo14⟩ := RW_slice HO_0.out
      subst eo14
      have p179 : 0 ≤ ((l1.length : Int) : Int) := of_decide_eq_true aS
      have q179 : (l1.length : Int) < (x0_1.length : Int) := of_decide_eq_true aS
      obtain ⟨ad179, e179, hx179_0⟩ := Kd.at_int (RW_reads' HO_0.out).2.2 (l1.length : Int) p179 q179
      cases e179
      (try simp only [Go.IntWalk.toNatUp] at hx179_0)
      replace p179 := eq_true p179
      replace q179 := eq_true q179
      have p13 : 0 ≤ ((l1.length : Int) : Int) := of_decide_eq_true aS
      have q13 : ((l1.length : Int) : Int) < ((x0_1.length : Int) : Int) := of_decide_eq_true aS
      obtain ⟨go13, co13, eo13, gb13, gl13, cl13, HG13⟩ := RW_form HO_0.out (by omega)
      (first | cases eo13 | (injection eo13 with ea_ en_ ec_; (first | subst ea_ | (injection ea_ with ea_; subst ea_)); subst ec_; clear en_))
      have GB13 := Aside0.mk gb13
      have GG13 := Aside0.mk HG13
      clear gb13 gl13 HG13
      have HMgo13 := Aside0.mk (show (P0_ go13 ∨ w.heap.size ≤ go13) from (HO_0.out.1 _ rfl))
      (first | simp only [add_at] at hx179_0 | skip)
      obtain ⟨hx13_0, hf13_0⟩ := RW_celln HO_0.out ((l1.length : Int) : Int) p13 q13
      (try simp only [Go.IntWalk.toNatUp] at hx13_0 hf13_0)
      replace p13 := eq_true p13
      replace q13 := eq_true q13
      have HP15 := RW_putg HO_0.out ((l1.length : Int) : Int) (((rd x0_1 (l1.length : Int)) + ((x4_1) % 4294967296)) % 4294967296) (of_eq_true p13) (of_eq_true q13)
      go_wp2_with (first | ((with_reducible refine gate_store (t := 36) (p := 40) rfl ?_); refine store_event (t := 36) (p := 40) (v := ?vo_w16) (w1 := (wr.setCell ⟨go13, pre_.length + ((l1.length : Int) : Int).toNat, none⟩ (.int .u32 (((rd x0_1 (l1.length : Int)) + ((x4_1) % 4294967296)) % 4294967296)))) ?hg ?ho ?hn ?hr ?_; (case ho => rfl); (case hg => rfl); (case hn => rfl); (case hr => first | (go_simp; done) | (go_simp; rfl)); intro w16 hw; have hg : wr.grownBy w16 (some go13) := (by rw [hw]; exact HP15.2); have hp_ : RW .u32 pre_ post_ hcw_ 36 w16 w0.heap.size (fun k_ => (P0_ k_ ∨ w.heap.size ≤ k_)) (.slice (some ⟨go13, pre_.length, none⟩) x0_1.length co14) y180 := (by rw [hw, Ny180.out]; exact HP15.1); clear HP15; have n0_ := Aside0.mk (hp_); have n1_ := Aside0.mk ((by rw [hw]; exact below_set (HB.out) GB13.out : Below w0.heap.size w0 w16)); have n2_ := Aside0.mk (Kept.of_grown (S := (fun k_ => P0_ k_)) hg (by repeat (first | (with_reducible first | exact HK.out | apply Kept.alloc | apply Kept.drewN | apply Kept.drew) | exact HK.out)) (fun k_ e_ => (HO_0.out.1 k_ e_))); clear HO_0 HB HK; have HO_0 := n0_; have HB := n1_; have HK := n2_; clear n0_ n1_ n2_; clear hg hw hp_))
      first | go_end0 | ((try simp only [Exit.inBlock, Exit.then]); refine bodyPost_ret (results_none rfl _ _ _) rfl ?_)
      exact ⟨by first | rfl | (simp [errW_none, errW_some] <;> rfl) | (simp [*, errW_none, errW_some] <;> rfl), by (with_reducible repeat (first | apply RW_alloc | apply RW_drewN | apply RW_drew)); exact HO_0.out, by repeat (first | (with_reducible first | exact HB.out | apply below_alloc | apply pw_below_drewN | apply below_drew1) | exact HB.out), by repeat (first | (with_reducible first | exact HK.out | apply Kept.alloc | apply Kept.drewN | apply Kept.drew) | exact HK.out)⟩
     ·rw [if_neg c12] at H
      exact absurd H (by simp)
    ·rw [if_neg c11] at H
     exact absurd H (by simp)
theorem mag_restoreAt.calls {v_ : Value} (k : Nat) (P0_ : Nat → Prop) (u9000_ : Value) (l0 : List Int) (b1_ b2_ : Int) (A1 : Option Addr) (c1 : Nat) (l1 : List Int) (r : List Int) (w0 w : World) (hB : Below w0.heap.size w0 w) (hcut_ : 0 ≤ b1_ ∧ b1_ < b2_ ∧ b2_ ≤ l0.length ∧ ∀ W : World, (Instr.slice 22 u9000_ (some (.int .i64 b1_)) (some (.int .i64 b2_)) none).run Try.prog W = .ok v_ W) (ho0 : Kd.R (Kd.int .u32) 36 w w0.heap.size P0_ u9000_ l0) (hr1 : ∀ W_, Kept w W_ (fun k_ => P0_ k_) → Kd.C (Kd.int .u32) W_ A1 l1.length l1) (hc1 : l1.length ≤ c1) (h : mag_restoreAt.f k l0 b1_ b2_ l1 = some r) :
  Calls Try.prog 70 #[v_, .slice A1 l1.length c1] w fun e w' => e = .returned (.tuple #[]) ∧ Kd.R (Kd.int .u32) 36 w' w0.heap.size (fun k_ => (P0_ k_ ∨ w.heap.size ≤ k_)) u9000_ r ∧ Below w0.heap.size w0 w' ∧ Kept w w' (fun k_ => P0_ k_) := by
 obtain ⟨h0_, h1_, h2_, hcut_⟩ := hcut_
 obtain ⟨A_, c_, rfl⟩ := Kd.R_slice ho0
 unfold mag_restoreAt.f at h
 replace h := Option.bind_eq_some_iff.mp h
 obtain ⟨p_, hf_, he_⟩ := h
 injection he_ with he_
 subst he_
 obtain ⟨i0_, hi0_, _, hsz_, _⟩ := info_parts info36
 obtain ⟨g_, rfl, hv_, hW_⟩ := RW_open .i64 .i64 Try.underlying22 hi0_ hsz_ hcut_ ho0 h0_ h1_ h2_
 refine (mag_restore.callsW k _ _ _ P0_ _ _ A1 c1 l1 p_ w0 w hB hW_ hr1 hc1 hf_).mono ?_
 rintro e w' ⟨rfl, hR_, hb_, hk_⟩
 refine ⟨rfl, ?_, hb_, hk_⟩
 rw [hv_] at hR_
 obtain ⟨hm_, hS_⟩ := RW_shut hR_
 have hl_ : (l0.take b1_.toNat ++ p_ ++ l0.drop b2_.toNat).length = l0.length := by
  rw [hv_] at hW_
  obtain ⟨hm2_, _⟩ := RW_shut hW_
  simp only [List.length_append, List.length_take, List.length_drop] at hm_ hm2_ ⊢
  omega
 rw [hl_] at hS_
 exact hS_
end Go.Proofs.Ytfmobogdnlmdbaa.P
end
section
namespace Go.Proofs.Ytfmobogdnlmdbaa.P
open Go.RowKit Go.Proofs.YtfmobogdnlmdbaaW.PrintWords Go.Proofs.YtfmobogdnlmdbaaW.PrintLast Go.Proofs.YtfmobogdnlmdbaaW.PrintMore Go.Proofs.YtfmobogdnlmdbaaW
attribute [local go_sem] max2_int min2_int max_two min_two max_three min_three max_four min_four
set_option linter.unusedVariables false
set_option linter.unusedSimpArgs false
set_option maxHeartbeats 8000000 in
set_option maxRecDepth 100000 in
theorem mag_DivMod.calls (k : Nat) (A0 : Option Addr) (c0 : Nat) (l0 : List Int) (A1 : Option Addr) (c1 : Nat) (l1 : List Int) (r1 : List Int) (r2 : List Int) (w : World) (hr0 : Kd.C (Kd.int .u32) w A0 l0.length l0) (hc0 : l0.length ≤ c0) (hr1 : Kd.C (Kd.int .u32) w A1 l1.length l1) (hc1 : l1.length ≤ c1) (h : mag_DivMod.f k l0 l1 = some (r1, r2)) :
  Calls Try.prog 48 #[.slice A0 l0.length c0, .slice A1 l1.length c1] w fun e w' => ∃ v0_ v1_ : Value, e = .returned (.tuple #[v0_, v1_]) ∧ Kd.V (Kd.int .u32) 36 w' w.heap.size (fun k_ => (w.heap.size ≤ k_)) v0_ r1 ∧ Kd.V (Kd.int .u32) 36 w' w.heap.size (fun k_ => (w.heap.size ≤ k_)) v1_ r2 ∧ Below w.heap.size w w' := by
 have HR0 := Aside0.mk hr0
 have HC0 := Aside0.mk hc0
 clear hr0 hc0
 have HR1 := Aside0.mk hr1
 have HC1 := Aside0.mk hc1
 clear hr1 hc1
 have HB := Aside0.mk (Below.refl w.heap.size w)
 have H : ((mag_Cmp.f k l0 l1).bind fun t181 => (if t181 < 0 then (if ([] : List Int).length + l0.length < 35184372088832 then (some (([] : List Int), (([] : List Int) ++ l0))) else (none)) else (if (l1.length : Int) = 1 then (if 0 < (l1.length : Int) then ((mag_divWord.f k l0 (rd l1 0)).bind fun bt186 => ((mag_From.f k (IntKind.u64.wrap (bt186.2))).bind fun t190 => (some (bt186.1, t190)))) else (none)) else (if 0 ≤ (wrap64 ((l1.length : Int) - 1)) then (if (wrap64 ((l1.length : Int) - 1)) < (l1.length : Int) then ((bits_LeadingZeros32.f (rd l1 (wrap64 ((l1.length : Int) - 1)))).bind fun t194 => ((mag_Shl.f k l1 t194).bind fun t195 => (if 0 ≤ (wrap64 ((l0.length : Int) + 1)) then (if (wrap64 ((l0.length : Int) + 1) : Int).toNat ≤ 70368744177664 then ((some (List.replicate (wrap64 ((l0.length : Int) + 1) : Int).toNat 0 : List Int)).bind fun y198 => ((mag_Shl.f k l0 t194).bind fun t201 => (if 0 ≤ (wrap64 ((y198.length : Int) - (t195.length : Int))) then (if (wrap64 ((y198.length : Int) - (t195.length : Int)) : Int).toNat ≤ 70368744177664 then (if 0 ≤ (wrap64 ((t195.length : Int) - 1)) then (if (wrap64 ((t195.length : Int) - 1)) < (t195.length : Int) then (if 0 ≤ (wrap64 ((t195.length : Int) - 2)) then (if (wrap64 ((t195.length : Int) - 2)) < (t195.length : Int) then (mag_DivMod.l0 k (List.replicate (wrap64 ((y198.length : Int) - (t195.length : Int)) : Int).toNat 0) t194 t195 (cpy y198 t201) (t195.length : Int) (IntKind.u64.wrap (rd t195 (wrap64 ((t195.length : Int) - 1)))) (IntKind.u64.wrap (rd t195 (wrap64 ((t195.length : Int) - 2)))) (wrap64 ((wrap64 ((y198.length : Int) - (t195.length : Int))) - 1))) else (none)) else (none)) else (none)) else (none)) else (none)) else (none)))) else (none)) else (none)))) else (none)) else (none))))) = some (r1, r2) := h
 clear h
 replace H := Option.bind_eq_some_iff.mp H
 obtain ⟨t181, A30, H⟩ := H
 replace H : (if t181 < 0 then (if ([] : List Int).length + l0.length < 35184372088832 then (some (([] : List Int), (([] : List Int) ++ l0))) else (none)) else (if (l1.length : Int) = 1 then (if 0 < (l1.length : Int) then ((mag_divWord.f k l0 (rd l1 0)).bind fun bt186 => ((mag_From.f k (IntKind.u64.wrap (bt186.2))).bind fun t190 => (some (bt186.1, t190)))) else (none)) else (if 0 ≤ (wrap64 ((l1.length : Int) - 1)) then (if (wrap64 ((l1.length : Int) - 1)) < (l1.length : Int) then ((bits_LeadingZeros32.f (rd l1 (wrap64 ((l1.length : Int) - 1)))).bind fun t194 => ((mag_Shl.f k l1 t194).bind fun t195 => (if 0 ≤ (wrap64 ((l0.length : Int) + 1)) then (if (wrap64 ((l0.length : Int) + 1) : Int).toNat ≤ 70368744177664 then ((some (List.replicate (wrap64 ((l0.length : Int) + 1) : Int).toNat 0 : List Int)).bind fun y198 => ((mag_Shl.f k l0 t194).bind fun t201 => (if 0 ≤ (wrap64 ((y198.length : Int) - (t195.length : Int))) then (if (wrap64 ((y198.length : Int) - (t195.length : Int)) : Int).toNat ≤ 70368744177664 then (if 0 ≤ (wrap64 ((t195.length : Int) - 1)) then (if (wrap64 ((t195.length : Int) - 1)) < (t195.length : Int) then (if 0 ≤ (wrap64 ((t195.length : Int) - 2)) then (if (wrap64 ((t195.length : Int) - 2)) < (t195.length : Int) then (mag_DivMod.l0 k (List.replicate (wrap64 ((y198.length : Int) - (t195.length : Int)) : Int).toNat 0) t194 t195 (cpy y198 t201) (t195.length : Int) (IntKind.u64.wrap (rd t195 (wrap64 ((t195.length : Int) - 1)))) (IntKind.u64.wrap (rd t195 (wrap64 ((t195.length : Int) - 2)))) (wrap64 ((wrap64 ((y198.length : Int) - (t195.length : Int))) - 1))) else (none)) else (none)) else (none)) else (none)) else (none)) else (none)))) else (none)) else (none)))) else (none)) else (none)))) = some (r1, r2) := H
 have A3 := Aside0.mk A30
 clear A30
 by_cases c4 : t181 < 0
 ·rw [if_pos c4] at H
  have c4b0 : decide (t181 < 0) = true := decide_eq_true c4
  clear c4
  by_cases c5 : ([] : List Int).length + l0.length < 35184372088832
  ·rw [if_pos c5] at H
   have LMc5 := Aside0.mk c5
   clear c5
   obtain ⟨y182, hy182⟩ : ∃ y_ : List Int, y_ = (([] : List Int) ++ l0) := ⟨_, rfl⟩
   replace H : (some (([] : List Int), y182)) = some (r1, r2) := by first | (rw [hy182]; with_reducible exact H) | (have H2_ := (Option.bind_some _ _).symm.trans H; rw [hy182]; with_reducible exact H2_) | (have H2_ := (Option.bind_some _ _).symm.trans H; with_reducible exact H2_) | with_reducible exact H | (rw [hy182]; exact H) | exact H
   have Ny182 := Aside0.mk hy182
   clear hy182
   simp only [Option.some.injEq, Prod.mk.injEq] at H
   obtain ⟨rfl, rfl⟩ := H
   go_enter Try.func48, Try.ntmps48
   go_wp2_with (first | (go_at_call 51; (with_reducible refine (mag_Cmp.calls k _ _ l0 _ _ l1 t181 _ ?side1 ?side2 ?side3 ?side4 A3.out).mono ?_); (case side1 => exact dC HR0.out); (case side2 => exact HC0.out); (case side3 => exact dC HR1.out); (case side4 => exact HC1.out); rintro e w' ⟨rfl, ⟨nd, rfl⟩⟩; (try exact dQ)) | ((with_reducible refine gate_builtin (b := .append) (xs := #[.const (.slice none 0 0), .tmp 22]) rfl ?_); at_builtin; refine Kd.R_append_rows (Kd.int .u32) (w0 := w) w.heap.size rfl (.const (.slice none 0 0)) (.tmp 22) 22 36 (.int .u32 0) 4 rfl Try.underlying22 info36 rfl (by decide) (by omega) (.slice none 0 0) ([] : List Int) l0 _ _ _ (fun k_ => (w.heap.size ≤ k_)) (fun _ => False) rfl rfl ?aO ?aR (fun _ _ h => h) (fun _ h => h.elim) ?aF ?aB ?aS ?aL ?_; (case aR => exact dC HR0.out); (case aB => exact (bB)); (case aF => exact (fun k_ hk => (Nat.le_trans (below_size (bB)) hk))); (case aO => exact ((Kd.R_nil _ _ _ _ (fun k_ => (w.heap.size ≤ k_))))); (case aS => exact (below_size (bB))); (case aL => have := LMc5.out; omega); intro v183 w6 ho hb hg hat; rw [← Ny182.out] at ho; have n0_ := Aside0.mk (hb); have n1_ := Aside0.mk (ho); clear HB; have HB := n0_; have HO184 := n1_; clear n0_ n1_; clear ho hb hg hat))
   repeat (go_quiet (first | (go_at_call 51; (with_reducible refine (mag_Cmp.calls k _ _ l0 _ _ l1 t181 _ ?side1 ?side2 ?side3 ?side4 A3.out).mono ?_); (case side1 => exact dC HR0.out); (case side2 => exact HC0.out); (case side3 => exact dC HR1.out); (case side4 => exact HC1.out); rintro e w' ⟨rfl, ⟨nd, rfl⟩⟩; (try exact dQ))); try go_wp2_with (first | (go_at_call 51; (with_reducible refine (mag_Cmp.calls k _ _ l0 _ _ l1 t181 _ ?side1 ?side2 ?side3 ?side4 A3.out).mono ?_); (case side1 => exact dC HR0.out); (case side2 => exact HC0.out); (case side3 => exact dC HR1.out); (case side4 => exact HC1.out); rintro e w' ⟨rfl, ⟨nd, rfl⟩⟩; (try exact dQ)) | ((with_reducible refine gate_builtin (b := .append) (xs := #[.const (.slice none 0 0), .tmp 22]) rfl ?_); at_builtin; refine Kd.R_append_rows (Kd.int .u32) (w0 := w) w.heap.size rfl (.const (.slice none 0 0)) (.tmp 22) 22 36 (.int .u32 0) 4 rfl Try.underlying22 info36 rfl (by decide) (by omega) (.slice none 0 0) ([] : List Int) l0 _ _ _ (fun k_ => (w.heap.size ≤ k_)) (fun _ => False) rfl rfl ?aO ?aR (fun _ _ h => h) (fun _ h => h.elim) ?aF ?aB ?aS ?aL ?_; (case aR => exact dC HR0.out); (case aB => exact (bB)); (case aF => exact (fun k_ hk => (Nat.le_trans (below_size (bB)) hk))); (case aO => exact ((Kd.R_nil _ _ _ _ (fun k_ => (w.heap.size ≤ k_))))); (case aS => exact (below_size (bB))); (case aL => have := LMc5.out; omega); intro v183 w6 ho hb hg hat; rw [← Ny182.out] at ho; have n0_ := Aside0.mk (hb); have n1_ := Aside0.mk (ho); clear HB; have HB := n0_; have HO184 := n1_; clear n0_ n1_; clear ho hb hg hat)))
   go_ret2
   exact ⟨_, _, by first | rfl | (simp [errW_none, errW_some] <;> rfl) | (simp [*, errW_none, errW_some] <;> rfl), Kd.V_nil _ _ _ _ _, Kd.R_V (dR HO184.out), by repeat (first | (with_reducible first | exact HB.out | apply below_alloc | apply pw_below_drewN | apply below_drew1) | exact HB.out)⟩
  ·rw [if_neg c5] at H
   exact absurd H (by simp)
 ·rw [if_neg c4] at H
  have c4b0 : decide (t181 < 0) = false := decide_eq_false c4
  clear c4
  by_cases c7 : (l1.length : Int) = 1
  ·rw [if_pos c7] at H
   have c7b0 : ((l1.length : Int) == 1) = true := beq_iff_eq.mpr c7
   have c7b1 : ((l1.length : Int) != 1) = false := bne_eq_false_iff_eq.mpr c7
   clear c7
   by_cases c8 : 0 < (l1.length : Int)
   ·rw [if_pos c8] at H
    have c8b0 : decide (0 < (l1.length : Int)) = true := decide_eq_true c8
    have c8b1 : decide (0 < l1.length) = true := decide_eq_true (by omega)
    clear c8
    replace H := Option.bind_eq_some_iff.mp H
    obtain ⟨⟨t186, t189⟩, A90, H⟩ := H
    replace H : ((mag_From.f k (IntKind.u64.wrap (t189))).bind fun t190 => (some (t186, t190))) = some (r1, r2) := H
    have A9 := Aside0.mk A90
    clear A90
    replace H := Option.bind_eq_some_iff.mp H
    obtain ⟨t190, A100, H⟩ := H
    replace H : (some (t186, t190)) = some (r1, r2) := H
    have A10 := Aside0.mk A100
    clear A100
    simp only [Option.some.injEq, Prod.mk.injEq] at H
    obtain ⟨rfl, rfl⟩ := H
    go_enter Try.func48, Try.ntmps48
    go_wp2_with (first | (go_at_call 51; (with_reducible refine (mag_Cmp.calls k _ _ l0 _ _ l1 t181 _ ?side1 ?side2 ?side3 ?side4 A3.out).mono ?_); (case side1 => exact dC HR0.out); (case side2 => exact HC0.out); (case side3 => exact dC HR1.out); (case side4 => exact HC1.out); rintro e w' ⟨rfl, ⟨nd, rfl⟩⟩; (try exact dQ); have p185 : 0 ≤ (0 : Int) := (by omega); have q185 : 0 < (l1.length : Int) := of_decide_eq_true aS; obtain ⟨ad185, e185, hx185_0⟩ := Kd.at_int HR1.out 0 p185 q185; cases e185; have qi185 : (0 < l1.length) = True := eq_true (by omega); (try rw [show ((0 : Int)).toNat = 0 from rfl] at hx185_0); (try rw [Addr.add_zero'] at hx185_0); replace p185 := eq_true p185; replace q185 := eq_true q185) | (go_at_call 68; (with_reducible refine (mag_divWord.calls k _ _ l0 (rd l1 0) t186 t189 _ ?side1 ?side2 A9.out).mono ?_); (case side1 => exact dC HR0.out); (case side2 => exact HC0.out); rintro e w11 ⟨v187, rfl, ho0, hb⟩; have n0_ := Aside0.mk (Kd.V_lower (Kd.V_mono (ok' := fun k_ => (w.heap.size ≤ k_)) ho0 (fun k_ hk_ => (Nat.le_trans (below_size (bB)) hk_))) (below_size (bB))); have n1_ := Aside0.mk (below_step (bB) hb); clear HB; have HO188 := n0_; have HB := n1_; clear n0_ n1_; (try clear hb); (try clear hb2); (try clear hk); (try clear hi); (try clear ho0)) | (go_at_call 59; (with_reducible refine (mag_From.calls k (IntKind.u64.wrap (t189)) t190 _ A10.out).mono ?_); rintro e w12 ⟨v191, rfl, ho0, hb⟩; have n0_ := Aside0.mk (Kd.V_below (dV HO188.out) hb); have n1_ := Aside0.mk (Kd.V_lower (Kd.V_mono (ok' := fun k_ => (w.heap.size ≤ k_)) ho0 (fun k_ hk_ => (Nat.le_trans (below_size (bB)) hk_))) (below_size (bB))); have n2_ := Aside0.mk (below_step (bB) hb); clear HO188 HB; have HO188 := n0_; have HO192 := n1_; have HB := n2_; clear n0_ n1_ n2_; (try clear hb); (try clear hb2); (try clear hk); (try clear hi); (try clear ho0)))
    repeat (go_quiet (first | (go_at_call 51; (with_reducible refine (mag_Cmp.calls k _ _ l0 _ _ l1 t181 _ ?side1 ?side2 ?side3 ?side4 A3.out).mono ?_); (case side1 => exact dC HR0.out); (case side2 => exact HC0.out); (case side3 => exact dC HR1.out); (case side4 => exact HC1.out); rintro e w' ⟨rfl, ⟨nd, rfl⟩⟩; (try exact dQ); have p185 : 0 ≤ (0 : Int) := (by omega); have q185 : 0 < (l1.length : Int) := of_decide_eq_true aS; obtain ⟨ad185, e185, hx185_0⟩ := Kd.at_int HR1.out 0 p185 q185; cases e185; have qi185 : (0 < l1.length) = True := eq_true (by omega); (try rw [show ((0 : Int)).toNat = 0 from rfl] at hx185_0); (try rw [Addr.add_zero'] at hx185_0); replace p185 := eq_true p185; replace q185 := eq_true q185)); try go_wp2_with (first | (go_at_call 51; (with_reducible refine (mag_Cmp.calls k _ _ l0 _ _ l1 t181 _ ?side1 ?side2 ?side3 ?side4 A3.out).mono ?_); (case side1 => exact dC HR0.out); (case side2 => exact HC0.out); (case side3 => exact dC HR1.out); (case side4 => exact HC1.out); rintro e w' ⟨rfl, ⟨nd, rfl⟩⟩; (try exact dQ); have p185 : 0 ≤ (0 : Int) := (by omega); have q185 : 0 < (l1.length : Int) := of_decide_eq_true aS; obtain ⟨ad185, e185, hx185_0⟩ := Kd.at_int HR1.out 0 p185 q185; cases e185; have qi185 : (0 < l1.length) = True := eq_true (by omega); (try rw [show ((0 : Int)).toNat = 0 from rfl] at hx185_0); (try rw [Addr.add_zero'] at hx185_0); replace p185 := eq_true p185; replace q185 := eq_true q185) | (go_at_call 68; (with_reducible refine (mag_divWord.calls k _ _ l0 (rd l1 0) t186 t189 _ ?side1 ?side2 A9.out).mono ?_); (case side1 => exact dC HR0.out); (case side2 => exact HC0.out); rintro e w11 ⟨v187, rfl, ho0, hb⟩; have n0_ := Aside0.mk (Kd.V_lower (Kd.V_mono (ok' := fun k_ => (w.heap.size ≤ k_)) ho0 (fun k_ hk_ => (Nat.le_trans (below_size (bB)) hk_))) (below_size (bB))); have n1_ := Aside0.mk (below_step (bB) hb); clear HB; have HO188 := n0_; have HB := n1_; clear n0_ n1_; (try clear hb); (try clear hb2); (try clear hk); (try clear hi); (try clear ho0)) | (go_at_call 59; (with_reducible refine (mag_From.calls k (IntKind.u64.wrap (t189)) t190 _ A10.out).mono ?_); rintro e w12 ⟨v191, rfl, ho0, hb⟩; have n0_ := Aside0.mk (Kd.V_below (dV HO188.out) hb); have n1_ := Aside0.mk (Kd.V_lower (Kd.V_mono (ok' := fun k_ => (w.heap.size ≤ k_)) ho0 (fun k_ hk_ => (Nat.le_trans (below_size (bB)) hk_))) (below_size (bB))); have n2_ := Aside0.mk (below_step (bB) hb); clear HO188 HB; have HO188 := n0_; have HO192 := n1_; have HB := n2_; clear n0_ n1_ n2_; (try clear hb); (try clear hb2); (try clear hk); (try clear hi); (try clear ho0))))
    go_ret2
    exact ⟨_, _, by first | rfl | (simp [errW_none, errW_some] <;> rfl) | (simp [*, errW_none, errW_some] <;> rfl), by (with_reducible repeat (first | apply Kd.V_alloc | apply Kd.V_drewN | apply Kd.V_drew)); exact HO188.out, by (with_reducible repeat (first | apply Kd.V_alloc | apply Kd.V_drewN | apply Kd.V_drew)); exact HO192.out, by repeat (first | (with_reducible first | exact HB.out | apply below_alloc | apply pw_below_drewN | apply below_drew1) | exact HB.out)⟩
   ·rw [if_neg c8] at H
    exact absurd H (by simp)
  ·rw [if_neg c7] at H
   have c7b0 : ((l1.length : Int) == 1) = false := beq_eq_false_iff_ne.mpr c7
   have c7b1 : ((l1.length : Int) != 1) = true := bne_iff_ne.mpr c7
   obtain ⟨ji13, hji13⟩ : ∃ j_ : Int, (wrap64 ((l1.length : Int) - 1)) = j_ := ⟨_, rfl⟩
   replace H : (if 0 ≤ (ji13) then (if (ji13) < (l1.length : Int) then ((bits_LeadingZeros32.f (rd l1 (ji13))).bind fun t194 => ((mag_Shl.f k l1 t194).bind fun t195 => (if 0 ≤ (wrap64 ((l0.length : Int) + 1)) then (if (wrap64 ((l0.length : Int) + 1) : Int).toNat ≤ 70368744177664 then ((some (List.replicate (wrap64 ((l0.length : Int) + 1) : Int).toNat 0 : List Int)).bind fun y198 => ((mag_Shl.f k l0 t194).bind fun t201 => (if 0 ≤ (wrap64 ((y198.length : Int) - (t195.length : Int))) then (if (wrap64 ((y198.length : Int) - (t195.length : Int)) : Int).toNat ≤ 70368744177664 then (if 0 ≤ (wrap64 ((t195.length : Int) - 1)) then (if (wrap64 ((t195.length : Int) - 1)) < (t195.length : Int) then (if 0 ≤ (wrap64 ((t195.length : Int) - 2)) then (if (wrap64 ((t195.length : Int) - 2)) < (t195.length : Int) then (mag_DivMod.l0 k (List.replicate (wrap64 ((y198.length : Int) - (t195.length : Int)) : Int).toNat 0) t194 t195 (cpy y198 t201) (t195.length : Int) (IntKind.u64.wrap (rd t195 (wrap64 ((t195.length : Int) - 1)))) (IntKind.u64.wrap (rd t195 (wrap64 ((t195.length : Int) - 2)))) (wrap64 ((wrap64 ((y198.length : Int) - (t195.length : Int))) - 1))) else (none)) else (none)) else (none)) else (none)) else (none)) else (none)))) else (none)) else (none)))) else (none)) else (none)) = some (r1, r2) := by first | (rw [hji13] at H; exact H) | (simp only [hji13] at H ⊢; exact H)
   (try rw [hji13] at A3)
   have hji13w : (IntKind.i64.wrap ((l1.length : Int) - 1)) = ji13 := (i64_w _).trans hji13
   by_cases c14 : 0 ≤ (ji13)
   ·rw [if_pos c14] at H
    have c14b0 : decide (0 ≤ (ji13)) = true := decide_eq_true c14
    clear c14
    by_cases c15 : (ji13) < (l1.length : Int)
    ·rw [if_pos c15] at H
     have c15b0 : decide ((ji13) < (l1.length : Int)) = true := decide_eq_true c15
     clear c15
     replace H := Option.bind_eq_some_iff.mp H
     obtain ⟨t194, A160, H⟩ := H
     replace H : ((mag_Shl.f k l1 t194).bind fun t195 => (if 0 ≤ (wrap64 ((l0.length : Int) + 1)) then (if (wrap64 ((l0.length : Int) + 1) : Int).toNat ≤ 70368744177664 then ((some (List.replicate (wrap64 ((l0.length : Int) + 1) : Int).toNat 0 : List Int)).bind fun y198 => ((mag_Shl.f k l0 t194).bind fun t201 => (if 0 ≤ (wrap64 ((y198.length : Int) - (t195.length : Int))) then (if (wrap64 ((y198.length : Int) - (t195.length : Int)) : Int).toNat ≤ 70368744177664 then (if 0 ≤ (wrap64 ((t195.length : Int) - 1)) then (if (wrap64 ((t195.length : Int) - 1)) < (t195.length : Int) then (if 0 ≤ (wrap64 ((t195.length : Int) - 2)) then (if (wrap64 ((t195.length : Int) - 2)) < (t195.length : Int) then (mag_DivMod.l0 k (List.replicate (wrap64 ((y198.length : Int) - (t195.length : Int)) : Int).toNat 0) t194 t195 (cpy y198 t201) (t195.length : Int) (IntKind.u64.wrap (rd t195 (wrap64 ((t195.length : Int) - 1)))) (IntKind.u64.wrap (rd t195 (wrap64 ((t195.length : Int) - 2)))) (wrap64 ((wrap64 ((y198.length : Int) - (t195.length : Int))) - 1))) else (none)) else (none)) else (none)) else (none)) else (none)) else (none)))) else (none)) else (none))) = some (r1, r2) := H
     have A16 := Aside0.mk A160
     clear A160
     replace H := Option.bind_eq_some_iff.mp H
     obtain ⟨t195, A170, H⟩ := H
     replace H : (if 0 ≤ (wrap64 ((l0.length : Int) + 1)) then (if (wrap64 ((l0.length : Int) + 1) : Int).toNat ≤ 70368744177664 then ((some (List.replicate (wrap64 ((l0.length : Int) + 1) : Int).toNat 0 : List Int)).bind fun y198 => ((mag_Shl.f k l0 t194).bind fun t201 => (if 0 ≤ (wrap64 ((y198.length : Int) - (t195.length : Int))) then (if (wrap64 ((y198.length : Int) - (t195.length : Int)) : Int).toNat ≤ 70368744177664 then (if 0 ≤ (wrap64 ((t195.length : Int) - 1)) then (if (wrap64 ((t195.length : Int) - 1)) < (t195.length : Int) then (if 0 ≤ (wrap64 ((t195.length : Int) - 2)) then (if (wrap64 ((t195.length : Int) - 2)) < (t195.length : Int) then (mag_DivMod.l0 k (List.replicate (wrap64 ((y198.length : Int) - (t195.length : Int)) : Int).toNat 0) t194 t195 (cpy y198 t201) (t195.length : Int) (IntKind.u64.wrap (rd t195 (wrap64 ((t195.length : Int) - 1)))) (IntKind.u64.wrap (rd t195 (wrap64 ((t195.length : Int) - 2)))) (wrap64 ((wrap64 ((y198.length : Int) - (t195.length : Int))) - 1))) else (none)) else (none)) else (none)) else (none)) else (none)) else (none)))) else (none)) else (none)) = some (r1, r2) := H
     have A17 := Aside0.mk A170
     clear A170
     obtain ⟨ji18, hji18⟩ : ∃ j_ : Int, (wrap64 ((l0.length : Int) + 1)) = j_ := ⟨_, rfl⟩
     replace H : (if 0 ≤ (ji18) then (if (ji18 : Int).toNat ≤ 70368744177664 then ((some (List.replicate (ji18 : Int).toNat 0 : List Int)).bind fun y198 => ((mag_Shl.f k l0 t194).bind fun t201 => (if 0 ≤ (wrap64 ((y198.length : Int) - (t195.length : Int))) then (if (wrap64 ((y198.length : Int) - (t195.length : Int)) : Int).toNat ≤ 70368744177664 then (if 0 ≤ (wrap64 ((t195.length : Int) - 1)) then (if (wrap64 ((t195.length : Int) - 1)) < (t195.length : Int) then (if 0 ≤ (wrap64 ((t195.length : Int) - 2)) then (if (wrap64 ((t195.length : Int) - 2)) < (t195.length : Int) then (mag_DivMod.l0 k (List.replicate (wrap64 ((y198.length : Int) - (t195.length : Int)) : Int).toNat 0) t194 t195 (cpy y198 t201) (t195.length : Int) (IntKind.u64.wrap (rd t195 (wrap64 ((t195.length : Int) - 1)))) (IntKind.u64.wrap (rd t195 (wrap64 ((t195.length : Int) - 2)))) (wrap64 ((wrap64 ((y198.length : Int) - (t195.length : Int))) - 1))) else (none)) else (none)) else (none)) else (none)) else (none)) else (none)))) else (none)) else (none)) = some (r1, r2) := by first | (rw [hji18] at H; exact H) | (simp only [hji18] at H ⊢; exact H)
     (try rw [hji18] at A3)
     (try rw [hji18] at A16)
     (try rw [hji18] at A17)
     have hji18w : (IntKind.i64.wrap ((l0.length : Int) + 1)) = ji18 := (i64_w _).trans hji18
     by_cases c19 : 0 ≤ (ji18)
     ·rw [if_pos c19] at H
      have c19b0 := eq_true c19
      have c19b1 : decide (0 ≤ (ji18)) = true := decide_eq_true c19
      clear c19
      by_cases c20 : (ji18 : Int).toNat ≤ 70368744177664
      ·rw [if_pos c20] at H
       have c20b0 := eq_true c20
       have c20b1 : decide ((ji18 : Int).toNat ≤ 70368744177664) = true := decide_eq_true c20
       clear c20
       obtain ⟨y198, hy198⟩ : ∃ y_ : List Int, y_ = (List.replicate (ji18 : Int).toNat 0) := ⟨_, rfl⟩
       replace H : ((mag_Shl.f k l0 t194).bind fun t201 => (if 0 ≤ (wrap64 ((y198.length : Int) - (t195.length : Int))) then (if (wrap64 ((y198.length : Int) - (t195.length : Int)) : Int).toNat ≤ 70368744177664 then (if 0 ≤ (wrap64 ((t195.length : Int) - 1)) then (if (wrap64 ((t195.length : Int) - 1)) < (t195.length : Int) then (if 0 ≤ (wrap64 ((t195.length : Int) - 2)) then (if (wrap64 ((t195.length : Int) - 2)) < (t195.length : Int) then (mag_DivMod.l0 k (List.replicate (wrap64 ((y198.length : Int) - (t195.length : Int)) : Int).toNat 0) t194 t195 (cpy y198 t201) (t195.length : Int) (IntKind.u64.wrap (rd t195 (wrap64 ((t195.length : Int) - 1)))) (IntKind.u64.wrap (rd t195 (wrap64 ((t195.length : Int) - 2)))) (wrap64 ((wrap64 ((y198.length : Int) - (t195.length : Int))) - 1))) else (none)) else (none)) else (none)) else (none)) else (none)) else (none))) = some (r1, r2) := by first | (rw [hy198]; with_reducible exact H) | (have H2_ := (Option.bind_some _ _).symm.trans H; rw [hy198]; with_reducible exact H2_) | (have H2_ := (Option.bind_some _ _).symm.trans H; with_reducible exact H2_) | with_reducible exact H | (rw [hy198]; exact H) | exact H
       have Ny198 := Aside0.mk hy198
       clear hy198
       replace H := Option.bind_eq_some_iff.mp H
       obtain ⟨t201, A210, H⟩ := H
       replace H : (if 0 ≤ (wrap64 ((y198.length : Int) - (t195.length : Int))) then (if (wrap64 ((y198.length : Int) - (t195.length : Int)) : Int).toNat ≤ 70368744177664 then (if 0 ≤ (wrap64 ((t195.length : Int) - 1)) then (if (wrap64 ((t195.length : Int) - 1)) < (t195.length : Int) then (if 0 ≤ (wrap64 ((t195.length : Int) - 2)) then (if (wrap64 ((t195.length : Int) - 2)) < (t195.length : Int) then (mag_DivMod.l0 k (List.replicate (wrap64 ((y198.length : Int) - (t195.length : Int)) : Int).toNat 0) t194 t195 (cpy y198 t201) (t195.length : Int) (IntKind.u64.wrap (rd t195 (wrap64 ((t195.length : Int) - 1)))) (IntKind.u64.wrap (rd t195 (wrap64 ((t195.length : Int) - 2)))) (wrap64 ((wrap64 ((y198.length : Int) - (t195.length : Int))) - 1))) else (none)) else (none)) else (none)) else (none)) else (none)) else (none)) = some (r1, r2) := H
       have A21 := Aside0.mk A210
       clear A210
       obtain ⟨y204, hy204⟩ : ∃ y_ : List Int, y_ = (cpy y198 t201) := ⟨_, rfl⟩
       replace H : (if 0 ≤ (wrap64 ((y198.length : Int) - (t195.length : Int))) then (if (wrap64 ((y198.length : Int) - (t195.length : Int)) : Int).toNat ≤ 70368744177664 then (if 0 ≤ (wrap64 ((t195.length : Int) - 1)) then (if (wrap64 ((t195.length : Int) - 1)) < (t195.length : Int) then (if 0 ≤ (wrap64 ((t195.length : Int) - 2)) then (if (wrap64 ((t195.length : Int) - 2)) < (t195.length : Int) then (mag_DivMod.l0 k (List.replicate (wrap64 ((y198.length : Int) - (t195.length : Int)) : Int).toNat 0) t194 t195 y204 (t195.length : Int) (IntKind.u64.wrap (rd t195 (wrap64 ((t195.length : Int) - 1)))) (IntKind.u64.wrap (rd t195 (wrap64 ((t195.length : Int) - 2)))) (wrap64 ((wrap64 ((y198.length : Int) - (t195.length : Int))) - 1))) else (none)) else (none)) else (none)) else (none)) else (none)) else (none)) = some (r1, r2) := by first | (rw [hy204]; with_reducible exact H) | (have H2_ := (Option.bind_some _ _).symm.trans H; rw [hy204]; with_reducible exact H2_) | (have H2_ := (Option.bind_some _ _).symm.trans H; with_reducible exact H2_) | with_reducible exact H | (rw [hy204]; exact H) | exact H
       have Ny204 := Aside0.mk hy204
       clear hy204
       obtain ⟨ji22, hji22⟩ : ∃ j_ : Int, (wrap64 ((y198.length : Int) - (t195.length : Int))) = j_ := ⟨_, rfl⟩
       replace H : (if 0 ≤ (ji22) then (if (ji22 : Int).toNat ≤ 70368744177664 then (if 0 ≤ (wrap64 ((t195.length : Int) - 1)) then (if (wrap64 ((t195.length : Int) - 1)) < (t195.length : Int) then (if 0 ≤ (wrap64 ((t195.length : Int) - 2)) then (if (wrap64 ((t195.length : Int) - 2)) < (t195.length : Int) then (mag_DivMod.l0 k (List.replicate (ji22 : Int).toNat 0) t194 t195 y204 (t195.length : Int) (IntKind.u64.wrap (rd t195 (wrap64 ((t195.length : Int) - 1)))) (IntKind.u64.wrap (rd t195 (wrap64 ((t195.length : Int) - 2)))) (wrap64 ((ji22) - 1))) else (none)) else (none)) else (none)) else (none)) else (none)) else (none)) = some (r1, r2) := by first | (rw [hji22] at H; exact H) | (simp only [hji22] at H ⊢; exact H)
       (try rw [hji22] at A3)
       (try rw [hji22] at A16)
       (try rw [hji22] at A17)
       (try rw [hji22] at A21)
       have hji22w : (IntKind.i64.wrap ((y198.length : Int) - (t195.length : Int))) = ji22 := (i64_w _).trans hji22
       by_cases c23 : 0 ≤ (ji22)
       ·rw [if_pos c23] at H
        have c23b0 := eq_true c23
        have c23b1 : decide (0 ≤ (ji22)) = true := decide_eq_true c23
        clear c23
        by_cases c24 : (ji22 : Int).toNat ≤ 70368744177664
        ·rw [if_pos c24] at H
         have c24b0 := eq_true c24
         have c24b1 : decide ((ji22 : Int).toNat ≤ 70368744177664) = true := decide_eq_true c24
         clear c24
         obtain ⟨y205, hy205⟩ : ∃ y_ : List Int, y_ = (List.replicate (ji22 : Int).toNat 0) := ⟨_, rfl⟩
         replace H : (if 0 ≤ (wrap64 ((t195.length : Int) - 1)) then (if (wrap64 ((t195.length : Int) - 1)) < (t195.length : Int) then (if 0 ≤ (wrap64 ((t195.length : Int) - 2)) then (if (wrap64 ((t195.length : Int) - 2)) < (t195.length : Int) then (mag_DivMod.l0 k y205 t194 t195 y204 (t195.length : Int) (IntKind.u64.wrap (rd t195 (wrap64 ((t195.length : Int) - 1)))) (IntKind.u64.wrap (rd t195 (wrap64 ((t195.length : Int) - 2)))) (wrap64 ((ji22) - 1))) else (none)) else (none)) else (none)) else (none)) = some (r1, r2) := by first | (rw [hy205]; with_reducible exact H) | (have H2_ := (Option.bind_some _ _).symm.trans H; rw [hy205]; with_reducible exact H2_) | (have H2_ := (Option.bind_some _ _).symm.trans H; with_reducible exact H2_) | with_reducible exact H | (rw [hy205]; exact H) | exact H
         have Ny205 := Aside0.mk hy205
         clear hy205
         obtain ⟨ji25, hji25⟩ : ∃ j_ : Int, (wrap64 ((t195.length : Int) - 1)) = j_ := ⟨_, rfl⟩
         replace H : (if 0 ≤ (ji25) then (if (ji25) < (t195.length : Int) then (if 0 ≤ (wrap64 ((t195.length : Int) - 2)) then (if (wrap64 ((t195.length : Int) - 2)) < (t195.length : Int) then (mag_DivMod.l0 k y205 t194 t195 y204 (t195.length : Int) (IntKind.u64.wrap (rd t195 (ji25))) (IntKind.u64.wrap (rd t195 (wrap64 ((t195.length : Int) - 2)))) (wrap64 ((ji22) - 1))) else (none)) else (none)) else (none)) else (none)) = some (r1, r2) := by first | (rw [hji25] at H; exact H) | (simp only [hji25] at H ⊢; exact H)
         (try rw [hji25] at A3)
         (try rw [hji25] at A16)
         (try rw [hji25] at A17)
         (try rw [hji25] at A21)
         have hji25w : (IntKind.i64.wrap ((t195.length : Int) - 1)) = ji25 := (i64_w _).trans hji25
         by_cases c26 : 0 ≤ (ji25)
         ·rw [if_pos c26] at H
          have c26b0 : decide (0 ≤ (ji25)) = true := decide_eq_true c26
          clear c26
          by_cases c27 : (ji25) < (t195.length : Int)
          ·rw [if_pos c27] at H
           have c27b0 : decide ((ji25) < (t195.length : Int)) = true := decide_eq_true c27
           clear c27
           obtain ⟨ji28, hji28⟩ : ∃ j_ : Int, (wrap64 ((t195.length : Int) - 2)) = j_ := ⟨_, rfl⟩
           replace H : (if 0 ≤ (ji28) then (if (ji28) < (t195.length : Int) then (mag_DivMod.l0 k y205 t194 t195 y204 (t195.length : Int) (IntKind.u64.wrap (rd t195 (ji25))) (IntKind.u64.wrap (rd t195 (ji28))) (wrap64 ((ji22) - 1))) else (none)) else (none)) = some (r1, r2) := by first | (rw [hji28] at H; exact H) | (simp only [hji28] at H ⊢; exact H)
           (try rw [hji28] at A3)
           (try rw [hji28] at A16)
           (try rw [hji28] at A17)
           (try rw [hji28] at A21)
           have hji28w : (IntKind.i64.wrap ((t195.length : Int) - 2)) = ji28 := (i64_w _).trans hji28
           by_cases c29 : 0 ≤ (ji28)
           ·rw [if_pos c29] at H
            have c29b0 : decide (0 ≤ (ji28)) = true := decide_eq_true c29
            clear c29
            by_cases c30 : (ji28) < (t195.length : Int)
            ·rw [if_pos c30] at H
             have c30b0 : decide ((ji28) < (t195.length : Int)) = true := decide_eq_true c30
             clear c30
             have H' := Aside0.mk H
             clear H
             go_enter Try.func48, Try.ntmps48
             go_wp2_with (first | (go_at_call 51; (with_reducible refine (mag_Cmp.calls k _ _ l0 _ _ l1 t181 _ ?side1 ?side2 ?side3 ?side4 A3.out).mono ?_); (case side1 => exact dC HR0.out); (case side2 => exact HC0.out); (case side3 => exact dC HR1.out); (case side4 => exact HC1.out); rintro e w' ⟨rfl, ⟨nd, rfl⟩⟩; (try exact dQ); have p193 : 0 ≤ ((ji13) : Int) := of_decide_eq_true aS; have q193 : (ji13) < (l1.length : Int) := of_decide_eq_true aS; obtain ⟨ad193, e193, hx193_0⟩ := Kd.at_int HR1.out (ji13) p193 q193; cases e193; replace p193 := eq_true p193; replace q193 := eq_true q193) | (go_at_call 67; (with_reducible refine (bits_LeadingZeros32.calls (rd l1 (ji13)) t194 _ A16.out).mono ?_); rintro e w' ⟨rfl, ⟨nd, rfl⟩⟩; (try exact dQ)) | (go_at_call 46; (with_reducible refine (mag_Shl.calls k _ _ l1 t194 t195 _ ?side1 ?side2 A17.out).mono ?_); (case side1 => exact dC HR1.out); (case side2 => exact HC1.out); rintro e w31 ⟨v196, rfl, ho0, hb⟩; have n0_ := Aside0.mk (Kd.V_lower (Kd.V_mono (ok' := fun k_ => (w.heap.size ≤ k_)) ho0 (fun k_ hk_ => (Nat.le_trans (below_size (bB)) hk_))) (below_size (bB))); have n1_ := Aside0.mk (below_step (bB) hb); clear HB; have HO197 := n0_; have HB := n1_; clear n0_ n1_; (try clear hb); (try clear hb2); (try clear hk); (try clear hi); (try clear ho0)) | ((with_reducible refine gate_dst (N := 52) rfl ?_); refine Kd.R_make (Kd.int .u32) _ 36 rfl (N := 52) rfl 22 _ _ rfl ji18 rfl rfl Try.underlying22 (.int .u32 0) 4 info36 rfl (by decide) (by omega) 0 (ok := fun _ => True) (okp := fun _ => True) rfl (fun _ hk => hk) trivial (of_decide_eq_true aS) (Nat.le_trans (Nat.mul_le_mul_right _ (of_decide_eq_true aS : ji18.toNat ≤ 70368744177664)) (by omega)) (Below.refl _ _) (Nat.le_refl _) ?_; intro v199 w32 ho33 hb hg_ hnew_; clear hg_ hnew_; (first | rw [← Ny198.out] at ho33 | (simp only [Int.reduceToNat] at ho33; rw [← Ny198.out] at ho33)); have n0_ := Aside0.mk (Kd.V_elder' (dV HO197.out) (Kd.R_base ho33) hb); have n1_ := Aside0.mk (Kd.R_lower (Kd.R_newM (M := fun k_ => (w.heap.size ≤ k_)) ho33 (below_size (bB)) (fun k_ h_ => h_)) (below_size (bB))); have n2_ := Aside0.mk (below_step (bB) hb); clear HO197 HB; have HO197 := n0_; have HO200 := n1_; have HB := n2_; clear n0_ n1_ n2_; clear hb ho33) | (go_at_call 46; (with_reducible refine (mag_Shl.calls k _ _ l0 t194 t201 _ ?side1 ?side2 A21.out).mono ?_); (case side1 => repeat (first | exact (Kd.C_below HR0.out HB.out) | (with_reducible refine Kd.C_alloc ?_ _) | (with_reducible refine Kd.C_drewN ?_ _) | (with_reducible refine Kd.C_drew ?_))); (case side2 => exact HC0.out); rintro e w34 ⟨v202, rfl, ho0, hb⟩; have n0_ := Aside0.mk (Kd.V_below (dV HO197.out) hb); have n1_ := Aside0.mk (Kd.R_below (dR HO200.out) hb); have n2_ := Aside0.mk (Kd.V_lower (Kd.V_mono (ok' := fun k_ => (w.heap.size ≤ k_) ∧ some k_ ≠ (v199 : Value).ownBlock) ho0 (fun k_ hk_ => ⟨(Nat.le_trans (below_size (bB)) hk_), (Kd.fresh' (Kd.R_lt (dR HO200.out)) k_ hk_)⟩)) (below_size (bB))); have n3_ := Aside0.mk (below_step (bB) hb); clear HO197 HO200 HB; have HO197 := n0_; have HO200 := n1_; have HO203 := n2_; have HB := n3_; clear n0_ n1_ n2_ n3_; (try clear hb); (try clear hb2); (try clear hk); (try clear hi); (try clear ho0); obtain ⟨Ao36, co36, eo36⟩ := Kd.R_slice HO200.out; subst eo36; have n_ := Aside0.mk (Kd.R_mono (ok' := (fun k_ => (w.heap.size ≤ k_))) HO200.out (fun k_ hk => hk.1)); clear HO200; have HO200 := n_; clear n_; obtain ⟨Ao37, co37, eo37⟩ := Kd.V_slice HO203.out; subst eo37) | ((with_reducible refine gate_builtin (b := .copy) (xs := #[.tmp 53, .tmp 56]) rfl ?_); refine copyin  .u32 (w0 := w) w.heap.size rfl (.tmp 53) (.tmp 56) 22 22 36 rfl Try.underlying22 info36 (.slice Ao36 y198.length co36) y198 t201 _ _ _ (fun k_ => (w.heap.size ≤ k_)) rfl rfl ?aO ?aR ?aB ?aS ?_; (case aO => exact (dR HO200.out)); (case aR => exact dC (Kd.V_reads' HO203.out).2.2); (case aB => exact (bB)); (case aS => exact (below_size (bB))); intro w35 ho hb hg; rw [← Ny204.out] at ho; have n0_ := Aside0.mk (Kd.V_afterv (v := (.slice Ao36 y198.length co36)) (v1 := (.slice Ao36 y198.length co36)) (ok := (fun k_ => (w.heap.size ≤ k_))) (dV HO197.out) hg (.inl rfl)); have n1_ := Aside0.mk (ho); have n2_ := Aside0.mk (Kd.V_afterv (v := (.slice Ao36 y198.length co36)) (v1 := (.slice Ao36 y198.length co36)) (ok := (fun k_ => (w.heap.size ≤ k_))) (dV HO203.out) hg (.inl rfl)); have n3_ := Aside0.mk (hb); clear HO197 HO200 HO203 HB; have HO197 := n0_; have HO200 := n1_; have HO203 := n2_; have HB := n3_; clear n0_ n1_ n2_ n3_; clear ho hb hg; obtain ⟨Ao38, co38, eo38⟩ := Kd.V_slice HO197.out; subst eo38) | ((with_reducible refine gate_dst (N := 64) rfl ?_); refine Kd.R_make (Kd.int .u32) _ 36 rfl (N := 64) rfl 22 _ _ rfl ji22 rfl rfl Try.underlying22 (.int .u32 0) 4 info36 rfl (by decide) (by omega) 0 (ok := fun _ => True) (okp := fun _ => True) rfl (fun _ hk => hk) trivial (of_decide_eq_true aS) (Nat.le_trans (Nat.mul_le_mul_right _ (of_decide_eq_true aS : ji22.toNat ≤ 70368744177664)) (by omega)) (Below.refl _ _) (Nat.le_refl _) ?_; intro v206 w39 ho40 hb hg_ hnew_; clear hg_ hnew_; (first | rw [← Ny205.out] at ho40 | (simp only [Int.reduceToNat] at ho40; rw [← Ny205.out] at ho40)); have n0_ := Aside0.mk (Kd.V_elder' (dV HO197.out) (Kd.R_base ho40) hb); have n1_ := Aside0.mk (Kd.R_elder' (dR HO200.out) (Kd.R_base ho40) hb); have n2_ := Aside0.mk (Kd.V_elder' (dV HO203.out) (Kd.R_base ho40) hb); have n3_ := Aside0.mk (Kd.R_lower (Kd.R_new' (Kd.R_newM (M := fun k_ => (w.heap.size ≤ k_)) ho40 (below_size (bB)) (fun k_ h_ => h_)) (Kd.R_lt (dR HO200.out))) (below_size (bB))); have n4_ := Aside0.mk (below_step (bB) hb); clear HO197 HO200 HO203 HB; have HO197 := n0_; have HO200 := n1_; have HO203 := n2_; have HO207 := n3_; have HB := n4_; clear n0_ n1_ n2_ n3_ n4_; clear hb ho40; have p208 : 0 ≤ ((ji25) : Int) := of_decide_eq_true aS; have q208 : (ji25) < (t195.length : Int) := of_decide_eq_true aS; obtain ⟨ad208, e208, hx208_0⟩ := Kd.at_int (Kd.V_reads' HO197.out).2.2 (ji25) p208 q208; cases e208; replace p208 := eq_true p208; replace q208 := eq_true q208; have p209 : 0 ≤ ((ji28) : Int) := of_decide_eq_true aS; have q209 : (ji28) < (t195.length : Int) := of_decide_eq_true aS; obtain ⟨ad209, e209, hx209_0⟩ := Kd.at_int (Kd.V_reads' HO197.out).2.2 (ji28) p209 q209; obtain rfl : ad208 = ad209 := (by injection e209); replace p209 := eq_true p209; replace q209 := eq_true q209))
             repeat (go_quiet (first | (go_at_call 51; (with_reducible refine (mag_Cmp.calls k _ _ l0 _ _ l1 t181 _ ?side1 ?side2 ?side3 ?side4 A3.out).mono ?_); (case side1 => exact dC HR0.out); (case side2 => exact HC0.out); (case side3 => exact dC HR1.out); (case side4 => exact HC1.out); rintro e w' ⟨rfl, ⟨nd, rfl⟩⟩; (try exact dQ); have p193 : 0 ≤ ((ji13) : Int) := of_decide_eq_true aS; have q193 : (ji13) < (l1.length : Int) := of_decide_eq_true aS; obtain ⟨ad193, e193, hx193_0⟩ := Kd.at_int HR1.out (ji13) p193 q193; cases e193; replace p193 := eq_true p193; replace q193 := eq_true q193) | (go_at_call 67; (with_reducible refine (bits_LeadingZeros32.calls (rd l1 (ji13)) t194 _ A16.out).mono ?_); rintro e w' ⟨rfl, ⟨nd, rfl⟩⟩; (try exact dQ))); try go_wp2_with (first | (go_at_call 51; (with_reducible refine (mag_Cmp.calls k _ _ l0 _ _ l1 t181 _ ?side1 ?side2 ?side3 ?side4 A3.out).mono ?_); (case side1 => exact dC HR0.out); (case side2 => exact HC0.out); (case side3 => exact dC HR1.out); (case side4 => exact HC1.out); rintro e w' ⟨rfl, ⟨nd, rfl⟩⟩; (try exact dQ); have p193 : 0 ≤ ((ji13) : Int) := of_decide_eq_true aS; have q193 : (ji13) < (l1.length : Int) := of_decide_eq_true aS; obtain ⟨ad193, e193, hx193_0⟩ := Kd.at_int HR1.out (ji13) p193 q193; cases e193; replace p193 := eq_true p193; replace q193 := eq_true q193) | (go_at_call 67; (with_reducible refine (bits_LeadingZeros32.calls (rd l1 (ji13)) t194 _ A16.out).mono ?_); rintro e w' ⟨rfl, ⟨nd, rfl⟩⟩; (try exact dQ)) | (go_at_call 46; (with_reducible refine (mag_Shl.calls k _ _ l1 t194 t195 _ ?side1 ?side2 A17.out).mono ?_); (case side1 => exact dC HR1.out); (case side2 => exact HC1.out); rintro e w31 ⟨v196, rfl, ho0, hb⟩; have n0_ := Aside0.mk (Kd.V_lower (Kd.V_mono (ok' := fun k_ => (w.heap.size ≤ k_)) ho0 (fun k_ hk_ => (Nat.le_trans (below_size (bB)) hk_))) (below_size (bB))); have n1_ := Aside0.mk (below_step (bB) hb); clear HB; have HO197 := n0_; have HB := n1_; clear n0_ n1_; (try clear hb); (try clear hb2); (try clear hk); (try clear hi); (try clear ho0)) | ((with_reducible refine gate_dst (N := 52) rfl ?_); refine Kd.R_make (Kd.int .u32) _ 36 rfl (N := 52) rfl 22 _ _ rfl ji18 rfl rfl Try.underlying22 (.int .u32 0) 4 info36 rfl (by decide) (by omega) 0 (ok := fun _ => True) (okp := fun _ => True) rfl (fun _ hk => hk) trivial (of_decide_eq_true aS) (Nat.le_trans (Nat.mul_le_mul_right _ (of_decide_eq_true aS : ji18.toNat ≤ 70368744177664)) (by omega)) (Below.refl _ _) (Nat.le_refl _) ?_; intro v199 w32 ho33 hb hg_ hnew_; clear hg_ hnew_; (first | rw [← Ny198.out] at ho33 | (simp only [Int.reduceToNat] at ho33; rw [← Ny198.out] at ho33)); have n0_ := Aside0.mk (Kd.V_elder' (dV HO197.out) (Kd.R_base ho33) hb); have n1_ := Aside0.mk (Kd.R_lower (Kd.R_newM (M := fun k_ => (w.heap.size ≤ k_)) ho33 (below_size (bB)) (fun k_ h_ => h_)) (below_size (bB))); have n2_ := Aside0.mk (below_step (bB) hb); clear HO197 HB; have HO197 := n0_; have HO200 := n1_; have HB := n2_; clear n0_ n1_ n2_; clear hb ho33) | (go_at_call 46; (with_reducible refine (mag_Shl.calls k _ _ l0 t194 t201 _ ?side1 ?side2 A21.out).mono ?_); (case side1 => repeat (first | exact (Kd.C_below HR0.out HB.out) | (with_reducible refine Kd.C_alloc ?_ _) | (with_reducible refine Kd.C_drewN ?_ _) | (with_reducible refine Kd.C_drew ?_))); (case side2 => exact HC0.out); rintro e w34 ⟨v202, rfl, ho0, hb⟩; have n0_ := Aside0.mk (Kd.V_below (dV HO197.out) hb); have n1_ := Aside0.mk (Kd.R_below (dR HO200.out) hb); have n2_ := Aside0.mk (Kd.V_lower (Kd.V_mono (ok' := fun k_ => (w.heap.size ≤ k_) ∧ some k_ ≠ (v199 : Value).ownBlock) ho0 (fun k_ hk_ => ⟨(Nat.le_trans (below_size (bB)) hk_), (Kd.fresh' (Kd.R_lt (dR HO200.out)) k_ hk_)⟩)) (below_size (bB))); have n3_ := Aside0.mk (below_step (bB) hb); clear HO197 HO200 HB; have HO197 := n0_; have HO200 := n1_; have HO203 := n2_; have HB := n3_; clear n0_ n1_ n2_ n3_; (try clear hb); (try clear hb2); (try clear hk); (try clear hi); (try clear ho0); obtain ⟨Ao36, co36, eo36⟩ := Kd.R_slice HO200.out; subst eo36; have n_ := Aside0.mk (Kd.R_mono (ok' := (fun k_ => (w.heap.size ≤ k_))) HO200.out (fun k_ hk => hk.1)); clear HO200; have HO200 := n_; clear n_; obtain ⟨Ao37, co37, eo37⟩ := Kd.V_slice HO203.out; subst eo37) | ((with_reducible refine gate_builtin (b := .copy) (xs := #[.tmp 53, .tmp 56]) rfl ?_); refine copyin  .u32 (w0 := w) w.heap.size rfl (.tmp 53) (.tmp 56) 22 22 36 rfl Try.underlying22 info36 (.slice Ao36 y198.length co36) y198 t201 _ _ _ (fun k_ => (w.heap.size ≤ k_)) rfl rfl ?aO ?aR ?aB ?aS ?_; (case aO => exact (dR HO200.out)); (case aR => exact dC (Kd.V_reads' HO203.out).2.2); (case aB => exact (bB)); (case aS => exact (below_size (bB))); intro w35 ho hb hg; rw [← Ny204.out] at ho; have n0_ := Aside0.mk (Kd.V_afterv (v := (.slice Ao36 y198.length co36)) (v1 := (.slice Ao36 y198.length co36)) (ok := (fun k_ => (w.heap.size ≤ k_))) (dV HO197.out) hg (.inl rfl)); have n1_ := Aside0.mk (ho); have n2_ := Aside0.mk (Kd.V_afterv (v := (.slice Ao36 y198.length co36)) (v1 := (.slice Ao36 y198.length co36)) (ok := (fun k_ => (w.heap.size ≤ k_))) (dV HO203.out) hg (.inl rfl)); have n3_ := Aside0.mk (hb); clear HO197 HO200 HO203 HB; have HO197 := n0_; have HO200 := n1_; have HO203 := n2_; have HB := n3_; clear n0_ n1_ n2_ n3_; clear ho hb hg; obtain ⟨Ao38, co38, eo38⟩ := Kd.V_slice HO197.out; subst eo38) | ((with_reducible refine gate_dst (N := 64) rfl ?_); refine Kd.R_make (Kd.int .u32) _ 36 rfl (N := 64) rfl 22 _ _ rfl ji22 rfl rfl Try.underlying22 (.int .u32 0) 4 info36 rfl (by decide) (by omega) 0 (ok := fun _ => True) (okp := fun _ => True) rfl (fun _ hk => hk) trivial (of_decide_eq_true aS) (Nat.le_trans (Nat.mul_le_mul_right _ (of_decide_eq_true aS : ji22.toNat ≤ 70368744177664)) (by omega)) (Below.refl _ _) (Nat.le_refl _) ?_; intro v206 w39 ho40 hb hg_ hnew_; clear hg_ hnew_; (first | rw [← Ny205.out] at ho40 | (simp only [Int.reduceToNat] at ho40; rw [← Ny205.out] at ho40)); have n0_ := Aside0.mk (Kd.V_elder' (dV HO197.out) (Kd.R_base ho40) hb); have n1_ := Aside0.mk (Kd.R_elder' (dR HO200.out) (Kd.R_base ho40) hb); have n2_ := Aside0.mk (Kd.V_elder' (dV HO203.out) (Kd.R_base ho40) hb); have n3_ := Aside0.mk (Kd.R_lower (Kd.R_new' (Kd.R_newM (M := fun k_ => (w.heap.size ≤ k_)) ho40 (below_size (bB)) (fun k_ h_ => h_)) (Kd.R_lt (dR HO200.out))) (below_size (bB))); have n4_ := Aside0.mk (below_step (bB) hb); clear HO197 HO200 HO203 HB; have HO197 := n0_; have HO200 := n1_; have HO203 := n2_; have HO207 := n3_; have HB := n4_; clear n0_ n1_ n2_ n3_ n4_; clear hb ho40; have p208 : 0 ≤ ((ji25) : Int) := of_decide_eq_true aS; have q208 : (ji25) < (t195.length : Int) := of_decide_eq_true aS; obtain ⟨ad208, e208, hx208_0⟩ := Kd.at_int (Kd.V_reads' HO197.out).2.2 (ji25) p208 q208; cases e208; replace p208 := eq_true p208; replace q208 := eq_true q208; have p209 : 0 ≤ ((ji28) : Int) := of_decide_eq_true aS; have q209 : (ji28) < (t195.length : Int) := of_decide_eq_true aS; obtain ⟨ad209, e209, hx209_0⟩ := Kd.at_int (Kd.V_reads' HO197.out).2.2 (ji28) p209 q209; obtain rfl : ad208 = ad209 := (by injection e209); replace p209 := eq_true p209; replace q209 := eq_true q209)))
             go_loopg [14] k (fun kq v14 w' => ∃ (x4_1 : List Int) (x10_1 : List Int) (x14_1 : Int), v14 = .int .i64 x14_1 ∧ Aside0 (mag_DivMod.l0 kq x4_1 t194 t195 x10_1 (t195.length : Int) (IntKind.u64.wrap (rd t195 (ji25))) (IntKind.u64.wrap (rd t195 (ji28))) x14_1 = some (r1, r2)) ∧ Aside0 (kq ≤ k) ∧ Aside0 (Kd.R (Kd.int .u32) 36 w' w.heap.size (fun k_ => (w.heap.size ≤ k_) ∧ some k_ ≠ ((.slice Ao36 y198.length co36) : Value).ownBlock) v206 x4_1) ∧ Aside0 (Kd.V (Kd.int .u32) 36 w' w.heap.size (fun k_ => (w.heap.size ≤ k_) ∧ some k_ ≠ (v206 : Value).ownBlock ∧ some k_ ≠ ((.slice Ao36 y198.length co36) : Value).ownBlock) (.slice (some ad208) t195.length co38) t195) ∧ Aside0 (Kd.R (Kd.int .u32) 36 w' w.heap.size (fun k_ => (w.heap.size ≤ k_) ∧ some k_ ≠ (v206 : Value).ownBlock) (.slice Ao36 y198.length co36) x10_1) ∧ Aside0 (Below w.heap.size w w'))
             case atStart => exact ⟨(y205), (y204), (wrap64 ((ji22) - 1)), (by first | rfl | (simp; done) | (simp only [← hji22] <;> (first | rfl | simp)) | (simp [*]; done)), H', ⟨Nat.le_refl _⟩, ⟨by (with_reducible repeat (first | apply Kd.R_alloc | apply Kd.R_drewN | apply Kd.R_drew)); exact Kd.R_mono HO207.out (fun _ hk => ⟨hk.1.1, hk.2⟩)⟩, ⟨by (with_reducible repeat (first | apply Kd.V_alloc | apply Kd.V_drewN | apply Kd.V_drew)); exact Kd.V_mono HO197.out (fun _ hk => ⟨hk.1.1, ⟨hk.2, hk.1.2⟩⟩)⟩, ⟨by (with_reducible repeat (first | apply Kd.R_alloc | apply Kd.R_drewN | apply Kd.R_drew)); exact HO200.out⟩, ⟨by repeat (first | (with_reducible first | exact HB.out | apply below_alloc | apply pw_below_drewN | apply below_drew1) | exact HB.out)⟩⟩
             case round =>
              clear H'
              try clear c1
              try clear p1
              try clear q1
              try clear hx1
              try clear qi1
              try clear c2
              try clear p2
              try clear q2
              try clear hx2
              try clear c3
              try clear c4
              try clear c4b0
              try clear c5
              try clear p6
              try clear c7
              try clear c7b0
              try clear c7b1
              try clear c8
              try clear c8b0
              try clear c8b1
              try clear c14
              try clear c14b0
              try clear c15
              try clear c15b0
              try clear p18
              try clear q18
              try clear hx18
              try clear qi18
              try clear c19
              try clear c19b0
              try clear c19b1
              try clear p19
              try clear q19
              try clear hx19
              try clear c20
              try clear c20b0
              try clear c20b1
              try clear p20
              try clear q20
              try clear hx20
              try clear c23
              try clear c23b0
              try clear c23b1
              try clear c24
              try clear c24b0
              try clear c24b1
              try clear c26
              try clear c26b0
              try clear c27
              try clear c27b0
              try clear c29
              try clear c29b0
              try clear c30
              try clear c30b0
              try clear hx185_0
              try clear hx193_0
              try clear hx208_0
              try clear hx209_0
              try clear p185
              try clear p193
              try clear p208
              try clear p209
              try clear q185
              try clear q193
              try clear q208
              try clear q209
              obtain ⟨x4_1, x10_1, x14_1, rfl, HA, HK1, HO_4, HO_9, HO_10, HB⟩ := hrel
              have hl10_1 := (Kd.R_reads' HO_10.out).1
              rw [hl10_1] at HO_10
              (try simp only [hl10_1])
              (try simp only [hl10_1] at HO_4)
              (try simp only [hl10_1] at HO_9)
              cases gk with
              | zero => exact absurd HA.out (by simp [mag_DivMod.l0])
              | succ k1 =>
               have H := HA.out
               clear HA
               simp only [mag_DivMod.l0] at H
               by_cases c41 : x14_1 ≥ 0
               ·rw [if_pos c41] at H
                have c41b0 : decide (0 ≤ x14_1) = true := decide_eq_true c41
                clear c41
                obtain ⟨ji42, hji42⟩ : ∃ j_ : Int, (wrap64 (x14_1 + (t195.length : Int))) = j_ := ⟨_, rfl⟩
                replace H : (if 0 ≤ (ji42) then (if (ji42) < (x10_1.length : Int) then (if 0 ≤ (wrap64 ((ji42) - 1)) then (if (wrap64 ((ji42) - 1)) < (x10_1.length : Int) then (if (IntKind.u64.wrap (rd t195 (ji25))) = 0 then (none) else (mag_DivMod.l1 k1 x4_1 t194 t195 x10_1 (t195.length : Int) (IntKind.u64.wrap (rd t195 (ji25))) (IntKind.u64.wrap (rd t195 (ji28))) x14_1 (IntKind.u64.wrap (Int.tdiv (Go.bits .or .u64 (IntKind.u64.wrap ((IntKind.u64.wrap (rd x10_1 (ji42))) * 4294967296)) (IntKind.u64.wrap (rd x10_1 (wrap64 ((ji42) - 1))))) (IntKind.u64.wrap (rd t195 (ji25))))) (Int.tmod (Go.bits .or .u64 (IntKind.u64.wrap ((IntKind.u64.wrap (rd x10_1 (ji42))) * 4294967296)) (IntKind.u64.wrap (rd x10_1 (wrap64 ((ji42) - 1))))) (IntKind.u64.wrap (rd t195 (ji25)))))) else (none)) else (none)) else (none)) else (none)) = some (r1, r2) := by first | (rw [hji42] at H; exact H) | (simp only [hji42] at H ⊢; exact H)
                have hji42w : (IntKind.i64.wrap (x14_1 + (t195.length : Int))) = ji42 := (i64_w _).trans hji42
                have hji42h := hji42
                (try simp only [hl10_1] at hji42h)
                have hji42wh := hji42w
                (try simp only [hl10_1] at hji42wh)
                by_cases c43 : 0 ≤ (ji42)
                ·rw [if_pos c43] at H
                 have c43b0 : decide (0 ≤ (ji42)) = true := decide_eq_true c43
                 clear c43
                 by_cases c44 : (ji42) < (x10_1.length : Int)
                 ·rw [if_pos c44] at H
                  have c44b0 : decide ((ji42) < (x10_1.length : Int)) = true := decide_eq_true c44
                  clear c44
                  have c44bh := c44b0
                  (try simp only [hl10_1] at c44bh)
                  obtain ⟨ji45, hji45⟩ : ∃ j_ : Int, (wrap64 ((ji42) - 1)) = j_ := ⟨_, rfl⟩
                  replace H : (if 0 ≤ (ji45) then (if (ji45) < (x10_1.length : Int) then (if (IntKind.u64.wrap (rd t195 (ji25))) = 0 then (none) else (mag_DivMod.l1 k1 x4_1 t194 t195 x10_1 (t195.length : Int) (IntKind.u64.wrap (rd t195 (ji25))) (IntKind.u64.wrap (rd t195 (ji28))) x14_1 (IntKind.u64.wrap (Int.tdiv (Go.bits .or .u64 (IntKind.u64.wrap ((IntKind.u64.wrap (rd x10_1 (ji42))) * 4294967296)) (IntKind.u64.wrap (rd x10_1 (ji45)))) (IntKind.u64.wrap (rd t195 (ji25))))) (Int.tmod (Go.bits .or .u64 (IntKind.u64.wrap ((IntKind.u64.wrap (rd x10_1 (ji42))) * 4294967296)) (IntKind.u64.wrap (rd x10_1 (ji45)))) (IntKind.u64.wrap (rd t195 (ji25)))))) else (none)) else (none)) = some (r1, r2) := by first | (rw [hji45] at H; exact H) | (simp only [hji45] at H ⊢; exact H)
                  have hji45w : (IntKind.i64.wrap ((ji42) - 1)) = ji45 := (i64_w _).trans hji45
                  by_cases c46 : 0 ≤ (ji45)
                  ·rw [if_pos c46] at H
                   have c46b0 : decide (0 ≤ (ji45)) = true := decide_eq_true c46
                   clear c46
                   by_cases c47 : (ji45) < (x10_1.length : Int)
                   ·rw [if_pos c47] at H
                    have c47b0 : decide ((ji45) < (x10_1.length : Int)) = true := decide_eq_true c47
                    clear c47
                    have c47bh := c47b0
                    (try simp only [hl10_1] at c47bh)
                    by_cases c48 : (IntKind.u64.wrap (rd t195 (ji25))) = 0
                    ·rw [if_pos c48] at H
                     exact absurd H (by simp)
                    ·rw [if_neg c48] at H
                     have c48b0 : ((IntKind.u64.wrap (rd t195 (ji25))) == 0) = false := beq_eq_false_iff_ne.mpr c48
                     have c48b1 : ((IntKind.u64.wrap (rd t195 (ji25))) != 0) = true := bne_iff_ne.mpr c48
                     have HC49 := Aside0.mk H
                     clear H
                     have p219 : 0 ≤ ((ji42) : Int) := of_decide_eq_true aS
                     have q219 : (ji42) < (x10_1.length : Int) := of_decide_eq_true aS
                     obtain ⟨ad219, e219, hx219_0⟩ := Kd.at_int (Kd.R_reads' HO_10.out).2.2 (ji42) p219 q219
                     cases e219
                     replace p219 := eq_true p219
                     replace q219 := eq_true q219
                     have p220 : 0 ≤ ((ji45) : Int) := of_decide_eq_true aS
                     have q220 : (ji45) < (x10_1.length : Int) := of_decide_eq_true aS
                     obtain ⟨ad220, e220, hx220_0⟩ := Kd.at_int (Kd.R_reads' HO_10.out).2.2 (ji45) p220 q220
                     obtain rfl : ad219 = ad220 := (by injection e220)
                     replace p220 := eq_true p220
                     replace q220 := eq_true q220
                     go_upto_block 2 with (fail)
                     repeat (go_quiet (fail); go_upto_block 2 with (fail))
                     go_cut [16] (fun v16 wc => ∃ (kq : Nat) (x16_48 : Int), v16 = .int .u64 x16_48 ∧ Aside0 (mag_DivMod.j3 kq x4_1 t194 t195 x10_1 (t195.length : Int) (IntKind.u64.wrap (rd t195 (ji25))) (IntKind.u64.wrap (rd t195 (ji28))) x14_1 x16_48 = some (r1, r2)) ∧ Aside0 (kq ≤ k1) ∧ Aside0 (Kd.R (Kd.int .u32) 36 wc w.heap.size (fun k_ => (w.heap.size ≤ k_) ∧ some k_ ≠ ((.slice (some ad219) x10_1.length co36) : Value).ownBlock) v206 x4_1) ∧ Aside0 (Kd.V (Kd.int .u32) 36 wc w.heap.size (fun k_ => (w.heap.size ≤ k_) ∧ some k_ ≠ (v206 : Value).ownBlock ∧ some k_ ≠ ((.slice (some ad219) x10_1.length co36) : Value).ownBlock) (.slice (some ad208) t195.length co38) t195) ∧ Aside0 (Kd.R (Kd.int .u32) 36 wc w.heap.size (fun k_ => (w.heap.size ≤ k_) ∧ some k_ ≠ (v206 : Value).ownBlock) (.slice (some ad219) x10_1.length co36) x10_1) ∧ Aside0 (Below w.heap.size w wc))
                     case first =>
                      have H := HC49.out
                      clear HC49
                      have H' := Aside0.mk H
                      clear H
                      go_wp2
                      repeat (go_quiet (fail); try go_wp2)
                      go_loopg [16, 17] k1 (fun kq v16 v17 w' => ∃ (x16_2 : Int) (x17_2 : Int), v16 = .int .u64 x16_2 ∧ v17 = .int .u64 x17_2 ∧ Aside0 (mag_DivMod.l1 kq x4_1 t194 t195 x10_1 (t195.length : Int) (IntKind.u64.wrap (rd t195 (ji25))) (IntKind.u64.wrap (rd t195 (ji28))) x14_1 x16_2 x17_2 = some (r1, r2)) ∧ Aside0 (kq ≤ k1) ∧ Aside0 (Kd.R (Kd.int .u32) 36 w' w.heap.size (fun k_ => (w.heap.size ≤ k_) ∧ some k_ ≠ ((.slice (some ad219) x10_1.length co36) : Value).ownBlock) v206 x4_1) ∧ Aside0 (Kd.V (Kd.int .u32) 36 w' w.heap.size (fun k_ => (w.heap.size ≤ k_) ∧ some k_ ≠ (v206 : Value).ownBlock ∧ some k_ ≠ ((.slice (some ad219) x10_1.length co36) : Value).ownBlock) (.slice (some ad208) t195.length co38) t195) ∧ Aside0 (Kd.R (Kd.int .u32) 36 w' w.heap.size (fun k_ => (w.heap.size ≤ k_) ∧ some k_ ≠ (v206 : Value).ownBlock) (.slice (some ad219) x10_1.length co36) x10_1) ∧ Aside0 (Below w.heap.size w w'))
                      case atStart => exact ⟨(IntKind.u64.wrap (Int.tdiv (Go.bits .or .u64 (IntKind.u64.wrap ((IntKind.u64.wrap (rd x10_1 (ji42))) * 4294967296)) (IntKind.u64.wrap (rd x10_1 (ji45)))) (IntKind.u64.wrap (rd t195 (ji25))))), (Int.tmod (Go.bits .or .u64 (IntKind.u64.wrap ((IntKind.u64.wrap (rd x10_1 (ji42))) * 4294967296)) (IntKind.u64.wrap (rd x10_1 (ji45)))) (IntKind.u64.wrap (rd t195 (ji25)))), (by first | rfl | (simp; done) | (simp only [← hji25, ← hji42, ← hji45] <;> (first | rfl | simp)) | (simp [*]; done)), (by first | rfl | (simp; done) | (simp only [← hji25, ← hji42, ← hji45] <;> (first | rfl | simp)) | (simp [*]; done)), H', ⟨Nat.le_refl _⟩, ⟨by (try simp only [hl10_1]); (with_reducible repeat (first | apply Kd.R_alloc | apply Kd.R_drewN | apply Kd.R_drew)); exact HO_4.out⟩, ⟨by (try simp only [hl10_1]); (with_reducible repeat (first | apply Kd.V_alloc | apply Kd.V_drewN | apply Kd.V_drew)); exact HO_9.out⟩, ⟨by (try simp only [hl10_1]); (with_reducible repeat (first | apply Kd.R_alloc | apply Kd.R_drewN | apply Kd.R_drew)); exact HO_10.out⟩, ⟨by repeat (first | (with_reducible first | exact HB.out | apply below_alloc | apply pw_below_drewN | apply below_drew1) | exact HB.out)⟩⟩
                      case round =>
                       clear H'
                       try clear c1
                       try clear p1
                       try clear q1
                       try clear hx1
                       try clear qi1
                       try clear c2
                       try clear p2
                       try clear q2
                       try clear hx2
                       try clear c3
                       try clear c4
                       try clear c4b0
                       try clear c5
                       try clear p6
                       try clear c7
                       try clear c7b0
                       try clear c7b1
                       try clear c8
                       try clear c8b0
                       try clear c8b1
                       try clear c14
                       try clear c14b0
                       try clear c15
                       try clear c15b0
                       try clear p18
                       try clear q18
                       try clear hx18
                       try clear qi18
                       try clear c19
                       try clear c19b0
                       try clear c19b1
                       try clear p19
                       try clear q19
                       try clear hx19
                       try clear c20
                       try clear c20b0
                       try clear c20b1
                       try clear p20
                       try clear q20
                       try clear hx20
                       try clear p21
                       try clear q21
                       try clear hx21
                       try clear p22
                       try clear q22
                       try clear hx22
                       try clear c23
                       try clear c23b0
                       try clear c23b1
                       try clear c24
                       try clear c24b0
                       try clear c24b1
                       try clear c26
                       try clear c26b0
                       try clear c27
                       try clear c27b0
                       try clear c29
                       try clear c29b0
                       try clear c30
                       try clear c30b0
                       try clear c41
                       try clear c41b0
                       try clear c43
                       try clear c43b0
                       try clear c44
                       try clear c44b0
                       try clear c46
                       try clear c46b0
                       try clear c47
                       try clear c47b0
                       try clear c48
                       try clear c48b0
                       try clear c48b1
                       try clear hx185_0
                       try clear hx193_0
                       try clear hx208_0
                       try clear hx209_0
                       try clear hx219_0
                       try clear hx220_0
                       try clear p1
                       try clear p18
                       try clear p185
                       try clear p19
                       try clear p193
                       try clear p2
                       try clear p20
                       try clear p208
                       try clear p209
                       try clear p219
                       try clear p220
                       try clear p6
                       try clear q1
                       try clear q18
                       try clear q185
                       try clear q19
                       try clear q193
                       try clear q2
                       try clear q20
                       try clear q208
                       try clear q209
                       try clear q219
                       try clear q220
                       obtain ⟨x16_2, x17_2, rfl, rfl, HA, HK2, HO_4, HO_9, HO_10, HB⟩ := hrel
                       cases gk with
                       | zero => exact absurd HA.out (by simp [mag_DivMod.l1])
                       | succ k2 =>
                        have H := HA.out
                        clear HA
                        simp only [mag_DivMod.l1] at H
                        have HC50 := Aside0.mk H
                        clear H
                        go_upto_region 18 with (fail)
                        repeat (go_quiet (fail); go_upto_region 18 with (fail))
                        go_cut [127] (fun v127 wc => ∃ (kq : Nat) (x127_49 : Bool), v127 = .bool x127_49 ∧ Aside0 (mag_DivMod.j2 kq x4_1 t194 t195 x10_1 (t195.length : Int) (IntKind.u64.wrap (rd t195 (ji25))) (IntKind.u64.wrap (rd t195 (ji28))) x14_1 x16_2 x17_2 x127_49 = some (r1, r2)) ∧ Aside0 (kq ≤ k2) ∧ Aside0 (Kd.R (Kd.int .u32) 36 wc w.heap.size (fun k_ => (w.heap.size ≤ k_) ∧ some k_ ≠ ((.slice (some ad219) x10_1.length co36) : Value).ownBlock) v206 x4_1) ∧ Aside0 (Kd.V (Kd.int .u32) 36 wc w.heap.size (fun k_ => (w.heap.size ≤ k_) ∧ some k_ ≠ (v206 : Value).ownBlock ∧ some k_ ≠ ((.slice (some ad219) x10_1.length co36) : Value).ownBlock) (.slice (some ad208) t195.length co38) t195) ∧ Aside0 (Kd.R (Kd.int .u32) 36 wc w.heap.size (fun k_ => (w.heap.size ≤ k_) ∧ some k_ ≠ (v206 : Value).ownBlock) (.slice (some ad219) x10_1.length co36) x10_1) ∧ Aside0 (Below w.heap.size w wc))
                        case first =>
                         have H := HC50.out
                         clear HC50
                         by_cases c51 : x16_2 ≥ 4294967296
                         ·rw [if_pos c51] at H
                          have c51b0 : decide (4294967296 ≤ x16_2) = true := decide_eq_true c51
                          clear c51
                          (first | rw [c51b0] | (simp only [i64_w, i32_w]; rw [c51b0]) | rw [c51b1] | skip)
                          have H' := Aside0.mk H
                          clear H
                          go_wp2
                          repeat (go_quiet (fail); try go_wp2)
                          go_meet
                          case rel => exact ⟨_, (true), (by first | rfl | (simp; done) | (simp [*]; done)), H', ⟨by have := HK1.out; have := HK2.out; first | omega | exact Nat.le_refl _⟩, ⟨by (try simp only [hl10_1]); (with_reducible repeat (first | apply Kd.R_alloc | apply Kd.R_drewN | apply Kd.R_drew)); exact HO_4.out⟩, ⟨by (try simp only [hl10_1]); (with_reducible repeat (first | apply Kd.V_alloc | apply Kd.V_drewN | apply Kd.V_drew)); exact HO_9.out⟩, ⟨by (try simp only [hl10_1]); (with_reducible repeat (first | apply Kd.R_alloc | apply Kd.R_drewN | apply Kd.R_drew)); exact HO_10.out⟩, ⟨by repeat (first | (with_reducible first | exact HB.out | apply below_alloc | apply pw_below_drewN | apply below_drew1) | exact HB.out)⟩⟩
                         ·rw [if_neg c51] at H
                          have c51b0 : decide (4294967296 ≤ x16_2) = false := decide_eq_false c51
                          clear c51
                          (first | rw [c51b0] | (simp only [i64_w, i32_w]; rw [c51b0]) | rw [c51b1] | skip)
                          obtain ⟨ji52, hji52⟩ : ∃ j_ : Int, (wrap64 ((wrap64 (x14_1 + (t195.length : Int))) - 2)) = j_ := ⟨_, rfl⟩
                          replace H : (if 0 ≤ (ji52) then (if (ji52) < (x10_1.length : Int) then (mag_DivMod.j2 k2 x4_1 t194 t195 x10_1 (t195.length : Int) (IntKind.u64.wrap (rd t195 (ji25))) (IntKind.u64.wrap (rd t195 (ji28))) x14_1 x16_2 x17_2 (decide ((IntKind.u64.wrap (x16_2 * (IntKind.u64.wrap (rd t195 (ji28))))) > (Go.bits .or .u64 (IntKind.u64.wrap (x17_2 * 4294967296)) (IntKind.u64.wrap (rd x10_1 (ji52))))))) else (none)) else (none)) = some (r1, r2) := by first | (rw [hji52] at H; exact H) | (simp only [hji52] at H ⊢; exact H)
                          have hji52w : (IntKind.i64.wrap ((wrap64 (x14_1 + (t195.length : Int))) - 2)) = ji52 := (i64_w _).trans hji52
                          have hji52r := hji52
                          (try simp only [hji42] at hji52r)
                          have hji52wr := hji52w
                          (try simp only [hji42] at hji52wr)
                          have hji52h := hji52
                          (try simp only [hl10_1] at hji52h)
                          have hji52wh := hji52w
                          (try simp only [hl10_1] at hji52wh)
                          by_cases c53 : 0 ≤ (ji52)
                          ·rw [if_pos c53] at H
                           have c53b0 : decide (0 ≤ (ji52)) = true := decide_eq_true c53
                           clear c53
                           by_cases c54 : (ji52) < (x10_1.length : Int)
                           ·rw [if_pos c54] at H
                            have c54b0 : decide ((ji52) < (x10_1.length : Int)) = true := decide_eq_true c54
                            clear c54
                            have c54bh := c54b0
                            (try simp only [hl10_1] at c54bh)
                            have H' := Aside0.mk H
                            clear H
                            have p221 : 0 ≤ ((ji52) : Int) := of_decide_eq_true aS
                            have q221 : (ji52) < (x10_1.length : Int) := of_decide_eq_true aS
                            obtain ⟨ad221, e221, hx221_0⟩ := Kd.at_int (Kd.R_reads' HO_10.out).2.2 (ji52) p221 q221
                            obtain rfl : ad219 = ad221 := (by injection e221)
                            replace p221 := eq_true p221
                            replace q221 := eq_true q221
                            go_wp2
                            repeat (go_quiet (fail); try go_wp2)
                            (try simp only [← hji52])
                            go_meet
                            case rel => exact ⟨_, (decide ((IntKind.u64.wrap (x16_2 * (IntKind.u64.wrap (rd t195 (ji28))))) > (Go.bits .or .u64 (IntKind.u64.wrap (x17_2 * 4294967296)) (IntKind.u64.wrap (rd x10_1 (ji52)))))), (by first | rfl | (simp; done) | (simp only [← hji28, ← hji52] <;> (first | rfl | simp)) | (simp [*]; done)), (by first | with_reducible exact H' | (simp only [hji52]; exact H') | exact H'), ⟨by have := HK1.out; have := HK2.out; first | omega | exact Nat.le_refl _⟩, ⟨by (try simp only [hl10_1]); (with_reducible repeat (first | apply Kd.R_alloc | apply Kd.R_drewN | apply Kd.R_drew)); exact HO_4.out⟩, ⟨by (try simp only [hl10_1]); (with_reducible repeat (first | apply Kd.V_alloc | apply Kd.V_drewN | apply Kd.V_drew)); exact HO_9.out⟩, ⟨by (try simp only [hl10_1]); (with_reducible repeat (first | apply Kd.R_alloc | apply Kd.R_drewN | apply Kd.R_drew)); exact HO_10.out⟩, ⟨by repeat (first | (with_reducible first | exact HB.out | apply below_alloc | apply pw_below_drewN | apply below_drew1) | exact HB.out)⟩⟩
                           ·rw [if_neg c54] at H
                            exact absurd H (by simp)
                          ·rw [if_neg c53] at H
                           exact absurd H (by simp)
                        case rest =>
                         clear HC50
                         try clear c1
                         try clear p1
                         try clear q1
                         try clear hx1
                         try clear qi1
                         try clear c2
                         try clear p2
                         try clear q2
                         try clear hx2
                         try clear c3
                         try clear c4
                         try clear c4b0
                         try clear c5
                         try clear p6
                         try clear c7
                         try clear c7b0
                         try clear c7b1
                         try clear c8
                         try clear c8b0
                         try clear c8b1
                         try clear c14
                         try clear c14b0
                         try clear c15
                         try clear c15b0
                         try clear p18
                         try clear q18
                         try clear hx18
                         try clear qi18
                         try clear c19
                         try clear c19b0
                         try clear c19b1
                         try clear p19
                         try clear q19
                         try clear hx19
                         try clear c20
                         try clear c20b0
                         try clear c20b1
                         try clear p20
                         try clear q20
                         try clear hx20
                         try clear p21
                         try clear q21
                         try clear hx21
                         try clear p22
                         try clear q22
                         try clear hx22
                         try clear c23
                         try clear c23b0
                         try clear c23b1
                         try clear c24
                         try clear c24b0
                         try clear c24b1
                         try clear c26
                         try clear c26b0
                         try clear c27
                         try clear c27b0
                         try clear c29
                         try clear c29b0
                         try clear c30
                         try clear c30b0
                         try clear c41
                         try clear c41b0
                         try clear c43
                         try clear c43b0
                         try clear c44
                         try clear c44b0
                         try clear c46
                         try clear c46b0
                         try clear c47
                         try clear c47b0
                         try clear c48
                         try clear c48b0
                         try clear c48b1
                         try clear c51
                         try clear c51b0
                         try clear c51b1
                         try clear c53
                         try clear c53b0
                         try clear c54
                         try clear c54b0
                         try clear hx185_0
                         try clear hx193_0
                         try clear hx208_0
                         try clear hx209_0
                         try clear hx219_0
                         try clear hx220_0
                         try clear hx221_0
                         try clear p1
                         try clear p18
                         try clear p185
                         try clear p19
                         try clear p193
                         try clear p2
                         try clear p20
                         try clear p208
                         try clear p209
                         try clear p21
                         try clear p219
                         try clear p22
                         try clear p220
                         try clear p221
                         try clear p6
                         try clear q1
                         try clear q18
                         try clear q185
                         try clear q19
                         try clear q193
                         try clear q2
                         try clear q20
                         try clear q208
                         try clear q209
                         try clear q21
                         try clear q219
                         try clear q22
                         try clear q220
                         try clear q221
                         obtain ⟨kq, x127_49, rfl, HA, HJ49, HO_4, HO_9, HO_10, HB⟩ := hcut
                         cases kq with
                         | zero => exact absurd HA.out (by simp [mag_DivMod.j2])
                         | succ kj49 =>
                          have H := HA.out
                          clear HA
                          simp only [mag_DivMod.j2] at H
                          by_cases c55 : x127_49 = true
                          ·subst c55
                           have H1 : (if (IntKind.u64.wrap (x17_2 + (IntKind.u64.wrap (rd t195 (ji25))))) ≥ 4294967296 then (mag_DivMod.j3 kj49 x4_1 t194 t195 x10_1 (t195.length : Int) (IntKind.u64.wrap (rd t195 (ji25))) (IntKind.u64.wrap (rd t195 (ji28))) x14_1 (IntKind.u64.wrap (x16_2 - 1))) else (mag_DivMod.l1 kj49 x4_1 t194 t195 x10_1 (t195.length : Int) (IntKind.u64.wrap (rd t195 (ji25))) (IntKind.u64.wrap (rd t195 (ji28))) x14_1 (IntKind.u64.wrap (x16_2 - 1)) (IntKind.u64.wrap (x17_2 + (IntKind.u64.wrap (rd t195 (ji25))))))) = some (r1, r2) := by rw [if_pos rfl] at H; exact H
                           clear H
                           have H := H1
                           clear H1
                           by_cases c56 : (IntKind.u64.wrap (x17_2 + (IntKind.u64.wrap (rd t195 (ji25))))) ≥ 4294967296
                           ·rw [if_pos c56] at H
                            have c56b0 : decide (4294967296 ≤ (IntKind.u64.wrap (x17_2 + (IntKind.u64.wrap (rd t195 (ji25)))))) = true := decide_eq_true c56
                            clear c56
                            have H' := Aside0.mk H
                            clear H
                            go_wp2
                            repeat (go_quiet (fail); try go_wp2)
                            go_meet
                            case rel => exact ⟨_, (IntKind.u64.wrap (x16_2 - 1)), (by first | rfl | (simp; done) | (simp [*]; done)), H', ⟨by have := HK1.out; have := HK2.out; have := HJ49.out; first | omega | exact Nat.le_refl _⟩, ⟨by (try simp only [hl10_1]); (with_reducible repeat (first | apply Kd.R_alloc | apply Kd.R_drewN | apply Kd.R_drew)); exact HO_4.out⟩, ⟨by (try simp only [hl10_1]); (with_reducible repeat (first | apply Kd.V_alloc | apply Kd.V_drewN | apply Kd.V_drew)); exact HO_9.out⟩, ⟨by (try simp only [hl10_1]); (with_reducible repeat (first | apply Kd.R_alloc | apply Kd.R_drewN | apply Kd.R_drew)); exact HO_10.out⟩, ⟨by repeat (first | (with_reducible first | exact HB.out | apply below_alloc | apply pw_below_drewN | apply below_drew1) | exact HB.out)⟩⟩
                           ·rw [if_neg c56] at H
                            have c56b0 : decide (4294967296 ≤ (IntKind.u64.wrap (x17_2 + (IntKind.u64.wrap (rd t195 (ji25)))))) = false := decide_eq_false c56
                            clear c56
                            have H' := Aside0.mk H
                            clear H
                            go_wp2
                            repeat (go_quiet (fail); try go_wp2)
                            go_roundg kj49
                            case measure => have := HK1.out; have := HK2.out; have := HJ49.out; omega
                            case rel => exact ⟨(IntKind.u64.wrap (x16_2 - 1)), (IntKind.u64.wrap (x17_2 + (IntKind.u64.wrap (rd t195 (ji25))))), (by first | rfl | (simp; done) | (simp [*]; done)), (by first | rfl | (simp; done) | (simp only [← hji25] <;> (first | rfl | simp)) | (simp [*]; done)), H', ⟨by have := HK1.out; have := HK2.out; have := HJ49.out; omega⟩, ⟨by (try simp only [hl10_1]); (with_reducible repeat (first | apply Kd.R_alloc | apply Kd.R_drewN | apply Kd.R_drew)); exact HO_4.out⟩, ⟨by (try simp only [hl10_1]); (with_reducible repeat (first | apply Kd.V_alloc | apply Kd.V_drewN | apply Kd.V_drew)); exact HO_9.out⟩, ⟨by (try simp only [hl10_1]); (with_reducible repeat (first | apply Kd.R_alloc | apply Kd.R_drewN | apply Kd.R_drew)); exact HO_10.out⟩, ⟨by repeat (first | (with_reducible first | exact HB.out | apply below_alloc | apply pw_below_drewN | apply below_drew1) | exact HB.out)⟩⟩
                          ·replace c55 := Bool.eq_false_iff.mpr c55
                           subst c55
                           have H1 : (mag_DivMod.j3 kj49 x4_1 t194 t195 x10_1 (t195.length : Int) (IntKind.u64.wrap (rd t195 (ji25))) (IntKind.u64.wrap (rd t195 (ji28))) x14_1 x16_2) = some (r1, r2) := by rw [if_neg (show ¬ (false = true) by decide)] at H; exact H
                           clear H
                           have H := H1
                           clear H1
                           have H' := Aside0.mk H
                           clear H
                           go_wp2
                           repeat (go_quiet (fail); try go_wp2)
                           go_meet
                           case rel => exact ⟨_, (x16_2), (by first | rfl | (simp; done) | (simp [*]; done)), H', ⟨by have := HK1.out; have := HK2.out; have := HJ49.out; first | omega | exact Nat.le_refl _⟩, ⟨by (try simp only [hl10_1]); (with_reducible repeat (first | apply Kd.R_alloc | apply Kd.R_drewN | apply Kd.R_drew)); exact HO_4.out⟩, ⟨by (try simp only [hl10_1]); (with_reducible repeat (first | apply Kd.V_alloc | apply Kd.V_drewN | apply Kd.V_drew)); exact HO_9.out⟩, ⟨by (try simp only [hl10_1]); (with_reducible repeat (first | apply Kd.R_alloc | apply Kd.R_drewN | apply Kd.R_drew)); exact HO_10.out⟩, ⟨by repeat (first | (with_reducible first | exact HB.out | apply below_alloc | apply pw_below_drewN | apply below_drew1) | exact HB.out)⟩⟩
                     case rest =>
                      clear HC49
                      try clear c1
                      try clear p1
                      try clear q1
                      try clear hx1
                      try clear qi1
                      try clear c2
                      try clear p2
                      try clear q2
                      try clear hx2
                      try clear c3
                      try clear c4
                      try clear c4b0
                      try clear c5
                      try clear p6
                      try clear c7
                      try clear c7b0
                      try clear c7b1
                      try clear c8
                      try clear c8b0
                      try clear c8b1
                      try clear c14
                      try clear c14b0
                      try clear c15
                      try clear c15b0
                      try clear p18
                      try clear q18
                      try clear hx18
                      try clear qi18
                      try clear c19
                      try clear c19b0
                      try clear c19b1
                      try clear p19
                      try clear q19
                      try clear hx19
                      try clear c20
                      try clear c20b0
                      try clear c20b1
                      try clear p20
                      try clear q20
                      try clear hx20
                      try clear p21
                      try clear q21
                      try clear hx21
                      try clear p22
                      try clear q22
                      try clear hx22
                      try clear c23
                      try clear c23b0
                      try clear c23b1
                      try clear c24
                      try clear c24b0
                      try clear c24b1
                      try clear c26
                      try clear c26b0
                      try clear c27
                      try clear c27b0
                      try clear c29
                      try clear c29b0
                      try clear c30
                      try clear c30b0
                      try clear c41
                      try clear c41b0
                      try clear c43
                      try clear c43b0
                      try clear c44
                      try clear c44b0
                      try clear c46
                      try clear c46b0
                      try clear c47
                      try clear c47b0
                      try clear c48
                      try clear c48b0
                      try clear c48b1
                      try clear c51
                      try clear c51b0
                      try clear c51b1
                      try clear c53
                      try clear c53b0
                      try clear c54
                      try clear c54b0
                      try clear c55
                      try clear c56
                      try clear c56b0
                      try clear hx185_0
                      try clear hx193_0
                      try clear hx208_0
                      try clear hx209_0
                      try clear hx219_0
                      try clear hx220_0
                      try clear hx221_0
                      try clear p1
                      try clear p18
                      try clear p185
                      try clear p19
                      try clear p193
                      try clear p2
                      try clear p20
                      try clear p208
                      try clear p209
                      try clear p21
                      try clear p219
                      try clear p22
                      try clear p220
                      try clear p221
                      try clear p6
                      try clear q1
                      try clear q18
                      try clear q185
                      try clear q19
                      try clear q193
                      try clear q2
                      try clear q20
                      try clear q208
                      try clear q209
                      try clear q21
                      try clear q219
                      try clear q22
                      try clear q220
                      try clear q221
                      obtain ⟨kq, x16_48, rfl, HA, HJ48, HO_4, HO_9, HO_10, HB⟩ := hcut
                      cases kq with
                      | zero => exact absurd HA.out (by simp [mag_DivMod.j3])
                      | succ kj48 =>
                       have H := HA.out
                       clear HA
                       simp only [mag_DivMod.j3] at H
                       by_cases c57 : 0 ≤ x14_1
                       ·rw [if_pos c57] at H
                        have c57b0 := eq_true c57
                        have c57b1 : decide (0 ≤ x14_1) = true := decide_eq_true c57
                        clear c57
                        by_cases c58 : x14_1 < (wrap64 ((wrap64 (x14_1 + (t195.length : Int))) + 1))
                        ·rw [if_pos c58] at H
                         have c58b0 := eq_true c58
                         have c58b1 : decide (x14_1 < (wrap64 ((wrap64 (x14_1 + (t195.length : Int))) + 1))) = true := decide_eq_true c58
                         by_cases c59 : (wrap64 ((wrap64 (x14_1 + (t195.length : Int))) + 1)) ≤ (x10_1.length : Int)
                         ·rw [if_pos c59] at H
                          have c59b0 := eq_true c59
                          have c59b1 : decide ((wrap64 ((wrap64 (x14_1 + (t195.length : Int))) + 1)) ≤ (x10_1.length : Int)) = true := decide_eq_true c59
                          replace H := Option.bind_eq_some_iff.mp H
                          obtain ⟨⟨t223, t224⟩, A600, H⟩ := H
                          replace H : (if t223 = true then ((mag_restoreAt.f kj48 t224 x14_1 (wrap64 ((wrap64 (x14_1 + (t195.length : Int))) + 1)) t195).bind fun t226 => (if x14_1 < (x4_1.length : Int) then (mag_DivMod.l0 kj48 (x4_1.set (x14_1 : Int).toNat ((IntKind.u64.wrap (x16_48 - 1)) % 4294967296)) t194 t195 t226 (t195.length : Int) (IntKind.u64.wrap (rd t195 (ji25))) (IntKind.u64.wrap (rd t195 (ji28))) (wrap64 (x14_1 - 1))) else (none))) else (if x14_1 < (x4_1.length : Int) then (mag_DivMod.l0 kj48 (x4_1.set (x14_1 : Int).toNat ((x16_48) % 4294967296)) t194 t195 t224 (t195.length : Int) (IntKind.u64.wrap (rd t195 (ji25))) (IntKind.u64.wrap (rd t195 (ji28))) (wrap64 (x14_1 - 1))) else (none))) = some (r1, r2) := H
                          have A60 := Aside0.mk A600
                          clear A600
                          by_cases c61 : t223 = true
                          ·subst c61
                           have H1 : ((mag_restoreAt.f kj48 t224 x14_1 (wrap64 ((wrap64 (x14_1 + (t195.length : Int))) + 1)) t195).bind fun t226 => (if x14_1 < (x4_1.length : Int) then (mag_DivMod.l0 kj48 (x4_1.set (x14_1 : Int).toNat ((IntKind.u64.wrap (x16_48 - 1)) % 4294967296)) t194 t195 t226 (t195.length : Int) (IntKind.u64.wrap (rd t195 (ji25))) (IntKind.u64.wrap (rd t195 (ji28))) (wrap64 (x14_1 - 1))) else (none))) = some (r1, r2) := by rw [if_pos rfl] at H; exact H
                           clear H
                           have H := H1
                           clear H1
                           have c62b0 := eq_true (of_decide_eq_true aS : 0 ≤ x14_1)
                           have c63b0 := eq_true (of_decide_eq_true aS : x14_1 < (wrap64 ((wrap64 (x14_1 + (t195.length : Int))) + 1)))
                           have c64b0 := eq_true (of_decide_eq_true aS : (wrap64 ((wrap64 (x14_1 + (t195.length : Int))) + 1)) ≤ (x10_1.length : Int))
                           replace H := Option.bind_eq_some_iff.mp H
                           obtain ⟨t226, A650, H⟩ := H
                           replace H : (if x14_1 < (x4_1.length : Int) then (mag_DivMod.l0 kj48 (x4_1.set (x14_1 : Int).toNat ((IntKind.u64.wrap (x16_48 - 1)) % 4294967296)) t194 t195 t226 (t195.length : Int) (IntKind.u64.wrap (rd t195 (ji25))) (IntKind.u64.wrap (rd t195 (ji28))) (wrap64 (x14_1 - 1))) else (none)) = some (r1, r2) := H
                           have A65 := Aside0.mk A650
                           clear A650
                           by_cases c66 : x14_1 < (x4_1.length : Int)
                           ·rw [if_pos c66] at H
                            have c66b0 : decide (x14_1 < (x4_1.length : Int)) = true := decide_eq_true c66
                            clear c66
                            have c66bh := c66b0
                            (try simp only [hl10_1] at c66bh)
                            obtain ⟨y227, hy227⟩ : ∃ y_ : List Int, y_ = (x4_1.set (x14_1 : Int).toNat ((IntKind.u64.wrap (x16_48 - 1)) % 4294967296)) := ⟨_, rfl⟩
                            replace H : (mag_DivMod.l0 kj48 y227 t194 t195 t226 (t195.length : Int) (IntKind.u64.wrap (rd t195 (ji25))) (IntKind.u64.wrap (rd t195 (ji28))) (wrap64 (x14_1 - 1))) = some (r1, r2) := by first | (rw [hy227]; with_reducible exact H) | (have H2_ := (Option.bind_some _ _).symm.trans H; rw [hy227]; with_reducible exact H2_) | (have H2_ := (Option.bind_some _ _).symm.trans H; with_reducible exact H2_) | with_reducible exact H | (rw [hy227]; exact H) | exact H
                            have Ny227 := Aside0.mk hy227
                            clear hy227
                            have H' := Aside0.mk H
                            clear H
                            have q68 : ((wrap64 ((wrap64 (x14_1 + (t195.length : Int))) + 1)) : Int) ≤ ((x10_1.length : Nat) : Int) := of_decide_eq_true aS
                            have ql68 : (x14_1 : Int) < ((wrap64 ((wrap64 (x14_1 + (t195.length : Int))) + 1)) : Int) := of_decide_eq_true aS
                            have q068 : (0 : Int) ≤ (x14_1 : Int) := of_decide_eq_true aS
                            obtain ⟨i068, hi068, _, hsz68, _⟩ := info_parts info36
                            have hcutv222 := cut_mid (P := Try.prog) 22 36 .i64 .i64 Try.underlying22 hi068 1 hsz68 (some ad219) x10_1.length co36 x14_1 (wrap64 ((wrap64 (x14_1 + (t195.length : Int))) + 1)) q068 (by omega) q68 (by have hlx_ := (Kd.R_reads' HO_10.out); omega)
                            obtain ⟨v222, hvv222⟩ : ∃ v_ : Value, v_ = (.slice (if co36 = (x14_1 : Int).toNat then (some ad219) else ((some ad219) : Option Addr).map (·.add ((x14_1 : Int).toNat * 1))) (((wrap64 ((wrap64 (x14_1 + (t195.length : Int))) + 1)) : Int).toNat - (x14_1 : Int).toNat) (co36 - (x14_1 : Int).toNat)) := ⟨_, rfl⟩
                            rw [← hvv222] at hcutv222
                            clear hvv222 hi068 hsz68
                            (try (have hcutrv222 := hcutv222; simp only [hji13, hji18, hji22, hji25, hji28, hji42, hji45] at hcutrv222))
                            have HVv222 := Aside0.mk (show (0 : Int) ≤ x14_1 ∧ (x14_1 : Int) < (wrap64 ((wrap64 (x14_1 + (t195.length : Int))) + 1)) ∧ ((wrap64 ((wrap64 (x14_1 + (t195.length : Int))) + 1)) : Int) ≤ _ ∧ _ from ⟨q068, ql68, q68, hcutv222⟩)
                            replace q68 := eq_true q68
                            replace ql68 := eq_true ql68
                            replace q068 := eq_true q068
                            go_wp2_with (first | (go_at_call 69; (with_reducible refine (mag_subtractAt.calls kj48 (fun k_ => some k_ = (.slice (some ad219) x10_1.length co36 : Value).ownBlock) (.slice (some ad219) x10_1.length co36) x10_1 x14_1 (wrap64 ((wrap64 (x14_1 + (t195.length : Int))) + 1)) _ _ t195 x16_48 true t224 w _ ?side1 ?side2 ?side3 ?side4 ?side5 A60.out).mono ?_); (case side1 => repeat (first | (with_reducible first | exact HB.out | apply below_alloc | apply pw_below_drewN | apply below_drew1) | exact HB.out)); (case side2 => have h_ := HVv222.out; have hlx_ := (Kd.R_reads' HO_10.out).1; exact ⟨h_.1, h_.2.1, by omega, h_.2.2.2⟩); (case side3 => exact Kd.R_tight rfl HO_10.out); (case side4 => exact Kd.C_kept_ownV (HO_9.out) (fun k_ hk_ hs_ => (hk_.2.2) hs_)); (case side5 => exact (Kd.V_reads' HO_9.out).2.1); rintro e w69 ⟨rfl, hy0, hb, hkp⟩; have n0_ := Aside0.mk (Kd.R_mono (ok' := fun k_ => (w.heap.size ≤ k_) ∧ some k_ ≠ (.slice (some ad219) x10_1.length co36 : Value).ownBlock) (Kd.R_keptB (HO_4.out) hkp (fun k_ hk_ hs_ => (hk_.2) hs_)) (fun k_ hk_ => ⟨hk_.1.1, hk_.1.2⟩)); have n1_ := Aside0.mk (Kd.V_mono (ok' := fun k_ => (w.heap.size ≤ k_) ∧ some k_ ≠ (v206 : Value).ownBlock ∧ some k_ ≠ (.slice (some ad219) x10_1.length co36 : Value).ownBlock) (Kd.V_keptB (HO_9.out) hkp (fun k_ hk_ hs_ => (hk_.2.2) hs_)) (fun k_ hk_ => ⟨hk_.1.1, hk_.1.2.1, hk_.1.2.2⟩)); have n2_ := Aside0.mk (Kd.R_reok rfl hy0 (fun k_ e_ => HO_10.out.1 k_ e_)); have n3_ := Aside0.mk (hb); clear HO_4 HO_9 HO_10 HB; have HO_4 := n0_; have HO_9 := n1_; have HO_10 := n2_; have HB := n3_; clear n0_ n1_ n2_ n3_; (try clear hb); (try clear hkp); (try clear hy0); (try clear hcutrv222); (try clear hcutv222); have q70 : ((wrap64 ((wrap64 (x14_1 + (t195.length : Int))) + 1)) : Int) ≤ ((x10_1.length : Nat) : Int) := of_decide_eq_true aS; have ql70 : (x14_1 : Int) < ((wrap64 ((wrap64 (x14_1 + (t195.length : Int))) + 1)) : Int) := of_decide_eq_true aS; have q070 : (0 : Int) ≤ (x14_1 : Int) := of_decide_eq_true aS; obtain ⟨i070, hi070, _, hsz70, _⟩ := info_parts info36; have hcutv225 := cut_mid (P := Try.prog) 22 36 .i64 .i64 Try.underlying22 hi070 1 hsz70 (some ad219) x10_1.length co36 x14_1 (wrap64 ((wrap64 (x14_1 + (t195.length : Int))) + 1)) q070 (by omega) q70 (by have hlx_ := (Kd.R_reads' HO_10.out); omega); obtain ⟨v225, hvv225⟩ : ∃ v_ : Value, v_ = (.slice (if co36 = (x14_1 : Int).toNat then (some ad219) else ((some ad219) : Option Addr).map (·.add ((x14_1 : Int).toNat * 1))) (((wrap64 ((wrap64 (x14_1 + (t195.length : Int))) + 1)) : Int).toNat - (x14_1 : Int).toNat) (co36 - (x14_1 : Int).toNat)) := ⟨_, rfl⟩; rw [← hvv225] at hcutv225; clear hvv225 hi070 hsz70; (try (have hcutrv225 := hcutv225; simp only [hji13, hji18, hji22, hji25, hji28, hji42, hji45] at hcutrv225)); have HVv225 := Aside0.mk (show (0 : Int) ≤ x14_1 ∧ (x14_1 : Int) < (wrap64 ((wrap64 (x14_1 + (t195.length : Int))) + 1)) ∧ ((wrap64 ((wrap64 (x14_1 + (t195.length : Int))) + 1)) : Int) ≤ _ ∧ _ from ⟨q070, ql70, q70, hcutv225⟩); replace q70 := eq_true q70; replace ql70 := eq_true ql70; replace q070 := eq_true q070) | (go_at_call 70; (with_reducible refine (mag_restoreAt.calls kj48 (fun k_ => some k_ = (.slice (some ad219) x10_1.length co36 : Value).ownBlock) (.slice (some ad219) x10_1.length co36) t224 x14_1 (wrap64 ((wrap64 (x14_1 + (t195.length : Int))) + 1)) _ _ t195 t226 w _ ?side1 ?side2 ?side3 ?side4 ?side5 A65.out).mono ?_); (case side1 => repeat (first | (with_reducible first | exact HB.out | apply below_alloc | apply pw_below_drewN | apply below_drew1) | exact HB.out)); (case side2 => have h_ := HVv225.out; have hlx_ := (Kd.R_reads' HO_10.out).1; exact ⟨h_.1, h_.2.1, by omega, h_.2.2.2⟩); (case side3 => exact Kd.R_tight rfl HO_10.out); (case side4 => exact Kd.C_kept_ownV (HO_9.out) (fun k_ hk_ hs_ => (hk_.2.2) hs_)); (case side5 => exact (Kd.V_reads' HO_9.out).2.1); rintro e w71 ⟨rfl, hy0, hb, hkp⟩; have n0_ := Aside0.mk (Kd.R_mono (ok' := fun k_ => (w.heap.size ≤ k_) ∧ some k_ ≠ (.slice (some ad219) x10_1.length co36 : Value).ownBlock) (Kd.R_keptB (HO_4.out) hkp (fun k_ hk_ hs_ => (hk_.2) hs_)) (fun k_ hk_ => ⟨hk_.1.1, hk_.1.2⟩)); have n1_ := Aside0.mk (Kd.V_mono (ok' := fun k_ => (w.heap.size ≤ k_) ∧ some k_ ≠ (v206 : Value).ownBlock ∧ some k_ ≠ (.slice (some ad219) x10_1.length co36 : Value).ownBlock) (Kd.V_keptB (HO_9.out) hkp (fun k_ hk_ hs_ => (hk_.2.2) hs_)) (fun k_ hk_ => ⟨hk_.1.1, hk_.1.2.1, hk_.1.2.2⟩)); have n2_ := Aside0.mk (Kd.R_reok rfl hy0 (fun k_ e_ => HO_10.out.1 k_ e_)); have n3_ := Aside0.mk (hb); clear HO_4 HO_9 HO_10 HB; have HO_4 := n0_; have HO_9 := n1_; have HO_10 := n2_; have HB := n3_; clear n0_ n1_ n2_ n3_; (try clear hb); (try clear hkp); (try clear hy0); have p67 : 0 ≤ (x14_1 : Int) := of_decide_eq_true aS; have q67 : (x14_1 : Int) < ((x4_1.length : Int) : Int) := of_decide_eq_true aS; obtain ⟨go67, co67, eo67, gb67, gl67, cl67, HG67⟩ := Kd.R_form HO_4.out (by omega); (first | cases eo67 | (injection eo67 with ea_ en_ ec_; (first | subst ea_ | (injection ea_ with ea_; subst ea_)); subst ec_; clear en_)); have GB67 := Aside0.mk gb67; have GG67 := Aside0.mk HG67; clear gb67 gl67 HG67; obtain ⟨hx67_0, hf67_0⟩ := Kd.R_celln 0 HO_4.out (x14_1 : Int) p67 q67; replace p67 := eq_true p67; replace q67 := eq_true q67; obtain ⟨hy72_, hz72_⟩ := Kd.R_celln 0 HO_4.out (x14_1 : Int) (of_decide_eq_true aS) (of_decide_eq_true aS); have HP72 := Kd.R_putg HO_4.out (x14_1 : Int) ((IntKind.u64.wrap (x16_48 - 1)) % 4294967296)) | ((with_reducible refine gate_store (t := 36) (p := 160) rfl ?_); (try (rw [drewN_self w71]; generalize hq_ : World.drewN w71 _ = w71; have n0_ := Aside0.mk (Kd.R_at hq_ HO_4.out); have n1_ := Aside0.mk (Kd.V_at hq_ HO_9.out); have n2_ := Aside0.mk (Kd.R_at hq_ HO_10.out); have n3_ := Aside0.mk (below_at hq_ HB.out); clear hq_ HO_4 HO_9 HO_10 HB; have HO_4 := n0_; have HO_9 := n1_; have HO_10 := n2_; have HB := n3_; clear n0_ n1_ n2_ n3_; (try (obtain ⟨hy72_, hz72_⟩ := Kd.R_celln 0 HO_4.out (x14_1 : Int) (of_decide_eq_true aS) (of_decide_eq_true aS))); (try (have HP72 := Kd.R_putg HO_4.out (x14_1 : Int) ((IntKind.u64.wrap (x16_48 - 1)) % 4294967296))))); refine store_event (t := 36) (p := 160) (v := ?vo_w73) (w1 := (w71.setCell ⟨go67, (x14_1 : Int).toNat, none⟩ (.int .u32 ((IntKind.u64.wrap (x16_48 - 1)) % 4294967296)))) ?hg ?ho ?hn ?hr ?_; (case ho => rfl); (case hg => rfl); (case hn => rfl); (case hr => first | (go_simp; done) | (go_simp; rfl)); intro w73 hw; have hg : w71.grownBy w73 (some go67) := (by rw [hw]; exact HP72.2); have hp_ : Kd.R (Kd.int .u32) 36 w73 w.heap.size (fun k_ => (w.heap.size ≤ k_) ∧ some k_ ≠ (.slice (some ad219) x10_1.length co36 : Value).ownBlock) (.slice (some ⟨go67, 0, none⟩) x4_1.length co67) y227 := (by rw [hw, Ny227.out]; exact HP72.1); clear HP72; have n0_ := Aside0.mk (hp_); have n1_ := Aside0.mk (Kd.V_afterv (v := (.slice (some ⟨go67, 0, none⟩) x4_1.length co67)) (v1 := (.slice (some ⟨go67, 0, none⟩) x4_1.length co67)) (ok := (fun k_ => (w.heap.size ≤ k_) ∧ some k_ ≠ (.slice (some ad219) x10_1.length co36 : Value).ownBlock)) (by (with_reducible repeat (first | apply Kd.V_alloc | apply Kd.V_drewN | apply Kd.V_drew)); exact Kd.V_mono HO_9.out (fun _ hk => ⟨⟨hk.1, hk.2.2⟩, hk.2.1⟩)) hg (.inl rfl)); have n2_ := Aside0.mk (Kd.R_after (v := (.slice (some ⟨go67, 0, none⟩) x4_1.length co67)) (v1 := (.slice (some ⟨go67, 0, none⟩) x4_1.length co67)) (ok := (fun k_ => (w.heap.size ≤ k_))) (dR HO_10.out) hg (.inl rfl)); have n3_ := Aside0.mk ((by rw [hw]; exact below_set (HB.out) GB67.out : Below w.heap.size w w73)); clear HO_4 HO_9 HO_10 HB; have HO_4 := n0_; have HO_9 := n1_; have HO_10 := n2_; have HB := n3_; clear n0_ n1_ n2_ n3_; clear hg hw hp_))
                            repeat (go_quiet (fail); try go_wp2_with (first | (go_at_call 69; (with_reducible refine (mag_subtractAt.calls kj48 (fun k_ => some k_ = (.slice (some ad219) x10_1.length co36 : Value).ownBlock) (.slice (some ad219) x10_1.length co36) x10_1 x14_1 (wrap64 ((wrap64 (x14_1 + (t195.length : Int))) + 1)) _ _ t195 x16_48 true t224 w _ ?side1 ?side2 ?side3 ?side4 ?side5 A60.out).mono ?_); (case side1 => repeat (first | (with_reducible first | exact HB.out | apply below_alloc | apply pw_below_drewN | apply below_drew1) | exact HB.out)); (case side2 => have h_ := HVv222.out; have hlx_ := (Kd.R_reads' HO_10.out).1; exact ⟨h_.1, h_.2.1, by omega, h_.2.2.2⟩); (case side3 => exact Kd.R_tight rfl HO_10.out); (case side4 => exact Kd.C_kept_ownV (HO_9.out) (fun k_ hk_ hs_ => (hk_.2.2) hs_)); (case side5 => exact (Kd.V_reads' HO_9.out).2.1); rintro e w69 ⟨rfl, hy0, hb, hkp⟩; have n0_ := Aside0.mk (Kd.R_mono (ok' := fun k_ => (w.heap.size ≤ k_) ∧ some k_ ≠ (.slice (some ad219) x10_1.length co36 : Value).ownBlock) (Kd.R_keptB (HO_4.out) hkp (fun k_ hk_ hs_ => (hk_.2) hs_)) (fun k_ hk_ => ⟨hk_.1.1, hk_.1.2⟩)); have n1_ := Aside0.mk (Kd.V_mono (ok' := fun k_ => (w.heap.size ≤ k_) ∧ some k_ ≠ (v206 : Value).ownBlock ∧ some k_ ≠ (.slice (some ad219) x10_1.length co36 : Value).ownBlock) (Kd.V_keptB (HO_9.out) hkp (fun k_ hk_ hs_ => (hk_.2.2) hs_)) (fun k_ hk_ => ⟨hk_.1.1, hk_.1.2.1, hk_.1.2.2⟩)); have n2_ := Aside0.mk (Kd.R_reok rfl hy0 (fun k_ e_ => HO_10.out.1 k_ e_)); have n3_ := Aside0.mk (hb); clear HO_4 HO_9 HO_10 HB; have HO_4 := n0_; have HO_9 := n1_; have HO_10 := n2_; have HB := n3_; clear n0_ n1_ n2_ n3_; (try clear hb); (try clear hkp); (try clear hy0); (try clear hcutrv222); (try clear hcutv222); have q70 : ((wrap64 ((wrap64 (x14_1 + (t195.length : Int))) + 1)) : Int) ≤ ((x10_1.length : Nat) : Int) := of_decide_eq_true aS; have ql70 : (x14_1 : Int) < ((wrap64 ((wrap64 (x14_1 + (t195.length : Int))) + 1)) : Int) := of_decide_eq_true aS; have q070 : (0 : Int) ≤ (x14_1 : Int) := of_decide_eq_true aS; obtain ⟨i070, hi070, _, hsz70, _⟩ := info_parts info36; have hcutv225 := cut_mid (P := Try.prog) 22 36 .i64 .i64 Try.underlying22 hi070 1 hsz70 (some ad219) x10_1.length co36 x14_1 (wrap64 ((wrap64 (x14_1 + (t195.length : Int))) + 1)) q070 (by omega) q70 (by have hlx_ := (Kd.R_reads' HO_10.out); omega); obtain ⟨v225, hvv225⟩ : ∃ v_ : Value, v_ = (.slice (if co36 = (x14_1 : Int).toNat then (some ad219) else ((some ad219) : Option Addr).map (·.add ((x14_1 : Int).toNat * 1))) (((wrap64 ((wrap64 (x14_1 + (t195.length : Int))) + 1)) : Int).toNat - (x14_1 : Int).toNat) (co36 - (x14_1 : Int).toNat)) := ⟨_, rfl⟩; rw [← hvv225] at hcutv225; clear hvv225 hi070 hsz70; (try (have hcutrv225 := hcutv225; simp only [hji13, hji18, hji22, hji25, hji28, hji42, hji45] at hcutrv225)); have HVv225 := Aside0.mk (show (0 : Int) ≤ x14_1 ∧ (x14_1 : Int) < (wrap64 ((wrap64 (x14_1 + (t195.length : Int))) + 1)) ∧ ((wrap64 ((wrap64 (x14_1 + (t195.length : Int))) + 1)) : Int) ≤ _ ∧ _ from ⟨q070, ql70, q70, hcutv225⟩); replace q70 := eq_true q70; replace ql70 := eq_true ql70; replace q070 := eq_true q070) | (go_at_call 70; (with_reducible refine (mag_restoreAt.calls kj48 (fun k_ => some k_ = (.slice (some ad219) x10_1.length co36 : Value).ownBlock) (.slice (some ad219) x10_1.length co36) t224 x14_1 (wrap64 ((wrap64 (x14_1 + (t195.length : Int))) + 1)) _ _ t195 t226 w _ ?side1 ?side2 ?side3 ?side4 ?side5 A65.out).mono ?_); (case side1 => repeat (first | (with_reducible first | exact HB.out | apply below_alloc | apply pw_below_drewN | apply below_drew1) | exact HB.out)); (case side2 => have h_ := HVv225.out; have hlx_ := (Kd.R_reads' HO_10.out).1; exact ⟨h_.1, h_.2.1, by omega, h_.2.2.2⟩); (case side3 => exact Kd.R_tight rfl HO_10.out); (case side4 => exact Kd.C_kept_ownV (HO_9.out) (fun k_ hk_ hs_ => (hk_.2.2) hs_)); (case side5 => exact (Kd.V_reads' HO_9.out).2.1); rintro e w71 ⟨rfl, hy0, hb, hkp⟩; have n0_ := Aside0.mk (Kd.R_mono (ok' := fun k_ => (w.heap.size ≤ k_) ∧ some k_ ≠ (.slice (some ad219) x10_1.length co36 : Value).ownBlock) (Kd.R_keptB (HO_4.out) hkp (fun k_ hk_ hs_ => (hk_.2) hs_)) (fun k_ hk_ => ⟨hk_.1.1, hk_.1.2⟩)); have n1_ := Aside0.mk (Kd.V_mono (ok' := fun k_ => (w.heap.size ≤ k_) ∧ some k_ ≠ (v206 : Value).ownBlock ∧ some k_ ≠ (.slice (some ad219) x10_1.length co36 : Value).ownBlock) (Kd.V_keptB (HO_9.out) hkp (fun k_ hk_ hs_ => (hk_.2.2) hs_)) (fun k_ hk_ => ⟨hk_.1.1, hk_.1.2.1, hk_.1.2.2⟩)); have n2_ := Aside0.mk (Kd.R_reok rfl hy0 (fun k_ e_ => HO_10.out.1 k_ e_)); have n3_ := Aside0.mk (hb); clear HO_4 HO_9 HO_10 HB; have HO_4 := n0_; have HO_9 := n1_; have HO_10 := n2_; have HB := n3_; clear n0_ n1_ n2_ n3_; (try clear hb); (try clear hkp); (try clear hy0); have p67 : 0 ≤ (x14_1 : Int) := of_decide_eq_true aS; have q67 : (x14_1 : Int) < ((x4_1.length : Int) : Int) := of_decide_eq_true aS; obtain ⟨go67, co67, eo67, gb67, gl67, cl67, HG67⟩ := Kd.R_form HO_4.out (by omega); (first | cases eo67 | (injection eo67 with ea_ en_ ec_; (first | subst ea_ | (injection ea_ with ea_; subst ea_)); subst ec_; clear en_)); have GB67 := Aside0.mk gb67; have GG67 := Aside0.mk HG67; clear gb67 gl67 HG67; obtain ⟨hx67_0, hf67_0⟩ := Kd.R_celln 0 HO_4.out (x14_1 : Int) p67 q67; replace p67 := eq_true p67; replace q67 := eq_true q67; obtain ⟨hy72_, hz72_⟩ := Kd.R_celln 0 HO_4.out (x14_1 : Int) (of_decide_eq_true aS) (of_decide_eq_true aS); have HP72 := Kd.R_putg HO_4.out (x14_1 : Int) ((IntKind.u64.wrap (x16_48 - 1)) % 4294967296)) | ((with_reducible refine gate_store (t := 36) (p := 160) rfl ?_); (try (rw [drewN_self w71]; generalize hq_ : World.drewN w71 _ = w71; have n0_ := Aside0.mk (Kd.R_at hq_ HO_4.out); have n1_ := Aside0.mk (Kd.V_at hq_ HO_9.out); have n2_ := Aside0.mk (Kd.R_at hq_ HO_10.out); have n3_ := Aside0.mk (below_at hq_ HB.out); clear hq_ HO_4 HO_9 HO_10 HB; have HO_4 := n0_; have HO_9 := n1_; have HO_10 := n2_; have HB := n3_; clear n0_ n1_ n2_ n3_; (try (obtain ⟨hy72_, hz72_⟩ := Kd.R_celln 0 HO_4.out (x14_1 : Int) (of_decide_eq_true aS) (of_decide_eq_true aS))); (try (have HP72 := Kd.R_putg HO_4.out (x14_1 : Int) ((IntKind.u64.wrap (x16_48 - 1)) % 4294967296))))); refine store_event (t := 36) (p := 160) (v := ?vo_w73) (w1 := (w71.setCell ⟨go67, (x14_1 : Int).toNat, none⟩ (.int .u32 ((IntKind.u64.wrap (x16_48 - 1)) % 4294967296)))) ?hg ?ho ?hn ?hr ?_; (case ho => rfl); (case hg => rfl); (case hn => rfl); (case hr => first | (go_simp; done) | (go_simp; rfl)); intro w73 hw; have hg : w71.grownBy w73 (some go67) := (by rw [hw]; exact HP72.2); have hp_ : Kd.R (Kd.int .u32) 36 w73 w.heap.size (fun k_ => (w.heap.size ≤ k_) ∧ some k_ ≠ (.slice (some ad219) x10_1.length co36 : Value).ownBlock) (.slice (some ⟨go67, 0, none⟩) x4_1.length co67) y227 := (by rw [hw, Ny227.out]; exact HP72.1); clear HP72; have n0_ := Aside0.mk (hp_); have n1_ := Aside0.mk (Kd.V_afterv (v := (.slice (some ⟨go67, 0, none⟩) x4_1.length co67)) (v1 := (.slice (some ⟨go67, 0, none⟩) x4_1.length co67)) (ok := (fun k_ => (w.heap.size ≤ k_) ∧ some k_ ≠ (.slice (some ad219) x10_1.length co36 : Value).ownBlock)) (by (with_reducible repeat (first | apply Kd.V_alloc | apply Kd.V_drewN | apply Kd.V_drew)); exact Kd.V_mono HO_9.out (fun _ hk => ⟨⟨hk.1, hk.2.2⟩, hk.2.1⟩)) hg (.inl rfl)); have n2_ := Aside0.mk (Kd.R_after (v := (.slice (some ⟨go67, 0, none⟩) x4_1.length co67)) (v1 := (.slice (some ⟨go67, 0, none⟩) x4_1.length co67)) (ok := (fun k_ => (w.heap.size ≤ k_))) (dR HO_10.out) hg (.inl rfl)); have n3_ := Aside0.mk ((by rw [hw]; exact below_set (HB.out) GB67.out : Below w.heap.size w w73)); clear HO_4 HO_9 HO_10 HB; have HO_4 := n0_; have HO_9 := n1_; have HO_10 := n2_; have HB := n3_; clear n0_ n1_ n2_ n3_; clear hg hw hp_)))
                            (try simp only [← hl10_1])
                            (try simp only [← hji42, ← hji45])
                            go_roundg kj48
                            case measure => have := HK1.out; have := HJ48.out; omega
                            case rel => exact ⟨(y227), (t226), (wrap64 (x14_1 - 1)), (by first | rfl | (simp; done) | (simp [*]; done)), (by first | with_reducible exact H' | (simp only [hji42, hji45]; exact H') | exact H'), ⟨by have := HK1.out; have := HJ48.out; omega⟩, ⟨by (try simp only [hl10_1]); (with_reducible repeat (first | apply Kd.R_alloc | apply Kd.R_drewN | apply Kd.R_drew)); exact HO_4.out⟩, ⟨by (try simp only [hl10_1]); (with_reducible repeat (first | apply Kd.V_alloc | apply Kd.V_drewN | apply Kd.V_drew)); exact Kd.V_mono HO_9.out (fun _ hk => ⟨hk.1.1, ⟨hk.2, hk.1.2⟩⟩)⟩, ⟨by (try simp only [hl10_1]); (with_reducible repeat (first | apply Kd.R_alloc | apply Kd.R_drewN | apply Kd.R_drew)); exact HO_10.out⟩, ⟨by repeat (first | (with_reducible first | exact HB.out | apply below_alloc | apply pw_below_drewN | apply below_drew1) | exact HB.out)⟩⟩
                           ·rw [if_neg c66] at H
                            exact absurd H (by simp)
                          ·replace c61 := Bool.eq_false_iff.mpr c61
                           subst c61
                           have H1 : (if x14_1 < (x4_1.length : Int) then (mag_DivMod.l0 kj48 (x4_1.set (x14_1 : Int).toNat ((x16_48) % 4294967296)) t194 t195 t224 (t195.length : Int) (IntKind.u64.wrap (rd t195 (ji25))) (IntKind.u64.wrap (rd t195 (ji28))) (wrap64 (x14_1 - 1))) else (none)) = some (r1, r2) := by rw [if_neg (show ¬ (false = true) by decide)] at H; exact H
                           clear H
                           have H := H1
                           clear H1
                           by_cases c74 : x14_1 < (x4_1.length : Int)
                           ·rw [if_pos c74] at H
                            have c74b0 : decide (x14_1 < (x4_1.length : Int)) = true := decide_eq_true c74
                            clear c74
                            have c74bh := c74b0
                            (try simp only [hl10_1] at c74bh)
                            obtain ⟨y228, hy228⟩ : ∃ y_ : List Int, y_ = (x4_1.set (x14_1 : Int).toNat ((x16_48) % 4294967296)) := ⟨_, rfl⟩
                            replace H : (mag_DivMod.l0 kj48 y228 t194 t195 t224 (t195.length : Int) (IntKind.u64.wrap (rd t195 (ji25))) (IntKind.u64.wrap (rd t195 (ji28))) (wrap64 (x14_1 - 1))) = some (r1, r2) := by first | (rw [hy228]; with_reducible exact H) | (have H2_ := (Option.bind_some _ _).symm.trans H; rw [hy228]; with_reducible exact H2_) | (have H2_ := (Option.bind_some _ _).symm.trans H; with_reducible exact H2_) | with_reducible exact H | (rw [hy228]; exact H) | exact H
                            have Ny228 := Aside0.mk hy228
                            clear hy228
                            have H' := Aside0.mk H
                            clear H
                            (try clear hcutrv225)
                            (try clear hcutv225)
                            have q76 : ((wrap64 ((wrap64 (x14_1 + (t195.length : Int))) + 1)) : Int) ≤ ((x10_1.length : Nat) : Int) := of_decide_eq_true aS
                            have ql76 : (x14_1 : Int) < ((wrap64 ((wrap64 (x14_1 + (t195.length : Int))) + 1)) : Int) := of_decide_eq_true aS
                            have q076 : (0 : Int) ≤ (x14_1 : Int) := of_decide_eq_true aS
                            obtain ⟨i076, hi076, _, hsz76, _⟩ := info_parts info36
                            have hcutv222 := cut_mid (P := Try.prog) 22 36 .i64 .i64 Try.underlying22 hi076 1 hsz76 (some ad219) x10_1.length co36 x14_1 (wrap64 ((wrap64 (x14_1 + (t195.length : Int))) + 1)) q076 (by omega) q76 (by have hlx_ := (Kd.R_reads' HO_10.out); omega)
                            obtain ⟨v222, hvv222⟩ : ∃ v_ : Value, v_ = (.slice (if co36 = (x14_1 : Int).toNat then (some ad219) else ((some ad219) : Option Addr).map (·.add ((x14_1 : Int).toNat * 1))) (((wrap64 ((wrap64 (x14_1 + (t195.length : Int))) + 1)) : Int).toNat - (x14_1 : Int).toNat) (co36 - (x14_1 : Int).toNat)) := ⟨_, rfl⟩
                            rw [← hvv222] at hcutv222
                            clear hvv222 hi076 hsz76
                            (try (have hcutrv222 := hcutv222; simp only [hji13, hji18, hji22, hji25, hji28, hji42, hji45] at hcutrv222))
                            have HVv222 := Aside0.mk (show (0 : Int) ≤ x14_1 ∧ (x14_1 : Int) < (wrap64 ((wrap64 (x14_1 + (t195.length : Int))) + 1)) ∧ ((wrap64 ((wrap64 (x14_1 + (t195.length : Int))) + 1)) : Int) ≤ _ ∧ _ from ⟨q076, ql76, q76, hcutv222⟩)
                            replace q76 := eq_true q76
                            replace ql76 := eq_true ql76
                            replace q076 := eq_true q076
                            go_wp2_with (first | (go_at_call 69; (with_reducible refine (mag_subtractAt.calls kj48 (fun k_ => some k_ = (.slice (some ad219) x10_1.length co36 : Value).ownBlock) (.slice (some ad219) x10_1.length co36) x10_1 x14_1 (wrap64 ((wrap64 (x14_1 + (t195.length : Int))) + 1)) _ _ t195 x16_48 false t224 w _ ?side1 ?side2 ?side3 ?side4 ?side5 A60.out).mono ?_); (case side1 => repeat (first | (with_reducible first | exact HB.out | apply below_alloc | apply pw_below_drewN | apply below_drew1) | exact HB.out)); (case side2 => have h_ := HVv222.out; have hlx_ := (Kd.R_reads' HO_10.out).1; exact ⟨h_.1, h_.2.1, by omega, h_.2.2.2⟩); (case side3 => exact Kd.R_tight rfl HO_10.out); (case side4 => exact Kd.C_kept_ownV (HO_9.out) (fun k_ hk_ hs_ => (hk_.2.2) hs_)); (case side5 => exact (Kd.V_reads' HO_9.out).2.1); rintro e w77 ⟨rfl, hy0, hb, hkp⟩; have n0_ := Aside0.mk (Kd.R_mono (ok' := fun k_ => (w.heap.size ≤ k_) ∧ some k_ ≠ (.slice (some ad219) x10_1.length co36 : Value).ownBlock) (Kd.R_keptB (HO_4.out) hkp (fun k_ hk_ hs_ => (hk_.2) hs_)) (fun k_ hk_ => ⟨hk_.1.1, hk_.1.2⟩)); have n1_ := Aside0.mk (Kd.V_mono (ok' := fun k_ => (w.heap.size ≤ k_) ∧ some k_ ≠ (v206 : Value).ownBlock ∧ some k_ ≠ (.slice (some ad219) x10_1.length co36 : Value).ownBlock) (Kd.V_keptB (HO_9.out) hkp (fun k_ hk_ hs_ => (hk_.2.2) hs_)) (fun k_ hk_ => ⟨hk_.1.1, hk_.1.2.1, hk_.1.2.2⟩)); have n2_ := Aside0.mk (Kd.R_reok rfl hy0 (fun k_ e_ => HO_10.out.1 k_ e_)); have n3_ := Aside0.mk (hb); clear HO_4 HO_9 HO_10 HB; have HO_4 := n0_; have HO_9 := n1_; have HO_10 := n2_; have HB := n3_; clear n0_ n1_ n2_ n3_; (try clear hb); (try clear hkp); (try clear hy0); have p75 : 0 ≤ (x14_1 : Int) := of_decide_eq_true aS; have q75 : (x14_1 : Int) < ((x4_1.length : Int) : Int) := of_decide_eq_true aS; obtain ⟨go75, co75, eo75, gb75, gl75, cl75, HG75⟩ := Kd.R_form HO_4.out (by omega); (first | cases eo75 | (injection eo75 with ea_ en_ ec_; (first | subst ea_ | (injection ea_ with ea_; subst ea_)); subst ec_; clear en_)); have GB75 := Aside0.mk gb75; have GG75 := Aside0.mk HG75; clear gb75 gl75 HG75; obtain ⟨hx75_0, hf75_0⟩ := Kd.R_celln 0 HO_4.out (x14_1 : Int) p75 q75; replace p75 := eq_true p75; replace q75 := eq_true q75; obtain ⟨hy78_, hz78_⟩ := Kd.R_celln 0 HO_4.out (x14_1 : Int) (of_decide_eq_true aS) (of_decide_eq_true aS); have HP78 := Kd.R_putg HO_4.out (x14_1 : Int) ((x16_48) % 4294967296)) | ((with_reducible refine gate_store (t := 36) (p := 160) rfl ?_); (try (rw [drewN_self w77]; generalize hq_ : World.drewN w77 _ = w77; have n0_ := Aside0.mk (Kd.R_at hq_ HO_4.out); have n1_ := Aside0.mk (Kd.V_at hq_ HO_9.out); have n2_ := Aside0.mk (Kd.R_at hq_ HO_10.out); have n3_ := Aside0.mk (below_at hq_ HB.out); clear hq_ HO_4 HO_9 HO_10 HB; have HO_4 := n0_; have HO_9 := n1_; have HO_10 := n2_; have HB := n3_; clear n0_ n1_ n2_ n3_; (try (obtain ⟨hy78_, hz78_⟩ := Kd.R_celln 0 HO_4.out (x14_1 : Int) (of_decide_eq_true aS) (of_decide_eq_true aS))); (try (have HP78 := Kd.R_putg HO_4.out (x14_1 : Int) ((x16_48) % 4294967296))))); refine store_event (t := 36) (p := 160) (v := ?vo_w79) (w1 := (w77.setCell ⟨go75, (x14_1 : Int).toNat, none⟩ (.int .u32 ((x16_48) % 4294967296)))) ?hg ?ho ?hn ?hr ?_; (case ho => rfl); (case hg => rfl); (case hn => rfl); (case hr => first | (go_simp; done) | (go_simp; rfl)); intro w79 hw; have hg : w77.grownBy w79 (some go75) := (by rw [hw]; exact HP78.2); have hp_ : Kd.R (Kd.int .u32) 36 w79 w.heap.size (fun k_ => (w.heap.size ≤ k_) ∧ some k_ ≠ (.slice (some ad219) x10_1.length co36 : Value).ownBlock) (.slice (some ⟨go75, 0, none⟩) x4_1.length co75) y228 := (by rw [hw, Ny228.out]; exact HP78.1); clear HP78; have n0_ := Aside0.mk (hp_); have n1_ := Aside0.mk (Kd.V_afterv (v := (.slice (some ⟨go75, 0, none⟩) x4_1.length co75)) (v1 := (.slice (some ⟨go75, 0, none⟩) x4_1.length co75)) (ok := (fun k_ => (w.heap.size ≤ k_) ∧ some k_ ≠ (.slice (some ad219) x10_1.length co36 : Value).ownBlock)) (by (with_reducible repeat (first | apply Kd.V_alloc | apply Kd.V_drewN | apply Kd.V_drew)); exact Kd.V_mono HO_9.out (fun _ hk => ⟨⟨hk.1, hk.2.2⟩, hk.2.1⟩)) hg (.inl rfl)); have n2_ := Aside0.mk (Kd.R_after (v := (.slice (some ⟨go75, 0, none⟩) x4_1.length co75)) (v1 := (.slice (some ⟨go75, 0, none⟩) x4_1.length co75)) (ok := (fun k_ => (w.heap.size ≤ k_))) (dR HO_10.out) hg (.inl rfl)); have n3_ := Aside0.mk ((by rw [hw]; exact below_set (HB.out) GB75.out : Below w.heap.size w w79)); clear HO_4 HO_9 HO_10 HB; have HO_4 := n0_; have HO_9 := n1_; have HO_10 := n2_; have HB := n3_; clear n0_ n1_ n2_ n3_; clear hg hw hp_))
                            repeat (go_quiet (fail); try go_wp2_with (first | (go_at_call 69; (with_reducible refine (mag_subtractAt.calls kj48 (fun k_ => some k_ = (.slice (some ad219) x10_1.length co36 : Value).ownBlock) (.slice (some ad219) x10_1.length co36) x10_1 x14_1 (wrap64 ((wrap64 (x14_1 + (t195.length : Int))) + 1)) _ _ t195 x16_48 false t224 w _ ?side1 ?side2 ?side3 ?side4 ?side5 A60.out).mono ?_); (case side1 => repeat (first | (with_reducible first | exact HB.out | apply below_alloc | apply pw_below_drewN | apply below_drew1) | exact HB.out)); (case side2 => have h_ := HVv222.out; have hlx_ := (Kd.R_reads' HO_10.out).1; exact ⟨h_.1, h_.2.1, by omega, h_.2.2.2⟩); (case side3 => exact Kd.R_tight rfl HO_10.out); (case side4 => exact Kd.C_kept_ownV (HO_9.out) (fun k_ hk_ hs_ => (hk_.2.2) hs_)); (case side5 => exact (Kd.V_reads' HO_9.out).2.1); rintro e w77 ⟨rfl, hy0, hb, hkp⟩; have n0_ := Aside0.mk (Kd.R_mono (ok' := fun k_ => (w.heap.size ≤ k_) ∧ some k_ ≠ (.slice (some ad219) x10_1.length co36 : Value).ownBlock) (Kd.R_keptB (HO_4.out) hkp (fun k_ hk_ hs_ => (hk_.2) hs_)) (fun k_ hk_ => ⟨hk_.1.1, hk_.1.2⟩)); have n1_ := Aside0.mk (Kd.V_mono (ok' := fun k_ => (w.heap.size ≤ k_) ∧ some k_ ≠ (v206 : Value).ownBlock ∧ some k_ ≠ (.slice (some ad219) x10_1.length co36 : Value).ownBlock) (Kd.V_keptB (HO_9.out) hkp (fun k_ hk_ hs_ => (hk_.2.2) hs_)) (fun k_ hk_ => ⟨hk_.1.1, hk_.1.2.1, hk_.1.2.2⟩)); have n2_ := Aside0.mk (Kd.R_reok rfl hy0 (fun k_ e_ => HO_10.out.1 k_ e_)); have n3_ := Aside0.mk (hb); clear HO_4 HO_9 HO_10 HB; have HO_4 := n0_; have HO_9 := n1_; have HO_10 := n2_; have HB := n3_; clear n0_ n1_ n2_ n3_; (try clear hb); (try clear hkp); (try clear hy0); have p75 : 0 ≤ (x14_1 : Int) := of_decide_eq_true aS; have q75 : (x14_1 : Int) < ((x4_1.length : Int) : Int) := of_decide_eq_true aS; obtain ⟨go75, co75, eo75, gb75, gl75, cl75, HG75⟩ := Kd.R_form HO_4.out (by omega); (first | cases eo75 | (injection eo75 with ea_ en_ ec_; (first | subst ea_ | (injection ea_ with ea_; subst ea_)); subst ec_; clear en_)); have GB75 := Aside0.mk gb75; have GG75 := Aside0.mk HG75; clear gb75 gl75 HG75; obtain ⟨hx75_0, hf75_0⟩ := Kd.R_celln 0 HO_4.out (x14_1 : Int) p75 q75; replace p75 := eq_true p75; replace q75 := eq_true q75; obtain ⟨hy78_, hz78_⟩ := Kd.R_celln 0 HO_4.out (x14_1 : Int) (of_decide_eq_true aS) (of_decide_eq_true aS); have HP78 := Kd.R_putg HO_4.out (x14_1 : Int) ((x16_48) % 4294967296)) | ((with_reducible refine gate_store (t := 36) (p := 160) rfl ?_); (try (rw [drewN_self w77]; generalize hq_ : World.drewN w77 _ = w77; have n0_ := Aside0.mk (Kd.R_at hq_ HO_4.out); have n1_ := Aside0.mk (Kd.V_at hq_ HO_9.out); have n2_ := Aside0.mk (Kd.R_at hq_ HO_10.out); have n3_ := Aside0.mk (below_at hq_ HB.out); clear hq_ HO_4 HO_9 HO_10 HB; have HO_4 := n0_; have HO_9 := n1_; have HO_10 := n2_; have HB := n3_; clear n0_ n1_ n2_ n3_; (try (obtain ⟨hy78_, hz78_⟩ := Kd.R_celln 0 HO_4.out (x14_1 : Int) (of_decide_eq_true aS) (of_decide_eq_true aS))); (try (have HP78 := Kd.R_putg HO_4.out (x14_1 : Int) ((x16_48) % 4294967296))))); refine store_event (t := 36) (p := 160) (v := ?vo_w79) (w1 := (w77.setCell ⟨go75, (x14_1 : Int).toNat, none⟩ (.int .u32 ((x16_48) % 4294967296)))) ?hg ?ho ?hn ?hr ?_; (case ho => rfl); (case hg => rfl); (case hn => rfl); (case hr => first | (go_simp; done) | (go_simp; rfl)); intro w79 hw; have hg : w77.grownBy w79 (some go75) := (by rw [hw]; exact HP78.2); have hp_ : Kd.R (Kd.int .u32) 36 w79 w.heap.size (fun k_ => (w.heap.size ≤ k_) ∧ some k_ ≠ (.slice (some ad219) x10_1.length co36 : Value).ownBlock) (.slice (some ⟨go75, 0, none⟩) x4_1.length co75) y228 := (by rw [hw, Ny228.out]; exact HP78.1); clear HP78; have n0_ := Aside0.mk (hp_); have n1_ := Aside0.mk (Kd.V_afterv (v := (.slice (some ⟨go75, 0, none⟩) x4_1.length co75)) (v1 := (.slice (some ⟨go75, 0, none⟩) x4_1.length co75)) (ok := (fun k_ => (w.heap.size ≤ k_) ∧ some k_ ≠ (.slice (some ad219) x10_1.length co36 : Value).ownBlock)) (by (with_reducible repeat (first | apply Kd.V_alloc | apply Kd.V_drewN | apply Kd.V_drew)); exact Kd.V_mono HO_9.out (fun _ hk => ⟨⟨hk.1, hk.2.2⟩, hk.2.1⟩)) hg (.inl rfl)); have n2_ := Aside0.mk (Kd.R_after (v := (.slice (some ⟨go75, 0, none⟩) x4_1.length co75)) (v1 := (.slice (some ⟨go75, 0, none⟩) x4_1.length co75)) (ok := (fun k_ => (w.heap.size ≤ k_))) (dR HO_10.out) hg (.inl rfl)); have n3_ := Aside0.mk ((by rw [hw]; exact below_set (HB.out) GB75.out : Below w.heap.size w w79)); clear HO_4 HO_9 HO_10 HB; have HO_4 := n0_; have HO_9 := n1_; have HO_10 := n2_; have HB := n3_; clear n0_ n1_ n2_ n3_; clear hg hw hp_)))
                            (try simp only [← hl10_1])
                            (try simp only [← hji42, ← hji45])
                            go_roundg kj48
                            case measure => have := HK1.out; have := HJ48.out; omega
                            case rel => exact ⟨(y228), (t224), (wrap64 (x14_1 - 1)), (by first | rfl | (simp; done) | (simp [*]; done)), (by first | with_reducible exact H' | (simp only [hji42, hji45]; exact H') | exact H'), ⟨by have := HK1.out; have := HJ48.out; omega⟩, ⟨by (try simp only [hl10_1]); (with_reducible repeat (first | apply Kd.R_alloc | apply Kd.R_drewN | apply Kd.R_drew)); exact HO_4.out⟩, ⟨by (try simp only [hl10_1]); (with_reducible repeat (first | apply Kd.V_alloc | apply Kd.V_drewN | apply Kd.V_drew)); exact Kd.V_mono HO_9.out (fun _ hk => ⟨hk.1.1, ⟨hk.2, hk.1.2⟩⟩)⟩, ⟨by (try simp only [hl10_1]); (with_reducible repeat (first | apply Kd.R_alloc | apply Kd.R_drewN | apply Kd.R_drew)); exact HO_10.out⟩, ⟨by repeat (first | (with_reducible first | exact HB.out | apply below_alloc | apply pw_below_drewN | apply below_drew1) | exact HB.out)⟩⟩
                           ·rw [if_neg c74] at H
                            exact absurd H (by simp)
                         ·rw [if_neg c59] at H
                          exact absurd H (by simp)
                        ·rw [if_neg c58] at H
                         exact absurd H (by simp)
                       ·rw [if_neg c57] at H
                        exact absurd H (by simp)
                   ·rw [if_neg c47] at H
                    exact absurd H (by simp)
                  ·rw [if_neg c46] at H
                   exact absurd H (by simp)
                 ·rw [if_neg c44] at H
                  exact absurd H (by simp)
                ·rw [if_neg c43] at H
                 exact absurd H (by simp)
               ·rw [if_neg c41] at H
                have c41b0 : decide (0 ≤ x14_1) = false := decide_eq_false c41
                clear c41
                replace H := Option.bind_eq_some_iff.mp H
                obtain ⟨t210, A800, H⟩ := H
                replace H : ((mag_Trim.f k1 x10_1).bind fun t213 => ((mag_Shr.f k1 t213 t194).bind fun t216 => (some (t210, t216)))) = some (r1, r2) := H
                have A80 := Aside0.mk A800
                clear A800
                replace H := Option.bind_eq_some_iff.mp H
                obtain ⟨t213, A810, H⟩ := H
                replace H : ((mag_Shr.f k1 t213 t194).bind fun t216 => (some (t210, t216))) = some (r1, r2) := H
                have A81 := Aside0.mk A810
                clear A810
                replace H := Option.bind_eq_some_iff.mp H
                obtain ⟨t216, A820, H⟩ := H
                replace H : (some (t210, t216)) = some (r1, r2) := H
                have A82 := Aside0.mk A820
                clear A820
                simp only [Option.some.injEq, Prod.mk.injEq] at H
                obtain ⟨rfl, rfl⟩ := H
                obtain ⟨Ao83, co83, eo83⟩ := Kd.R_slice HO_4.out
                subst eo83
                go_wp2_with (first | (go_at_call 66; (with_reducible refine (mag_Trim.calls k1 (fun k_ => some k_ = (.slice Ao83 x4_1.length co83 : Value).ownBlock) _ _ x4_1 t210 _ ?side1 A80.out).mono ?_); (case side1 => exact Kd.R_V (Kd.R_tight rfl (HO_4.out))); rintro e w84 ⟨v211, rfl, ho0, hb⟩; have n0_ := Aside0.mk (Kd.R_below (dR HO_4.out) hb); have n1_ := Aside0.mk (Kd.V_below (dV HO_9.out) hb); have n2_ := Aside0.mk (Kd.R_below (dR HO_10.out) hb); have n3_ := Aside0.mk (Kd.V_lower (Kd.V_mono (ok' := fun k_ => (w.heap.size ≤ k_) ∧ some k_ ≠ (.slice Ao36 x10_1.length co36 : Value).ownBlock) ho0 (fun k_ hk_ => ⟨Or.elim hk_ (fun hs_ => ((HO_4.out).1 k_ hs_.symm).1) (fun hn_ => (Nat.le_trans (below_size (bB)) hn_)), Or.elim hk_ (fun hs_ => ((HO_4.out).1 k_ hs_.symm).2) (fun hn_ => (Kd.fresh' (Kd.R_lt (dR HO_10.out)) k_ hn_))⟩)) (below_size (bB))); have n4_ := Aside0.mk (below_step (bB) hb); clear HO_4 HO_9 HO_10 HB; have HO_4 := n0_; have HO_9 := n1_; have HO_10 := n2_; have HO212 := n3_; have HB := n4_; clear n0_ n1_ n2_ n3_ n4_; (try clear hb); (try clear hb2); (try clear hk); (try clear hi); (try clear ho0)) | (go_at_call 66; (with_reducible refine (mag_Trim.calls k1 (fun k_ => some k_ = (.slice Ao36 x10_1.length co36 : Value).ownBlock) _ _ x10_1 t213 _ ?side1 A81.out).mono ?_); (case side1 => exact Kd.R_V (Kd.R_tight rfl (HO_10.out))); rintro e w85 ⟨v214, rfl, ho0, hb⟩; have n0_ := Aside0.mk (Kd.R_below (dR HO_4.out) hb); have n1_ := Aside0.mk (Kd.V_below (dV HO_9.out) hb); have n2_ := Aside0.mk (Kd.R_below (dR HO_10.out) hb); have n3_ := Aside0.mk (Kd.V_below (dV HO212.out) hb); have n4_ := Aside0.mk (Kd.V_lower (Kd.V_mono (ok' := fun k_ => (w.heap.size ≤ k_) ∧ some k_ ≠ (.slice Ao83 x4_1.length co83 : Value).ownBlock) ho0 (fun k_ hk_ => ⟨Or.elim hk_ (fun hs_ => ((HO_10.out).1 k_ hs_.symm).1) (fun hn_ => (Nat.le_trans (below_size (bB)) hn_)), Or.elim hk_ (fun hs_ => ((HO_10.out).1 k_ hs_.symm).2) (fun hn_ => (Kd.fresh' (Kd.R_lt (dR HO_4.out)) k_ hn_))⟩)) (below_size (bB))); have n5_ := Aside0.mk (below_step (bB) hb); clear HO_4 HO_9 HO_10 HO212 HB; have HO_4 := n0_; have HO_9 := n1_; have HO_10 := n2_; have HO212 := n3_; have HO215 := n4_; have HB := n5_; clear n0_ n1_ n2_ n3_ n4_ n5_; (try clear hb); (try clear hb2); (try clear hk); (try clear hi); (try clear ho0); obtain ⟨Ao86, co86, eo86⟩ := Kd.V_slice HO215.out; subst eo86) | (go_at_call 49; (with_reducible refine (mag_Shr.calls k1 _ _ t213 t194 t216 _ ?side1 ?side2 A82.out).mono ?_); (case side1 => exact dC (Kd.V_reads' HO215.out).2.2); (case side2 => exact (Kd.V_reads' HO215.out).2.1); rintro e w87 ⟨v217, rfl, ho0, hb⟩; have n0_ := Aside0.mk (Kd.R_below (dR HO_4.out) hb); have n1_ := Aside0.mk (Kd.V_below (dV HO_9.out) hb); have n2_ := Aside0.mk (Kd.R_below (dR HO_10.out) hb); have n3_ := Aside0.mk (Kd.V_below (dV HO212.out) hb); have n4_ := Aside0.mk (Kd.V_below (dV HO215.out) hb); have n5_ := Aside0.mk (Kd.V_lower (Kd.V_mono (ok' := fun k_ => (w.heap.size ≤ k_) ∧ some k_ ≠ (.slice Ao83 x4_1.length co83 : Value).ownBlock ∧ some k_ ≠ (.slice Ao36 x10_1.length co36 : Value).ownBlock) ho0 (fun k_ hk_ => ⟨(Nat.le_trans (below_size (bB)) hk_), (Kd.fresh' (Kd.R_lt (dR HO_4.out)) k_ hk_), (Kd.fresh' (Kd.R_lt (dR HO_10.out)) k_ hk_)⟩)) (below_size (bB))); have n6_ := Aside0.mk (below_step (bB) hb); clear HO_4 HO_9 HO_10 HO212 HO215 HB; have HO_4 := n0_; have HO_9 := n1_; have HO_10 := n2_; have HO212 := n3_; have HO215 := n4_; have HO218 := n5_; have HB := n6_; clear n0_ n1_ n2_ n3_ n4_ n5_ n6_; (try clear hb); (try clear hb2); (try clear hk); (try clear hi); (try clear ho0)))
                repeat (go_quiet (fail); try go_wp2_with (first | (go_at_call 66; (with_reducible refine (mag_Trim.calls k1 (fun k_ => some k_ = (.slice Ao83 x4_1.length co83 : Value).ownBlock) _ _ x4_1 t210 _ ?side1 A80.out).mono ?_); (case side1 => exact Kd.R_V (Kd.R_tight rfl (HO_4.out))); rintro e w84 ⟨v211, rfl, ho0, hb⟩; have n0_ := Aside0.mk (Kd.R_below (dR HO_4.out) hb); have n1_ := Aside0.mk (Kd.V_below (dV HO_9.out) hb); have n2_ := Aside0.mk (Kd.R_below (dR HO_10.out) hb); have n3_ := Aside0.mk (Kd.V_lower (Kd.V_mono (ok' := fun k_ => (w.heap.size ≤ k_) ∧ some k_ ≠ (.slice Ao36 x10_1.length co36 : Value).ownBlock) ho0 (fun k_ hk_ => ⟨Or.elim hk_ (fun hs_ => ((HO_4.out).1 k_ hs_.symm).1) (fun hn_ => (Nat.le_trans (below_size (bB)) hn_)), Or.elim hk_ (fun hs_ => ((HO_4.out).1 k_ hs_.symm).2) (fun hn_ => (Kd.fresh' (Kd.R_lt (dR HO_10.out)) k_ hn_))⟩)) (below_size (bB))); have n4_ := Aside0.mk (below_step (bB) hb); clear HO_4 HO_9 HO_10 HB; have HO_4 := n0_; have HO_9 := n1_; have HO_10 := n2_; have HO212 := n3_; have HB := n4_; clear n0_ n1_ n2_ n3_ n4_; (try clear hb); (try clear hb2); (try clear hk); (try clear hi); (try clear ho0)) | (go_at_call 66; (with_reducible refine (mag_Trim.calls k1 (fun k_ => some k_ = (.slice Ao36 x10_1.length co36 : Value).ownBlock) _ _ x10_1 t213 _ ?side1 A81.out).mono ?_); (case side1 => exact Kd.R_V (Kd.R_tight rfl (HO_10.out))); rintro e w85 ⟨v214, rfl, ho0, hb⟩; have n0_ := Aside0.mk (Kd.R_below (dR HO_4.out) hb); have n1_ := Aside0.mk (Kd.V_below (dV HO_9.out) hb); have n2_ := Aside0.mk (Kd.R_below (dR HO_10.out) hb); have n3_ := Aside0.mk (Kd.V_below (dV HO212.out) hb); have n4_ := Aside0.mk (Kd.V_lower (Kd.V_mono (ok' := fun k_ => (w.heap.size ≤ k_) ∧ some k_ ≠ (.slice Ao83 x4_1.length co83 : Value).ownBlock) ho0 (fun k_ hk_ => ⟨Or.elim hk_ (fun hs_ => ((HO_10.out).1 k_ hs_.symm).1) (fun hn_ => (Nat.le_trans (below_size (bB)) hn_)), Or.elim hk_ (fun hs_ => ((HO_10.out).1 k_ hs_.symm).2) (fun hn_ => (Kd.fresh' (Kd.R_lt (dR HO_4.out)) k_ hn_))⟩)) (below_size (bB))); have n5_ := Aside0.mk (below_step (bB) hb); clear HO_4 HO_9 HO_10 HO212 HB; have HO_4 := n0_; have HO_9 := n1_; have HO_10 := n2_; have HO212 := n3_; have HO215 := n4_; have HB := n5_; clear n0_ n1_ n2_ n3_ n4_ n5_; (try clear hb); (try clear hb2); (try clear hk); (try clear hi); (try clear ho0); obtain ⟨Ao86, co86, eo86⟩ := Kd.V_slice HO215.out; subst eo86) | (go_at_call 49; (with_reducible refine (mag_Shr.calls k1 _ _ t213 t194 t216 _ ?side1 ?side2 A82.out).mono ?_); (case side1 => exact dC (Kd.V_reads' HO215.out).2.2); (case side2 => exact (Kd.V_reads' HO215.out).2.1); rintro e w87 ⟨v217, rfl, ho0, hb⟩; have n0_ := Aside0.mk (Kd.R_below (dR HO_4.out) hb); have n1_ := Aside0.mk (Kd.V_below (dV HO_9.out) hb); have n2_ := Aside0.mk (Kd.R_below (dR HO_10.out) hb); have n3_ := Aside0.mk (Kd.V_below (dV HO212.out) hb); have n4_ := Aside0.mk (Kd.V_below (dV HO215.out) hb); have n5_ := Aside0.mk (Kd.V_lower (Kd.V_mono (ok' := fun k_ => (w.heap.size ≤ k_) ∧ some k_ ≠ (.slice Ao83 x4_1.length co83 : Value).ownBlock ∧ some k_ ≠ (.slice Ao36 x10_1.length co36 : Value).ownBlock) ho0 (fun k_ hk_ => ⟨(Nat.le_trans (below_size (bB)) hk_), (Kd.fresh' (Kd.R_lt (dR HO_4.out)) k_ hk_), (Kd.fresh' (Kd.R_lt (dR HO_10.out)) k_ hk_)⟩)) (below_size (bB))); have n6_ := Aside0.mk (below_step (bB) hb); clear HO_4 HO_9 HO_10 HO212 HO215 HB; have HO_4 := n0_; have HO_9 := n1_; have HO_10 := n2_; have HO212 := n3_; have HO215 := n4_; have HO218 := n5_; have HB := n6_; clear n0_ n1_ n2_ n3_ n4_ n5_ n6_; (try clear hb); (try clear hb2); (try clear hk); (try clear hi); (try clear ho0))))
                go_ret2
                exact ⟨_, _, by first | rfl | (simp [errW_none, errW_some] <;> rfl) | (simp only [← hji13, ← hji18, ← hji22, ← hji25, ← hji28]; first | rfl | (simp [errW_none, errW_some] <;> rfl)) | (simp [*, errW_none, errW_some] <;> rfl), by (with_reducible repeat (first | apply Kd.V_alloc | apply Kd.V_drewN | apply Kd.V_drew)); exact Kd.V_mono HO212.out (fun _ hk => hk.1), by (with_reducible repeat (first | apply Kd.V_alloc | apply Kd.V_drewN | apply Kd.V_drew)); exact Kd.V_mono HO218.out (fun _ hk => hk.1), by repeat (first | (with_reducible first | exact HB.out | apply below_alloc | apply pw_below_drewN | apply below_drew1) | exact HB.out)⟩
            ·rw [if_neg c30] at H
             exact absurd H (by simp)
           ·rw [if_neg c29] at H
            exact absurd H (by simp)
          ·rw [if_neg c27] at H
           exact absurd H (by simp)
         ·rw [if_neg c26] at H
          exact absurd H (by simp)
        ·rw [if_neg c24] at H
         exact absurd H (by simp)
       ·rw [if_neg c23] at H
        exact absurd H (by simp)
      ·rw [if_neg c20] at H
       exact absurd H (by simp)
     ·rw [if_neg c19] at H
      exact absurd H (by simp)
    ·rw [if_neg c15] at H
     exact absurd H (by simp)
   ·rw [if_neg c14] at H
    exact absurd H (by simp)
end Go.Proofs.Ytfmobogdnlmdbaa.P
end
section
namespace Go.Proofs.Ytfmobogdnlmdbaa.P
open Go.RowKit Go.Proofs.YtfmobogdnlmdbaaW.PrintWords Go.Proofs.YtfmobogdnlmdbaaW.PrintLast Go.Proofs.YtfmobogdnlmdbaaW.PrintMore Go.Proofs.YtfmobogdnlmdbaaW
attribute [local go_sem] max2_int min2_int max_two min_two max_three min_three max_four min_four
set_option linter.unusedVariables false
set_option linter.unusedSimpArgs false
set_option maxRecDepth 100000 in
theorem mag_Small_calls_p0 {P : Prop} (h : P := by
 go_enter Try.func60, Try.ntmps60
 go_wp2
 repeat (go_quiet (fail); try go_wp2)
 go_ret2
 exact ⟨by first | rfl | (simp; done) | (simp [*]; done), by repeat (first | exact Drawn0.refl _ | apply Drawn0.step)⟩) : P := h
set_option maxHeartbeats 8000000 in
set_option maxRecDepth 100000 in
theorem mag_Small.calls (A0 : Option Addr) (c0 : Nat) (l0 : List Int) (r1 : Int) (r2 : Bool) (w : World) (hr0 : Kd.C (Kd.int .u32) w A0 l0.length l0) (hc0 : l0.length ≤ c0) (h : mag_Small.f l0 = some (r1, r2)) :
  Calls Try.prog 60 #[.slice A0 l0.length c0] w fun e w' => e = .returned (.tuple #[.int .u64 r1, .bool r2]) ∧ Drawn0 w w' := by
 have HR0 := Aside0.mk hr0
 have HC0 := Aside0.mk hc0
 clear hr0 hc0
 have H : (if (l0.length : Int) = 0 then (some (0, true)) else (if (l0.length : Int) = 1 then (if 0 < (l0.length : Int) then (some (IntKind.u64.wrap (rd l0 0), true)) else (none)) else (if (l0.length : Int) = 2 then (if 1 < (l0.length : Int) then (if 0 < (l0.length : Int) then (some (Go.bits .or .u64 (IntKind.u64.wrap ((IntKind.u64.wrap (rd l0 1)) * 4294967296)) (IntKind.u64.wrap (rd l0 0)), true)) else (none)) else (none)) else (some (0, false))))) = some (r1, r2) := h
 clear h
 by_cases c2 : (l0.length : Int) = 0
 ·rw [if_pos c2] at H
  have c2b0 : ((l0.length : Int) == 0) = true := beq_iff_eq.mpr c2
  have c2b1 : ((l0.length : Int) != 0) = false := bne_eq_false_iff_eq.mpr c2
  clear c2
  simp only [Option.some.injEq, Prod.mk.injEq] at H
  obtain ⟨rfl, rfl⟩ := H
  exact mag_Small_calls_p0
 ·rw [if_neg c2] at H
  have c2b0 : ((l0.length : Int) == 0) = false := beq_eq_false_iff_ne.mpr c2
  have c2b1 : ((l0.length : Int) != 0) = true := bne_iff_ne.mpr c2
  have c2b2 : ¬ (l0 = []) := fun h_ => c2 (by rw [h_]; rfl)
  by_cases c3 : (l0.length : Int) = 1
  ·rw [if_pos c3] at H
   have c3b0 : ((l0.length : Int) == 1) = true := beq_iff_eq.mpr c3
   have c3b1 : ((l0.length : Int) != 1) = false := bne_eq_false_iff_eq.mpr c3
   clear c3
   by_cases c4 : 0 < (l0.length : Int)
   ·rw [if_pos c4] at H
    have c4b0 : decide (0 < (l0.length : Int)) = true := decide_eq_true c4
    have c4b1 : decide (0 < l0.length) = true := decide_eq_true (by omega)
    clear c4
    simp only [Option.some.injEq, Prod.mk.injEq] at H
    obtain ⟨rfl, rfl⟩ := H
    have p229 : 0 ≤ (0 : Int) := (by omega)
    have q229 : 0 < (l0.length : Int) := of_decide_eq_true aS
    obtain ⟨ad229, e229, hx229_0⟩ := Kd.at_int HR0.out 0 p229 q229
    cases e229
    have qi229 : (0 < l0.length) = True := eq_true (by omega)
    (try rw [show ((0 : Int)).toNat = 0 from rfl] at hx229_0)
    (try rw [Addr.add_zero'] at hx229_0)
    replace p229 := eq_true p229
    replace q229 := eq_true q229
    exact mag_Small_calls_p0
   ·rw [if_neg c4] at H
    exact absurd H (by simp)
  ·rw [if_neg c3] at H
   have c3b0 : ((l0.length : Int) == 1) = false := beq_eq_false_iff_ne.mpr c3
   have c3b1 : ((l0.length : Int) != 1) = true := bne_iff_ne.mpr c3
   by_cases c5 : (l0.length : Int) = 2
   ·rw [if_pos c5] at H
    have c5b0 : ((l0.length : Int) == 2) = true := beq_iff_eq.mpr c5
    have c5b1 : ((l0.length : Int) != 2) = false := bne_eq_false_iff_eq.mpr c5
    clear c5
    by_cases c6 : 1 < (l0.length : Int)
    ·rw [if_pos c6] at H
     have c6b0 : decide (1 < (l0.length : Int)) = true := decide_eq_true c6
     have c6b1 : decide (1 < l0.length) = true := decide_eq_true (by omega)
     clear c6
     by_cases c7 : 0 < (l0.length : Int)
     ·rw [if_pos c7] at H
      have c7b0 : decide (0 < (l0.length : Int)) = true := decide_eq_true c7
      have c7b1 : decide (0 < l0.length) = true := decide_eq_true (by omega)
      clear c7
      simp only [Option.some.injEq, Prod.mk.injEq] at H
      obtain ⟨rfl, rfl⟩ := H
      have p230 : 0 ≤ (1 : Int) := (by omega)
      have q230 : 1 < (l0.length : Int) := of_decide_eq_true aS
      obtain ⟨ad230, e230, hx230_0⟩ := Kd.at_int HR0.out 1 p230 q230
      cases e230
      (try simp only [show (1 : Int).toNat = 1 from rfl, Nat.reduceMul, Nat.reduceEqDiff, Go.Addr.add, ↓reduceIte] at hx230_0)
      have qi230 : (1 < l0.length) = True := eq_true (by omega)
      (try rw [show ((1 : Int)).toNat = 1 from rfl] at hx230_0)
      replace p230 := eq_true p230
      replace q230 := eq_true q230
      have p231 : 0 ≤ (0 : Int) := (by omega)
      have q231 : 0 < (l0.length : Int) := of_decide_eq_true aS
      obtain ⟨ad231, e231, hx231_0⟩ := Kd.at_int HR0.out 0 p231 q231
      obtain rfl : ad230 = ad231 := (by injection e231)
      have qi231 : (0 < l0.length) = True := eq_true (by omega)
      (try rw [show ((0 : Int)).toNat = 0 from rfl] at hx231_0)
      (try rw [Addr.add_zero'] at hx231_0)
      replace p231 := eq_true p231
      replace q231 := eq_true q231
      exact mag_Small_calls_p0
     ·rw [if_neg c7] at H
      exact absurd H (by simp)
    ·rw [if_neg c6] at H
     exact absurd H (by simp)
   ·rw [if_neg c5] at H
    have c5b0 : ((l0.length : Int) == 2) = false := beq_eq_false_iff_ne.mpr c5
    have c5b1 : ((l0.length : Int) != 2) = true := bne_iff_ne.mpr c5
    simp only [Option.some.injEq, Prod.mk.injEq] at H
    obtain ⟨rfl, rfl⟩ := H
    exact mag_Small_calls_p0
end Go.Proofs.Ytfmobogdnlmdbaa.P
end
