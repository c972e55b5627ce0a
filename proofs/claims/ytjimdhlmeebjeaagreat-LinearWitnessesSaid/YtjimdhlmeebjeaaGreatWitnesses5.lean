/- An evaluator of the program's code, what its functions come to, and what they mean: text 5. No condition. -/
import Derived.KernelRfl
import Derived.Test.YtjimdhlmeebjeaaGreatWitnesses4
set_option linter.unusedSimpArgs false
set_option linter.unusedSectionVars false
section
namespace Go.Proofs.YtjimdhlmeebjeaaGreat.V
open Go.RowKit Go.Proofs.YtjimdhlmeebjeaaGreatW.PrintWords
set_option linter.unusedVariables false
instance : UL Tryz.prog 2 (.int .i64) := ⟨by kernel_rfl⟩
instance : UL Tryz.prog 3 (.int .i64) := ⟨by kernel_rfl⟩
instance : UL Tryz.prog 5 (.int .u8) := ⟨by kernel_rfl⟩
instance : UL Tryz.prog 9 (.string) := ⟨by kernel_rfl⟩
instance : UL Tryz.prog 28 (.slice 105) := ⟨by kernel_rfl⟩
instance : UL Tryz.prog 34 (.slice 3) := ⟨by kernel_rfl⟩
instance : UL Tryz.prog 35 (.slice 3) := ⟨by kernel_rfl⟩
instance : UL Tryz.prog 105 (.int .u32) := ⟨by kernel_rfl⟩
instance : UL Tryz.prog 113 (.int .u64) := ⟨by kernel_rfl⟩
instance : UL Tryz.prog 125 (.int .u64) := ⟨by kernel_rfl⟩
instance : IF Tryz.prog 2 (.int .i64 0) 1 8 := ⟨by unfold Info; kernel_rfl⟩
instance : IF Tryz.prog 3 (.int .i64 0) 1 8 := ⟨by unfold Info; kernel_rfl⟩
instance : IF Tryz.prog 5 (.int .u8 0) 1 1 := ⟨by unfold Info; kernel_rfl⟩
instance : IF Tryz.prog 105 (.int .u32 0) 1 4 := ⟨by unfold Info; kernel_rfl⟩
instance : IF Tryz.prog 113 (.int .u64 0) 1 8 := ⟨by unfold Info; kernel_rfl⟩
instance : IF Tryz.prog 125 (.int .u64 0) 1 8 := ⟨by unfold Info; kernel_rfl⟩
instance : SZ Tryz.prog 3 1 := ⟨by kernel_rfl⟩
instance : SZ Tryz.prog 105 1 := ⟨by kernel_rfl⟩
instance : FN Tryz.prog 89 := ⟨⟨_, Tryz.func89, by decide, by simp [Tryz.f89]⟩⟩
set_option maxRecDepth 100000 in
set_option maxHeartbeats 4000000 in
theorem mag_Cmp.v (k : Nat) (l0 : List Int) (l1 : List Int) (r : Int) (h : P.mag_Cmp.f k l0 l1 = some r) : Fn Tryz.prog 89 [.ints .u32 l0, .ints .u32 l1] (.int .i64 r) := by
  refine fn_of_sim Tryz.func89 rfl (Nat.le_of_ble_eq_true rfl) ?_
  intro X hX
  unfold P.mag_Cmp.f at h
  refine sim_seq (sim_region ?_)
  refine o1 ?_
  refine sim_ops_nil (sim_seq (sim_seq (sim_region ?_)))
  iterate 5 refine o1 ?_
  refine sim_ops_nil ?_
  refine sim_cond rfl (fun hb => ?_) (fun hb => ?_)
  · skip
    obtain ⟨c1, h⟩ := tkF h hb
    have g2 := hb
    clear hb
    refine sim_seq (sim_seq (sim_region ?_))
    iterate 5 refine o1 ?_
    refine sim_ops_nil ?_
    refine sim_cond rfl (fun hb => ?_) (fun hb => ?_)
    · skip
      obtain ⟨c3, h⟩ := tkT h hb
      have g4 := hb
      clear hb
      refine sim_seq (sim_region ?_)
      refine o1 ?_
      refine sim_ops_nil ?_
      obtain rfl := Option.some.inj h
      exact sim_ret ⟨.inl rfl, .one (.tmp rt) rfl⟩
    · skip
      obtain ⟨c5, h⟩ := tkF h hb
      have g6 := hb
      clear hb
      refine sim_skip (sim_seq (sim_region ?_))
      refine o1 ?_
      refine sim_ops_nil ?_
      obtain rfl := Option.some.inj h
      exact sim_ret ⟨.inl rfl, .one (.tmp rt) rfl⟩
  · skip
    obtain ⟨c7, h⟩ := tkT h hb
    have g8 := hb
    clear hb
    refine sim_skip (sim_seq (sim_seq (sim_region ?_)))
    iterate 4 refine o1 ?_
    refine sim_ops_nil (sim_block (sim_loop ?_))
    refine simL_ind (D := List Int × List Int × Int × Unit) (fun d => ⟨look [(0, .ints .u32 d.1), (1, .ints .u32 d.2.1), (5, .int .i64 d.2.2.1)], look []⟩) (fun K_ d => P.mag_Cmp.l0 K_ d.1 d.2.1 d.2.2.1 = some r) ?_ _ (_, _, _, ()) h (rel_look _ _ ⟨rfl, rfl, rfl, trivial⟩ trivial rfl)
    intro K9 ih10 d h
    obtain ⟨x0, x1, x5, _⟩ := d
    dsimp only at h ⊢
    cases K9 with
    | zero => exact absurd h (by simp [P.mag_Cmp.l0])
    | succ m11 =>
      simp only [P.mag_Cmp.l0] at h
      refine simL_step (sim_seq (sim_seq (sim_region ?_)))
      iterate 2 refine o1 ?_
      refine sim_ops_nil ?_
      refine sim_cond rfl (fun hb => ?_) (fun hb => ?_)
      · skip
        obtain ⟨c12, h⟩ := tkT h hb
        have g13 := hb
        clear hb
        obtain ⟨q14, h⟩ := ite_none h
        obtain ⟨q15, h⟩ := ite_none h
        obtain ⟨q16, h⟩ := ite_none h
        refine sim_skip (sim_seq (sim_block (sim_seq (sim_still ?_))))
        iterate 9 refine s1 ?_
        refine st_nil ?_
        refine sim_cond rfl (fun hb => ?_) (fun hb => ?_)
        · skip
          obtain ⟨c17, h⟩ := tkF h hb
          have g18 := hb
          clear hb
          refine sim_seq (sim_seq (sim_still ?_))
          iterate 9 refine s1 ?_
          refine st_nil ?_
          refine sim_cond rfl (fun hb => ?_) (fun hb => ?_)
          · skip
            obtain ⟨c19, h⟩ := tkT h hb
            have g20 := hb
            clear hb
            refine sim_seq (sim_region ?_)
            refine o1 ?_
            refine sim_ops_nil ?_
            obtain rfl := Option.some.inj h
            exact sim_ret ⟨.inl rfl, .one (.tmp rt) rfl⟩
          · skip
            obtain ⟨c21, h⟩ := tkF h hb
            have g22 := hb
            clear hb
            refine sim_skip (sim_seq (sim_region ?_))
            refine o1 ?_
            refine sim_ops_nil ?_
            obtain rfl := Option.some.inj h
            exact sim_ret ⟨.inl rfl, .one (.tmp rt) rfl⟩
        · skip
          obtain ⟨c23, h⟩ := tkT h hb
          have g24 := hb
          clear hb
          refine sim_skip (sim_region ?_)
          iterate 3 refine o1 ?_
          refine sim_ops_nil ?_
          exact simL_again (ih10 m11 (by omega) (_, _, _, ()) h) ⟨rfl, rfl, rfl, trivial⟩ trivial rfl
      · skip
        obtain ⟨c25, h⟩ := tkF h hb
        have g26 := hb
        clear hb
        refine sim_exit (sim_seq (sim_region ?_))
        refine o1 ?_
        refine sim_ops_nil ?_
        obtain rfl := Option.some.inj h
        exact sim_ret ⟨.inl rfl, .one (.tmp rt) rfl⟩
instance : FN Tryz.prog 116 := ⟨⟨_, Tryz.func116, by decide, by simp [Tryz.f116]⟩⟩
set_option maxRecDepth 100000 in
set_option maxHeartbeats 4000000 in
theorem mag_Trim.v (k : Nat) (l0 : List Int) (r : List Int) (h : P.mag_Trim.f k l0 = some r) : Fn Tryz.prog 116 [.ints .u32 l0] (.ints .u32 r) := by
  refine fn_of_sim Tryz.func116 rfl (Nat.le_of_ble_eq_true rfl) ?_
  intro X hX
  unfold P.mag_Trim.f at h
  refine sim_seq (sim_region ?_)
  refine o1 ?_
  refine sim_ops_nil (sim_seq (sim_block (sim_loop ?_)))
  refine simL_ind (D := List Int × Unit) (fun d => ⟨look [(0, .ints .u32 d.1)], look []⟩) (fun K_ d => P.mag_Trim.l0 K_ d.1 = some r) ?_ _ (_, ()) h (rel_look _ _ ⟨rfl, trivial⟩ trivial rfl)
  intro K1 ih2 d h
  obtain ⟨x0, _⟩ := d
  dsimp only at h ⊢
  cases K1 with
  | zero => exact absurd h (by simp [P.mag_Trim.l0])
  | succ m3 =>
    simp only [P.mag_Trim.l0] at h
    refine simL_step (sim_seq (sim_seq (sim_region ?_)))
    iterate 4 refine o1 ?_
    refine og rfl rfl rfl rfl (fun hb => ?_) (fun hb => ?_)
    · skip
      obtain ⟨c4, h⟩ := tkT h hb
      have g5 := hb
      clear hb
      obtain ⟨q6, h⟩ := ite_none h
      obtain ⟨q7, h⟩ := ite_none h
      iterate 7 refine oT ?_
      refine o1 ?_
      refine sim_ops_nil ?_
      refine sim_cond rfl (fun hb => ?_) (fun hb => ?_)
      · skip
        obtain ⟨c8, h⟩ := tkT h hb
        have g9 := hb
        clear hb
        obtain ⟨q10, h⟩ := ite_none h
        refine sim_skip (sim_block (sim_region ?_))
        iterate 6 refine o1 ?_
        refine sim_ops_nil ?_
        exact simL_again (ih2 m3 (by omega) (_, ()) h) ⟨rfl, trivial⟩ trivial rfl
      · skip
        obtain ⟨c11, h⟩ := tkF h hb
        have g12 := hb
        clear hb
        refine sim_exit (sim_seq (sim_region ?_))
        iterate 2 refine o1 ?_
        refine sim_ops_nil ?_
        obtain rfl := Option.some.inj h
        exact sim_ret ⟨.inl rfl, .one (.tmp rt) rfl⟩
    · skip
      obtain ⟨c13, h⟩ := tkF h hb
      have g14 := hb
      clear hb
      iterate 7 refine opS ?_
      refine o1 ?_
      refine sim_ops_nil ?_
      refine sim_cond rfl (fun hb => ?_) (fun hb => ?_)
      · skip
        first | cases hb | (simp_all; done)
      · skip
        refine sim_exit (sim_seq (sim_region ?_))
        iterate 2 refine o1 ?_
        refine sim_ops_nil ?_
        obtain rfl := Option.some.inj h
        exact sim_ret ⟨.inl rfl, .one (.tmp rt) rfl⟩
instance : FN Tryz.prog 98 := ⟨⟨_, Tryz.func98, by decide, by simp [Tryz.f98]⟩⟩
set_option maxRecDepth 100000 in
set_option maxHeartbeats 4000000 in
theorem mag_From.v (k : Nat) (a0 : Int) (r : List Int) (h : P.mag_From.f k a0 = some r) : Fn Tryz.prog 98 [.int .u64 a0] (.ints .u32 r) := by
  refine fn_of_sim Tryz.func98 rfl (Nat.le_of_ble_eq_true rfl) ?_
  intro X hX
  unfold P.mag_From.f at h
  refine sim_seq (sim_region ?_)
  refine o1 ?_
  refine sim_ops_nil (sim_seq (sim_region ?_))
  iterate 6 refine o1 ?_
  obtain ⟨t1, ht2, h⟩ := Option.bind_eq_some_iff.1 h
  refine opC (mag_Trim.v _ _ _ ht2) ?_
  refine o1 ?_
  refine sim_ops_nil ?_
  obtain rfl := Option.some.inj h
  exact sim_ret ⟨.inl rfl, .one (.tmp rt) rfl⟩
instance : FN Tryz.prog 127 := ⟨⟨_, Tryz.func127, by decide, by simp [Tryz.f127]⟩⟩
set_option maxRecDepth 100000 in
set_option maxHeartbeats 4000000 in
theorem mag_divWord.v (k : Nat) (l0 : List Int) (a1 : Int) (r : List Int × Int) (h : P.mag_divWord.f k l0 a1 = some r) : Fn Tryz.prog 127 [.ints .u32 l0, .int .u32 a1] (.tup [.ints .u32 r.1, .int .u32 r.2]) := by
  refine fn_of_sim Tryz.func127 rfl (Nat.le_of_ble_eq_true rfl) ?_
  intro X hX
  unfold P.mag_divWord.f at h
  obtain ⟨q1, h⟩ := ite_none h
  obtain ⟨q2, h⟩ := ite_none h
  refine sim_seq (sim_region ?_)
  iterate 2 refine o1 ?_
  refine sim_ops_nil (sim_seq (sim_region ?_))
  iterate 4 refine o1 ?_
  refine sim_ops_nil (sim_seq (sim_region ?_))
  refine o1 ?_
  refine sim_ops_nil (sim_seq (sim_seq (sim_region ?_)))
  iterate 4 refine o1 ?_
  refine sim_ops_nil (sim_block (sim_loop ?_))
  refine simL_ind (D := List Int × Int × List Int × Int × Int × Unit) (fun d => ⟨look [(0, .ints .u32 d.1), (1, .int .u32 d.2.1), (6, .own 11), (7, .int .u64 d.2.2.2.1), (8, .int .i64 d.2.2.2.2.1)], look [(11, rowI 105 .u32 d.2.2.1)]⟩) (fun K_ d => P.mag_divWord.l0 K_ d.1 d.2.1 d.2.2.1 d.2.2.2.1 d.2.2.2.2.1 = some r) ?_ _ (_, _, _, _, _, ()) h (rel_look _ _ ⟨rfl, rfl, rfl, rfl, rfl, trivial⟩ ⟨rfl, trivial⟩ rfl)
  intro K3 ih4 d h
  obtain ⟨x0, x1, x6, x7, x8, _⟩ := d
  dsimp only at h ⊢
  cases K3 with
  | zero => exact absurd h (by simp [P.mag_divWord.l0])
  | succ m5 =>
    simp only [P.mag_divWord.l0] at h
    refine simL_step (sim_seq (sim_seq (sim_region ?_)))
    iterate 2 refine o1 ?_
    refine sim_ops_nil ?_
    refine sim_cond rfl (fun hb => ?_) (fun hb => ?_)
    · skip
      obtain ⟨c6, h⟩ := tkT h hb
      have g7 := hb
      clear hb
      obtain ⟨q8, h⟩ := ite_none h
      obtain ⟨q9, h⟩ := ite_none h
      obtain ⟨q10, h⟩ := ite_none2 h
      obtain ⟨q11, h⟩ := ite_none h
      refine sim_skip (sim_seq (sim_block (sim_seq (sim_region ?_))))
      iterate 9 refine o1 ?_
      refine sim_ops_nil (sim_seq (sim_region ?_))
      iterate 9 refine o1 ?_
      refine sim_ops_nil (sim_region ?_)
      iterate 5 refine o1 ?_
      refine sim_ops_nil (sim_region ?_)
      iterate 3 refine o1 ?_
      refine sim_ops_nil ?_
      exact simL_again (ih4 m5 (by omega) (_, _, _, _, _, ()) h) ⟨rfl, rfl, rfl, rfl, rfl, trivial⟩ ⟨rfl, trivial⟩ rfl
    · skip
      obtain ⟨c12, h⟩ := tkF h hb
      have g13 := hb
      clear hb
      refine sim_exit (sim_seq ?_)
      refine sim_weak (rel_freeze (k := 11) rfl) ?_
      refine sim_region ?_
      refine o1 ?_
      obtain ⟨t14, ht15, h⟩ := Option.bind_eq_some_iff.1 h
      refine opC (mag_Trim.v _ _ _ ht15) ?_
      iterate 4 refine o1 ?_
      refine sim_ops_nil ?_
      obtain rfl := Option.some.inj h
      exact sim_ret ⟨.inl rfl, .two (.tmp rt) (.tmp rt) rfl rfl⟩
instance : FN Tryz.prog 137 := ⟨⟨_, Tryz.func137, by decide, by simp [Tryz.f137]⟩⟩
set_option maxRecDepth 100000 in
set_option maxHeartbeats 4000000 in
theorem bits_Len32.v (a0 : Int) (r : Int) (h : P.bits_Len32.f a0 = some r) : Fn Tryz.prog 137 [.int .u32 a0] (.int .i64 r) := by
  refine fn_of_sim Tryz.func137 rfl (Nat.le_of_ble_eq_true rfl) ?_
  intro X hX
  unfold P.bits_Len32.f at h
  refine sim_seq (sim_region ?_)
  refine o1 ?_
  refine sim_ops_nil (sim_seq (sim_seq (sim_region ?_)))
  iterate 2 refine o1 ?_
  refine sim_ops_nil ?_
  refine sim_cond rfl (fun hb => ?_) (fun hb => ?_)
  · skip
    obtain ⟨c1, h⟩ := tkT h hb
    have g2 := hb
    clear hb
    refine sim_seq (sim_region ?_)
    iterate 3 refine o1 ?_
    refine sim_ops_nil (sim_region ?_)
    refine o1 ?_
    refine sim_ops_nil (sim_seq (sim_seq (sim_region ?_)))
    iterate 2 refine o1 ?_
    refine sim_ops_nil ?_
    refine sim_cond rfl (fun hb => ?_) (fun hb => ?_)
    · skip
      obtain ⟨c3, h⟩ := tkT h hb
      have g4 := hb
      clear hb
      obtain ⟨q5, h⟩ := ite_none h
      obtain ⟨q6, h⟩ := ite_none h
      refine sim_seq (sim_region ?_)
      iterate 3 refine o1 ?_
      refine sim_ops_nil (sim_region ?_)
      iterate 3 refine o1 ?_
      refine sim_ops_nil (sim_seq (sim_region ?_))
      iterate 7 refine o1 ?_
      refine sim_ops_nil ?_
      obtain rfl := Option.some.inj h
      exact sim_ret ⟨.inl rfl, .one (.tmp rt) rfl⟩
    · skip
      obtain ⟨c7, h⟩ := tkF h hb
      have g8 := hb
      clear hb
      obtain ⟨q9, h⟩ := ite_none h
      obtain ⟨q10, h⟩ := ite_none h
      refine sim_skip (sim_seq (sim_region ?_))
      iterate 7 refine o1 ?_
      refine sim_ops_nil ?_
      obtain rfl := Option.some.inj h
      exact sim_ret ⟨.inl rfl, .one (.tmp rt) rfl⟩
  · skip
    obtain ⟨c11, h⟩ := tkF h hb
    have g12 := hb
    clear hb
    refine sim_skip (sim_seq (sim_seq (sim_region ?_)))
    iterate 2 refine o1 ?_
    refine sim_ops_nil ?_
    refine sim_cond rfl (fun hb => ?_) (fun hb => ?_)
    · skip
      obtain ⟨c13, h⟩ := tkT h hb
      have g14 := hb
      clear hb
      obtain ⟨q15, h⟩ := ite_none h
      obtain ⟨q16, h⟩ := ite_none h
      refine sim_seq (sim_region ?_)
      iterate 3 refine o1 ?_
      refine sim_ops_nil (sim_region ?_)
      iterate 3 refine o1 ?_
      refine sim_ops_nil (sim_seq (sim_region ?_))
      iterate 7 refine o1 ?_
      refine sim_ops_nil ?_
      obtain rfl := Option.some.inj h
      exact sim_ret ⟨.inl rfl, .one (.tmp rt) rfl⟩
    · skip
      obtain ⟨c17, h⟩ := tkF h hb
      have g18 := hb
      clear hb
      obtain ⟨q19, h⟩ := ite_none h
      obtain ⟨q20, h⟩ := ite_none h
      refine sim_skip (sim_seq (sim_region ?_))
      iterate 7 refine o1 ?_
      refine sim_ops_nil ?_
      obtain rfl := Option.some.inj h
      exact sim_ret ⟨.inl rfl, .one (.tmp rt) rfl⟩
instance : FN Tryz.prog 128 := ⟨⟨_, Tryz.func128, by decide, by simp [Tryz.f128]⟩⟩
set_option maxRecDepth 100000 in
set_option maxHeartbeats 4000000 in
theorem bits_LeadingZeros32.v (a0 : Int) (r : Int) (h : P.bits_LeadingZeros32.f a0 = some r) : Fn Tryz.prog 128 [.int .u32 a0] (.int .i64 r) := by
  refine fn_of_sim Tryz.func128 rfl (Nat.le_of_ble_eq_true rfl) ?_
  intro X hX
  unfold P.bits_LeadingZeros32.f at h
  refine sim_seq (sim_region ?_)
  refine o1 ?_
  refine sim_ops_nil (sim_seq (sim_region ?_))
  refine o1 ?_
  obtain ⟨t1, ht2, h⟩ := Option.bind_eq_some_iff.1 h
  refine opC (bits_Len32.v _ _ ht2) ?_
  iterate 2 refine o1 ?_
  refine sim_ops_nil ?_
  obtain rfl := Option.some.inj h
  exact sim_ret ⟨.inl rfl, .one (.tmp rt) rfl⟩
instance : FN Tryz.prog 129 := ⟨⟨_, Tryz.func129, by decide, by simp [Tryz.f129]⟩⟩
set_option maxRecDepth 100000 in
set_option maxHeartbeats 4000000 in
theorem mag_Shl.v (k : Nat) (l0 : List Int) (a1 : Int) (r : List Int) (h : P.mag_Shl.f k l0 a1 = some r) : Fn Tryz.prog 129 [.ints .u32 l0, .int .i64 a1] (.ints .u32 r) := by
  refine fn_of_sim Tryz.func129 rfl (Nat.le_of_ble_eq_true rfl) ?_
  intro X hX
  unfold P.mag_Shl.f at h
  refine sim_seq (sim_region ?_)
  refine o1 ?_
  refine sim_ops_nil (sim_seq (sim_seq (sim_region ?_)))
  iterate 3 refine o1 ?_
  refine sim_ops_nil ?_
  refine sim_cond rfl (fun hb => ?_) (fun hb => ?_)
  · skip
    obtain ⟨c1, h⟩ := tkT h hb
    have g2 := hb
    clear hb
    refine sim_seq (sim_region ?_)
    refine o1 ?_
    refine sim_ops_nil ?_
    obtain rfl := Option.some.inj h
    exact sim_ret ⟨.inl rfl, .one (.tmp rt) rfl⟩
  · skip
    obtain ⟨c3, h⟩ := tkF h hb
    have g4 := hb
    clear hb
    obtain ⟨q5, h⟩ := ite_none h
    obtain ⟨q6, h⟩ := ite_none h
    refine sim_skip (sim_seq (sim_region ?_))
    iterate 7 refine o1 ?_
    refine sim_ops_nil (sim_seq (sim_region ?_))
    iterate 7 refine o1 ?_
    refine sim_ops_nil (sim_seq (sim_seq (sim_region ?_)))
    iterate 3 refine o1 ?_
    refine sim_ops_nil (sim_block (sim_loop ?_))
    refine simL_ind (D := Int × Int × List Int × List Int × Int × Int × Unit) (fun d => ⟨look [(5, .int .i64 d.1), (6, .int .u64 d.2.1), (7, .own 24), (25, .ints .u32 d.2.2.2.1), (26, .int .i64 d.2.2.2.2.1), (27, .int .i64 d.2.2.2.2.2.1)], look [(24, rowI 105 .u32 d.2.2.1)]⟩) (fun K_ d => P.mag_Shl.l0 K_ d.1 d.2.1 d.2.2.1 d.2.2.2.1 d.2.2.2.2.1 d.2.2.2.2.2.1 = some r ∧ 0 ≤ d.2.1) ?_ _ (_, _, _, _, _, _, ()) ⟨h, nv⟩ (rel_look _ _ ⟨rfl, rfl, rfl, rfl, rfl, rfl, trivial⟩ ⟨rfl, trivial⟩ rfl)
    intro K7 ih8 d h
    obtain ⟨h, b10⟩ := h
    obtain ⟨x5, x6, x7, x25, x26, x27, _⟩ := d
    dsimp only at h b10 ⊢
    cases K7 with
    | zero => exact absurd h (by simp [P.mag_Shl.l0])
    | succ m9 =>
      simp only [P.mag_Shl.l0] at h
      refine simL_step (sim_seq (sim_region ?_))
      refine o1 ?_
      refine sim_ops_nil (sim_seq ?_)
      refine sim_cond rfl (fun hb => ?_) (fun hb => ?_)
      · skip
        obtain ⟨c11, h⟩ := tkT h hb
        have g12 := hb
        clear hb
        obtain ⟨q13, h⟩ := ite_none h
        obtain ⟨q14, h⟩ := ite_none h
        obtain ⟨q15, h⟩ := ite_none h
        obtain ⟨q16, h⟩ := ite_none h
        obtain ⟨q17, h⟩ := ite_none h
        obtain ⟨q18, h⟩ := ite_none h
        obtain ⟨q19, h⟩ := ite_none h
        refine sim_skip (sim_seq (sim_block (sim_seq (sim_region ?_))))
        iterate 5 refine o1 ?_
        refine sim_ops_nil (sim_seq (sim_region ?_))
        iterate 5 refine o1 ?_
        refine sim_ops_nil (sim_seq (sim_region ?_))
        iterate 11 refine o1 ?_
        refine sim_ops_nil (sim_region ?_)
        iterate 10 refine o1 ?_
        refine sim_ops_nil (sim_region ?_)
        iterate 2 refine o1 ?_
        refine sim_ops_nil ?_
        exact simL_again (ih8 m9 (by omega) (_, _, _, _, _, _, ()) ⟨h, nv⟩) ⟨rfl, rfl, rfl, rfl, rfl, rfl, trivial⟩ ⟨rfl, trivial⟩ rfl
      · skip
        obtain ⟨c20, h⟩ := tkF h hb
        have g21 := hb
        clear hb
        refine sim_exit (sim_seq ?_)
        refine sim_weak (rel_freeze (k := 24) rfl) ?_
        refine sim_region ?_
        refine o1 ?_
        obtain ⟨t22, ht23, h⟩ := Option.bind_eq_some_iff.1 h
        refine opC (mag_Trim.v _ _ _ ht23) ?_
        refine o1 ?_
        refine sim_ops_nil ?_
        obtain rfl := Option.some.inj h
        exact sim_ret ⟨.inl rfl, .one (.tmp rt) rfl⟩
instance : FN Tryz.prog 130 := ⟨⟨_, Tryz.func130, by decide, by simp [Tryz.f130]⟩⟩
set_option maxRecDepth 100000 in
set_option maxHeartbeats 4000000 in
theorem mag_subtract.v {pre post : List Int} {e_ : TypeId} (k : Nat) (l0 : List Int) (l1 : List Int) (a2 : Int) (r : Bool × List Int) (h : P.mag_subtract.f k l0 l1 a2 = some r) : FnW Tryz.prog 130 [.win lent pre.length l0.length, .ints .u32 l1, .int .u64 a2] (rowI e_ .u32 (pre ++ l0 ++ post)) (.bool r.1) (rowI e_ .u32 (pre ++ r.2 ++ post)) := by
  refine fnW_of_sim Tryz.func130 rfl (Nat.le_of_ble_eq_true rfl) rfl ?_
  intro X hX
  unfold P.mag_subtract.f at h
  refine sim_seq (sim_region ?_)
  refine o1 ?_
  refine sim_ops_nil (sim_seq (sim_region ?_))
  iterate 2 refine o1 ?_
  refine sim_ops_nil (sim_seq (sim_seq (sim_region ?_)))
  iterate 3 refine o1 ?_
  refine sim_ops_nil (sim_block (sim_loop ?_))
  refine simL_ind (D := List Int × List Int × Int × Int × Int × List Int × Int × Int × Unit) (fun d => ⟨look [(0, .win lent pre.length l0.length), (1, .ints .u32 d.2.1), (2, .int .u64 d.2.2.1), (7, .int .u64 d.2.2.2.1), (8, .int .u64 d.2.2.2.2.1), (13, .ints .u32 d.2.2.2.2.2.1), (14, .int .i64 d.2.2.2.2.2.2.1), (15, .int .i64 d.2.2.2.2.2.2.2.1)], look [(lent, rowI e_ .u32 (pre ++ d.1 ++ post))]⟩) (fun K_ d => P.mag_subtract.l0 K_ d.1 d.2.1 d.2.2.1 d.2.2.2.1 d.2.2.2.2.1 d.2.2.2.2.2.1 d.2.2.2.2.2.2.1 d.2.2.2.2.2.2.2.1 = some r ∧ d.1.length = l0.length) ?_ _ (_, _, _, _, _, _, _, _, ()) ⟨h, nv⟩ (rel_look _ _ ⟨rfl, rfl, rfl, rfl, rfl, rfl, rfl, rfl, trivial⟩ ⟨rfl, trivial⟩ rfl)
  intro K1 ih2 d h
  obtain ⟨h, b4⟩ := h
  obtain ⟨x0, x1, x2, x7, x8, x13, x14, x15, _⟩ := d
  dsimp only at h b4 ⊢
  cases K1 with
  | zero => exact absurd h (by simp [P.mag_subtract.l0])
  | succ m3 =>
    simp only [P.mag_subtract.l0] at h
    refine simL_step (sim_seq (sim_region ?_))
    refine o1 ?_
    refine sim_ops_nil (sim_seq ?_)
    refine sim_cond rfl (fun hb => ?_) (fun hb => ?_)
    · skip
      obtain ⟨c5, h⟩ := tkT h hb
      have g6 := hb
      clear hb
      obtain ⟨q7, h⟩ := ite_none h
      obtain ⟨q8, h⟩ := ite_none h
      obtain ⟨q9, h⟩ := ite_none h
      refine sim_skip (sim_seq (sim_block (sim_seq (sim_region ?_))))
      iterate 5 refine o1 ?_
      refine sim_ops_nil (sim_seq (sim_region ?_))
      iterate 7 refine o1 ?_
      refine sim_ops_nil (sim_seq (sim_region ?_))
      iterate 12 refine o1 ?_
      refine sim_ops_nil (sim_seq (sim_region ?_))
      iterate 6 refine o1 ?_
      refine sim_ops_nil (sim_seq (sim_region ?_))
      iterate 3 refine o1 ?_
      refine sim_ops_nil (sim_region ?_)
      iterate 3 refine o1 ?_
      refine sim_ops_nil (sim_region ?_)
      iterate 2 refine o1 ?_
      refine sim_ops_nil ?_
      exact simL_again (ih2 m3 (by omega) (_, _, _, _, _, _, _, _, ()) ⟨h, nv⟩) ⟨rfl, rfl, rfl, rfl, rfl, rfl, rfl, rfl, trivial⟩ ⟨rfl, trivial⟩ rfl
    · skip
      obtain ⟨c10, h⟩ := tkF h hb
      have g11 := hb
      clear hb
      obtain ⟨q12, h⟩ := ite_none h
      obtain ⟨q13, h⟩ := ite_none h
      refine sim_exit (sim_seq (sim_region ?_))
      iterate 11 refine o1 ?_
      refine sim_ops_nil (sim_seq (sim_region ?_))
      iterate 7 refine o1 ?_
      refine sim_ops_nil (sim_seq (sim_region ?_))
      iterate 4 refine o1 ?_
      refine sim_ops_nil ?_
      obtain rfl := Option.some.inj h
      exact sim_ret ⟨.inl rfl, .one (.tmp rt) rfl, rfl⟩
theorem mag_subtract.len (k : Nat) : ∀ x0 x1 x2 x7 x8 x13 x14 x15 (r : Bool × List Int), P.mag_subtract.l0 k x0 x1 x2 x7 x8 x13 x14 x15 = some r → r.2.length = x0.length := by
  induction k with
  | zero => intro x0 x1 x2 x7 x8 x13 x14 x15 r h; simp [P.mag_subtract.l0] at h
  | succ k ih =>
    intro x0 x1 x2 x7 x8 x13 x14 x15 r h
    simp only [P.mag_subtract.l0] at h
    repeat' split at h
    all_goals first
      | (cases h; done)
      | (have := ih _ _ _ _ _ _ _ _  _ h; simpa using this)
      | (cases h; simp)
theorem mag_subtractAt.len {k : Nat} {l : List Int} {b1 b2 : Int} {l1 : List Int} {a2 : Int} {r : Bool × List Int} (h : P.mag_subtractAt.f k l b1 b2 l1 a2 = some r) (h0 : 0 ≤ b1) (h1 : b1 ≤ b2) (h2 : b2 ≤ l.length) : r.2.length = l.length := by
  unfold P.mag_subtractAt.f at h
  obtain ⟨p, h3, h4⟩ := Option.bind_eq_some_iff.1 h
  obtain rfl := Option.some.inj h4
  have := mag_subtract.len _ _ _ _ _ _ _ _ _  _ h3
  simp only [List.length_append, List.length_take, List.length_drop] at this ⊢
  omega
theorem mag_subtractAt.v {e_ : TypeId} {k : Nat} {l : List Int} {b1 b2 : Int} {l1 : List Int} {a2 : Int} {r : Bool × List Int} (h : P.mag_subtractAt.f k l b1 b2 l1 a2 = some r) (h0 : 0 ≤ b1) (h1 : b1 ≤ b2) (h2 : b2 ≤ l.length) : FnW Tryz.prog 130 [.win lent b1.toNat (b2.toNat - b1.toNat), .ints .u32 l1, .int .u64 a2] (rowI e_ .u32 l) (.bool r.1) (rowI e_ .u32 r.2) := by
  unfold P.mag_subtractAt.f at h
  obtain ⟨p, h3, h4⟩ := Option.bind_eq_some_iff.1 h
  obtain rfl := Option.some.inj h4
  have := mag_subtract.v (pre := l.take b1.toNat) (post := l.drop b2.toNat) (e_ := e_) k _ l1 a2 p h3
  have e1 : l.take b1.toNat ++ (l.take b2.toNat).drop b1.toNat ++ l.drop b2.toNat = l := by
    have : l.take b1.toNat = (l.take b2.toNat).take b1.toNat := by rw [List.take_take, Nat.min_eq_left (by omega)]
    rw [this, List.take_append_drop, List.take_append_drop]
  have e2 : (l.take b1.toNat).length = b1.toNat := by rw [List.length_take]; omega
  have e3 : ((l.take b2.toNat).drop b1.toNat).length = b2.toNat - b1.toNat := by rw [List.length_drop, List.length_take]; omega
  rw [e1, e2, e3] at this
  exact this
instance : FN Tryz.prog 131 := ⟨⟨_, Tryz.func131, by decide, by simp [Tryz.f131]⟩⟩
set_option maxRecDepth 100000 in
set_option maxHeartbeats 4000000 in
theorem mag_restore.v {pre post : List Int} {e_ : TypeId} (k : Nat) (l0 : List Int) (l1 : List Int) (r : List Int) (h : P.mag_restore.f k l0 l1 = some r) : FnW Tryz.prog 131 [.win lent pre.length l0.length, .ints .u32 l1] (rowI e_ .u32 (pre ++ l0 ++ post)) (.tup []) (rowI e_ .u32 (pre ++ r ++ post)) := by
  refine fnW_of_sim Tryz.func131 rfl (Nat.le_of_ble_eq_true rfl) rfl ?_
  intro X hX
  unfold P.mag_restore.f at h
  refine sim_seq (sim_region ?_)
  refine o1 ?_
  refine sim_ops_nil (sim_seq (sim_seq (sim_region ?_)))
  iterate 3 refine o1 ?_
  refine sim_ops_nil (sim_block (sim_loop ?_))
  refine simL_ind (D := List Int × List Int × Int × List Int × Int × Int × Unit) (fun d => ⟨look [(0, .win lent pre.length l0.length), (1, .ints .u32 d.2.1), (4, .int .u64 d.2.2.1), (7, .ints .u32 d.2.2.2.1), (8, .int .i64 d.2.2.2.2.1), (9, .int .i64 d.2.2.2.2.2.1)], look [(lent, rowI e_ .u32 (pre ++ d.1 ++ post))]⟩) (fun K_ d => P.mag_restore.l0 K_ d.1 d.2.1 d.2.2.1 d.2.2.2.1 d.2.2.2.2.1 d.2.2.2.2.2.1 = some r ∧ d.1.length = l0.length) ?_ _ (_, _, _, _, _, _, ()) ⟨h, nv⟩ (rel_look _ _ ⟨rfl, rfl, rfl, rfl, rfl, rfl, trivial⟩ ⟨rfl, trivial⟩ rfl)
  intro K1 ih2 d h
  obtain ⟨h, b4⟩ := h
  obtain ⟨x0, x1, x4, x7, x8, x9, _⟩ := d
  dsimp only at h b4 ⊢
  cases K1 with
  | zero => exact absurd h (by simp [P.mag_restore.l0])
  | succ m3 =>
    simp only [P.mag_restore.l0] at h
    refine simL_step (sim_seq (sim_region ?_))
    refine o1 ?_
    refine sim_ops_nil (sim_seq ?_)
    refine sim_cond rfl (fun hb => ?_) (fun hb => ?_)
    · skip
      obtain ⟨c5, h⟩ := tkT h hb
      have g6 := hb
      clear hb
      obtain ⟨q7, h⟩ := ite_none h
      obtain ⟨q8, h⟩ := ite_none h
      obtain ⟨q9, h⟩ := ite_none h
      refine sim_skip (sim_seq (sim_block (sim_seq (sim_region ?_))))
      iterate 5 refine o1 ?_
      refine sim_ops_nil (sim_seq (sim_region ?_))
      iterate 11 refine o1 ?_
      refine sim_ops_nil (sim_seq (sim_region ?_))
      iterate 6 refine o1 ?_
      refine sim_ops_nil (sim_region ?_)
      iterate 3 refine o1 ?_
      refine sim_ops_nil (sim_region ?_)
      iterate 2 refine o1 ?_
      refine sim_ops_nil ?_
      exact simL_again (ih2 m3 (by omega) (_, _, _, _, _, _, ()) ⟨h, nv⟩) ⟨rfl, rfl, rfl, rfl, rfl, rfl, trivial⟩ ⟨rfl, trivial⟩ rfl
    · skip
      obtain ⟨c10, h⟩ := tkF h hb
      have g11 := hb
      clear hb
      obtain ⟨q12, h⟩ := ite_none h
      obtain ⟨q13, h⟩ := ite_none h
      refine sim_exit (sim_region ?_)
      iterate 10 refine o1 ?_
      refine sim_ops_nil ?_
      obtain rfl := Option.some.inj h
      exact ⟨.inr rfl, .zero, rfl⟩
theorem mag_restore.len (k : Nat) : ∀ x0 x1 x4 x7 x8 x9 (r : List Int), P.mag_restore.l0 k x0 x1 x4 x7 x8 x9 = some r → r.length = x0.length := by
  induction k with
  | zero => intro x0 x1 x4 x7 x8 x9 r h; simp [P.mag_restore.l0] at h
  | succ k ih =>
    intro x0 x1 x4 x7 x8 x9 r h
    simp only [P.mag_restore.l0] at h
    repeat' split at h
    all_goals first
      | (cases h; done)
      | (have := ih _ _ _ _ _ _  _ h; simpa using this)
      | (cases h; simp)
theorem mag_restoreAt.len {k : Nat} {l : List Int} {b1 b2 : Int} {l1 : List Int} {r : List Int} (h : P.mag_restoreAt.f k l b1 b2 l1 = some r) (h0 : 0 ≤ b1) (h1 : b1 ≤ b2) (h2 : b2 ≤ l.length) : r.length = l.length := by
  unfold P.mag_restoreAt.f at h
  obtain ⟨p, h3, h4⟩ := Option.bind_eq_some_iff.1 h
  obtain rfl := Option.some.inj h4
  have := mag_restore.len _ _ _ _ _ _ _  _ h3
  simp only [List.length_append, List.length_take, List.length_drop] at this ⊢
  omega
theorem mag_restoreAt.v {e_ : TypeId} {k : Nat} {l : List Int} {b1 b2 : Int} {l1 : List Int} {r : List Int} (h : P.mag_restoreAt.f k l b1 b2 l1 = some r) (h0 : 0 ≤ b1) (h1 : b1 ≤ b2) (h2 : b2 ≤ l.length) : FnW Tryz.prog 131 [.win lent b1.toNat (b2.toNat - b1.toNat), .ints .u32 l1] (rowI e_ .u32 l) (.tup []) (rowI e_ .u32 r) := by
  unfold P.mag_restoreAt.f at h
  obtain ⟨p, h3, h4⟩ := Option.bind_eq_some_iff.1 h
  obtain rfl := Option.some.inj h4
  have := mag_restore.v (pre := l.take b1.toNat) (post := l.drop b2.toNat) (e_ := e_) k _ l1 p h3
  have e1 : l.take b1.toNat ++ (l.take b2.toNat).drop b1.toNat ++ l.drop b2.toNat = l := by
    have : l.take b1.toNat = (l.take b2.toNat).take b1.toNat := by rw [List.take_take, Nat.min_eq_left (by omega)]
    rw [this, List.take_append_drop, List.take_append_drop]
  have e2 : (l.take b1.toNat).length = b1.toNat := by rw [List.length_take]; omega
  have e3 : ((l.take b2.toNat).drop b1.toNat).length = b2.toNat - b1.toNat := by rw [List.length_drop, List.length_take]; omega
  rw [e1, e2, e3] at this
  exact this
instance : FN Tryz.prog 132 := ⟨⟨_, Tryz.func132, by decide, by simp [Tryz.f132]⟩⟩
set_option maxRecDepth 100000 in
set_option maxHeartbeats 4000000 in
theorem mag_Shr.v (k : Nat) (l0 : List Int) (a1 : Int) (r : List Int) (h : P.mag_Shr.f k l0 a1 = some r) : Fn Tryz.prog 132 [.ints .u32 l0, .int .i64 a1] (.ints .u32 r) := by
  refine fn_of_sim Tryz.func132 rfl (Nat.le_of_ble_eq_true rfl) ?_
  intro X hX
  unfold P.mag_Shr.f at h
  refine sim_seq (sim_region ?_)
  refine o1 ?_
  refine sim_ops_nil (sim_seq (sim_region ?_))
  iterate 7 refine o1 ?_
  refine sim_ops_nil (sim_seq (sim_seq (sim_region ?_)))
  iterate 4 refine o1 ?_
  refine sim_ops_nil ?_
  refine sim_cond rfl (fun hb => ?_) (fun hb => ?_)
  · skip
    obtain ⟨c1, h⟩ := tkT h hb
    have g2 := hb
    clear hb
    refine sim_seq (sim_region ?_)
    refine o1 ?_
    refine sim_ops_nil ?_
    obtain rfl := Option.some.inj h
    exact sim_ret ⟨.inl rfl, .one (.tmp rt) rfl⟩
  · skip
    obtain ⟨c3, h⟩ := tkF h hb
    have g4 := hb
    clear hb
    obtain ⟨q5, h⟩ := ite_none h
    obtain ⟨q6, h⟩ := ite_none h
    replace h := bsome h
    refine sim_skip (sim_seq (sim_region ?_))
    iterate 6 refine o1 ?_
    refine sim_ops_nil (sim_seq (sim_seq (sim_region ?_)))
    iterate 3 refine o1 ?_
    refine sim_ops_nil (sim_block (sim_loop ?_))
    refine simL_ind (D := List Int × Int × Int × List Int × Int × Int × Unit) (fun d => ⟨look [(0, .ints .u32 d.1), (5, .int .i64 d.2.1), (6, .int .u64 d.2.2.1), (7, .own 23), (25, .int .i64 d.2.2.2.2.1), (26, .int .i64 d.2.2.2.2.2.1)], look [(23, rowI 105 .u32 d.2.2.2.1)]⟩) (fun K_ d => P.mag_Shr.l0 K_ d.1 d.2.1 d.2.2.1 d.2.2.2.1 d.2.2.2.2.1 d.2.2.2.2.2.1 = some r ∧ 0 ≤ d.2.2.1) ?_ _ (_, _, _, _, _, _, ()) ⟨h, nv⟩ (rel_look _ _ ⟨rfl, rfl, rfl, rfl, rfl, rfl, trivial⟩ ⟨rfl, trivial⟩ rfl)
    intro K7 ih8 d h
    obtain ⟨h, b10⟩ := h
    obtain ⟨x0, x5, x6, x7, x25, x26, _⟩ := d
    dsimp only at h b10 ⊢
    cases K7 with
    | zero => exact absurd h (by simp [P.mag_Shr.l0])
    | succ m9 =>
      simp only [P.mag_Shr.l0] at h
      refine simL_step (sim_seq (sim_region ?_))
      refine o1 ?_
      refine sim_ops_nil (sim_seq ?_)
      refine sim_cond rfl (fun hb => ?_) (fun hb => ?_)
      · skip
        obtain ⟨c11, h⟩ := tkT h hb
        have g12 := hb
        clear hb
        obtain ⟨q13, h⟩ := ite_none h
        obtain ⟨q14, h⟩ := ite_none h
        refine sim_skip (sim_seq (sim_block (sim_seq (sim_region ?_))))
        iterate 2 refine o1 ?_
        refine sim_ops_nil (sim_seq (sim_region ?_))
        iterate 8 refine o1 ?_
        refine sim_ops_nil (sim_seq (sim_seq (sim_region ?_)))
        iterate 7 refine o1 ?_
        refine sim_ops_nil ?_
        refine sim_cond rfl (fun hb => ?_) (fun hb => ?_)
        · skip
          obtain ⟨c15, h⟩ := tkT h hb
          have g16 := hb
          clear hb
          obtain ⟨q17, h⟩ := ite_none h
          obtain ⟨q18, h⟩ := ite_none h
          obtain ⟨q19, h⟩ := ite_none h
          obtain ⟨q20, h⟩ := ite_none h
          refine sim_region ?_
          iterate 12 refine o1 ?_
          refine sim_ops_nil (sim_region ?_)
          iterate 8 refine o1 ?_
          refine sim_ops_nil (sim_region ?_)
          iterate 2 refine o1 ?_
          refine sim_ops_nil ?_
          exact simL_again (ih8 m9 (by omega) (_, _, _, _, _, _, ()) ⟨h, nv⟩) ⟨rfl, rfl, rfl, rfl, rfl, rfl, trivial⟩ ⟨rfl, trivial⟩ rfl
        · skip
          obtain ⟨c21, h⟩ := tkF h hb
          have g22 := hb
          clear hb
          obtain ⟨q23, h⟩ := ite_none h
          obtain ⟨q24, h⟩ := ite_none h
          obtain ⟨q25, h⟩ := ite_none h
          refine sim_skip (sim_region ?_)
          iterate 8 refine o1 ?_
          refine sim_ops_nil (sim_region ?_)
          iterate 2 refine o1 ?_
          refine sim_ops_nil ?_
          exact simL_again (ih8 m9 (by omega) (_, _, _, _, _, _, ()) ⟨h, nv⟩) ⟨rfl, rfl, rfl, rfl, rfl, rfl, trivial⟩ ⟨rfl, trivial⟩ rfl
      · skip
        obtain ⟨c26, h⟩ := tkF h hb
        have g27 := hb
        clear hb
        refine sim_exit (sim_seq ?_)
        refine sim_weak (rel_freeze (k := 23) rfl) ?_
        refine sim_region ?_
        refine o1 ?_
        obtain ⟨t28, ht29, h⟩ := Option.bind_eq_some_iff.1 h
        refine opC (mag_Trim.v _ _ _ ht29) ?_
        refine o1 ?_
        refine sim_ops_nil ?_
        obtain rfl := Option.some.inj h
        exact sim_ret ⟨.inl rfl, .one (.tmp rt) rfl⟩
instance : FN Tryz.prog 117 := ⟨⟨_, Tryz.func117, by decide, by simp [Tryz.f117]⟩⟩
set_option maxRecDepth 100000 in
set_option maxHeartbeats 4000000 in
theorem mag_DivMod.v (k : Nat) (l0 : List Int) (l1 : List Int) (r : List Int × List Int) (h : P.mag_DivMod.f k l0 l1 = some r) : Fn Tryz.prog 117 [.ints .u32 l0, .ints .u32 l1] (.tup [.ints .u32 r.1, .ints .u32 r.2]) := by
  refine fn_of_sim Tryz.func117 rfl (Nat.le_of_ble_eq_true rfl) ?_
  intro X hX
  unfold P.mag_DivMod.f at h
  refine sim_seq (sim_region ?_)
  refine sim_ops_cons rfl (x_none 105 .u32 (.inr rfl) rfl rfl (ib hX (by decide))) ?_
  refine o1 ?_
  refine sim_ops_nil (sim_seq (sim_seq (sim_region ?_)))
  iterate 2 refine o1 ?_
  obtain ⟨t1, ht2, h⟩ := Option.bind_eq_some_iff.1 h
  refine opC (mag_Cmp.v _ _ _ _ ht2) ?_
  refine o1 ?_
  refine sim_ops_nil ?_
  refine sim_cond rfl (fun hb => ?_) (fun hb => ?_)
  · skip
    obtain ⟨c3, h⟩ := tkT h hb
    have g4 := hb
    clear hb
    obtain ⟨q5, h⟩ := ite_none h
    refine sim_seq (sim_region ?_)
    iterate 4 refine o1 ?_
    refine sim_ops_nil ?_
    obtain rfl := Option.some.inj h
    exact sim_ret ⟨.inl rfl, .two (.tmp rt) (.tmp rt) rfl rfl⟩
  · skip
    obtain ⟨c6, h⟩ := tkF h hb
    have g7 := hb
    clear hb
    refine sim_skip (sim_seq (sim_seq (sim_region ?_)))
    iterate 3 refine o1 ?_
    refine sim_ops_nil ?_
    refine sim_cond rfl (fun hb => ?_) (fun hb => ?_)
    · skip
      obtain ⟨c8, h⟩ := tkT h hb
      have g9 := hb
      clear hb
      obtain ⟨q10, h⟩ := ite_none h
      refine sim_seq (sim_region ?_)
      iterate 4 refine o1 ?_
      obtain ⟨t11, ht12, h⟩ := Option.bind_eq_some_iff.1 h
      refine opC (mag_divWord.v _ _ _ _ ht12) ?_
      iterate 5 refine o1 ?_
      refine sim_ops_nil (sim_seq (sim_region ?_))
      iterate 3 refine o1 ?_
      obtain ⟨t13, ht14, h⟩ := Option.bind_eq_some_iff.1 h
      refine opC (mag_From.v _ _ _ ht14) ?_
      iterate 2 refine o1 ?_
      refine sim_ops_nil ?_
      obtain rfl := Option.some.inj h
      exact sim_ret ⟨.inl rfl, .two (.tmp rt) (.tmp rt) rfl rfl⟩
    · skip
      obtain ⟨c15, h⟩ := tkF h hb
      have g16 := hb
      clear hb
      obtain ⟨q17, h⟩ := ite_none h
      obtain ⟨q18, h⟩ := ite_none h
      refine sim_skip (sim_seq (sim_region ?_))
      iterate 6 refine o1 ?_
      obtain ⟨t19, ht20, h⟩ := Option.bind_eq_some_iff.1 h
      refine opC (bits_LeadingZeros32.v _ _ ht20) ?_
      refine o1 ?_
      refine sim_ops_nil (sim_seq (sim_region ?_))
      iterate 2 refine o1 ?_
      obtain ⟨t21, ht22, h⟩ := Option.bind_eq_some_iff.1 h
      refine opC (mag_Shl.v _ _ _ _ ht22) ?_
      obtain ⟨q23, h⟩ := ite_none h
      obtain ⟨q24, h⟩ := ite_none h
      replace h := bsome h
      refine o1 ?_
      refine sim_ops_nil (sim_seq (sim_region ?_))
      iterate 5 refine o1 ?_
      refine sim_ops_nil (sim_seq (sim_region ?_))
      iterate 3 refine o1 ?_
      obtain ⟨t25, ht26, h⟩ := Option.bind_eq_some_iff.1 h
      refine opC (mag_Shl.v _ _ _ _ ht26) ?_
      obtain ⟨q27, h⟩ := ite_none h
      obtain ⟨q28, h⟩ := ite_none h
      obtain ⟨q29, h⟩ := ite_none h
      obtain ⟨q30, h⟩ := ite_none h
      obtain ⟨q31, h⟩ := ite_none h
      obtain ⟨q32, h⟩ := ite_none h
      refine o1 ?_
      refine sim_ops_nil (sim_seq (sim_region ?_))
      iterate 3 refine o1 ?_
      refine sim_ops_nil (sim_seq (sim_region ?_))
      iterate 6 refine o1 ?_
      refine sim_ops_nil (sim_seq (sim_still ?_))
      iterate 14 refine s1 ?_
      refine st_nil (sim_seq (sim_seq (sim_region ?_)))
      iterate 6 refine o1 ?_
      refine sim_ops_nil (sim_block (sim_loop ?_))
      refine simL_ind (D := List Int × Int × List Int × List Int × Int × Int × Int × Int × Unit) (fun d => ⟨look [(4, .own 64), (8, .int .i64 d.2.1), (9, .ints .u32 d.2.2.1), (10, .own 52), (11, .int .i64 d.2.2.2.2.1), (12, .int .u64 d.2.2.2.2.2.1), (13, .int .u64 d.2.2.2.2.2.2.1), (14, .int .i64 d.2.2.2.2.2.2.2.1)], look [(64, rowI 105 .u32 d.1), (52, rowI 105 .u32 d.2.2.2.1)]⟩) (fun K_ d => P.mag_DivMod.l0 K_ d.1 d.2.1 d.2.2.1 d.2.2.2.1 d.2.2.2.2.1 d.2.2.2.2.2.1 d.2.2.2.2.2.2.1 d.2.2.2.2.2.2.2.1 = some r) ?_ _ (_, _, _, _, _, _, _, _, ()) h (rel_look _ _ ⟨rfl, rfl, rfl, rfl, rfl, rfl, rfl, rfl, trivial⟩ ⟨rfl, rfl, trivial⟩ rfl)
      intro K33 ih34 d h
      obtain ⟨x4, x8, x9, x10, x11, x12, x13, x14, _⟩ := d
      dsimp only at h ⊢
      cases K33 with
      | zero => exact absurd h (by simp [P.mag_DivMod.l0])
      | succ m35 =>
        simp only [P.mag_DivMod.l0] at h
        refine simL_step (sim_seq (sim_seq (sim_region ?_)))
        iterate 2 refine o1 ?_
        refine sim_ops_nil ?_
        refine sim_cond rfl (fun hb => ?_) (fun hb => ?_)
        · skip
          obtain ⟨c36, h⟩ := tkT h hb
          have g37 := hb
          clear hb
          obtain ⟨q38, h⟩ := ite_none h
          obtain ⟨q39, h⟩ := ite_none h
          obtain ⟨q40, h⟩ := ite_none h
          obtain ⟨q41, h⟩ := ite_none h
          obtain ⟨q42, h⟩ := ite_none2 h
          refine sim_skip (sim_seq (sim_block (sim_seq (sim_still ?_))))
          iterate 18 refine s1 ?_
          refine st_nil (sim_seq (sim_still ?_))
          iterate 8 refine s1 ?_
          refine st_nil (sim_seq (sim_block (sim_loop ?_)))
          refine simL_ind (D := List Int × Int × List Int × List Int × Int × Int × Int × Int × Int × Int × Unit) (fun d => ⟨look [(4, .own 64), (8, .int .i64 d.2.1), (9, .ints .u32 d.2.2.1), (10, .own 52), (11, .int .i64 d.2.2.2.2.1), (12, .int .u64 d.2.2.2.2.2.1), (13, .int .u64 d.2.2.2.2.2.2.1), (14, .int .i64 d.2.2.2.2.2.2.2.1), (16, .int .u64 d.2.2.2.2.2.2.2.2.1), (17, .int .u64 d.2.2.2.2.2.2.2.2.2.1)], look [(64, rowI 105 .u32 d.1), (52, rowI 105 .u32 d.2.2.2.1)]⟩) (fun K_ d => P.mag_DivMod.l1 K_ d.1 d.2.1 d.2.2.1 d.2.2.2.1 d.2.2.2.2.1 d.2.2.2.2.2.1 d.2.2.2.2.2.2.1 d.2.2.2.2.2.2.2.1 d.2.2.2.2.2.2.2.2.1 d.2.2.2.2.2.2.2.2.2.1 = some r ∧ K_ ≤ m35) ?_ _ (_, _, _, _, _, _, _, _, _, _, ()) ⟨h, by omega⟩ (rel_look _ _ ⟨rfl, rfl, rfl, rfl, rfl, rfl, rfl, rfl, rfl, rfl, trivial⟩ ⟨rfl, rfl, trivial⟩ rfl)
          intro K43 ih44 d h
          obtain ⟨h, b46⟩ := h
          obtain ⟨x4, x8, x9, x10, x11, x12, x13, x14, x16, x17, _⟩ := d
          dsimp only at h b46 ⊢
          cases K43 with
          | zero => exact absurd h (by simp [P.mag_DivMod.l1])
          | succ m45 =>
            simp only [P.mag_DivMod.l1] at h
            refine simL_step (sim_seq (sim_seq ?_))
            refine sim_joinG (D := Nat × List Int × Int × List Int × List Int × Int × Int × Int × Int × Int × Int × Bool × Unit) (fun d => ⟨look [(4, .own 64), (8, .int .i64 d.2.2.1), (9, .ints .u32 d.2.2.2.1), (10, .own 52), (11, .int .i64 d.2.2.2.2.2.1), (12, .int .u64 d.2.2.2.2.2.2.1), (13, .int .u64 d.2.2.2.2.2.2.2.1), (14, .int .i64 d.2.2.2.2.2.2.2.2.1), (16, .int .u64 d.2.2.2.2.2.2.2.2.2.1), (17, .int .u64 d.2.2.2.2.2.2.2.2.2.2.1), (127, .bool d.2.2.2.2.2.2.2.2.2.2.2.1)], look [(64, rowI 105 .u32 d.2.1), (52, rowI 105 .u32 d.2.2.2.2.1)]⟩) (fun d => P.mag_DivMod.j2 d.1 d.2.1 d.2.2.1 d.2.2.2.1 d.2.2.2.2.1 d.2.2.2.2.2.1 d.2.2.2.2.2.2.1 d.2.2.2.2.2.2.2.1 d.2.2.2.2.2.2.2.2.1 d.2.2.2.2.2.2.2.2.2.1 d.2.2.2.2.2.2.2.2.2.2.1 d.2.2.2.2.2.2.2.2.2.2.2.1 = some r ∧ d.1 ≤ m45) ?_ ?_
            · skip
              rintro ⟨kq47, x4, x8, x9, x10, x11, x12, x13, x14, x16, x17, x127, _⟩ ⟨h, b48⟩
              dsimp only at h b48 ⊢
              cases kq47 with
              | zero => exact absurd h (by simp [P.mag_DivMod.j2])
              | succ m49 =>
                simp only [P.mag_DivMod.j2] at h
                refine sim_cond rfl (fun hb => ?_) (fun hb => ?_)
                · skip
                  obtain ⟨c50, h⟩ := tkT h hb
                  have g51 := hb
                  clear hb
                  refine sim_skip (sim_block (sim_seq (sim_region ?_)))
                  iterate 3 refine o1 ?_
                  refine sim_ops_nil (sim_seq (sim_region ?_))
                  iterate 4 refine o1 ?_
                  refine sim_ops_nil (sim_seq (sim_region ?_))
                  iterate 2 refine o1 ?_
                  refine sim_ops_nil ?_
                  refine sim_cond rfl (fun hb => ?_) (fun hb => ?_)
                  · skip
                    obtain ⟨c52, h⟩ := tkT h hb
                    have g53 := hb
                    clear hb
                    rcases m49 with _ | m54
                    · exact absurd h (by simp [P.mag_DivMod.j3])
                    simp only [P.mag_DivMod.j3] at h
                    obtain ⟨q55, h⟩ := ite_none h
                    obtain ⟨q56, h⟩ := ite_none h
                    obtain ⟨q57, h⟩ := ite_none h
                    refine sim_exit (sim_seq (sim_seq (sim_region ?_)))
                    iterate 9 refine o1 ?_
                    obtain ⟨t58, ht59, h⟩ := Option.bind_eq_some_iff.1 h
                    have q60 := mag_subtractAt.len ht59 bd bd bd
                    refine opCW (k := 52) (mag_subtractAt.v ht59 bd bd bd) rfl rfl ?_
                    refine sim_ops_nil ?_
                    refine sim_cond rfl (fun hb => ?_) (fun hb => ?_)
                    · skip
                      obtain ⟨c61, h⟩ := tkT h hb
                      have g62 := hb
                      clear hb
                      refine sim_seq (sim_region ?_)
                      iterate 3 refine o1 ?_
                      refine sim_ops_nil (sim_region ?_)
                      iterate 8 refine o1 ?_
                      obtain ⟨t63, ht64, h⟩ := Option.bind_eq_some_iff.1 h
                      have q65 := mag_restoreAt.len ht64 bd bd bd
                      refine opCW (k := 52) (mag_restoreAt.v ht64 bd bd bd) rfl rfl ?_
                      obtain ⟨q66, h⟩ := ite_none h
                      refine sim_ops_nil (sim_region ?_)
                      iterate 6 refine o1 ?_
                      refine sim_ops_nil (sim_region ?_)
                      iterate 3 refine o1 ?_
                      refine sim_ops_nil ?_
                      exact simL_again (ih34 m54 (by omega) (_, _, _, _, _, _, _, _, ()) h) ⟨rfl, rfl, rfl, rfl, rfl, rfl, rfl, rfl, trivial⟩ ⟨rfl, rfl, trivial⟩ rfl
                    · skip
                      obtain ⟨c67, h⟩ := tkF h hb
                      have g68 := hb
                      clear hb
                      obtain ⟨q69, h⟩ := ite_none h
                      refine sim_skip (sim_region ?_)
                      iterate 6 refine o1 ?_
                      refine sim_ops_nil (sim_region ?_)
                      iterate 3 refine o1 ?_
                      refine sim_ops_nil ?_
                      exact simL_again (ih34 m54 (by omega) (_, _, _, _, _, _, _, _, ()) h) ⟨rfl, rfl, rfl, rfl, rfl, rfl, rfl, rfl, trivial⟩ ⟨rfl, rfl, trivial⟩ rfl
                  · skip
                    obtain ⟨c70, h⟩ := tkF h hb
                    have g71 := hb
                    clear hb
                    refine sim_skip ?_
                    exact simL_again (ih44 m49 (by omega) (_, _, _, _, _, _, _, _, _, _, ()) ⟨h, by omega⟩) ⟨rfl, rfl, rfl, rfl, rfl, rfl, rfl, rfl, rfl, rfl, trivial⟩ ⟨rfl, rfl, trivial⟩ rfl
                · skip
                  obtain ⟨c72, h⟩ := tkF h hb
                  have g73 := hb
                  clear hb
                  rcases m49 with _ | m74
                  · exact absurd h (by simp [P.mag_DivMod.j3])
                  simp only [P.mag_DivMod.j3] at h
                  obtain ⟨q75, h⟩ := ite_none h
                  obtain ⟨q76, h⟩ := ite_none h
                  obtain ⟨q77, h⟩ := ite_none h
                  refine sim_exit (sim_seq (sim_seq (sim_region ?_)))
                  iterate 9 refine o1 ?_
                  obtain ⟨t78, ht79, h⟩ := Option.bind_eq_some_iff.1 h
                  have q80 := mag_subtractAt.len ht79 bd bd bd
                  refine opCW (k := 52) (mag_subtractAt.v ht79 bd bd bd) rfl rfl ?_
                  refine sim_ops_nil ?_
                  refine sim_cond rfl (fun hb => ?_) (fun hb => ?_)
                  · skip
                    obtain ⟨c81, h⟩ := tkT h hb
                    have g82 := hb
                    clear hb
                    refine sim_seq (sim_region ?_)
                    iterate 3 refine o1 ?_
                    refine sim_ops_nil (sim_region ?_)
                    iterate 8 refine o1 ?_
                    obtain ⟨t83, ht84, h⟩ := Option.bind_eq_some_iff.1 h
                    have q85 := mag_restoreAt.len ht84 bd bd bd
                    refine opCW (k := 52) (mag_restoreAt.v ht84 bd bd bd) rfl rfl ?_
                    obtain ⟨q86, h⟩ := ite_none h
                    refine sim_ops_nil (sim_region ?_)
                    iterate 6 refine o1 ?_
                    refine sim_ops_nil (sim_region ?_)
                    iterate 3 refine o1 ?_
                    refine sim_ops_nil ?_
                    exact simL_again (ih34 m74 (by omega) (_, _, _, _, _, _, _, _, ()) h) ⟨rfl, rfl, rfl, rfl, rfl, rfl, rfl, rfl, trivial⟩ ⟨rfl, rfl, trivial⟩ rfl
                  · skip
                    obtain ⟨c87, h⟩ := tkF h hb
                    have g88 := hb
                    clear hb
                    obtain ⟨q89, h⟩ := ite_none h
                    refine sim_skip (sim_region ?_)
                    iterate 6 refine o1 ?_
                    refine sim_ops_nil (sim_region ?_)
                    iterate 3 refine o1 ?_
                    refine sim_ops_nil ?_
                    exact simL_again (ih34 m74 (by omega) (_, _, _, _, _, _, _, _, ()) h) ⟨rfl, rfl, rfl, rfl, rfl, rfl, rfl, rfl, trivial⟩ ⟨rfl, rfl, trivial⟩ rfl
            · skip
              refine sim_region ?_
              iterate 3 refine o1 ?_
              refine og rfl rfl rfl rfl (fun hb => ?_) (fun hb => ?_)
              · skip
                obtain ⟨c90, h⟩ := tkF h hb
                have g91 := hb
                clear hb
                obtain ⟨q92, h⟩ := ite_none h
                obtain ⟨q93, h⟩ := ite_none h
                iterate 15 refine oT ?_
                refine o1 ?_
                refine sim_ops_nil ?_
                exact ⟨(m45, _, _, _, _, _, _, _, _, _, _, _, ()), ⟨h, by omega⟩, rel_look _ _ ⟨rfl, rfl, rfl, rfl, rfl, rfl, rfl, rfl, rfl, rfl, rfl, trivial⟩ ⟨rfl, rfl, trivial⟩ rfl⟩
              · skip
                obtain ⟨c94, h⟩ := tkT h hb
                have g95 := hb
                clear hb
                iterate 15 refine opS ?_
                refine o1 ?_
                refine sim_ops_nil ?_
                exact ⟨(m45, _, _, _, _, _, _, _, _, _, _, _, ()), ⟨h, by omega⟩, rel_look _ _ ⟨rfl, rfl, rfl, rfl, rfl, rfl, rfl, rfl, rfl, rfl, rfl, trivial⟩ ⟨rfl, rfl, trivial⟩ rfl⟩
        · skip
          obtain ⟨c96, h⟩ := tkF h hb
          have g97 := hb
          clear hb
          refine sim_exit (sim_seq ?_)
          refine sim_weak (rel_freeze (k := 64) rfl) ?_
          refine sim_weak (rel_freeze (k := 52) rfl) ?_
          refine sim_region ?_
          refine o1 ?_
          obtain ⟨t98, ht99, h⟩ := Option.bind_eq_some_iff.1 h
          refine opC (mag_Trim.v _ _ _ ht99) ?_
          refine o1 ?_
          obtain ⟨t100, ht101, h⟩ := Option.bind_eq_some_iff.1 h
          refine opC (mag_Trim.v _ _ _ ht101) ?_
          refine o1 ?_
          obtain ⟨t102, ht103, h⟩ := Option.bind_eq_some_iff.1 h
          refine opC (mag_Shr.v _ _ _ _ ht103) ?_
          iterate 2 refine o1 ?_
          refine sim_ops_nil ?_
          obtain rfl := Option.some.inj h
          exact sim_ret ⟨.inl rfl, .two (.tmp rt) (.tmp rt) rfl rfl⟩
instance : FN Tryz.prog 122 := ⟨⟨_, Tryz.func122, by decide, by simp [Tryz.f122]⟩⟩
set_option maxRecDepth 100000 in
set_option maxHeartbeats 4000000 in
theorem mag_Small.v (l0 : List Int) (r : Int × Bool) (h : P.mag_Small.f l0 = some r) : Fn Tryz.prog 122 [.ints .u32 l0] (.tup [.int .u64 r.1, .bool r.2]) := by
  refine fn_of_sim Tryz.func122 rfl (Nat.le_of_ble_eq_true rfl) ?_
  intro X hX
  unfold P.mag_Small.f at h
  refine sim_seq (sim_region ?_)
  iterate 2 refine o1 ?_
  refine sim_ops_nil (sim_seq (sim_seq (sim_region ?_)))
  iterate 2 refine o1 ?_
  refine sim_ops_nil (sim_block (sim_seq (sim_region ?_)))
  iterate 2 refine o1 ?_
  refine sim_ops_nil ?_
  refine sim_cond rfl (fun hb => ?_) (fun hb => ?_)
  · skip
    obtain ⟨c1, h⟩ := tkT h hb
    have g2 := hb
    clear hb
    refine sim_seq (sim_region ?_)
    iterate 2 refine o1 ?_
    refine sim_ops_nil ?_
    obtain rfl := Option.some.inj h
    exact sim_ret ⟨.inl rfl, .two (.tmp rt) (.tmp rt) rfl rfl⟩
  · skip
    obtain ⟨c3, h⟩ := tkF h hb
    have g4 := hb
    clear hb
    refine sim_seq (sim_region ?_)
    iterate 2 refine o1 ?_
    refine sim_ops_nil ?_
    refine sim_cond rfl (fun hb => ?_) (fun hb => ?_)
    · skip
      obtain ⟨c5, h⟩ := tkT h hb
      have g6 := hb
      clear hb
      obtain ⟨q7, h⟩ := ite_none h
      refine sim_seq (sim_region ?_)
      iterate 6 refine o1 ?_
      refine sim_ops_nil ?_
      obtain rfl := Option.some.inj h
      exact sim_ret ⟨.inl rfl, .two (.tmp rt) (.tmp rt) rfl rfl⟩
    · skip
      obtain ⟨c8, h⟩ := tkF h hb
      have g9 := hb
      clear hb
      refine sim_seq (sim_region ?_)
      iterate 2 refine o1 ?_
      refine sim_ops_nil ?_
      refine sim_cond rfl (fun hb => ?_) (fun hb => ?_)
      · skip
        obtain ⟨c10, h⟩ := tkT h hb
        have g11 := hb
        clear hb
        obtain ⟨q12, h⟩ := ite_none h
        obtain ⟨q13, h⟩ := ite_none h
        refine sim_seq (sim_still ?_)
        iterate 12 refine s1 ?_
        refine st_nil ?_
        obtain rfl := Option.some.inj h
        exact sim_ret ⟨.inl rfl, .two (.tmp rt) (.tmp rt) rfl rfl⟩
      · skip
        obtain ⟨c14, h⟩ := tkF h hb
        have g15 := hb
        clear hb
        refine sim_skip (sim_seq (sim_region ?_))
        iterate 2 refine o1 ?_
        refine sim_ops_nil ?_
        obtain rfl := Option.some.inj h
        exact sim_ret ⟨.inl rfl, .two (.tmp rt) (.tmp rt) rfl rfl⟩
instance : FN Tryz.prog 133 := ⟨⟨_, Tryz.func133, by decide, by simp [Tryz.f133]⟩⟩
set_option maxRecDepth 100000 in
set_option maxHeartbeats 4000000 in
theorem mag_Bits.v (l0 : List Int) (r : Int) (h : P.mag_Bits.f l0 = some r) : Fn Tryz.prog 133 [.ints .u32 l0] (.int .i64 r) := by
  refine fn_of_sim Tryz.func133 rfl (Nat.le_of_ble_eq_true rfl) ?_
  intro X hX
  unfold P.mag_Bits.f at h
  refine sim_seq (sim_region ?_)
  refine o1 ?_
  refine sim_ops_nil (sim_seq (sim_seq (sim_region ?_)))
  iterate 3 refine o1 ?_
  refine sim_ops_nil ?_
  refine sim_cond rfl (fun hb => ?_) (fun hb => ?_)
  · skip
    obtain ⟨c1, h⟩ := tkT h hb
    have g2 := hb
    clear hb
    refine sim_seq (sim_region ?_)
    refine o1 ?_
    refine sim_ops_nil ?_
    obtain rfl := Option.some.inj h
    exact sim_ret ⟨.inl rfl, .one (.tmp rt) rfl⟩
  · skip
    obtain ⟨c3, h⟩ := tkF h hb
    have g4 := hb
    clear hb
    obtain ⟨q5, h⟩ := ite_none h
    obtain ⟨q6, h⟩ := ite_none h
    refine sim_skip (sim_seq (sim_region ?_))
    iterate 9 refine o1 ?_
    obtain ⟨t7, ht8, h⟩ := Option.bind_eq_some_iff.1 h
    refine opC (bits_LeadingZeros32.v _ _ ht8) ?_
    iterate 2 refine o1 ?_
    refine sim_ops_nil ?_
    obtain rfl := Option.some.inj h
    exact sim_ret ⟨.inl rfl, .one (.tmp rt) rfl⟩
instance : FN Tryz.prog 90 := ⟨⟨_, Tryz.func90, by decide, by simp [Tryz.f90]⟩⟩
set_option maxRecDepth 100000 in
set_option maxHeartbeats 4000000 in
theorem mag_Mul.v (k : Nat) (l0 : List Int) (l1 : List Int) (r : List Int) (h : P.mag_Mul.f k l0 l1 = some r) : Fn Tryz.prog 90 [.ints .u32 l0, .ints .u32 l1] (.ints .u32 r) := by
  refine fn_of_sim Tryz.func90 rfl (Nat.le_of_ble_eq_true rfl) ?_
  intro X hX
  unfold P.mag_Mul.f at h
  refine sim_seq (sim_region ?_)
  refine o1 ?_
  refine sim_ops_nil (sim_seq (sim_seq ?_))
  refine sim_joinG (D := Nat × List Int × List Int × Bool × Unit) (fun d => ⟨look [(0, .ints .u32 d.2.1), (1, .ints .u32 d.2.2.1), (18, .bool d.2.2.2.1)], look []⟩) (fun d => P.mag_Mul.j0 d.1 d.2.1 d.2.2.1 d.2.2.2.1 = some r ∧ d.1 ≤ k) ?_ ?_
  · skip
    rintro ⟨kq1, x0, x1, x18, _⟩ ⟨h, b2⟩
    dsimp only at h b2 ⊢
    cases kq1 with
    | zero => exact absurd h (by simp [P.mag_Mul.j0])
    | succ m3 =>
      simp only [P.mag_Mul.j0] at h
      refine sim_cond rfl (fun hb => ?_) (fun hb => ?_)
      · skip
        obtain ⟨c4, h⟩ := tkT h hb
        have g5 := hb
        clear hb
        refine sim_seq (sim_region ?_)
        refine o1 ?_
        refine sim_ops_nil ?_
        obtain rfl := Option.some.inj h
        exact sim_ret ⟨.inl rfl, .one (.tmp rt) rfl⟩
      · skip
        obtain ⟨c6, h⟩ := tkF h hb
        have g7 := hb
        clear hb
        obtain ⟨q8, h⟩ := ite_none h
        obtain ⟨q9, h⟩ := ite_none h
        refine sim_skip (sim_seq (sim_region ?_))
        iterate 7 refine o1 ?_
        refine sim_ops_nil (sim_seq (sim_seq (sim_region ?_)))
        iterate 3 refine o1 ?_
        refine sim_ops_nil (sim_block (sim_loop ?_))
        refine simL_ind (D := List Int × List Int × List Int × Int × Int × Unit) (fun d => ⟨look [(1, .ints .u32 d.1), (5, .own 24), (25, .ints .u32 d.2.2.1), (26, .int .i64 d.2.2.2.1), (27, .int .i64 d.2.2.2.2.1)], look [(24, rowI 105 .u32 d.2.1)]⟩) (fun K_ d => P.mag_Mul.l0 K_ d.1 d.2.1 d.2.2.1 d.2.2.2.1 d.2.2.2.2.1 = some r ∧ K_ ≤ m3) ?_ _ (_, _, _, _, _, ()) ⟨h, by omega⟩ (rel_look _ _ ⟨rfl, rfl, rfl, rfl, rfl, trivial⟩ ⟨rfl, trivial⟩ rfl)
        intro K10 ih11 d h
        obtain ⟨h, b13⟩ := h
        obtain ⟨x1, x5, x25, x26, x27, _⟩ := d
        dsimp only at h b13 ⊢
        cases K10 with
        | zero => exact absurd h (by simp [P.mag_Mul.l0])
        | succ m12 =>
          simp only [P.mag_Mul.l0] at h
          refine simL_step (sim_seq (sim_region ?_))
          refine o1 ?_
          refine sim_ops_nil (sim_seq ?_)
          refine sim_cond rfl (fun hb => ?_) (fun hb => ?_)
          · skip
            obtain ⟨c14, h⟩ := tkT h hb
            have g15 := hb
            clear hb
            obtain ⟨q16, h⟩ := ite_none h
            obtain ⟨q17, h⟩ := ite_none h
            refine sim_skip (sim_seq (sim_block (sim_seq (sim_region ?_))))
            iterate 5 refine o1 ?_
            refine sim_ops_nil (sim_seq (sim_region ?_))
            refine o1 ?_
            refine sim_ops_nil (sim_seq (sim_seq (sim_region ?_)))
            iterate 3 refine o1 ?_
            refine sim_ops_nil (sim_block (sim_loop ?_))
            refine simL_ind (D := List Int × List Int × Int × Int × Int × List Int × Int × Int × List Int × Int × Int × Unit) (fun d => ⟨look [(1, .ints .u32 d.1), (5, .own 24), (6, .int .i64 d.2.2.1), (7, .int .u32 d.2.2.2.1), (8, .int .u64 d.2.2.2.2.1), (25, .ints .u32 d.2.2.2.2.2.1), (26, .int .i64 d.2.2.2.2.2.2.1), (27, .int .i64 d.2.2.2.2.2.2.2.1), (32, .ints .u32 d.2.2.2.2.2.2.2.2.1), (33, .int .i64 d.2.2.2.2.2.2.2.2.2.1), (34, .int .i64 d.2.2.2.2.2.2.2.2.2.2.1)], look [(24, rowI 105 .u32 d.2.1)]⟩) (fun K_ d => P.mag_Mul.l1 K_ d.1 d.2.1 d.2.2.1 d.2.2.2.1 d.2.2.2.2.1 d.2.2.2.2.2.1 d.2.2.2.2.2.2.1 d.2.2.2.2.2.2.2.1 d.2.2.2.2.2.2.2.2.1 d.2.2.2.2.2.2.2.2.2.1 d.2.2.2.2.2.2.2.2.2.2.1 = some r ∧ K_ ≤ m12) ?_ _ (_, _, _, _, _, _, _, _, _, _, _, ()) ⟨h, by omega⟩ (rel_look _ _ ⟨rfl, rfl, rfl, rfl, rfl, rfl, rfl, rfl, rfl, rfl, rfl, trivial⟩ ⟨rfl, trivial⟩ rfl)
            intro K18 ih19 d h
            obtain ⟨h, b21⟩ := h
            obtain ⟨x1, x5, x6, x7, x8, x25, x26, x27, x32, x33, x34, _⟩ := d
            dsimp only at h b21 ⊢
            cases K18 with
            | zero => exact absurd h (by simp [P.mag_Mul.l1])
            | succ m20 =>
              simp only [P.mag_Mul.l1] at h
              refine simL_step (sim_seq (sim_region ?_))
              refine o1 ?_
              refine sim_ops_nil (sim_seq ?_)
              refine sim_cond rfl (fun hb => ?_) (fun hb => ?_)
              · skip
                obtain ⟨c22, h⟩ := tkT h hb
                have g23 := hb
                clear hb
                obtain ⟨q24, h⟩ := ite_none h
                obtain ⟨q25, h⟩ := ite_none h
                obtain ⟨q26, h⟩ := ite_none h
                obtain ⟨q27, h⟩ := ite_none h
                refine sim_skip (sim_seq (sim_block (sim_seq (sim_region ?_))))
                iterate 5 refine o1 ?_
                refine sim_ops_nil (sim_seq (sim_region ?_))
                iterate 16 refine o1 ?_
                refine sim_ops_nil (sim_seq (sim_region ?_))
                iterate 8 refine o1 ?_
                refine sim_ops_nil (sim_region ?_)
                iterate 3 refine o1 ?_
                refine sim_ops_nil (sim_region ?_)
                iterate 2 refine o1 ?_
                refine sim_ops_nil ?_
                exact simL_again (ih19 m20 (by omega) (_, _, _, _, _, _, _, _, _, _, _, ()) ⟨h, by omega⟩) ⟨rfl, rfl, rfl, rfl, rfl, rfl, rfl, rfl, rfl, rfl, rfl, trivial⟩ ⟨rfl, trivial⟩ rfl
              · skip
                obtain ⟨c28, h⟩ := tkF h hb
                have g29 := hb
                clear hb
                obtain ⟨q30, h⟩ := ite_none h
                obtain ⟨q31, h⟩ := ite_none h
                refine sim_exit (sim_region ?_)
                iterate 9 refine o1 ?_
                refine sim_ops_nil (sim_region ?_)
                iterate 2 refine o1 ?_
                refine sim_ops_nil ?_
                exact simL_again (ih11 m20 (by omega) (_, _, _, _, _, ()) ⟨h, by omega⟩) ⟨rfl, rfl, rfl, rfl, rfl, trivial⟩ ⟨rfl, trivial⟩ rfl
          · skip
            obtain ⟨c32, h⟩ := tkF h hb
            have g33 := hb
            clear hb
            refine sim_exit (sim_seq ?_)
            refine sim_weak (rel_freeze (k := 24) rfl) ?_
            refine sim_region ?_
            refine o1 ?_
            obtain ⟨t34, ht35, h⟩ := Option.bind_eq_some_iff.1 h
            refine opC (mag_Trim.v _ _ _ ht35) ?_
            refine o1 ?_
            refine sim_ops_nil ?_
            obtain rfl := Option.some.inj h
            exact sim_ret ⟨.inl rfl, .one (.tmp rt) rfl⟩
  · skip
    refine sim_region ?_
    iterate 4 refine o1 ?_
    refine og rfl rfl rfl rfl (fun hb => ?_) (fun hb => ?_)
    · skip
      obtain ⟨c36, h⟩ := tkF h hb
      have g37 := hb
      clear hb
      iterate 3 refine oT ?_
      refine o1 ?_
      refine sim_ops_nil ?_
      exact ⟨(k, _, _, _, ()), ⟨h, by omega⟩, rel_look _ _ ⟨rfl, rfl, rfl, trivial⟩ trivial rfl⟩
    · skip
      obtain ⟨c38, h⟩ := tkT h hb
      have g39 := hb
      clear hb
      iterate 3 refine opS ?_
      refine o1 ?_
      refine sim_ops_nil ?_
      exact ⟨(k, _, _, _, ()), ⟨h, by omega⟩, rel_look _ _ ⟨rfl, rfl, rfl, trivial⟩ trivial rfl⟩
instance : FN Tryz.prog 93 := ⟨⟨_, Tryz.func93, by decide, by simp [Tryz.f93]⟩⟩
set_option maxRecDepth 100000 in
set_option maxHeartbeats 4000000 in
theorem mag_Sub.v (k : Nat) (l0 : List Int) (l1 : List Int) (r : List Int) (h : P.mag_Sub.f k l0 l1 = some r) : Fn Tryz.prog 93 [.ints .u32 l0, .ints .u32 l1] (.ints .u32 r) := by
  refine fn_of_sim Tryz.func93 rfl (Nat.le_of_ble_eq_true rfl) ?_
  intro X hX
  unfold P.mag_Sub.f at h
  obtain ⟨q1, h⟩ := ite_none h
  obtain ⟨q2, h⟩ := ite_none h
  refine sim_seq (sim_region ?_)
  refine o1 ?_
  refine sim_ops_nil (sim_seq (sim_region ?_))
  iterate 4 refine o1 ?_
  refine sim_ops_nil (sim_seq (sim_region ?_))
  refine o1 ?_
  refine sim_ops_nil (sim_seq (sim_seq (sim_region ?_)))
  iterate 3 refine o1 ?_
  refine sim_ops_nil (sim_block (sim_loop ?_))
  refine simL_ind (D := List Int × List Int × Int × List Int × Int × Int × Unit) (fun d => ⟨look [(1, .ints .u32 d.1), (5, .own 12), (6, .int .u64 d.2.2.1), (13, .ints .u32 d.2.2.2.1), (14, .int .i64 d.2.2.2.2.1), (15, .int .i64 d.2.2.2.2.2.1)], look [(12, rowI 105 .u32 d.2.1)]⟩) (fun K_ d => P.mag_Sub.l0 K_ d.1 d.2.1 d.2.2.1 d.2.2.2.1 d.2.2.2.2.1 d.2.2.2.2.2.1 = some r) ?_ _ (_, _, _, _, _, _, ()) h (rel_look _ _ ⟨rfl, rfl, rfl, rfl, rfl, rfl, trivial⟩ ⟨rfl, trivial⟩ rfl)
  intro K3 ih4 d h
  obtain ⟨x1, x5, x6, x13, x14, x15, _⟩ := d
  dsimp only at h ⊢
  cases K3 with
  | zero => exact absurd h (by simp [P.mag_Sub.l0])
  | succ m5 =>
    simp only [P.mag_Sub.l0] at h
    refine simL_step (sim_seq (sim_region ?_))
    refine o1 ?_
    refine sim_ops_nil (sim_seq ?_)
    refine sim_cond rfl (fun hb => ?_) (fun hb => ?_)
    · skip
      obtain ⟨c6, h⟩ := tkT h hb
      have g7 := hb
      clear hb
      obtain ⟨q8, h⟩ := ite_none h
      obtain ⟨q9, h⟩ := ite_none h
      refine sim_skip (sim_seq (sim_block (sim_seq (sim_region ?_))))
      iterate 5 refine o1 ?_
      refine sim_ops_nil (sim_seq (sim_region ?_))
      iterate 5 refine o1 ?_
      refine sim_ops_nil (sim_seq (sim_seq (sim_region ?_)))
      iterate 4 refine o1 ?_
      refine sim_ops_nil ?_
      refine sim_cond rfl (fun hb => ?_) (fun hb => ?_)
      · skip
        obtain ⟨c10, h⟩ := tkT h hb
        have g11 := hb
        clear hb
        obtain ⟨q12, h⟩ := ite_none h
        refine sim_region ?_
        iterate 8 refine o1 ?_
        refine sim_ops_nil (sim_seq (sim_region ?_))
        iterate 6 refine o1 ?_
        refine sim_ops_nil (sim_region ?_)
        iterate 3 refine o1 ?_
        refine sim_ops_nil (sim_region ?_)
        iterate 2 refine o1 ?_
        refine sim_ops_nil ?_
        exact simL_again (ih4 m5 (by omega) (_, _, _, _, _, _, ()) h) ⟨rfl, rfl, rfl, rfl, rfl, rfl, trivial⟩ ⟨rfl, trivial⟩ rfl
      · skip
        obtain ⟨c13, h⟩ := tkF h hb
        have g14 := hb
        clear hb
        obtain ⟨q15, h⟩ := ite_none h
        refine sim_skip (sim_seq (sim_region ?_))
        iterate 6 refine o1 ?_
        refine sim_ops_nil (sim_region ?_)
        iterate 3 refine o1 ?_
        refine sim_ops_nil (sim_region ?_)
        iterate 2 refine o1 ?_
        refine sim_ops_nil ?_
        exact simL_again (ih4 m5 (by omega) (_, _, _, _, _, _, ()) h) ⟨rfl, rfl, rfl, rfl, rfl, rfl, trivial⟩ ⟨rfl, trivial⟩ rfl
    · skip
      obtain ⟨c16, h⟩ := tkF h hb
      have g17 := hb
      clear hb
      refine sim_exit (sim_seq ?_)
      refine sim_weak (rel_freeze (k := 12) rfl) ?_
      refine sim_region ?_
      refine o1 ?_
      obtain ⟨t18, ht19, h⟩ := Option.bind_eq_some_iff.1 h
      refine opC (mag_Trim.v _ _ _ ht19) ?_
      refine o1 ?_
      refine sim_ops_nil ?_
      obtain rfl := Option.some.inj h
      exact sim_ret ⟨.inl rfl, .one (.tmp rt) rfl⟩
instance : FN Tryz.prog 134 := ⟨⟨_, Tryz.func134, by decide, by simp [Tryz.f134]⟩⟩
set_option maxRecDepth 100000 in
set_option maxHeartbeats 4000000 in
theorem mag_combine.v (k : Nat) (l0 : List Int) (l1 : List Int) (a2 : Int) (a3 : Int) (r : List Int) (h : P.mag_combine.f k l0 l1 a2 a3 = some r) : Fn Tryz.prog 134 [.ints .u32 l0, .ints .u32 l1, .int .i64 a2, .int .i64 a3] (.ints .u32 r) := by
  refine fn_of_sim Tryz.func134 rfl (Nat.le_of_ble_eq_true rfl) ?_
  intro X hX
  unfold P.mag_combine.f at h
  refine sim_seq (sim_region ?_)
  refine o1 ?_
  refine sim_ops_nil (sim_seq (sim_seq ?_))
  refine sim_joinG (D := Nat × List Int × List Int × Int × Int × Bool × Unit) (fun d => ⟨look [(0, .ints .u32 d.2.1), (1, .ints .u32 d.2.2.1), (2, .int .i64 d.2.2.2.1), (3, .int .i64 d.2.2.2.2.1), (14, .bool d.2.2.2.2.2.1)], look []⟩) (fun d => P.mag_combine.j0 d.1 d.2.1 d.2.2.1 d.2.2.2.1 d.2.2.2.2.1 d.2.2.2.2.2.1 = some r ∧ d.1 ≤ k) ?_ ?_
  · skip
    rintro ⟨kq1, x0, x1, x2, x3, x14, _⟩ ⟨h, b2⟩
    dsimp only at h b2 ⊢
    cases kq1 with
    | zero => exact absurd h (by simp [P.mag_combine.j0])
    | succ m3 =>
      simp only [P.mag_combine.j0] at h
      refine sim_cond rfl (fun hb => ?_) (fun hb => ?_)
      · skip
        obtain ⟨c4, h⟩ := tkT h hb
        have g5 := hb
        clear hb
        refine sim_seq (sim_region ?_)
        iterate 3 refine o1 ?_
        obtain ⟨t6, ht7, h⟩ := Option.bind_eq_some_iff.1 h
        refine opC (mag_From.v _ _ _ ht7) ?_
        obtain ⟨t8, ht9, h⟩ := Option.bind_eq_some_iff.1 h
        refine opC (mag_Mul.v _ _ _ _ ht9) ?_
        iterate 4 refine o1 ?_
        obtain ⟨t10, ht11, h⟩ := Option.bind_eq_some_iff.1 h
        refine opC (mag_From.v _ _ _ ht11) ?_
        obtain ⟨t12, ht13, h⟩ := Option.bind_eq_some_iff.1 h
        refine opC (mag_Mul.v _ _ _ _ ht13) ?_
        obtain ⟨t14, ht15, h⟩ := Option.bind_eq_some_iff.1 h
        refine opC (mag_Sub.v _ _ _ _ ht15) ?_
        refine o1 ?_
        refine sim_ops_nil ?_
        obtain rfl := Option.some.inj h
        exact sim_ret ⟨.inl rfl, .one (.tmp rt) rfl⟩
      · skip
        obtain ⟨c16, h⟩ := tkF h hb
        have g17 := hb
        clear hb
        refine sim_skip (sim_seq (sim_region ?_))
        iterate 3 refine o1 ?_
        obtain ⟨t18, ht19, h⟩ := Option.bind_eq_some_iff.1 h
        refine opC (mag_From.v _ _ _ ht19) ?_
        obtain ⟨t20, ht21, h⟩ := Option.bind_eq_some_iff.1 h
        refine opC (mag_Mul.v _ _ _ _ ht21) ?_
        iterate 4 refine o1 ?_
        obtain ⟨t22, ht23, h⟩ := Option.bind_eq_some_iff.1 h
        refine opC (mag_From.v _ _ _ ht23) ?_
        obtain ⟨t24, ht25, h⟩ := Option.bind_eq_some_iff.1 h
        refine opC (mag_Mul.v _ _ _ _ ht25) ?_
        obtain ⟨t26, ht27, h⟩ := Option.bind_eq_some_iff.1 h
        refine opC (mag_Sub.v _ _ _ _ ht27) ?_
        refine o1 ?_
        refine sim_ops_nil ?_
        obtain rfl := Option.some.inj h
        exact sim_ret ⟨.inl rfl, .one (.tmp rt) rfl⟩
  · skip
    refine sim_region ?_
    iterate 3 refine o1 ?_
    refine og rfl rfl rfl rfl (fun hb => ?_) (fun hb => ?_)
    · skip
      obtain ⟨c28, h⟩ := tkF h hb
      have g29 := hb
      clear hb
      iterate 2 refine oT ?_
      refine o1 ?_
      refine sim_ops_nil ?_
      exact ⟨(k, _, _, _, _, _, ()), ⟨h, by omega⟩, rel_look _ _ ⟨rfl, rfl, rfl, rfl, rfl, trivial⟩ trivial rfl⟩
    · skip
      obtain ⟨c30, h⟩ := tkT h hb
      have g31 := hb
      clear hb
      iterate 2 refine opS ?_
      refine o1 ?_
      refine sim_ops_nil ?_
      exact ⟨(k, _, _, _, _, _, ()), ⟨h, by omega⟩, rel_look _ _ ⟨rfl, rfl, rfl, rfl, rfl, trivial⟩ trivial rfl⟩
instance : FN Tryz.prog 121 := ⟨⟨_, Tryz.func121, by decide, by simp [Tryz.f121]⟩⟩
set_option maxRecDepth 100000 in
set_option maxHeartbeats 4000000 in
theorem mag_lehmer.v (k : Nat) (l0 : List Int) (l1 : List Int) (r : List Int × List Int × Bool) (h : P.mag_lehmer.f k l0 l1 = some r) : Fn Tryz.prog 121 [.ints .u32 l0, .ints .u32 l1] (.tup [.ints .u32 r.1, .ints .u32 r.2.1, .bool r.2.2]) := by
  refine fn_of_sim Tryz.func121 rfl (Nat.le_of_ble_eq_true rfl) ?_
  intro X hX
  unfold P.mag_lehmer.f at h
  refine sim_seq (sim_region ?_)
  iterate 3 refine o1 ?_
  refine sim_ops_nil (sim_seq (sim_region ?_))
  refine o1 ?_
  obtain ⟨t1, ht2, h⟩ := Option.bind_eq_some_iff.1 h
  refine opC (mag_Bits.v _ _ ht2) ?_
  refine o1 ?_
  refine sim_ops_nil (sim_seq (sim_seq (sim_region ?_)))
  refine o1 ?_
  obtain ⟨t3, ht4, h⟩ := Option.bind_eq_some_iff.1 h
  refine opC (mag_Bits.v _ _ ht4) ?_
  iterate 3 refine o1 ?_
  refine sim_ops_nil ?_
  refine sim_cond rfl (fun hb => ?_) (fun hb => ?_)
  · skip
    obtain ⟨c5, h⟩ := tkT h hb
    have g6 := hb
    clear hb
    refine sim_seq (sim_region ?_)
    iterate 3 refine o1 ?_
    refine sim_ops_nil ?_
    obtain rfl := Option.some.inj h
    exact sim_ret ⟨.inl rfl, .three (.tmp rt) (.tmp rt) (.tmp rt) rfl rfl rfl⟩
  · skip
    obtain ⟨c7, h⟩ := tkF h hb
    have g8 := hb
    clear hb
    refine sim_skip (sim_seq (sim_region ?_))
    iterate 3 refine o1 ?_
    obtain ⟨t9, ht10, h⟩ := Option.bind_eq_some_iff.1 h
    refine opC (mag_Shr.v _ _ _ _ ht10) ?_
    obtain ⟨t11, ht12, h⟩ := Option.bind_eq_some_iff.1 h
    refine opC (mag_Small.v _ _ ht12) ?_
    iterate 5 refine o1 ?_
    refine sim_ops_nil (sim_seq (sim_region ?_))
    iterate 3 refine o1 ?_
    obtain ⟨t13, ht14, h⟩ := Option.bind_eq_some_iff.1 h
    refine opC (mag_Shr.v _ _ _ _ ht14) ?_
    obtain ⟨t15, ht16, h⟩ := Option.bind_eq_some_iff.1 h
    refine opC (mag_Small.v _ _ ht16) ?_
    iterate 5 refine o1 ?_
    refine sim_ops_nil (sim_seq (sim_region ?_))
    iterate 4 refine o1 ?_
    refine sim_ops_nil (sim_seq (sim_region ?_))
    iterate 6 refine o1 ?_
    refine sim_ops_nil (sim_seq (sim_block (sim_loop ?_)))
    refine simL_ind (D := List Int × List Int × Int × Int × Int × Int × Int × Int × Unit) (fun d => ⟨look [(0, .ints .u32 d.1), (1, .ints .u32 d.2.1), (12, .int .i64 d.2.2.1), (13, .int .i64 d.2.2.2.1), (14, .int .i64 d.2.2.2.2.1), (15, .int .i64 d.2.2.2.2.2.1), (16, .int .i64 d.2.2.2.2.2.2.1), (17, .int .i64 d.2.2.2.2.2.2.2.1)], look []⟩) (fun K_ d => P.mag_lehmer.l0 K_ d.1 d.2.1 d.2.2.1 d.2.2.2.1 d.2.2.2.2.1 d.2.2.2.2.2.1 d.2.2.2.2.2.2.1 d.2.2.2.2.2.2.2.1 = some r) ?_ _ (_, _, _, _, _, _, _, _, ()) h (rel_look _ _ ⟨rfl, rfl, rfl, rfl, rfl, rfl, rfl, rfl, trivial⟩ trivial rfl)
    intro K17 ih18 d h
    obtain ⟨x0, x1, x12, x13, x14, x15, x16, x17, _⟩ := d
    dsimp only at h ⊢
    cases K17 with
    | zero => exact absurd h (by simp [P.mag_lehmer.l0])
    | succ m19 =>
      simp only [P.mag_lehmer.l0] at h
      refine simL_step (sim_seq (sim_seq ?_))
      refine sim_joinG (D := Nat × List Int × List Int × Int × Int × Int × Int × Int × Int × Bool × Unit) (fun d => ⟨look [(0, .ints .u32 d.2.1), (1, .ints .u32 d.2.2.1), (12, .int .i64 d.2.2.2.1), (13, .int .i64 d.2.2.2.2.1), (14, .int .i64 d.2.2.2.2.2.1), (15, .int .i64 d.2.2.2.2.2.2.1), (16, .int .i64 d.2.2.2.2.2.2.2.1), (17, .int .i64 d.2.2.2.2.2.2.2.2.1), (55, .bool d.2.2.2.2.2.2.2.2.2.1)], look []⟩) (fun d => P.mag_lehmer.j1 d.1 d.2.1 d.2.2.1 d.2.2.2.1 d.2.2.2.2.1 d.2.2.2.2.2.1 d.2.2.2.2.2.2.1 d.2.2.2.2.2.2.2.1 d.2.2.2.2.2.2.2.2.1 d.2.2.2.2.2.2.2.2.2.1 = some r ∧ d.1 ≤ m19) ?_ ?_
      · skip
        rintro ⟨kq20, x0, x1, x12, x13, x14, x15, x16, x17, x55, _⟩ ⟨h, b21⟩
        dsimp only at h b21 ⊢
        cases kq20 with
        | zero => exact absurd h (by simp [P.mag_lehmer.j1])
        | succ m22 =>
          simp only [P.mag_lehmer.j1] at h
          refine sim_cond rfl (fun hb => ?_) (fun hb => ?_)
          · skip
            obtain ⟨c23, h⟩ := tkT h hb
            have g24 := hb
            clear hb
            obtain ⟨q25, h⟩ := ite_none2 h
            obtain ⟨q26, h⟩ := ite_none2 h
            refine sim_skip (sim_block (sim_seq (sim_region ?_)))
            iterate 8 refine o1 ?_
            refine sim_ops_nil (sim_seq (sim_seq (sim_region ?_)))
            iterate 9 refine o1 ?_
            refine sim_ops_nil ?_
            refine sim_cond rfl (fun hb => ?_) (fun hb => ?_)
            · skip
              obtain ⟨c27, h⟩ := tkF h hb
              have g28 := hb
              clear hb
              rcases m22 with _ | m29
              · exact absurd h (by simp [P.mag_lehmer.j2])
              simp only [P.mag_lehmer.j2] at h
              refine sim_exit (sim_seq (sim_seq (sim_region ?_)))
              iterate 2 refine o1 ?_
              refine sim_ops_nil ?_
              refine sim_cond rfl (fun hb => ?_) (fun hb => ?_)
              · skip
                obtain ⟨c30, h⟩ := tkT h hb
                have g31 := hb
                clear hb
                refine sim_seq (sim_region ?_)
                iterate 3 refine o1 ?_
                refine sim_ops_nil ?_
                obtain rfl := Option.some.inj h
                exact sim_ret ⟨.inl rfl, .three (.tmp rt) (.tmp rt) (.tmp rt) rfl rfl rfl⟩
              · skip
                obtain ⟨c32, h⟩ := tkF h hb
                have g33 := hb
                clear hb
                refine sim_skip (sim_seq (sim_region ?_))
                iterate 4 refine o1 ?_
                obtain ⟨t34, ht35, h⟩ := Option.bind_eq_some_iff.1 h
                refine opC (mag_combine.v _ _ _ _ _ _ ht35) ?_
                iterate 4 refine o1 ?_
                obtain ⟨t36, ht37, h⟩ := Option.bind_eq_some_iff.1 h
                refine opC (mag_combine.v _ _ _ _ _ _ ht37) ?_
                iterate 3 refine o1 ?_
                refine sim_ops_nil ?_
                obtain rfl := Option.some.inj h
                exact sim_ret ⟨.inl rfl, .three (.tmp rt) (.tmp rt) (.tmp rt) rfl rfl rfl⟩
            · skip
              obtain ⟨c38, h⟩ := tkT h hb
              have g39 := hb
              clear hb
              refine sim_skip (sim_seq (sim_region ?_))
              iterate 8 refine o1 ?_
              refine sim_ops_nil (sim_seq (sim_region ?_))
              iterate 8 refine o1 ?_
              refine sim_ops_nil (sim_region ?_)
              iterate 8 refine o1 ?_
              refine sim_ops_nil ?_
              exact simL_again (ih18 m22 (by omega) (_, _, _, _, _, _, _, _, ()) h) ⟨rfl, rfl, rfl, rfl, rfl, rfl, rfl, rfl, trivial⟩ trivial rfl
          · skip
            obtain ⟨c40, h⟩ := tkF h hb
            have g41 := hb
            clear hb
            rcases m22 with _ | m42
            · exact absurd h (by simp [P.mag_lehmer.j2])
            simp only [P.mag_lehmer.j2] at h
            refine sim_exit (sim_seq (sim_seq (sim_region ?_)))
            iterate 2 refine o1 ?_
            refine sim_ops_nil ?_
            refine sim_cond rfl (fun hb => ?_) (fun hb => ?_)
            · skip
              obtain ⟨c43, h⟩ := tkT h hb
              have g44 := hb
              clear hb
              refine sim_seq (sim_region ?_)
              iterate 3 refine o1 ?_
              refine sim_ops_nil ?_
              obtain rfl := Option.some.inj h
              exact sim_ret ⟨.inl rfl, .three (.tmp rt) (.tmp rt) (.tmp rt) rfl rfl rfl⟩
            · skip
              obtain ⟨c45, h⟩ := tkF h hb
              have g46 := hb
              clear hb
              refine sim_skip (sim_seq (sim_region ?_))
              iterate 4 refine o1 ?_
              obtain ⟨t47, ht48, h⟩ := Option.bind_eq_some_iff.1 h
              refine opC (mag_combine.v _ _ _ _ _ _ ht48) ?_
              iterate 4 refine o1 ?_
              obtain ⟨t49, ht50, h⟩ := Option.bind_eq_some_iff.1 h
              refine opC (mag_combine.v _ _ _ _ _ _ ht50) ?_
              iterate 3 refine o1 ?_
              refine sim_ops_nil ?_
              obtain rfl := Option.some.inj h
              exact sim_ret ⟨.inl rfl, .three (.tmp rt) (.tmp rt) (.tmp rt) rfl rfl rfl⟩
      · skip
        refine sim_region ?_
        iterate 5 refine o1 ?_
        refine og rfl rfl rfl rfl (fun hb => ?_) (fun hb => ?_)
        · skip
          obtain ⟨c51, h⟩ := tkF h hb
          have g52 := hb
          clear hb
          iterate 4 refine oT ?_
          refine o1 ?_
          refine sim_ops_nil ?_
          exact ⟨(m19, _, _, _, _, _, _, _, _, _, ()), ⟨h, by omega⟩, rel_look _ _ ⟨rfl, rfl, rfl, rfl, rfl, rfl, rfl, rfl, rfl, trivial⟩ trivial rfl⟩
        · skip
          obtain ⟨c53, h⟩ := tkT h hb
          have g54 := hb
          clear hb
          iterate 4 refine opS ?_
          refine o1 ?_
          refine sim_ops_nil ?_
          exact ⟨(m19, _, _, _, _, _, _, _, _, _, ()), ⟨h, by omega⟩, rel_look _ _ ⟨rfl, rfl, rfl, rfl, rfl, rfl, rfl, rfl, rfl, trivial⟩ trivial rfl⟩
instance : FN Tryz.prog 106 := ⟨⟨_, Tryz.func106, by decide, by simp [Tryz.f106]⟩⟩
set_option maxRecDepth 100000 in
set_option maxHeartbeats 4000000 in
theorem mag_GCD.v (k : Nat) (l0 : List Int) (l1 : List Int) (r : List Int) (h : P.mag_GCD.f k l0 l1 = some r) : Fn Tryz.prog 106 [.ints .u32 l0, .ints .u32 l1] (.ints .u32 r) := by
  refine fn_of_sim Tryz.func106 rfl (Nat.le_of_ble_eq_true rfl) ?_
  intro X hX
  unfold P.mag_GCD.f at h
  refine sim_seq (sim_region ?_)
  refine o1 ?_
  refine sim_ops_nil (sim_seq (sim_seq (sim_region ?_)))
  iterate 2 refine o1 ?_
  obtain ⟨t1, ht2, h⟩ := Option.bind_eq_some_iff.1 h
  refine opC (mag_Cmp.v _ _ _ _ ht2) ?_
  refine o1 ?_
  refine sim_ops_nil ?_
  refine sim_joinG (D := Nat × List Int × List Int × Unit) (fun d => ⟨look [(0, .ints .u32 d.2.1), (1, .ints .u32 d.2.2.1)], look []⟩) (fun d => P.mag_GCD.j0 d.1 d.2.1 d.2.2.1 = some r ∧ d.1 ≤ k) ?_ ?_
  · skip
    rintro ⟨kq3, x0, x1, _⟩ ⟨h, b4⟩
    dsimp only at h b4 ⊢
    cases kq3 with
    | zero => exact absurd h (by simp [P.mag_GCD.j0])
    | succ m5 =>
      simp only [P.mag_GCD.j0] at h
      refine sim_seq (sim_block (sim_loop ?_))
      refine simL_ind (D := List Int × List Int × Unit) (fun d => ⟨look [(0, .ints .u32 d.1), (1, .ints .u32 d.2.1)], look []⟩) (fun K_ d => P.mag_GCD.l0 K_ d.1 d.2.1 = some r ∧ K_ ≤ m5) ?_ _ (_, _, ()) ⟨h, by omega⟩ (rel_look _ _ ⟨rfl, rfl, trivial⟩ trivial rfl)
      intro K6 ih7 d h
      obtain ⟨h, b9⟩ := h
      obtain ⟨x0, x1, _⟩ := d
      dsimp only at h b9 ⊢
      cases K6 with
      | zero => exact absurd h (by simp [P.mag_GCD.l0])
      | succ m8 =>
        simp only [P.mag_GCD.l0] at h
        refine simL_step (sim_seq (sim_seq (sim_region ?_)))
        iterate 3 refine o1 ?_
        refine sim_ops_nil ?_
        refine sim_cond rfl (fun hb => ?_) (fun hb => ?_)
        · skip
          obtain ⟨c10, h⟩ := tkT h hb
          have g11 := hb
          clear hb
          refine sim_skip (sim_block (sim_seq (sim_seq (sim_region ?_))))
          iterate 2 refine o1 ?_
          obtain ⟨t12, ht13, h⟩ := Option.bind_eq_some_iff.1 h
          refine opC (mag_lehmer.v _ _ _ _ ht13) ?_
          iterate 7 refine o1 ?_
          refine sim_ops_nil (sim_seq (sim_region ?_))
          refine o1 ?_
          refine sim_ops_nil ?_
          refine sim_cond rfl (fun hb => ?_) (fun hb => ?_)
          · skip
            obtain ⟨c14, h⟩ := tkT h hb
            have g15 := hb
            clear hb
            refine sim_seq (sim_region ?_)
            iterate 4 refine o1 ?_
            refine sim_ops_nil (sim_exit ?_)
            exact simL_again (ih7 m8 (by omega) (_, _, ()) ⟨h, by omega⟩) ⟨rfl, rfl, trivial⟩ trivial rfl
          · skip
            obtain ⟨c16, h⟩ := tkF h hb
            have g17 := hb
            clear hb
            refine sim_skip (sim_seq (sim_region ?_))
            iterate 2 refine o1 ?_
            obtain ⟨t18, ht19, h⟩ := Option.bind_eq_some_iff.1 h
            refine opC (mag_DivMod.v _ _ _ _ ht19) ?_
            iterate 5 refine o1 ?_
            refine sim_ops_nil (sim_region ?_)
            iterate 4 refine o1 ?_
            refine sim_ops_nil ?_
            exact simL_again (ih7 m8 (by omega) (_, _, ()) ⟨h, by omega⟩) ⟨rfl, rfl, trivial⟩ trivial rfl
        · skip
          obtain ⟨c20, h⟩ := tkF h hb
          have g21 := hb
          clear hb
          refine sim_exit (sim_seq (sim_seq (sim_region ?_)))
          iterate 3 refine o1 ?_
          refine sim_ops_nil ?_
          refine sim_cond rfl (fun hb => ?_) (fun hb => ?_)
          · skip
            obtain ⟨c22, h⟩ := tkT h hb
            have g23 := hb
            clear hb
            obtain ⟨q24, h⟩ := ite_none h
            refine sim_seq (sim_region ?_)
            iterate 3 refine o1 ?_
            refine sim_ops_nil ?_
            obtain rfl := Option.some.inj h
            exact sim_ret ⟨.inl rfl, .one (.tmp rt) rfl⟩
          · skip
            obtain ⟨c25, h⟩ := tkF h hb
            have g26 := hb
            clear hb
            refine sim_skip (sim_seq (sim_region ?_))
            iterate 2 refine o1 ?_
            obtain ⟨t27, ht28, h⟩ := Option.bind_eq_some_iff.1 h
            refine opC (mag_DivMod.v _ _ _ _ ht28) ?_
            iterate 5 refine o1 ?_
            refine sim_ops_nil (sim_seq (sim_region ?_))
            refine o1 ?_
            obtain ⟨t29, ht30, h⟩ := Option.bind_eq_some_iff.1 h
            refine opC (mag_Small.v _ _ ht30) ?_
            iterate 5 refine o1 ?_
            refine sim_ops_nil (sim_seq (sim_region ?_))
            refine o1 ?_
            obtain ⟨t31, ht32, h⟩ := Option.bind_eq_some_iff.1 h
            refine opC (mag_Small.v _ _ ht32) ?_
            iterate 5 refine o1 ?_
            refine sim_ops_nil (sim_seq (sim_block (sim_loop ?_)))
            refine simL_ind (D := Int × Int × Unit) (fun d => ⟨look [(12, .int .u64 d.1), (14, .int .u64 d.2.1)], look []⟩) (fun K_ d => P.mag_GCD.l1 K_ d.1 d.2.1 = some r ∧ K_ ≤ m8) ?_ _ (_, _, ()) ⟨h, by omega⟩ (rel_look _ _ ⟨rfl, rfl, trivial⟩ trivial rfl)
            intro K33 ih34 d h
            obtain ⟨h, b36⟩ := h
            obtain ⟨x12, x14, _⟩ := d
            dsimp only at h b36 ⊢
            cases K33 with
            | zero => exact absurd h (by simp [P.mag_GCD.l1])
            | succ m35 =>
              simp only [P.mag_GCD.l1] at h
              refine simL_step (sim_seq (sim_seq (sim_region ?_)))
              iterate 2 refine o1 ?_
              refine sim_ops_nil ?_
              refine sim_cond rfl (fun hb => ?_) (fun hb => ?_)
              · skip
                obtain ⟨c37, h⟩ := tkF h hb
                have g38 := hb
                clear hb
                refine sim_skip (sim_block (sim_still ?_))
                iterate 6 refine s1 ?_
                refine st_nil ?_
                exact simL_again (ih34 m35 (by omega) (_, _, ()) ⟨h, by omega⟩) ⟨rfl, rfl, trivial⟩ trivial rfl
              · skip
                obtain ⟨c39, h⟩ := tkT h hb
                have g40 := hb
                clear hb
                refine sim_exit (sim_seq (sim_region ?_))
                refine o1 ?_
                obtain ⟨t41, ht42, h⟩ := Option.bind_eq_some_iff.1 h
                refine opC (mag_From.v _ _ _ ht42) ?_
                refine o1 ?_
                refine sim_ops_nil ?_
                obtain rfl := Option.some.inj h
                exact sim_ret ⟨.inl rfl, .one (.tmp rt) rfl⟩
  · skip
    refine sim_cond rfl (fun hb => ?_) (fun hb => ?_)
    · skip
      obtain ⟨c43, h⟩ := tkT h hb
      have g44 := hb
      clear hb
      refine sim_region ?_
      iterate 4 refine o1 ?_
      refine sim_ops_nil ?_
      exact ⟨(k, _, _, ()), ⟨h, by omega⟩, rel_look _ _ ⟨rfl, rfl, trivial⟩ trivial rfl⟩
    · skip
      obtain ⟨c45, h⟩ := tkF h hb
      have g46 := hb
      clear hb
      refine sim_skip ?_
      exact ⟨(k, _, _, ()), ⟨h, by omega⟩, rel_look _ _ ⟨rfl, rfl, trivial⟩ trivial rfl⟩
instance : FN Tryz.prog 92 := ⟨⟨_, Tryz.func92, by decide, by simp [Tryz.f92]⟩⟩
set_option maxRecDepth 100000 in
set_option maxHeartbeats 4000000 in
theorem mag_Add.v (k : Nat) (l0 : List Int) (l1 : List Int) (r : List Int) (h : P.mag_Add.f k l0 l1 = some r) : Fn Tryz.prog 92 [.ints .u32 l0, .ints .u32 l1] (.ints .u32 r) := by
  refine fn_of_sim Tryz.func92 rfl (Nat.le_of_ble_eq_true rfl) ?_
  intro X hX
  unfold P.mag_Add.f at h
  refine sim_seq (sim_region ?_)
  refine o1 ?_
  refine sim_ops_nil (sim_seq (sim_seq (sim_region ?_)))
  iterate 5 refine o1 ?_
  refine sim_ops_nil ?_
  refine sim_joinG (D := Nat × List Int × List Int × Unit) (fun d => ⟨look [(0, .ints .u32 d.2.1), (1, .ints .u32 d.2.2.1)], look []⟩) (fun d => P.mag_Add.j0 d.1 d.2.1 d.2.2.1 = some r ∧ d.1 ≤ k) ?_ ?_
  · skip
    rintro ⟨kq1, x0, x1, _⟩ ⟨h, b2⟩
    dsimp only at h b2 ⊢
    cases kq1 with
    | zero => exact absurd h (by simp [P.mag_Add.j0])
    | succ m3 =>
      simp only [P.mag_Add.j0] at h
      obtain ⟨q4, h⟩ := ite_none h
      obtain ⟨q5, h⟩ := ite_none h
      refine sim_seq (sim_region ?_)
      iterate 5 refine o1 ?_
      refine sim_ops_nil (sim_seq (sim_region ?_))
      refine o1 ?_
      refine sim_ops_nil (sim_seq (sim_seq (sim_region ?_)))
      iterate 3 refine o1 ?_
      refine sim_ops_nil (sim_block (sim_loop ?_))
      refine simL_ind (D := List Int × List Int × List Int × Int × List Int × Int × Int × Unit) (fun d => ⟨look [(0, .ints .u32 d.1), (1, .ints .u32 d.2.1), (5, .own 19), (6, .int .u64 d.2.2.2.1), (20, .ints .u32 d.2.2.2.2.1), (21, .int .i64 d.2.2.2.2.2.1), (22, .int .i64 d.2.2.2.2.2.2.1)], look [(19, rowI 105 .u32 d.2.2.1)]⟩) (fun K_ d => P.mag_Add.l0 K_ d.1 d.2.1 d.2.2.1 d.2.2.2.1 d.2.2.2.2.1 d.2.2.2.2.2.1 d.2.2.2.2.2.2.1 = some r ∧ K_ ≤ m3) ?_ _ (_, _, _, _, _, _, _, ()) ⟨h, by omega⟩ (rel_look _ _ ⟨rfl, rfl, rfl, rfl, rfl, rfl, rfl, trivial⟩ ⟨rfl, trivial⟩ rfl)
      intro K6 ih7 d h
      obtain ⟨h, b9⟩ := h
      obtain ⟨x0, x1, x5, x6, x20, x21, x22, _⟩ := d
      dsimp only at h b9 ⊢
      cases K6 with
      | zero => exact absurd h (by simp [P.mag_Add.l0])
      | succ m8 =>
        simp only [P.mag_Add.l0] at h
        refine simL_step (sim_seq (sim_region ?_))
        refine o1 ?_
        refine sim_ops_nil (sim_seq ?_)
        refine sim_cond rfl (fun hb => ?_) (fun hb => ?_)
        · skip
          obtain ⟨c10, h⟩ := tkT h hb
          have g11 := hb
          clear hb
          obtain ⟨q12, h⟩ := ite_none h
          obtain ⟨q13, h⟩ := ite_none h
          refine sim_skip (sim_seq (sim_block (sim_seq (sim_region ?_))))
          iterate 5 refine o1 ?_
          refine sim_ops_nil (sim_seq (sim_region ?_))
          iterate 5 refine o1 ?_
          refine sim_ops_nil (sim_seq (sim_seq (sim_region ?_)))
          iterate 4 refine o1 ?_
          refine sim_ops_nil ?_
          refine sim_cond rfl (fun hb => ?_) (fun hb => ?_)
          · skip
            obtain ⟨c14, h⟩ := tkT h hb
            have g15 := hb
            clear hb
            obtain ⟨q16, h⟩ := ite_none h
            refine sim_region ?_
            iterate 8 refine o1 ?_
            refine sim_ops_nil (sim_seq (sim_region ?_))
            iterate 6 refine o1 ?_
            refine sim_ops_nil (sim_region ?_)
            iterate 3 refine o1 ?_
            refine sim_ops_nil (sim_region ?_)
            iterate 2 refine o1 ?_
            refine sim_ops_nil ?_
            exact simL_again (ih7 m8 (by omega) (_, _, _, _, _, _, _, ()) ⟨h, by omega⟩) ⟨rfl, rfl, rfl, rfl, rfl, rfl, rfl, trivial⟩ ⟨rfl, trivial⟩ rfl
          · skip
            obtain ⟨c17, h⟩ := tkF h hb
            have g18 := hb
            clear hb
            obtain ⟨q19, h⟩ := ite_none h
            refine sim_skip (sim_seq (sim_region ?_))
            iterate 6 refine o1 ?_
            refine sim_ops_nil (sim_region ?_)
            iterate 3 refine o1 ?_
            refine sim_ops_nil (sim_region ?_)
            iterate 2 refine o1 ?_
            refine sim_ops_nil ?_
            exact simL_again (ih7 m8 (by omega) (_, _, _, _, _, _, _, ()) ⟨h, by omega⟩) ⟨rfl, rfl, rfl, rfl, rfl, rfl, rfl, trivial⟩ ⟨rfl, trivial⟩ rfl
        · skip
          obtain ⟨c20, h⟩ := tkF h hb
          have g21 := hb
          clear hb
          obtain ⟨q22, h⟩ := ite_none h
          obtain ⟨q23, h⟩ := ite_none h
          refine sim_exit (sim_seq (sim_region ?_))
          iterate 7 refine o1 ?_
          refine sim_ops_nil (sim_seq ?_)
          refine sim_weak (rel_freeze (k := 19) rfl) ?_
          refine sim_region ?_
          refine o1 ?_
          obtain ⟨t24, ht25, h⟩ := Option.bind_eq_some_iff.1 h
          refine opC (mag_Trim.v _ _ _ ht25) ?_
          refine o1 ?_
          refine sim_ops_nil ?_
          obtain rfl := Option.some.inj h
          exact sim_ret ⟨.inl rfl, .one (.tmp rt) rfl⟩
  · skip
    refine sim_cond rfl (fun hb => ?_) (fun hb => ?_)
    · skip
      obtain ⟨c26, h⟩ := tkT h hb
      have g27 := hb
      clear hb
      refine sim_region ?_
      iterate 4 refine o1 ?_
      refine sim_ops_nil ?_
      exact ⟨(k, _, _, ()), ⟨h, by omega⟩, rel_look _ _ ⟨rfl, rfl, trivial⟩ trivial rfl⟩
    · skip
      obtain ⟨c28, h⟩ := tkF h hb
      have g29 := hb
      clear hb
      refine sim_skip ?_
      exact ⟨(k, _, _, ()), ⟨h, by omega⟩, rel_look _ _ ⟨rfl, rfl, trivial⟩ trivial rfl⟩
instance : FN Tryz.prog 115 := ⟨⟨_, Tryz.func115, by decide, by simp [Tryz.f115]⟩⟩
set_option maxRecDepth 100000 in
set_option maxHeartbeats 4000000 in
theorem isochroneref01_trim.v (k : Nat) (l0 : List Int) (r : List Int) (h : P.isochroneref01_trim.f k l0 = some r) : Fn Tryz.prog 115 [.ints .i64 l0] (.ints .i64 r) := by
  refine fn_of_sim Tryz.func115 rfl (Nat.le_of_ble_eq_true rfl) ?_
  intro X hX
  unfold P.isochroneref01_trim.f at h
  refine sim_seq (sim_region ?_)
  refine o1 ?_
  refine sim_ops_nil (sim_seq (sim_region ?_))
  iterate 3 refine o1 ?_
  refine sim_ops_nil (sim_seq (sim_block (sim_loop ?_)))
  refine simL_ind (D := List Int × Int × Unit) (fun d => ⟨look [(0, .ints .i64 d.1), (3, .int .i64 d.2.1)], look []⟩) (fun K_ d => P.isochroneref01_trim.l0 K_ d.1 d.2.1 = some r) ?_ _ (_, _, ()) h (rel_look _ _ ⟨rfl, rfl, trivial⟩ trivial rfl)
  intro K1 ih2 d h
  obtain ⟨x0, x3, _⟩ := d
  dsimp only at h ⊢
  cases K1 with
  | zero => exact absurd h (by simp [P.isochroneref01_trim.l0])
  | succ m3 =>
    simp only [P.isochroneref01_trim.l0] at h
    refine simL_step (sim_seq (sim_seq (sim_region ?_)))
    iterate 3 refine o1 ?_
    refine og rfl rfl rfl rfl (fun hb => ?_) (fun hb => ?_)
    · skip
      obtain ⟨c4, h⟩ := tkT h hb
      have g5 := hb
      clear hb
      obtain ⟨q6, h⟩ := ite_none h
      obtain ⟨q7, h⟩ := ite_none h
      iterate 6 refine oT ?_
      refine o1 ?_
      refine sim_ops_nil ?_
      refine sim_cond rfl (fun hb => ?_) (fun hb => ?_)
      · skip
        obtain ⟨c8, h⟩ := tkT h hb
        have g9 := hb
        clear hb
        refine sim_skip (sim_block (sim_region ?_))
        iterate 3 refine o1 ?_
        refine sim_ops_nil ?_
        exact simL_again (ih2 m3 (by omega) (_, _, ()) h) ⟨rfl, rfl, trivial⟩ trivial rfl
      · skip
        obtain ⟨c10, h⟩ := tkF h hb
        have g11 := hb
        clear hb
        obtain ⟨q12, h⟩ := ite_none h
        obtain ⟨q13, h⟩ := ite_none h
        refine sim_exit (sim_seq (sim_region ?_))
        iterate 4 refine o1 ?_
        refine sim_ops_nil ?_
        obtain rfl := Option.some.inj h
        exact sim_ret ⟨.inl rfl, .one (.tmp rt) rfl⟩
    · skip
      obtain ⟨c14, h⟩ := tkF h hb
      have g15 := hb
      clear hb
      obtain ⟨q16, h⟩ := ite_none h
      obtain ⟨q17, h⟩ := ite_none h
      iterate 6 refine opS ?_
      refine o1 ?_
      refine sim_ops_nil ?_
      refine sim_cond rfl (fun hb => ?_) (fun hb => ?_)
      · skip
        first | cases hb | (simp_all; done)
      · skip
        refine sim_exit (sim_seq (sim_region ?_))
        iterate 4 refine o1 ?_
        refine sim_ops_nil ?_
        obtain rfl := Option.some.inj h
        exact sim_ret ⟨.inl rfl, .one (.tmp rt) rfl⟩
instance : FN Tryz.prog 79 := ⟨⟨_, Tryz.func79, by decide, by simp [Tryz.f79]⟩⟩
set_option maxRecDepth 100000 in
set_option maxHeartbeats 4000000 in
theorem isochroneref01_Split.v (k : Nat) (l0 : List Int) (a1 : Int) (r : List Int × Int) (h : P.isochroneref01_Split.f k l0 a1 = some r) : Fn Tryz.prog 79 [.ints .i64 l0, .int .i64 a1] (.tup [.ints .i64 r.1, .int .i64 r.2]) := by
  refine fn_of_sim Tryz.func79 rfl (Nat.le_of_ble_eq_true rfl) ?_
  intro X hX
  unfold P.isochroneref01_Split.f at h
  obtain ⟨q1, h⟩ := ite_none h
  obtain ⟨q2, h⟩ := ite_none h
  refine sim_seq (sim_region ?_)
  iterate 2 refine o1 ?_
  refine sim_ops_nil (sim_seq (sim_region ?_))
  iterate 4 refine o1 ?_
  refine sim_ops_nil (sim_seq (sim_region ?_))
  refine o1 ?_
  refine sim_ops_nil (sim_seq (sim_seq (sim_region ?_)))
  iterate 4 refine o1 ?_
  refine sim_ops_nil (sim_block (sim_loop ?_))
  refine simL_ind (D := List Int × Int × List Int × Int × Int × Unit) (fun d => ⟨look [(0, .ints .i64 d.1), (1, .int .i64 d.2.1), (6, .own 11), (7, .int .i64 d.2.2.2.1), (8, .int .i64 d.2.2.2.2.1)], look [(11, rowI 3 .i64 d.2.2.1)]⟩) (fun K_ d => P.isochroneref01_Split.l0 K_ d.1 d.2.1 d.2.2.1 d.2.2.2.1 d.2.2.2.2.1 = some r) ?_ _ (_, _, _, _, _, ()) h (rel_look _ _ ⟨rfl, rfl, rfl, rfl, rfl, trivial⟩ ⟨rfl, trivial⟩ rfl)
  intro K3 ih4 d h
  obtain ⟨x0, x1, x6, x7, x8, _⟩ := d
  dsimp only at h ⊢
  cases K3 with
  | zero => exact absurd h (by simp [P.isochroneref01_Split.l0])
  | succ m5 =>
    simp only [P.isochroneref01_Split.l0] at h
    refine simL_step (sim_seq (sim_seq (sim_region ?_)))
    iterate 2 refine o1 ?_
    refine sim_ops_nil ?_
    refine sim_cond rfl (fun hb => ?_) (fun hb => ?_)
    · skip
      obtain ⟨c6, h⟩ := tkT h hb
      have g7 := hb
      clear hb
      obtain ⟨q8, h⟩ := ite_none h
      obtain ⟨q9, h⟩ := ite_none h
      obtain ⟨q10, h⟩ := ite_none2 h
      obtain ⟨q11, h⟩ := ite_none h
      refine sim_skip (sim_seq (sim_block (sim_seq (sim_region ?_))))
      iterate 8 refine o1 ?_
      refine sim_ops_nil (sim_seq (sim_region ?_))
      iterate 7 refine o1 ?_
      refine sim_ops_nil (sim_region ?_)
      iterate 4 refine o1 ?_
      refine sim_ops_nil (sim_region ?_)
      iterate 3 refine o1 ?_
      refine sim_ops_nil ?_
      exact simL_again (ih4 m5 (by omega) (_, _, _, _, _, ()) h) ⟨rfl, rfl, rfl, rfl, rfl, trivial⟩ ⟨rfl, trivial⟩ rfl
    · skip
      obtain ⟨c12, h⟩ := tkF h hb
      have g13 := hb
      clear hb
      refine sim_exit (sim_seq ?_)
      refine sim_weak (rel_freeze (k := 11) rfl) ?_
      refine sim_region ?_
      refine o1 ?_
      obtain ⟨t14, ht15, h⟩ := Option.bind_eq_some_iff.1 h
      refine opC (isochroneref01_trim.v _ _ _ ht15) ?_
      iterate 3 refine o1 ?_
      refine sim_ops_nil ?_
      obtain rfl := Option.some.inj h
      exact sim_ret ⟨.inl rfl, .two (.tmp rt) (.tmp rt) rfl rfl⟩
instance : FN Tryz.prog 43 := ⟨⟨_, Tryz.func43, by decide, by simp [Tryz.f43]⟩⟩
set_option maxRecDepth 100000 in
set_option maxHeartbeats 4000000 in
theorem isochroneref01_Words.v (k : Nat) (l0 : List Int) (r : List Int) (h : P.isochroneref01_Words.f k l0 = some r) : Fn Tryz.prog 43 [.ints .i64 l0] (.ints .u32 r) := by
  refine fn_of_sim Tryz.func43 rfl (Nat.le_of_ble_eq_true rfl) ?_
  intro X hX
  unfold P.isochroneref01_Words.f at h
  refine sim_seq (sim_region ?_)
  refine o1 ?_
  refine sim_ops_nil (sim_seq (sim_region ?_))
  refine sim_ops_cons rfl (x_none 3 .i64 (.inr rfl) rfl rfl (ib hX (by decide))) ?_
  refine sim_ops_nil (sim_seq (sim_block (sim_loop ?_)))
  refine simL_ind (D := List Int × List Int × Unit) (fun d => ⟨look [(0, .ints .i64 d.1), (3, .own 3)], look [(3, rowI 3 .i64 d.2.1)]⟩) (fun K_ d => P.isochroneref01_Words.l0 K_ d.1 d.2.1 = some r) ?_ _ (_, _, ()) h (rel_look _ _ ⟨rfl, rfl, trivial⟩ ⟨rfl, trivial⟩ rfl)
  intro K1 ih2 d h
  obtain ⟨x0, x3, _⟩ := d
  dsimp only at h ⊢
  cases K1 with
  | zero => exact absurd h (by simp [P.isochroneref01_Words.l0])
  | succ m3 =>
    simp only [P.isochroneref01_Words.l0] at h
    refine simL_step (sim_seq (sim_seq (sim_region ?_)))
    iterate 3 refine o1 ?_
    refine sim_ops_nil ?_
    refine sim_cond rfl (fun hb => ?_) (fun hb => ?_)
    · skip
      obtain ⟨c4, h⟩ := tkT h hb
      have g5 := hb
      clear hb
      refine sim_skip (sim_block (sim_seq (sim_region ?_)))
      refine o1 ?_
      obtain ⟨t6, ht7, h⟩ := Option.bind_eq_some_iff.1 h
      refine opC (isochroneref01_Split.v _ _ _ _ ht7) ?_
      obtain ⟨q8, h⟩ := ite_none h
      iterate 5 refine o1 ?_
      refine sim_ops_nil (sim_seq (sim_region ?_))
      iterate 5 refine o1 ?_
      refine sim_ops_nil (sim_region ?_)
      iterate 2 refine o1 ?_
      refine sim_ops_nil ?_
      exact simL_again (ih2 m3 (by omega) (_, _, ()) h) ⟨rfl, rfl, trivial⟩ ⟨rfl, trivial⟩ rfl
    · skip
      obtain ⟨c9, h⟩ := tkF h hb
      have g10 := hb
      clear hb
      refine sim_exit (sim_seq (sim_region ?_))
      refine sim_ops_cons rfl (x_none 105 .u32 (.inr rfl) rfl rfl (ib hX (by decide))) ?_
      refine sim_ops_nil (sim_seq (sim_seq (sim_region ?_)))
      refine o1 ?_
      refine sim_ops_nil (sim_block (sim_loop ?_))
      refine simL_ind (D := List Int × List Int × Int × Unit) (fun d => ⟨look [(3, .own 3), (6, .own 6), (7, .int .i64 d.2.2.1)], look [(3, rowI 3 .i64 d.1), (6, rowI 105 .u32 d.2.1)]⟩) (fun K_ d => P.isochroneref01_Words.l1 K_ d.1 d.2.1 d.2.2.1 = some r ∧ K_ ≤ m3) ?_ _ (_, _, _, ()) ⟨h, by omega⟩ (rel_look _ _ ⟨rfl, rfl, rfl, trivial⟩ ⟨rfl, rfl, trivial⟩ rfl)
      intro K11 ih12 d h
      obtain ⟨h, b14⟩ := h
      obtain ⟨x3, x6, x7, _⟩ := d
      dsimp only at h b14 ⊢
      cases K11 with
      | zero => exact absurd h (by simp [P.isochroneref01_Words.l1])
      | succ m13 =>
        simp only [P.isochroneref01_Words.l1] at h
        refine simL_step (sim_seq (sim_seq (sim_region ?_)))
        iterate 4 refine o1 ?_
        refine sim_ops_nil ?_
        refine sim_cond rfl (fun hb => ?_) (fun hb => ?_)
        · skip
          obtain ⟨c15, h⟩ := tkT h hb
          have g16 := hb
          clear hb
          obtain ⟨q17, h⟩ := ite_none h
          refine sim_skip (sim_seq (sim_block (sim_seq (sim_region ?_))))
          iterate 6 refine o1 ?_
          refine sim_ops_nil (sim_seq (sim_seq (sim_region ?_)))
          iterate 5 refine o1 ?_
          refine sim_ops_nil ?_
          refine sim_cond rfl (fun hb => ?_) (fun hb => ?_)
          · skip
            obtain ⟨c18, h⟩ := tkT h hb
            have g19 := hb
            clear hb
            obtain ⟨q20, h⟩ := ite_none h
            obtain ⟨q21, h⟩ := ite_none h
            refine sim_region ?_
            iterate 10 refine o1 ?_
            refine sim_ops_nil (sim_region ?_)
            iterate 5 refine o1 ?_
            refine sim_ops_nil (sim_region ?_)
            iterate 3 refine o1 ?_
            refine sim_ops_nil ?_
            exact simL_again (ih12 m13 (by omega) (_, _, _, ()) ⟨h, by omega⟩) ⟨rfl, rfl, rfl, trivial⟩ ⟨rfl, rfl, trivial⟩ rfl
          · skip
            obtain ⟨c22, h⟩ := tkF h hb
            have g23 := hb
            clear hb
            obtain ⟨q24, h⟩ := ite_none h
            refine sim_skip (sim_region ?_)
            iterate 5 refine o1 ?_
            refine sim_ops_nil (sim_region ?_)
            iterate 3 refine o1 ?_
            refine sim_ops_nil ?_
            exact simL_again (ih12 m13 (by omega) (_, _, _, ()) ⟨h, by omega⟩) ⟨rfl, rfl, rfl, trivial⟩ ⟨rfl, rfl, trivial⟩ rfl
        · skip
          obtain ⟨c25, h⟩ := tkF h hb
          have g26 := hb
          clear hb
          refine sim_exit (sim_seq (sim_region ?_))
          iterate 2 refine o1 ?_
          refine sim_ops_nil ?_
          refine sim_weak (rel_freeze (k := 6) rfl) ?_
          obtain rfl := Option.some.inj h
          exact sim_ret ⟨.inl rfl, .one (.tmp rt) rfl⟩
instance : FN Tryz.prog 66 := ⟨⟨_, Tryz.func66, by decide, by simp [Tryz.f66]⟩⟩
set_option maxRecDepth 100000 in
set_option maxHeartbeats 4000000 in
theorem isochroneref01_Int.v (k : Nat) (a0 : Int) (r : List Int) (h : P.isochroneref01_Int.f k a0 = some r) : Fn Tryz.prog 66 [.int .i64 a0] (.ints .i64 r) := by
  refine fn_of_sim Tryz.func66 rfl (Nat.le_of_ble_eq_true rfl) ?_
  intro X hX
  unfold P.isochroneref01_Int.f at h
  refine sim_seq (sim_region ?_)
  refine o1 ?_
  refine sim_ops_nil (sim_seq (sim_region ?_))
  refine sim_ops_cons rfl (x_olit0 rfl rfl rfl (ib hX (by decide))) ?_
  refine o1 ?_
  refine sim_ops_nil (sim_seq (sim_block (sim_loop ?_)))
  refine simL_ind (D := Int × List Int × Unit) (fun d => ⟨look [(0, .int .i64 d.1), (3, .own 4)], look [(4, rowI 3 .i64 d.2.1)]⟩) (fun K_ d => P.isochroneref01_Int.l0 K_ d.1 d.2.1 = some r) ?_ _ (_, _, ()) h (rel_look _ _ ⟨rfl, rfl, trivial⟩ ⟨rfl, trivial⟩ rfl)
  intro K1 ih2 d h
  obtain ⟨x0, x3, _⟩ := d
  dsimp only at h ⊢
  cases K1 with
  | zero => exact absurd h (by simp [P.isochroneref01_Int.l0])
  | succ m3 =>
    simp only [P.isochroneref01_Int.l0] at h
    refine simL_step (sim_seq (sim_seq (sim_region ?_)))
    iterate 2 refine o1 ?_
    refine sim_ops_nil ?_
    refine sim_cond rfl (fun hb => ?_) (fun hb => ?_)
    · skip
      obtain ⟨c4, h⟩ := tkT h hb
      have g5 := hb
      clear hb
      obtain ⟨q6, h⟩ := ite_none h
      refine sim_skip (sim_block (sim_seq (sim_region ?_)))
      iterate 6 refine o1 ?_
      refine sim_ops_nil (sim_region ?_)
      iterate 3 refine o1 ?_
      refine sim_ops_nil ?_
      exact simL_again (ih2 m3 (by omega) (_, _, ()) h) ⟨rfl, rfl, trivial⟩ ⟨rfl, trivial⟩ rfl
    · skip
      obtain ⟨c7, h⟩ := tkF h hb
      have g8 := hb
      clear hb
      refine sim_exit (sim_seq (sim_region ?_))
      iterate 2 refine o1 ?_
      refine sim_ops_nil ?_
      refine sim_weak (rel_freeze (k := 4) rfl) ?_
      obtain rfl := Option.some.inj h
      exact sim_ret ⟨.inl rfl, .one (.tmp rt) rfl⟩
instance : FN Tryz.prog 80 := ⟨⟨_, Tryz.func80, by decide, by simp [Tryz.f80]⟩⟩
set_option maxRecDepth 100000 in
set_option maxHeartbeats 4000000 in
theorem isochroneref01_Small.v (k : Nat) (l0 : List Int) (a1 : Int) (a2 : Int) (r : List Int) (h : P.isochroneref01_Small.f k l0 a1 a2 = some r) : Fn Tryz.prog 80 [.ints .i64 l0, .int .i64 a1, .int .i64 a2] (.ints .i64 r) := by
  refine fn_of_sim Tryz.func80 rfl (Nat.le_of_ble_eq_true rfl) ?_
  intro X hX
  unfold P.isochroneref01_Small.f at h
  obtain ⟨q1, h⟩ := ite_none h
  obtain ⟨q2, h⟩ := ite_none h
  refine sim_seq (sim_region ?_)
  refine o1 ?_
  refine sim_ops_nil (sim_seq (sim_region ?_))
  iterate 5 refine o1 ?_
  refine sim_ops_nil (sim_seq (sim_seq (sim_region ?_)))
  iterate 3 refine o1 ?_
  refine sim_ops_nil (sim_block (sim_loop ?_))
  refine simL_ind (D := Int × Int × List Int × List Int × Int × Int × Unit) (fun d => ⟨look [(1, .int .i64 d.1), (2, .int .i64 d.2.1), (7, .own 13), (14, .ints .i64 d.2.2.2.1), (15, .int .i64 d.2.2.2.2.1), (16, .int .i64 d.2.2.2.2.2.1)], look [(13, rowI 3 .i64 d.2.2.1)]⟩) (fun K_ d => P.isochroneref01_Small.l0 K_ d.1 d.2.1 d.2.2.1 d.2.2.2.1 d.2.2.2.2.1 d.2.2.2.2.2.1 = some r) ?_ _ (_, _, _, _, _, _, ()) h (rel_look _ _ ⟨rfl, rfl, rfl, rfl, rfl, rfl, trivial⟩ ⟨rfl, trivial⟩ rfl)
  intro K3 ih4 d h
  obtain ⟨x1, x2, x7, x14, x15, x16, _⟩ := d
  dsimp only at h ⊢
  cases K3 with
  | zero => exact absurd h (by simp [P.isochroneref01_Small.l0])
  | succ m5 =>
    simp only [P.isochroneref01_Small.l0] at h
    refine simL_step (sim_seq (sim_region ?_))
    refine o1 ?_
    refine sim_ops_nil (sim_seq ?_)
    refine sim_cond rfl (fun hb => ?_) (fun hb => ?_)
    · skip
      obtain ⟨c6, h⟩ := tkT h hb
      have g7 := hb
      clear hb
      obtain ⟨q8, h⟩ := ite_none h
      obtain ⟨q9, h⟩ := ite_none h
      obtain ⟨q10, h⟩ := ite_none h
      refine sim_skip (sim_seq (sim_block (sim_seq (sim_region ?_))))
      iterate 3 refine o1 ?_
      refine sim_ops_nil (sim_seq (sim_region ?_))
      iterate 6 refine o1 ?_
      refine sim_ops_nil (sim_seq (sim_region ?_))
      iterate 6 refine o1 ?_
      refine sim_ops_nil (sim_region ?_)
      iterate 3 refine o1 ?_
      refine sim_ops_nil (sim_region ?_)
      iterate 2 refine o1 ?_
      refine sim_ops_nil ?_
      exact simL_again (ih4 m5 (by omega) (_, _, _, _, _, _, ()) h) ⟨rfl, rfl, rfl, rfl, rfl, rfl, trivial⟩ ⟨rfl, trivial⟩ rfl
    · skip
      obtain ⟨c11, h⟩ := tkF h hb
      have g12 := hb
      clear hb
      refine sim_exit (sim_seq (sim_block (sim_loop ?_)))
      refine simL_ind (D := Int × List Int × Unit) (fun d => ⟨look [(2, .int .i64 d.1), (7, .own 13)], look [(13, rowI 3 .i64 d.2.1)]⟩) (fun K_ d => P.isochroneref01_Small.l1 K_ d.1 d.2.1 = some r ∧ K_ ≤ m5) ?_ _ (_, _, ()) ⟨h, by omega⟩ (rel_look _ _ ⟨rfl, rfl, trivial⟩ ⟨rfl, trivial⟩ rfl)
      intro K13 ih14 d h
      obtain ⟨h, b16⟩ := h
      obtain ⟨x2, x7, _⟩ := d
      dsimp only at h b16 ⊢
      cases K13 with
      | zero => exact absurd h (by simp [P.isochroneref01_Small.l1])
      | succ m15 =>
        simp only [P.isochroneref01_Small.l1] at h
        refine simL_step (sim_seq (sim_seq (sim_region ?_)))
        iterate 2 refine o1 ?_
        refine sim_ops_nil ?_
        refine sim_cond rfl (fun hb => ?_) (fun hb => ?_)
        · skip
          obtain ⟨c17, h⟩ := tkT h hb
          have g18 := hb
          clear hb
          obtain ⟨q19, h⟩ := ite_none h
          refine sim_skip (sim_block (sim_seq (sim_region ?_)))
          iterate 6 refine o1 ?_
          refine sim_ops_nil (sim_region ?_)
          iterate 3 refine o1 ?_
          refine sim_ops_nil ?_
          exact simL_again (ih14 m15 (by omega) (_, _, ()) ⟨h, by omega⟩) ⟨rfl, rfl, trivial⟩ ⟨rfl, trivial⟩ rfl
        · skip
          obtain ⟨c20, h⟩ := tkF h hb
          have g21 := hb
          clear hb
          refine sim_exit (sim_seq ?_)
          refine sim_weak (rel_freeze (k := 13) rfl) ?_
          refine sim_region ?_
          refine o1 ?_
          obtain ⟨t22, ht23, h⟩ := Option.bind_eq_some_iff.1 h
          refine opC (isochroneref01_trim.v _ _ _ ht23) ?_
          refine o1 ?_
          refine sim_ops_nil ?_
          obtain rfl := Option.some.inj h
          exact sim_ret ⟨.inl rfl, .one (.tmp rt) rfl⟩
instance : FN Tryz.prog 71 := ⟨⟨_, Tryz.func71, by decide, by simp [Tryz.f71]⟩⟩
set_option maxRecDepth 100000 in
set_option maxHeartbeats 4000000 in
theorem isochroneref01_Valid.v (l0 : List Int) (r : Bool) (h : P.isochroneref01_Valid.f l0 = some r) : Fn Tryz.prog 71 [.ints .u32 l0] (.bool r) := by
  refine fn_of_sim Tryz.func71 rfl (Nat.le_of_ble_eq_true rfl) ?_
  intro X hX
  unfold P.isochroneref01_Valid.f at h
  refine sim_seq (sim_region ?_)
  refine o1 ?_
  refine sim_ops_nil (sim_seq (sim_region ?_))
  iterate 4 refine o1 ?_
  refine og rfl rfl rfl rfl (fun hb => ?_) (fun hb => ?_)
  · skip
    obtain ⟨c1, h⟩ := tkT h hb
    have g2 := hb
    clear hb
    iterate 4 refine oT ?_
    refine og rfl rfl rfl rfl (fun hb => ?_) (fun hb => ?_)
    · skip
      obtain ⟨c3, h⟩ := tkF h hb
      have g4 := hb
      clear hb
      obtain ⟨q5, h⟩ := ite_none h
      obtain ⟨q6, h⟩ := ite_none h
      iterate 8 refine oT ?_
      iterate 2 refine o1 ?_
      refine sim_ops_nil ?_
      obtain rfl := Option.some.inj h
      exact sim_ret ⟨.inl rfl, .one (.tmp rt) rfl⟩
    · skip
      obtain ⟨c7, h⟩ := tkT h hb
      have g8 := hb
      clear hb
      iterate 7 refine opS ?_
      refine oT ?_
      iterate 2 refine o1 ?_
      refine sim_ops_nil ?_
      obtain rfl := Option.some.inj h
      exact sim_ret ⟨.inl rfl, .one (.tmp rt) rfl⟩
  · skip
    obtain ⟨c9, h⟩ := tkF h hb
    have g10 := hb
    clear hb
    iterate 4 refine opS ?_
    iterate 7 refine opU ?_
    refine opS ?_
    iterate 2 refine o1 ?_
    refine sim_ops_nil ?_
    obtain rfl := Option.some.inj h
    exact sim_ret ⟨.inl rfl, .one (.tmp rt) rfl⟩
instance : FN Tryz.prog 72 := ⟨⟨_, Tryz.func72, by decide, by simp [Tryz.f72]⟩⟩
set_option maxRecDepth 100000 in
set_option maxHeartbeats 4000000 in
theorem isochroneref01_Cmp.v (k : Nat) (l0 : List Int) (l1 : List Int) (r : Int) (h : P.isochroneref01_Cmp.f k l0 l1 = some r) : Fn Tryz.prog 72 [.ints .i64 l0, .ints .i64 l1] (.int .i64 r) := by
  refine fn_of_sim Tryz.func72 rfl (Nat.le_of_ble_eq_true rfl) ?_
  intro X hX
  unfold P.isochroneref01_Cmp.f at h
  refine sim_seq (sim_region ?_)
  refine o1 ?_
  refine sim_ops_nil (sim_seq (sim_seq (sim_region ?_)))
  iterate 5 refine o1 ?_
  refine sim_ops_nil ?_
  refine sim_cond rfl (fun hb => ?_) (fun hb => ?_)
  · skip
    obtain ⟨c1, h⟩ := tkF h hb
    have g2 := hb
    clear hb
    refine sim_seq (sim_seq (sim_region ?_))
    iterate 5 refine o1 ?_
    refine sim_ops_nil ?_
    refine sim_cond rfl (fun hb => ?_) (fun hb => ?_)
    · skip
      obtain ⟨c3, h⟩ := tkT h hb
      have g4 := hb
      clear hb
      refine sim_seq (sim_region ?_)
      refine o1 ?_
      refine sim_ops_nil ?_
      obtain rfl := Option.some.inj h
      exact sim_ret ⟨.inl rfl, .one (.tmp rt) rfl⟩
    · skip
      obtain ⟨c5, h⟩ := tkF h hb
      have g6 := hb
      clear hb
      refine sim_skip (sim_seq (sim_region ?_))
      refine o1 ?_
      refine sim_ops_nil ?_
      obtain rfl := Option.some.inj h
      exact sim_ret ⟨.inl rfl, .one (.tmp rt) rfl⟩
  · skip
    obtain ⟨c7, h⟩ := tkT h hb
    have g8 := hb
    clear hb
    refine sim_skip (sim_seq (sim_seq (sim_region ?_)))
    iterate 4 refine o1 ?_
    refine sim_ops_nil (sim_block (sim_loop ?_))
    refine simL_ind (D := List Int × List Int × Int × Unit) (fun d => ⟨look [(0, .ints .i64 d.1), (1, .ints .i64 d.2.1), (5, .int .i64 d.2.2.1)], look []⟩) (fun K_ d => P.isochroneref01_Cmp.l0 K_ d.1 d.2.1 d.2.2.1 = some r) ?_ _ (_, _, _, ()) h (rel_look _ _ ⟨rfl, rfl, rfl, trivial⟩ trivial rfl)
    intro K9 ih10 d h
    obtain ⟨x0, x1, x5, _⟩ := d
    dsimp only at h ⊢
    cases K9 with
    | zero => exact absurd h (by simp [P.isochroneref01_Cmp.l0])
    | succ m11 =>
      simp only [P.isochroneref01_Cmp.l0] at h
      refine simL_step (sim_seq (sim_seq (sim_region ?_)))
      iterate 2 refine o1 ?_
      refine sim_ops_nil ?_
      refine sim_cond rfl (fun hb => ?_) (fun hb => ?_)
      · skip
        obtain ⟨c12, h⟩ := tkT h hb
        have g13 := hb
        clear hb
        obtain ⟨q14, h⟩ := ite_none h
        obtain ⟨q15, h⟩ := ite_none h
        obtain ⟨q16, h⟩ := ite_none h
        refine sim_skip (sim_seq (sim_block (sim_seq (sim_still ?_))))
        iterate 9 refine s1 ?_
        refine st_nil ?_
        refine sim_cond rfl (fun hb => ?_) (fun hb => ?_)
        · skip
          obtain ⟨c17, h⟩ := tkF h hb
          have g18 := hb
          clear hb
          refine sim_seq (sim_seq (sim_still ?_))
          iterate 9 refine s1 ?_
          refine st_nil ?_
          refine sim_cond rfl (fun hb => ?_) (fun hb => ?_)
          · skip
            obtain ⟨c19, h⟩ := tkT h hb
            have g20 := hb
            clear hb
            refine sim_seq (sim_region ?_)
            refine o1 ?_
            refine sim_ops_nil ?_
            obtain rfl := Option.some.inj h
            exact sim_ret ⟨.inl rfl, .one (.tmp rt) rfl⟩
          · skip
            obtain ⟨c21, h⟩ := tkF h hb
            have g22 := hb
            clear hb
            refine sim_skip (sim_seq (sim_region ?_))
            refine o1 ?_
            refine sim_ops_nil ?_
            obtain rfl := Option.some.inj h
            exact sim_ret ⟨.inl rfl, .one (.tmp rt) rfl⟩
        · skip
          obtain ⟨c23, h⟩ := tkT h hb
          have g24 := hb
          clear hb
          refine sim_skip (sim_region ?_)
          iterate 3 refine o1 ?_
          refine sim_ops_nil ?_
          exact simL_again (ih10 m11 (by omega) (_, _, _, ()) h) ⟨rfl, rfl, rfl, trivial⟩ trivial rfl
      · skip
        obtain ⟨c25, h⟩ := tkF h hb
        have g26 := hb
        clear hb
        refine sim_exit (sim_seq (sim_region ?_))
        refine o1 ?_
        refine sim_ops_nil ?_
        obtain rfl := Option.some.inj h
        exact sim_ret ⟨.inl rfl, .one (.tmp rt) rfl⟩
instance : FN Tryz.prog 103 := ⟨⟨_, Tryz.func103, by decide, by simp [Tryz.f103]⟩⟩
set_option maxRecDepth 100000 in
set_option maxHeartbeats 4000000 in
theorem isochroneref01_little.v (k : Nat) (l0 : List Int) (r : Int × Bool) (h : P.isochroneref01_little.f k l0 = some r) : Fn Tryz.prog 103 [.ints .i64 l0] (.tup [.int .i64 r.1, .bool r.2]) := by
  refine fn_of_sim Tryz.func103 rfl (Nat.le_of_ble_eq_true rfl) ?_
  intro X hX
  unfold P.isochroneref01_little.f at h
  refine sim_seq (sim_region ?_)
  iterate 2 refine o1 ?_
  refine sim_ops_nil (sim_seq (sim_seq (sim_region ?_)))
  iterate 3 refine o1 ?_
  refine sim_ops_nil ?_
  refine sim_cond rfl (fun hb => ?_) (fun hb => ?_)
  · skip
    obtain ⟨c1, h⟩ := tkT h hb
    have g2 := hb
    clear hb
    refine sim_seq (sim_region ?_)
    iterate 2 refine o1 ?_
    refine sim_ops_nil ?_
    obtain rfl := Option.some.inj h
    exact sim_ret ⟨.inl rfl, .two (.tmp rt) (.tmp rt) rfl rfl⟩
  · skip
    obtain ⟨c3, h⟩ := tkF h hb
    have g4 := hb
    clear hb
    refine sim_skip (sim_seq (sim_region ?_))
    refine o1 ?_
    refine sim_ops_nil (sim_seq (sim_seq (sim_region ?_)))
    iterate 4 refine o1 ?_
    refine sim_ops_nil (sim_block (sim_loop ?_))
    refine simL_ind (D := List Int × Int × Int × Unit) (fun d => ⟨look [(0, .ints .i64 d.1), (4, .int .i64 d.2.1), (5, .int .i64 d.2.2.1)], look []⟩) (fun K_ d => P.isochroneref01_little.l0 K_ d.1 d.2.1 d.2.2.1 = some r) ?_ _ (_, _, _, ()) h (rel_look _ _ ⟨rfl, rfl, rfl, trivial⟩ trivial rfl)
    intro K5 ih6 d h
    obtain ⟨x0, x4, x5, _⟩ := d
    dsimp only at h ⊢
    cases K5 with
    | zero => exact absurd h (by simp [P.isochroneref01_little.l0])
    | succ m7 =>
      simp only [P.isochroneref01_little.l0] at h
      refine simL_step (sim_seq (sim_seq (sim_region ?_)))
      iterate 2 refine o1 ?_
      refine sim_ops_nil ?_
      refine sim_cond rfl (fun hb => ?_) (fun hb => ?_)
      · skip
        obtain ⟨c8, h⟩ := tkT h hb
        have g9 := hb
        clear hb
        obtain ⟨q10, h⟩ := ite_none h
        obtain ⟨q11, h⟩ := ite_none h
        refine sim_skip (sim_seq (sim_block (sim_region ?_)))
        iterate 8 refine o1 ?_
        refine sim_ops_nil (sim_region ?_)
        iterate 3 refine o1 ?_
        refine sim_ops_nil ?_
        exact simL_again (ih6 m7 (by omega) (_, _, _, ()) h) ⟨rfl, rfl, rfl, trivial⟩ trivial rfl
      · skip
        obtain ⟨c12, h⟩ := tkF h hb
        have g13 := hb
        clear hb
        refine sim_exit (sim_seq (sim_region ?_))
        iterate 3 refine o1 ?_
        refine sim_ops_nil ?_
        obtain rfl := Option.some.inj h
        exact sim_ret ⟨.inl rfl, .two (.tmp rt) (.tmp rt) rfl rfl⟩
instance : FN Tryz.prog 118 := ⟨⟨_, Tryz.func118, by decide, by simp [Tryz.f118]⟩⟩
set_option maxRecDepth 100000 in
set_option maxHeartbeats 4000000 in
theorem isochroneref01_Nat_int.o (l0 : List Int) (r : List Int) (h : P.isochroneref01_Nat_int.f l0 = some r) : FnO Tryz.prog 118 [.ints .i64 l0] (rowI 3 .i64 r) := by
  unfold P.isochroneref01_Nat_int.f at h
  replace h := bsome h
  obtain ⟨q1, h⟩ := ite_none h
  obtain rfl := Option.some.inj h
  refine fnO_of_sim Tryz.func118 rfl (Nat.le_of_ble_eq_true rfl) rfl ?_
  intro X hX
  refine sim_seq (sim_region (o1 (sim_ops_nil ?_)))
  refine sim_seq (sim_seq (sim_region (o1 (op_isnil rfl rfl UL.h rfl (ib hX (by decide)) (fun b hb => sim_ops_nil (sim_cond rfl (fun h1 => ?_) (fun h1 => ?_)))))))
  · obtain rfl : l0 = [] := List.eq_nil_of_length_eq_zero (hb h1).1
    refine sim_seq (sim_region ?_)
    refine sim_ops_cons rfl (x_none 3 .i64 (.inr rfl) rfl rfl (ib hX (by decide))) ?_
    refine sim_ops_nil (sim_ret ⟨.inl rfl, 2, by decide, rfl, rfl⟩)
  · refine sim_skip (sim_seq (sim_region ?_))
    refine sim_ops_cons rfl (x_olit0 rfl rfl rfl (ib hX (by decide))) ?_
    refine o1 ?_
    refine sim_ops_cons rfl (i_append rfl rfl rfl rfl UL.h IF.h rfl rfl rfl rfl bl bl (by decide) (ib hX (by decide))) ?_
    refine o1 ?_
    refine sim_ops_nil (sim_ret ⟨.inl rfl, 5, by decide, rfl, rfl⟩)
instance : FN Tryz.prog 97 := ⟨⟨_, Tryz.func97, by decide, by simp [Tryz.f97]⟩⟩
set_option maxRecDepth 100000 in
set_option maxHeartbeats 4000000 in
theorem isochroneref01_Sub.v (k : Nat) (l0 : List Int) (l1 : List Int) (r : List Int) (h : P.isochroneref01_Sub.f k l0 l1 = some r) : Fn Tryz.prog 97 [.ints .i64 l0, .ints .i64 l1] (.ints .i64 r) := by
  refine fn_of_sim Tryz.func97 rfl (Nat.le_of_ble_eq_true rfl) ?_
  intro X hX
  unfold P.isochroneref01_Sub.f at h
  refine sim_seq (sim_region ?_)
  refine o1 ?_
  refine sim_ops_nil (sim_seq (sim_region ?_))
  refine o1 ?_
  obtain ⟨t1, ht2, h⟩ := Option.bind_eq_some_iff.1 h
  refine opCO (isochroneref01_Nat_int.o _ _ ht2) ?_
  refine o1 ?_
  refine sim_ops_nil (sim_seq (sim_region ?_))
  refine o1 ?_
  refine sim_ops_nil (sim_seq (sim_seq (sim_region ?_)))
  iterate 3 refine o1 ?_
  refine sim_ops_nil (sim_block (sim_loop ?_))
  refine simL_ind (D := List Int × List Int × Int × Int × Int × Unit) (fun d => ⟨look [(1, .ints .i64 d.1), (5, .own 10), (6, .int .i64 d.2.2.1), (12, .int .i64 d.2.2.2.1), (13, .int .i64 d.2.2.2.2.1)], look [(10, rowI 3 .i64 d.2.1)]⟩) (fun K_ d => P.isochroneref01_Sub.l0 K_ d.1 d.2.1 d.2.2.1 d.2.2.2.1 d.2.2.2.2.1 = some r) ?_ _ (_, _, _, _, _, ()) h (rel_look _ _ ⟨rfl, rfl, rfl, rfl, rfl, trivial⟩ ⟨rfl, trivial⟩ rfl)
  intro K3 ih4 d h
  obtain ⟨x1, x5, x6, x12, x13, _⟩ := d
  dsimp only at h ⊢
  cases K3 with
  | zero => exact absurd h (by simp [P.isochroneref01_Sub.l0])
  | succ m5 =>
    simp only [P.isochroneref01_Sub.l0] at h
    refine simL_step (sim_seq (sim_region ?_))
    refine o1 ?_
    refine sim_ops_nil (sim_seq ?_)
    refine sim_cond rfl (fun hb => ?_) (fun hb => ?_)
    · skip
      obtain ⟨c6, h⟩ := tkT h hb
      have g7 := hb
      clear hb
      obtain ⟨q8, h⟩ := ite_none h
      obtain ⟨q9, h⟩ := ite_none h
      refine sim_skip (sim_seq (sim_block (sim_seq (sim_region ?_))))
      iterate 2 refine o1 ?_
      refine sim_ops_nil (sim_seq (sim_region ?_))
      iterate 7 refine o1 ?_
      refine sim_ops_nil (sim_seq (sim_seq (sim_region ?_)))
      iterate 4 refine o1 ?_
      refine sim_ops_nil ?_
      refine sim_cond rfl (fun hb => ?_) (fun hb => ?_)
      · skip
        obtain ⟨c10, h⟩ := tkT h hb
        have g11 := hb
        clear hb
        refine sim_region ?_
        iterate 7 refine o1 ?_
        refine sim_ops_nil (sim_seq (sim_region ?_))
        refine o1 ?_
        refine sim_ops_nil (sim_seq (sim_seq (sim_region ?_)))
        iterate 2 refine o1 ?_
        refine sim_ops_nil ?_
        refine sim_cond rfl (fun hb => ?_) (fun hb => ?_)
        · skip
          obtain ⟨c12, h⟩ := tkT h hb
          have g13 := hb
          clear hb
          refine sim_seq (sim_region ?_)
          iterate 3 refine o1 ?_
          refine sim_ops_nil (sim_region ?_)
          refine o1 ?_
          refine sim_ops_nil (sim_region ?_)
          iterate 5 refine o1 ?_
          refine sim_ops_nil (sim_region ?_)
          iterate 2 refine o1 ?_
          refine sim_ops_nil ?_
          exact simL_again (ih4 m5 (by omega) (_, _, _, _, _, ()) h) ⟨rfl, rfl, rfl, rfl, rfl, trivial⟩ ⟨rfl, trivial⟩ rfl
        · skip
          obtain ⟨c14, h⟩ := tkF h hb
          have g15 := hb
          clear hb
          refine sim_skip (sim_region ?_)
          iterate 5 refine o1 ?_
          refine sim_ops_nil (sim_region ?_)
          iterate 2 refine o1 ?_
          refine sim_ops_nil ?_
          exact simL_again (ih4 m5 (by omega) (_, _, _, _, _, ()) h) ⟨rfl, rfl, rfl, rfl, rfl, trivial⟩ ⟨rfl, trivial⟩ rfl
      · skip
        obtain ⟨c16, h⟩ := tkF h hb
        have g17 := hb
        clear hb
        refine sim_skip (sim_seq (sim_region ?_))
        refine o1 ?_
        refine sim_ops_nil (sim_seq (sim_seq (sim_region ?_)))
        iterate 2 refine o1 ?_
        refine sim_ops_nil ?_
        refine sim_cond rfl (fun hb => ?_) (fun hb => ?_)
        · skip
          obtain ⟨c18, h⟩ := tkT h hb
          have g19 := hb
          clear hb
          refine sim_seq (sim_region ?_)
          iterate 3 refine o1 ?_
          refine sim_ops_nil (sim_region ?_)
          refine o1 ?_
          refine sim_ops_nil (sim_region ?_)
          iterate 5 refine o1 ?_
          refine sim_ops_nil (sim_region ?_)
          iterate 2 refine o1 ?_
          refine sim_ops_nil ?_
          exact simL_again (ih4 m5 (by omega) (_, _, _, _, _, ()) h) ⟨rfl, rfl, rfl, rfl, rfl, trivial⟩ ⟨rfl, trivial⟩ rfl
        · skip
          obtain ⟨c20, h⟩ := tkF h hb
          have g21 := hb
          clear hb
          refine sim_skip (sim_region ?_)
          iterate 5 refine o1 ?_
          refine sim_ops_nil (sim_region ?_)
          iterate 2 refine o1 ?_
          refine sim_ops_nil ?_
          exact simL_again (ih4 m5 (by omega) (_, _, _, _, _, ()) h) ⟨rfl, rfl, rfl, rfl, rfl, trivial⟩ ⟨rfl, trivial⟩ rfl
    · skip
      obtain ⟨c22, h⟩ := tkF h hb
      have g23 := hb
      clear hb
      refine sim_exit (sim_seq ?_)
      refine sim_weak (rel_freeze (k := 10) rfl) ?_
      refine sim_region ?_
      refine o1 ?_
      obtain ⟨t24, ht25, h⟩ := Option.bind_eq_some_iff.1 h
      refine opC (isochroneref01_trim.v _ _ _ ht25) ?_
      refine o1 ?_
      refine sim_ops_nil ?_
      obtain rfl := Option.some.inj h
      exact sim_ret ⟨.inl rfl, .one (.tmp rt) rfl⟩
instance : FN Tryz.prog 120 := ⟨⟨_, Tryz.func120, by decide, by simp [Tryz.f120]⟩⟩
set_option maxRecDepth 100000 in
set_option maxHeartbeats 4000000 in
theorem isochroneref01_digit.v (k : Nat) (l0 : List Int) (l1 : List Int) (r : Int) (h : P.isochroneref01_digit.f k l0 l1 = some r) : Fn Tryz.prog 120 [.ints .i64 l0, .ints .i64 l1] (.int .i64 r) := by
  refine fn_of_sim Tryz.func120 rfl (Nat.le_of_ble_eq_true rfl) ?_
  intro X hX
  unfold P.isochroneref01_digit.f at h
  refine sim_seq (sim_region ?_)
  refine o1 ?_
  refine sim_ops_nil (sim_seq (sim_region ?_))
  iterate 3 refine o1 ?_
  refine sim_ops_nil (sim_seq (sim_region ?_))
  iterate 2 refine o1 ?_
  refine sim_ops_nil (sim_seq (sim_seq (sim_region ?_)))
  iterate 2 refine o1 ?_
  refine sim_ops_nil (sim_block (sim_loop ?_))
  refine simL_ind (D := List Int × List Int × Int × Int × Int × Int × Unit) (fun d => ⟨look [(0, .ints .i64 d.1), (1, .ints .i64 d.2.1), (5, .int .i64 d.2.2.1), (6, .int .i64 d.2.2.2.1), (7, .int .i64 d.2.2.2.2.1), (8, .int .i64 d.2.2.2.2.2.1)], look []⟩) (fun K_ d => P.isochroneref01_digit.l0 K_ d.1 d.2.1 d.2.2.1 d.2.2.2.1 d.2.2.2.2.1 d.2.2.2.2.2.1 = some r) ?_ _ (_, _, _, _, _, _, ()) h (rel_look _ _ ⟨rfl, rfl, rfl, rfl, rfl, rfl, trivial⟩ trivial rfl)
  intro K1 ih2 d h
  obtain ⟨x0, x1, x5, x6, x7, x8, _⟩ := d
  dsimp only at h ⊢
  cases K1 with
  | zero => exact absurd h (by simp [P.isochroneref01_digit.l0])
  | succ m3 =>
    simp only [P.isochroneref01_digit.l0] at h
    refine simL_step (sim_seq (sim_seq (sim_region ?_)))
    iterate 5 refine o1 ?_
    refine sim_ops_nil ?_
    refine sim_cond rfl (fun hb => ?_) (fun hb => ?_)
    · skip
      obtain ⟨c4, h⟩ := tkT h hb
      have g5 := hb
      clear hb
      refine sim_skip (sim_seq (sim_block (sim_seq (sim_region ?_))))
      iterate 3 refine o1 ?_
      refine sim_ops_nil (sim_seq (sim_region ?_))
      iterate 4 refine o1 ?_
      refine sim_ops_nil ?_
      refine sim_cond rfl (fun hb => ?_) (fun hb => ?_)
      · skip
        obtain ⟨c6, h⟩ := tkT h hb
        have g7 := hb
        clear hb
        obtain ⟨q8, h⟩ := ite_none h
        refine sim_region ?_
        iterate 7 refine o1 ?_
        refine sim_ops_nil (sim_region ?_)
        iterate 3 refine o1 ?_
        refine sim_ops_nil ?_
        exact simL_again (ih2 m3 (by omega) (_, _, _, _, _, _, ()) h) ⟨rfl, rfl, rfl, rfl, rfl, rfl, trivial⟩ trivial rfl
      · skip
        obtain ⟨c9, h⟩ := tkF h hb
        have g10 := hb
        clear hb
        refine sim_skip (sim_region ?_)
        iterate 3 refine o1 ?_
        refine sim_ops_nil ?_
        exact simL_again (ih2 m3 (by omega) (_, _, _, _, _, _, ()) h) ⟨rfl, rfl, rfl, rfl, rfl, rfl, trivial⟩ trivial rfl
    · skip
      obtain ⟨c11, h⟩ := tkF h hb
      have g12 := hb
      clear hb
      refine sim_exit (sim_seq (sim_seq (sim_region ?_)))
      iterate 3 refine o1 ?_
      refine sim_ops_nil (sim_block (sim_loop ?_))
      refine simL_ind (D := List Int × List Int × Int × Int × Int × Int × Unit) (fun d => ⟨look [(0, .ints .i64 d.1), (1, .ints .i64 d.2.1), (5, .int .i64 d.2.2.1), (6, .int .i64 d.2.2.2.1), (7, .int .i64 d.2.2.2.2.1), (9, .int .i64 d.2.2.2.2.2.1)], look []⟩) (fun K_ d => P.isochroneref01_digit.l1 K_ d.1 d.2.1 d.2.2.1 d.2.2.2.1 d.2.2.2.2.1 d.2.2.2.2.2.1 = some r ∧ K_ ≤ m3) ?_ _ (_, _, _, _, _, _, ()) ⟨h, by omega⟩ (rel_look _ _ ⟨rfl, rfl, rfl, rfl, rfl, rfl, trivial⟩ trivial rfl)
      intro K13 ih14 d h
      obtain ⟨h, b16⟩ := h
      obtain ⟨x0, x1, x5, x6, x7, x9, _⟩ := d
      dsimp only at h b16 ⊢
      cases K13 with
      | zero => exact absurd h (by simp [P.isochroneref01_digit.l1])
      | succ m15 =>
        simp only [P.isochroneref01_digit.l1] at h
        refine simL_step (sim_seq (sim_seq (sim_region ?_)))
        iterate 5 refine o1 ?_
        refine sim_ops_nil ?_
        refine sim_cond rfl (fun hb => ?_) (fun hb => ?_)
        · skip
          obtain ⟨c17, h⟩ := tkT h hb
          have g18 := hb
          clear hb
          obtain ⟨q19, h⟩ := ite_none h
          obtain ⟨q20, h⟩ := ite_none h
          refine sim_skip (sim_seq (sim_block (sim_region ?_)))
          iterate 8 refine o1 ?_
          refine sim_ops_nil (sim_region ?_)
          iterate 3 refine o1 ?_
          refine sim_ops_nil ?_
          exact simL_again (ih14 m15 (by omega) (_, _, _, _, _, _, ()) ⟨h, by omega⟩) ⟨rfl, rfl, rfl, rfl, rfl, rfl, trivial⟩ trivial rfl
        · skip
          obtain ⟨c21, h⟩ := tkF h hb
          have g22 := hb
          clear hb
          refine sim_exit (sim_seq (sim_seq (sim_region ?_)))
          iterate 2 refine o1 ?_
          refine sim_ops_nil ?_
          refine sim_joinG (D := Nat × List Int × List Int × Int × Int × Unit) (fun d => ⟨look [(0, .ints .i64 d.2.1), (1, .ints .i64 d.2.2.1), (6, .int .i64 d.2.2.2.1), (7, .int .i64 d.2.2.2.2.1)], look []⟩) (fun d => P.isochroneref01_digit.j2 d.1 d.2.1 d.2.2.1 d.2.2.2.1 d.2.2.2.2.1 = some r ∧ d.1 ≤ m15) ?_ ?_
          · skip
            rintro ⟨kq23, x0, x1, x6, x7, _⟩ ⟨h, b24⟩
            dsimp only at h b24 ⊢
            cases kq23 with
            | zero => exact absurd h (by simp [P.isochroneref01_digit.j2])
            | succ m25 =>
              simp only [P.isochroneref01_digit.j2] at h
              obtain ⟨q26, h⟩ := ite_none2 h
              refine sim_seq (sim_region ?_)
              iterate 5 refine o1 ?_
              refine sim_ops_nil (sim_seq (sim_block (sim_loop ?_)))
              refine simL_ind (D := List Int × List Int × Int × Unit) (fun d => ⟨look [(0, .ints .i64 d.1), (1, .ints .i64 d.2.1), (10, .int .i64 d.2.2.1)], look []⟩) (fun K_ d => P.isochroneref01_digit.l2 K_ d.1 d.2.1 d.2.2.1 = some r ∧ K_ ≤ m25) ?_ _ (_, _, _, ()) ⟨h, by omega⟩ (rel_look _ _ ⟨rfl, rfl, rfl, trivial⟩ trivial rfl)
              intro K27 ih28 d h
              obtain ⟨h, b30⟩ := h
              obtain ⟨x0, x1, x10, _⟩ := d
              dsimp only at h b30 ⊢
              cases K27 with
              | zero => exact absurd h (by simp [P.isochroneref01_digit.l2])
              | succ m29 =>
                simp only [P.isochroneref01_digit.l2] at h
                refine simL_step (sim_seq (sim_seq (sim_region ?_)))
                iterate 2 refine o1 ?_
                obtain ⟨t31, ht32, h⟩ := Option.bind_eq_some_iff.1 h
                refine opC (isochroneref01_Small.v _ _ _ _ _ ht32) ?_
                refine o1 ?_
                obtain ⟨t33, ht34, h⟩ := Option.bind_eq_some_iff.1 h
                refine opC (isochroneref01_Cmp.v _ _ _ _ ht34) ?_
                refine o1 ?_
                refine sim_ops_nil ?_
                refine sim_cond rfl (fun hb => ?_) (fun hb => ?_)
                · skip
                  obtain ⟨c35, h⟩ := tkT h hb
                  have g36 := hb
                  clear hb
                  refine sim_skip (sim_block (sim_region ?_))
                  iterate 3 refine o1 ?_
                  refine sim_ops_nil ?_
                  exact simL_again (ih28 m29 (by omega) (_, _, _, ()) ⟨h, by omega⟩) ⟨rfl, rfl, rfl, trivial⟩ trivial rfl
                · skip
                  obtain ⟨c37, h⟩ := tkF h hb
                  have g38 := hb
                  clear hb
                  refine sim_exit (sim_seq (sim_block (sim_loop ?_)))
                  refine simL_ind (D := List Int × List Int × Int × Unit) (fun d => ⟨look [(0, .ints .i64 d.1), (1, .ints .i64 d.2.1), (10, .int .i64 d.2.2.1)], look []⟩) (fun K_ d => P.isochroneref01_digit.l3 K_ d.1 d.2.1 d.2.2.1 = some r ∧ K_ ≤ m29) ?_ _ (_, _, _, ()) ⟨h, by omega⟩ (rel_look _ _ ⟨rfl, rfl, rfl, trivial⟩ trivial rfl)
                  intro K39 ih40 d h
                  obtain ⟨h, b42⟩ := h
                  obtain ⟨x0, x1, x10, _⟩ := d
                  dsimp only at h b42 ⊢
                  cases K39 with
                  | zero => exact absurd h (by simp [P.isochroneref01_digit.l3])
                  | succ m41 =>
                    simp only [P.isochroneref01_digit.l3] at h
                    refine simL_step (sim_seq (sim_seq (sim_region ?_)))
                    iterate 4 refine o1 ?_
                    refine og rfl rfl rfl rfl (fun hb => ?_) (fun hb => ?_)
                    · skip
                      obtain ⟨c43, h⟩ := tkT h hb
                      have g44 := hb
                      clear hb
                      iterate 3 refine oT ?_
                      obtain ⟨t45, ht46, h⟩ := Option.bind_eq_some_iff.1 h
                      refine opCT (isochroneref01_Small.v _ _ _ _ _ ht46) ?_
                      refine oT ?_
                      obtain ⟨t47, ht48, h⟩ := Option.bind_eq_some_iff.1 h
                      refine opCT (isochroneref01_Cmp.v _ _ _ _ ht48) ?_
                      refine oT ?_
                      refine o1 ?_
                      refine sim_ops_nil ?_
                      refine sim_cond rfl (fun hb => ?_) (fun hb => ?_)
                      · skip
                        obtain ⟨c49, h⟩ := tkT h hb
                        have g50 := hb
                        clear hb
                        refine sim_skip (sim_block (sim_region ?_))
                        iterate 3 refine o1 ?_
                        refine sim_ops_nil ?_
                        exact simL_again (ih40 m41 (by omega) (_, _, _, ()) ⟨h, by omega⟩) ⟨rfl, rfl, rfl, trivial⟩ trivial rfl
                      · skip
                        obtain ⟨c51, h⟩ := tkF h hb
                        have g52 := hb
                        clear hb
                        refine sim_exit (sim_seq (sim_region ?_))
                        iterate 2 refine o1 ?_
                        refine sim_ops_nil ?_
                        obtain rfl := Option.some.inj h
                        exact sim_ret ⟨.inl rfl, .one (.tmp rt) rfl⟩
                    · skip
                      obtain ⟨c53, h⟩ := tkF h hb
                      have g54 := hb
                      clear hb
                      iterate 7 refine opS ?_
                      refine o1 ?_
                      refine sim_ops_nil ?_
                      refine sim_cond rfl (fun hb => ?_) (fun hb => ?_)
                      · skip
                        first | cases hb | (simp_all; done)
                      · skip
                        refine sim_exit (sim_seq (sim_region ?_))
                        iterate 2 refine o1 ?_
                        refine sim_ops_nil ?_
                        obtain rfl := Option.some.inj h
                        exact sim_ret ⟨.inl rfl, .one (.tmp rt) rfl⟩
          · skip
            refine sim_cond rfl (fun hb => ?_) (fun hb => ?_)
            · skip
              obtain ⟨c55, h⟩ := tkT h hb
              have g56 := hb
              clear hb
              obtain ⟨q57, h⟩ := ite_none h
              refine sim_region ?_
              iterate 4 refine o1 ?_
              refine sim_ops_nil ?_
              exact ⟨(m15, _, _, _, _, ()), ⟨h, by omega⟩, rel_look _ _ ⟨rfl, rfl, rfl, rfl, trivial⟩ trivial rfl⟩
            · skip
              obtain ⟨c58, h⟩ := tkF h hb
              have g59 := hb
              clear hb
              refine sim_skip ?_
              exact ⟨(m15, _, _, _, _, ()), ⟨h, by omega⟩, rel_look _ _ ⟨rfl, rfl, rfl, rfl, trivial⟩ trivial rfl⟩
instance : FN Tryz.prog 104 := ⟨⟨_, Tryz.func104, by decide, by simp [Tryz.f104]⟩⟩
set_option maxRecDepth 100000 in
set_option maxHeartbeats 4000000 in
theorem isochroneref01_DivMod.v (k : Nat) (l0 : List Int) (l1 : List Int) (r : List Int × List Int) (h : P.isochroneref01_DivMod.f k l0 l1 = some r) : Fn Tryz.prog 104 [.ints .i64 l0, .ints .i64 l1] (.tup [.ints .i64 r.1, .ints .i64 r.2]) := by
  refine fn_of_sim Tryz.func104 rfl (Nat.le_of_ble_eq_true rfl) ?_
  intro X hX
  unfold P.isochroneref01_DivMod.f at h
  refine sim_seq (sim_region ?_)
  iterate 2 refine o1 ?_
  refine sim_ops_nil (sim_seq (sim_seq (sim_region ?_)))
  iterate 2 refine o1 ?_
  obtain ⟨t1, ht2, h⟩ := Option.bind_eq_some_iff.1 h
  refine opC (isochroneref01_Cmp.v _ _ _ _ ht2) ?_
  refine o1 ?_
  refine sim_ops_nil ?_
  refine sim_cond rfl (fun hb => ?_) (fun hb => ?_)
  · skip
    obtain ⟨c3, h⟩ := tkT h hb
    have g4 := hb
    clear hb
    refine sim_seq (sim_region ?_)
    iterate 4 refine o1 ?_
    refine sim_ops_nil ?_
    obtain rfl := Option.some.inj h
    exact sim_ret ⟨.inl rfl, .two (.tmp rt) (.tmp rt) rfl rfl⟩
  · skip
    obtain ⟨c5, h⟩ := tkF h hb
    have g6 := hb
    clear hb
    refine sim_skip (sim_seq (sim_seq (sim_region ?_)))
    refine o1 ?_
    obtain ⟨t7, ht8, h⟩ := Option.bind_eq_some_iff.1 h
    refine opC (isochroneref01_little.v _ _ _ ht8) ?_
    iterate 5 refine o1 ?_
    refine sim_ops_nil (sim_seq (sim_region ?_))
    refine o1 ?_
    refine sim_ops_nil ?_
    refine sim_cond rfl (fun hb => ?_) (fun hb => ?_)
    · skip
      obtain ⟨c9, h⟩ := tkT h hb
      have g10 := hb
      clear hb
      refine sim_seq (sim_region ?_)
      refine o1 ?_
      obtain ⟨t11, ht12, h⟩ := Option.bind_eq_some_iff.1 h
      refine opC (isochroneref01_little.v _ _ _ ht12) ?_
      obtain ⟨q13, h⟩ := ite_none2 h
      iterate 5 refine o1 ?_
      refine sim_ops_nil (sim_seq ?_)
      refine sim_dr [m4 [6] [] [32] [], m4 [8] [] [33] [], m4 [32, 33] [] [34] [], m4 [34] [] [35] [], m4 [6] [] [36] [], m4 [8] [] [37] [], m4 [36, 37] [] [38] [], m4 [38] [] [39] [], m4 [35] [] [4] [], m4 [39] [] [5] []] [[], [], [0, 1], [0, 1, 2], [], [], [4, 5], [0, 1, 2, 3, 4, 5, 6], [0, 1, 2, 3, 4, 5, 6, 7], [0, 1, 2, 3, 4, 5, 6, 7, 8]] ?_
      refine dG [(6, _)] [] [(32, _)] [] ⟨rfl, trivial⟩ trivial (fun S0 => stepOK_plain rfl rfl ow rfl) ?_
      refine dG [(8, _)] [] [(33, _)] [] ⟨rfl, trivial⟩ trivial (fun S0 => stepOK_plain rfl rfl ow rfl) ?_
      refine dG [(32, _), (33, _)] [] [(34, _)] [] ⟨rfl, rfl, trivial⟩ trivial (fun S0 => stepOK_plain rfl rfl ow rfl) ?_
      obtain ⟨t14, ht15, h⟩ := Option.bind_eq_some_iff.1 h
      refine dG [(34, _)] [] [(35, _)] [] ⟨rfl, trivial⟩ trivial (fun S0 => stepOK_plain rfl rfl (oc (isochroneref01_Int.v _ _ _ ht15)) rfl) ?_
      refine dG [(6, _)] [] [(36, _)] [] ⟨rfl, trivial⟩ trivial (fun S0 => stepOK_plain rfl rfl ow rfl) ?_
      refine dG [(8, _)] [] [(37, _)] [] ⟨rfl, trivial⟩ trivial (fun S0 => stepOK_plain rfl rfl ow rfl) ?_
      refine dG [(36, _), (37, _)] [] [(38, _)] [] ⟨rfl, rfl, trivial⟩ trivial (fun S0 => stepOK_plain rfl rfl ow rfl) ?_
      obtain ⟨t16, ht17, h⟩ := Option.bind_eq_some_iff.1 h
      refine dG [(38, _)] [] [(39, _)] [] ⟨rfl, trivial⟩ trivial (fun S0 => stepOK_plain rfl rfl (oc (isochroneref01_Int.v _ _ _ ht17)) rfl) ?_
      refine dG [(35, _)] [] [(4, _)] [] ⟨rfl, trivial⟩ trivial (fun S0 => stepOK_plain rfl rfl ow rfl) ?_
      refine dG [(39, _)] [] [(5, _)] [] ⟨rfl, trivial⟩ trivial (fun S0 => stepOK_plain rfl rfl ow rfl) ?_
      refine dn ?_
      obtain rfl := Option.some.inj h
      exact sim_ret ⟨.inl rfl, .two (.tmp rt) (.tmp rt) rfl rfl⟩
    · skip
      obtain ⟨c18, h⟩ := tkF h hb
      have g19 := hb
      clear hb
      refine sim_skip (sim_seq (sim_seq (sim_region ?_)))
      iterate 3 refine o1 ?_
      refine sim_ops_nil ?_
      refine sim_cond rfl (fun hb => ?_) (fun hb => ?_)
      · skip
        obtain ⟨c20, h⟩ := tkT h hb
        have g21 := hb
        clear hb
        obtain ⟨q22, h⟩ := ite_none h
        refine sim_seq (sim_region ?_)
        iterate 4 refine o1 ?_
        obtain ⟨t23, ht24, h⟩ := Option.bind_eq_some_iff.1 h
        refine opC (isochroneref01_Split.v _ _ _ _ ht24) ?_
        iterate 5 refine o1 ?_
        refine sim_ops_nil (sim_seq (sim_region ?_))
        iterate 2 refine o1 ?_
        obtain ⟨t25, ht26, h⟩ := Option.bind_eq_some_iff.1 h
        refine opC (isochroneref01_Int.v _ _ _ ht26) ?_
        iterate 2 refine o1 ?_
        refine sim_ops_nil ?_
        obtain rfl := Option.some.inj h
        exact sim_ret ⟨.inl rfl, .two (.tmp rt) (.tmp rt) rfl rfl⟩
      · skip
        obtain ⟨c27, h⟩ := tkF h hb
        have g28 := hb
        clear hb
        obtain ⟨q29, h⟩ := ite_none h
        obtain ⟨q30, h⟩ := ite_none h
        refine sim_skip (sim_seq (sim_region ?_))
        iterate 4 refine o1 ?_
        refine sim_ops_nil (sim_seq (sim_region ?_))
        iterate 2 refine o1 ?_
        refine sim_ops_nil (sim_seq (sim_seq (sim_region ?_)))
        iterate 4 refine o1 ?_
        refine sim_ops_nil (sim_block (sim_loop ?_))
        refine simL_ind (D := List Int × List Int × List Int × List Int × Int × Unit) (fun d => ⟨look [(0, .ints .i64 d.1), (1, .ints .i64 d.2.1), (12, .own 56), (13, .ints .i64 d.2.2.2.1), (14, .int .i64 d.2.2.2.2.1)], look [(56, rowI 3 .i64 d.2.2.1)]⟩) (fun K_ d => P.isochroneref01_DivMod.l0 K_ d.1 d.2.1 d.2.2.1 d.2.2.2.1 d.2.2.2.2.1 = some r) ?_ _ (_, _, _, _, _, ()) h (rel_look _ _ ⟨rfl, rfl, rfl, rfl, rfl, trivial⟩ ⟨rfl, trivial⟩ rfl)
        intro K31 ih32 d h
        obtain ⟨x0, x1, x12, x13, x14, _⟩ := d
        dsimp only at h ⊢
        cases K31 with
        | zero => exact absurd h (by simp [P.isochroneref01_DivMod.l0])
        | succ m33 =>
          simp only [P.isochroneref01_DivMod.l0] at h
          refine simL_step (sim_seq (sim_seq (sim_region ?_)))
          iterate 2 refine o1 ?_
          refine sim_ops_nil ?_
          refine sim_cond rfl (fun hb => ?_) (fun hb => ?_)
          · skip
            obtain ⟨c34, h⟩ := tkT h hb
            have g35 := hb
            clear hb
            obtain ⟨q36, h⟩ := ite_none h
            obtain ⟨q37, h⟩ := ite_none h
            refine sim_skip (sim_seq (sim_block (sim_seq (sim_region ?_))))
            iterate 5 refine o1 ?_
            obtain ⟨t38, ht39, h⟩ := Option.bind_eq_some_iff.1 h
            refine opC (isochroneref01_Small.v _ _ _ _ _ ht39) ?_
            refine o1 ?_
            refine sim_ops_nil (sim_seq (sim_seq (sim_region ?_)))
            iterate 2 refine o1 ?_
            obtain ⟨t40, ht41, h⟩ := Option.bind_eq_some_iff.1 h
            refine opC (isochroneref01_Cmp.v _ _ _ _ ht41) ?_
            refine o1 ?_
            refine sim_ops_nil ?_
            refine sim_cond rfl (fun hb => ?_) (fun hb => ?_)
            · skip
              obtain ⟨c42, h⟩ := tkT h hb
              have g43 := hb
              clear hb
              refine sim_exit (sim_region ?_)
              iterate 3 refine o1 ?_
              refine sim_ops_nil ?_
              exact simL_again (ih32 m33 (by omega) (_, _, _, _, _, ()) h) ⟨rfl, rfl, rfl, rfl, rfl, trivial⟩ ⟨rfl, trivial⟩ rfl
            · skip
              obtain ⟨c44, h⟩ := tkF h hb
              have g45 := hb
              clear hb
              refine sim_skip (sim_seq (sim_region ?_))
              iterate 4 refine o1 ?_
              obtain ⟨t46, ht47, h⟩ := Option.bind_eq_some_iff.1 h
              refine opC (isochroneref01_digit.v _ _ _ _ ht47) ?_
              obtain ⟨q48, h⟩ := ite_none h
              replace h := bsome h
              iterate 2 refine o1 ?_
              refine sim_ops_nil (sim_region ?_)
              iterate 6 refine o1 ?_
              obtain ⟨t49, ht50, h⟩ := Option.bind_eq_some_iff.1 h
              refine opC (isochroneref01_Small.v _ _ _ _ _ ht50) ?_
              obtain ⟨t51, ht52, h⟩ := Option.bind_eq_some_iff.1 h
              refine opC (isochroneref01_Sub.v _ _ _ _ ht52) ?_
              refine o1 ?_
              refine sim_ops_nil (sim_region ?_)
              iterate 3 refine o1 ?_
              refine sim_ops_nil ?_
              exact simL_again (ih32 m33 (by omega) (_, _, _, _, _, ()) h) ⟨rfl, rfl, rfl, rfl, rfl, trivial⟩ ⟨rfl, trivial⟩ rfl
          · skip
            obtain ⟨c53, h⟩ := tkF h hb
            have g54 := hb
            clear hb
            refine sim_exit (sim_seq ?_)
            refine sim_weak (rel_freeze (k := 56) rfl) ?_
            refine sim_region ?_
            refine o1 ?_
            obtain ⟨t55, ht56, h⟩ := Option.bind_eq_some_iff.1 h
            refine opC (isochroneref01_trim.v _ _ _ ht56) ?_
            iterate 3 refine o1 ?_
            refine sim_ops_nil ?_
            obtain rfl := Option.some.inj h
            exact sim_ret ⟨.inl rfl, .two (.tmp rt) (.tmp rt) rfl rfl⟩
instance : FN Tryz.prog 73 := ⟨⟨_, Tryz.func73, by decide, by simp [Tryz.f73]⟩⟩
set_option maxRecDepth 100000 in
set_option maxHeartbeats 4000000 in
theorem isochroneref01_GCD.v (k : Nat) (l0 : List Int) (l1 : List Int) (r : List Int) (h : P.isochroneref01_GCD.f k l0 l1 = some r) : Fn Tryz.prog 73 [.ints .i64 l0, .ints .i64 l1] (.ints .i64 r) := by
  refine fn_of_sim Tryz.func73 rfl (Nat.le_of_ble_eq_true rfl) ?_
  intro X hX
  unfold P.isochroneref01_GCD.f at h
  refine sim_seq (sim_region ?_)
  refine o1 ?_
  refine sim_ops_nil (sim_seq (sim_block (sim_loop ?_)))
  refine simL_ind (D := List Int × List Int × Unit) (fun d => ⟨look [(0, .ints .i64 d.1), (1, .ints .i64 d.2.1)], look []⟩) (fun K_ d => P.isochroneref01_GCD.l0 K_ d.1 d.2.1 = some r) ?_ _ (_, _, ()) h (rel_look _ _ ⟨rfl, rfl, trivial⟩ trivial rfl)
  intro K1 ih2 d h
  obtain ⟨x0, x1, _⟩ := d
  dsimp only at h ⊢
  cases K1 with
  | zero => exact absurd h (by simp [P.isochroneref01_GCD.l0])
  | succ m3 =>
    simp only [P.isochroneref01_GCD.l0] at h
    refine simL_step (sim_seq (sim_seq (sim_region ?_)))
    iterate 3 refine o1 ?_
    refine sim_ops_nil ?_
    refine sim_cond rfl (fun hb => ?_) (fun hb => ?_)
    · skip
      obtain ⟨c4, h⟩ := tkT h hb
      have g5 := hb
      clear hb
      refine sim_skip (sim_block (sim_seq (sim_region ?_)))
      refine o1 ?_
      obtain ⟨t6, ht7, h⟩ := Option.bind_eq_some_iff.1 h
      refine opC (isochroneref01_little.v _ _ _ ht7) ?_
      iterate 5 refine o1 ?_
      refine sim_ops_nil (sim_seq (sim_region ?_))
      refine o1 ?_
      obtain ⟨t8, ht9, h⟩ := Option.bind_eq_some_iff.1 h
      refine opC (isochroneref01_little.v _ _ _ ht9) ?_
      iterate 5 refine o1 ?_
      refine sim_ops_nil (sim_seq (sim_seq ?_))
      refine sim_joinG (D := Nat × List Int × List Int × Int × Int × Bool × Unit) (fun d => ⟨look [(0, .ints .i64 d.2.1), (1, .ints .i64 d.2.2.1), (5, .int .i64 d.2.2.2.1), (7, .int .i64 d.2.2.2.2.1), (27, .bool d.2.2.2.2.2.1)], look []⟩) (fun d => P.isochroneref01_GCD.j1 d.1 d.2.1 d.2.2.1 d.2.2.2.1 d.2.2.2.2.1 d.2.2.2.2.2.1 = some r ∧ d.1 ≤ m3) ?_ ?_
      · skip
        rintro ⟨kq10, x0, x1, x5, x7, x27, _⟩ ⟨h, b11⟩
        dsimp only at h b11 ⊢
        cases kq10 with
        | zero => exact absurd h (by simp [P.isochroneref01_GCD.j1])
        | succ m12 =>
          simp only [P.isochroneref01_GCD.j1] at h
          refine sim_cond rfl (fun hb => ?_) (fun hb => ?_)
          · skip
            obtain ⟨c13, h⟩ := tkT h hb
            have g14 := hb
            clear hb
            refine sim_seq (sim_block (sim_loop ?_))
            refine simL_ind (D := Int × Int × Unit) (fun d => ⟨look [(5, .int .i64 d.1), (7, .int .i64 d.2.1)], look []⟩) (fun K_ d => P.isochroneref01_GCD.l1 K_ d.1 d.2.1 = some r ∧ K_ ≤ m12) ?_ _ (_, _, ()) ⟨h, by omega⟩ (rel_look _ _ ⟨rfl, rfl, trivial⟩ trivial rfl)
            intro K15 ih16 d h
            obtain ⟨h, b18⟩ := h
            obtain ⟨x5, x7, _⟩ := d
            dsimp only at h b18 ⊢
            cases K15 with
            | zero => exact absurd h (by simp [P.isochroneref01_GCD.l1])
            | succ m17 =>
              simp only [P.isochroneref01_GCD.l1] at h
              refine simL_step (sim_seq (sim_seq (sim_region ?_)))
              iterate 2 refine o1 ?_
              refine sim_ops_nil ?_
              refine sim_cond rfl (fun hb => ?_) (fun hb => ?_)
              · skip
                obtain ⟨c19, h⟩ := tkT h hb
                have g20 := hb
                clear hb
                obtain ⟨q21, h⟩ := ite_none2 h
                refine sim_skip (sim_block (sim_still ?_))
                iterate 6 refine s1 ?_
                refine st_nil ?_
                exact simL_again (ih16 m17 (by omega) (_, _, ()) ⟨h, by omega⟩) ⟨rfl, rfl, trivial⟩ trivial rfl
              · skip
                obtain ⟨c22, h⟩ := tkF h hb
                have g23 := hb
                clear hb
                refine sim_exit (sim_seq (sim_region ?_))
                refine o1 ?_
                obtain ⟨t24, ht25, h⟩ := Option.bind_eq_some_iff.1 h
                refine opC (isochroneref01_Int.v _ _ _ ht25) ?_
                refine o1 ?_
                refine sim_ops_nil ?_
                obtain rfl := Option.some.inj h
                exact sim_ret ⟨.inl rfl, .one (.tmp rt) rfl⟩
          · skip
            obtain ⟨c26, h⟩ := tkF h hb
            have g27 := hb
            clear hb
            refine sim_skip (sim_seq (sim_region ?_))
            iterate 2 refine o1 ?_
            obtain ⟨t28, ht29, h⟩ := Option.bind_eq_some_iff.1 h
            refine opC (isochroneref01_DivMod.v _ _ _ _ ht29) ?_
            iterate 5 refine o1 ?_
            refine sim_ops_nil (sim_region ?_)
            iterate 4 refine o1 ?_
            refine sim_ops_nil ?_
            exact simL_again (ih2 m12 (by omega) (_, _, ()) h) ⟨rfl, rfl, trivial⟩ trivial rfl
      · skip
        refine sim_region ?_
        iterate 2 refine o1 ?_
        refine og rfl rfl rfl rfl (fun hb => ?_) (fun hb => ?_)
        · skip
          obtain ⟨c30, h⟩ := tkT h hb
          have g31 := hb
          clear hb
          refine oT ?_
          refine o1 ?_
          refine sim_ops_nil ?_
          exact ⟨(m3, _, _, _, _, _, ()), ⟨h, by omega⟩, rel_look _ _ ⟨rfl, rfl, rfl, rfl, rfl, trivial⟩ trivial rfl⟩
        · skip
          obtain ⟨c32, h⟩ := tkF h hb
          have g33 := hb
          clear hb
          refine opS ?_
          refine o1 ?_
          refine sim_ops_nil ?_
          exact ⟨(m3, _, _, _, _, _, ()), ⟨h, by omega⟩, rel_look _ _ ⟨rfl, rfl, rfl, rfl, rfl, trivial⟩ trivial rfl⟩
    · skip
      obtain ⟨c34, h⟩ := tkF h hb
      have g35 := hb
      clear hb
      refine sim_exit (sim_seq (sim_region ?_))
      iterate 2 refine o1 ?_
      refine sim_ops_nil ?_
      obtain rfl := Option.some.inj h
      exact sim_ret ⟨.inl rfl, .one (.tmp rt) rfl⟩
instance : FN Tryz.prog 94 := ⟨⟨_, Tryz.func94, by decide, by simp [Tryz.f94]⟩⟩
set_option maxRecDepth 100000 in
set_option maxHeartbeats 4000000 in
theorem isochroneref01_Mul.v (k : Nat) (l0 : List Int) (l1 : List Int) (r : List Int) (h : P.isochroneref01_Mul.f k l0 l1 = some r) : Fn Tryz.prog 94 [.ints .i64 l0, .ints .i64 l1] (.ints .i64 r) := by
  refine fn_of_sim Tryz.func94 rfl (Nat.le_of_ble_eq_true rfl) ?_
  intro X hX
  unfold P.isochroneref01_Mul.f at h
  obtain ⟨q1, h⟩ := ite_none h
  obtain ⟨q2, h⟩ := ite_none h
  refine sim_seq (sim_region ?_)
  refine o1 ?_
  refine sim_ops_nil (sim_seq (sim_region ?_))
  iterate 8 refine o1 ?_
  refine sim_ops_nil (sim_seq (sim_seq (sim_region ?_)))
  iterate 3 refine o1 ?_
  refine sim_ops_nil (sim_block (sim_loop ?_))
  refine simL_ind (D := List Int × List Int × List Int × Int × Int × Unit) (fun d => ⟨look [(1, .ints .i64 d.1), (5, .own 18), (19, .ints .i64 d.2.2.1), (20, .int .i64 d.2.2.2.1), (21, .int .i64 d.2.2.2.2.1)], look [(18, rowI 3 .i64 d.2.1)]⟩) (fun K_ d => P.isochroneref01_Mul.l0 K_ d.1 d.2.1 d.2.2.1 d.2.2.2.1 d.2.2.2.2.1 = some r) ?_ _ (_, _, _, _, _, ()) h (rel_look _ _ ⟨rfl, rfl, rfl, rfl, rfl, trivial⟩ ⟨rfl, trivial⟩ rfl)
  intro K3 ih4 d h
  obtain ⟨x1, x5, x19, x20, x21, _⟩ := d
  dsimp only at h ⊢
  cases K3 with
  | zero => exact absurd h (by simp [P.isochroneref01_Mul.l0])
  | succ m5 =>
    simp only [P.isochroneref01_Mul.l0] at h
    refine simL_step (sim_seq (sim_region ?_))
    refine o1 ?_
    refine sim_ops_nil (sim_seq ?_)
    refine sim_cond rfl (fun hb => ?_) (fun hb => ?_)
    · skip
      obtain ⟨c6, h⟩ := tkT h hb
      have g7 := hb
      clear hb
      obtain ⟨q8, h⟩ := ite_none h
      obtain ⟨q9, h⟩ := ite_none h
      refine sim_skip (sim_seq (sim_block (sim_seq (sim_region ?_))))
      iterate 5 refine o1 ?_
      refine sim_ops_nil (sim_seq (sim_region ?_))
      refine o1 ?_
      refine sim_ops_nil (sim_seq (sim_seq (sim_region ?_)))
      iterate 3 refine o1 ?_
      refine sim_ops_nil (sim_block (sim_loop ?_))
      refine simL_ind (D := List Int × List Int × Int × Int × Int × List Int × Int × Int × List Int × Int × Int × Unit) (fun d => ⟨look [(1, .ints .i64 d.1), (5, .own 18), (6, .int .i64 d.2.2.1), (7, .int .i64 d.2.2.2.1), (8, .int .i64 d.2.2.2.2.1), (19, .ints .i64 d.2.2.2.2.2.1), (20, .int .i64 d.2.2.2.2.2.2.1), (21, .int .i64 d.2.2.2.2.2.2.2.1), (26, .ints .i64 d.2.2.2.2.2.2.2.2.1), (27, .int .i64 d.2.2.2.2.2.2.2.2.2.1), (28, .int .i64 d.2.2.2.2.2.2.2.2.2.2.1)], look [(18, rowI 3 .i64 d.2.1)]⟩) (fun K_ d => P.isochroneref01_Mul.l1 K_ d.1 d.2.1 d.2.2.1 d.2.2.2.1 d.2.2.2.2.1 d.2.2.2.2.2.1 d.2.2.2.2.2.2.1 d.2.2.2.2.2.2.2.1 d.2.2.2.2.2.2.2.2.1 d.2.2.2.2.2.2.2.2.2.1 d.2.2.2.2.2.2.2.2.2.2.1 = some r ∧ K_ ≤ m5) ?_ _ (_, _, _, _, _, _, _, _, _, _, _, ()) ⟨h, by omega⟩ (rel_look _ _ ⟨rfl, rfl, rfl, rfl, rfl, rfl, rfl, rfl, rfl, rfl, rfl, trivial⟩ ⟨rfl, trivial⟩ rfl)
      intro K10 ih11 d h
      obtain ⟨h, b13⟩ := h
      obtain ⟨x1, x5, x6, x7, x8, x19, x20, x21, x26, x27, x28, _⟩ := d
      dsimp only at h b13 ⊢
      cases K10 with
      | zero => exact absurd h (by simp [P.isochroneref01_Mul.l1])
      | succ m12 =>
        simp only [P.isochroneref01_Mul.l1] at h
        refine simL_step (sim_seq (sim_region ?_))
        refine o1 ?_
        refine sim_ops_nil (sim_seq ?_)
        refine sim_cond rfl (fun hb => ?_) (fun hb => ?_)
        · skip
          obtain ⟨c14, h⟩ := tkT h hb
          have g15 := hb
          clear hb
          obtain ⟨q16, h⟩ := ite_none h
          obtain ⟨q17, h⟩ := ite_none h
          obtain ⟨q18, h⟩ := ite_none h
          obtain ⟨q19, h⟩ := ite_none h
          refine sim_skip (sim_seq (sim_block (sim_seq (sim_region ?_))))
          iterate 5 refine o1 ?_
          refine sim_ops_nil (sim_seq (sim_region ?_))
          iterate 13 refine o1 ?_
          refine sim_ops_nil (sim_seq (sim_region ?_))
          iterate 8 refine o1 ?_
          refine sim_ops_nil (sim_region ?_)
          iterate 3 refine o1 ?_
          refine sim_ops_nil (sim_region ?_)
          iterate 2 refine o1 ?_
          refine sim_ops_nil ?_
          exact simL_again (ih11 m12 (by omega) (_, _, _, _, _, _, _, _, _, _, _, ()) ⟨h, by omega⟩) ⟨rfl, rfl, rfl, rfl, rfl, rfl, rfl, rfl, rfl, rfl, rfl, trivial⟩ ⟨rfl, trivial⟩ rfl
        · skip
          obtain ⟨c20, h⟩ := tkF h hb
          have g21 := hb
          clear hb
          refine sim_exit (sim_seq (sim_region ?_))
          iterate 5 refine o1 ?_
          refine sim_ops_nil (sim_block (sim_loop ?_))
          refine simL_ind (D := List Int × List Int × Int × Int × List Int × Int × Int × Unit) (fun d => ⟨look [(1, .ints .i64 d.1), (5, .own 18), (8, .int .i64 d.2.2.1), (11, .int .i64 d.2.2.2.1), (19, .ints .i64 d.2.2.2.2.1), (20, .int .i64 d.2.2.2.2.2.1), (21, .int .i64 d.2.2.2.2.2.2.1)], look [(18, rowI 3 .i64 d.2.1)]⟩) (fun K_ d => P.isochroneref01_Mul.l2 K_ d.1 d.2.1 d.2.2.1 d.2.2.2.1 d.2.2.2.2.1 d.2.2.2.2.2.1 d.2.2.2.2.2.2.1 = some r ∧ K_ ≤ m12) ?_ _ (_, _, _, _, _, _, _, ()) ⟨h, by omega⟩ (rel_look _ _ ⟨rfl, rfl, rfl, rfl, rfl, rfl, rfl, trivial⟩ ⟨rfl, trivial⟩ rfl)
          intro K22 ih23 d h
          obtain ⟨h, b25⟩ := h
          obtain ⟨x1, x5, x8, x11, x19, x20, x21, _⟩ := d
          dsimp only at h b25 ⊢
          cases K22 with
          | zero => exact absurd h (by simp [P.isochroneref01_Mul.l2])
          | succ m24 =>
            simp only [P.isochroneref01_Mul.l2] at h
            refine simL_step (sim_seq (sim_seq (sim_region ?_)))
            iterate 2 refine o1 ?_
            refine sim_ops_nil ?_
            refine sim_cond rfl (fun hb => ?_) (fun hb => ?_)
            · skip
              obtain ⟨c26, h⟩ := tkT h hb
              have g27 := hb
              clear hb
              obtain ⟨q28, h⟩ := ite_none h
              obtain ⟨q29, h⟩ := ite_none h
              refine sim_skip (sim_seq (sim_block (sim_seq (sim_region ?_))))
              iterate 7 refine o1 ?_
              refine sim_ops_nil (sim_seq (sim_region ?_))
              iterate 6 refine o1 ?_
              refine sim_ops_nil (sim_region ?_)
              iterate 3 refine o1 ?_
              refine sim_ops_nil (sim_region ?_)
              iterate 3 refine o1 ?_
              refine sim_ops_nil ?_
              exact simL_again (ih23 m24 (by omega) (_, _, _, _, _, _, _, ()) ⟨h, by omega⟩) ⟨rfl, rfl, rfl, rfl, rfl, rfl, rfl, trivial⟩ ⟨rfl, trivial⟩ rfl
            · skip
              obtain ⟨c30, h⟩ := tkF h hb
              have g31 := hb
              clear hb
              refine sim_exit (sim_region ?_)
              iterate 2 refine o1 ?_
              refine sim_ops_nil ?_
              exact simL_again (ih4 m24 (by omega) (_, _, _, _, _, ()) h) ⟨rfl, rfl, rfl, rfl, rfl, trivial⟩ ⟨rfl, trivial⟩ rfl
    · skip
      obtain ⟨c32, h⟩ := tkF h hb
      have g33 := hb
      clear hb
      refine sim_exit (sim_seq ?_)
      refine sim_weak (rel_freeze (k := 18) rfl) ?_
      refine sim_region ?_
      refine o1 ?_
      obtain ⟨t34, ht35, h⟩ := Option.bind_eq_some_iff.1 h
      refine opC (isochroneref01_trim.v _ _ _ ht35) ?_
      refine o1 ?_
      refine sim_ops_nil ?_
      obtain rfl := Option.some.inj h
      exact sim_ret ⟨.inl rfl, .one (.tmp rt) rfl⟩
instance : FN Tryz.prog 96 := ⟨⟨_, Tryz.func96, by decide, by simp [Tryz.f96]⟩⟩
set_option maxRecDepth 100000 in
set_option maxHeartbeats 4000000 in
theorem isochroneref01_Add.v (k : Nat) (l0 : List Int) (l1 : List Int) (r : List Int) (h : P.isochroneref01_Add.f k l0 l1 = some r) : Fn Tryz.prog 96 [.ints .i64 l0, .ints .i64 l1] (.ints .i64 r) := by
  refine fn_of_sim Tryz.func96 rfl (Nat.le_of_ble_eq_true rfl) ?_
  intro X hX
  unfold P.isochroneref01_Add.f at h
  refine sim_seq (sim_region ?_)
  refine o1 ?_
  refine sim_ops_nil (sim_seq (sim_region ?_))
  refine sim_ops_cons rfl (x_none 3 .i64 (.inr rfl) rfl rfl (ib hX (by decide))) ?_
  refine sim_ops_nil (sim_seq (sim_region ?_))
  refine o1 ?_
  refine sim_ops_nil (sim_seq (sim_seq (sim_region ?_)))
  refine o1 ?_
  refine sim_ops_nil (sim_block (sim_loop ?_))
  refine simL_ind (D := List Int × List Int × List Int × Int × Int × Unit) (fun d => ⟨look [(0, .ints .i64 d.1), (1, .ints .i64 d.2.1), (5, .own 5), (6, .int .i64 d.2.2.2.1), (7, .int .i64 d.2.2.2.2.1)], look [(5, rowI 3 .i64 d.2.2.1)]⟩) (fun K_ d => P.isochroneref01_Add.l0 K_ d.1 d.2.1 d.2.2.1 d.2.2.2.1 d.2.2.2.2.1 = some r) ?_ _ (_, _, _, _, _, ()) h (rel_look _ _ ⟨rfl, rfl, rfl, rfl, rfl, trivial⟩ ⟨rfl, trivial⟩ rfl)
  intro K1 ih2 d h
  obtain ⟨x0, x1, x5, x6, x7, _⟩ := d
  dsimp only at h ⊢
  cases K1 with
  | zero => exact absurd h (by simp [P.isochroneref01_Add.l0])
  | succ m3 =>
    simp only [P.isochroneref01_Add.l0] at h
    refine simL_step (sim_seq (sim_seq ?_))
    refine sim_joinG (D := Nat × List Int × List Int × List Int × Int × Int × Bool × Unit) (fun d => ⟨look [(0, .ints .i64 d.2.1), (1, .ints .i64 d.2.2.1), (5, .own 5), (6, .int .i64 d.2.2.2.2.1), (7, .int .i64 d.2.2.2.2.2.1), (21, .bool d.2.2.2.2.2.2.1)], look [(5, rowI 3 .i64 d.2.2.2.1)]⟩) (fun d => P.isochroneref01_Add.j1 d.1 d.2.1 d.2.2.1 d.2.2.2.1 d.2.2.2.2.1 d.2.2.2.2.2.1 d.2.2.2.2.2.2.1 = some r ∧ d.1 ≤ m3) ?_ ?_
    · skip
      rintro ⟨kq4, x0, x1, x5, x6, x7, x21, _⟩ ⟨h, b5⟩
      dsimp only at h b5 ⊢
      cases kq4 with
      | zero => exact absurd h (by simp [P.isochroneref01_Add.j1])
      | succ m6 =>
        simp only [P.isochroneref01_Add.j1] at h
        refine sim_cond rfl (fun hb => ?_) (fun hb => ?_)
        · skip
          obtain ⟨c7, h⟩ := tkT h hb
          have g8 := hb
          clear hb
          refine sim_skip (sim_seq (sim_block (sim_seq (sim_seq (sim_region ?_)))))
          iterate 4 refine o1 ?_
          refine sim_ops_nil ?_
          refine sim_cond rfl (fun hb => ?_) (fun hb => ?_)
          · skip
            obtain ⟨c9, h⟩ := tkT h hb
            have g10 := hb
            clear hb
            obtain ⟨q11, h⟩ := ite_none h
            refine sim_region ?_
            iterate 7 refine o1 ?_
            refine sim_ops_nil (sim_seq (sim_seq (sim_region ?_)))
            iterate 4 refine o1 ?_
            refine sim_ops_nil ?_
            refine sim_cond rfl (fun hb => ?_) (fun hb => ?_)
            · skip
              obtain ⟨c12, h⟩ := tkT h hb
              have g13 := hb
              clear hb
              obtain ⟨q14, h⟩ := ite_none h
              refine sim_region ?_
              iterate 7 refine o1 ?_
              refine sim_ops_nil (sim_seq (sim_region ?_))
              iterate 6 refine o1 ?_
              refine sim_ops_nil (sim_region ?_)
              iterate 3 refine o1 ?_
              refine sim_ops_nil (sim_region ?_)
              iterate 3 refine o1 ?_
              refine sim_ops_nil ?_
              exact simL_again (ih2 m6 (by omega) (_, _, _, _, _, ()) h) ⟨rfl, rfl, rfl, rfl, rfl, trivial⟩ ⟨rfl, trivial⟩ rfl
            · skip
              obtain ⟨c15, h⟩ := tkF h hb
              have g16 := hb
              clear hb
              obtain ⟨q17, h⟩ := ite_none h
              refine sim_skip (sim_seq (sim_region ?_))
              iterate 6 refine o1 ?_
              refine sim_ops_nil (sim_region ?_)
              iterate 3 refine o1 ?_
              refine sim_ops_nil (sim_region ?_)
              iterate 3 refine o1 ?_
              refine sim_ops_nil ?_
              exact simL_again (ih2 m6 (by omega) (_, _, _, _, _, ()) h) ⟨rfl, rfl, rfl, rfl, rfl, trivial⟩ ⟨rfl, trivial⟩ rfl
          · skip
            obtain ⟨c18, h⟩ := tkF h hb
            have g19 := hb
            clear hb
            refine sim_skip (sim_seq (sim_seq (sim_region ?_)))
            iterate 4 refine o1 ?_
            refine sim_ops_nil ?_
            refine sim_cond rfl (fun hb => ?_) (fun hb => ?_)
            · skip
              obtain ⟨c20, h⟩ := tkT h hb
              have g21 := hb
              clear hb
              obtain ⟨q22, h⟩ := ite_none h
              obtain ⟨q23, h⟩ := ite_none h
              refine sim_region ?_
              iterate 7 refine o1 ?_
              refine sim_ops_nil (sim_seq (sim_region ?_))
              iterate 6 refine o1 ?_
              refine sim_ops_nil (sim_region ?_)
              iterate 3 refine o1 ?_
              refine sim_ops_nil (sim_region ?_)
              iterate 3 refine o1 ?_
              refine sim_ops_nil ?_
              exact simL_again (ih2 m6 (by omega) (_, _, _, _, _, ()) h) ⟨rfl, rfl, rfl, rfl, rfl, trivial⟩ ⟨rfl, trivial⟩ rfl
            · skip
              obtain ⟨c24, h⟩ := tkF h hb
              have g25 := hb
              clear hb
              obtain ⟨q26, h⟩ := ite_none h
              refine sim_skip (sim_seq (sim_region ?_))
              iterate 6 refine o1 ?_
              refine sim_ops_nil (sim_region ?_)
              iterate 3 refine o1 ?_
              refine sim_ops_nil (sim_region ?_)
              iterate 3 refine o1 ?_
              refine sim_ops_nil ?_
              exact simL_again (ih2 m6 (by omega) (_, _, _, _, _, ()) h) ⟨rfl, rfl, rfl, rfl, rfl, trivial⟩ ⟨rfl, trivial⟩ rfl
        · skip
          obtain ⟨c27, h⟩ := tkF h hb
          have g28 := hb
          clear hb
          refine sim_exit (sim_seq (sim_region ?_))
          iterate 2 refine o1 ?_
          refine sim_ops_nil ?_
          refine sim_weak (rel_freeze (k := 5) rfl) ?_
          obtain rfl := Option.some.inj h
          exact sim_ret ⟨.inl rfl, .one (.tmp rt) rfl⟩
    · skip
      refine sim_region ?_
      iterate 5 refine o1 ?_
      refine og rfl rfl rfl rfl (fun hb => ?_) (fun hb => ?_)
      · skip
        obtain ⟨c29, h⟩ := tkF h hb
        have g30 := hb
        clear hb
        iterate 4 refine oT ?_
        iterate 2 refine o1 ?_
        refine og rfl rfl rfl rfl (fun hb => ?_) (fun hb => ?_)
        · skip
          obtain ⟨c31, h⟩ := tkF h hb
          have g32 := hb
          clear hb
          iterate 2 refine oT ?_
          refine o1 ?_
          refine sim_ops_nil ?_
          exact ⟨(m3, _, _, _, _, _, _, ()), ⟨h, by omega⟩, rel_look _ _ ⟨rfl, rfl, rfl, rfl, rfl, rfl, trivial⟩ ⟨rfl, trivial⟩ rfl⟩
        · skip
          obtain ⟨c33, h⟩ := tkT h hb
          have g34 := hb
          clear hb
          iterate 2 refine opS ?_
          refine o1 ?_
          refine sim_ops_nil ?_
          exact ⟨(m3, _, _, _, _, _, _, ()), ⟨h, by omega⟩, rel_look _ _ ⟨rfl, rfl, rfl, rfl, rfl, rfl, trivial⟩ ⟨rfl, trivial⟩ rfl⟩
      · skip
        obtain ⟨c35, h⟩ := tkT h hb
        have g36 := hb
        clear hb
        iterate 4 refine opS ?_
        iterate 2 refine o1 ?_
        iterate 2 refine opS ?_
        refine o1 ?_
        refine sim_ops_nil ?_
        exact ⟨(m3, _, _, _, _, _, _, ()), ⟨h, by omega⟩, rel_look _ _ ⟨rfl, rfl, rfl, rfl, rfl, rfl, trivial⟩ ⟨rfl, trivial⟩ rfl⟩
instance : FN Tryz.prog 102 := ⟨⟨_, Tryz.func102, by decide, by simp [Tryz.f102]⟩⟩
set_option maxRecDepth 100000 in
set_option maxHeartbeats 4000000 in
theorem slices_Equal_uint32_uint32.v (k : Nat) (l0 : List Int) (l1 : List Int) (r : Bool) (h : P.slices_Equal_uint32_uint32.f k l0 l1 = some r) : Fn Tryz.prog 102 [.ints .u32 l0, .ints .u32 l1] (.bool r) := by
  refine fn_of_sim Tryz.func102 rfl (Nat.le_of_ble_eq_true rfl) ?_
  intro X hX
  unfold P.slices_Equal_uint32_uint32.f at h
  refine sim_seq (sim_region ?_)
  refine o1 ?_
  refine sim_ops_nil (sim_seq (sim_seq (sim_region ?_)))
  iterate 5 refine o1 ?_
  refine sim_ops_nil ?_
  refine sim_cond rfl (fun hb => ?_) (fun hb => ?_)
  · skip
    obtain ⟨c1, h⟩ := tkF h hb
    have g2 := hb
    clear hb
    refine sim_seq (sim_region ?_)
    refine o1 ?_
    refine sim_ops_nil ?_
    obtain rfl := Option.some.inj h
    exact sim_ret ⟨.inl rfl, .one (.tmp rt) rfl⟩
  · skip
    obtain ⟨c3, h⟩ := tkT h hb
    have g4 := hb
    clear hb
    refine sim_skip (sim_seq (sim_seq (sim_region ?_)))
    iterate 3 refine o1 ?_
    refine sim_ops_nil (sim_block (sim_loop ?_))
    refine simL_ind (D := List Int × List Int × Int × Int × Unit) (fun d => ⟨look [(0, .ints .u32 d.1), (1, .ints .u32 d.2.1), (12, .int .i64 d.2.2.1), (13, .int .i64 d.2.2.2.1)], look []⟩) (fun K_ d => P.slices_Equal_uint32_uint32.l0 K_ d.1 d.2.1 d.2.2.1 d.2.2.2.1 = some r) ?_ _ (_, _, _, _, ()) h (rel_look _ _ ⟨rfl, rfl, rfl, rfl, trivial⟩ trivial rfl)
    intro K5 ih6 d h
    obtain ⟨x0, x1, x12, x13, _⟩ := d
    dsimp only at h ⊢
    cases K5 with
    | zero => exact absurd h (by simp [P.slices_Equal_uint32_uint32.l0])
    | succ m7 =>
      simp only [P.slices_Equal_uint32_uint32.l0] at h
      refine simL_step (sim_seq (sim_region ?_))
      refine o1 ?_
      refine sim_ops_nil (sim_seq ?_)
      refine sim_cond rfl (fun hb => ?_) (fun hb => ?_)
      · skip
        obtain ⟨c8, h⟩ := tkT h hb
        have g9 := hb
        clear hb
        obtain ⟨q10, h⟩ := ite_none h
        obtain ⟨q11, h⟩ := ite_none h
        obtain ⟨q12, h⟩ := ite_none h
        refine sim_skip (sim_seq (sim_block (sim_seq (sim_region ?_))))
        iterate 2 refine o1 ?_
        refine sim_ops_nil (sim_seq (sim_still ?_))
        iterate 9 refine s1 ?_
        refine st_nil ?_
        refine sim_cond rfl (fun hb => ?_) (fun hb => ?_)
        · skip
          obtain ⟨c13, h⟩ := tkF h hb
          have g14 := hb
          clear hb
          refine sim_seq (sim_region ?_)
          refine o1 ?_
          refine sim_ops_nil ?_
          obtain rfl := Option.some.inj h
          exact sim_ret ⟨.inl rfl, .one (.tmp rt) rfl⟩
        · skip
          obtain ⟨c15, h⟩ := tkT h hb
          have g16 := hb
          clear hb
          refine sim_skip (sim_region ?_)
          iterate 2 refine o1 ?_
          refine sim_ops_nil ?_
          exact simL_again (ih6 m7 (by omega) (_, _, _, _, ()) h) ⟨rfl, rfl, rfl, rfl, trivial⟩ trivial rfl
      · skip
        obtain ⟨c17, h⟩ := tkF h hb
        have g18 := hb
        clear hb
        refine sim_exit (sim_seq (sim_region ?_))
        refine o1 ?_
        refine sim_ops_nil ?_
        obtain rfl := Option.some.inj h
        exact sim_ret ⟨.inl rfl, .one (.tmp rt) rfl⟩
instance : FN Tryz.prog 74 := ⟨⟨_, Tryz.func74, by decide, by simp [Tryz.f74]⟩⟩
set_option maxRecDepth 100000 in
set_option maxHeartbeats 4000000 in
theorem isochroneref01_Pow.v (k : Nat) (l0 : List Int) (a1 : Int) (r : List Int) (h : P.isochroneref01_Pow.f k l0 a1 = some r) : Fn Tryz.prog 74 [.ints .i64 l0, .int .i64 a1] (.ints .i64 r) := by
  refine fn_of_sim Tryz.func74 rfl (Nat.le_of_ble_eq_true rfl) ?_
  intro X hX
  unfold P.isochroneref01_Pow.f at h
  refine sim_seq (sim_region ?_)
  refine o1 ?_
  refine sim_ops_nil (sim_seq (sim_region ?_))
  iterate 2 refine o1 ?_
  refine sim_ops_nil (sim_seq (sim_seq (sim_region ?_)))
  iterate 2 refine o1 ?_
  refine sim_ops_nil (sim_block (sim_loop ?_))
  refine simL_ind (D := List Int × List Int × Int × Int × Unit) (fun d => ⟨look [(0, .ints .i64 d.1), (5, .ints .i64 d.2.1), (7, .int .i64 d.2.2.1), (8, .int .i64 d.2.2.2.1)], look []⟩) (fun K_ d => P.isochroneref01_Pow.l0 K_ d.1 d.2.1 d.2.2.1 d.2.2.2.1 = some r) ?_ _ (_, _, _, _, ()) h (rel_look _ _ ⟨rfl, rfl, rfl, rfl, trivial⟩ trivial rfl)
  intro K1 ih2 d h
  obtain ⟨x0, x5, x7, x8, _⟩ := d
  dsimp only at h ⊢
  cases K1 with
  | zero => exact absurd h (by simp [P.isochroneref01_Pow.l0])
  | succ m3 =>
    simp only [P.isochroneref01_Pow.l0] at h
    refine simL_step (sim_seq (sim_region ?_))
    refine o1 ?_
    refine sim_ops_nil (sim_seq ?_)
    refine sim_cond rfl (fun hb => ?_) (fun hb => ?_)
    · skip
      obtain ⟨c4, h⟩ := tkT h hb
      have g5 := hb
      clear hb
      refine sim_skip (sim_seq (sim_block (sim_region ?_)))
      iterate 2 refine o1 ?_
      obtain ⟨t6, ht7, h⟩ := Option.bind_eq_some_iff.1 h
      refine opC (isochroneref01_Mul.v _ _ _ _ ht7) ?_
      refine o1 ?_
      refine sim_ops_nil (sim_region ?_)
      iterate 2 refine o1 ?_
      refine sim_ops_nil ?_
      exact simL_again (ih2 m3 (by omega) (_, _, _, _, ()) h) ⟨rfl, rfl, rfl, rfl, trivial⟩ trivial rfl
    · skip
      obtain ⟨c8, h⟩ := tkF h hb
      have g9 := hb
      clear hb
      refine sim_exit (sim_seq (sim_region ?_))
      iterate 2 refine o1 ?_
      refine sim_ops_nil ?_
      obtain rfl := Option.some.inj h
      exact sim_ret ⟨.inl rfl, .one (.tmp rt) rfl⟩
end Go.Proofs.YtjimdhlmeebjeaaGreat.V
end
section
namespace Go.Proofs.YtjimdhlmeebjeaaGreat.E
open Go.RowKit Go.Proofs.YtjimdhlmeebjeaaGreatW.PrintWords Go.Proofs.YtjimdhlmeebjeaaGreatW.PrintMore Go.Proofs.YtjimdhlmeebjeaaGreat.V
set_option linter.unusedVariables false
noncomputable def orc_isochroneref01_Add : Orc T := orc2 (.list (.int .i64)) (.list (.int .i64)) (.list (.int .i64)) (fun k a0 a1 => P.isochroneref01_Add.f k a0 a1)
theorem orc_isochroneref01_Add_good : OrcGood T (96, orc_isochroneref01_Add) := orc2_good rfl (FN.h (P := Tryz.prog)) fun k a0 a1 r h => by
    have q := isochroneref01_Add.v k a0 a1 r h
    simp only [ints_pv] at q
    exact ⟨_, rfl, q⟩
noncomputable def orc_isochroneref01_Cmp : Orc T := orc2 (.list (.int .i64)) (.list (.int .i64)) (.int .i64) (fun k a0 a1 => P.isochroneref01_Cmp.f k a0 a1)
theorem orc_isochroneref01_Cmp_good : OrcGood T (72, orc_isochroneref01_Cmp) := orc2_good rfl (FN.h (P := Tryz.prog)) fun k a0 a1 r h => by
    have q := isochroneref01_Cmp.v k a0 a1 r h
    simp only [ints_pv] at q
    exact ⟨_, rfl, q⟩
noncomputable def orc_isochroneref01_DivMod : Orc T := orc2 (.list (.int .i64)) (.list (.int .i64)) (.pair (.list (.int .i64)) (.pair (.list (.int .i64)) .unit)) (fun k a0 a1 => (P.isochroneref01_DivMod.f k a0 a1).map fun r => (r.1, r.2, ()))
theorem orc_isochroneref01_DivMod_good : OrcGood T (104, orc_isochroneref01_DivMod) := orc2_good rfl (FN.h (P := Tryz.prog)) fun k a0 a1 r h => by
    obtain ⟨r1, h1, rfl⟩ := Option.map_eq_some_iff.1 h
    have q := isochroneref01_DivMod.v k a0 a1 r1 h1
    simp only [ints_pv] at q
    exact ⟨_, rfl, q⟩
noncomputable def orc_isochroneref01_GCD : Orc T := orc2 (.list (.int .i64)) (.list (.int .i64)) (.list (.int .i64)) (fun k a0 a1 => P.isochroneref01_GCD.f k a0 a1)
theorem orc_isochroneref01_GCD_good : OrcGood T (73, orc_isochroneref01_GCD) := orc2_good rfl (FN.h (P := Tryz.prog)) fun k a0 a1 r h => by
    have q := isochroneref01_GCD.v k a0 a1 r h
    simp only [ints_pv] at q
    exact ⟨_, rfl, q⟩
noncomputable def orc_isochroneref01_Int : Orc T := orc1 (.int .i64) (.list (.int .i64)) (fun k a0 => P.isochroneref01_Int.f k a0)
theorem orc_isochroneref01_Int_good : OrcGood T (66, orc_isochroneref01_Int) := orc1_good rfl (FN.h (P := Tryz.prog)) fun k a0 r h => by
    have q := isochroneref01_Int.v k a0 r h
    simp only [ints_pv] at q
    exact ⟨_, rfl, q⟩
noncomputable def orc_isochroneref01_Mul : Orc T := orc2 (.list (.int .i64)) (.list (.int .i64)) (.list (.int .i64)) (fun k a0 a1 => P.isochroneref01_Mul.f k a0 a1)
theorem orc_isochroneref01_Mul_good : OrcGood T (94, orc_isochroneref01_Mul) := orc2_good rfl (FN.h (P := Tryz.prog)) fun k a0 a1 r h => by
    have q := isochroneref01_Mul.v k a0 a1 r h
    simp only [ints_pv] at q
    exact ⟨_, rfl, q⟩
noncomputable def orc_isochroneref01_Pow : Orc T := orc2 (.list (.int .i64)) (.int .i64) (.list (.int .i64)) (fun k a0 a1 => P.isochroneref01_Pow.f k a0 a1)
theorem orc_isochroneref01_Pow_good : OrcGood T (74, orc_isochroneref01_Pow) := orc2_good rfl (FN.h (P := Tryz.prog)) fun k a0 a1 r h => by
    have q := isochroneref01_Pow.v k a0 a1 r h
    simp only [ints_pv] at q
    exact ⟨_, rfl, q⟩
noncomputable def orc_isochroneref01_Small : Orc T := orc3 (.list (.int .i64)) (.int .i64) (.int .i64) (.list (.int .i64)) (fun k a0 a1 a2 => P.isochroneref01_Small.f k a0 a1 a2)
theorem orc_isochroneref01_Small_good : OrcGood T (80, orc_isochroneref01_Small) := orc3_good rfl (FN.h (P := Tryz.prog)) fun k a0 a1 a2 r h => by
    have q := isochroneref01_Small.v k a0 a1 a2 r h
    simp only [ints_pv] at q
    exact ⟨_, rfl, q⟩
noncomputable def orc_isochroneref01_Sub : Orc T := orc2 (.list (.int .i64)) (.list (.int .i64)) (.list (.int .i64)) (fun k a0 a1 => P.isochroneref01_Sub.f k a0 a1)
theorem orc_isochroneref01_Sub_good : OrcGood T (97, orc_isochroneref01_Sub) := orc2_good rfl (FN.h (P := Tryz.prog)) fun k a0 a1 r h => by
    have q := isochroneref01_Sub.v k a0 a1 r h
    simp only [ints_pv] at q
    exact ⟨_, rfl, q⟩
noncomputable def orc_isochroneref01_Valid : Orc T := orc1 (.list (.int .u32)) .bool (fun k a0 => P.isochroneref01_Valid.f a0)
theorem orc_isochroneref01_Valid_good : OrcGood T (71, orc_isochroneref01_Valid) := orc1_good rfl (FN.h (P := Tryz.prog)) fun k a0 r h => by
    have q := isochroneref01_Valid.v a0 r h
    simp only [ints_pv] at q
    exact ⟨_, rfl, q⟩
noncomputable def orc_isochroneref01_Words : Orc T := orc1 (.list (.int .i64)) (.list (.int .u32)) (fun k a0 => P.isochroneref01_Words.f k a0)
theorem orc_isochroneref01_Words_good : OrcGood T (43, orc_isochroneref01_Words) := orc1_good rfl (FN.h (P := Tryz.prog)) fun k a0 r h => by
    have q := isochroneref01_Words.v k a0 r h
    simp only [ints_pv] at q
    exact ⟨_, rfl, q⟩
noncomputable def orc_mag_Add : Orc T := orc2 (.list (.int .u32)) (.list (.int .u32)) (.list (.int .u32)) (fun k a0 a1 => P.mag_Add.f k a0 a1)
theorem orc_mag_Add_good : OrcGood T (92, orc_mag_Add) := orc2_good rfl (FN.h (P := Tryz.prog)) fun k a0 a1 r h => by
    have q := mag_Add.v k a0 a1 r h
    simp only [ints_pv] at q
    exact ⟨_, rfl, q⟩
noncomputable def orc_mag_Bits : Orc T := orc1 (.list (.int .u32)) (.int .i64) (fun k a0 => P.mag_Bits.f a0)
theorem orc_mag_Bits_good : OrcGood T (133, orc_mag_Bits) := orc1_good rfl (FN.h (P := Tryz.prog)) fun k a0 r h => by
    have q := mag_Bits.v a0 r h
    simp only [ints_pv] at q
    exact ⟨_, rfl, q⟩
noncomputable def orc_mag_Cmp : Orc T := orc2 (.list (.int .u32)) (.list (.int .u32)) (.int .i64) (fun k a0 a1 => P.mag_Cmp.f k a0 a1)
theorem orc_mag_Cmp_good : OrcGood T (89, orc_mag_Cmp) := orc2_good rfl (FN.h (P := Tryz.prog)) fun k a0 a1 r h => by
    have q := mag_Cmp.v k a0 a1 r h
    simp only [ints_pv] at q
    exact ⟨_, rfl, q⟩
noncomputable def orc_mag_DivMod : Orc T := orc2 (.list (.int .u32)) (.list (.int .u32)) (.pair (.list (.int .u32)) (.pair (.list (.int .u32)) .unit)) (fun k a0 a1 => (P.mag_DivMod.f k a0 a1).map fun r => (r.1, r.2, ()))
theorem orc_mag_DivMod_good : OrcGood T (117, orc_mag_DivMod) := orc2_good rfl (FN.h (P := Tryz.prog)) fun k a0 a1 r h => by
    obtain ⟨r1, h1, rfl⟩ := Option.map_eq_some_iff.1 h
    have q := mag_DivMod.v k a0 a1 r1 h1
    simp only [ints_pv] at q
    exact ⟨_, rfl, q⟩
noncomputable def orc_mag_From : Orc T := orc1 (.int .u64) (.list (.int .u32)) (fun k a0 => P.mag_From.f k a0)
theorem orc_mag_From_good : OrcGood T (98, orc_mag_From) := orc1_good rfl (FN.h (P := Tryz.prog)) fun k a0 r h => by
    have q := mag_From.v k a0 r h
    simp only [ints_pv] at q
    exact ⟨_, rfl, q⟩
noncomputable def orc_mag_GCD : Orc T := orc2 (.list (.int .u32)) (.list (.int .u32)) (.list (.int .u32)) (fun k a0 a1 => P.mag_GCD.f k a0 a1)
theorem orc_mag_GCD_good : OrcGood T (106, orc_mag_GCD) := orc2_good rfl (FN.h (P := Tryz.prog)) fun k a0 a1 r h => by
    have q := mag_GCD.v k a0 a1 r h
    simp only [ints_pv] at q
    exact ⟨_, rfl, q⟩
noncomputable def orc_mag_Mul : Orc T := orc2 (.list (.int .u32)) (.list (.int .u32)) (.list (.int .u32)) (fun k a0 a1 => P.mag_Mul.f k a0 a1)
theorem orc_mag_Mul_good : OrcGood T (90, orc_mag_Mul) := orc2_good rfl (FN.h (P := Tryz.prog)) fun k a0 a1 r h => by
    have q := mag_Mul.v k a0 a1 r h
    simp only [ints_pv] at q
    exact ⟨_, rfl, q⟩
noncomputable def orc_mag_Shl : Orc T := orc2 (.list (.int .u32)) (.int .i64) (.list (.int .u32)) (fun k a0 a1 => P.mag_Shl.f k a0 a1)
theorem orc_mag_Shl_good : OrcGood T (129, orc_mag_Shl) := orc2_good rfl (FN.h (P := Tryz.prog)) fun k a0 a1 r h => by
    have q := mag_Shl.v k a0 a1 r h
    simp only [ints_pv] at q
    exact ⟨_, rfl, q⟩
noncomputable def orc_mag_Sub : Orc T := orc2 (.list (.int .u32)) (.list (.int .u32)) (.list (.int .u32)) (fun k a0 a1 => P.mag_Sub.f k a0 a1)
theorem orc_mag_Sub_good : OrcGood T (93, orc_mag_Sub) := orc2_good rfl (FN.h (P := Tryz.prog)) fun k a0 a1 r h => by
    have q := mag_Sub.v k a0 a1 r h
    simp only [ints_pv] at q
    exact ⟨_, rfl, q⟩
noncomputable def orc_slices_Equal_uint32_uint32 : Orc T := orc2 (.list (.int .u32)) (.list (.int .u32)) .bool (fun k a0 a1 => P.slices_Equal_uint32_uint32.f k a0 a1)
theorem orc_slices_Equal_uint32_uint32_good : OrcGood T (102, orc_slices_Equal_uint32_uint32) := orc2_good rfl (FN.h (P := Tryz.prog)) fun k a0 a1 r h => by
    have q := slices_Equal_uint32_uint32.v k a0 a1 r h
    simp only [ints_pv] at q
    exact ⟨_, rfl, q⟩
noncomputable def orcA : List (Nat × Orc T) := [(96, orc_isochroneref01_Add), (72, orc_isochroneref01_Cmp), (104, orc_isochroneref01_DivMod), (73, orc_isochroneref01_GCD), (66, orc_isochroneref01_Int), (94, orc_isochroneref01_Mul), (74, orc_isochroneref01_Pow), (80, orc_isochroneref01_Small), (97, orc_isochroneref01_Sub), (71, orc_isochroneref01_Valid), (43, orc_isochroneref01_Words), (92, orc_mag_Add), (133, orc_mag_Bits), (89, orc_mag_Cmp), (117, orc_mag_DivMod), (98, orc_mag_From), (106, orc_mag_GCD), (90, orc_mag_Mul), (129, orc_mag_Shl), (93, orc_mag_Sub), (102, orc_slices_Equal_uint32_uint32)]
theorem orcA_good : ∀ x ∈ orcA, OrcGood T x := by
  simp only [orcA, List.mem_cons, List.not_mem_nil, or_false, forall_eq_or_imp, forall_eq]
  exact ⟨orc_isochroneref01_Add_good, orc_isochroneref01_Cmp_good, orc_isochroneref01_DivMod_good, orc_isochroneref01_GCD_good, orc_isochroneref01_Int_good, orc_isochroneref01_Mul_good, orc_isochroneref01_Pow_good, orc_isochroneref01_Small_good, orc_isochroneref01_Sub_good, orc_isochroneref01_Valid_good, orc_isochroneref01_Words_good, orc_mag_Add_good, orc_mag_Bits_good, orc_mag_Cmp_good, orc_mag_DivMod_good, orc_mag_From_good, orc_mag_GCD_good, orc_mag_Mul_good, orc_mag_Shl_good, orc_mag_Sub_good, orc_slices_Equal_uint32_uint32_good⟩
end Go.Proofs.YtjimdhlmeebjeaaGreat.E
end
section
namespace Go.Proofs.YtjimdhlmeebjeaaGreat.E
abbrev RatD := Bool × List Int × List Int × Unit
noncomputable def orc : List (Nat × Orc T) := orcA
theorem orc_ok : OrcOk T orc := orcOk_of orcA_good
end Go.Proofs.YtjimdhlmeebjeaaGreat.E
end
section
namespace Go.Proofs.YtjimdhlmeebjeaaGreat.Q
open Go.RowKit Go.Proofs.YtjimdhlmeebjeaaGreatW.PrintWords Go.Proofs.YtjimdhlmeebjeaaGreatW.PrintMore Go.Proofs.YtjimdhlmeebjeaaGreat.V Go.Proofs.YtjimdhlmeebjeaaGreat.E
set_option linter.unusedVariables false
abbrev LineD := List RatD × Int × RatD × Unit
noncomputable def isochronelaw05_LinearWitnesses (k : Nat) (a0 : Int) (a1 : List LineD) (a2 : List RatD) (a3 : List RatD) : Option Bool := fn T orc k 6 [.v (.int .i64) a0, .v (.list c_api_Line) a1, .v (.list c_api_Rat) a2, .v (.list c_api_Rat) a3]
noncomputable def isochronelaw05_awake (k : Nat) : Option Bool := fn T orc k 9 []
noncomputable def isochroneref05_List (k : Nat) (a0 : List RatD) (a1 : Int) : Option Bool := fn T orc k 15 [.v (.list c_api_Rat) a0, .v (.int .i64) a1]
noncomputable def isochronelaw05_short (k : Nat) (a0 : List RatD) : Option Bool := fn T orc k 16 [.v (.list c_api_Rat) a0]
noncomputable def isochroneref05_Numbers (k : Nat) (a0 : List LineD) (a1 : Int) : Option Bool := fn T orc k 18 [.v (.list c_api_Line) a0, .v (.int .i64) a1]
noncomputable def isochroneref05_Valid (k : Nat) (a0 : Int) (a1 : List LineD) : Option Bool := fn T orc k 19 [.v (.int .i64) a0, .v (.list c_api_Line) a1]
noncomputable def isochroneref05_Rats (k : Nat) (a0 : List RatD) : Option (List RatD) := fn T orc k 20 [.v (.list c_api_Rat) a0]
noncomputable def isochroneref05_Holds (k : Nat) (a0 : List LineD) (a1 : List RatD) : Option Bool := fn T orc k 21 [.v (.list c_isochroneref05_Line) a0, .v (.list c_isochroneref02_Rat) a1]
noncomputable def isochroneref05_Of (k : Nat) (a0 : List LineD) : Option (List LineD) := fn T orc k 22 [.v (.list c_api_Line) a0]
noncomputable def linear_Holds (k : Nat) (a0 : Int) (a1 : List LineD) (a2 : List RatD) : Option (Bool × Int × Unit) := fn T orc k 24 [.v (.int .i64) a0, .v (.list c_api_Line) a1, .v (.list c_api_Rat) a2]
noncomputable def linear_Refutes (k : Nat) (a0 : Int) (a1 : List LineD) (a2 : List RatD) : Option (Bool × Int × Unit) := fn T orc k 25 [.v (.int .i64) a0, .v (.list c_api_Line) a1, .v (.list c_api_Rat) a2]
noncomputable def isochroneref05_Refutes (k : Nat) (a0 : Int) (a1 : List LineD) (a2 : List RatD) : Option Bool := fn T orc k 26 [.v (.int .i64) a0, .v (.list c_isochroneref05_Line) a1, .v (.list c_isochroneref02_Rat) a2]
noncomputable def isochroneref02_Of (k : Nat) (a0 : RatD) : Option RatD := fn T orc k 14 [.v c_api_Rat a0]
noncomputable def isochroneref02_Zero (k : Nat) : Option RatD := fn T orc k 32 []
noncomputable def isochroneref02_Short (k : Nat) (a0 : RatD) (a1 : Int) : Option Bool := fn T orc k 35 [.v c_api_Rat a0, .v (.int .i64) a1]
noncomputable def isochroneref02_Valid (k : Nat) (a0 : RatD) : Option Bool := fn T orc k 36 [.v c_api_Rat a0]
noncomputable def isochroneref02_Sub (k : Nat) (a0 : RatD) (a1 : RatD) : Option RatD := fn T orc k 37 [.v c_isochroneref02_Rat a0, .v c_isochroneref02_Rat a1]
noncomputable def isochroneref02_Neg (k : Nat) (a0 : RatD) : Option RatD := fn T orc k 13 [.v c_isochroneref02_Rat a0]
noncomputable def linear_Check (k : Nat) (a0 : Int) (a1 : List LineD) : Option Int := fn T orc k 41 [.v (.int .i64) a0, .v (.list c_api_Line) a1]
noncomputable def isochroneref05_number (k : Nat) (a0 : RatD) : Option Bool := fn T orc k 51 [.v c_api_Rat a0]
noncomputable def isochroneref05_fits (k : Nat) (a0 : RatD) (a1 : Int) (a2 : RatD) : Option Bool := fn T orc k 52 [.v c_isochroneref02_Rat a0, .v (.int .i64) a1, .v c_isochroneref02_Rat a2]
noncomputable def isochroneref05_Dot (k : Nat) (a0 : List RatD) (a1 : List RatD) : Option RatD := fn T orc k 53 [.v (.list c_isochroneref02_Rat) a0, .v (.list c_isochroneref02_Rat) a1]
noncomputable def linear_numbers (k : Nat) (a0 : List RatD) (a1 : Int) : Option Bool := fn T orc k 56 [.v (.list c_api_Rat) a0, .v (.int .i64) a1]
noncomputable def linear_satisfies (k : Nat) (a0 : RatD) (a1 : Int) (a2 : RatD) : Option Bool := fn T orc k 57 [.v c_api_Rat a0, .v (.int .i64) a1, .v c_api_Rat a2]
noncomputable def linear_dot (k : Nat) (a0 : List RatD) (a1 : List RatD) : Option RatD := fn T orc k 58 [.v (.list c_api_Rat) a0, .v (.list c_api_Rat) a1]
noncomputable def num_Zero (k : Nat) : Option RatD := fn T orc k 59 []
noncomputable def num_Sign (k : Nat) (a0 : RatD) : Option Int := fn T orc k 60 [.v c_api_Rat a0]
noncomputable def num_Add (k : Nat) (a0 : RatD) (a1 : RatD) : Option RatD := fn T orc k 61 [.v c_api_Rat a0, .v c_api_Rat a1]
noncomputable def num_Mul (k : Nat) (a0 : RatD) (a1 : RatD) : Option RatD := fn T orc k 62 [.v c_api_Rat a0, .v c_api_Rat a1]
noncomputable def isochroneref02_Sign (k : Nat) (a0 : RatD) : Option Int := fn T orc k 54 [.v c_isochroneref02_Rat a0]
noncomputable def isochroneref02_Add (k : Nat) (a0 : RatD) (a1 : RatD) : Option RatD := fn T orc k 63 [.v c_isochroneref02_Rat a0, .v c_isochroneref02_Rat a1]
noncomputable def isochroneref02_Mul (k : Nat) (a0 : RatD) (a1 : RatD) : Option RatD := fn T orc k 64 [.v c_isochroneref02_Rat a0, .v c_isochroneref02_Rat a1]
noncomputable def isochroneref01_Of (k : Nat) (a0 : List Int) : Option (List Int) := fn T orc k 44 [.v (.list (.int .u32)) a0]
noncomputable def isochroneref01_Valid (k : Nat) (a0 : List Int) : Option Bool := fn T orc k 71 [.v (.list (.int .u32)) a0]
noncomputable def isochroneref01_Cmp (k : Nat) (a0 : List Int) (a1 : List Int) : Option Int := fn T orc k 72 [.v (.list (.int .i64)) a0, .v (.list (.int .i64)) a1]
noncomputable def isochroneref01_GCD (k : Nat) (a0 : List Int) (a1 : List Int) : Option (List Int) := fn T orc k 73 [.v (.list (.int .i64)) a0, .v (.list (.int .i64)) a1]
noncomputable def num_Valid (k : Nat) (a0 : RatD) (a1 : Int) : Option Bool := fn T orc k 75 [.v c_api_Rat a0, .v (.int .i64) a1]
noncomputable def isochroneref02_Cmp (k : Nat) (a0 : RatD) (a1 : RatD) : Option Int := fn T orc k 55 [.v c_isochroneref02_Rat a0, .v c_isochroneref02_Rat a1]
noncomputable def num_Cmp (k : Nat) (a0 : RatD) (a1 : RatD) : Option Int := fn T orc k 86 [.v c_api_Rat a0, .v c_api_Rat a1]
noncomputable def mag_Cmp (k : Nat) (a0 : List Int) (a1 : List Int) : Option Int := fn T orc k 89 [.v (.list (.int .u32)) a0, .v (.list (.int .u32)) a1]
noncomputable def mag_Mul (k : Nat) (a0 : List Int) (a1 : List Int) : Option (List Int) := fn T orc k 90 [.v (.list (.int .u32)) a0, .v (.list (.int .u32)) a1]
noncomputable def num_Make (k : Nat) (a0 : Bool) (a1 : List Int) (a2 : List Int) : Option RatD := fn T orc k 91 [.v .bool a0, .v (.list (.int .u32)) a1, .v (.list (.int .u32)) a2]
noncomputable def mag_Add (k : Nat) (a0 : List Int) (a1 : List Int) : Option (List Int) := fn T orc k 92 [.v (.list (.int .u32)) a0, .v (.list (.int .u32)) a1]
noncomputable def mag_Sub (k : Nat) (a0 : List Int) (a1 : List Int) : Option (List Int) := fn T orc k 93 [.v (.list (.int .u32)) a0, .v (.list (.int .u32)) a1]
noncomputable def isochroneref01_Mul (k : Nat) (a0 : List Int) (a1 : List Int) : Option (List Int) := fn T orc k 94 [.v (.list (.int .i64)) a0, .v (.list (.int .i64)) a1]
noncomputable def isochroneref02_Make (k : Nat) (a0 : Bool) (a1 : List Int) (a2 : List Int) : Option RatD := fn T orc k 95 [.v .bool a0, .v (.list (.int .i64)) a1, .v (.list (.int .i64)) a2]
noncomputable def isochroneref01_Add (k : Nat) (a0 : List Int) (a1 : List Int) : Option (List Int) := fn T orc k 96 [.v (.list (.int .i64)) a0, .v (.list (.int .i64)) a1]
noncomputable def isochroneref01_Sub (k : Nat) (a0 : List Int) (a1 : List Int) : Option (List Int) := fn T orc k 97 [.v (.list (.int .i64)) a0, .v (.list (.int .i64)) a1]
noncomputable def isochroneref01_Small (k : Nat) (a0 : List Int) (a1 : Int) (a2 : Int) : Option (List Int) := fn T orc k 80 [.v (.list (.int .i64)) a0, .v (.int .i64) a1, .v (.int .i64) a2]
noncomputable def num_valid (k : Nat) (a0 : List Int) (a1 : Int) : Option Bool := fn T orc k 105 [.v (.list (.int .u32)) a0, .v (.int .i64) a1]
noncomputable def mag_GCD (k : Nat) (a0 : List Int) (a1 : List Int) : Option (List Int) := fn T orc k 106 [.v (.list (.int .u32)) a0, .v (.list (.int .u32)) a1]
noncomputable def mag_DivMod (k : Nat) (a0 : List Int) (a1 : List Int) : Option (List Int × List Int × Unit) := fn T orc k 117 [.v (.list (.int .u32)) a0, .v (.list (.int .u32)) a1]
noncomputable def isochroneref01_DivMod (k : Nat) (a0 : List Int) (a1 : List Int) : Option (List Int × List Int × Unit) := fn T orc k 104 [.v (.list (.int .i64)) a0, .v (.list (.int .i64)) a1]
noncomputable def isochroneref05_List.l0 (k m0 : Nat) (x11 : List RatD) (x12 : Int) (x13 : Int) : Option Bool := lAt T orc k 15 Tryz.f15 none [1, 1, 0, 1, 0] m0 [] ⟨[(11, .v (.list c_api_Rat) x11), (12, .v (.int .i64) x12), (13, .v (.int .i64) x13)], []⟩
noncomputable def isochronelaw05_short.l0 (k m0 : Nat) (x5 : List RatD) (x6 : Int) (x7 : Int) : Option Bool := lAt T orc k 16 Tryz.f16 none [1, 0, 1, 0] m0 [] ⟨[(5, .v (.list c_api_Rat) x5), (6, .v (.int .i64) x6), (7, .v (.int .i64) x7)], []⟩
noncomputable def isochroneref05_Numbers.l0 (k m0 : Nat) (x1 : Int) (x9 : List LineD) (x10 : Int) (x11 : Int) : Option Bool := lAt T orc k 18 Tryz.f18 none [1, 0, 1, 0] m0 [] ⟨[(1, .v (.int .i64) x1), (9, .v (.list c_api_Line) x9), (10, .v (.int .i64) x10), (11, .v (.int .i64) x11)], []⟩
noncomputable def isochroneref05_Numbers.l1 (k m1 : Nat) (m0 : Nat) (x1 : Int) (x9 : List LineD) (x10 : Int) (x11 : Int) (x27 : List RatD) (x28 : Int) (x29 : Int) : Option Bool := lAt T orc k 18 Tryz.f18 none [1, 0, 1, 0, 0, 1, 1, 0, 0, 1, 1, 1, 0] m1 [m0] ⟨[(1, .v (.int .i64) x1), (9, .v (.list c_api_Line) x9), (10, .v (.int .i64) x10), (11, .v (.int .i64) x11), (27, .v (.list c_api_Rat) x27), (28, .v (.int .i64) x28), (29, .v (.int .i64) x29)], []⟩
noncomputable def isochroneref05_Valid.l0 (k m0 : Nat) (x0 : Int) (x20 : List LineD) (x21 : Int) (x22 : Int) : Option Bool := lAt T orc k 19 Tryz.f19 none [1, 1, 0, 1, 0] m0 [] ⟨[(0, .v (.int .i64) x0), (20, .v (.list c_api_Line) x20), (21, .v (.int .i64) x21), (22, .v (.int .i64) x22)], []⟩
noncomputable def isochroneref05_Valid.l1 (k m1 : Nat) (m0 : Nat) (x0 : Int) (x20 : List LineD) (x21 : Int) (x22 : Int) (x48 : List RatD) (x49 : Int) (x50 : Int) : Option Bool := lAt T orc k 19 Tryz.f19 none [1, 1, 0, 1, 0, 0, 1, 1, 0, 0, 1, 1, 1, 0] m1 [m0] ⟨[(0, .v (.int .i64) x0), (20, .v (.list c_api_Line) x20), (21, .v (.int .i64) x21), (22, .v (.int .i64) x22), (48, .v (.list c_api_Rat) x48), (49, .v (.int .i64) x49), (50, .v (.int .i64) x50)], []⟩
noncomputable def isochroneref05_Rats.l0 (k m0 : Nat) (x6 : List RatD) (x7 : Int) (x8 : Int) (r3 : List RatD) : Option (List RatD) := lAt T orc k 20 Tryz.f20 none [1, 1, 0, 1, 0] m0 [] ⟨[(3, .own 3), (6, .v (.list c_api_Rat) x6), (7, .v (.int .i64) x7), (8, .v (.int .i64) x8)], [(3, .arr 37 c_isochroneref02_Rat r3)]⟩
noncomputable def isochroneref05_Holds.l0 (k m0 : Nat) (x1 : List RatD) (x7 : List LineD) (x8 : Int) (x9 : Int) : Option Bool := lAt T orc k 21 Tryz.f21 none [1, 0, 1, 0] m0 [] ⟨[(1, .v (.list c_isochroneref02_Rat) x1), (7, .v (.list c_isochroneref05_Line) x7), (8, .v (.int .i64) x8), (9, .v (.int .i64) x9)], []⟩
noncomputable def isochroneref05_Of.l0 (k m0 : Nat) (x6 : List LineD) (x7 : Int) (x8 : Int) (r3 : List LineD) : Option (List LineD) := lAt T orc k 22 Tryz.f22 none [1, 1, 0, 1, 0] m0 [] ⟨[(3, .own 3), (6, .v (.list c_api_Line) x6), (7, .v (.int .i64) x7), (8, .v (.int .i64) x8)], [(3, .arr 88 c_isochroneref05_Line r3)]⟩
noncomputable def linear_Holds.l0 (k m0 : Nat) (x2 : List RatD) (x21 : List LineD) (x22 : Int) (x23 : Int) : Option (Bool × Int × Unit) := lAt T orc k 24 Tryz.f24 none [1, 1, 1, 0, 1, 0] m0 [] ⟨[(2, .v (.list c_api_Rat) x2), (21, .v (.list c_api_Line) x21), (22, .v (.int .i64) x22), (23, .v (.int .i64) x23)], []⟩
noncomputable def linear_Refutes.l0 (k m0 : Nat) (x1 : List LineD) (x2 : List RatD) (x10 : Bool) (x36 : Int) (x37 : Int) (r9 : RatD) (r34 : List RatD) : Option (Bool × Int × Unit) := lAt T orc k 25 Tryz.f25 none [1, 1, 1, 1, 1, 0, 1, 0] m0 [] ⟨[(1, .v (.list c_api_Line) x1), (2, .v (.list c_api_Rat) x2), (9, .po 9 0 []), (10, .v .bool x10), (11, .own 34), (36, .v (.int .i64) x36), (37, .v (.int .i64) x37)], [(9, .box 30 c_api_Rat r9), (34, .arr 30 c_api_Rat r34)]⟩
noncomputable def linear_Refutes.l1 (k m0 : Nat) (x2 : List RatD) (x10 : Bool) (x45 : List LineD) (x46 : Int) (x47 : Int) (r9 : RatD) (r34 : List RatD) : Option (Bool × Int × Unit) := lAt T orc k 25 Tryz.f25 none [1, 1, 1, 1, 1, 1, 0, 1, 0] m0 [] ⟨[(2, .v (.list c_api_Rat) x2), (9, .po 9 0 []), (10, .v .bool x10), (11, .own 34), (45, .v (.list c_api_Line) x45), (46, .v (.int .i64) x46), (47, .v (.int .i64) x47)], [(9, .box 30 c_api_Rat r9), (34, .arr 30 c_api_Rat r34)]⟩
noncomputable def linear_Refutes.l2 (k m1 : Nat) (m0 : Nat) (x2 : List RatD) (x10 : Bool) (x45 : List LineD) (x46 : Int) (x47 : Int) (x82 : List RatD) (x83 : Int) (x84 : Int) (r9 : RatD) (r34 : List RatD) (r15 : RatD) : Option (Bool × Int × Unit) := lAt T orc k 25 Tryz.f25 none [1, 1, 1, 1, 1, 1, 0, 1, 0, 0, 1, 1, 0, 0, 1, 1, 1, 1, 1, 1, 0] m1 [m0] ⟨[(2, .v (.list c_api_Rat) x2), (9, .po 9 0 []), (10, .v .bool x10), (11, .own 34), (15, .po 15 0 []), (45, .v (.list c_api_Line) x45), (46, .v (.int .i64) x46), (47, .v (.int .i64) x47), (82, .v (.list c_api_Rat) x82), (83, .v (.int .i64) x83), (84, .v (.int .i64) x84)], [(9, .box 30 c_api_Rat r9), (34, .arr 30 c_api_Rat r34), (15, .box 30 c_api_Rat r15)]⟩
noncomputable def linear_Refutes.l3 (k m0 : Nat) (x10 : Bool) (x102 : List RatD) (x103 : Int) (x104 : Int) (r9 : RatD) : Option (Bool × Int × Unit) := lAt T orc k 25 Tryz.f25 none [1, 1, 1, 1, 1, 1, 1, 0, 1, 0] m0 [] ⟨[(9, .po 9 0 []), (10, .v .bool x10), (102, .v (.list c_api_Rat) x102), (103, .v (.int .i64) x103), (104, .v (.int .i64) x104)], [(9, .box 30 c_api_Rat r9)]⟩
noncomputable def isochroneref05_Refutes.l0 (k m0 : Nat) (x1 : List LineD) (x2 : List RatD) (x8 : Bool) (x20 : Int) (x21 : Int) (r7 : RatD) (r18 : List RatD) : Option Bool := lAt T orc k 26 Tryz.f26 none [1, 1, 1, 0, 1, 0] m0 [] ⟨[(1, .v (.list c_isochroneref05_Line) x1), (2, .v (.list c_isochroneref02_Rat) x2), (7, .po 7 0 []), (8, .v .bool x8), (9, .own 18), (20, .v (.int .i64) x20), (21, .v (.int .i64) x21)], [(7, .box 37 c_isochroneref02_Rat r7), (18, .arr 37 c_isochroneref02_Rat r18)]⟩
noncomputable def isochroneref05_Refutes.l1 (k m0 : Nat) (x2 : List RatD) (x8 : Bool) (x29 : List LineD) (x30 : Int) (x31 : Int) (r7 : RatD) (r18 : List RatD) : Option Bool := lAt T orc k 26 Tryz.f26 none [1, 1, 1, 1, 0, 1, 0] m0 [] ⟨[(2, .v (.list c_isochroneref02_Rat) x2), (7, .po 7 0 []), (8, .v .bool x8), (9, .own 18), (29, .v (.list c_isochroneref05_Line) x29), (30, .v (.int .i64) x30), (31, .v (.int .i64) x31)], [(7, .box 37 c_isochroneref02_Rat r7), (18, .arr 37 c_isochroneref02_Rat r18)]⟩
noncomputable def isochroneref05_Refutes.l2 (k m1 : Nat) (m0 : Nat) (x2 : List RatD) (x8 : Bool) (x11 : Int) (x29 : List LineD) (x30 : Int) (x31 : Int) (x71 : Int) (x72 : Int) (r7 : RatD) (r18 : List RatD) (r12 : LineD) : Option Bool := lAt T orc k 26 Tryz.f26 none [1, 1, 1, 1, 0, 1, 0, 0, 1, 1, 0, 0, 1, 1, 1, 1, 1, 0] m1 [m0] ⟨[(2, .v (.list c_isochroneref02_Rat) x2), (7, .po 7 0 []), (8, .v .bool x8), (9, .own 18), (11, .v (.int .i64) x11), (12, .po 12 0 []), (29, .v (.list c_isochroneref05_Line) x29), (30, .v (.int .i64) x30), (31, .v (.int .i64) x31), (71, .v (.int .i64) x71), (72, .v (.int .i64) x72)], [(7, .box 37 c_isochroneref02_Rat r7), (18, .arr 37 c_isochroneref02_Rat r18), (12, .box 88 c_isochroneref05_Line r12)]⟩
noncomputable def isochroneref05_Refutes.l3 (k m0 : Nat) (x8 : Bool) (x95 : List RatD) (x96 : Int) (x97 : Int) (r7 : RatD) : Option Bool := lAt T orc k 26 Tryz.f26 none [1, 1, 1, 1, 1, 0, 1, 0] m0 [] ⟨[(7, .po 7 0 []), (8, .v .bool x8), (95, .v (.list c_isochroneref02_Rat) x95), (96, .v (.int .i64) x96), (97, .v (.int .i64) x97)], [(7, .box 37 c_isochroneref02_Rat r7)]⟩
noncomputable def linear_Check.l0 (k m0 : Nat) (x0 : Int) (x20 : List LineD) (x21 : Int) (x22 : Int) : Option Int := lAt T orc k 41 Tryz.f41 none [1, 1, 0, 1, 0] m0 [] ⟨[(0, .v (.int .i64) x0), (20, .v (.list c_api_Line) x20), (21, .v (.int .i64) x21), (22, .v (.int .i64) x22)], []⟩
noncomputable def linear_Check.l1 (k m1 : Nat) (m0 : Nat) (x0 : Int) (x20 : List LineD) (x21 : Int) (x22 : Int) (x48 : List RatD) (x49 : Int) (x50 : Int) : Option Int := lAt T orc k 41 Tryz.f41 none [1, 1, 0, 1, 0, 0, 1, 1, 0, 0, 1, 1, 1, 0] m1 [m0] ⟨[(0, .v (.int .i64) x0), (20, .v (.list c_api_Line) x20), (21, .v (.int .i64) x21), (22, .v (.int .i64) x22), (48, .v (.list c_api_Rat) x48), (49, .v (.int .i64) x49), (50, .v (.int .i64) x50)], []⟩
noncomputable def isochroneref05_Dot.l0 (k m0 : Nat) (x0 : List RatD) (x1 : List RatD) (x9 : Int) (x10 : Int) (r4 : RatD) (r5 : RatD) : Option RatD := lAt T orc k 53 Tryz.f53 none [1, 1, 0, 1, 0] m0 [] ⟨[(0, .v (.list c_isochroneref02_Rat) x0), (1, .v (.list c_isochroneref02_Rat) x1), (4, .po 4 0 []), (5, .po 5 0 []), (9, .v (.int .i64) x9), (10, .v (.int .i64) x10)], [(4, .box 37 c_isochroneref02_Rat r4), (5, .box 37 c_isochroneref02_Rat r5)]⟩
noncomputable def linear_numbers.l0 (k m0 : Nat) (x0 : List RatD) (x1 : Int) (x7 : List RatD) (x8 : Int) (x9 : Int) : Option Bool := lAt T orc k 56 Tryz.f56 none [1, 0, 1, 0] m0 [] ⟨[(0, .v (.list c_api_Rat) x0), (1, .v (.int .i64) x1), (7, .v (.list c_api_Rat) x7), (8, .v (.int .i64) x8), (9, .v (.int .i64) x9)], []⟩
noncomputable def linear_dot.l0 (k m0 : Nat) (x1 : List RatD) (x9 : List RatD) (x10 : Int) (x11 : Int) (r4 : RatD) (r5 : RatD) : Option RatD := lAt T orc k 58 Tryz.f58 none [1, 1, 0, 1, 0] m0 [] ⟨[(1, .v (.list c_api_Rat) x1), (4, .po 4 0 []), (5, .po 5 0 []), (9, .v (.list c_api_Rat) x9), (10, .v (.int .i64) x10), (11, .v (.int .i64) x11)], [(4, .box 30 c_api_Rat r4), (5, .box 30 c_api_Rat r5)]⟩
noncomputable def isochroneref01_Of.l0 (k m0 : Nat) (x0 : List Int) (x3 : List Int) (x4 : Int) : Option (List Int) := lAt T orc k 44 Tryz.f44 none [1, 1, 0, 1, 0] m0 [] ⟨[(0, .v (.list (.int .u32)) x0), (3, .v (.list (.int .i64)) x3), (4, .v (.int .i64) x4)], []⟩
noncomputable def linear_row_plain.l0 (k m0 : Nat) (x9 : List RatD) (x10 : Int) (x11 : Int) : Option Bool := lAt T orc k 83 Tryz.f83 none [1, 0, 1, 0] m0 [] ⟨[(9, .v (.list c_api_Rat) x9), (10, .v (.int .i64) x10), (11, .v (.int .i64) x11)], []⟩
noncomputable def num_Add.j0 (k : Nat) (x5 : List Int) (x6 : List Int) (x7 : List Int) (r2 : RatD) (r3 : RatD) (r4 : RatD) : Option RatD :=
  bif r2.1 == r3.1 then
    (mag_Add k x5 x6).bind fun (v5 : List Int) =>
    (num_Make k r2.1 v5 x7).bind fun (v6 : RatD) =>
    some v6
  else
    (mag_Cmp k x5 x6).bind fun (v7 : Int) =>
    bif decide (v7 ≥ (0 : Int)) then
      (mag_Sub k x5 x6).bind fun (v8 : List Int) =>
      (num_Make k r2.1 v8 x7).bind fun (v9 : RatD) =>
      some v9
    else
      (mag_Sub k x6 x5).bind fun (v10 : List Int) =>
      (num_Make k r3.1 v10 x7).bind fun (v11 : RatD) =>
      some v11
noncomputable def num_Make.j0 (k : Nat) (x0 : Bool) (x1 : List Int) (x2 : List Int) (r6 : RatD) : Option RatD :=
  if List.length x1 * 4 ≤ 140737488355328 then if List.length x2 * 4 ≤ 140737488355328 then some (x0, x1, x2, ()) else none else none
theorem isochronelaw05_LinearWitnesses_eq (k : Nat) (a0 : Int) (a1 : List LineD) (a2 : List RatD) (a3 : List RatD) : isochronelaw05_LinearWitnesses (k + 1) a0 a1 a2 a3 =
    (isochronelaw05_awake k ).bind fun (v1 : Bool) =>
    bif !v1 then
      some false
    else
      (bif decide ((List.length a1 : Int) > (12 : Int)) then some true else some (decide ((List.length a2 : Int) > (12 : Int)))).bind fun (b2 : Bool) =>
      (bif b2 then some true else some (decide ((List.length a3 : Int) > (14 : Int)))).bind fun (b3 : Bool) =>
      (bif b3 then some true else (isochroneref05_Numbers k a1 (2 : Int)).bind fun (v4 : Bool) =>
      some (!v4)).bind fun (b5 : Bool) =>
      (bif b5 then some true else (isochroneref05_Valid k a0 a1).bind fun (v6 : Bool) =>
      some (!v6)).bind fun (b7 : Bool) =>
      (bif b7 then some true else (isochronelaw05_short k a2).bind fun (v8 : Bool) =>
      some (!v8)).bind fun (b9 : Bool) =>
      (bif b9 then some true else (isochronelaw05_short k a3).bind fun (v10 : Bool) =>
      some (!v10)).bind fun (b11 : Bool) =>
      bif b11 then
        some true
      else
        (isochroneref05_Of k a1).bind fun (v12 : List LineD) =>
        (linear_Holds k a0 a1 a2).bind fun (v13 : Bool × Int × Unit) =>
        (isochroneref05_List k a2 a0).bind fun (v14 : Bool) =>
        (bif v14 != (v13.2.1 == (0 : Int)) then some true else (bif v13.2.1 != (0 : Int) then (bif v13.2.1 != (1 : Int) then some true else some v13.1).bind fun (b15 : Bool) =>
        some b15 else some false).bind fun (b16 : Bool) =>
        some b16).bind fun (b17 : Bool) =>
        (bif b17 then some true else (bif v13.2.1 == (0 : Int) then (isochroneref05_Rats k a2).bind fun (v18 : List RatD) =>
        (isochroneref05_Holds k v12 v18).bind fun (v19 : Bool) =>
        some (v13.1 != v19) else some false).bind fun (b20 : Bool) =>
        some b20).bind fun (b21 : Bool) =>
        bif b21 then
          some false
        else
          (linear_Refutes k a0 a1 a3).bind fun (v22 : Bool × Int × Unit) =>
          (isochroneref05_List k a3 (List.length a1 : Int)).bind fun (v23 : Bool) =>
          bif !v23 then
            (bif v22.2.1 == (1 : Int) then some (!v22.1) else some false).bind fun (b24 : Bool) =>
            some b24
          else
            (bif v22.2.1 == (0 : Int) then (isochroneref05_Rats k a3).bind fun (v25 : List RatD) =>
            (isochroneref05_Refutes k a0 v12 v25).bind fun (v26 : Bool) =>
            some (v22.1 == v26) else some false).bind fun (b27 : Bool) =>
            some b27 := by
  kernel_rfl
theorem isochroneref05_List_eq (k : Nat) (a0 : List RatD) (a1 : Int) : isochroneref05_List (k + 1) a0 a1 =
    bif (List.length a0 : Int) != a1 then
      some false
    else
      isochroneref05_List.l0 k k a0 (List.length a0 : Int) (0 : Int) := by
  kernel_rfl
theorem isochroneref05_List.l0_succ (k m0 : Nat) (x11 : List RatD) (x12 : Int) (x13 : Int) : isochroneref05_List.l0 k (m0 + 1)  x11 x12 x13 =
    bif decide (x13 < x12) then
      if 0 ≤ x13 ∧ x13 < (List.length x11 : Int) then (isochroneref02_Short k (rdT (t := c_api_Rat) x11 x13 : RatD) (200 : Int)).bind fun (v1 : Bool) =>
      (bif !v1 then some true else (isochroneref02_Valid k (rdT (t := c_api_Rat) x11 x13 : RatD)).bind fun (v2 : Bool) =>
      some (!v2)).bind fun (b3 : Bool) =>
      bif b3 then
        some false
      else
        isochroneref05_List.l0 k m0 x11 x12 (wrap64 (x13 + (1 : Int))) else none
    else
      some true := by
  kernel_rfl
theorem isochronelaw05_short_eq (k : Nat) (a0 : List RatD) : isochronelaw05_short (k + 1) a0 =
    isochronelaw05_short.l0 k k a0 (List.length a0 : Int) (0 : Int) := by
  kernel_rfl
theorem isochronelaw05_short.l0_succ (k m0 : Nat) (x5 : List RatD) (x6 : Int) (x7 : Int) : isochronelaw05_short.l0 k (m0 + 1)  x5 x6 x7 =
    bif decide (x7 < x6) then
      if 0 ≤ x7 ∧ x7 < (List.length x5 : Int) then (isochroneref02_Short k (rdT (t := c_api_Rat) x5 x7 : RatD) (2 : Int)).bind fun (v1 : Bool) =>
      bif !v1 then
        some false
      else
        isochronelaw05_short.l0 k m0 x5 x6 (wrap64 (x7 + (1 : Int))) else none
    else
      some true := by
  kernel_rfl
theorem isochroneref05_Numbers_eq (k : Nat) (a0 : List LineD) (a1 : Int) : isochroneref05_Numbers (k + 1) a0 a1 =
    isochroneref05_Numbers.l0 k k a1 a0 (List.length a0 : Int) (0 : Int) := by
  kernel_rfl
theorem isochroneref05_Numbers.l0_succ (k m0 : Nat) (x1 : Int) (x9 : List LineD) (x10 : Int) (x11 : Int) : isochroneref05_Numbers.l0 k (m0 + 1)  x1 x9 x10 x11 =
    bif decide (x11 < x10) then
      if 0 ≤ x11 ∧ x11 < (List.length x9 : Int) then (bif decide ((List.length ((rdT (t := c_api_Line) x9 x11 : LineD).1) : Int) > (12 : Int)) then some true else (isochroneref02_Short k ((((rdT (t := c_api_Line) x9 x11 : LineD).2).2).1) x1).bind fun (v1 : Bool) =>
      some (!v1)).bind fun (b2 : Bool) =>
      bif b2 then
        some false
      else
        isochroneref05_Numbers.l1 k k m0 x1 x9 x10 x11 ((rdT (t := c_api_Line) x9 x11 : LineD).1) (List.length ((rdT (t := c_api_Line) x9 x11 : LineD).1) : Int) (0 : Int) else none
    else
      some true := by
  kernel_rfl
theorem isochroneref05_Numbers.l1_succ (k m1 : Nat) (m0 : Nat) (x1 : Int) (x9 : List LineD) (x10 : Int) (x11 : Int) (x27 : List RatD) (x28 : Int) (x29 : Int) : isochroneref05_Numbers.l1 k (m1 + 1) m0 x1 x9 x10 x11 x27 x28 x29 =
    bif decide (x29 < x28) then
      if 0 ≤ x29 ∧ x29 < (List.length x27 : Int) then (isochroneref02_Short k (rdT (t := c_api_Rat) x27 x29 : RatD) x1).bind fun (v3 : Bool) =>
      bif !v3 then
        some false
      else
        isochroneref05_Numbers.l1 k m1 m0 x1 x9 x10 x11 x27 x28 (wrap64 (x29 + (1 : Int))) else none
    else
      isochroneref05_Numbers.l0 k m0 x1 x9 x10 (wrap64 (x11 + (1 : Int))) := by
  kernel_rfl
theorem isochroneref05_Valid_eq (k : Nat) (a0 : Int) (a1 : List LineD) : isochroneref05_Valid (k + 1) a0 a1 =
    (bif decide (a0 < (0 : Int)) then some true else some (decide (a0 > (8 : Int)))).bind fun (b1 : Bool) =>
    (bif b1 then some true else some (decide ((List.length a1 : Int) > (40 : Int)))).bind fun (b2 : Bool) =>
    bif b2 then
      some false
    else
      isochroneref05_Valid.l0 k k a0 a1 (List.length a1 : Int) (0 : Int) := by
  kernel_rfl
theorem isochroneref05_Valid.l0_succ (k m0 : Nat) (x0 : Int) (x20 : List LineD) (x21 : Int) (x22 : Int) : isochroneref05_Valid.l0 k (m0 + 1)  x0 x20 x21 x22 =
    bif decide (x22 < x21) then
      if 0 ≤ x22 ∧ x22 < (List.length x20 : Int) then (bif (List.length ((rdT (t := c_api_Line) x20 x22 : LineD).1) : Int) != x0 then some true else some (decide ((((rdT (t := c_api_Line) x20 x22 : LineD).2).1) < (0 : Int)))).bind fun (b3 : Bool) =>
      (bif b3 then some true else some (decide ((((rdT (t := c_api_Line) x20 x22 : LineD).2).1) > (2 : Int)))).bind fun (b4 : Bool) =>
      (bif b4 then some true else (isochroneref05_number k ((((rdT (t := c_api_Line) x20 x22 : LineD).2).2).1)).bind fun (v5 : Bool) =>
      some (!v5)).bind fun (b6 : Bool) =>
      bif b6 then
        some false
      else
        isochroneref05_Valid.l1 k k m0 x0 x20 x21 x22 ((rdT (t := c_api_Line) x20 x22 : LineD).1) (List.length ((rdT (t := c_api_Line) x20 x22 : LineD).1) : Int) (0 : Int) else none
    else
      some true := by
  kernel_rfl
theorem isochroneref05_Valid.l1_succ (k m1 : Nat) (m0 : Nat) (x0 : Int) (x20 : List LineD) (x21 : Int) (x22 : Int) (x48 : List RatD) (x49 : Int) (x50 : Int) : isochroneref05_Valid.l1 k (m1 + 1) m0 x0 x20 x21 x22 x48 x49 x50 =
    bif decide (x50 < x49) then
      if 0 ≤ x50 ∧ x50 < (List.length x48 : Int) then (isochroneref05_number k (rdT (t := c_api_Rat) x48 x50 : RatD)).bind fun (v7 : Bool) =>
      bif !v7 then
        some false
      else
        isochroneref05_Valid.l1 k m1 m0 x0 x20 x21 x22 x48 x49 (wrap64 (x50 + (1 : Int))) else none
    else
      isochroneref05_Valid.l0 k m0 x0 x20 x21 (wrap64 (x22 + (1 : Int))) := by
  kernel_rfl
theorem isochroneref05_Rats_eq (k : Nat) (a0 : List RatD) : isochroneref05_Rats (k + 1) a0 =
    isochroneref05_Rats.l0 k k a0 (List.length a0 : Int) (0 : Int) ([] : List RatD) := by
  kernel_rfl
theorem isochroneref05_Rats.l0_succ (k m0 : Nat) (x6 : List RatD) (x7 : Int) (x8 : Int) (r3 : List RatD) : isochroneref05_Rats.l0 k (m0 + 1)  x6 x7 x8 r3 =
    bif decide (x8 < x7) then
      if 0 ≤ x8 ∧ x8 < (List.length x6 : Int) then (isochroneref02_Of k (rdT (t := c_api_Rat) x6 x8 : RatD)).bind fun (v1 : RatD) =>
      if (List.length r3 + List.length ([v1])) * 56 ≤ 140737488355328 then isochroneref05_Rats.l0 k m0 x6 x7 (wrap64 (x8 + (1 : Int))) (r3 ++ ([v1])) else none else none
    else
      some r3 := by
  kernel_rfl
theorem isochroneref05_Holds_eq (k : Nat) (a0 : List LineD) (a1 : List RatD) : isochroneref05_Holds (k + 1) a0 a1 =
    isochroneref05_Holds.l0 k k a1 a0 (List.length a0 : Int) (0 : Int) := by
  kernel_rfl
theorem isochroneref05_Holds.l0_succ (k m0 : Nat) (x1 : List RatD) (x7 : List LineD) (x8 : Int) (x9 : Int) : isochroneref05_Holds.l0 k (m0 + 1)  x1 x7 x8 x9 =
    bif decide (x9 < x8) then
      if 0 ≤ x9 ∧ x9 < (List.length x7 : Int) then (isochroneref05_Dot k ((rdT (t := c_isochroneref05_Line) x7 x9 : LineD).1) x1).bind fun (v1 : RatD) =>
      (isochroneref05_fits k v1 (((rdT (t := c_isochroneref05_Line) x7 x9 : LineD).2).1) ((((rdT (t := c_isochroneref05_Line) x7 x9 : LineD).2).2).1)).bind fun (v2 : Bool) =>
      bif !v2 then
        some false
      else
        isochroneref05_Holds.l0 k m0 x1 x7 x8 (wrap64 (x9 + (1 : Int))) else none
    else
      some true := by
  kernel_rfl
theorem isochroneref05_Of_eq (k : Nat) (a0 : List LineD) : isochroneref05_Of (k + 1) a0 =
    isochroneref05_Of.l0 k k a0 (List.length a0 : Int) (0 : Int) ([] : List LineD) := by
  kernel_rfl
theorem isochroneref05_Of.l0_succ (k m0 : Nat) (x6 : List LineD) (x7 : Int) (x8 : Int) (r3 : List LineD) : isochroneref05_Of.l0 k (m0 + 1)  x6 x7 x8 r3 =
    bif decide (x8 < x7) then
      if 0 ≤ x8 ∧ x8 < (List.length x6 : Int) then (isochroneref05_Rats k ((rdT (t := c_api_Line) x6 x8 : LineD).1)).bind fun (v1 : List RatD) =>
      (isochroneref02_Of k ((((rdT (t := c_api_Line) x6 x8 : LineD).2).2).1)).bind fun (v2 : RatD) =>
      if (List.length r3 + List.length ([(v1, ((rdT (t := c_api_Line) x6 x8 : LineD).2).1, v2, ())])) * 88 ≤ 140737488355328 then isochroneref05_Of.l0 k m0 x6 x7 (wrap64 (x8 + (1 : Int))) (r3 ++ ([(v1, ((rdT (t := c_api_Line) x6 x8 : LineD).2).1, v2, ())])) else none else none
    else
      some r3 := by
  kernel_rfl
theorem linear_Holds_eq (k : Nat) (a0 : Int) (a1 : List LineD) (a2 : List RatD) : linear_Holds (k + 1) a0 a1 a2 =
    (linear_Check k a0 a1).bind fun (v1 : Int) =>
    bif v1 != (0 : Int) then
      some (false, v1, ())
    else
      (linear_numbers k a2 a0).bind fun (v2 : Bool) =>
      bif !v2 then
        some (false, (1 : Int), ())
      else
        linear_Holds.l0 k k a2 a1 (List.length a1 : Int) (0 : Int) := by
  kernel_rfl
theorem linear_Holds.l0_succ (k m0 : Nat) (x2 : List RatD) (x21 : List LineD) (x22 : Int) (x23 : Int) : linear_Holds.l0 k (m0 + 1)  x2 x21 x22 x23 =
    bif decide (x23 < x22) then
      if 0 ≤ x23 ∧ x23 < (List.length x21 : Int) then (linear_dot k ((rdT (t := c_api_Line) x21 x23 : LineD).1) x2).bind fun (v3 : RatD) =>
      (linear_satisfies k v3 (((rdT (t := c_api_Line) x21 x23 : LineD).2).1) ((((rdT (t := c_api_Line) x21 x23 : LineD).2).2).1)).bind fun (v4 : Bool) =>
      bif !v4 then
        some (false, (0 : Int), ())
      else
        linear_Holds.l0 k m0 x2 x21 x22 (wrap64 (x23 + (1 : Int))) else none
    else
      some (true, (0 : Int), ()) := by
  kernel_rfl
theorem linear_Refutes_eq (k : Nat) (a0 : Int) (a1 : List LineD) (a2 : List RatD) : linear_Refutes (k + 1) a0 a1 a2 =
    (linear_Check k a0 a1).bind fun (v1 : Int) =>
    bif v1 != (0 : Int) then
      some (false, v1, ())
    else
      (linear_numbers k a2 (List.length a1 : Int)).bind fun (v2 : Bool) =>
      bif !v2 then
        some (false, (1 : Int), ())
      else
        (num_Zero k ).bind fun (v3 : RatD) =>
        if 0 ≤ a0 ∧ a0 ≤ a0 ∧ 56 * (Int.toNat a0) ≤ 281474976710656 ∧ (Int.toNat a0) ≤ maxLen then linear_Refutes.l0 k k a1 a2 false (List.length (List.replicate (Int.toNat a0) ((false, [], [], ()) : RatD)) : Int) (0 : Int) v3 (List.replicate (Int.toNat a0) ((false, [], [], ()) : RatD)) else none := by
  kernel_rfl
theorem linear_Refutes.l0_succ (k m0 : Nat) (x1 : List LineD) (x2 : List RatD) (x10 : Bool) (x36 : Int) (x37 : Int) (r9 : RatD) (r34 : List RatD) : linear_Refutes.l0 k (m0 + 1)  x1 x2 x10 x36 x37 r9 r34 =
    bif decide (x37 < x36) then
      (num_Zero k ).bind fun (v4 : RatD) =>
      if 0 ≤ x37 ∧ x37 < (List.length r34 : Int) then linear_Refutes.l0 k m0 x1 x2 x10 x36 (wrap64 (x37 + (1 : Int))) r9 (List.set r34 (Int.toNat x37) v4) else none
    else
      linear_Refutes.l1 k k x2 x10 x1 (List.length x1 : Int) (0 : Int) r9 r34 := by
  kernel_rfl
theorem linear_Refutes.l1_succ (k m0 : Nat) (x2 : List RatD) (x10 : Bool) (x45 : List LineD) (x46 : Int) (x47 : Int) (r9 : RatD) (r34 : List RatD) : linear_Refutes.l1 k (m0 + 1)  x2 x10 x45 x46 x47 r9 r34 =
    bif decide (x47 < x46) then
      if 0 ≤ x47 ∧ x47 < (List.length x45 : Int) then if 0 ≤ x47 ∧ x47 < (List.length x2 : Int) then (bif decide ((((rdT (t := c_api_Line) x45 x47 : LineD).2).1) > (0 : Int)) then (num_Sign k (rdT (t := c_api_Rat) x2 x47 : RatD)).bind fun (v5 : Int) =>
      some (decide (v5 < (0 : Int))) else some false).bind fun (b6 : Bool) =>
      bif b6 then
        some (false, (0 : Int), ())
      else
        (bif x10 then some true else (bif (((rdT (t := c_api_Line) x45 x47 : LineD).2).1) == (2 : Int) then (num_Sign k (rdT (t := c_api_Rat) x2 x47 : RatD)).bind fun (v7 : Int) =>
        some (decide (v7 > (0 : Int))) else some false).bind fun (b8 : Bool) =>
        some b8).bind fun (b9 : Bool) =>
        (num_Mul k (rdT (t := c_api_Rat) x2 x47 : RatD) ((((rdT (t := c_api_Line) x45 x47 : LineD).2).2).1)).bind fun (v10 : RatD) =>
        (num_Add k r9 v10).bind fun (v11 : RatD) =>
        linear_Refutes.l2 k k m0 x2 b9 x45 x46 x47 ((rdT (t := c_api_Line) x45 x47 : LineD).1) (List.length ((rdT (t := c_api_Line) x45 x47 : LineD).1) : Int) (0 : Int) v11 r34 (rdT (t := c_api_Rat) x2 x47 : RatD) else none else none
    else
      linear_Refutes.l3 k k x10 r34 (List.length r34 : Int) (0 : Int) r9 := by
  kernel_rfl
theorem linear_Refutes.l2_succ (k m1 : Nat) (m0 : Nat) (x2 : List RatD) (x10 : Bool) (x45 : List LineD) (x46 : Int) (x47 : Int) (x82 : List RatD) (x83 : Int) (x84 : Int) (r9 : RatD) (r34 : List RatD) (r15 : RatD) : linear_Refutes.l2 k (m1 + 1) m0 x2 x10 x45 x46 x47 x82 x83 x84 r9 r34 r15 =
    bif decide (x84 < x83) then
      if 0 ≤ x84 ∧ x84 < (List.length x82 : Int) then if 0 ≤ x84 ∧ x84 < (List.length r34 : Int) then (num_Mul k r15 (rdT (t := c_api_Rat) x82 x84 : RatD)).bind fun (v12 : RatD) =>
      (num_Add k (rdT (t := c_api_Rat) r34 x84 : RatD) v12).bind fun (v13 : RatD) =>
      if 0 ≤ x84 ∧ x84 < (List.length r34 : Int) then linear_Refutes.l2 k m1 m0 x2 x10 x45 x46 x47 x82 x83 (wrap64 (x84 + (1 : Int))) r9 (List.set r34 (Int.toNat x84) v13) r15 else none else none else none
    else
      linear_Refutes.l1 k m0 x2 x10 x45 x46 (wrap64 (x47 + (1 : Int))) r9 r34 := by
  kernel_rfl
theorem linear_Refutes.l3_succ (k m0 : Nat) (x10 : Bool) (x102 : List RatD) (x103 : Int) (x104 : Int) (r9 : RatD) : linear_Refutes.l3 k (m0 + 1)  x10 x102 x103 x104 r9 =
    bif decide (x104 < x103) then
      if 0 ≤ x104 ∧ x104 < (List.length x102 : Int) then (num_Sign k (rdT (t := c_api_Rat) x102 x104 : RatD)).bind fun (v14 : Int) =>
      bif v14 != (0 : Int) then
        some (false, (0 : Int), ())
      else
        linear_Refutes.l3 k m0 x10 x102 x103 (wrap64 (x104 + (1 : Int))) r9 else none
    else
      (num_Sign k r9).bind fun (v15 : Int) =>
      (bif decide (v15 < (0 : Int)) then some true else (bif v15 == (0 : Int) then some x10 else some false).bind fun (b16 : Bool) =>
      some b16).bind fun (b17 : Bool) =>
      some (b17, (0 : Int), ()) := by
  kernel_rfl
theorem isochroneref05_Refutes_eq (k : Nat) (a0 : Int) (a1 : List LineD) (a2 : List RatD) : isochroneref05_Refutes (k + 1) a0 a1 a2 =
    (isochroneref02_Zero k ).bind fun (v1 : RatD) =>
    if 0 ≤ a0 ∧ a0 ≤ a0 ∧ 56 * (Int.toNat a0) ≤ 281474976710656 ∧ (Int.toNat a0) ≤ maxLen then isochroneref05_Refutes.l0 k k a1 a2 false (List.length (List.replicate (Int.toNat a0) ((false, [], [], ()) : RatD)) : Int) (0 : Int) v1 (List.replicate (Int.toNat a0) ((false, [], [], ()) : RatD)) else none := by
  kernel_rfl
theorem isochroneref05_Refutes.l0_succ (k m0 : Nat) (x1 : List LineD) (x2 : List RatD) (x8 : Bool) (x20 : Int) (x21 : Int) (r7 : RatD) (r18 : List RatD) : isochroneref05_Refutes.l0 k (m0 + 1)  x1 x2 x8 x20 x21 r7 r18 =
    bif decide (x21 < x20) then
      (isochroneref02_Zero k ).bind fun (v2 : RatD) =>
      if 0 ≤ x21 ∧ x21 < (List.length r18 : Int) then isochroneref05_Refutes.l0 k m0 x1 x2 x8 x20 (wrap64 (x21 + (1 : Int))) r7 (List.set r18 (Int.toNat x21) v2) else none
    else
      isochroneref05_Refutes.l1 k k x2 x8 x1 (List.length x1 : Int) (0 : Int) r7 r18 := by
  kernel_rfl
theorem isochroneref05_Refutes.l1_succ (k m0 : Nat) (x2 : List RatD) (x8 : Bool) (x29 : List LineD) (x30 : Int) (x31 : Int) (r7 : RatD) (r18 : List RatD) : isochroneref05_Refutes.l1 k (m0 + 1)  x2 x8 x29 x30 x31 r7 r18 =
    bif decide (x31 < x30) then
      if 0 ≤ x31 ∧ x31 < (List.length x29 : Int) then (bif decide ((((rdT (t := c_isochroneref05_Line) x29 x31 : LineD).2).1) > (0 : Int)) then if 0 ≤ x31 ∧ x31 < (List.length x2 : Int) then (isochroneref02_Sign k (rdT (t := c_isochroneref02_Rat) x2 x31 : RatD)).bind fun (v3 : Int) =>
      some (decide (v3 < (0 : Int))) else none else some false).bind fun (b4 : Bool) =>
      bif b4 then
        some false
      else
        (bif x8 then some true else (bif (((rdT (t := c_isochroneref05_Line) x29 x31 : LineD).2).1) == (2 : Int) then if 0 ≤ x31 ∧ x31 < (List.length x2 : Int) then (isochroneref02_Sign k (rdT (t := c_isochroneref02_Rat) x2 x31 : RatD)).bind fun (v5 : Int) =>
        some (decide (v5 > (0 : Int))) else none else some false).bind fun (b6 : Bool) =>
        some b6).bind fun (b7 : Bool) =>
        if 0 ≤ x31 ∧ x31 < (List.length x2 : Int) then (isochroneref02_Mul k (rdT (t := c_isochroneref02_Rat) x2 x31 : RatD) ((((rdT (t := c_isochroneref05_Line) x29 x31 : LineD).2).2).1)).bind fun (v8 : RatD) =>
        (isochroneref02_Add k r7 v8).bind fun (v9 : RatD) =>
        isochroneref05_Refutes.l2 k k m0 x2 b7 x31 x29 x30 x31 (List.length r18 : Int) (0 : Int) v9 r18 (rdT (t := c_isochroneref05_Line) x29 x31 : LineD) else none else none
    else
      isochroneref05_Refutes.l3 k k x8 r18 (List.length r18 : Int) (0 : Int) r7 := by
  kernel_rfl
theorem isochroneref05_Refutes.l2_succ (k m1 : Nat) (m0 : Nat) (x2 : List RatD) (x8 : Bool) (x11 : Int) (x29 : List LineD) (x30 : Int) (x31 : Int) (x71 : Int) (x72 : Int) (r7 : RatD) (r18 : List RatD) (r12 : LineD) : isochroneref05_Refutes.l2 k (m1 + 1) m0 x2 x8 x11 x29 x30 x31 x71 x72 r7 r18 r12 =
    bif decide (x72 < x71) then
      if 0 ≤ x72 ∧ x72 < (List.length r18 : Int) then if 0 ≤ x11 ∧ x11 < (List.length x2 : Int) then if 0 ≤ x72 ∧ x72 < (List.length r12.1 : Int) then (isochroneref02_Mul k (rdT (t := c_isochroneref02_Rat) x2 x11 : RatD) (rdT (t := c_isochroneref02_Rat) r12.1 x72 : RatD)).bind fun (v10 : RatD) =>
      (isochroneref02_Add k (rdT (t := c_isochroneref02_Rat) r18 x72 : RatD) v10).bind fun (v11 : RatD) =>
      if 0 ≤ x72 ∧ x72 < (List.length r18 : Int) then isochroneref05_Refutes.l2 k m1 m0 x2 x8 x11 x29 x30 x31 x71 (wrap64 (x72 + (1 : Int))) r7 (List.set r18 (Int.toNat x72) v11) r12 else none else none else none else none
    else
      isochroneref05_Refutes.l1 k m0 x2 x8 x29 x30 (wrap64 (x31 + (1 : Int))) r7 r18 := by
  kernel_rfl
theorem isochroneref05_Refutes.l3_succ (k m0 : Nat) (x8 : Bool) (x95 : List RatD) (x96 : Int) (x97 : Int) (r7 : RatD) : isochroneref05_Refutes.l3 k (m0 + 1)  x8 x95 x96 x97 r7 =
    bif decide (x97 < x96) then
      if 0 ≤ x97 ∧ x97 < (List.length x95 : Int) then (isochroneref02_Sign k (rdT (t := c_isochroneref02_Rat) x95 x97 : RatD)).bind fun (v12 : Int) =>
      bif v12 != (0 : Int) then
        some false
      else
        isochroneref05_Refutes.l3 k m0 x8 x95 x96 (wrap64 (x97 + (1 : Int))) r7 else none
    else
      (isochroneref02_Sign k r7).bind fun (v13 : Int) =>
      (bif decide (v13 < (0 : Int)) then some true else (isochroneref02_Sign k r7).bind fun (v14 : Int) =>
      (bif v14 == (0 : Int) then some x8 else some false).bind fun (b15 : Bool) =>
      some b15).bind fun (b16 : Bool) =>
      some b16 := by
  kernel_rfl
theorem isochroneref02_Of_eq (k : Nat) (a0 : RatD) : isochroneref02_Of (k + 1) a0 =
    (isochroneref01_Of k a0.2.1).bind fun (v1 : List Int) =>
    (isochroneref01_Of k a0.2.2.1).bind fun (v2 : List Int) =>
    some (a0.1, v1, v2, ()) := by
  kernel_rfl
theorem isochroneref02_Zero_eq (k : Nat) : isochroneref02_Zero (k + 1)  =
    some (false, [], [(1 : Int)], ()) := by
  kernel_rfl
theorem isochroneref02_Short_eq (k : Nat) (a0 : RatD) (a1 : Int) : isochroneref02_Short (k + 1) a0 a1 =
    (bif decide ((List.length a0.2.1 : Int) ≤ a1) then some (decide ((List.length a0.2.2.1 : Int) ≤ a1)) else some false).bind fun (b1 : Bool) =>
    some b1 := by
  kernel_rfl
theorem isochroneref02_Valid_eq (k : Nat) (a0 : RatD) : isochroneref02_Valid (k + 1) a0 =
    (isochroneref01_Valid k a0.2.1).bind fun (v1 : Bool) =>
    (bif !v1 then some true else (isochroneref01_Valid k a0.2.2.1).bind fun (v2 : Bool) =>
    some (!v2)).bind fun (b3 : Bool) =>
    (bif b3 then some true else some ((List.length a0.2.2.1 : Int) == (0 : Int))).bind fun (b4 : Bool) =>
    bif b4 then
      some false
    else
      bif (List.length a0.2.1 : Int) == (0 : Int) then
        (bif !a0.1 then some ((List.length a0.2.2.1 : Int) == (1 : Int)) else some false).bind fun (b5 : Bool) =>
        (bif b5 then if 0 ≤ (0 : Int) ∧ (0 : Int) < (List.length a0.2.2.1 : Int) then some ((rdT (t := (.int .u32)) a0.2.2.1 (0 : Int) : Int) == (1 : Int)) else none else some false).bind fun (b6 : Bool) =>
        some b6
      else
        (isochroneref01_Of k a0.2.1).bind fun (v7 : List Int) =>
        (isochroneref01_Of k a0.2.2.1).bind fun (v8 : List Int) =>
        (isochroneref01_GCD k v7 v8).bind fun (v9 : List Int) =>
        (isochroneref01_Cmp k v9 ([(1 : Int)])).bind fun (v10 : Int) =>
        some (v10 == (0 : Int)) := by
  kernel_rfl
theorem isochroneref02_Sub_eq (k : Nat) (a0 : RatD) (a1 : RatD) : isochroneref02_Sub (k + 1) a0 a1 =
    (isochroneref02_Neg k a1).bind fun (v1 : RatD) =>
    (isochroneref02_Add k a0 v1).bind fun (v2 : RatD) =>
    some v2 := by
  kernel_rfl
theorem isochroneref02_Neg_eq (k : Nat) (a0 : RatD) : isochroneref02_Neg (k + 1) a0 =
    bif (List.length a0.2.1 : Int) == (0 : Int) then
      some a0
    else
      some (!a0.1, a0.2.1, a0.2.2.1, ()) := by
  kernel_rfl
theorem linear_Check_eq (k : Nat) (a0 : Int) (a1 : List LineD) : linear_Check (k + 1) a0 a1 =
    (bif decide (a0 < (0 : Int)) then some true else some (decide (a0 > (8 : Int)))).bind fun (b1 : Bool) =>
    (bif b1 then some true else some (decide ((List.length a1 : Int) > (40 : Int)))).bind fun (b2 : Bool) =>
    bif b2 then
      some (3 : Int)
    else
      linear_Check.l0 k k a0 a1 (List.length a1 : Int) (0 : Int) := by
  kernel_rfl
theorem linear_Check.l0_succ (k m0 : Nat) (x0 : Int) (x20 : List LineD) (x21 : Int) (x22 : Int) : linear_Check.l0 k (m0 + 1)  x0 x20 x21 x22 =
    bif decide (x22 < x21) then
      if 0 ≤ x22 ∧ x22 < (List.length x20 : Int) then (bif (List.length ((rdT (t := c_api_Line) x20 x22 : LineD).1) : Int) != x0 then some true else some (decide ((((rdT (t := c_api_Line) x20 x22 : LineD).2).1) < (0 : Int)))).bind fun (b3 : Bool) =>
      (bif b3 then some true else some (decide ((((rdT (t := c_api_Line) x20 x22 : LineD).2).1) > (2 : Int)))).bind fun (b4 : Bool) =>
      (bif b4 then some true else (num_Valid k ((((rdT (t := c_api_Line) x20 x22 : LineD).2).2).1) (20 : Int)).bind fun (v5 : Bool) =>
      some (!v5)).bind fun (b6 : Bool) =>
      bif b6 then
        some (3 : Int)
      else
        linear_Check.l1 k k m0 x0 x20 x21 x22 ((rdT (t := c_api_Line) x20 x22 : LineD).1) (List.length ((rdT (t := c_api_Line) x20 x22 : LineD).1) : Int) (0 : Int) else none
    else
      some (0 : Int) := by
  kernel_rfl
theorem linear_Check.l1_succ (k m1 : Nat) (m0 : Nat) (x0 : Int) (x20 : List LineD) (x21 : Int) (x22 : Int) (x48 : List RatD) (x49 : Int) (x50 : Int) : linear_Check.l1 k (m1 + 1) m0 x0 x20 x21 x22 x48 x49 x50 =
    bif decide (x50 < x49) then
      if 0 ≤ x50 ∧ x50 < (List.length x48 : Int) then (num_Valid k (rdT (t := c_api_Rat) x48 x50 : RatD) (20 : Int)).bind fun (v7 : Bool) =>
      bif !v7 then
        some (3 : Int)
      else
        linear_Check.l1 k m1 m0 x0 x20 x21 x22 x48 x49 (wrap64 (x50 + (1 : Int))) else none
    else
      linear_Check.l0 k m0 x0 x20 x21 (wrap64 (x22 + (1 : Int))) := by
  kernel_rfl
theorem isochroneref05_number_eq (k : Nat) (a0 : RatD) : isochroneref05_number (k + 1) a0 =
    (isochroneref02_Short k a0 (20 : Int)).bind fun (v1 : Bool) =>
    (bif v1 then (isochroneref02_Valid k a0).bind fun (v2 : Bool) =>
    some v2 else some false).bind fun (b3 : Bool) =>
    some b3 := by
  kernel_rfl
theorem isochroneref05_fits_eq (k : Nat) (a0 : RatD) (a1 : Int) (a2 : RatD) : isochroneref05_fits (k + 1) a0 a1 a2 =
    (isochroneref02_Cmp k a0 a2).bind fun (v1 : Int) =>
    (bif a1 == (0 : Int) then some (v1 == (0 : Int)) else some false).bind fun (b2 : Bool) =>
    (bif b2 then some true else (bif a1 == (1 : Int) then some (decide (v1 ≤ (0 : Int))) else some false).bind fun (b3 : Bool) =>
    some b3).bind fun (b4 : Bool) =>
    (bif b4 then some true else (bif a1 == (2 : Int) then some (decide (v1 < (0 : Int))) else some false).bind fun (b5 : Bool) =>
    some b5).bind fun (b6 : Bool) =>
    some b6 := by
  kernel_rfl
theorem isochroneref05_Dot_eq (k : Nat) (a0 : List RatD) (a1 : List RatD) : isochroneref05_Dot (k + 1) a0 a1 =
    (isochroneref02_Zero k ).bind fun (v1 : RatD) =>
    isochroneref05_Dot.l0 k k a0 a1 (List.length a0 : Int) (0 : Int) (false, [], [], ()) v1 := by
  kernel_rfl
theorem isochroneref05_Dot.l0_succ (k m0 : Nat) (x0 : List RatD) (x1 : List RatD) (x9 : Int) (x10 : Int) (r4 : RatD) (r5 : RatD) : isochroneref05_Dot.l0 k (m0 + 1)  x0 x1 x9 x10 r4 r5 =
    bif decide (x10 < x9) then
      if 0 ≤ x10 ∧ x10 < (List.length x0 : Int) then if 0 ≤ x10 ∧ x10 < (List.length x1 : Int) then (isochroneref02_Mul k (rdT (t := c_isochroneref02_Rat) x0 x10 : RatD) (rdT (t := c_isochroneref02_Rat) x1 x10 : RatD)).bind fun (v2 : RatD) =>
      (isochroneref02_Add k r5 v2).bind fun (v3 : RatD) =>
      isochroneref05_Dot.l0 k m0 x0 x1 x9 (wrap64 (x10 + (1 : Int))) r4 v3 else none else none
    else
      some r5 := by
  kernel_rfl
theorem linear_numbers_eq (k : Nat) (a0 : List RatD) (a1 : Int) : linear_numbers (k + 1) a0 a1 =
    linear_numbers.l0 k k a0 a1 a0 (List.length a0 : Int) (0 : Int) := by
  kernel_rfl
theorem linear_numbers.l0_succ (k m0 : Nat) (x0 : List RatD) (x1 : Int) (x7 : List RatD) (x8 : Int) (x9 : Int) : linear_numbers.l0 k (m0 + 1)  x0 x1 x7 x8 x9 =
    bif decide (x9 < x8) then
      if 0 ≤ x9 ∧ x9 < (List.length x7 : Int) then (num_Valid k (rdT (t := c_api_Rat) x7 x9 : RatD) (200 : Int)).bind fun (v1 : Bool) =>
      bif !v1 then
        some false
      else
        linear_numbers.l0 k m0 x0 x1 x7 x8 (wrap64 (x9 + (1 : Int))) else none
    else
      some ((List.length x0 : Int) == x1) := by
  kernel_rfl
theorem linear_satisfies_eq (k : Nat) (a0 : RatD) (a1 : Int) (a2 : RatD) : linear_satisfies (k + 1) a0 a1 a2 =
    (num_Cmp k a0 a2).bind fun (v1 : Int) =>
    (bif v1 == (0 : Int) then some (decide (a1 < (2 : Int))) else some false).bind fun (b2 : Bool) =>
    (bif b2 then some true else (bif decide (v1 < (0 : Int)) then some (decide (a1 > (0 : Int))) else some false).bind fun (b3 : Bool) =>
    some b3).bind fun (b4 : Bool) =>
    some b4 := by
  kernel_rfl
theorem linear_dot_eq (k : Nat) (a0 : List RatD) (a1 : List RatD) : linear_dot (k + 1) a0 a1 =
    (num_Zero k ).bind fun (v1 : RatD) =>
    linear_dot.l0 k k a1 a0 (List.length a0 : Int) (0 : Int) (false, [], [], ()) v1 := by
  kernel_rfl
theorem linear_dot.l0_succ (k m0 : Nat) (x1 : List RatD) (x9 : List RatD) (x10 : Int) (x11 : Int) (r4 : RatD) (r5 : RatD) : linear_dot.l0 k (m0 + 1)  x1 x9 x10 x11 r4 r5 =
    bif decide (x11 < x10) then
      if 0 ≤ x11 ∧ x11 < (List.length x9 : Int) then if 0 ≤ x11 ∧ x11 < (List.length x1 : Int) then (num_Mul k (rdT (t := c_api_Rat) x9 x11 : RatD) (rdT (t := c_api_Rat) x1 x11 : RatD)).bind fun (v2 : RatD) =>
      (num_Add k r5 v2).bind fun (v3 : RatD) =>
      linear_dot.l0 k m0 x1 x9 x10 (wrap64 (x11 + (1 : Int))) r4 v3 else none else none
    else
      some r5 := by
  kernel_rfl
theorem num_Zero_eq (k : Nat) : num_Zero (k + 1)  =
    some (false, [], [(1 : Int)], ()) := by
  kernel_rfl
theorem num_Sign_eq (k : Nat) (a0 : RatD) : num_Sign (k + 1) a0 =
    bif (List.length a0.2.1 : Int) == (0 : Int) then
      some (0 : Int)
    else
      bif a0.1 then
        some (-1 : Int)
      else
        some (1 : Int) := by
  kernel_rfl
theorem num_Add_eq (k : Nat) (a0 : RatD) (a1 : RatD) : num_Add (k + 1) a0 a1 =
    (mag_Cmp k a0.2.2.1 a1.2.2.1).bind fun (v1 : Int) =>
    bif v1 != (0 : Int) then
      (mag_Mul k a0.2.1 a1.2.2.1).bind fun (v2 : List Int) =>
      (mag_Mul k a1.2.1 a0.2.2.1).bind fun (v3 : List Int) =>
      (mag_Mul k a0.2.2.1 a1.2.2.1).bind fun (v4 : List Int) =>
      num_Add.j0 k v2 v3 v4 a0 a1 (false, [], [], ())
    else
      num_Add.j0 k a0.2.1 a1.2.1 a0.2.2.1 a0 a1 (false, [], [], ()) := by
  kernel_rfl
theorem num_Mul_eq (k : Nat) (a0 : RatD) (a1 : RatD) : num_Mul (k + 1) a0 a1 =
    (mag_Mul k a0.2.1 a1.2.1).bind fun (v1 : List Int) =>
    (mag_Mul k a0.2.2.1 a1.2.2.1).bind fun (v2 : List Int) =>
    (num_Make k (a0.1 != a1.1) v1 v2).bind fun (v3 : RatD) =>
    some v3 := by
  kernel_rfl
theorem isochroneref02_Sign_eq (k : Nat) (a0 : RatD) : isochroneref02_Sign (k + 1) a0 =
    bif (List.length a0.2.1 : Int) == (0 : Int) then
      some (0 : Int)
    else
      bif a0.1 then
        some (-1 : Int)
      else
        some (1 : Int) := by
  kernel_rfl
theorem isochroneref02_Add_eq (k : Nat) (a0 : RatD) (a1 : RatD) : isochroneref02_Add (k + 1) a0 a1 =
    (isochroneref01_Mul k a0.2.1 a1.2.2.1).bind fun (v1 : List Int) =>
    (isochroneref01_Mul k a1.2.1 a0.2.2.1).bind fun (v2 : List Int) =>
    (isochroneref01_Mul k a0.2.2.1 a1.2.2.1).bind fun (v3 : List Int) =>
    bif a0.1 == a1.1 then
      (isochroneref01_Add k v1 v2).bind fun (v4 : List Int) =>
      (isochroneref02_Make k a0.1 v4 v3).bind fun (v5 : RatD) =>
      some v5
    else
      (isochroneref01_Cmp k v1 v2).bind fun (v6 : Int) =>
      bif decide (v6 ≥ (0 : Int)) then
        (isochroneref01_Sub k v1 v2).bind fun (v7 : List Int) =>
        (isochroneref02_Make k a0.1 v7 v3).bind fun (v8 : RatD) =>
        some v8
      else
        (isochroneref01_Sub k v2 v1).bind fun (v9 : List Int) =>
        (isochroneref02_Make k a1.1 v9 v3).bind fun (v10 : RatD) =>
        some v10 := by
  kernel_rfl
theorem isochroneref02_Mul_eq (k : Nat) (a0 : RatD) (a1 : RatD) : isochroneref02_Mul (k + 1) a0 a1 =
    (isochroneref01_Mul k a0.2.1 a1.2.1).bind fun (v1 : List Int) =>
    (isochroneref01_Mul k a0.2.2.1 a1.2.2.1).bind fun (v2 : List Int) =>
    (isochroneref02_Make k (a0.1 != a1.1) v1 v2).bind fun (v3 : RatD) =>
    some v3 := by
  kernel_rfl
theorem isochroneref01_Of_eq (k : Nat) (a0 : List Int) : isochroneref01_Of (k + 1) a0 =
    isochroneref01_Of.l0 k k a0 [] (wrap64 ((List.length a0 : Int) - (1 : Int))) := by
  kernel_rfl
theorem isochroneref01_Of.l0_succ (k m0 : Nat) (x0 : List Int) (x3 : List Int) (x4 : Int) : isochroneref01_Of.l0 k (m0 + 1)  x0 x3 x4 =
    bif decide (x4 ≥ (0 : Int)) then
      if 0 ≤ x4 ∧ x4 < (List.length x0 : Int) then (isochroneref01_Small k x3 (65536 : Int) (wrap64 (shr .u32 (rdT (t := (.int .u32)) x0 x4 : Int) (16 : Int)))).bind fun (v1 : List Int) =>
      if 0 ≤ x4 ∧ x4 < (List.length x0 : Int) then (isochroneref01_Small k v1 (65536 : Int) (wrap64 (Go.bits .and .u32 (rdT (t := (.int .u32)) x0 x4 : Int) (65535 : Int)))).bind fun (v2 : List Int) =>
      isochroneref01_Of.l0 k m0 x0 v2 (wrap64 (x4 - (1 : Int))) else none else none
    else
      some x3 := by
  kernel_rfl
theorem isochroneref01_Valid_eq (k : Nat) (a0 : List Int) : isochroneref01_Valid (k + 1) a0 = P.isochroneref01_Valid.f a0 := by
  kernel_rfl
theorem isochroneref01_Cmp_eq (k : Nat) (a0 : List Int) (a1 : List Int) : isochroneref01_Cmp (k + 1) a0 a1 = P.isochroneref01_Cmp.f k a0 a1 := by
  kernel_rfl
theorem isochroneref01_GCD_eq (k : Nat) (a0 : List Int) (a1 : List Int) : isochroneref01_GCD (k + 1) a0 a1 = P.isochroneref01_GCD.f k a0 a1 := by
  kernel_rfl
theorem num_Valid_eq (k : Nat) (a0 : RatD) (a1 : Int) : num_Valid (k + 1) a0 a1 =
    (num_valid k a0.2.1 a1).bind fun (v1 : Bool) =>
    (bif !v1 then some true else (num_valid k a0.2.2.1 a1).bind fun (v2 : Bool) =>
    some (!v2)).bind fun (b3 : Bool) =>
    (bif b3 then some true else some ((List.length a0.2.2.1 : Int) == (0 : Int))).bind fun (b4 : Bool) =>
    bif b4 then
      some false
    else
      bif (List.length a0.2.1 : Int) == (0 : Int) then
        (bif !a0.1 then some ((List.length a0.2.2.1 : Int) == (1 : Int)) else some false).bind fun (b5 : Bool) =>
        (bif b5 then if 0 ≤ (0 : Int) ∧ (0 : Int) < (List.length a0.2.2.1 : Int) then some ((rdT (t := (.int .u32)) a0.2.2.1 (0 : Int) : Int) == (1 : Int)) else none else some false).bind fun (b6 : Bool) =>
        some b6
      else
        (bif (List.length a0.2.2.1 : Int) == (1 : Int) then if 0 ≤ (0 : Int) ∧ (0 : Int) < (List.length a0.2.2.1 : Int) then some ((rdT (t := (.int .u32)) a0.2.2.1 (0 : Int) : Int) == (1 : Int)) else none else some false).bind fun (b7 : Bool) =>
        bif b7 then
          some true
        else
          (mag_GCD k a0.2.1 a0.2.2.1).bind fun (v8 : List Int) =>
          (bif (List.length v8 : Int) == (1 : Int) then if 0 ≤ (0 : Int) ∧ (0 : Int) < (List.length v8 : Int) then some ((rdT (t := (.int .u32)) v8 (0 : Int) : Int) == (1 : Int)) else none else some false).bind fun (b9 : Bool) =>
          some b9 := by
  kernel_rfl
theorem isochroneref02_Cmp_eq (k : Nat) (a0 : RatD) (a1 : RatD) : isochroneref02_Cmp (k + 1) a0 a1 =
    (isochroneref02_Sub k a0 a1).bind fun (v1 : RatD) =>
    (isochroneref02_Sign k v1).bind fun (v2 : Int) =>
    some v2 := by
  kernel_rfl
theorem num_Cmp_eq (k : Nat) (a0 : RatD) (a1 : RatD) : num_Cmp (k + 1) a0 a1 =
    (num_Sign k a0).bind fun (v1 : Int) =>
    (num_Sign k a1).bind fun (v2 : Int) =>
    bif v1 != v2 then
      bif decide (v1 < v2) then
        some (-1 : Int)
      else
        some (1 : Int)
    else
      (mag_Mul k a0.2.1 a1.2.2.1).bind fun (v3 : List Int) =>
      (mag_Mul k a1.2.1 a0.2.2.1).bind fun (v4 : List Int) =>
      (mag_Cmp k v3 v4).bind fun (v5 : Int) =>
      bif a0.1 then
        some (wrap64 (-v5))
      else
        some v5 := by
  kernel_rfl
theorem mag_Cmp_eq (k : Nat) (a0 : List Int) (a1 : List Int) : mag_Cmp (k + 1) a0 a1 = P.mag_Cmp.f k a0 a1 := by
  kernel_rfl
theorem mag_Mul_eq (k : Nat) (a0 : List Int) (a1 : List Int) : mag_Mul (k + 1) a0 a1 = P.mag_Mul.f k a0 a1 := by
  kernel_rfl
theorem num_Make_eq (k : Nat) (a0 : Bool) (a1 : List Int) (a2 : List Int) : num_Make (k + 1) a0 a1 a2 =
    bif (List.length a1 : Int) == (0 : Int) then
      (num_Zero k ).bind fun (v1 : RatD) =>
      some v1
    else
      (mag_GCD k a1 a2).bind fun (v2 : List Int) =>
      (bif (List.length v2 : Int) != (1 : Int) then some true else if 0 ≤ (0 : Int) ∧ (0 : Int) < (List.length v2 : Int) then some ((rdT (t := (.int .u32)) v2 (0 : Int) : Int) != (1 : Int)) else none).bind fun (b3 : Bool) =>
      bif b3 then
        (mag_DivMod k a1 v2).bind fun (v4 : List Int × List Int × Unit) =>
        (mag_DivMod k a2 v2).bind fun (v5 : List Int × List Int × Unit) =>
        num_Make.j0 k a0 v4.1 v5.1 (false, [], [], ())
      else
        num_Make.j0 k a0 a1 a2 (false, [], [], ()) := by
  kernel_rfl
theorem mag_Add_eq (k : Nat) (a0 : List Int) (a1 : List Int) : mag_Add (k + 1) a0 a1 = P.mag_Add.f k a0 a1 := by
  kernel_rfl
theorem mag_Sub_eq (k : Nat) (a0 : List Int) (a1 : List Int) : mag_Sub (k + 1) a0 a1 = P.mag_Sub.f k a0 a1 := by
  kernel_rfl
theorem isochroneref01_Mul_eq (k : Nat) (a0 : List Int) (a1 : List Int) : isochroneref01_Mul (k + 1) a0 a1 = P.isochroneref01_Mul.f k a0 a1 := by
  kernel_rfl
theorem isochroneref02_Make_eq (k : Nat) (a0 : Bool) (a1 : List Int) (a2 : List Int) : isochroneref02_Make (k + 1) a0 a1 a2 =
    bif (List.length a1 : Int) == (0 : Int) then
      (isochroneref02_Zero k ).bind fun (v1 : RatD) =>
      some v1
    else
      (bif (List.length a2 : Int) == (1 : Int) then if 0 ≤ (0 : Int) ∧ (0 : Int) < (List.length a2 : Int) then some ((rdT (t := (.int .i64)) a2 (0 : Int) : Int) == (1 : Int)) else none else some false).bind fun (b2 : Bool) =>
      bif b2 then
        some (a0, a1, a2, ())
      else
        (isochroneref01_GCD k a1 a2).bind fun (v3 : List Int) =>
        (bif (List.length v3 : Int) == (1 : Int) then if 0 ≤ (0 : Int) ∧ (0 : Int) < (List.length v3 : Int) then some ((rdT (t := (.int .i64)) v3 (0 : Int) : Int) == (1 : Int)) else none else some false).bind fun (b4 : Bool) =>
        bif b4 then
          some (a0, a1, a2, ())
        else
          (isochroneref01_DivMod k a1 v3).bind fun (v5 : List Int × List Int × Unit) =>
          (isochroneref01_DivMod k a2 v3).bind fun (v6 : List Int × List Int × Unit) =>
          some (a0, v5.1, v6.1, ()) := by
  kernel_rfl
theorem isochroneref01_Add_eq (k : Nat) (a0 : List Int) (a1 : List Int) : isochroneref01_Add (k + 1) a0 a1 = P.isochroneref01_Add.f k a0 a1 := by
  kernel_rfl
theorem isochroneref01_Sub_eq (k : Nat) (a0 : List Int) (a1 : List Int) : isochroneref01_Sub (k + 1) a0 a1 = P.isochroneref01_Sub.f k a0 a1 := by
  kernel_rfl
theorem isochroneref01_Small_eq (k : Nat) (a0 : List Int) (a1 : Int) (a2 : Int) : isochroneref01_Small (k + 1) a0 a1 a2 = P.isochroneref01_Small.f k a0 a1 a2 := by
  kernel_rfl
theorem num_valid_eq (k : Nat) (a0 : List Int) (a1 : Int) : num_valid (k + 1) a0 a1 =
    (bif decide ((List.length a0 : Int) ≤ a1) then (bif (List.length a0 : Int) == (0 : Int) then some true else if 0 ≤ (wrap64 ((List.length a0 : Int) - (1 : Int))) ∧ (wrap64 ((List.length a0 : Int) - (1 : Int))) < (List.length a0 : Int) then some ((rdT (t := (.int .u32)) a0 (wrap64 ((List.length a0 : Int) - (1 : Int))) : Int) != (0 : Int)) else none).bind fun (b1 : Bool) =>
    some b1 else some false).bind fun (b2 : Bool) =>
    some b2 := by
  kernel_rfl
theorem mag_GCD_eq (k : Nat) (a0 : List Int) (a1 : List Int) : mag_GCD (k + 1) a0 a1 = P.mag_GCD.f k a0 a1 := by
  kernel_rfl
theorem mag_DivMod_eq (k : Nat) (a0 : List Int) (a1 : List Int) : mag_DivMod (k + 1) a0 a1 = (P.mag_DivMod.f k a0 a1).map fun r => (r.1, r.2, ()) := by
  kernel_rfl
theorem isochroneref01_DivMod_eq (k : Nat) (a0 : List Int) (a1 : List Int) : isochroneref01_DivMod (k + 1) a0 a1 = (P.isochroneref01_DivMod.f k a0 a1).map fun r => (r.1, r.2, ()) := by
  kernel_rfl
end Go.Proofs.YtjimdhlmeebjeaaGreat.Q
end
section
namespace Go.Proofs.YtjimdhlmeebjeaaGreat.P
open Go.RowKit Go.Proofs.YtjimdhlmeebjeaaGreatW.PrintWords Go.Proofs.YtjimdhlmeebjeaaGreatW.PrintLast Go.Proofs.YtjimdhlmeebjeaaGreatW.PrintMore
set_option linter.unusedVariables false
theorem evp {α : Type} {c : Prop} [Decidable c] {f g : Nat → Option α} {r : α} (hc : c) (h : Ev f r) : Ev (fun k => if c then f k else g k) r := by simpa only [if_pos hc] using h
theorem evn {α : Type} {c : Prop} [Decidable c] {f g : Nat → Option α} {r : α} (hc : ¬ c) (h : Ev g r) : Ev (fun k => if c then f k else g k) r := by simpa only [if_neg hc] using h
theorem evb {α β : Type} {o : Option α} {f : Nat → α → Option β} {a : α} {r : β} (h : o = some a) (k : Ev (fun n => f n a) r) : Ev (fun n => o.bind (f n)) r := by subst h; exact k
theorem evs {α : Type} (r : α) : Ev (fun _ => some r) r := ⟨0, fun _ _ => rfl⟩
theorem evk {α : Type} {o : Option α} {r : α} (h : o = some r) : Ev (fun _ => o) r := ⟨0, fun _ _ => h⟩
theorem w64 {x : Int} (h0 : -9223372036854775808 ≤ x) (h1 : x ≤ 9223372036854775807) : wrap64 x = x := by unfold wrap64; omega
theorem u64 {x : Int} (h0 : 0 ≤ x) (h1 : x < 18446744073709551616) : IntKind.u64.wrap x = x := by rw [IntKind.wrap_u64]; omega
def vl (B : Int) : List Int → Int
  | [] => 0
  | x :: t => x + B * vl B t
def Dg (B : Int) (l : List Int) : Prop := ∀ x ∈ l, 0 ≤ x ∧ x < B
def Nm (l : List Int) : Prop := ∀ h : l ≠ [], l.getLast h ≠ 0
def Can (B : Int) (l : List Int) (n : Int) : Prop := Dg B l ∧ Nm l ∧ vl B l = n
section
variable {B : Int} {l a b : List Int}
theorem vl_append (B : Int) (a b : List Int) : vl B (a ++ b) = vl B a + B ^ a.length * vl B b := by
  induction a with
  | nil => simp [vl]
  | cons x t ih =>
    simp only [List.cons_append, vl, ih, List.length_cons]
    grind
theorem rd_lt (l : List Int) (i : Nat) (h : i < l.length) : rd l (i : Int) = l[i] := by simp [rd, h]
theorem vl_take (B : Int) (l : List Int) (i : Nat) (h : i < l.length) : vl B (l.take (i + 1)) = vl B (l.take i) + rd l (i : Int) * B ^ i := by
  rw [List.take_succ_eq_append_getElem h, vl_append, rd_lt l i h, List.length_take, Nat.min_eq_left (by omega)]
  simp only [vl]
  grind
theorem take_set (l : List Int) (i : Nat) (v : Int) (h : i < l.length) : (l.set i v).take (i + 1) = l.take i ++ [v] := by
  rw [List.take_succ_eq_append_getElem (by simpa using h), List.take_set_of_le (by omega)]
  simp
theorem vl_set (B : Int) (l : List Int) (i : Nat) (v : Int) (h : i < l.length) : vl B ((l.set i v).take (i + 1)) = vl B (l.take i) + v * B ^ i := by
  rw [take_set l i v h, vl_append, List.length_take, Nat.min_eq_left (by omega)]
  simp only [vl]
  grind
theorem Dg.nil (B : Int) : Dg B [] := fun x hx => by cases hx
theorem Dg.cons {x : Int} (h : Dg B (x :: l)) : (0 ≤ x ∧ x < B) ∧ Dg B l := ⟨h x (by simp), fun y hy => h y (by simp [hy])⟩
theorem Dg.mk {x : Int} (h0 : 0 ≤ x) (h1 : x < B) (h : Dg B l) : Dg B (x :: l) := by
  intro y hy
  rcases List.mem_cons.1 hy with rfl | hy
  · exact ⟨h0, h1⟩
  · exact h y hy
theorem Dg.append (ha : Dg B a) (hb : Dg B b) : Dg B (a ++ b) := by
  intro y hy
  rcases List.mem_append.1 hy with hy | hy
  · exact ha y hy
  · exact hb y hy
theorem Dg.take (h : Dg B l) (i : Nat) : Dg B (l.take i) := fun x hx => h x (List.mem_of_mem_take hx)
theorem Dg.drop (h : Dg B l) (i : Nat) : Dg B (l.drop i) := fun x hx => h x (List.mem_of_mem_drop hx)
theorem Dg.set (h : Dg B l) (i : Nat) {v : Int} (h0 : 0 ≤ v) (h1 : v < B) : Dg B (l.set i v) := by
  intro x hx
  rcases List.mem_or_eq_of_mem_set hx with hx | rfl
  · exact h x hx
  · exact ⟨h0, h1⟩
theorem Dg.rep (hB : 0 < B) (n : Nat) : Dg B (List.replicate n 0) := by
  intro x hx
  have := (List.mem_replicate.1 hx).2
  omega
theorem Dg.take_set {i : Nat} {v : Int} (hi : i < l.length) (h' : Dg B (l.take i)) (h0 : 0 ≤ v) (h1 : v < B) : Dg B ((l.set i v).take (i + 1)) := by
  rw [P.take_set l i v hi]
  exact h'.append (Dg.mk h0 h1 (Dg.nil B))
theorem dg_rd (h : Dg B l) (i : Int) (h0 : 0 ≤ i) (h1 : i < l.length) : 0 ≤ rd l i ∧ rd l i < B := by
  obtain ⟨n, rfl⟩ := Int.eq_ofNat_of_zero_le h0
  rw [rd_lt l n (by omega)]
  exact h _ (List.getElem_mem _)
theorem pow_pos' (hB : 0 < B) (n : Nat) : 0 < B ^ n := Int.pow_pos hB
theorem vl_nonneg (hB : 0 < B) : ∀ {l : List Int}, Dg B l → 0 ≤ vl B l
  | [], _ => by simp [vl]
  | x :: t, h => by
    have h1 := h.cons
    have h2 := vl_nonneg hB h1.2
    have h3 : 0 ≤ B * vl B t := Int.mul_nonneg (by omega) h2
    simp only [vl]
    omega
theorem vl_lt (hB : 0 < B) : ∀ {l : List Int}, Dg B l → vl B l < B ^ l.length
  | [], _ => by simp [vl]
  | x :: t, h => by
    have h1 := h.cons
    have h2 := vl_lt hB h1.2
    have h3 : B * (vl B t + 1) ≤ B * B ^ t.length := Int.mul_le_mul_of_nonneg_left (by omega) (by omega)
    simp only [vl, List.length_cons]
    rw [Int.mul_add] at h3
    have h4 : B ^ (t.length + 1) = B * B ^ t.length := by grind
    omega
theorem Nm.nil : Nm [] := fun h => absurd rfl h
theorem Nm.tail {x : Int} (h : Nm (x :: l)) : Nm l := by
  intro hl
  have := h (by simp)
  rwa [List.getLast_cons hl] at this
theorem vl_pos (hB : 0 < B) : ∀ {l : List Int}, Dg B l → Nm l → l ≠ [] → 0 < vl B l
  | [], _, _, h => absurd rfl h
  | [x], hd, hn, _ => by
    have h1 := hd.cons
    have h2 := hn (by simp)
    simp at h2
    simp [vl]
    omega
  | x :: y :: t, hd, hn, _ => by
    have h1 := hd.cons
    have h2 := vl_pos hB h1.2 hn.tail (by simp)
    have h3 : 0 < B * vl B (y :: t) := Int.mul_pos hB h2
    rw [vl]
    omega
theorem vl_ge (hB : 0 < B) : ∀ {l : List Int}, Dg B l → Nm l → l ≠ [] → B ^ (l.length - 1) ≤ vl B l
  | [], _, _, h => absurd rfl h
  | [x], hd, hn, _ => by
    have h1 := vl_pos hB hd hn (by simp)
    simp
    omega
  | x :: y :: t, hd, hn, _ => by
    have h1 := hd.cons
    have h2 := vl_ge hB h1.2 hn.tail (by simp)
    have h3 : B * B ^ ((y :: t).length - 1) ≤ B * vl B (y :: t) := Int.mul_le_mul_of_nonneg_left h2 (by omega)
    rw [vl]
    have h4 : B ^ ((x :: y :: t).length - 1) = B * B ^ ((y :: t).length - 1) := by
      simp only [List.length_cons, Nat.add_sub_cancel]
      grind
    omega
theorem can_uniq (hB : 0 < B) : ∀ {a b : List Int} {n : Int}, Can B a n → Can B b n → a = b
  | [], [], _, _, _ => rfl
  | [], y :: t, n, h, h' => by
    have h1 := vl_pos hB h'.1 h'.2.1 (by simp)
    have h2 := h.2.2
    have h3 := h'.2.2
    simp only [vl] at h2
    omega
  | x :: t, [], n, h, h' => by
    have h1 := vl_pos hB h.1 h.2.1 (by simp)
    have h2 := h.2.2
    have h3 := h'.2.2
    simp only [vl] at h3
    omega
  | x :: s, y :: t, n, h, h' => by
    have h1 := h.1.cons
    have h2 := h'.1.cons
    have h3 := h.2.2
    have h4 := h'.2.2
    simp only [vl] at h3 h4
    have e1 : x = n % B := by rw [← h3, Int.add_mul_emod_self_left, Int.emod_eq_of_lt h1.1.1 h1.1.2]
    have e2 : y = n % B := by rw [← h4, Int.add_mul_emod_self_left, Int.emod_eq_of_lt h2.1.1 h2.1.2]
    have e3 : x = y := by omega
    subst e3
    have e4 : vl B s = vl B t := Int.eq_of_mul_eq_mul_left (a := B) (by omega) (by omega)
    rw [can_uniq hB (n := vl B t) ⟨h1.2, h.2.1.tail, e4⟩ ⟨h2.2, h'.2.1.tail, rfl⟩]
theorem Can.nonneg (hB : 0 < B) {n : Int} (h : Can B l n) : 0 ≤ n := by rw [← h.2.2]; exact vl_nonneg hB h.1
theorem Can.zero (B : Int) : Can B [] 0 := ⟨Dg.nil B, Nm.nil, rfl⟩
theorem Can.nil_iff (hB : 0 < B) {n : Int} (h : Can B l n) : l = [] ↔ n = 0 := by
  constructor
  · rintro rfl
    exact h.2.2.symm
  · rintro rfl
    exact can_uniq hB h (Can.zero B)
theorem Can.len_iff (hB : 0 < B) {n : Int} (h : Can B l n) : l.length = 0 ↔ n = 0 := by rw [← h.nil_iff hB]; exact List.length_eq_zero_iff
theorem Can.lt (hB : 0 < B) {n : Int} (h : Can B l n) : n < B ^ l.length := by rw [← h.2.2]; exact vl_lt hB h.1
theorem Can.ge (hB : 0 < B) {n : Int} (h : Can B l n) (h0 : l.length ≠ 0) : B ^ (l.length - 1) ≤ n := by
  rw [← h.2.2]
  exact vl_ge hB h.1 h.2.1 (fun e => h0 (by rw [e]; rfl))
theorem pow_le {B : Int} (hB : 1 ≤ B) {i j : Nat} (h : i ≤ j) : B ^ i ≤ B ^ j := by
  obtain ⟨d, rfl⟩ := Nat.exists_eq_add_of_le h
  rw [Int.pow_add]
  have h1 : 1 ≤ B ^ d := Int.pow_pos (by omega)
  have h2 : B ^ i * 1 ≤ B ^ i * B ^ d := Int.mul_le_mul_of_nonneg_left h1 (Int.le_of_lt (Int.pow_pos (by omega)))
  omega
theorem Can.len_lt (hB : 1 < B) {n m : Int} (h : Can B a n) (h' : Can B b m) (hl : a.length < b.length) : n < m := by
  have h1 := h.lt (by omega)
  have h2 := h'.ge (by omega) (by omega)
  have h3 := pow_le (B := B) (by omega) (show a.length ≤ b.length - 1 by omega)
  omega
theorem Can.len_le (hB : 1 < B) {n : Int} (h : Can B l n) {k : Nat} (hn : n < B ^ k) : l.length ≤ k := by
  rcases Nat.lt_or_ge k l.length with hk | hk
  · have h1 := h.ge (by omega) (by omega)
    have h2 := pow_le (B := B) (by omega) (show k ≤ l.length - 1 by omega)
    omega
  · exact hk
theorem Can.len_ge (hB : 1 < B) {n : Int} (h : Can B l n) {k : Nat} (hn : B ^ k ≤ n) : k < l.length := by
  rcases Nat.lt_or_ge k l.length with hk | hk
  · exact hk
  · have h1 := h.lt (by omega)
    have h2 := pow_le (B := B) (by omega) hk
    omega
theorem vl_drop (B : Int) (l : List Int) (i : Nat) (h : i ≤ l.length) : vl B l = vl B (l.take i) + B ^ i * vl B (l.drop i) := by
  conv => lhs; rw [← List.take_append_drop i l]
  rw [vl_append, List.length_take, Nat.min_eq_left h]
theorem rd_set_ne (l : List Int) (i j : Int) (v : Int) (h : i.toNat ≠ j.toNat) : rd (l.set i.toNat v) j = rd l j := by
  simp only [rd, List.getD_eq_getElem?_getD]
  rw [List.getElem?_set_ne h]
theorem rd_set_eq (l : List Int) (i : Int) (v : Int) (h : i.toNat < l.length) : rd (l.set i.toNat v) i = v := by
  simp only [rd, List.getD_eq_getElem?_getD]
  rw [List.getElem?_set_self h]
  rfl
theorem rd_take (l : List Int) (j : Int) (i : Nat) (h : j.toNat < i) : rd (l.take i) j = rd l j := by
  simp only [rd, List.getD_eq_getElem?_getD]
  rw [List.getElem?_take_of_lt h]
theorem getLast_rd (l : List Int) (h : l ≠ []) : l.getLast h = rd l ((l.length : Int) - 1) := by
  have hp : 0 < l.length := List.length_pos_iff.2 h
  rw [List.getLast_eq_getElem]
  have e : (l.length : Int) - 1 = ((l.length - 1 : Nat) : Int) := by omega
  rw [e, rd_lt _ _ (by omega)]
theorem nm_of_rd (h : 0 < l.length → rd l ((l.length : Int) - 1) ≠ 0) : Nm l := by
  intro hl
  rw [getLast_rd l hl]
  exact h (List.length_pos_iff.2 hl)
theorem Nm.rd (h : Nm l) (hp : 0 < l.length) : rd l ((l.length : Int) - 1) ≠ 0 := by
  have hl : l ≠ [] := List.ne_nil_of_length_pos hp
  rw [← getLast_rd l hl]
  exact h hl
theorem vl_rep (B : Int) (n : Nat) : vl B (List.replicate n 0) = 0 := by
  induction n with
  | zero => rfl
  | succ n ih => simp [List.replicate_succ, vl, ih]
theorem can_ex_nat (hB : 1 < B) (n : Nat) : ∃ l, Can B l (n : Int) := by
  induction n using Nat.strongRecOn with
  | _ n ih =>
    by_cases h0 : n = 0
    · subst h0
      exact ⟨[], Can.zero B⟩
    · have hlt : ((n : Int) / B).toNat < n := by
        have h1 : (n : Int) / B < n := Int.ediv_lt_self_of_pos_of_ne_one (by omega) (by omega)
        have h2 : 0 ≤ (n : Int) / B := Int.ediv_nonneg (by omega) (by omega)
        omega
      obtain ⟨l, h1, h2, h3⟩ := ih _ hlt
      have h4 : 0 ≤ (n : Int) / B := Int.ediv_nonneg (by omega) (by omega)
      have hm := Int.emod_nonneg (n : Int) (show B ≠ 0 by omega)
      have hm2 := Int.emod_lt_of_pos (n : Int) (show 0 < B by omega)
      have h5 : vl B ((n : Int) % B :: l) = n := by
        rw [vl, h3, Int.toNat_of_nonneg h4]
        exact Int.emod_add_mul_ediv _ _
      refine ⟨(n : Int) % B :: l, Dg.mk hm hm2 h1, ?_, h5⟩
      intro hne
      rcases List.eq_nil_or_concat l with hl | ⟨_, _, hl⟩
      · subst hl
        simp only [vl, Int.mul_zero, Int.add_zero] at h5
        simp only [List.getLast_singleton]
        omega
      · have hne' : l ≠ [] := by rw [hl]; simp
        rw [List.getLast_cons hne']
        exact h2 hne'
theorem can_ex (hB : 1 < B) {n : Int} (h : 0 ≤ n) : ∃ l, Can B l n := by
  obtain ⟨k, rfl⟩ := Int.eq_ofNat_of_zero_le h
  exact can_ex_nat hB k
end
end Go.Proofs.YtjimdhlmeebjeaaGreat.P
end
section
namespace Go.Proofs.YtjimdhlmeebjeaaGreat.P
open Go.RowKit Go.Proofs.YtjimdhlmeebjeaaGreatW.PrintWords Go.Proofs.YtjimdhlmeebjeaaGreatW.PrintLast Go.Proofs.YtjimdhlmeebjeaaGreatW.PrintMore
set_option linter.unusedVariables false
abbrev WW : Int := 4294967296
theorem WW_pos : (0 : Int) < WW := by decide
theorem WW_one : (1 : Int) < WW := by decide
theorem WW_eq : WW = 4294967296 := rfl
theorem alg_add {vo va vb P c c' v x y W : Int} (h : vo + c * P = va + vb) (h2 : v + W * c' = c + x + y) : vo + v * P + c' * (W * P) = (va + x * P) + (vb + y * P) := by grind
theorem alg_add1 {vo va vb P c c' v x W : Int} (h : vo + c * P = va + vb) (h2 : v + W * c' = c + x) : vo + v * P + c' * (W * P) = (va + x * P) + vb := by grind
theorem alg_last {vo c P n W : Int} (h : vo + c * P = n) : vo + P * (c + W * 0) = n := by grind
theorem wsucc {i : Nat} (h : i < 4611686018427387904) : wrap64 ((i : Int) + 1) = ((i + 1 : Nat) : Int) := by rw [w64 (by omega) (by omega)]; omega
theorem mag_Trim_ev (n : Nat) : ∀ (l : List Int), l.length = n → n < 4611686018427387904 → Dg WW l → ∃ r, Ev (fun k => mag_Trim.l0 k l) r ∧ Can WW r (vl WW l) ∧ r.length ≤ l.length := by
  induction n with
  | zero =>
    intro l hl _ hd
    have e : l = [] := List.eq_nil_of_length_eq_zero hl
    subst e
    refine ⟨[], ?_, Can.zero _, Nat.le_refl _⟩
    refine Ev.step (fun k => by rw [mag_Trim.l0]) ?_
    exact evn (by simp) (evs _)
  | succ n ih =>
    intro l hl hn hd
    have ew : wrap64 ((l.length : Int) - 1) = (n : Int) := by rw [w64 (by omega) (by omega)]; omega
    by_cases hz : rd l n = 0
    · obtain ⟨r, h1, h2, h3⟩ := ih (l.take n) (by rw [List.length_take]; omega) (by omega) (hd.take n)
      refine ⟨r, ?_, ?_, ?_⟩
      · refine Ev.step (fun k => by rw [mag_Trim.l0]) ?_
        rw [ew]
        refine evp (by omega) (evp (by omega) (evp (by omega) (evp hz (evp (by omega) ?_))))
        simpa using h1
      · have h4 := vl_take WW l n (by omega)
        rw [hz, show n + 1 = l.length by omega, List.take_length] at h4
        rw [h4]
        simpa using h2
      · rw [List.length_take] at h3
        omega
    · refine ⟨l, ?_, ⟨hd, nm_of_rd (fun _ => ?_), rfl⟩, Nat.le_refl _⟩
      · refine Ev.step (fun k => by rw [mag_Trim.l0]) ?_
        rw [ew]
        exact evp (by omega) (evp (by omega) (evp (by omega) (evn hz (evs _))))
      · rw [hl]
        have e : (((n + 1 : Nat) : Int) - 1) = (n : Int) := by omega
        rw [e]
        exact hz
theorem mag_Trim_sp {l : List Int} (hn : l.length < 4611686018427387904) (hd : Dg WW l) : ∃ r, Ev (fun k => mag_Trim.f k l) r ∧ Can WW r (vl WW l) ∧ r.length ≤ l.length := by
  obtain ⟨r, h1, h2⟩ := mag_Trim_ev l.length l rfl hn hd
  exact ⟨r, Ev.congr (fun k => by rw [mag_Trim.f]) h1, h2⟩
theorem mag_From_sp {a : Int} (h0 : 0 ≤ a) (h1 : a < 18446744073709551616) : ∃ r, Ev (fun k => mag_From.f k a) r ∧ Can WW r a := by
  have hW := WW_eq
  have hd : Dg WW [a % 4294967296, (a / 4294967296) % 4294967296] := Dg.mk (by omega) (by omega) (Dg.mk (by omega) (by omega) (Dg.nil _))
  obtain ⟨r, h2, h3, _⟩ := mag_Trim_sp (by simp) hd
  refine ⟨r, ?_, ?_⟩
  · unfold mag_From.f
    exact Ev.bind h2 (evs _)
  · have e : vl WW [a % 4294967296, (a / 4294967296) % 4294967296] = a := by
      simp only [vl, Int.mul_zero, Int.add_zero, WW_eq]
      omega
    rw [← e]
    exact h3
theorem mag_Cmp_ev {a b : List Int} (hl : a.length = b.length) (hn : a.length < 4611686018427387904) (ha : Dg WW a) (hb : Dg WW b) (d : Nat) :
    ∀ (i : Nat), i = d → i ≤ a.length → vl WW (a.drop i) = vl WW (b.drop i) → ∃ r, Ev (fun k => mag_Cmp.l0 k a b ((i : Int) - 1)) r ∧ (r = -1 ∧ vl WW a < vl WW b ∨ r = 0 ∧ vl WW a = vl WW b ∨ r = 1 ∧ vl WW b < vl WW a) := by
  induction d with
  | zero =>
    rintro i rfl h1 h2
    refine ⟨0, ?_, .inr (.inl ⟨rfl, by simpa using h2⟩)⟩
    refine Ev.step (fun k => by rw [mag_Cmp.l0]) ?_
    exact evn (by omega) (evs _)
  | succ d ih =>
    rintro i rfl h1 h2
    have e1 : (((d + 1 : Nat) : Int) - 1) = (d : Int) := by omega
    rw [e1]
    have h3 := vl_drop WW a d (by omega)
    have h4 := vl_drop WW b d (by omega)
    have ea : a.drop d = rd a d :: a.drop (d + 1) := by rw [rd_lt a d (by omega)]; exact (List.drop_eq_getElem_cons (by omega))
    have eb : b.drop d = rd b d :: b.drop (d + 1) := by rw [rd_lt b d (by omega)]; exact (List.drop_eq_getElem_cons (by omega))
    have ta := vl_lt WW_pos (ha.take d)
    have tb := vl_lt WW_pos (hb.take d)
    have ta0 := vl_nonneg WW_pos (ha.take d)
    have tb0 := vl_nonneg WW_pos (hb.take d)
    rw [List.length_take, Nat.min_eq_left (by omega)] at ta tb
    by_cases he : rd a d = rd b d
    · obtain ⟨r, h5, h6⟩ := ih d rfl (by omega) (by rw [ea, eb, vl, vl, he, h2])
      refine ⟨r, ?_, h6⟩
      refine Ev.step (fun k => by rw [mag_Cmp.l0]) ?_
      rw [w64 (by omega) (by omega)]
      exact evp (by omega) (evp (by omega) (evp (by omega) (evp (by omega) (evp he h5))))
    · have h7 : vl WW (a.drop d) = rd a d + WW * vl WW (a.drop (d + 1)) := by rw [ea, vl]
      have h8 : vl WW (b.drop d) = rd b d + WW * vl WW (b.drop (d + 1)) := by rw [eb, vl]
      have hp : 0 < WW ^ d := Int.pow_pos WW_pos
      by_cases hlt : rd a d < rd b d
      · refine ⟨-1, ?_, .inl ⟨rfl, ?_⟩⟩
        · refine Ev.step (fun k => by rw [mag_Cmp.l0]) ?_
          exact evp (by omega) (evp (by omega) (evp (by omega) (evp (by omega) (evn he (evp hlt (evs _))))))
        · have h9 : WW ^ d * (vl WW (a.drop d) + 1) ≤ WW ^ d * vl WW (b.drop d) := Int.mul_le_mul_of_nonneg_left (by rw [h7, h8, h2]; omega) (by omega)
          rw [Int.mul_add] at h9
          omega
      · refine ⟨1, ?_, .inr (.inr ⟨rfl, ?_⟩)⟩
        · refine Ev.step (fun k => by rw [mag_Cmp.l0]) ?_
          exact evp (by omega) (evp (by omega) (evp (by omega) (evp (by omega) (evn he (evn hlt (evs _))))))
        · have h9 : WW ^ d * (vl WW (b.drop d) + 1) ≤ WW ^ d * vl WW (a.drop d) := Int.mul_le_mul_of_nonneg_left (by rw [h7, h8, h2]; omega) (by omega)
          rw [Int.mul_add] at h9
          omega
def cmpi (n m : Int) : Int := if n < m then -1 else if n = m then 0 else 1
theorem mag_Cmp_sp {a b : List Int} {n m : Int} (hn : a.length < 4611686018427387904) (ha : Can WW a n) (hb : Can WW b m) : Ev (fun k => mag_Cmp.f k a b) (cmpi n m) := by
  unfold mag_Cmp.f
  by_cases hl : a.length = b.length
  · obtain ⟨r, h1, h2⟩ := mag_Cmp_ev hl hn ha.1 hb.1 a.length a.length rfl (Nat.le_refl _) (by rw [List.drop_length, hl, List.drop_length])
    have e : r = cmpi n m := by
      rw [ha.2.2, hb.2.2] at h2
      unfold cmpi
      rcases h2 with ⟨rfl, h⟩ | ⟨rfl, h⟩ | ⟨rfl, h⟩
      · rw [if_pos h]
      · rw [if_neg (by omega), if_pos h]
      · rw [if_neg (by omega), if_neg (by omega)]
    rw [← e]
    refine evp (by omega) ?_
    rw [w64 (by omega) (by omega)]
    exact h1
  · refine evn (by omega) ?_
    unfold cmpi
    by_cases h : a.length < b.length
    · have := Can.len_lt WW_one ha hb h
      rw [if_pos this]
      exact evp (by omega) (evs _)
    · have := Can.len_lt WW_one hb ha (by omega)
      rw [if_neg (show ¬ n < m by omega), if_neg (show ¬ n = m by omega)]
      exact evn (by omega) (evs _)
theorem mag_Add_ev {a b : List Int} (hba : b.length ≤ a.length) (hn : a.length < 1099511627776) (ha : Dg WW a) (hb : Dg WW b) (d : Nat) :
    ∀ (i : Nat) (o : List Int) (c : Int), a.length - i = d → i ≤ a.length → o.length = a.length + 1 → Dg WW (o.take i) → 0 ≤ c → c ≤ 1 → vl WW (o.take i) + c * WW ^ i = vl WW (a.take i) + vl WW (b.take i) →
    ∃ r, Ev (fun k => mag_Add.l0 k a b o c a (a.length : Int) (i : Int)) r ∧ Can WW r (vl WW a + vl WW b) ∧ r.length ≤ a.length + 1 := by
  induction d with
  | zero =>
    intro i o c h1 h2 h3 h4 h5 h6 h7
    have e : i = a.length := by omega
    subst e
    have hset : o.set a.length c = o.take a.length ++ [c] := by
      have := P.take_set o a.length c (by omega)
      rw [show a.length + 1 = (o.set a.length c).length by simp [h3], List.take_length] at this
      exact this
    have hd : Dg WW (o.set a.length c) := by rw [hset]; exact h4.append (Dg.mk h5 (by have := WW_one; omega) (Dg.nil _))
    obtain ⟨r, h8, h9, h10⟩ := mag_Trim_sp (l := o.set a.length c) (by simp; omega) hd
    have hv : vl WW (o.set a.length c) = vl WW a + vl WW b := by
      rw [hset, vl_append, List.length_take, Nat.min_eq_left (by omega)]
      rw [List.take_length, List.take_of_length_le hba] at h7
      simp only [vl]
      exact alg_last h7
    refine ⟨r, ?_, by rw [← hv]; exact h9, by simp at h10; omega⟩
    refine Ev.step (fun k => by rw [mag_Add.l0]) ?_
    refine evn (by omega) (evp (by omega) (evp (by omega) ?_))
    have ec : c % 4294967296 = c := by omega
    rw [ec, show ((a.length : Int)).toNat = a.length by omega]
    exact Ev.bind h8 (evs _)
  | succ d ih =>
    intro i o c h1 h2 h3 h4 h5 h6 h7
    have hi : i < a.length := by omega
    have hx := dg_rd ha (i : Int) (by omega) (by omega)
    have ti := vl_take WW a i hi
    have ep : WW ^ (i + 1) = WW * WW ^ i := by rw [Int.pow_succ, Int.mul_comm]
    have hW := WW_eq
    by_cases hib : i < b.length
    · have hy := dg_rd hb (i : Int) (by omega) (by omega)
      have tb := vl_take WW b i hib
      have ev : (c + rd a i + rd b i) % 4294967296 + WW * ((c + rd a i + rd b i) / 4294967296) = c + rd a i + rd b i := by rw [WW_eq]; omega
      obtain ⟨r, h8, h9⟩ := ih (i + 1) (o.set i ((c + rd a i + rd b i) % 4294967296)) ((c + rd a i + rd b i) / 4294967296) (by omega) (by omega) (by simpa using h3)
        (Dg.take_set (by omega) h4 (by omega) (by omega)) (by omega) (by omega)
        (by rw [vl_set _ _ _ _ (by omega), ti, tb, ep]; exact alg_add h7 ev)
      refine ⟨r, ?_, h9⟩
      refine Ev.step (fun k => by rw [mag_Add.l0]) ?_
      rw [u64 (x := rd a i) (by omega) (by omega), u64 (x := rd b i) (by omega) (by omega), u64 (x := c + rd a i) (by omega) (by omega), u64 (x := c + rd a i + rd b i) (by omega) (by omega), wsucc (by omega)]
      exact evp (by omega) (evp (by omega) (evp (by omega) (evp (by omega) (evp (by omega) h8))))
    · have tb : vl WW (b.take (i + 1)) = vl WW (b.take i) := by rw [List.take_of_length_le (by omega), List.take_of_length_le (by omega)]
      have ev : (c + rd a i) % 4294967296 + WW * ((c + rd a i) / 4294967296) = c + rd a i := by rw [WW_eq]; omega
      obtain ⟨r, h8, h9⟩ := ih (i + 1) (o.set i ((c + rd a i) % 4294967296)) ((c + rd a i) / 4294967296) (by omega) (by omega) (by simpa using h3)
        (Dg.take_set (by omega) h4 (by omega) (by omega)) (by omega) (by omega)
        (by rw [vl_set _ _ _ _ (by omega), ti, tb, ep]; exact alg_add1 h7 ev)
      refine ⟨r, ?_, h9⟩
      refine Ev.step (fun k => by rw [mag_Add.l0]) ?_
      rw [u64 (x := rd a i) (by omega) (by omega), u64 (x := c + rd a i) (by omega) (by omega), wsucc (by omega)]
      exact evp (by omega) (evp (by omega) (evp (by omega) (evn (by omega) (evp (by omega) h8))))
theorem mag_Add_j {a b : List Int} (hba : b.length ≤ a.length) (hn : a.length < 1099511627776) (ha : Dg WW a) (hb : Dg WW b) : ∃ r, Ev (fun k => mag_Add.j0 k a b) r ∧ Can WW r (vl WW a + vl WW b) ∧ r.length ≤ a.length + 1 := by
  obtain ⟨r, h1, h2⟩ := mag_Add_ev hba hn ha hb a.length 0 (List.replicate (a.length + 1) 0) 0 (by omega) (by omega) (by simp) (by simp; exact Dg.nil _) (by omega) (by omega) (by simp [vl])
  refine ⟨r, ?_, h2⟩
  refine Ev.step (fun k => by rw [mag_Add.j0]) ?_
  have e : wrap64 ((a.length : Int) + 1) = ((a.length + 1 : Nat) : Int) := by rw [w64 (by omega) (by omega)]; omega
  rw [e, Int.toNat_natCast]
  exact evp (by omega) (evp (by omega) h1)
theorem mag_Add_sp {a b : List Int} {n m : Int} (hla : a.length < 1099511627776) (hlb : b.length < 1099511627776) (ha : Can WW a n) (hb : Can WW b m) : ∃ r, Ev (fun k => mag_Add.f k a b) r ∧ Can WW r (n + m) ∧ r.length ≤ max a.length b.length + 1 := by
  unfold mag_Add.f
  rw [← ha.2.2, ← hb.2.2]
  by_cases h : a.length < b.length
  · obtain ⟨r, h1, h2, h3⟩ := mag_Add_j (a := b) (b := a) (by omega) hlb hb.1 ha.1
    exact ⟨r, evp (by omega) h1, by rw [Int.add_comm]; exact h2, by omega⟩
  · obtain ⟨r, h1, h2, h3⟩ := mag_Add_j (a := a) (b := b) (by omega) hla ha.1 hb.1
    exact ⟨r, evn (by omega) h1, h2, by omega⟩
end Go.Proofs.YtjimdhlmeebjeaaGreat.P
end
