/- An evaluator of the program's code, what its functions come to, and what they mean: text 4. No condition. -/
import Derived.KernelRfl
import Derived.Lib.Strings
import Derived.Lib.Slices
import Derived.Lib.Walk
import Derived.Lib.Bytealg
import Derived.Shelf.Strings.Builder1
import Derived.Test.YtfpolhoabfadnaaTexts3
set_option linter.unusedSimpArgs false
section
namespace Go.Proofs.Ytfpolhoabfadnaa.V
open Go.RowKit Go.Proofs.YtfpolhoabfadnaaW.PrintWords
set_option linter.unusedVariables false
instance : UL Try.prog 2 (.int .i64) := ⟨by kernel_rfl⟩
instance : UL Try.prog 3 (.int .i64) := ⟨by kernel_rfl⟩
instance : UL Try.prog 5 (.int .u8) := ⟨by kernel_rfl⟩
instance : UL Try.prog 9 (.string) := ⟨by kernel_rfl⟩
instance : UL Try.prog 22 (.slice 71) := ⟨by kernel_rfl⟩
instance : UL Try.prog 30 (.slice 3) := ⟨by kernel_rfl⟩
instance : UL Try.prog 31 (.slice 3) := ⟨by kernel_rfl⟩
instance : UL Try.prog 33 (.int .u64) := ⟨by kernel_rfl⟩
instance : UL Try.prog 34 (.int .u64) := ⟨by kernel_rfl⟩
instance : UL Try.prog 71 (.int .u32) := ⟨by kernel_rfl⟩
instance : UL Try.prog 94 (.slice 5) := ⟨by kernel_rfl⟩
instance : UL Try.prog 128 (.slice 33) := ⟨by kernel_rfl⟩
instance : IF Try.prog 2 (.int .i64 0) 1 8 := ⟨by unfold Info; kernel_rfl⟩
instance : IF Try.prog 3 (.int .i64 0) 1 8 := ⟨by unfold Info; kernel_rfl⟩
instance : IF Try.prog 5 (.int .u8 0) 1 1 := ⟨by unfold Info; kernel_rfl⟩
instance : IF Try.prog 33 (.int .u64 0) 1 8 := ⟨by unfold Info; kernel_rfl⟩
instance : IF Try.prog 34 (.int .u64 0) 1 8 := ⟨by unfold Info; kernel_rfl⟩
instance : IF Try.prog 71 (.int .u32 0) 1 4 := ⟨by unfold Info; kernel_rfl⟩
instance : SZ Try.prog 3 1 := ⟨by kernel_rfl⟩
instance : SZ Try.prog 5 1 := ⟨by kernel_rfl⟩
instance : SZ Try.prog 71 1 := ⟨by kernel_rfl⟩
instance : FN Try.prog 109 := ⟨⟨_, Try.func109, by decide, by simp [Try.f109]⟩⟩
set_option maxRecDepth 100000 in
set_option maxHeartbeats 4000000 in
theorem mag_Trim.v (k : Nat) (l0 : List Int) (r : List Int) (h : P.mag_Trim.f k l0 = some r) : Fn Try.prog 109 [.ints .u32 l0] (.ints .u32 r) := by
  refine fn_of_sim Try.func109 rfl (Nat.le_of_ble_eq_true rfl) ?_
  intro X hX
  unfold P.mag_Trim.f at h
  refine sim_seq (sim_region ?_)
  refine o1 ?_
  refine sim_ops_nil (sim_seq (sim_block (sim_loop ?_)))
  refine simL_ind (D := List Int × Unit) (fun d => ⟨look [(0, .ints .u32 d.1)], look []⟩) (fun K_ d => P.mag_Trim.l0 K_ d.1 = some r) ?_ _ (_, ()) h (rel_look _ _ ⟨rfl, trivial⟩ trivial rfl)
  intro K1 ih2 d h
  obtain ⟨x0, _⟩ := d
  dsimp only at h ⊢
  cases K1 with
  | zero => exact absurd h (by simp [P.mag_Trim.l0])
  | succ m3 =>
    simp only [P.mag_Trim.l0] at h
    refine simL_step (sim_seq (sim_seq (sim_region ?_)))
    iterate 4 refine o1 ?_
    refine og rfl rfl rfl rfl (fun hb => ?_) (fun hb => ?_)
    · skip
      obtain ⟨c4, h⟩ := tkT h hb
      have g5 := hb
      clear hb
      obtain ⟨q6, h⟩ := ite_none h
      obtain ⟨q7, h⟩ := ite_none h
      iterate 7 refine oT ?_
      refine o1 ?_
      refine sim_ops_nil ?_
      refine sim_cond rfl (fun hb => ?_) (fun hb => ?_)
      · skip
        obtain ⟨c8, h⟩ := tkT h hb
        have g9 := hb
        clear hb
        obtain ⟨q10, h⟩ := ite_none h
        refine sim_skip (sim_block (sim_region ?_))
        iterate 6 refine o1 ?_
        refine sim_ops_nil ?_
        exact simL_again (ih2 m3 (by omega) (_, ()) h) ⟨rfl, trivial⟩ trivial rfl
      · skip
        obtain ⟨c11, h⟩ := tkF h hb
        have g12 := hb
        clear hb
        refine sim_exit (sim_seq (sim_region ?_))
        iterate 2 refine o1 ?_
        refine sim_ops_nil ?_
        obtain rfl := Option.some.inj h
        exact sim_ret ⟨.inl rfl, .one (.tmp rt) rfl⟩
    · skip
      obtain ⟨c13, h⟩ := tkF h hb
      have g14 := hb
      clear hb
      iterate 7 refine opS ?_
      refine o1 ?_
      refine sim_ops_nil ?_
      refine sim_cond rfl (fun hb => ?_) (fun hb => ?_)
      · skip
        first | cases hb | (simp_all; done)
      · skip
        refine sim_exit (sim_seq (sim_region ?_))
        iterate 2 refine o1 ?_
        refine sim_ops_nil ?_
        obtain rfl := Option.some.inj h
        exact sim_ret ⟨.inl rfl, .one (.tmp rt) rfl⟩
instance : FN Try.prog 62 := ⟨⟨_, Try.func62, by decide, by simp [Try.f62]⟩⟩
set_option maxRecDepth 100000 in
set_option maxHeartbeats 4000000 in
theorem mag_From.v (k : Nat) (a0 : Int) (r : List Int) (h : P.mag_From.f k a0 = some r) : Fn Try.prog 62 [.int .u64 a0] (.ints .u32 r) := by
  refine fn_of_sim Try.func62 rfl (Nat.le_of_ble_eq_true rfl) ?_
  intro X hX
  unfold P.mag_From.f at h
  refine sim_seq (sim_region ?_)
  refine o1 ?_
  refine sim_ops_nil (sim_seq (sim_region ?_))
  iterate 6 refine o1 ?_
  obtain ⟨t1, ht2, h⟩ := Option.bind_eq_some_iff.1 h
  refine opC (mag_Trim.v _ _ _ ht2) ?_
  refine o1 ?_
  refine sim_ops_nil ?_
  obtain rfl := Option.some.inj h
  exact sim_ret ⟨.inl rfl, .one (.tmp rt) rfl⟩
instance : FN Try.prog 114 := ⟨⟨_, Try.func114, by decide, by simp [Try.f114]⟩⟩
set_option maxRecDepth 100000 in
set_option maxHeartbeats 4000000 in
theorem mag_Shl.v (k : Nat) (l0 : List Int) (a1 : Int) (r : List Int) (h : P.mag_Shl.f k l0 a1 = some r) : Fn Try.prog 114 [.ints .u32 l0, .int .i64 a1] (.ints .u32 r) := by
  refine fn_of_sim Try.func114 rfl (Nat.le_of_ble_eq_true rfl) ?_
  intro X hX
  unfold P.mag_Shl.f at h
  refine sim_seq (sim_region ?_)
  refine o1 ?_
  refine sim_ops_nil (sim_seq (sim_seq (sim_region ?_)))
  iterate 3 refine o1 ?_
  refine sim_ops_nil ?_
  refine sim_cond rfl (fun hb => ?_) (fun hb => ?_)
  · skip
    obtain ⟨c1, h⟩ := tkT h hb
    have g2 := hb
    clear hb
    refine sim_seq (sim_region ?_)
    refine o1 ?_
    refine sim_ops_nil ?_
    obtain rfl := Option.some.inj h
    exact sim_ret ⟨.inl rfl, .one (.tmp rt) rfl⟩
  · skip
    obtain ⟨c3, h⟩ := tkF h hb
    have g4 := hb
    clear hb
    obtain ⟨q5, h⟩ := ite_none h
    obtain ⟨q6, h⟩ := ite_none h
    refine sim_skip (sim_seq (sim_region ?_))
    iterate 7 refine o1 ?_
    refine sim_ops_nil (sim_seq (sim_region ?_))
    iterate 7 refine o1 ?_
    refine sim_ops_nil (sim_seq (sim_seq (sim_region ?_)))
    iterate 3 refine o1 ?_
    refine sim_ops_nil (sim_block (sim_loop ?_))
    refine simL_ind (D := Int × Int × List Int × List Int × Int × Int × Unit) (fun d => ⟨look [(5, .int .i64 d.1), (6, .int .u64 d.2.1), (7, .own 24), (25, .ints .u32 d.2.2.2.1), (26, .int .i64 d.2.2.2.2.1), (27, .int .i64 d.2.2.2.2.2.1)], look [(24, rowI 71 .u32 d.2.2.1)]⟩) (fun K_ d => P.mag_Shl.l0 K_ d.1 d.2.1 d.2.2.1 d.2.2.2.1 d.2.2.2.2.1 d.2.2.2.2.2.1 = some r ∧ 0 ≤ d.2.1) ?_ _ (_, _, _, _, _, _, ()) ⟨h, nv⟩ (rel_look _ _ ⟨rfl, rfl, rfl, rfl, rfl, rfl, trivial⟩ ⟨rfl, trivial⟩ rfl)
    intro K7 ih8 d h
    obtain ⟨h, b10⟩ := h
    obtain ⟨x5, x6, x7, x25, x26, x27, _⟩ := d
    dsimp only at h b10 ⊢
    cases K7 with
    | zero => exact absurd h (by simp [P.mag_Shl.l0])
    | succ m9 =>
      simp only [P.mag_Shl.l0] at h
      refine simL_step (sim_seq (sim_region ?_))
      refine o1 ?_
      refine sim_ops_nil (sim_seq ?_)
      refine sim_cond rfl (fun hb => ?_) (fun hb => ?_)
      · skip
        obtain ⟨c11, h⟩ := tkT h hb
        have g12 := hb
        clear hb
        obtain ⟨q13, h⟩ := ite_none h
        obtain ⟨q14, h⟩ := ite_none h
        obtain ⟨q15, h⟩ := ite_none h
        obtain ⟨q16, h⟩ := ite_none h
        obtain ⟨q17, h⟩ := ite_none h
        obtain ⟨q18, h⟩ := ite_none h
        obtain ⟨q19, h⟩ := ite_none h
        refine sim_skip (sim_seq (sim_block (sim_seq (sim_region ?_))))
        iterate 5 refine o1 ?_
        refine sim_ops_nil (sim_seq (sim_region ?_))
        iterate 5 refine o1 ?_
        refine sim_ops_nil (sim_seq (sim_region ?_))
        iterate 11 refine o1 ?_
        refine sim_ops_nil (sim_region ?_)
        iterate 10 refine o1 ?_
        refine sim_ops_nil (sim_region ?_)
        iterate 2 refine o1 ?_
        refine sim_ops_nil ?_
        exact simL_again (ih8 m9 (by omega) (_, _, _, _, _, _, ()) ⟨h, nv⟩) ⟨rfl, rfl, rfl, rfl, rfl, rfl, trivial⟩ ⟨rfl, trivial⟩ rfl
      · skip
        obtain ⟨c20, h⟩ := tkF h hb
        have g21 := hb
        clear hb
        refine sim_exit (sim_seq ?_)
        refine sim_weak (rel_freeze (k := 24) rfl) ?_
        refine sim_region ?_
        refine o1 ?_
        obtain ⟨t22, ht23, h⟩ := Option.bind_eq_some_iff.1 h
        refine opC (mag_Trim.v _ _ _ ht23) ?_
        refine o1 ?_
        refine sim_ops_nil ?_
        obtain rfl := Option.some.inj h
        exact sim_ret ⟨.inl rfl, .one (.tmp rt) rfl⟩
instance : FN Try.prog 134 := ⟨⟨_, Try.func134, by decide, by simp [Try.f134]⟩⟩
set_option maxRecDepth 100000 in
set_option maxHeartbeats 4000000 in
theorem bits_Len32.v (a0 : Int) (r : Int) (h : P.bits_Len32.f a0 = some r) : Fn Try.prog 134 [.int .u32 a0] (.int .i64 r) := by
  refine fn_of_sim Try.func134 rfl (Nat.le_of_ble_eq_true rfl) ?_
  intro X hX
  unfold P.bits_Len32.f at h
  refine sim_seq (sim_region ?_)
  refine o1 ?_
  refine sim_ops_nil (sim_seq (sim_seq (sim_region ?_)))
  iterate 2 refine o1 ?_
  refine sim_ops_nil ?_
  refine sim_cond rfl (fun hb => ?_) (fun hb => ?_)
  · skip
    obtain ⟨c1, h⟩ := tkT h hb
    have g2 := hb
    clear hb
    refine sim_seq (sim_region ?_)
    iterate 3 refine o1 ?_
    refine sim_ops_nil (sim_region ?_)
    refine o1 ?_
    refine sim_ops_nil (sim_seq (sim_seq (sim_region ?_)))
    iterate 2 refine o1 ?_
    refine sim_ops_nil ?_
    refine sim_cond rfl (fun hb => ?_) (fun hb => ?_)
    · skip
      obtain ⟨c3, h⟩ := tkT h hb
      have g4 := hb
      clear hb
      obtain ⟨q5, h⟩ := ite_none h
      obtain ⟨q6, h⟩ := ite_none h
      refine sim_seq (sim_region ?_)
      iterate 3 refine o1 ?_
      refine sim_ops_nil (sim_region ?_)
      iterate 3 refine o1 ?_
      refine sim_ops_nil (sim_seq (sim_region ?_))
      iterate 7 refine o1 ?_
      refine sim_ops_nil ?_
      obtain rfl := Option.some.inj h
      exact sim_ret ⟨.inl rfl, .one (.tmp rt) rfl⟩
    · skip
      obtain ⟨c7, h⟩ := tkF h hb
      have g8 := hb
      clear hb
      obtain ⟨q9, h⟩ := ite_none h
      obtain ⟨q10, h⟩ := ite_none h
      refine sim_skip (sim_seq (sim_region ?_))
      iterate 7 refine o1 ?_
      refine sim_ops_nil ?_
      obtain rfl := Option.some.inj h
      exact sim_ret ⟨.inl rfl, .one (.tmp rt) rfl⟩
  · skip
    obtain ⟨c11, h⟩ := tkF h hb
    have g12 := hb
    clear hb
    refine sim_skip (sim_seq (sim_seq (sim_region ?_)))
    iterate 2 refine o1 ?_
    refine sim_ops_nil ?_
    refine sim_cond rfl (fun hb => ?_) (fun hb => ?_)
    · skip
      obtain ⟨c13, h⟩ := tkT h hb
      have g14 := hb
      clear hb
      obtain ⟨q15, h⟩ := ite_none h
      obtain ⟨q16, h⟩ := ite_none h
      refine sim_seq (sim_region ?_)
      iterate 3 refine o1 ?_
      refine sim_ops_nil (sim_region ?_)
      iterate 3 refine o1 ?_
      refine sim_ops_nil (sim_seq (sim_region ?_))
      iterate 7 refine o1 ?_
      refine sim_ops_nil ?_
      obtain rfl := Option.some.inj h
      exact sim_ret ⟨.inl rfl, .one (.tmp rt) rfl⟩
    · skip
      obtain ⟨c17, h⟩ := tkF h hb
      have g18 := hb
      clear hb
      obtain ⟨q19, h⟩ := ite_none h
      obtain ⟨q20, h⟩ := ite_none h
      refine sim_skip (sim_seq (sim_region ?_))
      iterate 7 refine o1 ?_
      refine sim_ops_nil ?_
      obtain rfl := Option.some.inj h
      exact sim_ret ⟨.inl rfl, .one (.tmp rt) rfl⟩
instance : FN Try.prog 116 := ⟨⟨_, Try.func116, by decide, by simp [Try.f116]⟩⟩
set_option maxRecDepth 100000 in
set_option maxHeartbeats 4000000 in
theorem bits_LeadingZeros32.v (a0 : Int) (r : Int) (h : P.bits_LeadingZeros32.f a0 = some r) : Fn Try.prog 116 [.int .u32 a0] (.int .i64 r) := by
  refine fn_of_sim Try.func116 rfl (Nat.le_of_ble_eq_true rfl) ?_
  intro X hX
  unfold P.bits_LeadingZeros32.f at h
  refine sim_seq (sim_region ?_)
  refine o1 ?_
  refine sim_ops_nil (sim_seq (sim_region ?_))
  refine o1 ?_
  obtain ⟨t1, ht2, h⟩ := Option.bind_eq_some_iff.1 h
  refine opC (bits_Len32.v _ _ ht2) ?_
  iterate 2 refine o1 ?_
  refine sim_ops_nil ?_
  obtain rfl := Option.some.inj h
  exact sim_ret ⟨.inl rfl, .one (.tmp rt) rfl⟩
instance : FN Try.prog 117 := ⟨⟨_, Try.func117, by decide, by simp [Try.f117]⟩⟩
set_option maxRecDepth 100000 in
set_option maxHeartbeats 4000000 in
theorem mag_Cmp.v (k : Nat) (l0 : List Int) (l1 : List Int) (r : Int) (h : P.mag_Cmp.f k l0 l1 = some r) : Fn Try.prog 117 [.ints .u32 l0, .ints .u32 l1] (.int .i64 r) := by
  refine fn_of_sim Try.func117 rfl (Nat.le_of_ble_eq_true rfl) ?_
  intro X hX
  unfold P.mag_Cmp.f at h
  refine sim_seq (sim_region ?_)
  refine o1 ?_
  refine sim_ops_nil (sim_seq (sim_seq (sim_region ?_)))
  iterate 5 refine o1 ?_
  refine sim_ops_nil ?_
  refine sim_cond rfl (fun hb => ?_) (fun hb => ?_)
  · skip
    obtain ⟨c1, h⟩ := tkF h hb
    have g2 := hb
    clear hb
    refine sim_seq (sim_seq (sim_region ?_))
    iterate 5 refine o1 ?_
    refine sim_ops_nil ?_
    refine sim_cond rfl (fun hb => ?_) (fun hb => ?_)
    · skip
      obtain ⟨c3, h⟩ := tkT h hb
      have g4 := hb
      clear hb
      refine sim_seq (sim_region ?_)
      refine o1 ?_
      refine sim_ops_nil ?_
      obtain rfl := Option.some.inj h
      exact sim_ret ⟨.inl rfl, .one (.tmp rt) rfl⟩
    · skip
      obtain ⟨c5, h⟩ := tkF h hb
      have g6 := hb
      clear hb
      refine sim_skip (sim_seq (sim_region ?_))
      refine o1 ?_
      refine sim_ops_nil ?_
      obtain rfl := Option.some.inj h
      exact sim_ret ⟨.inl rfl, .one (.tmp rt) rfl⟩
  · skip
    obtain ⟨c7, h⟩ := tkT h hb
    have g8 := hb
    clear hb
    refine sim_skip (sim_seq (sim_seq (sim_region ?_)))
    iterate 4 refine o1 ?_
    refine sim_ops_nil (sim_block (sim_loop ?_))
    refine simL_ind (D := List Int × List Int × Int × Unit) (fun d => ⟨look [(0, .ints .u32 d.1), (1, .ints .u32 d.2.1), (5, .int .i64 d.2.2.1)], look []⟩) (fun K_ d => P.mag_Cmp.l0 K_ d.1 d.2.1 d.2.2.1 = some r) ?_ _ (_, _, _, ()) h (rel_look _ _ ⟨rfl, rfl, rfl, trivial⟩ trivial rfl)
    intro K9 ih10 d h
    obtain ⟨x0, x1, x5, _⟩ := d
    dsimp only at h ⊢
    cases K9 with
    | zero => exact absurd h (by simp [P.mag_Cmp.l0])
    | succ m11 =>
      simp only [P.mag_Cmp.l0] at h
      refine simL_step (sim_seq (sim_seq (sim_region ?_)))
      iterate 2 refine o1 ?_
      refine sim_ops_nil ?_
      refine sim_cond rfl (fun hb => ?_) (fun hb => ?_)
      · skip
        obtain ⟨c12, h⟩ := tkT h hb
        have g13 := hb
        clear hb
        obtain ⟨q14, h⟩ := ite_none h
        obtain ⟨q15, h⟩ := ite_none h
        obtain ⟨q16, h⟩ := ite_none h
        refine sim_skip (sim_seq (sim_block (sim_seq (sim_still ?_))))
        iterate 9 refine s1 ?_
        refine st_nil ?_
        refine sim_cond rfl (fun hb => ?_) (fun hb => ?_)
        · skip
          obtain ⟨c17, h⟩ := tkF h hb
          have g18 := hb
          clear hb
          refine sim_seq (sim_seq (sim_still ?_))
          iterate 9 refine s1 ?_
          refine st_nil ?_
          refine sim_cond rfl (fun hb => ?_) (fun hb => ?_)
          · skip
            obtain ⟨c19, h⟩ := tkT h hb
            have g20 := hb
            clear hb
            refine sim_seq (sim_region ?_)
            refine o1 ?_
            refine sim_ops_nil ?_
            obtain rfl := Option.some.inj h
            exact sim_ret ⟨.inl rfl, .one (.tmp rt) rfl⟩
          · skip
            obtain ⟨c21, h⟩ := tkF h hb
            have g22 := hb
            clear hb
            refine sim_skip (sim_seq (sim_region ?_))
            refine o1 ?_
            refine sim_ops_nil ?_
            obtain rfl := Option.some.inj h
            exact sim_ret ⟨.inl rfl, .one (.tmp rt) rfl⟩
        · skip
          obtain ⟨c23, h⟩ := tkT h hb
          have g24 := hb
          clear hb
          refine sim_skip (sim_region ?_)
          iterate 3 refine o1 ?_
          refine sim_ops_nil ?_
          exact simL_again (ih10 m11 (by omega) (_, _, _, ()) h) ⟨rfl, rfl, rfl, trivial⟩ trivial rfl
      · skip
        obtain ⟨c25, h⟩ := tkF h hb
        have g26 := hb
        clear hb
        refine sim_exit (sim_seq (sim_region ?_))
        refine o1 ?_
        refine sim_ops_nil ?_
        obtain rfl := Option.some.inj h
        exact sim_ret ⟨.inl rfl, .one (.tmp rt) rfl⟩
instance : FN Try.prog 130 := ⟨⟨_, Try.func130, by decide, by simp [Try.f130]⟩⟩
set_option maxRecDepth 100000 in
set_option maxHeartbeats 4000000 in
theorem mag_divWord.v (k : Nat) (l0 : List Int) (a1 : Int) (r : List Int × Int) (h : P.mag_divWord.f k l0 a1 = some r) : Fn Try.prog 130 [.ints .u32 l0, .int .u32 a1] (.tup [.ints .u32 r.1, .int .u32 r.2]) := by
  refine fn_of_sim Try.func130 rfl (Nat.le_of_ble_eq_true rfl) ?_
  intro X hX
  unfold P.mag_divWord.f at h
  obtain ⟨q1, h⟩ := ite_none h
  obtain ⟨q2, h⟩ := ite_none h
  refine sim_seq (sim_region ?_)
  iterate 2 refine o1 ?_
  refine sim_ops_nil (sim_seq (sim_region ?_))
  iterate 4 refine o1 ?_
  refine sim_ops_nil (sim_seq (sim_region ?_))
  refine o1 ?_
  refine sim_ops_nil (sim_seq (sim_seq (sim_region ?_)))
  iterate 4 refine o1 ?_
  refine sim_ops_nil (sim_block (sim_loop ?_))
  refine simL_ind (D := List Int × Int × List Int × Int × Int × Unit) (fun d => ⟨look [(0, .ints .u32 d.1), (1, .int .u32 d.2.1), (6, .own 11), (7, .int .u64 d.2.2.2.1), (8, .int .i64 d.2.2.2.2.1)], look [(11, rowI 71 .u32 d.2.2.1)]⟩) (fun K_ d => P.mag_divWord.l0 K_ d.1 d.2.1 d.2.2.1 d.2.2.2.1 d.2.2.2.2.1 = some r) ?_ _ (_, _, _, _, _, ()) h (rel_look _ _ ⟨rfl, rfl, rfl, rfl, rfl, trivial⟩ ⟨rfl, trivial⟩ rfl)
  intro K3 ih4 d h
  obtain ⟨x0, x1, x6, x7, x8, _⟩ := d
  dsimp only at h ⊢
  cases K3 with
  | zero => exact absurd h (by simp [P.mag_divWord.l0])
  | succ m5 =>
    simp only [P.mag_divWord.l0] at h
    refine simL_step (sim_seq (sim_seq (sim_region ?_)))
    iterate 2 refine o1 ?_
    refine sim_ops_nil ?_
    refine sim_cond rfl (fun hb => ?_) (fun hb => ?_)
    · skip
      obtain ⟨c6, h⟩ := tkT h hb
      have g7 := hb
      clear hb
      obtain ⟨q8, h⟩ := ite_none h
      obtain ⟨q9, h⟩ := ite_none h
      obtain ⟨q10, h⟩ := ite_none2 h
      obtain ⟨q11, h⟩ := ite_none h
      refine sim_skip (sim_seq (sim_block (sim_seq (sim_region ?_))))
      iterate 9 refine o1 ?_
      refine sim_ops_nil (sim_seq (sim_region ?_))
      iterate 9 refine o1 ?_
      refine sim_ops_nil (sim_region ?_)
      iterate 5 refine o1 ?_
      refine sim_ops_nil (sim_region ?_)
      iterate 3 refine o1 ?_
      refine sim_ops_nil ?_
      exact simL_again (ih4 m5 (by omega) (_, _, _, _, _, ()) h) ⟨rfl, rfl, rfl, rfl, rfl, trivial⟩ ⟨rfl, trivial⟩ rfl
    · skip
      obtain ⟨c12, h⟩ := tkF h hb
      have g13 := hb
      clear hb
      refine sim_exit (sim_seq ?_)
      refine sim_weak (rel_freeze (k := 11) rfl) ?_
      refine sim_region ?_
      refine o1 ?_
      obtain ⟨t14, ht15, h⟩ := Option.bind_eq_some_iff.1 h
      refine opC (mag_Trim.v _ _ _ ht15) ?_
      iterate 4 refine o1 ?_
      refine sim_ops_nil ?_
      obtain rfl := Option.some.inj h
      exact sim_ret ⟨.inl rfl, .two (.tmp rt) (.tmp rt) rfl rfl⟩
instance : FN Try.prog 131 := ⟨⟨_, Try.func131, by decide, by simp [Try.f131]⟩⟩
set_option maxRecDepth 100000 in
set_option maxHeartbeats 4000000 in
theorem mag_subtract.v {pre post : List Int} {e_ : TypeId} (k : Nat) (l0 : List Int) (l1 : List Int) (a2 : Int) (r : Bool × List Int) (h : P.mag_subtract.f k l0 l1 a2 = some r) : FnW Try.prog 131 [.win lent pre.length l0.length, .ints .u32 l1, .int .u64 a2] (rowI e_ .u32 (pre ++ l0 ++ post)) (.bool r.1) (rowI e_ .u32 (pre ++ r.2 ++ post)) := by
  refine fnW_of_sim Try.func131 rfl (Nat.le_of_ble_eq_true rfl) rfl ?_
  intro X hX
  unfold P.mag_subtract.f at h
  refine sim_seq (sim_region ?_)
  refine o1 ?_
  refine sim_ops_nil (sim_seq (sim_region ?_))
  iterate 2 refine o1 ?_
  refine sim_ops_nil (sim_seq (sim_seq (sim_region ?_)))
  iterate 3 refine o1 ?_
  refine sim_ops_nil (sim_block (sim_loop ?_))
  refine simL_ind (D := List Int × List Int × Int × Int × Int × List Int × Int × Int × Unit) (fun d => ⟨look [(0, .win lent pre.length l0.length), (1, .ints .u32 d.2.1), (2, .int .u64 d.2.2.1), (7, .int .u64 d.2.2.2.1), (8, .int .u64 d.2.2.2.2.1), (13, .ints .u32 d.2.2.2.2.2.1), (14, .int .i64 d.2.2.2.2.2.2.1), (15, .int .i64 d.2.2.2.2.2.2.2.1)], look [(lent, rowI e_ .u32 (pre ++ d.1 ++ post))]⟩) (fun K_ d => P.mag_subtract.l0 K_ d.1 d.2.1 d.2.2.1 d.2.2.2.1 d.2.2.2.2.1 d.2.2.2.2.2.1 d.2.2.2.2.2.2.1 d.2.2.2.2.2.2.2.1 = some r ∧ d.1.length = l0.length) ?_ _ (_, _, _, _, _, _, _, _, ()) ⟨h, nv⟩ (rel_look _ _ ⟨rfl, rfl, rfl, rfl, rfl, rfl, rfl, rfl, trivial⟩ ⟨rfl, trivial⟩ rfl)
  intro K1 ih2 d h
  obtain ⟨h, b4⟩ := h
  obtain ⟨x0, x1, x2, x7, x8, x13, x14, x15, _⟩ := d
  dsimp only at h b4 ⊢
  cases K1 with
  | zero => exact absurd h (by simp [P.mag_subtract.l0])
  | succ m3 =>
    simp only [P.mag_subtract.l0] at h
    refine simL_step (sim_seq (sim_region ?_))
    refine o1 ?_
    refine sim_ops_nil (sim_seq ?_)
    refine sim_cond rfl (fun hb => ?_) (fun hb => ?_)
    · skip
      obtain ⟨c5, h⟩ := tkT h hb
      have g6 := hb
      clear hb
      obtain ⟨q7, h⟩ := ite_none h
      obtain ⟨q8, h⟩ := ite_none h
      obtain ⟨q9, h⟩ := ite_none h
      refine sim_skip (sim_seq (sim_block (sim_seq (sim_region ?_))))
      iterate 5 refine o1 ?_
      refine sim_ops_nil (sim_seq (sim_region ?_))
      iterate 7 refine o1 ?_
      refine sim_ops_nil (sim_seq (sim_region ?_))
      iterate 12 refine o1 ?_
      refine sim_ops_nil (sim_seq (sim_region ?_))
      iterate 6 refine o1 ?_
      refine sim_ops_nil (sim_seq (sim_region ?_))
      iterate 3 refine o1 ?_
      refine sim_ops_nil (sim_region ?_)
      iterate 3 refine o1 ?_
      refine sim_ops_nil (sim_region ?_)
      iterate 2 refine o1 ?_
      refine sim_ops_nil ?_
      exact simL_again (ih2 m3 (by omega) (_, _, _, _, _, _, _, _, ()) ⟨h, nv⟩) ⟨rfl, rfl, rfl, rfl, rfl, rfl, rfl, rfl, trivial⟩ ⟨rfl, trivial⟩ rfl
    · skip
      obtain ⟨c10, h⟩ := tkF h hb
      have g11 := hb
      clear hb
      obtain ⟨q12, h⟩ := ite_none h
      obtain ⟨q13, h⟩ := ite_none h
      refine sim_exit (sim_seq (sim_region ?_))
      iterate 11 refine o1 ?_
      refine sim_ops_nil (sim_seq (sim_region ?_))
      iterate 7 refine o1 ?_
      refine sim_ops_nil (sim_seq (sim_region ?_))
      iterate 4 refine o1 ?_
      refine sim_ops_nil ?_
      obtain rfl := Option.some.inj h
      exact sim_ret ⟨.inl rfl, .one (.tmp rt) rfl, rfl⟩
theorem mag_subtract.len (k : Nat) : ∀ x0 x1 x2 x7 x8 x13 x14 x15 (r : Bool × List Int), P.mag_subtract.l0 k x0 x1 x2 x7 x8 x13 x14 x15 = some r → r.2.length = x0.length := by
  induction k with
  | zero => intro x0 x1 x2 x7 x8 x13 x14 x15 r h; simp [P.mag_subtract.l0] at h
  | succ k ih =>
    intro x0 x1 x2 x7 x8 x13 x14 x15 r h
    simp only [P.mag_subtract.l0] at h
    repeat' split at h
    all_goals first
      | (cases h; done)
      | (have := ih _ _ _ _ _ _ _ _  _ h; simpa using this)
      | (cases h; simp)
theorem mag_subtractAt.len {k : Nat} {l : List Int} {b1 b2 : Int} {l1 : List Int} {a2 : Int} {r : Bool × List Int} (h : P.mag_subtractAt.f k l b1 b2 l1 a2 = some r) (h0 : 0 ≤ b1) (h1 : b1 ≤ b2) (h2 : b2 ≤ l.length) : r.2.length = l.length := by
  unfold P.mag_subtractAt.f at h
  obtain ⟨p, h3, h4⟩ := Option.bind_eq_some_iff.1 h
  obtain rfl := Option.some.inj h4
  have := mag_subtract.len _ _ _ _ _ _ _ _ _  _ h3
  simp only [List.length_append, List.length_take, List.length_drop] at this ⊢
  omega
theorem mag_subtractAt.v {e_ : TypeId} {k : Nat} {l : List Int} {b1 b2 : Int} {l1 : List Int} {a2 : Int} {r : Bool × List Int} (h : P.mag_subtractAt.f k l b1 b2 l1 a2 = some r) (h0 : 0 ≤ b1) (h1 : b1 ≤ b2) (h2 : b2 ≤ l.length) : FnW Try.prog 131 [.win lent b1.toNat (b2.toNat - b1.toNat), .ints .u32 l1, .int .u64 a2] (rowI e_ .u32 l) (.bool r.1) (rowI e_ .u32 r.2) := by
  unfold P.mag_subtractAt.f at h
  obtain ⟨p, h3, h4⟩ := Option.bind_eq_some_iff.1 h
  obtain rfl := Option.some.inj h4
  have := mag_subtract.v (pre := l.take b1.toNat) (post := l.drop b2.toNat) (e_ := e_) k _ l1 a2 p h3
  have e1 : l.take b1.toNat ++ (l.take b2.toNat).drop b1.toNat ++ l.drop b2.toNat = l := by
    have : l.take b1.toNat = (l.take b2.toNat).take b1.toNat := by rw [List.take_take, Nat.min_eq_left (by omega)]
    rw [this, List.take_append_drop, List.take_append_drop]
  have e2 : (l.take b1.toNat).length = b1.toNat := by rw [List.length_take]; omega
  have e3 : ((l.take b2.toNat).drop b1.toNat).length = b2.toNat - b1.toNat := by rw [List.length_drop, List.length_take]; omega
  rw [e1, e2, e3] at this
  exact this
instance : FN Try.prog 132 := ⟨⟨_, Try.func132, by decide, by simp [Try.f132]⟩⟩
set_option maxRecDepth 100000 in
set_option maxHeartbeats 4000000 in
theorem mag_restore.v {pre post : List Int} {e_ : TypeId} (k : Nat) (l0 : List Int) (l1 : List Int) (r : List Int) (h : P.mag_restore.f k l0 l1 = some r) : FnW Try.prog 132 [.win lent pre.length l0.length, .ints .u32 l1] (rowI e_ .u32 (pre ++ l0 ++ post)) (.tup []) (rowI e_ .u32 (pre ++ r ++ post)) := by
  refine fnW_of_sim Try.func132 rfl (Nat.le_of_ble_eq_true rfl) rfl ?_
  intro X hX
  unfold P.mag_restore.f at h
  refine sim_seq (sim_region ?_)
  refine o1 ?_
  refine sim_ops_nil (sim_seq (sim_seq (sim_region ?_)))
  iterate 3 refine o1 ?_
  refine sim_ops_nil (sim_block (sim_loop ?_))
  refine simL_ind (D := List Int × List Int × Int × List Int × Int × Int × Unit) (fun d => ⟨look [(0, .win lent pre.length l0.length), (1, .ints .u32 d.2.1), (4, .int .u64 d.2.2.1), (7, .ints .u32 d.2.2.2.1), (8, .int .i64 d.2.2.2.2.1), (9, .int .i64 d.2.2.2.2.2.1)], look [(lent, rowI e_ .u32 (pre ++ d.1 ++ post))]⟩) (fun K_ d => P.mag_restore.l0 K_ d.1 d.2.1 d.2.2.1 d.2.2.2.1 d.2.2.2.2.1 d.2.2.2.2.2.1 = some r ∧ d.1.length = l0.length) ?_ _ (_, _, _, _, _, _, ()) ⟨h, nv⟩ (rel_look _ _ ⟨rfl, rfl, rfl, rfl, rfl, rfl, trivial⟩ ⟨rfl, trivial⟩ rfl)
  intro K1 ih2 d h
  obtain ⟨h, b4⟩ := h
  obtain ⟨x0, x1, x4, x7, x8, x9, _⟩ := d
  dsimp only at h b4 ⊢
  cases K1 with
  | zero => exact absurd h (by simp [P.mag_restore.l0])
  | succ m3 =>
    simp only [P.mag_restore.l0] at h
    refine simL_step (sim_seq (sim_region ?_))
    refine o1 ?_
    refine sim_ops_nil (sim_seq ?_)
    refine sim_cond rfl (fun hb => ?_) (fun hb => ?_)
    · skip
      obtain ⟨c5, h⟩ := tkT h hb
      have g6 := hb
      clear hb
      obtain ⟨q7, h⟩ := ite_none h
      obtain ⟨q8, h⟩ := ite_none h
      obtain ⟨q9, h⟩ := ite_none h
      refine sim_skip (sim_seq (sim_block (sim_seq (sim_region ?_))))
      iterate 5 refine o1 ?_
      refine sim_ops_nil (sim_seq (sim_region ?_))
      iterate 11 refine o1 ?_
      refine sim_ops_nil (sim_seq (sim_region ?_))
      iterate 6 refine o1 ?_
      refine sim_ops_nil (sim_region ?_)
      iterate 3 refine o1 ?_
      refine sim_ops_nil (sim_region ?_)
      iterate 2 refine o1 ?_
      refine sim_ops_nil ?_
      exact simL_again (ih2 m3 (by omega) (_, _, _, _, _, _, ()) ⟨h, nv⟩) ⟨rfl, rfl, rfl, rfl, rfl, rfl, trivial⟩ ⟨rfl, trivial⟩ rfl
    · skip
      obtain ⟨c10, h⟩ := tkF h hb
      have g11 := hb
      clear hb
      obtain ⟨q12, h⟩ := ite_none h
      obtain ⟨q13, h⟩ := ite_none h
      refine sim_exit (sim_region ?_)
      iterate 10 refine o1 ?_
      refine sim_ops_nil ?_
      obtain rfl := Option.some.inj h
      exact ⟨.inr rfl, .zero, rfl⟩
theorem mag_restore.len (k : Nat) : ∀ x0 x1 x4 x7 x8 x9 (r : List Int), P.mag_restore.l0 k x0 x1 x4 x7 x8 x9 = some r → r.length = x0.length := by
  induction k with
  | zero => intro x0 x1 x4 x7 x8 x9 r h; simp [P.mag_restore.l0] at h
  | succ k ih =>
    intro x0 x1 x4 x7 x8 x9 r h
    simp only [P.mag_restore.l0] at h
    repeat' split at h
    all_goals first
      | (cases h; done)
      | (have := ih _ _ _ _ _ _  _ h; simpa using this)
      | (cases h; simp)
theorem mag_restoreAt.len {k : Nat} {l : List Int} {b1 b2 : Int} {l1 : List Int} {r : List Int} (h : P.mag_restoreAt.f k l b1 b2 l1 = some r) (h0 : 0 ≤ b1) (h1 : b1 ≤ b2) (h2 : b2 ≤ l.length) : r.length = l.length := by
  unfold P.mag_restoreAt.f at h
  obtain ⟨p, h3, h4⟩ := Option.bind_eq_some_iff.1 h
  obtain rfl := Option.some.inj h4
  have := mag_restore.len _ _ _ _ _ _ _  _ h3
  simp only [List.length_append, List.length_take, List.length_drop] at this ⊢
  omega
theorem mag_restoreAt.v {e_ : TypeId} {k : Nat} {l : List Int} {b1 b2 : Int} {l1 : List Int} {r : List Int} (h : P.mag_restoreAt.f k l b1 b2 l1 = some r) (h0 : 0 ≤ b1) (h1 : b1 ≤ b2) (h2 : b2 ≤ l.length) : FnW Try.prog 132 [.win lent b1.toNat (b2.toNat - b1.toNat), .ints .u32 l1] (rowI e_ .u32 l) (.tup []) (rowI e_ .u32 r) := by
  unfold P.mag_restoreAt.f at h
  obtain ⟨p, h3, h4⟩ := Option.bind_eq_some_iff.1 h
  obtain rfl := Option.some.inj h4
  have := mag_restore.v (pre := l.take b1.toNat) (post := l.drop b2.toNat) (e_ := e_) k _ l1 p h3
  have e1 : l.take b1.toNat ++ (l.take b2.toNat).drop b1.toNat ++ l.drop b2.toNat = l := by
    have : l.take b1.toNat = (l.take b2.toNat).take b1.toNat := by rw [List.take_take, Nat.min_eq_left (by omega)]
    rw [this, List.take_append_drop, List.take_append_drop]
  have e2 : (l.take b1.toNat).length = b1.toNat := by rw [List.length_take]; omega
  have e3 : ((l.take b2.toNat).drop b1.toNat).length = b2.toNat - b1.toNat := by rw [List.length_drop, List.length_take]; omega
  rw [e1, e2, e3] at this
  exact this
instance : FN Try.prog 133 := ⟨⟨_, Try.func133, by decide, by simp [Try.f133]⟩⟩
set_option maxRecDepth 100000 in
set_option maxHeartbeats 4000000 in
theorem mag_Shr.v (k : Nat) (l0 : List Int) (a1 : Int) (r : List Int) (h : P.mag_Shr.f k l0 a1 = some r) : Fn Try.prog 133 [.ints .u32 l0, .int .i64 a1] (.ints .u32 r) := by
  refine fn_of_sim Try.func133 rfl (Nat.le_of_ble_eq_true rfl) ?_
  intro X hX
  unfold P.mag_Shr.f at h
  refine sim_seq (sim_region ?_)
  refine o1 ?_
  refine sim_ops_nil (sim_seq (sim_region ?_))
  iterate 7 refine o1 ?_
  refine sim_ops_nil (sim_seq (sim_seq (sim_region ?_)))
  iterate 4 refine o1 ?_
  refine sim_ops_nil ?_
  refine sim_cond rfl (fun hb => ?_) (fun hb => ?_)
  · skip
    obtain ⟨c1, h⟩ := tkT h hb
    have g2 := hb
    clear hb
    refine sim_seq (sim_region ?_)
    refine o1 ?_
    refine sim_ops_nil ?_
    obtain rfl := Option.some.inj h
    exact sim_ret ⟨.inl rfl, .one (.tmp rt) rfl⟩
  · skip
    obtain ⟨c3, h⟩ := tkF h hb
    have g4 := hb
    clear hb
    obtain ⟨q5, h⟩ := ite_none h
    obtain ⟨q6, h⟩ := ite_none h
    replace h := bsome h
    refine sim_skip (sim_seq (sim_region ?_))
    iterate 6 refine o1 ?_
    refine sim_ops_nil (sim_seq (sim_seq (sim_region ?_)))
    iterate 3 refine o1 ?_
    refine sim_ops_nil (sim_block (sim_loop ?_))
    refine simL_ind (D := List Int × Int × Int × List Int × Int × Int × Unit) (fun d => ⟨look [(0, .ints .u32 d.1), (5, .int .i64 d.2.1), (6, .int .u64 d.2.2.1), (7, .own 23), (25, .int .i64 d.2.2.2.2.1), (26, .int .i64 d.2.2.2.2.2.1)], look [(23, rowI 71 .u32 d.2.2.2.1)]⟩) (fun K_ d => P.mag_Shr.l0 K_ d.1 d.2.1 d.2.2.1 d.2.2.2.1 d.2.2.2.2.1 d.2.2.2.2.2.1 = some r ∧ 0 ≤ d.2.2.1) ?_ _ (_, _, _, _, _, _, ()) ⟨h, nv⟩ (rel_look _ _ ⟨rfl, rfl, rfl, rfl, rfl, rfl, trivial⟩ ⟨rfl, trivial⟩ rfl)
    intro K7 ih8 d h
    obtain ⟨h, b10⟩ := h
    obtain ⟨x0, x5, x6, x7, x25, x26, _⟩ := d
    dsimp only at h b10 ⊢
    cases K7 with
    | zero => exact absurd h (by simp [P.mag_Shr.l0])
    | succ m9 =>
      simp only [P.mag_Shr.l0] at h
      refine simL_step (sim_seq (sim_region ?_))
      refine o1 ?_
      refine sim_ops_nil (sim_seq ?_)
      refine sim_cond rfl (fun hb => ?_) (fun hb => ?_)
      · skip
        obtain ⟨c11, h⟩ := tkT h hb
        have g12 := hb
        clear hb
        obtain ⟨q13, h⟩ := ite_none h
        obtain ⟨q14, h⟩ := ite_none h
        refine sim_skip (sim_seq (sim_block (sim_seq (sim_region ?_))))
        iterate 2 refine o1 ?_
        refine sim_ops_nil (sim_seq (sim_region ?_))
        iterate 8 refine o1 ?_
        refine sim_ops_nil (sim_seq (sim_seq (sim_region ?_)))
        iterate 7 refine o1 ?_
        refine sim_ops_nil ?_
        refine sim_cond rfl (fun hb => ?_) (fun hb => ?_)
        · skip
          obtain ⟨c15, h⟩ := tkT h hb
          have g16 := hb
          clear hb
          obtain ⟨q17, h⟩ := ite_none h
          obtain ⟨q18, h⟩ := ite_none h
          obtain ⟨q19, h⟩ := ite_none h
          obtain ⟨q20, h⟩ := ite_none h
          refine sim_region ?_
          iterate 12 refine o1 ?_
          refine sim_ops_nil (sim_region ?_)
          iterate 8 refine o1 ?_
          refine sim_ops_nil (sim_region ?_)
          iterate 2 refine o1 ?_
          refine sim_ops_nil ?_
          exact simL_again (ih8 m9 (by omega) (_, _, _, _, _, _, ()) ⟨h, nv⟩) ⟨rfl, rfl, rfl, rfl, rfl, rfl, trivial⟩ ⟨rfl, trivial⟩ rfl
        · skip
          obtain ⟨c21, h⟩ := tkF h hb
          have g22 := hb
          clear hb
          obtain ⟨q23, h⟩ := ite_none h
          obtain ⟨q24, h⟩ := ite_none h
          obtain ⟨q25, h⟩ := ite_none h
          refine sim_skip (sim_region ?_)
          iterate 8 refine o1 ?_
          refine sim_ops_nil (sim_region ?_)
          iterate 2 refine o1 ?_
          refine sim_ops_nil ?_
          exact simL_again (ih8 m9 (by omega) (_, _, _, _, _, _, ()) ⟨h, nv⟩) ⟨rfl, rfl, rfl, rfl, rfl, rfl, trivial⟩ ⟨rfl, trivial⟩ rfl
      · skip
        obtain ⟨c26, h⟩ := tkF h hb
        have g27 := hb
        clear hb
        refine sim_exit (sim_seq ?_)
        refine sim_weak (rel_freeze (k := 23) rfl) ?_
        refine sim_region ?_
        refine o1 ?_
        obtain ⟨t28, ht29, h⟩ := Option.bind_eq_some_iff.1 h
        refine opC (mag_Trim.v _ _ _ ht29) ?_
        refine o1 ?_
        refine sim_ops_nil ?_
        obtain rfl := Option.some.inj h
        exact sim_ret ⟨.inl rfl, .one (.tmp rt) rfl⟩
instance : FN Try.prog 108 := ⟨⟨_, Try.func108, by decide, by simp [Try.f108]⟩⟩
set_option maxRecDepth 100000 in
set_option maxHeartbeats 4000000 in
theorem mag_DivMod.v (k : Nat) (l0 : List Int) (l1 : List Int) (r : List Int × List Int) (h : P.mag_DivMod.f k l0 l1 = some r) : Fn Try.prog 108 [.ints .u32 l0, .ints .u32 l1] (.tup [.ints .u32 r.1, .ints .u32 r.2]) := by
  refine fn_of_sim Try.func108 rfl (Nat.le_of_ble_eq_true rfl) ?_
  intro X hX
  unfold P.mag_DivMod.f at h
  refine sim_seq (sim_region ?_)
  refine sim_ops_cons rfl (x_none 71 .u32 (.inr rfl) rfl rfl (ib hX (by decide))) ?_
  refine o1 ?_
  refine sim_ops_nil (sim_seq (sim_seq (sim_region ?_)))
  iterate 2 refine o1 ?_
  obtain ⟨t1, ht2, h⟩ := Option.bind_eq_some_iff.1 h
  refine opC (mag_Cmp.v _ _ _ _ ht2) ?_
  refine o1 ?_
  refine sim_ops_nil ?_
  refine sim_cond rfl (fun hb => ?_) (fun hb => ?_)
  · skip
    obtain ⟨c3, h⟩ := tkT h hb
    have g4 := hb
    clear hb
    obtain ⟨q5, h⟩ := ite_none h
    refine sim_seq (sim_region ?_)
    iterate 4 refine o1 ?_
    refine sim_ops_nil ?_
    obtain rfl := Option.some.inj h
    exact sim_ret ⟨.inl rfl, .two (.tmp rt) (.tmp rt) rfl rfl⟩
  · skip
    obtain ⟨c6, h⟩ := tkF h hb
    have g7 := hb
    clear hb
    refine sim_skip (sim_seq (sim_seq (sim_region ?_)))
    iterate 3 refine o1 ?_
    refine sim_ops_nil ?_
    refine sim_cond rfl (fun hb => ?_) (fun hb => ?_)
    · skip
      obtain ⟨c8, h⟩ := tkT h hb
      have g9 := hb
      clear hb
      obtain ⟨q10, h⟩ := ite_none h
      refine sim_seq (sim_region ?_)
      iterate 4 refine o1 ?_
      obtain ⟨t11, ht12, h⟩ := Option.bind_eq_some_iff.1 h
      refine opC (mag_divWord.v _ _ _ _ ht12) ?_
      iterate 5 refine o1 ?_
      refine sim_ops_nil (sim_seq (sim_region ?_))
      iterate 3 refine o1 ?_
      obtain ⟨t13, ht14, h⟩ := Option.bind_eq_some_iff.1 h
      refine opC (mag_From.v _ _ _ ht14) ?_
      iterate 2 refine o1 ?_
      refine sim_ops_nil ?_
      obtain rfl := Option.some.inj h
      exact sim_ret ⟨.inl rfl, .two (.tmp rt) (.tmp rt) rfl rfl⟩
    · skip
      obtain ⟨c15, h⟩ := tkF h hb
      have g16 := hb
      clear hb
      obtain ⟨q17, h⟩ := ite_none h
      obtain ⟨q18, h⟩ := ite_none h
      refine sim_skip (sim_seq (sim_region ?_))
      iterate 6 refine o1 ?_
      obtain ⟨t19, ht20, h⟩ := Option.bind_eq_some_iff.1 h
      refine opC (bits_LeadingZeros32.v _ _ ht20) ?_
      refine o1 ?_
      refine sim_ops_nil (sim_seq (sim_region ?_))
      iterate 2 refine o1 ?_
      obtain ⟨t21, ht22, h⟩ := Option.bind_eq_some_iff.1 h
      refine opC (mag_Shl.v _ _ _ _ ht22) ?_
      obtain ⟨q23, h⟩ := ite_none h
      obtain ⟨q24, h⟩ := ite_none h
      replace h := bsome h
      refine o1 ?_
      refine sim_ops_nil (sim_seq (sim_region ?_))
      iterate 5 refine o1 ?_
      refine sim_ops_nil (sim_seq (sim_region ?_))
      iterate 3 refine o1 ?_
      obtain ⟨t25, ht26, h⟩ := Option.bind_eq_some_iff.1 h
      refine opC (mag_Shl.v _ _ _ _ ht26) ?_
      obtain ⟨q27, h⟩ := ite_none h
      obtain ⟨q28, h⟩ := ite_none h
      obtain ⟨q29, h⟩ := ite_none h
      obtain ⟨q30, h⟩ := ite_none h
      obtain ⟨q31, h⟩ := ite_none h
      obtain ⟨q32, h⟩ := ite_none h
      refine o1 ?_
      refine sim_ops_nil (sim_seq (sim_region ?_))
      iterate 3 refine o1 ?_
      refine sim_ops_nil (sim_seq (sim_region ?_))
      iterate 6 refine o1 ?_
      refine sim_ops_nil (sim_seq (sim_still ?_))
      iterate 14 refine s1 ?_
      refine st_nil (sim_seq (sim_seq (sim_region ?_)))
      iterate 6 refine o1 ?_
      refine sim_ops_nil (sim_block (sim_loop ?_))
      refine simL_ind (D := List Int × Int × List Int × List Int × Int × Int × Int × Int × Unit) (fun d => ⟨look [(4, .own 64), (8, .int .i64 d.2.1), (9, .ints .u32 d.2.2.1), (10, .own 52), (11, .int .i64 d.2.2.2.2.1), (12, .int .u64 d.2.2.2.2.2.1), (13, .int .u64 d.2.2.2.2.2.2.1), (14, .int .i64 d.2.2.2.2.2.2.2.1)], look [(64, rowI 71 .u32 d.1), (52, rowI 71 .u32 d.2.2.2.1)]⟩) (fun K_ d => P.mag_DivMod.l0 K_ d.1 d.2.1 d.2.2.1 d.2.2.2.1 d.2.2.2.2.1 d.2.2.2.2.2.1 d.2.2.2.2.2.2.1 d.2.2.2.2.2.2.2.1 = some r) ?_ _ (_, _, _, _, _, _, _, _, ()) h (rel_look _ _ ⟨rfl, rfl, rfl, rfl, rfl, rfl, rfl, rfl, trivial⟩ ⟨rfl, rfl, trivial⟩ rfl)
      intro K33 ih34 d h
      obtain ⟨x4, x8, x9, x10, x11, x12, x13, x14, _⟩ := d
      dsimp only at h ⊢
      cases K33 with
      | zero => exact absurd h (by simp [P.mag_DivMod.l0])
      | succ m35 =>
        simp only [P.mag_DivMod.l0] at h
        refine simL_step (sim_seq (sim_seq (sim_region ?_)))
        iterate 2 refine o1 ?_
        refine sim_ops_nil ?_
        refine sim_cond rfl (fun hb => ?_) (fun hb => ?_)
        · skip
          obtain ⟨c36, h⟩ := tkT h hb
          have g37 := hb
          clear hb
          obtain ⟨q38, h⟩ := ite_none h
          obtain ⟨q39, h⟩ := ite_none h
          obtain ⟨q40, h⟩ := ite_none h
          obtain ⟨q41, h⟩ := ite_none h
          obtain ⟨q42, h⟩ := ite_none2 h
          refine sim_skip (sim_seq (sim_block (sim_seq (sim_still ?_))))
          iterate 18 refine s1 ?_
          refine st_nil (sim_seq (sim_still ?_))
          iterate 8 refine s1 ?_
          refine st_nil (sim_seq (sim_block (sim_loop ?_)))
          refine simL_ind (D := List Int × Int × List Int × List Int × Int × Int × Int × Int × Int × Int × Unit) (fun d => ⟨look [(4, .own 64), (8, .int .i64 d.2.1), (9, .ints .u32 d.2.2.1), (10, .own 52), (11, .int .i64 d.2.2.2.2.1), (12, .int .u64 d.2.2.2.2.2.1), (13, .int .u64 d.2.2.2.2.2.2.1), (14, .int .i64 d.2.2.2.2.2.2.2.1), (16, .int .u64 d.2.2.2.2.2.2.2.2.1), (17, .int .u64 d.2.2.2.2.2.2.2.2.2.1)], look [(64, rowI 71 .u32 d.1), (52, rowI 71 .u32 d.2.2.2.1)]⟩) (fun K_ d => P.mag_DivMod.l1 K_ d.1 d.2.1 d.2.2.1 d.2.2.2.1 d.2.2.2.2.1 d.2.2.2.2.2.1 d.2.2.2.2.2.2.1 d.2.2.2.2.2.2.2.1 d.2.2.2.2.2.2.2.2.1 d.2.2.2.2.2.2.2.2.2.1 = some r ∧ K_ ≤ m35) ?_ _ (_, _, _, _, _, _, _, _, _, _, ()) ⟨h, by omega⟩ (rel_look _ _ ⟨rfl, rfl, rfl, rfl, rfl, rfl, rfl, rfl, rfl, rfl, trivial⟩ ⟨rfl, rfl, trivial⟩ rfl)
          intro K43 ih44 d h
          obtain ⟨h, b46⟩ := h
          obtain ⟨x4, x8, x9, x10, x11, x12, x13, x14, x16, x17, _⟩ := d
          dsimp only at h b46 ⊢
          cases K43 with
          | zero => exact absurd h (by simp [P.mag_DivMod.l1])
          | succ m45 =>
            simp only [P.mag_DivMod.l1] at h
            refine simL_step (sim_seq (sim_seq ?_))
            refine sim_joinG (D := Nat × List Int × Int × List Int × List Int × Int × Int × Int × Int × Int × Int × Bool × Unit) (fun d => ⟨look [(4, .own 64), (8, .int .i64 d.2.2.1), (9, .ints .u32 d.2.2.2.1), (10, .own 52), (11, .int .i64 d.2.2.2.2.2.1), (12, .int .u64 d.2.2.2.2.2.2.1), (13, .int .u64 d.2.2.2.2.2.2.2.1), (14, .int .i64 d.2.2.2.2.2.2.2.2.1), (16, .int .u64 d.2.2.2.2.2.2.2.2.2.1), (17, .int .u64 d.2.2.2.2.2.2.2.2.2.2.1), (127, .bool d.2.2.2.2.2.2.2.2.2.2.2.1)], look [(64, rowI 71 .u32 d.2.1), (52, rowI 71 .u32 d.2.2.2.2.1)]⟩) (fun d => P.mag_DivMod.j2 d.1 d.2.1 d.2.2.1 d.2.2.2.1 d.2.2.2.2.1 d.2.2.2.2.2.1 d.2.2.2.2.2.2.1 d.2.2.2.2.2.2.2.1 d.2.2.2.2.2.2.2.2.1 d.2.2.2.2.2.2.2.2.2.1 d.2.2.2.2.2.2.2.2.2.2.1 d.2.2.2.2.2.2.2.2.2.2.2.1 = some r ∧ d.1 ≤ m45) ?_ ?_
            · skip
              rintro ⟨kq47, x4, x8, x9, x10, x11, x12, x13, x14, x16, x17, x127, _⟩ ⟨h, b48⟩
              dsimp only at h b48 ⊢
              cases kq47 with
              | zero => exact absurd h (by simp [P.mag_DivMod.j2])
              | succ m49 =>
                simp only [P.mag_DivMod.j2] at h
                refine sim_cond rfl (fun hb => ?_) (fun hb => ?_)
                · skip
                  obtain ⟨c50, h⟩ := tkT h hb
                  have g51 := hb
                  clear hb
                  refine sim_skip (sim_block (sim_seq (sim_region ?_)))
                  iterate 3 refine o1 ?_
                  refine sim_ops_nil (sim_seq (sim_region ?_))
                  iterate 4 refine o1 ?_
                  refine sim_ops_nil (sim_seq (sim_region ?_))
                  iterate 2 refine o1 ?_
                  refine sim_ops_nil ?_
                  refine sim_cond rfl (fun hb => ?_) (fun hb => ?_)
                  · skip
                    obtain ⟨c52, h⟩ := tkT h hb
                    have g53 := hb
                    clear hb
                    rcases m49 with _ | m54
                    · exact absurd h (by simp [P.mag_DivMod.j3])
                    simp only [P.mag_DivMod.j3] at h
                    obtain ⟨q55, h⟩ := ite_none h
                    obtain ⟨q56, h⟩ := ite_none h
                    obtain ⟨q57, h⟩ := ite_none h
                    refine sim_exit (sim_seq (sim_seq (sim_region ?_)))
                    iterate 9 refine o1 ?_
                    obtain ⟨t58, ht59, h⟩ := Option.bind_eq_some_iff.1 h
                    have q60 := mag_subtractAt.len ht59 bd bd bd
                    refine opCW (k := 52) (mag_subtractAt.v ht59 bd bd bd) rfl rfl ?_
                    refine sim_ops_nil ?_
                    refine sim_cond rfl (fun hb => ?_) (fun hb => ?_)
                    · skip
                      obtain ⟨c61, h⟩ := tkT h hb
                      have g62 := hb
                      clear hb
                      refine sim_seq (sim_region ?_)
                      iterate 3 refine o1 ?_
                      refine sim_ops_nil (sim_region ?_)
                      iterate 8 refine o1 ?_
                      obtain ⟨t63, ht64, h⟩ := Option.bind_eq_some_iff.1 h
                      have q65 := mag_restoreAt.len ht64 bd bd bd
                      refine opCW (k := 52) (mag_restoreAt.v ht64 bd bd bd) rfl rfl ?_
                      obtain ⟨q66, h⟩ := ite_none h
                      refine sim_ops_nil (sim_region ?_)
                      iterate 6 refine o1 ?_
                      refine sim_ops_nil (sim_region ?_)
                      iterate 3 refine o1 ?_
                      refine sim_ops_nil ?_
                      exact simL_again (ih34 m54 (by omega) (_, _, _, _, _, _, _, _, ()) h) ⟨rfl, rfl, rfl, rfl, rfl, rfl, rfl, rfl, trivial⟩ ⟨rfl, rfl, trivial⟩ rfl
                    · skip
                      obtain ⟨c67, h⟩ := tkF h hb
                      have g68 := hb
                      clear hb
                      obtain ⟨q69, h⟩ := ite_none h
                      refine sim_skip (sim_region ?_)
                      iterate 6 refine o1 ?_
                      refine sim_ops_nil (sim_region ?_)
                      iterate 3 refine o1 ?_
                      refine sim_ops_nil ?_
                      exact simL_again (ih34 m54 (by omega) (_, _, _, _, _, _, _, _, ()) h) ⟨rfl, rfl, rfl, rfl, rfl, rfl, rfl, rfl, trivial⟩ ⟨rfl, rfl, trivial⟩ rfl
                  · skip
                    obtain ⟨c70, h⟩ := tkF h hb
                    have g71 := hb
                    clear hb
                    refine sim_skip ?_
                    exact simL_again (ih44 m49 (by omega) (_, _, _, _, _, _, _, _, _, _, ()) ⟨h, by omega⟩) ⟨rfl, rfl, rfl, rfl, rfl, rfl, rfl, rfl, rfl, rfl, trivial⟩ ⟨rfl, rfl, trivial⟩ rfl
                · skip
                  obtain ⟨c72, h⟩ := tkF h hb
                  have g73 := hb
                  clear hb
                  rcases m49 with _ | m74
                  · exact absurd h (by simp [P.mag_DivMod.j3])
                  simp only [P.mag_DivMod.j3] at h
                  obtain ⟨q75, h⟩ := ite_none h
                  obtain ⟨q76, h⟩ := ite_none h
                  obtain ⟨q77, h⟩ := ite_none h
                  refine sim_exit (sim_seq (sim_seq (sim_region ?_)))
                  iterate 9 refine o1 ?_
                  obtain ⟨t78, ht79, h⟩ := Option.bind_eq_some_iff.1 h
                  have q80 := mag_subtractAt.len ht79 bd bd bd
                  refine opCW (k := 52) (mag_subtractAt.v ht79 bd bd bd) rfl rfl ?_
                  refine sim_ops_nil ?_
                  refine sim_cond rfl (fun hb => ?_) (fun hb => ?_)
                  · skip
                    obtain ⟨c81, h⟩ := tkT h hb
                    have g82 := hb
                    clear hb
                    refine sim_seq (sim_region ?_)
                    iterate 3 refine o1 ?_
                    refine sim_ops_nil (sim_region ?_)
                    iterate 8 refine o1 ?_
                    obtain ⟨t83, ht84, h⟩ := Option.bind_eq_some_iff.1 h
                    have q85 := mag_restoreAt.len ht84 bd bd bd
                    refine opCW (k := 52) (mag_restoreAt.v ht84 bd bd bd) rfl rfl ?_
                    obtain ⟨q86, h⟩ := ite_none h
                    refine sim_ops_nil (sim_region ?_)
                    iterate 6 refine o1 ?_
                    refine sim_ops_nil (sim_region ?_)
                    iterate 3 refine o1 ?_
                    refine sim_ops_nil ?_
                    exact simL_again (ih34 m74 (by omega) (_, _, _, _, _, _, _, _, ()) h) ⟨rfl, rfl, rfl, rfl, rfl, rfl, rfl, rfl, trivial⟩ ⟨rfl, rfl, trivial⟩ rfl
                  · skip
                    obtain ⟨c87, h⟩ := tkF h hb
                    have g88 := hb
                    clear hb
                    obtain ⟨q89, h⟩ := ite_none h
                    refine sim_skip (sim_region ?_)
                    iterate 6 refine o1 ?_
                    refine sim_ops_nil (sim_region ?_)
                    iterate 3 refine o1 ?_
                    refine sim_ops_nil ?_
                    exact simL_again (ih34 m74 (by omega) (_, _, _, _, _, _, _, _, ()) h) ⟨rfl, rfl, rfl, rfl, rfl, rfl, rfl, rfl, trivial⟩ ⟨rfl, rfl, trivial⟩ rfl
            · skip
              refine sim_region ?_
              iterate 3 refine o1 ?_
              refine og rfl rfl rfl rfl (fun hb => ?_) (fun hb => ?_)
              · skip
                obtain ⟨c90, h⟩ := tkF h hb
                have g91 := hb
                clear hb
                obtain ⟨q92, h⟩ := ite_none h
                obtain ⟨q93, h⟩ := ite_none h
                iterate 15 refine oT ?_
                refine o1 ?_
                refine sim_ops_nil ?_
                exact ⟨(m45, _, _, _, _, _, _, _, _, _, _, _, ()), ⟨h, by omega⟩, rel_look _ _ ⟨rfl, rfl, rfl, rfl, rfl, rfl, rfl, rfl, rfl, rfl, rfl, trivial⟩ ⟨rfl, rfl, trivial⟩ rfl⟩
              · skip
                obtain ⟨c94, h⟩ := tkT h hb
                have g95 := hb
                clear hb
                iterate 15 refine opS ?_
                refine o1 ?_
                refine sim_ops_nil ?_
                exact ⟨(m45, _, _, _, _, _, _, _, _, _, _, _, ()), ⟨h, by omega⟩, rel_look _ _ ⟨rfl, rfl, rfl, rfl, rfl, rfl, rfl, rfl, rfl, rfl, rfl, trivial⟩ ⟨rfl, rfl, trivial⟩ rfl⟩
        · skip
          obtain ⟨c96, h⟩ := tkF h hb
          have g97 := hb
          clear hb
          refine sim_exit (sim_seq ?_)
          refine sim_weak (rel_freeze (k := 64) rfl) ?_
          refine sim_weak (rel_freeze (k := 52) rfl) ?_
          refine sim_region ?_
          refine o1 ?_
          obtain ⟨t98, ht99, h⟩ := Option.bind_eq_some_iff.1 h
          refine opC (mag_Trim.v _ _ _ ht99) ?_
          refine o1 ?_
          obtain ⟨t100, ht101, h⟩ := Option.bind_eq_some_iff.1 h
          refine opC (mag_Trim.v _ _ _ ht101) ?_
          refine o1 ?_
          obtain ⟨t102, ht103, h⟩ := Option.bind_eq_some_iff.1 h
          refine opC (mag_Shr.v _ _ _ _ ht103) ?_
          iterate 2 refine o1 ?_
          refine sim_ops_nil ?_
          obtain rfl := Option.some.inj h
          exact sim_ret ⟨.inl rfl, .two (.tmp rt) (.tmp rt) rfl rfl⟩
instance : FN Try.prog 122 := ⟨⟨_, Try.func122, by decide, by simp [Try.f122]⟩⟩
set_option maxRecDepth 100000 in
set_option maxHeartbeats 4000000 in
theorem mag_Small.v (l0 : List Int) (r : Int × Bool) (h : P.mag_Small.f l0 = some r) : Fn Try.prog 122 [.ints .u32 l0] (.tup [.int .u64 r.1, .bool r.2]) := by
  refine fn_of_sim Try.func122 rfl (Nat.le_of_ble_eq_true rfl) ?_
  intro X hX
  unfold P.mag_Small.f at h
  refine sim_seq (sim_region ?_)
  iterate 2 refine o1 ?_
  refine sim_ops_nil (sim_seq (sim_seq (sim_region ?_)))
  iterate 2 refine o1 ?_
  refine sim_ops_nil (sim_block (sim_seq (sim_region ?_)))
  iterate 2 refine o1 ?_
  refine sim_ops_nil ?_
  refine sim_cond rfl (fun hb => ?_) (fun hb => ?_)
  · skip
    obtain ⟨c1, h⟩ := tkT h hb
    have g2 := hb
    clear hb
    refine sim_seq (sim_region ?_)
    iterate 2 refine o1 ?_
    refine sim_ops_nil ?_
    obtain rfl := Option.some.inj h
    exact sim_ret ⟨.inl rfl, .two (.tmp rt) (.tmp rt) rfl rfl⟩
  · skip
    obtain ⟨c3, h⟩ := tkF h hb
    have g4 := hb
    clear hb
    refine sim_seq (sim_region ?_)
    iterate 2 refine o1 ?_
    refine sim_ops_nil ?_
    refine sim_cond rfl (fun hb => ?_) (fun hb => ?_)
    · skip
      obtain ⟨c5, h⟩ := tkT h hb
      have g6 := hb
      clear hb
      obtain ⟨q7, h⟩ := ite_none h
      refine sim_seq (sim_region ?_)
      iterate 6 refine o1 ?_
      refine sim_ops_nil ?_
      obtain rfl := Option.some.inj h
      exact sim_ret ⟨.inl rfl, .two (.tmp rt) (.tmp rt) rfl rfl⟩
    · skip
      obtain ⟨c8, h⟩ := tkF h hb
      have g9 := hb
      clear hb
      refine sim_seq (sim_region ?_)
      iterate 2 refine o1 ?_
      refine sim_ops_nil ?_
      refine sim_cond rfl (fun hb => ?_) (fun hb => ?_)
      · skip
        obtain ⟨c10, h⟩ := tkT h hb
        have g11 := hb
        clear hb
        obtain ⟨q12, h⟩ := ite_none h
        obtain ⟨q13, h⟩ := ite_none h
        refine sim_seq (sim_still ?_)
        iterate 12 refine s1 ?_
        refine st_nil ?_
        obtain rfl := Option.some.inj h
        exact sim_ret ⟨.inl rfl, .two (.tmp rt) (.tmp rt) rfl rfl⟩
      · skip
        obtain ⟨c14, h⟩ := tkF h hb
        have g15 := hb
        clear hb
        refine sim_skip (sim_seq (sim_region ?_))
        iterate 2 refine o1 ?_
        refine sim_ops_nil ?_
        obtain rfl := Option.some.inj h
        exact sim_ret ⟨.inl rfl, .two (.tmp rt) (.tmp rt) rfl rfl⟩
instance : FN Try.prog 75 := ⟨⟨_, Try.func75, by decide, by simp [Try.f75]⟩⟩
set_option maxRecDepth 100000 in
set_option maxHeartbeats 4000000 in
theorem mag_Bits.v (l0 : List Int) (r : Int) (h : P.mag_Bits.f l0 = some r) : Fn Try.prog 75 [.ints .u32 l0] (.int .i64 r) := by
  refine fn_of_sim Try.func75 rfl (Nat.le_of_ble_eq_true rfl) ?_
  intro X hX
  unfold P.mag_Bits.f at h
  refine sim_seq (sim_region ?_)
  refine o1 ?_
  refine sim_ops_nil (sim_seq (sim_seq (sim_region ?_)))
  iterate 3 refine o1 ?_
  refine sim_ops_nil ?_
  refine sim_cond rfl (fun hb => ?_) (fun hb => ?_)
  · skip
    obtain ⟨c1, h⟩ := tkT h hb
    have g2 := hb
    clear hb
    refine sim_seq (sim_region ?_)
    refine o1 ?_
    refine sim_ops_nil ?_
    obtain rfl := Option.some.inj h
    exact sim_ret ⟨.inl rfl, .one (.tmp rt) rfl⟩
  · skip
    obtain ⟨c3, h⟩ := tkF h hb
    have g4 := hb
    clear hb
    obtain ⟨q5, h⟩ := ite_none h
    obtain ⟨q6, h⟩ := ite_none h
    refine sim_skip (sim_seq (sim_region ?_))
    iterate 9 refine o1 ?_
    obtain ⟨t7, ht8, h⟩ := Option.bind_eq_some_iff.1 h
    refine opC (bits_LeadingZeros32.v _ _ ht8) ?_
    iterate 2 refine o1 ?_
    refine sim_ops_nil ?_
    obtain rfl := Option.some.inj h
    exact sim_ret ⟨.inl rfl, .one (.tmp rt) rfl⟩
instance : FN Try.prog 102 := ⟨⟨_, Try.func102, by decide, by simp [Try.f102]⟩⟩
set_option maxRecDepth 100000 in
set_option maxHeartbeats 4000000 in
theorem mag_Mul.v (k : Nat) (l0 : List Int) (l1 : List Int) (r : List Int) (h : P.mag_Mul.f k l0 l1 = some r) : Fn Try.prog 102 [.ints .u32 l0, .ints .u32 l1] (.ints .u32 r) := by
  refine fn_of_sim Try.func102 rfl (Nat.le_of_ble_eq_true rfl) ?_
  intro X hX
  unfold P.mag_Mul.f at h
  refine sim_seq (sim_region ?_)
  refine o1 ?_
  refine sim_ops_nil (sim_seq (sim_seq ?_))
  refine sim_joinG (D := Nat × List Int × List Int × Bool × Unit) (fun d => ⟨look [(0, .ints .u32 d.2.1), (1, .ints .u32 d.2.2.1), (18, .bool d.2.2.2.1)], look []⟩) (fun d => P.mag_Mul.j0 d.1 d.2.1 d.2.2.1 d.2.2.2.1 = some r ∧ d.1 ≤ k) ?_ ?_
  · skip
    rintro ⟨kq1, x0, x1, x18, _⟩ ⟨h, b2⟩
    dsimp only at h b2 ⊢
    cases kq1 with
    | zero => exact absurd h (by simp [P.mag_Mul.j0])
    | succ m3 =>
      simp only [P.mag_Mul.j0] at h
      refine sim_cond rfl (fun hb => ?_) (fun hb => ?_)
      · skip
        obtain ⟨c4, h⟩ := tkT h hb
        have g5 := hb
        clear hb
        refine sim_seq (sim_region ?_)
        refine o1 ?_
        refine sim_ops_nil ?_
        obtain rfl := Option.some.inj h
        exact sim_ret ⟨.inl rfl, .one (.tmp rt) rfl⟩
      · skip
        obtain ⟨c6, h⟩ := tkF h hb
        have g7 := hb
        clear hb
        obtain ⟨q8, h⟩ := ite_none h
        obtain ⟨q9, h⟩ := ite_none h
        refine sim_skip (sim_seq (sim_region ?_))
        iterate 7 refine o1 ?_
        refine sim_ops_nil (sim_seq (sim_seq (sim_region ?_)))
        iterate 3 refine o1 ?_
        refine sim_ops_nil (sim_block (sim_loop ?_))
        refine simL_ind (D := List Int × List Int × List Int × Int × Int × Unit) (fun d => ⟨look [(1, .ints .u32 d.1), (5, .own 24), (25, .ints .u32 d.2.2.1), (26, .int .i64 d.2.2.2.1), (27, .int .i64 d.2.2.2.2.1)], look [(24, rowI 71 .u32 d.2.1)]⟩) (fun K_ d => P.mag_Mul.l0 K_ d.1 d.2.1 d.2.2.1 d.2.2.2.1 d.2.2.2.2.1 = some r ∧ K_ ≤ m3) ?_ _ (_, _, _, _, _, ()) ⟨h, by omega⟩ (rel_look _ _ ⟨rfl, rfl, rfl, rfl, rfl, trivial⟩ ⟨rfl, trivial⟩ rfl)
        intro K10 ih11 d h
        obtain ⟨h, b13⟩ := h
        obtain ⟨x1, x5, x25, x26, x27, _⟩ := d
        dsimp only at h b13 ⊢
        cases K10 with
        | zero => exact absurd h (by simp [P.mag_Mul.l0])
        | succ m12 =>
          simp only [P.mag_Mul.l0] at h
          refine simL_step (sim_seq (sim_region ?_))
          refine o1 ?_
          refine sim_ops_nil (sim_seq ?_)
          refine sim_cond rfl (fun hb => ?_) (fun hb => ?_)
          · skip
            obtain ⟨c14, h⟩ := tkT h hb
            have g15 := hb
            clear hb
            obtain ⟨q16, h⟩ := ite_none h
            obtain ⟨q17, h⟩ := ite_none h
            refine sim_skip (sim_seq (sim_block (sim_seq (sim_region ?_))))
            iterate 5 refine o1 ?_
            refine sim_ops_nil (sim_seq (sim_region ?_))
            refine o1 ?_
            refine sim_ops_nil (sim_seq (sim_seq (sim_region ?_)))
            iterate 3 refine o1 ?_
            refine sim_ops_nil (sim_block (sim_loop ?_))
            refine simL_ind (D := List Int × List Int × Int × Int × Int × List Int × Int × Int × List Int × Int × Int × Unit) (fun d => ⟨look [(1, .ints .u32 d.1), (5, .own 24), (6, .int .i64 d.2.2.1), (7, .int .u32 d.2.2.2.1), (8, .int .u64 d.2.2.2.2.1), (25, .ints .u32 d.2.2.2.2.2.1), (26, .int .i64 d.2.2.2.2.2.2.1), (27, .int .i64 d.2.2.2.2.2.2.2.1), (32, .ints .u32 d.2.2.2.2.2.2.2.2.1), (33, .int .i64 d.2.2.2.2.2.2.2.2.2.1), (34, .int .i64 d.2.2.2.2.2.2.2.2.2.2.1)], look [(24, rowI 71 .u32 d.2.1)]⟩) (fun K_ d => P.mag_Mul.l1 K_ d.1 d.2.1 d.2.2.1 d.2.2.2.1 d.2.2.2.2.1 d.2.2.2.2.2.1 d.2.2.2.2.2.2.1 d.2.2.2.2.2.2.2.1 d.2.2.2.2.2.2.2.2.1 d.2.2.2.2.2.2.2.2.2.1 d.2.2.2.2.2.2.2.2.2.2.1 = some r ∧ K_ ≤ m12) ?_ _ (_, _, _, _, _, _, _, _, _, _, _, ()) ⟨h, by omega⟩ (rel_look _ _ ⟨rfl, rfl, rfl, rfl, rfl, rfl, rfl, rfl, rfl, rfl, rfl, trivial⟩ ⟨rfl, trivial⟩ rfl)
            intro K18 ih19 d h
            obtain ⟨h, b21⟩ := h
            obtain ⟨x1, x5, x6, x7, x8, x25, x26, x27, x32, x33, x34, _⟩ := d
            dsimp only at h b21 ⊢
            cases K18 with
            | zero => exact absurd h (by simp [P.mag_Mul.l1])
            | succ m20 =>
              simp only [P.mag_Mul.l1] at h
              refine simL_step (sim_seq (sim_region ?_))
              refine o1 ?_
              refine sim_ops_nil (sim_seq ?_)
              refine sim_cond rfl (fun hb => ?_) (fun hb => ?_)
              · skip
                obtain ⟨c22, h⟩ := tkT h hb
                have g23 := hb
                clear hb
                obtain ⟨q24, h⟩ := ite_none h
                obtain ⟨q25, h⟩ := ite_none h
                obtain ⟨q26, h⟩ := ite_none h
                obtain ⟨q27, h⟩ := ite_none h
                refine sim_skip (sim_seq (sim_block (sim_seq (sim_region ?_))))
                iterate 5 refine o1 ?_
                refine sim_ops_nil (sim_seq (sim_region ?_))
                iterate 16 refine o1 ?_
                refine sim_ops_nil (sim_seq (sim_region ?_))
                iterate 8 refine o1 ?_
                refine sim_ops_nil (sim_region ?_)
                iterate 3 refine o1 ?_
                refine sim_ops_nil (sim_region ?_)
                iterate 2 refine o1 ?_
                refine sim_ops_nil ?_
                exact simL_again (ih19 m20 (by omega) (_, _, _, _, _, _, _, _, _, _, _, ()) ⟨h, by omega⟩) ⟨rfl, rfl, rfl, rfl, rfl, rfl, rfl, rfl, rfl, rfl, rfl, trivial⟩ ⟨rfl, trivial⟩ rfl
              · skip
                obtain ⟨c28, h⟩ := tkF h hb
                have g29 := hb
                clear hb
                obtain ⟨q30, h⟩ := ite_none h
                obtain ⟨q31, h⟩ := ite_none h
                refine sim_exit (sim_region ?_)
                iterate 9 refine o1 ?_
                refine sim_ops_nil (sim_region ?_)
                iterate 2 refine o1 ?_
                refine sim_ops_nil ?_
                exact simL_again (ih11 m20 (by omega) (_, _, _, _, _, ()) ⟨h, by omega⟩) ⟨rfl, rfl, rfl, rfl, rfl, trivial⟩ ⟨rfl, trivial⟩ rfl
          · skip
            obtain ⟨c32, h⟩ := tkF h hb
            have g33 := hb
            clear hb
            refine sim_exit (sim_seq ?_)
            refine sim_weak (rel_freeze (k := 24) rfl) ?_
            refine sim_region ?_
            refine o1 ?_
            obtain ⟨t34, ht35, h⟩ := Option.bind_eq_some_iff.1 h
            refine opC (mag_Trim.v _ _ _ ht35) ?_
            refine o1 ?_
            refine sim_ops_nil ?_
            obtain rfl := Option.some.inj h
            exact sim_ret ⟨.inl rfl, .one (.tmp rt) rfl⟩
  · skip
    refine sim_region ?_
    iterate 4 refine o1 ?_
    refine og rfl rfl rfl rfl (fun hb => ?_) (fun hb => ?_)
    · skip
      obtain ⟨c36, h⟩ := tkF h hb
      have g37 := hb
      clear hb
      iterate 3 refine oT ?_
      refine o1 ?_
      refine sim_ops_nil ?_
      exact ⟨(k, _, _, _, ()), ⟨h, by omega⟩, rel_look _ _ ⟨rfl, rfl, rfl, trivial⟩ trivial rfl⟩
    · skip
      obtain ⟨c38, h⟩ := tkT h hb
      have g39 := hb
      clear hb
      iterate 3 refine opS ?_
      refine o1 ?_
      refine sim_ops_nil ?_
      exact ⟨(k, _, _, _, ()), ⟨h, by omega⟩, rel_look _ _ ⟨rfl, rfl, rfl, trivial⟩ trivial rfl⟩
instance : FN Try.prog 118 := ⟨⟨_, Try.func118, by decide, by simp [Try.f118]⟩⟩
set_option maxRecDepth 100000 in
set_option maxHeartbeats 4000000 in
theorem mag_Sub.v (k : Nat) (l0 : List Int) (l1 : List Int) (r : List Int) (h : P.mag_Sub.f k l0 l1 = some r) : Fn Try.prog 118 [.ints .u32 l0, .ints .u32 l1] (.ints .u32 r) := by
  refine fn_of_sim Try.func118 rfl (Nat.le_of_ble_eq_true rfl) ?_
  intro X hX
  unfold P.mag_Sub.f at h
  obtain ⟨q1, h⟩ := ite_none h
  obtain ⟨q2, h⟩ := ite_none h
  refine sim_seq (sim_region ?_)
  refine o1 ?_
  refine sim_ops_nil (sim_seq (sim_region ?_))
  iterate 4 refine o1 ?_
  refine sim_ops_nil (sim_seq (sim_region ?_))
  refine o1 ?_
  refine sim_ops_nil (sim_seq (sim_seq (sim_region ?_)))
  iterate 3 refine o1 ?_
  refine sim_ops_nil (sim_block (sim_loop ?_))
  refine simL_ind (D := List Int × List Int × Int × List Int × Int × Int × Unit) (fun d => ⟨look [(1, .ints .u32 d.1), (5, .own 12), (6, .int .u64 d.2.2.1), (13, .ints .u32 d.2.2.2.1), (14, .int .i64 d.2.2.2.2.1), (15, .int .i64 d.2.2.2.2.2.1)], look [(12, rowI 71 .u32 d.2.1)]⟩) (fun K_ d => P.mag_Sub.l0 K_ d.1 d.2.1 d.2.2.1 d.2.2.2.1 d.2.2.2.2.1 d.2.2.2.2.2.1 = some r) ?_ _ (_, _, _, _, _, _, ()) h (rel_look _ _ ⟨rfl, rfl, rfl, rfl, rfl, rfl, trivial⟩ ⟨rfl, trivial⟩ rfl)
  intro K3 ih4 d h
  obtain ⟨x1, x5, x6, x13, x14, x15, _⟩ := d
  dsimp only at h ⊢
  cases K3 with
  | zero => exact absurd h (by simp [P.mag_Sub.l0])
  | succ m5 =>
    simp only [P.mag_Sub.l0] at h
    refine simL_step (sim_seq (sim_region ?_))
    refine o1 ?_
    refine sim_ops_nil (sim_seq ?_)
    refine sim_cond rfl (fun hb => ?_) (fun hb => ?_)
    · skip
      obtain ⟨c6, h⟩ := tkT h hb
      have g7 := hb
      clear hb
      obtain ⟨q8, h⟩ := ite_none h
      obtain ⟨q9, h⟩ := ite_none h
      refine sim_skip (sim_seq (sim_block (sim_seq (sim_region ?_))))
      iterate 5 refine o1 ?_
      refine sim_ops_nil (sim_seq (sim_region ?_))
      iterate 5 refine o1 ?_
      refine sim_ops_nil (sim_seq (sim_seq (sim_region ?_)))
      iterate 4 refine o1 ?_
      refine sim_ops_nil ?_
      refine sim_cond rfl (fun hb => ?_) (fun hb => ?_)
      · skip
        obtain ⟨c10, h⟩ := tkT h hb
        have g11 := hb
        clear hb
        obtain ⟨q12, h⟩ := ite_none h
        refine sim_region ?_
        iterate 8 refine o1 ?_
        refine sim_ops_nil (sim_seq (sim_region ?_))
        iterate 6 refine o1 ?_
        refine sim_ops_nil (sim_region ?_)
        iterate 3 refine o1 ?_
        refine sim_ops_nil (sim_region ?_)
        iterate 2 refine o1 ?_
        refine sim_ops_nil ?_
        exact simL_again (ih4 m5 (by omega) (_, _, _, _, _, _, ()) h) ⟨rfl, rfl, rfl, rfl, rfl, rfl, trivial⟩ ⟨rfl, trivial⟩ rfl
      · skip
        obtain ⟨c13, h⟩ := tkF h hb
        have g14 := hb
        clear hb
        obtain ⟨q15, h⟩ := ite_none h
        refine sim_skip (sim_seq (sim_region ?_))
        iterate 6 refine o1 ?_
        refine sim_ops_nil (sim_region ?_)
        iterate 3 refine o1 ?_
        refine sim_ops_nil (sim_region ?_)
        iterate 2 refine o1 ?_
        refine sim_ops_nil ?_
        exact simL_again (ih4 m5 (by omega) (_, _, _, _, _, _, ()) h) ⟨rfl, rfl, rfl, rfl, rfl, rfl, trivial⟩ ⟨rfl, trivial⟩ rfl
    · skip
      obtain ⟨c16, h⟩ := tkF h hb
      have g17 := hb
      clear hb
      refine sim_exit (sim_seq ?_)
      refine sim_weak (rel_freeze (k := 12) rfl) ?_
      refine sim_region ?_
      refine o1 ?_
      obtain ⟨t18, ht19, h⟩ := Option.bind_eq_some_iff.1 h
      refine opC (mag_Trim.v _ _ _ ht19) ?_
      refine o1 ?_
      refine sim_ops_nil ?_
      obtain rfl := Option.some.inj h
      exact sim_ret ⟨.inl rfl, .one (.tmp rt) rfl⟩
instance : FN Try.prog 138 := ⟨⟨_, Try.func138, by decide, by simp [Try.f138]⟩⟩
set_option maxRecDepth 100000 in
set_option maxHeartbeats 4000000 in
theorem mag_combine.v (k : Nat) (l0 : List Int) (l1 : List Int) (a2 : Int) (a3 : Int) (r : List Int) (h : P.mag_combine.f k l0 l1 a2 a3 = some r) : Fn Try.prog 138 [.ints .u32 l0, .ints .u32 l1, .int .i64 a2, .int .i64 a3] (.ints .u32 r) := by
  refine fn_of_sim Try.func138 rfl (Nat.le_of_ble_eq_true rfl) ?_
  intro X hX
  unfold P.mag_combine.f at h
  refine sim_seq (sim_region ?_)
  refine o1 ?_
  refine sim_ops_nil (sim_seq (sim_seq ?_))
  refine sim_joinG (D := Nat × List Int × List Int × Int × Int × Bool × Unit) (fun d => ⟨look [(0, .ints .u32 d.2.1), (1, .ints .u32 d.2.2.1), (2, .int .i64 d.2.2.2.1), (3, .int .i64 d.2.2.2.2.1), (14, .bool d.2.2.2.2.2.1)], look []⟩) (fun d => P.mag_combine.j0 d.1 d.2.1 d.2.2.1 d.2.2.2.1 d.2.2.2.2.1 d.2.2.2.2.2.1 = some r ∧ d.1 ≤ k) ?_ ?_
  · skip
    rintro ⟨kq1, x0, x1, x2, x3, x14, _⟩ ⟨h, b2⟩
    dsimp only at h b2 ⊢
    cases kq1 with
    | zero => exact absurd h (by simp [P.mag_combine.j0])
    | succ m3 =>
      simp only [P.mag_combine.j0] at h
      refine sim_cond rfl (fun hb => ?_) (fun hb => ?_)
      · skip
        obtain ⟨c4, h⟩ := tkT h hb
        have g5 := hb
        clear hb
        refine sim_seq (sim_region ?_)
        iterate 3 refine o1 ?_
        obtain ⟨t6, ht7, h⟩ := Option.bind_eq_some_iff.1 h
        refine opC (mag_From.v _ _ _ ht7) ?_
        obtain ⟨t8, ht9, h⟩ := Option.bind_eq_some_iff.1 h
        refine opC (mag_Mul.v _ _ _ _ ht9) ?_
        iterate 4 refine o1 ?_
        obtain ⟨t10, ht11, h⟩ := Option.bind_eq_some_iff.1 h
        refine opC (mag_From.v _ _ _ ht11) ?_
        obtain ⟨t12, ht13, h⟩ := Option.bind_eq_some_iff.1 h
        refine opC (mag_Mul.v _ _ _ _ ht13) ?_
        obtain ⟨t14, ht15, h⟩ := Option.bind_eq_some_iff.1 h
        refine opC (mag_Sub.v _ _ _ _ ht15) ?_
        refine o1 ?_
        refine sim_ops_nil ?_
        obtain rfl := Option.some.inj h
        exact sim_ret ⟨.inl rfl, .one (.tmp rt) rfl⟩
      · skip
        obtain ⟨c16, h⟩ := tkF h hb
        have g17 := hb
        clear hb
        refine sim_skip (sim_seq (sim_region ?_))
        iterate 3 refine o1 ?_
        obtain ⟨t18, ht19, h⟩ := Option.bind_eq_some_iff.1 h
        refine opC (mag_From.v _ _ _ ht19) ?_
        obtain ⟨t20, ht21, h⟩ := Option.bind_eq_some_iff.1 h
        refine opC (mag_Mul.v _ _ _ _ ht21) ?_
        iterate 4 refine o1 ?_
        obtain ⟨t22, ht23, h⟩ := Option.bind_eq_some_iff.1 h
        refine opC (mag_From.v _ _ _ ht23) ?_
        obtain ⟨t24, ht25, h⟩ := Option.bind_eq_some_iff.1 h
        refine opC (mag_Mul.v _ _ _ _ ht25) ?_
        obtain ⟨t26, ht27, h⟩ := Option.bind_eq_some_iff.1 h
        refine opC (mag_Sub.v _ _ _ _ ht27) ?_
        refine o1 ?_
        refine sim_ops_nil ?_
        obtain rfl := Option.some.inj h
        exact sim_ret ⟨.inl rfl, .one (.tmp rt) rfl⟩
  · skip
    refine sim_region ?_
    iterate 3 refine o1 ?_
    refine og rfl rfl rfl rfl (fun hb => ?_) (fun hb => ?_)
    · skip
      obtain ⟨c28, h⟩ := tkF h hb
      have g29 := hb
      clear hb
      iterate 2 refine oT ?_
      refine o1 ?_
      refine sim_ops_nil ?_
      exact ⟨(k, _, _, _, _, _, ()), ⟨h, by omega⟩, rel_look _ _ ⟨rfl, rfl, rfl, rfl, rfl, trivial⟩ trivial rfl⟩
    · skip
      obtain ⟨c30, h⟩ := tkT h hb
      have g31 := hb
      clear hb
      iterate 2 refine opS ?_
      refine o1 ?_
      refine sim_ops_nil ?_
      exact ⟨(k, _, _, _, _, _, ()), ⟨h, by omega⟩, rel_look _ _ ⟨rfl, rfl, rfl, rfl, rfl, trivial⟩ trivial rfl⟩
instance : FN Try.prog 129 := ⟨⟨_, Try.func129, by decide, by simp [Try.f129]⟩⟩
set_option maxRecDepth 100000 in
set_option maxHeartbeats 4000000 in
theorem mag_lehmer.v (k : Nat) (l0 : List Int) (l1 : List Int) (r : List Int × List Int × Bool) (h : P.mag_lehmer.f k l0 l1 = some r) : Fn Try.prog 129 [.ints .u32 l0, .ints .u32 l1] (.tup [.ints .u32 r.1, .ints .u32 r.2.1, .bool r.2.2]) := by
  refine fn_of_sim Try.func129 rfl (Nat.le_of_ble_eq_true rfl) ?_
  intro X hX
  unfold P.mag_lehmer.f at h
  refine sim_seq (sim_region ?_)
  iterate 3 refine o1 ?_
  refine sim_ops_nil (sim_seq (sim_region ?_))
  refine o1 ?_
  obtain ⟨t1, ht2, h⟩ := Option.bind_eq_some_iff.1 h
  refine opC (mag_Bits.v _ _ ht2) ?_
  refine o1 ?_
  refine sim_ops_nil (sim_seq (sim_seq (sim_region ?_)))
  refine o1 ?_
  obtain ⟨t3, ht4, h⟩ := Option.bind_eq_some_iff.1 h
  refine opC (mag_Bits.v _ _ ht4) ?_
  iterate 3 refine o1 ?_
  refine sim_ops_nil ?_
  refine sim_cond rfl (fun hb => ?_) (fun hb => ?_)
  · skip
    obtain ⟨c5, h⟩ := tkT h hb
    have g6 := hb
    clear hb
    refine sim_seq (sim_region ?_)
    iterate 3 refine o1 ?_
    refine sim_ops_nil ?_
    obtain rfl := Option.some.inj h
    exact sim_ret ⟨.inl rfl, .three (.tmp rt) (.tmp rt) (.tmp rt) rfl rfl rfl⟩
  · skip
    obtain ⟨c7, h⟩ := tkF h hb
    have g8 := hb
    clear hb
    refine sim_skip (sim_seq (sim_region ?_))
    iterate 3 refine o1 ?_
    obtain ⟨t9, ht10, h⟩ := Option.bind_eq_some_iff.1 h
    refine opC (mag_Shr.v _ _ _ _ ht10) ?_
    obtain ⟨t11, ht12, h⟩ := Option.bind_eq_some_iff.1 h
    refine opC (mag_Small.v _ _ ht12) ?_
    iterate 5 refine o1 ?_
    refine sim_ops_nil (sim_seq (sim_region ?_))
    iterate 3 refine o1 ?_
    obtain ⟨t13, ht14, h⟩ := Option.bind_eq_some_iff.1 h
    refine opC (mag_Shr.v _ _ _ _ ht14) ?_
    obtain ⟨t15, ht16, h⟩ := Option.bind_eq_some_iff.1 h
    refine opC (mag_Small.v _ _ ht16) ?_
    iterate 5 refine o1 ?_
    refine sim_ops_nil (sim_seq (sim_region ?_))
    iterate 4 refine o1 ?_
    refine sim_ops_nil (sim_seq (sim_region ?_))
    iterate 6 refine o1 ?_
    refine sim_ops_nil (sim_seq (sim_block (sim_loop ?_)))
    refine simL_ind (D := List Int × List Int × Int × Int × Int × Int × Int × Int × Unit) (fun d => ⟨look [(0, .ints .u32 d.1), (1, .ints .u32 d.2.1), (12, .int .i64 d.2.2.1), (13, .int .i64 d.2.2.2.1), (14, .int .i64 d.2.2.2.2.1), (15, .int .i64 d.2.2.2.2.2.1), (16, .int .i64 d.2.2.2.2.2.2.1), (17, .int .i64 d.2.2.2.2.2.2.2.1)], look []⟩) (fun K_ d => P.mag_lehmer.l0 K_ d.1 d.2.1 d.2.2.1 d.2.2.2.1 d.2.2.2.2.1 d.2.2.2.2.2.1 d.2.2.2.2.2.2.1 d.2.2.2.2.2.2.2.1 = some r) ?_ _ (_, _, _, _, _, _, _, _, ()) h (rel_look _ _ ⟨rfl, rfl, rfl, rfl, rfl, rfl, rfl, rfl, trivial⟩ trivial rfl)
    intro K17 ih18 d h
    obtain ⟨x0, x1, x12, x13, x14, x15, x16, x17, _⟩ := d
    dsimp only at h ⊢
    cases K17 with
    | zero => exact absurd h (by simp [P.mag_lehmer.l0])
    | succ m19 =>
      simp only [P.mag_lehmer.l0] at h
      refine simL_step (sim_seq (sim_seq ?_))
      refine sim_joinG (D := Nat × List Int × List Int × Int × Int × Int × Int × Int × Int × Bool × Unit) (fun d => ⟨look [(0, .ints .u32 d.2.1), (1, .ints .u32 d.2.2.1), (12, .int .i64 d.2.2.2.1), (13, .int .i64 d.2.2.2.2.1), (14, .int .i64 d.2.2.2.2.2.1), (15, .int .i64 d.2.2.2.2.2.2.1), (16, .int .i64 d.2.2.2.2.2.2.2.1), (17, .int .i64 d.2.2.2.2.2.2.2.2.1), (55, .bool d.2.2.2.2.2.2.2.2.2.1)], look []⟩) (fun d => P.mag_lehmer.j1 d.1 d.2.1 d.2.2.1 d.2.2.2.1 d.2.2.2.2.1 d.2.2.2.2.2.1 d.2.2.2.2.2.2.1 d.2.2.2.2.2.2.2.1 d.2.2.2.2.2.2.2.2.1 d.2.2.2.2.2.2.2.2.2.1 = some r ∧ d.1 ≤ m19) ?_ ?_
      · skip
        rintro ⟨kq20, x0, x1, x12, x13, x14, x15, x16, x17, x55, _⟩ ⟨h, b21⟩
        dsimp only at h b21 ⊢
        cases kq20 with
        | zero => exact absurd h (by simp [P.mag_lehmer.j1])
        | succ m22 =>
          simp only [P.mag_lehmer.j1] at h
          refine sim_cond rfl (fun hb => ?_) (fun hb => ?_)
          · skip
            obtain ⟨c23, h⟩ := tkT h hb
            have g24 := hb
            clear hb
            obtain ⟨q25, h⟩ := ite_none2 h
            obtain ⟨q26, h⟩ := ite_none2 h
            refine sim_skip (sim_block (sim_seq (sim_region ?_)))
            iterate 8 refine o1 ?_
            refine sim_ops_nil (sim_seq (sim_seq (sim_region ?_)))
            iterate 9 refine o1 ?_
            refine sim_ops_nil ?_
            refine sim_cond rfl (fun hb => ?_) (fun hb => ?_)
            · skip
              obtain ⟨c27, h⟩ := tkF h hb
              have g28 := hb
              clear hb
              rcases m22 with _ | m29
              · exact absurd h (by simp [P.mag_lehmer.j2])
              simp only [P.mag_lehmer.j2] at h
              refine sim_exit (sim_seq (sim_seq (sim_region ?_)))
              iterate 2 refine o1 ?_
              refine sim_ops_nil ?_
              refine sim_cond rfl (fun hb => ?_) (fun hb => ?_)
              · skip
                obtain ⟨c30, h⟩ := tkT h hb
                have g31 := hb
                clear hb
                refine sim_seq (sim_region ?_)
                iterate 3 refine o1 ?_
                refine sim_ops_nil ?_
                obtain rfl := Option.some.inj h
                exact sim_ret ⟨.inl rfl, .three (.tmp rt) (.tmp rt) (.tmp rt) rfl rfl rfl⟩
              · skip
                obtain ⟨c32, h⟩ := tkF h hb
                have g33 := hb
                clear hb
                refine sim_skip (sim_seq (sim_region ?_))
                iterate 4 refine o1 ?_
                obtain ⟨t34, ht35, h⟩ := Option.bind_eq_some_iff.1 h
                refine opC (mag_combine.v _ _ _ _ _ _ ht35) ?_
                iterate 4 refine o1 ?_
                obtain ⟨t36, ht37, h⟩ := Option.bind_eq_some_iff.1 h
                refine opC (mag_combine.v _ _ _ _ _ _ ht37) ?_
                iterate 3 refine o1 ?_
                refine sim_ops_nil ?_
                obtain rfl := Option.some.inj h
                exact sim_ret ⟨.inl rfl, .three (.tmp rt) (.tmp rt) (.tmp rt) rfl rfl rfl⟩
            · skip
              obtain ⟨c38, h⟩ := tkT h hb
              have g39 := hb
              clear hb
              refine sim_skip (sim_seq (sim_region ?_))
              iterate 8 refine o1 ?_
              refine sim_ops_nil (sim_seq (sim_region ?_))
              iterate 8 refine o1 ?_
              refine sim_ops_nil (sim_region ?_)
              iterate 8 refine o1 ?_
              refine sim_ops_nil ?_
              exact simL_again (ih18 m22 (by omega) (_, _, _, _, _, _, _, _, ()) h) ⟨rfl, rfl, rfl, rfl, rfl, rfl, rfl, rfl, trivial⟩ trivial rfl
          · skip
            obtain ⟨c40, h⟩ := tkF h hb
            have g41 := hb
            clear hb
            rcases m22 with _ | m42
            · exact absurd h (by simp [P.mag_lehmer.j2])
            simp only [P.mag_lehmer.j2] at h
            refine sim_exit (sim_seq (sim_seq (sim_region ?_)))
            iterate 2 refine o1 ?_
            refine sim_ops_nil ?_
            refine sim_cond rfl (fun hb => ?_) (fun hb => ?_)
            · skip
              obtain ⟨c43, h⟩ := tkT h hb
              have g44 := hb
              clear hb
              refine sim_seq (sim_region ?_)
              iterate 3 refine o1 ?_
              refine sim_ops_nil ?_
              obtain rfl := Option.some.inj h
              exact sim_ret ⟨.inl rfl, .three (.tmp rt) (.tmp rt) (.tmp rt) rfl rfl rfl⟩
            · skip
              obtain ⟨c45, h⟩ := tkF h hb
              have g46 := hb
              clear hb
              refine sim_skip (sim_seq (sim_region ?_))
              iterate 4 refine o1 ?_
              obtain ⟨t47, ht48, h⟩ := Option.bind_eq_some_iff.1 h
              refine opC (mag_combine.v _ _ _ _ _ _ ht48) ?_
              iterate 4 refine o1 ?_
              obtain ⟨t49, ht50, h⟩ := Option.bind_eq_some_iff.1 h
              refine opC (mag_combine.v _ _ _ _ _ _ ht50) ?_
              iterate 3 refine o1 ?_
              refine sim_ops_nil ?_
              obtain rfl := Option.some.inj h
              exact sim_ret ⟨.inl rfl, .three (.tmp rt) (.tmp rt) (.tmp rt) rfl rfl rfl⟩
      · skip
        refine sim_region ?_
        iterate 5 refine o1 ?_
        refine og rfl rfl rfl rfl (fun hb => ?_) (fun hb => ?_)
        · skip
          obtain ⟨c51, h⟩ := tkF h hb
          have g52 := hb
          clear hb
          iterate 4 refine oT ?_
          refine o1 ?_
          refine sim_ops_nil ?_
          exact ⟨(m19, _, _, _, _, _, _, _, _, _, ()), ⟨h, by omega⟩, rel_look _ _ ⟨rfl, rfl, rfl, rfl, rfl, rfl, rfl, rfl, rfl, trivial⟩ trivial rfl⟩
        · skip
          obtain ⟨c53, h⟩ := tkT h hb
          have g54 := hb
          clear hb
          iterate 4 refine opS ?_
          refine o1 ?_
          refine sim_ops_nil ?_
          exact ⟨(m19, _, _, _, _, _, _, _, _, _, ()), ⟨h, by omega⟩, rel_look _ _ ⟨rfl, rfl, rfl, rfl, rfl, rfl, rfl, rfl, rfl, trivial⟩ trivial rfl⟩
instance : FN Try.prog 107 := ⟨⟨_, Try.func107, by decide, by simp [Try.f107]⟩⟩
set_option maxRecDepth 100000 in
set_option maxHeartbeats 4000000 in
theorem mag_GCD.v (k : Nat) (l0 : List Int) (l1 : List Int) (r : List Int) (h : P.mag_GCD.f k l0 l1 = some r) : Fn Try.prog 107 [.ints .u32 l0, .ints .u32 l1] (.ints .u32 r) := by
  refine fn_of_sim Try.func107 rfl (Nat.le_of_ble_eq_true rfl) ?_
  intro X hX
  unfold P.mag_GCD.f at h
  refine sim_seq (sim_region ?_)
  refine o1 ?_
  refine sim_ops_nil (sim_seq (sim_seq (sim_region ?_)))
  iterate 2 refine o1 ?_
  obtain ⟨t1, ht2, h⟩ := Option.bind_eq_some_iff.1 h
  refine opC (mag_Cmp.v _ _ _ _ ht2) ?_
  refine o1 ?_
  refine sim_ops_nil ?_
  refine sim_joinG (D := Nat × List Int × List Int × Unit) (fun d => ⟨look [(0, .ints .u32 d.2.1), (1, .ints .u32 d.2.2.1)], look []⟩) (fun d => P.mag_GCD.j0 d.1 d.2.1 d.2.2.1 = some r ∧ d.1 ≤ k) ?_ ?_
  · skip
    rintro ⟨kq3, x0, x1, _⟩ ⟨h, b4⟩
    dsimp only at h b4 ⊢
    cases kq3 with
    | zero => exact absurd h (by simp [P.mag_GCD.j0])
    | succ m5 =>
      simp only [P.mag_GCD.j0] at h
      refine sim_seq (sim_block (sim_loop ?_))
      refine simL_ind (D := List Int × List Int × Unit) (fun d => ⟨look [(0, .ints .u32 d.1), (1, .ints .u32 d.2.1)], look []⟩) (fun K_ d => P.mag_GCD.l0 K_ d.1 d.2.1 = some r ∧ K_ ≤ m5) ?_ _ (_, _, ()) ⟨h, by omega⟩ (rel_look _ _ ⟨rfl, rfl, trivial⟩ trivial rfl)
      intro K6 ih7 d h
      obtain ⟨h, b9⟩ := h
      obtain ⟨x0, x1, _⟩ := d
      dsimp only at h b9 ⊢
      cases K6 with
      | zero => exact absurd h (by simp [P.mag_GCD.l0])
      | succ m8 =>
        simp only [P.mag_GCD.l0] at h
        refine simL_step (sim_seq (sim_seq (sim_region ?_)))
        iterate 3 refine o1 ?_
        refine sim_ops_nil ?_
        refine sim_cond rfl (fun hb => ?_) (fun hb => ?_)
        · skip
          obtain ⟨c10, h⟩ := tkT h hb
          have g11 := hb
          clear hb
          refine sim_skip (sim_block (sim_seq (sim_seq (sim_region ?_))))
          iterate 2 refine o1 ?_
          obtain ⟨t12, ht13, h⟩ := Option.bind_eq_some_iff.1 h
          refine opC (mag_lehmer.v _ _ _ _ ht13) ?_
          iterate 7 refine o1 ?_
          refine sim_ops_nil (sim_seq (sim_region ?_))
          refine o1 ?_
          refine sim_ops_nil ?_
          refine sim_cond rfl (fun hb => ?_) (fun hb => ?_)
          · skip
            obtain ⟨c14, h⟩ := tkT h hb
            have g15 := hb
            clear hb
            refine sim_seq (sim_region ?_)
            iterate 4 refine o1 ?_
            refine sim_ops_nil (sim_exit ?_)
            exact simL_again (ih7 m8 (by omega) (_, _, ()) ⟨h, by omega⟩) ⟨rfl, rfl, trivial⟩ trivial rfl
          · skip
            obtain ⟨c16, h⟩ := tkF h hb
            have g17 := hb
            clear hb
            refine sim_skip (sim_seq (sim_region ?_))
            iterate 2 refine o1 ?_
            obtain ⟨t18, ht19, h⟩ := Option.bind_eq_some_iff.1 h
            refine opC (mag_DivMod.v _ _ _ _ ht19) ?_
            iterate 5 refine o1 ?_
            refine sim_ops_nil (sim_region ?_)
            iterate 4 refine o1 ?_
            refine sim_ops_nil ?_
            exact simL_again (ih7 m8 (by omega) (_, _, ()) ⟨h, by omega⟩) ⟨rfl, rfl, trivial⟩ trivial rfl
        · skip
          obtain ⟨c20, h⟩ := tkF h hb
          have g21 := hb
          clear hb
          refine sim_exit (sim_seq (sim_seq (sim_region ?_)))
          iterate 3 refine o1 ?_
          refine sim_ops_nil ?_
          refine sim_cond rfl (fun hb => ?_) (fun hb => ?_)
          · skip
            obtain ⟨c22, h⟩ := tkT h hb
            have g23 := hb
            clear hb
            obtain ⟨q24, h⟩ := ite_none h
            refine sim_seq (sim_region ?_)
            iterate 3 refine o1 ?_
            refine sim_ops_nil ?_
            obtain rfl := Option.some.inj h
            exact sim_ret ⟨.inl rfl, .one (.tmp rt) rfl⟩
          · skip
            obtain ⟨c25, h⟩ := tkF h hb
            have g26 := hb
            clear hb
            refine sim_skip (sim_seq (sim_region ?_))
            iterate 2 refine o1 ?_
            obtain ⟨t27, ht28, h⟩ := Option.bind_eq_some_iff.1 h
            refine opC (mag_DivMod.v _ _ _ _ ht28) ?_
            iterate 5 refine o1 ?_
            refine sim_ops_nil (sim_seq (sim_region ?_))
            refine o1 ?_
            obtain ⟨t29, ht30, h⟩ := Option.bind_eq_some_iff.1 h
            refine opC (mag_Small.v _ _ ht30) ?_
            iterate 5 refine o1 ?_
            refine sim_ops_nil (sim_seq (sim_region ?_))
            refine o1 ?_
            obtain ⟨t31, ht32, h⟩ := Option.bind_eq_some_iff.1 h
            refine opC (mag_Small.v _ _ ht32) ?_
            iterate 5 refine o1 ?_
            refine sim_ops_nil (sim_seq (sim_block (sim_loop ?_)))
            refine simL_ind (D := Int × Int × Unit) (fun d => ⟨look [(12, .int .u64 d.1), (14, .int .u64 d.2.1)], look []⟩) (fun K_ d => P.mag_GCD.l1 K_ d.1 d.2.1 = some r ∧ K_ ≤ m8) ?_ _ (_, _, ()) ⟨h, by omega⟩ (rel_look _ _ ⟨rfl, rfl, trivial⟩ trivial rfl)
            intro K33 ih34 d h
            obtain ⟨h, b36⟩ := h
            obtain ⟨x12, x14, _⟩ := d
            dsimp only at h b36 ⊢
            cases K33 with
            | zero => exact absurd h (by simp [P.mag_GCD.l1])
            | succ m35 =>
              simp only [P.mag_GCD.l1] at h
              refine simL_step (sim_seq (sim_seq (sim_region ?_)))
              iterate 2 refine o1 ?_
              refine sim_ops_nil ?_
              refine sim_cond rfl (fun hb => ?_) (fun hb => ?_)
              · skip
                obtain ⟨c37, h⟩ := tkF h hb
                have g38 := hb
                clear hb
                refine sim_skip (sim_block (sim_still ?_))
                iterate 6 refine s1 ?_
                refine st_nil ?_
                exact simL_again (ih34 m35 (by omega) (_, _, ()) ⟨h, by omega⟩) ⟨rfl, rfl, trivial⟩ trivial rfl
              · skip
                obtain ⟨c39, h⟩ := tkT h hb
                have g40 := hb
                clear hb
                refine sim_exit (sim_seq (sim_region ?_))
                refine o1 ?_
                obtain ⟨t41, ht42, h⟩ := Option.bind_eq_some_iff.1 h
                refine opC (mag_From.v _ _ _ ht42) ?_
                refine o1 ?_
                refine sim_ops_nil ?_
                obtain rfl := Option.some.inj h
                exact sim_ret ⟨.inl rfl, .one (.tmp rt) rfl⟩
  · skip
    refine sim_cond rfl (fun hb => ?_) (fun hb => ?_)
    · skip
      obtain ⟨c43, h⟩ := tkT h hb
      have g44 := hb
      clear hb
      refine sim_region ?_
      iterate 4 refine o1 ?_
      refine sim_ops_nil ?_
      exact ⟨(k, _, _, ()), ⟨h, by omega⟩, rel_look _ _ ⟨rfl, rfl, trivial⟩ trivial rfl⟩
    · skip
      obtain ⟨c45, h⟩ := tkF h hb
      have g46 := hb
      clear hb
      refine sim_skip ?_
      exact ⟨(k, _, _, ()), ⟨h, by omega⟩, rel_look _ _ ⟨rfl, rfl, trivial⟩ trivial rfl⟩
instance : FN Try.prog 101 := ⟨⟨_, Try.func101, by decide, by simp [Try.f101]⟩⟩
set_option maxRecDepth 100000 in
set_option maxHeartbeats 4000000 in
theorem mag_Add.v (k : Nat) (l0 : List Int) (l1 : List Int) (r : List Int) (h : P.mag_Add.f k l0 l1 = some r) : Fn Try.prog 101 [.ints .u32 l0, .ints .u32 l1] (.ints .u32 r) := by
  refine fn_of_sim Try.func101 rfl (Nat.le_of_ble_eq_true rfl) ?_
  intro X hX
  unfold P.mag_Add.f at h
  refine sim_seq (sim_region ?_)
  refine o1 ?_
  refine sim_ops_nil (sim_seq (sim_seq (sim_region ?_)))
  iterate 5 refine o1 ?_
  refine sim_ops_nil ?_
  refine sim_joinG (D := Nat × List Int × List Int × Unit) (fun d => ⟨look [(0, .ints .u32 d.2.1), (1, .ints .u32 d.2.2.1)], look []⟩) (fun d => P.mag_Add.j0 d.1 d.2.1 d.2.2.1 = some r ∧ d.1 ≤ k) ?_ ?_
  · skip
    rintro ⟨kq1, x0, x1, _⟩ ⟨h, b2⟩
    dsimp only at h b2 ⊢
    cases kq1 with
    | zero => exact absurd h (by simp [P.mag_Add.j0])
    | succ m3 =>
      simp only [P.mag_Add.j0] at h
      obtain ⟨q4, h⟩ := ite_none h
      obtain ⟨q5, h⟩ := ite_none h
      refine sim_seq (sim_region ?_)
      iterate 5 refine o1 ?_
      refine sim_ops_nil (sim_seq (sim_region ?_))
      refine o1 ?_
      refine sim_ops_nil (sim_seq (sim_seq (sim_region ?_)))
      iterate 3 refine o1 ?_
      refine sim_ops_nil (sim_block (sim_loop ?_))
      refine simL_ind (D := List Int × List Int × List Int × Int × List Int × Int × Int × Unit) (fun d => ⟨look [(0, .ints .u32 d.1), (1, .ints .u32 d.2.1), (5, .own 19), (6, .int .u64 d.2.2.2.1), (20, .ints .u32 d.2.2.2.2.1), (21, .int .i64 d.2.2.2.2.2.1), (22, .int .i64 d.2.2.2.2.2.2.1)], look [(19, rowI 71 .u32 d.2.2.1)]⟩) (fun K_ d => P.mag_Add.l0 K_ d.1 d.2.1 d.2.2.1 d.2.2.2.1 d.2.2.2.2.1 d.2.2.2.2.2.1 d.2.2.2.2.2.2.1 = some r ∧ K_ ≤ m3) ?_ _ (_, _, _, _, _, _, _, ()) ⟨h, by omega⟩ (rel_look _ _ ⟨rfl, rfl, rfl, rfl, rfl, rfl, rfl, trivial⟩ ⟨rfl, trivial⟩ rfl)
      intro K6 ih7 d h
      obtain ⟨h, b9⟩ := h
      obtain ⟨x0, x1, x5, x6, x20, x21, x22, _⟩ := d
      dsimp only at h b9 ⊢
      cases K6 with
      | zero => exact absurd h (by simp [P.mag_Add.l0])
      | succ m8 =>
        simp only [P.mag_Add.l0] at h
        refine simL_step (sim_seq (sim_region ?_))
        refine o1 ?_
        refine sim_ops_nil (sim_seq ?_)
        refine sim_cond rfl (fun hb => ?_) (fun hb => ?_)
        · skip
          obtain ⟨c10, h⟩ := tkT h hb
          have g11 := hb
          clear hb
          obtain ⟨q12, h⟩ := ite_none h
          obtain ⟨q13, h⟩ := ite_none h
          refine sim_skip (sim_seq (sim_block (sim_seq (sim_region ?_))))
          iterate 5 refine o1 ?_
          refine sim_ops_nil (sim_seq (sim_region ?_))
          iterate 5 refine o1 ?_
          refine sim_ops_nil (sim_seq (sim_seq (sim_region ?_)))
          iterate 4 refine o1 ?_
          refine sim_ops_nil ?_
          refine sim_cond rfl (fun hb => ?_) (fun hb => ?_)
          · skip
            obtain ⟨c14, h⟩ := tkT h hb
            have g15 := hb
            clear hb
            obtain ⟨q16, h⟩ := ite_none h
            refine sim_region ?_
            iterate 8 refine o1 ?_
            refine sim_ops_nil (sim_seq (sim_region ?_))
            iterate 6 refine o1 ?_
            refine sim_ops_nil (sim_region ?_)
            iterate 3 refine o1 ?_
            refine sim_ops_nil (sim_region ?_)
            iterate 2 refine o1 ?_
            refine sim_ops_nil ?_
            exact simL_again (ih7 m8 (by omega) (_, _, _, _, _, _, _, ()) ⟨h, by omega⟩) ⟨rfl, rfl, rfl, rfl, rfl, rfl, rfl, trivial⟩ ⟨rfl, trivial⟩ rfl
          · skip
            obtain ⟨c17, h⟩ := tkF h hb
            have g18 := hb
            clear hb
            obtain ⟨q19, h⟩ := ite_none h
            refine sim_skip (sim_seq (sim_region ?_))
            iterate 6 refine o1 ?_
            refine sim_ops_nil (sim_region ?_)
            iterate 3 refine o1 ?_
            refine sim_ops_nil (sim_region ?_)
            iterate 2 refine o1 ?_
            refine sim_ops_nil ?_
            exact simL_again (ih7 m8 (by omega) (_, _, _, _, _, _, _, ()) ⟨h, by omega⟩) ⟨rfl, rfl, rfl, rfl, rfl, rfl, rfl, trivial⟩ ⟨rfl, trivial⟩ rfl
        · skip
          obtain ⟨c20, h⟩ := tkF h hb
          have g21 := hb
          clear hb
          obtain ⟨q22, h⟩ := ite_none h
          obtain ⟨q23, h⟩ := ite_none h
          refine sim_exit (sim_seq (sim_region ?_))
          iterate 7 refine o1 ?_
          refine sim_ops_nil (sim_seq ?_)
          refine sim_weak (rel_freeze (k := 19) rfl) ?_
          refine sim_region ?_
          refine o1 ?_
          obtain ⟨t24, ht25, h⟩ := Option.bind_eq_some_iff.1 h
          refine opC (mag_Trim.v _ _ _ ht25) ?_
          refine o1 ?_
          refine sim_ops_nil ?_
          obtain rfl := Option.some.inj h
          exact sim_ret ⟨.inl rfl, .one (.tmp rt) rfl⟩
  · skip
    refine sim_cond rfl (fun hb => ?_) (fun hb => ?_)
    · skip
      obtain ⟨c26, h⟩ := tkT h hb
      have g27 := hb
      clear hb
      refine sim_region ?_
      iterate 4 refine o1 ?_
      refine sim_ops_nil ?_
      exact ⟨(k, _, _, ()), ⟨h, by omega⟩, rel_look _ _ ⟨rfl, rfl, trivial⟩ trivial rfl⟩
    · skip
      obtain ⟨c28, h⟩ := tkF h hb
      have g29 := hb
      clear hb
      refine sim_skip ?_
      exact ⟨(k, _, _, ()), ⟨h, by omega⟩, rel_look _ _ ⟨rfl, rfl, trivial⟩ trivial rfl⟩
instance : FN Try.prog 60 := ⟨⟨_, Try.func60, by decide, by simp [Try.f60]⟩⟩
set_option maxRecDepth 100000 in
set_option maxHeartbeats 4000000 in
theorem nat_Valid.v (l0 : List Int) (r : Bool) (h : P.nat_Valid.f l0 = some r) : Fn Try.prog 60 [.ints .u32 l0] (.bool r) := by
  refine fn_of_sim Try.func60 rfl (Nat.le_of_ble_eq_true rfl) ?_
  intro X hX
  unfold P.nat_Valid.f at h
  refine sim_seq (sim_region ?_)
  refine o1 ?_
  refine sim_ops_nil (sim_seq (sim_region ?_))
  iterate 4 refine o1 ?_
  refine og rfl rfl rfl rfl (fun hb => ?_) (fun hb => ?_)
  · skip
    obtain ⟨c1, h⟩ := tkT h hb
    have g2 := hb
    clear hb
    iterate 4 refine oT ?_
    refine og rfl rfl rfl rfl (fun hb => ?_) (fun hb => ?_)
    · skip
      obtain ⟨c3, h⟩ := tkF h hb
      have g4 := hb
      clear hb
      obtain ⟨q5, h⟩ := ite_none h
      obtain ⟨q6, h⟩ := ite_none h
      iterate 8 refine oT ?_
      iterate 2 refine o1 ?_
      refine sim_ops_nil ?_
      obtain rfl := Option.some.inj h
      exact sim_ret ⟨.inl rfl, .one (.tmp rt) rfl⟩
    · skip
      obtain ⟨c7, h⟩ := tkT h hb
      have g8 := hb
      clear hb
      iterate 7 refine opS ?_
      refine oT ?_
      iterate 2 refine o1 ?_
      refine sim_ops_nil ?_
      obtain rfl := Option.some.inj h
      exact sim_ret ⟨.inl rfl, .one (.tmp rt) rfl⟩
  · skip
    obtain ⟨c9, h⟩ := tkF h hb
    have g10 := hb
    clear hb
    iterate 4 refine opS ?_
    iterate 7 refine opU ?_
    refine opS ?_
    iterate 2 refine o1 ?_
    refine sim_ops_nil ?_
    obtain rfl := Option.some.inj h
    exact sim_ret ⟨.inl rfl, .one (.tmp rt) rfl⟩
instance : FN Try.prog 123 := ⟨⟨_, Try.func123, by decide, by simp [Try.f123]⟩⟩
set_option maxRecDepth 100000 in
set_option maxHeartbeats 4000000 in
theorem nat_digits.o (k : Nat) (a0 : Int) (a1 : Int) (r : List Int) (h : P.nat_digits.f k a0 a1 = some r) : FnO Try.prog 123 [.int .u64 a0, .int .i64 a1] (rowI 5 .u8 r) := by
  refine fnO_of_sim Try.func123 rfl (Nat.le_of_ble_eq_true rfl) rfl ?_
  intro X hX
  unfold P.nat_digits.f at h
  refine sim_seq (sim_region ?_)
  refine o1 ?_
  refine sim_ops_nil (sim_seq (sim_region ?_))
  refine sim_ops_cons rfl (x_none 5 .u8 (.inr rfl) rfl rfl (ib hX (by decide))) ?_
  refine sim_ops_nil (sim_seq (sim_block (sim_loop ?_)))
  refine simL_ind (D := Int × Int × List Int × Unit) (fun d => ⟨look [(0, .int .u64 d.1), (1, .int .i64 d.2.1), (5, .own 5)], look [(5, rowI 5 .u8 d.2.2.1)]⟩) (fun K_ d => P.nat_digits.l0 K_ d.1 d.2.1 d.2.2.1 = some r) ?_ _ (_, _, _, ()) h (rel_look _ _ ⟨rfl, rfl, rfl, trivial⟩ ⟨rfl, trivial⟩ rfl)
  intro K1 ih2 d h
  obtain ⟨x0, x1, x5, _⟩ := d
  dsimp only at h ⊢
  cases K1 with
  | zero => exact absurd h (by simp [P.nat_digits.l0])
  | succ m3 =>
    simp only [P.nat_digits.l0] at h
    refine simL_step (sim_seq (sim_seq (sim_region ?_)))
    iterate 3 refine o1 ?_
    refine og rfl rfl rfl rfl (fun hb => ?_) (fun hb => ?_)
    · skip
      obtain ⟨c4, h⟩ := tkF h hb
      have g5 := hb
      clear hb
      iterate 4 refine oT ?_
      refine o1 ?_
      refine sim_ops_nil ?_
      refine sim_cond rfl (fun hb => ?_) (fun hb => ?_)
      · skip
        obtain ⟨c6, h⟩ := tkT h hb
        have g7 := hb
        clear hb
        obtain ⟨q8, h⟩ := ite_none h
        refine sim_skip (sim_block (sim_seq (sim_region ?_)))
        iterate 8 refine o1 ?_
        refine sim_ops_nil (sim_region ?_)
        iterate 3 refine o1 ?_
        refine sim_ops_nil ?_
        exact simL_again (ih2 m3 (by omega) (_, _, _, ()) h) ⟨rfl, rfl, rfl, trivial⟩ ⟨rfl, trivial⟩ rfl
      · skip
        obtain ⟨c9, h⟩ := tkF h hb
        have g10 := hb
        clear hb
        refine sim_exit (sim_seq (sim_seq (sim_region ?_)))
        iterate 5 refine o1 ?_
        refine sim_ops_nil (sim_block (sim_loop ?_))
        refine simL_ind (D := List Int × Int × Int × Unit) (fun d => ⟨look [(5, .own 5), (6, .int .i64 d.2.1), (7, .int .i64 d.2.2.1)], look [(5, rowI 5 .u8 d.1)]⟩) (fun K_ d => P.nat_digits.l1 K_ d.1 d.2.1 d.2.2.1 = some r ∧ K_ ≤ m3) ?_ _ (_, _, _, ()) ⟨h, by omega⟩ (rel_look _ _ ⟨rfl, rfl, rfl, trivial⟩ ⟨rfl, trivial⟩ rfl)
        intro K11 ih12 d h
        obtain ⟨h, b14⟩ := h
        obtain ⟨x5, x6, x7, _⟩ := d
        dsimp only at h b14 ⊢
        cases K11 with
        | zero => exact absurd h (by simp [P.nat_digits.l1])
        | succ m13 =>
          simp only [P.nat_digits.l1] at h
          refine simL_step (sim_seq (sim_seq (sim_region ?_)))
          iterate 3 refine o1 ?_
          refine sim_ops_nil ?_
          refine sim_cond rfl (fun hb => ?_) (fun hb => ?_)
          · skip
            obtain ⟨c15, h⟩ := tkT h hb
            have g16 := hb
            clear hb
            obtain ⟨q17, h⟩ := ite_none h
            obtain ⟨q18, h⟩ := ite_none h
            obtain ⟨q19, h⟩ := ite_none h
            obtain ⟨q20, h⟩ := ite_none h
            refine sim_skip (sim_seq (sim_block ?_))
            refine sim_dr [⟨[5], [], [35], []⟩, ⟨[6], [], [36], []⟩, ⟨[5], [], [37], []⟩, ⟨[7], [], [38], []⟩, ⟨[5], [], [39], []⟩, ⟨[7], [], [40], []⟩, ⟨[39, 40], [5], [41], []⟩, ⟨[41], [5], [42], []⟩, ⟨[5], [], [43], []⟩, ⟨[6], [], [44], []⟩, ⟨[43, 44], [5], [45], []⟩, ⟨[45], [5], [46], []⟩, ⟨[35, 36], [5], [47], []⟩, ⟨[47, 42], [5], [], [5]⟩, ⟨[37, 38], [5], [48], []⟩, ⟨[48, 46], [5], [], [5]⟩] [[], [], [], [], [], [], [4, 5], [4, 5, 6], [], [], [8, 9], [8, 9, 10], [0, 1, 4, 5, 6, 7, 8, 9, 10, 11], [0, 1, 4, 5, 6, 7, 8, 9, 10, 11, 12], [0, 1, 2, 3, 4, 5, 6, 7, 8, 9, 10, 11, 12, 13], [0, 1, 2, 3, 4, 5, 6, 7, 8, 9, 10, 11, 12, 13, 14]] ?_
            refine dG [(5, _)] [] [(35, _)] [] ⟨rfl, trivial⟩ trivial (fun S0 => stepOK_plain rfl rfl ow rfl) ?_
            refine dG [(6, _)] [] [(36, _)] [] ⟨rfl, trivial⟩ trivial (fun S0 => stepOK_plain rfl rfl ow rfl) ?_
            refine dG [(5, _)] [] [(37, _)] [] ⟨rfl, trivial⟩ trivial (fun S0 => stepOK_plain rfl rfl ow rfl) ?_
            refine dG [(7, _)] [] [(38, _)] [] ⟨rfl, trivial⟩ trivial (fun S0 => stepOK_plain rfl rfl ow rfl) ?_
            refine dG [(5, _)] [] [(39, _)] [] ⟨rfl, trivial⟩ trivial (fun S0 => stepOK_plain rfl rfl ow rfl) ?_
            refine dG [(7, _)] [] [(40, _)] [] ⟨rfl, trivial⟩ trivial (fun S0 => stepOK_plain rfl rfl ow rfl) ?_
            refine dG [(39, _), (40, _)] [(5, _)] [(41, _)] [] ⟨rfl, rfl, trivial⟩ ⟨rfl, trivial⟩ (fun S0 => stepOK_plain rfl rfl ow rfl) ?_
            refine dG [(41, _)] [(5, _)] [(42, _)] [] ⟨rfl, trivial⟩ ⟨rfl, trivial⟩ (fun S0 => stepOK_plain rfl rfl ow rfl) ?_
            refine dG [(5, _)] [] [(43, _)] [] ⟨rfl, trivial⟩ trivial (fun S0 => stepOK_plain rfl rfl ow rfl) ?_
            refine dG [(6, _)] [] [(44, _)] [] ⟨rfl, trivial⟩ trivial (fun S0 => stepOK_plain rfl rfl ow rfl) ?_
            refine dG [(43, _), (44, _)] [(5, _)] [(45, _)] [] ⟨rfl, rfl, trivial⟩ ⟨rfl, trivial⟩ (fun S0 => stepOK_plain rfl rfl ow rfl) ?_
            refine dG [(45, _)] [(5, _)] [(46, _)] [] ⟨rfl, trivial⟩ ⟨rfl, trivial⟩ (fun S0 => stepOK_plain rfl rfl ow rfl) ?_
            refine dG [(35, _), (36, _)] [(5, _)] [(47, _)] [] ⟨rfl, rfl, trivial⟩ ⟨rfl, trivial⟩ (fun S0 => stepOK_plain rfl rfl ow rfl) ?_
            refine dG [(47, _), (42, _)] [(5, _)] [] [(5, _)] ⟨rfl, rfl, trivial⟩ ⟨rfl, trivial⟩ (fun S0 => stepOK_plain rfl rfl ow rfl) ?_
            refine dG [(37, _), (38, _)] [(5, _)] [(48, _)] [] ⟨rfl, rfl, trivial⟩ ⟨rfl, trivial⟩ (fun S0 => stepOK_plain rfl rfl ow rfl) ?_
            refine dG [(48, _), (46, _)] [(5, _)] [] [(5, _)] ⟨rfl, rfl, trivial⟩ ⟨rfl, trivial⟩ (fun S0 => stepOK_plain rfl rfl ow rfl) ?_
            refine dn ?_
            refine sim_region ?_
            iterate 6 refine o1 ?_
            refine sim_ops_nil ?_
            exact simL_again (ih12 m13 (by omega) (_, _, _, ()) ⟨h, by omega⟩) ⟨rfl, rfl, rfl, trivial⟩ ⟨rfl, trivial⟩ rfl
          · skip
            obtain ⟨c21, h⟩ := tkF h hb
            have g22 := hb
            clear hb
            refine sim_exit (sim_seq (sim_region ?_))
            iterate 2 refine o1 ?_
            refine sim_ops_nil ?_
            obtain rfl := Option.some.inj h
            exact sim_ret ⟨.inl rfl, 5, by decide, rfl, rfl⟩
    · skip
      obtain ⟨c23, h⟩ := tkT h hb
      have g24 := hb
      clear hb
      obtain ⟨q25, h⟩ := ite_none h
      iterate 4 refine opS ?_
      refine o1 ?_
      refine sim_ops_nil ?_
      refine sim_cond rfl (fun hb => ?_) (fun hb => ?_)
      · skip
        refine sim_skip (sim_block (sim_seq (sim_region ?_)))
        iterate 8 refine o1 ?_
        refine sim_ops_nil (sim_region ?_)
        iterate 3 refine o1 ?_
        refine sim_ops_nil ?_
        exact simL_again (ih2 m3 (by omega) (_, _, _, ()) h) ⟨rfl, rfl, rfl, trivial⟩ ⟨rfl, trivial⟩ rfl
      · skip
        first | cases hb | (simp_all; done)
theorem nat_digits.v (k : Nat) (a0 : Int) (a1 : Int) (r : List Int) (h : P.nat_digits.f k a0 a1 = some r) : Fn Try.prog 123 [.int .u64 a0, .int .i64 a1] (.ints .u8 r):= fn_of_fnO (nat_digits.o k a0 a1 r h)
instance : FN Try.prog 93 := ⟨⟨_, Try.func93, by decide, by simp [Try.f93]⟩⟩
set_option maxRecDepth 100000 in
set_option maxHeartbeats 4000000 in
theorem nat_Text.v (k : Nat) (l0 : List Int) (r : ByteArray × Int) (h : P.nat_Text.f k l0 = some r) : Fn Try.prog 93 [.ints .u32 l0] (.tup [.str r.1, .int .i64 r.2]) := by
  refine fn_of_sim Try.func93 rfl (Nat.le_of_ble_eq_true rfl) ?_
  intro X hX
  unfold P.nat_Text.f at h
  refine sim_seq (sim_region ?_)
  iterate 2 refine o1 ?_
  refine sim_ops_nil (sim_seq (sim_seq (sim_region ?_)))
  refine o1 ?_
  obtain ⟨t1, ht2, h⟩ := Option.bind_eq_some_iff.1 h
  refine opC (nat_Valid.v _ _ ht2) ?_
  refine o1 ?_
  refine sim_ops_nil ?_
  refine sim_cond rfl (fun hb => ?_) (fun hb => ?_)
  · skip
    obtain ⟨c3, h⟩ := tkF h hb
    have g4 := hb
    clear hb
    refine sim_seq (sim_region ?_)
    iterate 2 refine o1 ?_
    refine sim_ops_nil ?_
    obtain rfl := Option.some.inj h
    exact sim_ret ⟨.inl rfl, .two (.tmp rt) (.tmp rt) rfl rfl⟩
  · skip
    obtain ⟨c5, h⟩ := tkT h hb
    have g6 := hb
    clear hb
    refine sim_skip (sim_seq (sim_seq (sim_region ?_)))
    iterate 3 refine o1 ?_
    refine sim_ops_nil ?_
    refine sim_cond rfl (fun hb => ?_) (fun hb => ?_)
    · skip
      obtain ⟨c7, h⟩ := tkT h hb
      have g8 := hb
      clear hb
      refine sim_seq (sim_region ?_)
      iterate 2 refine o1 ?_
      refine sim_ops_nil ?_
      obtain rfl := Option.some.inj h
      exact sim_ret ⟨.inl rfl, .two (.tmp rt) (.tmp rt) rfl rfl⟩
    · skip
      obtain ⟨c9, h⟩ := tkF h hb
      have g10 := hb
      clear hb
      refine sim_skip (sim_seq (sim_region ?_))
      refine sim_ops_cons rfl (x_none 33 .u64 (.inr rfl) rfl rfl (ib hX (by decide))) ?_
      refine sim_ops_nil (sim_seq (sim_seq (sim_region ?_)))
      obtain ⟨t11, ht12, h⟩ := Option.bind_eq_some_iff.1 h
      refine opC (mag_From.v _ _ _ ht12) ?_
      refine o1 ?_
      refine sim_ops_nil (sim_block (sim_loop ?_))
      refine simL_ind (D := List Int × List Int × List Int × Unit) (fun d => ⟨look [(0, .ints .u32 d.1), (4, .own 4), (5, .ints .u32 d.2.2.1)], look [(4, rowI 33 .u64 d.2.1)]⟩) (fun K_ d => P.nat_Text.l0 K_ d.1 d.2.1 d.2.2.1 = some r) ?_ _ (_, _, _, ()) h (rel_look _ _ ⟨rfl, rfl, rfl, trivial⟩ ⟨rfl, trivial⟩ rfl)
      intro K13 ih14 d h
      obtain ⟨x0, x4, x5, _⟩ := d
      dsimp only at h ⊢
      cases K13 with
      | zero => exact absurd h (by simp [P.nat_Text.l0])
      | succ m15 =>
        simp only [P.nat_Text.l0] at h
        refine simL_step (sim_seq (sim_seq (sim_region ?_)))
        iterate 3 refine o1 ?_
        refine sim_ops_nil ?_
        refine sim_cond rfl (fun hb => ?_) (fun hb => ?_)
        · skip
          obtain ⟨c16, h⟩ := tkT h hb
          have g17 := hb
          clear hb
          refine sim_skip (sim_block (sim_seq (sim_region ?_)))
          iterate 2 refine o1 ?_
          obtain ⟨t18, ht19, h⟩ := Option.bind_eq_some_iff.1 h
          refine opC (mag_DivMod.v _ _ _ _ ht19) ?_
          iterate 5 refine o1 ?_
          refine sim_ops_nil (sim_seq (sim_region ?_))
          refine o1 ?_
          obtain ⟨t20, ht21, h⟩ := Option.bind_eq_some_iff.1 h
          refine opC (mag_Small.v _ _ ht21) ?_
          obtain ⟨q22, h⟩ := ite_none h
          iterate 5 refine o1 ?_
          refine sim_ops_nil (sim_seq (sim_region ?_))
          iterate 5 refine o1 ?_
          refine sim_ops_nil (sim_region ?_)
          iterate 2 refine o1 ?_
          refine sim_ops_nil ?_
          exact simL_again (ih14 m15 (by omega) (_, _, _, ()) h) ⟨rfl, rfl, rfl, trivial⟩ ⟨rfl, trivial⟩ rfl
        · skip
          obtain ⟨c23, h⟩ := tkF h hb
          have g24 := hb
          clear hb
          obtain ⟨q25, h⟩ := ite_none h
          obtain ⟨q26, h⟩ := ite_none h
          refine sim_exit (sim_seq (sim_region ?_))
          iterate 6 refine o1 ?_
          obtain ⟨t27, ht28, h⟩ := Option.bind_eq_some_iff.1 h
          refine opCO (nat_digits.o _ _ _ _ ht28) ?_
          refine o1 ?_
          refine sim_ops_nil (sim_seq (sim_seq (sim_region ?_)))
          iterate 4 refine o1 ?_
          refine sim_ops_nil (sim_block (sim_loop ?_))
          refine simL_ind (D := List Int × List Int × Int × Unit) (fun d => ⟨look [(4, .own 4), (10, .own 45), (11, .int .i64 d.2.2.1)], look [(4, rowI 33 .u64 d.1), (45, rowI 5 .u8 d.2.1)]⟩) (fun K_ d => P.nat_Text.l1 K_ d.1 d.2.1 d.2.2.1 = some r ∧ K_ ≤ m15) ?_ _ (_, _, _, ()) ⟨h, by omega⟩ (rel_look _ _ ⟨rfl, rfl, rfl, trivial⟩ ⟨rfl, rfl, trivial⟩ rfl)
          intro K29 ih30 d h
          obtain ⟨h, b32⟩ := h
          obtain ⟨x4, x10, x11, _⟩ := d
          dsimp only at h b32 ⊢
          cases K29 with
          | zero => exact absurd h (by simp [P.nat_Text.l1])
          | succ m31 =>
            simp only [P.nat_Text.l1] at h
            refine simL_step (sim_seq (sim_seq (sim_region ?_)))
            iterate 2 refine o1 ?_
            refine sim_ops_nil ?_
            refine sim_cond rfl (fun hb => ?_) (fun hb => ?_)
            · skip
              obtain ⟨c33, h⟩ := tkT h hb
              have g34 := hb
              clear hb
              obtain ⟨q35, h⟩ := ite_none h
              obtain ⟨q36, h⟩ := ite_none h
              obtain ⟨q37, h⟩ := ite_none h
              refine sim_skip (sim_seq (sim_block (sim_seq (sim_region ?_))))
              iterate 2 refine o1 ?_
              refine sim_ops_nil (sim_seq (sim_region ?_))
              iterate 5 refine o1 ?_
              obtain ⟨t38, ht39, h⟩ := Option.bind_eq_some_iff.1 h
              refine opC (nat_digits.v _ _ _ _ ht39) ?_
              replace h := bsome h
              obtain ⟨q40, h⟩ := ite_none h
              refine o1 ?_
              refine sim_ops_nil ?_
              refine sim_weak (rel_freeze (k := 53) rfl) ?_
              refine sim_region ?_
              iterate 4 refine o1 ?_
              refine sim_ops_nil (sim_region ?_)
              iterate 3 refine o1 ?_
              refine sim_ops_nil ?_
              exact simL_again (ih30 m31 (by omega) (_, _, _, ()) ⟨h, by omega⟩) ⟨rfl, rfl, rfl, trivial⟩ ⟨rfl, rfl, trivial⟩ rfl
            · skip
              obtain ⟨c41, h⟩ := tkF h hb
              have g42 := hb
              clear hb
              refine sim_exit (sim_seq (sim_region ?_))
              iterate 4 refine o1 ?_
              refine sim_ops_nil ?_
              obtain rfl := Option.some.inj h
              exact sim_ret ⟨.inl rfl, .two (.tmp rt) (.tmp rt) rfl rfl⟩
instance : FN Try.prog 13 := ⟨⟨_, Try.func13, by decide, by simp [Try.f13]⟩⟩
set_option maxRecDepth 100000 in
set_option maxHeartbeats 4000000 in
theorem isochroneref01_Int.v (k : Nat) (a0 : Int) (r : List Int) (h : P.isochroneref01_Int.f k a0 = some r) : Fn Try.prog 13 [.int .i64 a0] (.ints .i64 r) := by
  refine fn_of_sim Try.func13 rfl (Nat.le_of_ble_eq_true rfl) ?_
  intro X hX
  unfold P.isochroneref01_Int.f at h
  refine sim_seq (sim_region ?_)
  refine o1 ?_
  refine sim_ops_nil (sim_seq (sim_region ?_))
  refine sim_ops_cons rfl (x_olit0 rfl rfl rfl (ib hX (by decide))) ?_
  refine o1 ?_
  refine sim_ops_nil (sim_seq (sim_block (sim_loop ?_)))
  refine simL_ind (D := Int × List Int × Unit) (fun d => ⟨look [(0, .int .i64 d.1), (3, .own 4)], look [(4, rowI 3 .i64 d.2.1)]⟩) (fun K_ d => P.isochroneref01_Int.l0 K_ d.1 d.2.1 = some r) ?_ _ (_, _, ()) h (rel_look _ _ ⟨rfl, rfl, trivial⟩ ⟨rfl, trivial⟩ rfl)
  intro K1 ih2 d h
  obtain ⟨x0, x3, _⟩ := d
  dsimp only at h ⊢
  cases K1 with
  | zero => exact absurd h (by simp [P.isochroneref01_Int.l0])
  | succ m3 =>
    simp only [P.isochroneref01_Int.l0] at h
    refine simL_step (sim_seq (sim_seq (sim_region ?_)))
    iterate 2 refine o1 ?_
    refine sim_ops_nil ?_
    refine sim_cond rfl (fun hb => ?_) (fun hb => ?_)
    · skip
      obtain ⟨c4, h⟩ := tkT h hb
      have g5 := hb
      clear hb
      obtain ⟨q6, h⟩ := ite_none h
      refine sim_skip (sim_block (sim_seq (sim_region ?_)))
      iterate 6 refine o1 ?_
      refine sim_ops_nil (sim_region ?_)
      iterate 3 refine o1 ?_
      refine sim_ops_nil ?_
      exact simL_again (ih2 m3 (by omega) (_, _, ()) h) ⟨rfl, rfl, trivial⟩ ⟨rfl, trivial⟩ rfl
    · skip
      obtain ⟨c7, h⟩ := tkF h hb
      have g8 := hb
      clear hb
      refine sim_exit (sim_seq (sim_region ?_))
      iterate 2 refine o1 ?_
      refine sim_ops_nil ?_
      refine sim_weak (rel_freeze (k := 4) rfl) ?_
      obtain rfl := Option.some.inj h
      exact sim_ret ⟨.inl rfl, .one (.tmp rt) rfl⟩
instance : FN Try.prog 14 := ⟨⟨_, Try.func14, by decide, by simp [Try.f14]⟩⟩
set_option maxRecDepth 100000 in
set_option maxHeartbeats 4000000 in
theorem isochroneref01_Add.v (k : Nat) (l0 : List Int) (l1 : List Int) (r : List Int) (h : P.isochroneref01_Add.f k l0 l1 = some r) : Fn Try.prog 14 [.ints .i64 l0, .ints .i64 l1] (.ints .i64 r) := by
  refine fn_of_sim Try.func14 rfl (Nat.le_of_ble_eq_true rfl) ?_
  intro X hX
  unfold P.isochroneref01_Add.f at h
  refine sim_seq (sim_region ?_)
  refine o1 ?_
  refine sim_ops_nil (sim_seq (sim_region ?_))
  refine sim_ops_cons rfl (x_none 3 .i64 (.inr rfl) rfl rfl (ib hX (by decide))) ?_
  refine sim_ops_nil (sim_seq (sim_region ?_))
  refine o1 ?_
  refine sim_ops_nil (sim_seq (sim_seq (sim_region ?_)))
  refine o1 ?_
  refine sim_ops_nil (sim_block (sim_loop ?_))
  refine simL_ind (D := List Int × List Int × List Int × Int × Int × Unit) (fun d => ⟨look [(0, .ints .i64 d.1), (1, .ints .i64 d.2.1), (5, .own 5), (6, .int .i64 d.2.2.2.1), (7, .int .i64 d.2.2.2.2.1)], look [(5, rowI 3 .i64 d.2.2.1)]⟩) (fun K_ d => P.isochroneref01_Add.l0 K_ d.1 d.2.1 d.2.2.1 d.2.2.2.1 d.2.2.2.2.1 = some r) ?_ _ (_, _, _, _, _, ()) h (rel_look _ _ ⟨rfl, rfl, rfl, rfl, rfl, trivial⟩ ⟨rfl, trivial⟩ rfl)
  intro K1 ih2 d h
  obtain ⟨x0, x1, x5, x6, x7, _⟩ := d
  dsimp only at h ⊢
  cases K1 with
  | zero => exact absurd h (by simp [P.isochroneref01_Add.l0])
  | succ m3 =>
    simp only [P.isochroneref01_Add.l0] at h
    refine simL_step (sim_seq (sim_seq ?_))
    refine sim_joinG (D := Nat × List Int × List Int × List Int × Int × Int × Bool × Unit) (fun d => ⟨look [(0, .ints .i64 d.2.1), (1, .ints .i64 d.2.2.1), (5, .own 5), (6, .int .i64 d.2.2.2.2.1), (7, .int .i64 d.2.2.2.2.2.1), (21, .bool d.2.2.2.2.2.2.1)], look [(5, rowI 3 .i64 d.2.2.2.1)]⟩) (fun d => P.isochroneref01_Add.j1 d.1 d.2.1 d.2.2.1 d.2.2.2.1 d.2.2.2.2.1 d.2.2.2.2.2.1 d.2.2.2.2.2.2.1 = some r ∧ d.1 ≤ m3) ?_ ?_
    · skip
      rintro ⟨kq4, x0, x1, x5, x6, x7, x21, _⟩ ⟨h, b5⟩
      dsimp only at h b5 ⊢
      cases kq4 with
      | zero => exact absurd h (by simp [P.isochroneref01_Add.j1])
      | succ m6 =>
        simp only [P.isochroneref01_Add.j1] at h
        refine sim_cond rfl (fun hb => ?_) (fun hb => ?_)
        · skip
          obtain ⟨c7, h⟩ := tkT h hb
          have g8 := hb
          clear hb
          refine sim_skip (sim_seq (sim_block (sim_seq (sim_seq (sim_region ?_)))))
          iterate 4 refine o1 ?_
          refine sim_ops_nil ?_
          refine sim_cond rfl (fun hb => ?_) (fun hb => ?_)
          · skip
            obtain ⟨c9, h⟩ := tkT h hb
            have g10 := hb
            clear hb
            obtain ⟨q11, h⟩ := ite_none h
            refine sim_region ?_
            iterate 7 refine o1 ?_
            refine sim_ops_nil (sim_seq (sim_seq (sim_region ?_)))
            iterate 4 refine o1 ?_
            refine sim_ops_nil ?_
            refine sim_cond rfl (fun hb => ?_) (fun hb => ?_)
            · skip
              obtain ⟨c12, h⟩ := tkT h hb
              have g13 := hb
              clear hb
              obtain ⟨q14, h⟩ := ite_none h
              refine sim_region ?_
              iterate 7 refine o1 ?_
              refine sim_ops_nil (sim_seq (sim_region ?_))
              iterate 6 refine o1 ?_
              refine sim_ops_nil (sim_region ?_)
              iterate 3 refine o1 ?_
              refine sim_ops_nil (sim_region ?_)
              iterate 3 refine o1 ?_
              refine sim_ops_nil ?_
              exact simL_again (ih2 m6 (by omega) (_, _, _, _, _, ()) h) ⟨rfl, rfl, rfl, rfl, rfl, trivial⟩ ⟨rfl, trivial⟩ rfl
            · skip
              obtain ⟨c15, h⟩ := tkF h hb
              have g16 := hb
              clear hb
              obtain ⟨q17, h⟩ := ite_none h
              refine sim_skip (sim_seq (sim_region ?_))
              iterate 6 refine o1 ?_
              refine sim_ops_nil (sim_region ?_)
              iterate 3 refine o1 ?_
              refine sim_ops_nil (sim_region ?_)
              iterate 3 refine o1 ?_
              refine sim_ops_nil ?_
              exact simL_again (ih2 m6 (by omega) (_, _, _, _, _, ()) h) ⟨rfl, rfl, rfl, rfl, rfl, trivial⟩ ⟨rfl, trivial⟩ rfl
          · skip
            obtain ⟨c18, h⟩ := tkF h hb
            have g19 := hb
            clear hb
            refine sim_skip (sim_seq (sim_seq (sim_region ?_)))
            iterate 4 refine o1 ?_
            refine sim_ops_nil ?_
            refine sim_cond rfl (fun hb => ?_) (fun hb => ?_)
            · skip
              obtain ⟨c20, h⟩ := tkT h hb
              have g21 := hb
              clear hb
              obtain ⟨q22, h⟩ := ite_none h
              obtain ⟨q23, h⟩ := ite_none h
              refine sim_region ?_
              iterate 7 refine o1 ?_
              refine sim_ops_nil (sim_seq (sim_region ?_))
              iterate 6 refine o1 ?_
              refine sim_ops_nil (sim_region ?_)
              iterate 3 refine o1 ?_
              refine sim_ops_nil (sim_region ?_)
              iterate 3 refine o1 ?_
              refine sim_ops_nil ?_
              exact simL_again (ih2 m6 (by omega) (_, _, _, _, _, ()) h) ⟨rfl, rfl, rfl, rfl, rfl, trivial⟩ ⟨rfl, trivial⟩ rfl
            · skip
              obtain ⟨c24, h⟩ := tkF h hb
              have g25 := hb
              clear hb
              obtain ⟨q26, h⟩ := ite_none h
              refine sim_skip (sim_seq (sim_region ?_))
              iterate 6 refine o1 ?_
              refine sim_ops_nil (sim_region ?_)
              iterate 3 refine o1 ?_
              refine sim_ops_nil (sim_region ?_)
              iterate 3 refine o1 ?_
              refine sim_ops_nil ?_
              exact simL_again (ih2 m6 (by omega) (_, _, _, _, _, ()) h) ⟨rfl, rfl, rfl, rfl, rfl, trivial⟩ ⟨rfl, trivial⟩ rfl
        · skip
          obtain ⟨c27, h⟩ := tkF h hb
          have g28 := hb
          clear hb
          refine sim_exit (sim_seq (sim_region ?_))
          iterate 2 refine o1 ?_
          refine sim_ops_nil ?_
          refine sim_weak (rel_freeze (k := 5) rfl) ?_
          obtain rfl := Option.some.inj h
          exact sim_ret ⟨.inl rfl, .one (.tmp rt) rfl⟩
    · skip
      refine sim_region ?_
      iterate 5 refine o1 ?_
      refine og rfl rfl rfl rfl (fun hb => ?_) (fun hb => ?_)
      · skip
        obtain ⟨c29, h⟩ := tkF h hb
        have g30 := hb
        clear hb
        iterate 4 refine oT ?_
        iterate 2 refine o1 ?_
        refine og rfl rfl rfl rfl (fun hb => ?_) (fun hb => ?_)
        · skip
          obtain ⟨c31, h⟩ := tkF h hb
          have g32 := hb
          clear hb
          iterate 2 refine oT ?_
          refine o1 ?_
          refine sim_ops_nil ?_
          exact ⟨(m3, _, _, _, _, _, _, ()), ⟨h, by omega⟩, rel_look _ _ ⟨rfl, rfl, rfl, rfl, rfl, rfl, trivial⟩ ⟨rfl, trivial⟩ rfl⟩
        · skip
          obtain ⟨c33, h⟩ := tkT h hb
          have g34 := hb
          clear hb
          iterate 2 refine opS ?_
          refine o1 ?_
          refine sim_ops_nil ?_
          exact ⟨(m3, _, _, _, _, _, _, ()), ⟨h, by omega⟩, rel_look _ _ ⟨rfl, rfl, rfl, rfl, rfl, rfl, trivial⟩ ⟨rfl, trivial⟩ rfl⟩
      · skip
        obtain ⟨c35, h⟩ := tkT h hb
        have g36 := hb
        clear hb
        iterate 4 refine opS ?_
        iterate 2 refine o1 ?_
        iterate 2 refine opS ?_
        refine o1 ?_
        refine sim_ops_nil ?_
        exact ⟨(m3, _, _, _, _, _, _, ()), ⟨h, by omega⟩, rel_look _ _ ⟨rfl, rfl, rfl, rfl, rfl, rfl, trivial⟩ ⟨rfl, trivial⟩ rfl⟩
instance : FN Try.prog 63 := ⟨⟨_, Try.func63, by decide, by simp [Try.f63]⟩⟩
set_option maxRecDepth 100000 in
set_option maxHeartbeats 4000000 in
theorem isochroneref01_trim.v (k : Nat) (l0 : List Int) (r : List Int) (h : P.isochroneref01_trim.f k l0 = some r) : Fn Try.prog 63 [.ints .i64 l0] (.ints .i64 r) := by
  refine fn_of_sim Try.func63 rfl (Nat.le_of_ble_eq_true rfl) ?_
  intro X hX
  unfold P.isochroneref01_trim.f at h
  refine sim_seq (sim_region ?_)
  refine o1 ?_
  refine sim_ops_nil (sim_seq (sim_region ?_))
  iterate 3 refine o1 ?_
  refine sim_ops_nil (sim_seq (sim_block (sim_loop ?_)))
  refine simL_ind (D := List Int × Int × Unit) (fun d => ⟨look [(0, .ints .i64 d.1), (3, .int .i64 d.2.1)], look []⟩) (fun K_ d => P.isochroneref01_trim.l0 K_ d.1 d.2.1 = some r) ?_ _ (_, _, ()) h (rel_look _ _ ⟨rfl, rfl, trivial⟩ trivial rfl)
  intro K1 ih2 d h
  obtain ⟨x0, x3, _⟩ := d
  dsimp only at h ⊢
  cases K1 with
  | zero => exact absurd h (by simp [P.isochroneref01_trim.l0])
  | succ m3 =>
    simp only [P.isochroneref01_trim.l0] at h
    refine simL_step (sim_seq (sim_seq (sim_region ?_)))
    iterate 3 refine o1 ?_
    refine og rfl rfl rfl rfl (fun hb => ?_) (fun hb => ?_)
    · skip
      obtain ⟨c4, h⟩ := tkT h hb
      have g5 := hb
      clear hb
      obtain ⟨q6, h⟩ := ite_none h
      obtain ⟨q7, h⟩ := ite_none h
      iterate 6 refine oT ?_
      refine o1 ?_
      refine sim_ops_nil ?_
      refine sim_cond rfl (fun hb => ?_) (fun hb => ?_)
      · skip
        obtain ⟨c8, h⟩ := tkT h hb
        have g9 := hb
        clear hb
        refine sim_skip (sim_block (sim_region ?_))
        iterate 3 refine o1 ?_
        refine sim_ops_nil ?_
        exact simL_again (ih2 m3 (by omega) (_, _, ()) h) ⟨rfl, rfl, trivial⟩ trivial rfl
      · skip
        obtain ⟨c10, h⟩ := tkF h hb
        have g11 := hb
        clear hb
        obtain ⟨q12, h⟩ := ite_none h
        obtain ⟨q13, h⟩ := ite_none h
        refine sim_exit (sim_seq (sim_region ?_))
        iterate 4 refine o1 ?_
        refine sim_ops_nil ?_
        obtain rfl := Option.some.inj h
        exact sim_ret ⟨.inl rfl, .one (.tmp rt) rfl⟩
    · skip
      obtain ⟨c14, h⟩ := tkF h hb
      have g15 := hb
      clear hb
      obtain ⟨q16, h⟩ := ite_none h
      obtain ⟨q17, h⟩ := ite_none h
      iterate 6 refine opS ?_
      refine o1 ?_
      refine sim_ops_nil ?_
      refine sim_cond rfl (fun hb => ?_) (fun hb => ?_)
      · skip
        first | cases hb | (simp_all; done)
      · skip
        refine sim_exit (sim_seq (sim_region ?_))
        iterate 4 refine o1 ?_
        refine sim_ops_nil ?_
        obtain rfl := Option.some.inj h
        exact sim_ret ⟨.inl rfl, .one (.tmp rt) rfl⟩
instance : FN Try.prog 15 := ⟨⟨_, Try.func15, by decide, by simp [Try.f15]⟩⟩
set_option maxRecDepth 100000 in
set_option maxHeartbeats 4000000 in
theorem isochroneref01_Mul.v (k : Nat) (l0 : List Int) (l1 : List Int) (r : List Int) (h : P.isochroneref01_Mul.f k l0 l1 = some r) : Fn Try.prog 15 [.ints .i64 l0, .ints .i64 l1] (.ints .i64 r) := by
  refine fn_of_sim Try.func15 rfl (Nat.le_of_ble_eq_true rfl) ?_
  intro X hX
  unfold P.isochroneref01_Mul.f at h
  obtain ⟨q1, h⟩ := ite_none h
  obtain ⟨q2, h⟩ := ite_none h
  refine sim_seq (sim_region ?_)
  refine o1 ?_
  refine sim_ops_nil (sim_seq (sim_region ?_))
  iterate 8 refine o1 ?_
  refine sim_ops_nil (sim_seq (sim_seq (sim_region ?_)))
  iterate 3 refine o1 ?_
  refine sim_ops_nil (sim_block (sim_loop ?_))
  refine simL_ind (D := List Int × List Int × List Int × Int × Int × Unit) (fun d => ⟨look [(1, .ints .i64 d.1), (5, .own 18), (19, .ints .i64 d.2.2.1), (20, .int .i64 d.2.2.2.1), (21, .int .i64 d.2.2.2.2.1)], look [(18, rowI 3 .i64 d.2.1)]⟩) (fun K_ d => P.isochroneref01_Mul.l0 K_ d.1 d.2.1 d.2.2.1 d.2.2.2.1 d.2.2.2.2.1 = some r) ?_ _ (_, _, _, _, _, ()) h (rel_look _ _ ⟨rfl, rfl, rfl, rfl, rfl, trivial⟩ ⟨rfl, trivial⟩ rfl)
  intro K3 ih4 d h
  obtain ⟨x1, x5, x19, x20, x21, _⟩ := d
  dsimp only at h ⊢
  cases K3 with
  | zero => exact absurd h (by simp [P.isochroneref01_Mul.l0])
  | succ m5 =>
    simp only [P.isochroneref01_Mul.l0] at h
    refine simL_step (sim_seq (sim_region ?_))
    refine o1 ?_
    refine sim_ops_nil (sim_seq ?_)
    refine sim_cond rfl (fun hb => ?_) (fun hb => ?_)
    · skip
      obtain ⟨c6, h⟩ := tkT h hb
      have g7 := hb
      clear hb
      obtain ⟨q8, h⟩ := ite_none h
      obtain ⟨q9, h⟩ := ite_none h
      refine sim_skip (sim_seq (sim_block (sim_seq (sim_region ?_))))
      iterate 5 refine o1 ?_
      refine sim_ops_nil (sim_seq (sim_region ?_))
      refine o1 ?_
      refine sim_ops_nil (sim_seq (sim_seq (sim_region ?_)))
      iterate 3 refine o1 ?_
      refine sim_ops_nil (sim_block (sim_loop ?_))
      refine simL_ind (D := List Int × List Int × Int × Int × Int × List Int × Int × Int × List Int × Int × Int × Unit) (fun d => ⟨look [(1, .ints .i64 d.1), (5, .own 18), (6, .int .i64 d.2.2.1), (7, .int .i64 d.2.2.2.1), (8, .int .i64 d.2.2.2.2.1), (19, .ints .i64 d.2.2.2.2.2.1), (20, .int .i64 d.2.2.2.2.2.2.1), (21, .int .i64 d.2.2.2.2.2.2.2.1), (26, .ints .i64 d.2.2.2.2.2.2.2.2.1), (27, .int .i64 d.2.2.2.2.2.2.2.2.2.1), (28, .int .i64 d.2.2.2.2.2.2.2.2.2.2.1)], look [(18, rowI 3 .i64 d.2.1)]⟩) (fun K_ d => P.isochroneref01_Mul.l1 K_ d.1 d.2.1 d.2.2.1 d.2.2.2.1 d.2.2.2.2.1 d.2.2.2.2.2.1 d.2.2.2.2.2.2.1 d.2.2.2.2.2.2.2.1 d.2.2.2.2.2.2.2.2.1 d.2.2.2.2.2.2.2.2.2.1 d.2.2.2.2.2.2.2.2.2.2.1 = some r ∧ K_ ≤ m5) ?_ _ (_, _, _, _, _, _, _, _, _, _, _, ()) ⟨h, by omega⟩ (rel_look _ _ ⟨rfl, rfl, rfl, rfl, rfl, rfl, rfl, rfl, rfl, rfl, rfl, trivial⟩ ⟨rfl, trivial⟩ rfl)
      intro K10 ih11 d h
      obtain ⟨h, b13⟩ := h
      obtain ⟨x1, x5, x6, x7, x8, x19, x20, x21, x26, x27, x28, _⟩ := d
      dsimp only at h b13 ⊢
      cases K10 with
      | zero => exact absurd h (by simp [P.isochroneref01_Mul.l1])
      | succ m12 =>
        simp only [P.isochroneref01_Mul.l1] at h
        refine simL_step (sim_seq (sim_region ?_))
        refine o1 ?_
        refine sim_ops_nil (sim_seq ?_)
        refine sim_cond rfl (fun hb => ?_) (fun hb => ?_)
        · skip
          obtain ⟨c14, h⟩ := tkT h hb
          have g15 := hb
          clear hb
          obtain ⟨q16, h⟩ := ite_none h
          obtain ⟨q17, h⟩ := ite_none h
          obtain ⟨q18, h⟩ := ite_none h
          obtain ⟨q19, h⟩ := ite_none h
          refine sim_skip (sim_seq (sim_block (sim_seq (sim_region ?_))))
          iterate 5 refine o1 ?_
          refine sim_ops_nil (sim_seq (sim_region ?_))
          iterate 13 refine o1 ?_
          refine sim_ops_nil (sim_seq (sim_region ?_))
          iterate 8 refine o1 ?_
          refine sim_ops_nil (sim_region ?_)
          iterate 3 refine o1 ?_
          refine sim_ops_nil (sim_region ?_)
          iterate 2 refine o1 ?_
          refine sim_ops_nil ?_
          exact simL_again (ih11 m12 (by omega) (_, _, _, _, _, _, _, _, _, _, _, ()) ⟨h, by omega⟩) ⟨rfl, rfl, rfl, rfl, rfl, rfl, rfl, rfl, rfl, rfl, rfl, trivial⟩ ⟨rfl, trivial⟩ rfl
        · skip
          obtain ⟨c20, h⟩ := tkF h hb
          have g21 := hb
          clear hb
          refine sim_exit (sim_seq (sim_region ?_))
          iterate 5 refine o1 ?_
          refine sim_ops_nil (sim_block (sim_loop ?_))
          refine simL_ind (D := List Int × List Int × Int × Int × List Int × Int × Int × Unit) (fun d => ⟨look [(1, .ints .i64 d.1), (5, .own 18), (8, .int .i64 d.2.2.1), (11, .int .i64 d.2.2.2.1), (19, .ints .i64 d.2.2.2.2.1), (20, .int .i64 d.2.2.2.2.2.1), (21, .int .i64 d.2.2.2.2.2.2.1)], look [(18, rowI 3 .i64 d.2.1)]⟩) (fun K_ d => P.isochroneref01_Mul.l2 K_ d.1 d.2.1 d.2.2.1 d.2.2.2.1 d.2.2.2.2.1 d.2.2.2.2.2.1 d.2.2.2.2.2.2.1 = some r ∧ K_ ≤ m12) ?_ _ (_, _, _, _, _, _, _, ()) ⟨h, by omega⟩ (rel_look _ _ ⟨rfl, rfl, rfl, rfl, rfl, rfl, rfl, trivial⟩ ⟨rfl, trivial⟩ rfl)
          intro K22 ih23 d h
          obtain ⟨h, b25⟩ := h
          obtain ⟨x1, x5, x8, x11, x19, x20, x21, _⟩ := d
          dsimp only at h b25 ⊢
          cases K22 with
          | zero => exact absurd h (by simp [P.isochroneref01_Mul.l2])
          | succ m24 =>
            simp only [P.isochroneref01_Mul.l2] at h
            refine simL_step (sim_seq (sim_seq (sim_region ?_)))
            iterate 2 refine o1 ?_
            refine sim_ops_nil ?_
            refine sim_cond rfl (fun hb => ?_) (fun hb => ?_)
            · skip
              obtain ⟨c26, h⟩ := tkT h hb
              have g27 := hb
              clear hb
              obtain ⟨q28, h⟩ := ite_none h
              obtain ⟨q29, h⟩ := ite_none h
              refine sim_skip (sim_seq (sim_block (sim_seq (sim_region ?_))))
              iterate 7 refine o1 ?_
              refine sim_ops_nil (sim_seq (sim_region ?_))
              iterate 6 refine o1 ?_
              refine sim_ops_nil (sim_region ?_)
              iterate 3 refine o1 ?_
              refine sim_ops_nil (sim_region ?_)
              iterate 3 refine o1 ?_
              refine sim_ops_nil ?_
              exact simL_again (ih23 m24 (by omega) (_, _, _, _, _, _, _, ()) ⟨h, by omega⟩) ⟨rfl, rfl, rfl, rfl, rfl, rfl, rfl, trivial⟩ ⟨rfl, trivial⟩ rfl
            · skip
              obtain ⟨c30, h⟩ := tkF h hb
              have g31 := hb
              clear hb
              refine sim_exit (sim_region ?_)
              iterate 2 refine o1 ?_
              refine sim_ops_nil ?_
              exact simL_again (ih4 m24 (by omega) (_, _, _, _, _, ()) h) ⟨rfl, rfl, rfl, rfl, rfl, trivial⟩ ⟨rfl, trivial⟩ rfl
    · skip
      obtain ⟨c32, h⟩ := tkF h hb
      have g33 := hb
      clear hb
      refine sim_exit (sim_seq ?_)
      refine sim_weak (rel_freeze (k := 18) rfl) ?_
      refine sim_region ?_
      refine o1 ?_
      obtain ⟨t34, ht35, h⟩ := Option.bind_eq_some_iff.1 h
      refine opC (isochroneref01_trim.v _ _ _ ht35) ?_
      refine o1 ?_
      refine sim_ops_nil ?_
      obtain rfl := Option.some.inj h
      exact sim_ret ⟨.inl rfl, .one (.tmp rt) rfl⟩
instance : FN Try.prog 64 := ⟨⟨_, Try.func64, by decide, by simp [Try.f64]⟩⟩
set_option maxRecDepth 100000 in
set_option maxHeartbeats 4000000 in
theorem isochroneref01_Small.v (k : Nat) (l0 : List Int) (a1 : Int) (a2 : Int) (r : List Int) (h : P.isochroneref01_Small.f k l0 a1 a2 = some r) : Fn Try.prog 64 [.ints .i64 l0, .int .i64 a1, .int .i64 a2] (.ints .i64 r) := by
  refine fn_of_sim Try.func64 rfl (Nat.le_of_ble_eq_true rfl) ?_
  intro X hX
  unfold P.isochroneref01_Small.f at h
  obtain ⟨q1, h⟩ := ite_none h
  obtain ⟨q2, h⟩ := ite_none h
  refine sim_seq (sim_region ?_)
  refine o1 ?_
  refine sim_ops_nil (sim_seq (sim_region ?_))
  iterate 5 refine o1 ?_
  refine sim_ops_nil (sim_seq (sim_seq (sim_region ?_)))
  iterate 3 refine o1 ?_
  refine sim_ops_nil (sim_block (sim_loop ?_))
  refine simL_ind (D := Int × Int × List Int × List Int × Int × Int × Unit) (fun d => ⟨look [(1, .int .i64 d.1), (2, .int .i64 d.2.1), (7, .own 13), (14, .ints .i64 d.2.2.2.1), (15, .int .i64 d.2.2.2.2.1), (16, .int .i64 d.2.2.2.2.2.1)], look [(13, rowI 3 .i64 d.2.2.1)]⟩) (fun K_ d => P.isochroneref01_Small.l0 K_ d.1 d.2.1 d.2.2.1 d.2.2.2.1 d.2.2.2.2.1 d.2.2.2.2.2.1 = some r) ?_ _ (_, _, _, _, _, _, ()) h (rel_look _ _ ⟨rfl, rfl, rfl, rfl, rfl, rfl, trivial⟩ ⟨rfl, trivial⟩ rfl)
  intro K3 ih4 d h
  obtain ⟨x1, x2, x7, x14, x15, x16, _⟩ := d
  dsimp only at h ⊢
  cases K3 with
  | zero => exact absurd h (by simp [P.isochroneref01_Small.l0])
  | succ m5 =>
    simp only [P.isochroneref01_Small.l0] at h
    refine simL_step (sim_seq (sim_region ?_))
    refine o1 ?_
    refine sim_ops_nil (sim_seq ?_)
    refine sim_cond rfl (fun hb => ?_) (fun hb => ?_)
    · skip
      obtain ⟨c6, h⟩ := tkT h hb
      have g7 := hb
      clear hb
      obtain ⟨q8, h⟩ := ite_none h
      obtain ⟨q9, h⟩ := ite_none h
      obtain ⟨q10, h⟩ := ite_none h
      refine sim_skip (sim_seq (sim_block (sim_seq (sim_region ?_))))
      iterate 3 refine o1 ?_
      refine sim_ops_nil (sim_seq (sim_region ?_))
      iterate 6 refine o1 ?_
      refine sim_ops_nil (sim_seq (sim_region ?_))
      iterate 6 refine o1 ?_
      refine sim_ops_nil (sim_region ?_)
      iterate 3 refine o1 ?_
      refine sim_ops_nil (sim_region ?_)
      iterate 2 refine o1 ?_
      refine sim_ops_nil ?_
      exact simL_again (ih4 m5 (by omega) (_, _, _, _, _, _, ()) h) ⟨rfl, rfl, rfl, rfl, rfl, rfl, trivial⟩ ⟨rfl, trivial⟩ rfl
    · skip
      obtain ⟨c11, h⟩ := tkF h hb
      have g12 := hb
      clear hb
      refine sim_exit (sim_seq (sim_block (sim_loop ?_)))
      refine simL_ind (D := Int × List Int × Unit) (fun d => ⟨look [(2, .int .i64 d.1), (7, .own 13)], look [(13, rowI 3 .i64 d.2.1)]⟩) (fun K_ d => P.isochroneref01_Small.l1 K_ d.1 d.2.1 = some r ∧ K_ ≤ m5) ?_ _ (_, _, ()) ⟨h, by omega⟩ (rel_look _ _ ⟨rfl, rfl, trivial⟩ ⟨rfl, trivial⟩ rfl)
      intro K13 ih14 d h
      obtain ⟨h, b16⟩ := h
      obtain ⟨x2, x7, _⟩ := d
      dsimp only at h b16 ⊢
      cases K13 with
      | zero => exact absurd h (by simp [P.isochroneref01_Small.l1])
      | succ m15 =>
        simp only [P.isochroneref01_Small.l1] at h
        refine simL_step (sim_seq (sim_seq (sim_region ?_)))
        iterate 2 refine o1 ?_
        refine sim_ops_nil ?_
        refine sim_cond rfl (fun hb => ?_) (fun hb => ?_)
        · skip
          obtain ⟨c17, h⟩ := tkT h hb
          have g18 := hb
          clear hb
          obtain ⟨q19, h⟩ := ite_none h
          refine sim_skip (sim_block (sim_seq (sim_region ?_)))
          iterate 6 refine o1 ?_
          refine sim_ops_nil (sim_region ?_)
          iterate 3 refine o1 ?_
          refine sim_ops_nil ?_
          exact simL_again (ih14 m15 (by omega) (_, _, ()) ⟨h, by omega⟩) ⟨rfl, rfl, trivial⟩ ⟨rfl, trivial⟩ rfl
        · skip
          obtain ⟨c20, h⟩ := tkF h hb
          have g21 := hb
          clear hb
          refine sim_exit (sim_seq ?_)
          refine sim_weak (rel_freeze (k := 13) rfl) ?_
          refine sim_region ?_
          refine o1 ?_
          obtain ⟨t22, ht23, h⟩ := Option.bind_eq_some_iff.1 h
          refine opC (isochroneref01_trim.v _ _ _ ht23) ?_
          refine o1 ?_
          refine sim_ops_nil ?_
          obtain rfl := Option.some.inj h
          exact sim_ret ⟨.inl rfl, .one (.tmp rt) rfl⟩
instance : FN Try.prog 16 := ⟨⟨_, Try.func16, by decide, by simp [Try.f16]⟩⟩
set_option maxRecDepth 100000 in
set_option maxHeartbeats 4000000 in
theorem isochroneref01_Two.v (k : Nat) (a0 : Int) (r : List Int) (h : P.isochroneref01_Two.f k a0 = some r) : Fn Try.prog 16 [.int .i64 a0] (.ints .i64 r) := by
  refine fn_of_sim Try.func16 rfl (Nat.le_of_ble_eq_true rfl) ?_
  intro X hX
  unfold P.isochroneref01_Two.f at h
  refine sim_seq (sim_region ?_)
  refine o1 ?_
  refine sim_ops_nil (sim_seq (sim_region ?_))
  iterate 2 refine o1 ?_
  refine sim_ops_nil (sim_seq (sim_block (sim_loop ?_)))
  refine simL_ind (D := Int × List Int × Unit) (fun d => ⟨look [(0, .int .i64 d.1), (3, .ints .i64 d.2.1)], look []⟩) (fun K_ d => P.isochroneref01_Two.l0 K_ d.1 d.2.1 = some r) ?_ _ (_, _, ()) h (rel_look _ _ ⟨rfl, rfl, trivial⟩ trivial rfl)
  intro K1 ih2 d h
  obtain ⟨x0, x3, _⟩ := d
  dsimp only at h ⊢
  cases K1 with
  | zero => exact absurd h (by simp [P.isochroneref01_Two.l0])
  | succ m3 =>
    simp only [P.isochroneref01_Two.l0] at h
    refine simL_step (sim_seq (sim_seq (sim_region ?_)))
    iterate 2 refine o1 ?_
    refine sim_ops_nil ?_
    refine sim_cond rfl (fun hb => ?_) (fun hb => ?_)
    · skip
      obtain ⟨c4, h⟩ := tkT h hb
      have g5 := hb
      clear hb
      refine sim_skip (sim_seq (sim_block (sim_region ?_)))
      refine o1 ?_
      obtain ⟨t6, ht7, h⟩ := Option.bind_eq_some_iff.1 h
      refine opC (isochroneref01_Small.v _ _ _ _ _ ht7) ?_
      refine o1 ?_
      refine sim_ops_nil (sim_region ?_)
      iterate 3 refine o1 ?_
      refine sim_ops_nil ?_
      exact simL_again (ih2 m3 (by omega) (_, _, ()) h) ⟨rfl, rfl, trivial⟩ trivial rfl
    · skip
      obtain ⟨c8, h⟩ := tkF h hb
      have g9 := hb
      clear hb
      obtain ⟨q10, h⟩ := ite_none h
      refine sim_exit (sim_seq (sim_region ?_))
      iterate 3 refine o1 ?_
      obtain ⟨t11, ht12, h⟩ := Option.bind_eq_some_iff.1 h
      refine opC (isochroneref01_Small.v _ _ _ _ _ ht12) ?_
      refine o1 ?_
      refine sim_ops_nil ?_
      obtain rfl := Option.some.inj h
      exact sim_ret ⟨.inl rfl, .one (.tmp rt) rfl⟩
instance : FN Try.prog 65 := ⟨⟨_, Try.func65, by decide, by simp [Try.f65]⟩⟩
set_option maxRecDepth 100000 in
set_option maxHeartbeats 4000000 in
theorem isochroneref01_Nat_int.o (l0 : List Int) (r : List Int) (h : P.isochroneref01_Nat_int.f l0 = some r) : FnO Try.prog 65 [.ints .i64 l0] (rowI 3 .i64 r) := by
  unfold P.isochroneref01_Nat_int.f at h
  replace h := bsome h
  obtain ⟨q1, h⟩ := ite_none h
  obtain rfl := Option.some.inj h
  refine fnO_of_sim Try.func65 rfl (Nat.le_of_ble_eq_true rfl) rfl ?_
  intro X hX
  refine sim_seq (sim_region (o1 (sim_ops_nil ?_)))
  refine sim_seq (sim_seq (sim_region (o1 (op_isnil rfl rfl UL.h rfl (ib hX (by decide)) (fun b hb => sim_ops_nil (sim_cond rfl (fun h1 => ?_) (fun h1 => ?_)))))))
  · obtain rfl : l0 = [] := List.eq_nil_of_length_eq_zero (hb h1).1
    refine sim_seq (sim_region ?_)
    refine sim_ops_cons rfl (x_none 3 .i64 (.inr rfl) rfl rfl (ib hX (by decide))) ?_
    refine sim_ops_nil (sim_ret ⟨.inl rfl, 2, by decide, rfl, rfl⟩)
  · refine sim_skip (sim_seq (sim_region ?_))
    refine sim_ops_cons rfl (x_olit0 rfl rfl rfl (ib hX (by decide))) ?_
    refine o1 ?_
    refine sim_ops_cons rfl (i_append rfl rfl rfl rfl UL.h IF.h rfl rfl rfl rfl bl bl (by decide) (ib hX (by decide))) ?_
    refine o1 ?_
    refine sim_ops_nil (sim_ret ⟨.inl rfl, 5, by decide, rfl, rfl⟩)
instance : FN Try.prog 17 := ⟨⟨_, Try.func17, by decide, by simp [Try.f17]⟩⟩
set_option maxRecDepth 100000 in
set_option maxHeartbeats 4000000 in
theorem isochroneref01_Sub.v (k : Nat) (l0 : List Int) (l1 : List Int) (r : List Int) (h : P.isochroneref01_Sub.f k l0 l1 = some r) : Fn Try.prog 17 [.ints .i64 l0, .ints .i64 l1] (.ints .i64 r) := by
  refine fn_of_sim Try.func17 rfl (Nat.le_of_ble_eq_true rfl) ?_
  intro X hX
  unfold P.isochroneref01_Sub.f at h
  refine sim_seq (sim_region ?_)
  refine o1 ?_
  refine sim_ops_nil (sim_seq (sim_region ?_))
  refine o1 ?_
  obtain ⟨t1, ht2, h⟩ := Option.bind_eq_some_iff.1 h
  refine opCO (isochroneref01_Nat_int.o _ _ ht2) ?_
  refine o1 ?_
  refine sim_ops_nil (sim_seq (sim_region ?_))
  refine o1 ?_
  refine sim_ops_nil (sim_seq (sim_seq (sim_region ?_)))
  iterate 3 refine o1 ?_
  refine sim_ops_nil (sim_block (sim_loop ?_))
  refine simL_ind (D := List Int × List Int × Int × Int × Int × Unit) (fun d => ⟨look [(1, .ints .i64 d.1), (5, .own 10), (6, .int .i64 d.2.2.1), (12, .int .i64 d.2.2.2.1), (13, .int .i64 d.2.2.2.2.1)], look [(10, rowI 3 .i64 d.2.1)]⟩) (fun K_ d => P.isochroneref01_Sub.l0 K_ d.1 d.2.1 d.2.2.1 d.2.2.2.1 d.2.2.2.2.1 = some r) ?_ _ (_, _, _, _, _, ()) h (rel_look _ _ ⟨rfl, rfl, rfl, rfl, rfl, trivial⟩ ⟨rfl, trivial⟩ rfl)
  intro K3 ih4 d h
  obtain ⟨x1, x5, x6, x12, x13, _⟩ := d
  dsimp only at h ⊢
  cases K3 with
  | zero => exact absurd h (by simp [P.isochroneref01_Sub.l0])
  | succ m5 =>
    simp only [P.isochroneref01_Sub.l0] at h
    refine simL_step (sim_seq (sim_region ?_))
    refine o1 ?_
    refine sim_ops_nil (sim_seq ?_)
    refine sim_cond rfl (fun hb => ?_) (fun hb => ?_)
    · skip
      obtain ⟨c6, h⟩ := tkT h hb
      have g7 := hb
      clear hb
      obtain ⟨q8, h⟩ := ite_none h
      obtain ⟨q9, h⟩ := ite_none h
      refine sim_skip (sim_seq (sim_block (sim_seq (sim_region ?_))))
      iterate 2 refine o1 ?_
      refine sim_ops_nil (sim_seq (sim_region ?_))
      iterate 7 refine o1 ?_
      refine sim_ops_nil (sim_seq (sim_seq (sim_region ?_)))
      iterate 4 refine o1 ?_
      refine sim_ops_nil ?_
      refine sim_cond rfl (fun hb => ?_) (fun hb => ?_)
      · skip
        obtain ⟨c10, h⟩ := tkT h hb
        have g11 := hb
        clear hb
        refine sim_region ?_
        iterate 7 refine o1 ?_
        refine sim_ops_nil (sim_seq (sim_region ?_))
        refine o1 ?_
        refine sim_ops_nil (sim_seq (sim_seq (sim_region ?_)))
        iterate 2 refine o1 ?_
        refine sim_ops_nil ?_
        refine sim_cond rfl (fun hb => ?_) (fun hb => ?_)
        · skip
          obtain ⟨c12, h⟩ := tkT h hb
          have g13 := hb
          clear hb
          refine sim_seq (sim_region ?_)
          iterate 3 refine o1 ?_
          refine sim_ops_nil (sim_region ?_)
          refine o1 ?_
          refine sim_ops_nil (sim_region ?_)
          iterate 5 refine o1 ?_
          refine sim_ops_nil (sim_region ?_)
          iterate 2 refine o1 ?_
          refine sim_ops_nil ?_
          exact simL_again (ih4 m5 (by omega) (_, _, _, _, _, ()) h) ⟨rfl, rfl, rfl, rfl, rfl, trivial⟩ ⟨rfl, trivial⟩ rfl
        · skip
          obtain ⟨c14, h⟩ := tkF h hb
          have g15 := hb
          clear hb
          refine sim_skip (sim_region ?_)
          iterate 5 refine o1 ?_
          refine sim_ops_nil (sim_region ?_)
          iterate 2 refine o1 ?_
          refine sim_ops_nil ?_
          exact simL_again (ih4 m5 (by omega) (_, _, _, _, _, ()) h) ⟨rfl, rfl, rfl, rfl, rfl, trivial⟩ ⟨rfl, trivial⟩ rfl
      · skip
        obtain ⟨c16, h⟩ := tkF h hb
        have g17 := hb
        clear hb
        refine sim_skip (sim_seq (sim_region ?_))
        refine o1 ?_
        refine sim_ops_nil (sim_seq (sim_seq (sim_region ?_)))
        iterate 2 refine o1 ?_
        refine sim_ops_nil ?_
        refine sim_cond rfl (fun hb => ?_) (fun hb => ?_)
        · skip
          obtain ⟨c18, h⟩ := tkT h hb
          have g19 := hb
          clear hb
          refine sim_seq (sim_region ?_)
          iterate 3 refine o1 ?_
          refine sim_ops_nil (sim_region ?_)
          refine o1 ?_
          refine sim_ops_nil (sim_region ?_)
          iterate 5 refine o1 ?_
          refine sim_ops_nil (sim_region ?_)
          iterate 2 refine o1 ?_
          refine sim_ops_nil ?_
          exact simL_again (ih4 m5 (by omega) (_, _, _, _, _, ()) h) ⟨rfl, rfl, rfl, rfl, rfl, trivial⟩ ⟨rfl, trivial⟩ rfl
        · skip
          obtain ⟨c20, h⟩ := tkF h hb
          have g21 := hb
          clear hb
          refine sim_skip (sim_region ?_)
          iterate 5 refine o1 ?_
          refine sim_ops_nil (sim_region ?_)
          iterate 2 refine o1 ?_
          refine sim_ops_nil ?_
          exact simL_again (ih4 m5 (by omega) (_, _, _, _, _, ()) h) ⟨rfl, rfl, rfl, rfl, rfl, trivial⟩ ⟨rfl, trivial⟩ rfl
    · skip
      obtain ⟨c22, h⟩ := tkF h hb
      have g23 := hb
      clear hb
      refine sim_exit (sim_seq ?_)
      refine sim_weak (rel_freeze (k := 10) rfl) ?_
      refine sim_region ?_
      refine o1 ?_
      obtain ⟨t24, ht25, h⟩ := Option.bind_eq_some_iff.1 h
      refine opC (isochroneref01_trim.v _ _ _ ht25) ?_
      refine o1 ?_
      refine sim_ops_nil ?_
      obtain rfl := Option.some.inj h
      exact sim_ret ⟨.inl rfl, .one (.tmp rt) rfl⟩
instance : FN Try.prog 111 := ⟨⟨_, Try.func111, by decide, by simp [Try.f111]⟩⟩
set_option maxRecDepth 100000 in
set_option maxHeartbeats 4000000 in
theorem isochroneref01_Split.v (k : Nat) (l0 : List Int) (a1 : Int) (r : List Int × Int) (h : P.isochroneref01_Split.f k l0 a1 = some r) : Fn Try.prog 111 [.ints .i64 l0, .int .i64 a1] (.tup [.ints .i64 r.1, .int .i64 r.2]) := by
  refine fn_of_sim Try.func111 rfl (Nat.le_of_ble_eq_true rfl) ?_
  intro X hX
  unfold P.isochroneref01_Split.f at h
  obtain ⟨q1, h⟩ := ite_none h
  obtain ⟨q2, h⟩ := ite_none h
  refine sim_seq (sim_region ?_)
  iterate 2 refine o1 ?_
  refine sim_ops_nil (sim_seq (sim_region ?_))
  iterate 4 refine o1 ?_
  refine sim_ops_nil (sim_seq (sim_region ?_))
  refine o1 ?_
  refine sim_ops_nil (sim_seq (sim_seq (sim_region ?_)))
  iterate 4 refine o1 ?_
  refine sim_ops_nil (sim_block (sim_loop ?_))
  refine simL_ind (D := List Int × Int × List Int × Int × Int × Unit) (fun d => ⟨look [(0, .ints .i64 d.1), (1, .int .i64 d.2.1), (6, .own 11), (7, .int .i64 d.2.2.2.1), (8, .int .i64 d.2.2.2.2.1)], look [(11, rowI 3 .i64 d.2.2.1)]⟩) (fun K_ d => P.isochroneref01_Split.l0 K_ d.1 d.2.1 d.2.2.1 d.2.2.2.1 d.2.2.2.2.1 = some r) ?_ _ (_, _, _, _, _, ()) h (rel_look _ _ ⟨rfl, rfl, rfl, rfl, rfl, trivial⟩ ⟨rfl, trivial⟩ rfl)
  intro K3 ih4 d h
  obtain ⟨x0, x1, x6, x7, x8, _⟩ := d
  dsimp only at h ⊢
  cases K3 with
  | zero => exact absurd h (by simp [P.isochroneref01_Split.l0])
  | succ m5 =>
    simp only [P.isochroneref01_Split.l0] at h
    refine simL_step (sim_seq (sim_seq (sim_region ?_)))
    iterate 2 refine o1 ?_
    refine sim_ops_nil ?_
    refine sim_cond rfl (fun hb => ?_) (fun hb => ?_)
    · skip
      obtain ⟨c6, h⟩ := tkT h hb
      have g7 := hb
      clear hb
      obtain ⟨q8, h⟩ := ite_none h
      obtain ⟨q9, h⟩ := ite_none h
      obtain ⟨q10, h⟩ := ite_none2 h
      obtain ⟨q11, h⟩ := ite_none h
      refine sim_skip (sim_seq (sim_block (sim_seq (sim_region ?_))))
      iterate 8 refine o1 ?_
      refine sim_ops_nil (sim_seq (sim_region ?_))
      iterate 7 refine o1 ?_
      refine sim_ops_nil (sim_region ?_)
      iterate 4 refine o1 ?_
      refine sim_ops_nil (sim_region ?_)
      iterate 3 refine o1 ?_
      refine sim_ops_nil ?_
      exact simL_again (ih4 m5 (by omega) (_, _, _, _, _, ()) h) ⟨rfl, rfl, rfl, rfl, rfl, trivial⟩ ⟨rfl, trivial⟩ rfl
    · skip
      obtain ⟨c12, h⟩ := tkF h hb
      have g13 := hb
      clear hb
      refine sim_exit (sim_seq ?_)
      refine sim_weak (rel_freeze (k := 11) rfl) ?_
      refine sim_region ?_
      refine o1 ?_
      obtain ⟨t14, ht15, h⟩ := Option.bind_eq_some_iff.1 h
      refine opC (isochroneref01_trim.v _ _ _ ht15) ?_
      iterate 3 refine o1 ?_
      refine sim_ops_nil ?_
      obtain rfl := Option.some.inj h
      exact sim_ret ⟨.inl rfl, .two (.tmp rt) (.tmp rt) rfl rfl⟩
instance : FN Try.prog 90 := ⟨⟨_, Try.func90, by decide, by simp [Try.f90]⟩⟩
set_option maxRecDepth 100000 in
set_option maxHeartbeats 4000000 in
theorem isochroneref01_Words.v (k : Nat) (l0 : List Int) (r : List Int) (h : P.isochroneref01_Words.f k l0 = some r) : Fn Try.prog 90 [.ints .i64 l0] (.ints .u32 r) := by
  refine fn_of_sim Try.func90 rfl (Nat.le_of_ble_eq_true rfl) ?_
  intro X hX
  unfold P.isochroneref01_Words.f at h
  refine sim_seq (sim_region ?_)
  refine o1 ?_
  refine sim_ops_nil (sim_seq (sim_region ?_))
  refine sim_ops_cons rfl (x_none 3 .i64 (.inr rfl) rfl rfl (ib hX (by decide))) ?_
  refine sim_ops_nil (sim_seq (sim_block (sim_loop ?_)))
  refine simL_ind (D := List Int × List Int × Unit) (fun d => ⟨look [(0, .ints .i64 d.1), (3, .own 3)], look [(3, rowI 3 .i64 d.2.1)]⟩) (fun K_ d => P.isochroneref01_Words.l0 K_ d.1 d.2.1 = some r) ?_ _ (_, _, ()) h (rel_look _ _ ⟨rfl, rfl, trivial⟩ ⟨rfl, trivial⟩ rfl)
  intro K1 ih2 d h
  obtain ⟨x0, x3, _⟩ := d
  dsimp only at h ⊢
  cases K1 with
  | zero => exact absurd h (by simp [P.isochroneref01_Words.l0])
  | succ m3 =>
    simp only [P.isochroneref01_Words.l0] at h
    refine simL_step (sim_seq (sim_seq (sim_region ?_)))
    iterate 3 refine o1 ?_
    refine sim_ops_nil ?_
    refine sim_cond rfl (fun hb => ?_) (fun hb => ?_)
    · skip
      obtain ⟨c4, h⟩ := tkT h hb
      have g5 := hb
      clear hb
      refine sim_skip (sim_block (sim_seq (sim_region ?_)))
      refine o1 ?_
      obtain ⟨t6, ht7, h⟩ := Option.bind_eq_some_iff.1 h
      refine opC (isochroneref01_Split.v _ _ _ _ ht7) ?_
      obtain ⟨q8, h⟩ := ite_none h
      iterate 5 refine o1 ?_
      refine sim_ops_nil (sim_seq (sim_region ?_))
      iterate 5 refine o1 ?_
      refine sim_ops_nil (sim_region ?_)
      iterate 2 refine o1 ?_
      refine sim_ops_nil ?_
      exact simL_again (ih2 m3 (by omega) (_, _, ()) h) ⟨rfl, rfl, trivial⟩ ⟨rfl, trivial⟩ rfl
    · skip
      obtain ⟨c9, h⟩ := tkF h hb
      have g10 := hb
      clear hb
      refine sim_exit (sim_seq (sim_region ?_))
      refine sim_ops_cons rfl (x_none 71 .u32 (.inr rfl) rfl rfl (ib hX (by decide))) ?_
      refine sim_ops_nil (sim_seq (sim_seq (sim_region ?_)))
      refine o1 ?_
      refine sim_ops_nil (sim_block (sim_loop ?_))
      refine simL_ind (D := List Int × List Int × Int × Unit) (fun d => ⟨look [(3, .own 3), (6, .own 6), (7, .int .i64 d.2.2.1)], look [(3, rowI 3 .i64 d.1), (6, rowI 71 .u32 d.2.1)]⟩) (fun K_ d => P.isochroneref01_Words.l1 K_ d.1 d.2.1 d.2.2.1 = some r ∧ K_ ≤ m3) ?_ _ (_, _, _, ()) ⟨h, by omega⟩ (rel_look _ _ ⟨rfl, rfl, rfl, trivial⟩ ⟨rfl, rfl, trivial⟩ rfl)
      intro K11 ih12 d h
      obtain ⟨h, b14⟩ := h
      obtain ⟨x3, x6, x7, _⟩ := d
      dsimp only at h b14 ⊢
      cases K11 with
      | zero => exact absurd h (by simp [P.isochroneref01_Words.l1])
      | succ m13 =>
        simp only [P.isochroneref01_Words.l1] at h
        refine simL_step (sim_seq (sim_seq (sim_region ?_)))
        iterate 4 refine o1 ?_
        refine sim_ops_nil ?_
        refine sim_cond rfl (fun hb => ?_) (fun hb => ?_)
        · skip
          obtain ⟨c15, h⟩ := tkT h hb
          have g16 := hb
          clear hb
          obtain ⟨q17, h⟩ := ite_none h
          refine sim_skip (sim_seq (sim_block (sim_seq (sim_region ?_))))
          iterate 6 refine o1 ?_
          refine sim_ops_nil (sim_seq (sim_seq (sim_region ?_)))
          iterate 5 refine o1 ?_
          refine sim_ops_nil ?_
          refine sim_cond rfl (fun hb => ?_) (fun hb => ?_)
          · skip
            obtain ⟨c18, h⟩ := tkT h hb
            have g19 := hb
            clear hb
            obtain ⟨q20, h⟩ := ite_none h
            obtain ⟨q21, h⟩ := ite_none h
            refine sim_region ?_
            iterate 10 refine o1 ?_
            refine sim_ops_nil (sim_region ?_)
            iterate 5 refine o1 ?_
            refine sim_ops_nil (sim_region ?_)
            iterate 3 refine o1 ?_
            refine sim_ops_nil ?_
            exact simL_again (ih12 m13 (by omega) (_, _, _, ()) ⟨h, by omega⟩) ⟨rfl, rfl, rfl, trivial⟩ ⟨rfl, rfl, trivial⟩ rfl
          · skip
            obtain ⟨c22, h⟩ := tkF h hb
            have g23 := hb
            clear hb
            obtain ⟨q24, h⟩ := ite_none h
            refine sim_skip (sim_region ?_)
            iterate 5 refine o1 ?_
            refine sim_ops_nil (sim_region ?_)
            iterate 3 refine o1 ?_
            refine sim_ops_nil ?_
            exact simL_again (ih12 m13 (by omega) (_, _, _, ()) ⟨h, by omega⟩) ⟨rfl, rfl, rfl, trivial⟩ ⟨rfl, rfl, trivial⟩ rfl
        · skip
          obtain ⟨c25, h⟩ := tkF h hb
          have g26 := hb
          clear hb
          refine sim_exit (sim_seq (sim_region ?_))
          iterate 2 refine o1 ?_
          refine sim_ops_nil ?_
          refine sim_weak (rel_freeze (k := 6) rfl) ?_
          obtain rfl := Option.some.inj h
          exact sim_ret ⟨.inl rfl, .one (.tmp rt) rfl⟩
instance : FN Try.prog 104 := ⟨⟨_, Try.func104, by decide, by simp [Try.f104]⟩⟩
set_option maxRecDepth 100000 in
set_option maxHeartbeats 4000000 in
theorem slices_Equal_uint32_uint32.v (k : Nat) (l0 : List Int) (l1 : List Int) (r : Bool) (h : P.slices_Equal_uint32_uint32.f k l0 l1 = some r) : Fn Try.prog 104 [.ints .u32 l0, .ints .u32 l1] (.bool r) := by
  refine fn_of_sim Try.func104 rfl (Nat.le_of_ble_eq_true rfl) ?_
  intro X hX
  unfold P.slices_Equal_uint32_uint32.f at h
  refine sim_seq (sim_region ?_)
  refine o1 ?_
  refine sim_ops_nil (sim_seq (sim_seq (sim_region ?_)))
  iterate 5 refine o1 ?_
  refine sim_ops_nil ?_
  refine sim_cond rfl (fun hb => ?_) (fun hb => ?_)
  · skip
    obtain ⟨c1, h⟩ := tkF h hb
    have g2 := hb
    clear hb
    refine sim_seq (sim_region ?_)
    refine o1 ?_
    refine sim_ops_nil ?_
    obtain rfl := Option.some.inj h
    exact sim_ret ⟨.inl rfl, .one (.tmp rt) rfl⟩
  · skip
    obtain ⟨c3, h⟩ := tkT h hb
    have g4 := hb
    clear hb
    refine sim_skip (sim_seq (sim_seq (sim_region ?_)))
    iterate 3 refine o1 ?_
    refine sim_ops_nil (sim_block (sim_loop ?_))
    refine simL_ind (D := List Int × List Int × Int × Int × Unit) (fun d => ⟨look [(0, .ints .u32 d.1), (1, .ints .u32 d.2.1), (12, .int .i64 d.2.2.1), (13, .int .i64 d.2.2.2.1)], look []⟩) (fun K_ d => P.slices_Equal_uint32_uint32.l0 K_ d.1 d.2.1 d.2.2.1 d.2.2.2.1 = some r) ?_ _ (_, _, _, _, ()) h (rel_look _ _ ⟨rfl, rfl, rfl, rfl, trivial⟩ trivial rfl)
    intro K5 ih6 d h
    obtain ⟨x0, x1, x12, x13, _⟩ := d
    dsimp only at h ⊢
    cases K5 with
    | zero => exact absurd h (by simp [P.slices_Equal_uint32_uint32.l0])
    | succ m7 =>
      simp only [P.slices_Equal_uint32_uint32.l0] at h
      refine simL_step (sim_seq (sim_region ?_))
      refine o1 ?_
      refine sim_ops_nil (sim_seq ?_)
      refine sim_cond rfl (fun hb => ?_) (fun hb => ?_)
      · skip
        obtain ⟨c8, h⟩ := tkT h hb
        have g9 := hb
        clear hb
        obtain ⟨q10, h⟩ := ite_none h
        obtain ⟨q11, h⟩ := ite_none h
        obtain ⟨q12, h⟩ := ite_none h
        refine sim_skip (sim_seq (sim_block (sim_seq (sim_region ?_))))
        iterate 2 refine o1 ?_
        refine sim_ops_nil (sim_seq (sim_still ?_))
        iterate 9 refine s1 ?_
        refine st_nil ?_
        refine sim_cond rfl (fun hb => ?_) (fun hb => ?_)
        · skip
          obtain ⟨c13, h⟩ := tkF h hb
          have g14 := hb
          clear hb
          refine sim_seq (sim_region ?_)
          refine o1 ?_
          refine sim_ops_nil ?_
          obtain rfl := Option.some.inj h
          exact sim_ret ⟨.inl rfl, .one (.tmp rt) rfl⟩
        · skip
          obtain ⟨c15, h⟩ := tkT h hb
          have g16 := hb
          clear hb
          refine sim_skip (sim_region ?_)
          iterate 2 refine o1 ?_
          refine sim_ops_nil ?_
          exact simL_again (ih6 m7 (by omega) (_, _, _, _, ()) h) ⟨rfl, rfl, rfl, rfl, trivial⟩ trivial rfl
      · skip
        obtain ⟨c17, h⟩ := tkF h hb
        have g18 := hb
        clear hb
        refine sim_exit (sim_seq (sim_region ?_))
        refine o1 ?_
        refine sim_ops_nil ?_
        obtain rfl := Option.some.inj h
        exact sim_ret ⟨.inl rfl, .one (.tmp rt) rfl⟩
instance : FN Try.prog 85 := ⟨⟨_, Try.func85, by decide, by simp [Try.f85]⟩⟩
set_option maxRecDepth 100000 in
set_option maxHeartbeats 4000000 in
theorem isochroneref01_Cmp.v (k : Nat) (l0 : List Int) (l1 : List Int) (r : Int) (h : P.isochroneref01_Cmp.f k l0 l1 = some r) : Fn Try.prog 85 [.ints .i64 l0, .ints .i64 l1] (.int .i64 r) := by
  refine fn_of_sim Try.func85 rfl (Nat.le_of_ble_eq_true rfl) ?_
  intro X hX
  unfold P.isochroneref01_Cmp.f at h
  refine sim_seq (sim_region ?_)
  refine o1 ?_
  refine sim_ops_nil (sim_seq (sim_seq (sim_region ?_)))
  iterate 5 refine o1 ?_
  refine sim_ops_nil ?_
  refine sim_cond rfl (fun hb => ?_) (fun hb => ?_)
  · skip
    obtain ⟨c1, h⟩ := tkF h hb
    have g2 := hb
    clear hb
    refine sim_seq (sim_seq (sim_region ?_))
    iterate 5 refine o1 ?_
    refine sim_ops_nil ?_
    refine sim_cond rfl (fun hb => ?_) (fun hb => ?_)
    · skip
      obtain ⟨c3, h⟩ := tkT h hb
      have g4 := hb
      clear hb
      refine sim_seq (sim_region ?_)
      refine o1 ?_
      refine sim_ops_nil ?_
      obtain rfl := Option.some.inj h
      exact sim_ret ⟨.inl rfl, .one (.tmp rt) rfl⟩
    · skip
      obtain ⟨c5, h⟩ := tkF h hb
      have g6 := hb
      clear hb
      refine sim_skip (sim_seq (sim_region ?_))
      refine o1 ?_
      refine sim_ops_nil ?_
      obtain rfl := Option.some.inj h
      exact sim_ret ⟨.inl rfl, .one (.tmp rt) rfl⟩
  · skip
    obtain ⟨c7, h⟩ := tkT h hb
    have g8 := hb
    clear hb
    refine sim_skip (sim_seq (sim_seq (sim_region ?_)))
    iterate 4 refine o1 ?_
    refine sim_ops_nil (sim_block (sim_loop ?_))
    refine simL_ind (D := List Int × List Int × Int × Unit) (fun d => ⟨look [(0, .ints .i64 d.1), (1, .ints .i64 d.2.1), (5, .int .i64 d.2.2.1)], look []⟩) (fun K_ d => P.isochroneref01_Cmp.l0 K_ d.1 d.2.1 d.2.2.1 = some r) ?_ _ (_, _, _, ()) h (rel_look _ _ ⟨rfl, rfl, rfl, trivial⟩ trivial rfl)
    intro K9 ih10 d h
    obtain ⟨x0, x1, x5, _⟩ := d
    dsimp only at h ⊢
    cases K9 with
    | zero => exact absurd h (by simp [P.isochroneref01_Cmp.l0])
    | succ m11 =>
      simp only [P.isochroneref01_Cmp.l0] at h
      refine simL_step (sim_seq (sim_seq (sim_region ?_)))
      iterate 2 refine o1 ?_
      refine sim_ops_nil ?_
      refine sim_cond rfl (fun hb => ?_) (fun hb => ?_)
      · skip
        obtain ⟨c12, h⟩ := tkT h hb
        have g13 := hb
        clear hb
        obtain ⟨q14, h⟩ := ite_none h
        obtain ⟨q15, h⟩ := ite_none h
        obtain ⟨q16, h⟩ := ite_none h
        refine sim_skip (sim_seq (sim_block (sim_seq (sim_still ?_))))
        iterate 9 refine s1 ?_
        refine st_nil ?_
        refine sim_cond rfl (fun hb => ?_) (fun hb => ?_)
        · skip
          obtain ⟨c17, h⟩ := tkF h hb
          have g18 := hb
          clear hb
          refine sim_seq (sim_seq (sim_still ?_))
          iterate 9 refine s1 ?_
          refine st_nil ?_
          refine sim_cond rfl (fun hb => ?_) (fun hb => ?_)
          · skip
            obtain ⟨c19, h⟩ := tkT h hb
            have g20 := hb
            clear hb
            refine sim_seq (sim_region ?_)
            refine o1 ?_
            refine sim_ops_nil ?_
            obtain rfl := Option.some.inj h
            exact sim_ret ⟨.inl rfl, .one (.tmp rt) rfl⟩
          · skip
            obtain ⟨c21, h⟩ := tkF h hb
            have g22 := hb
            clear hb
            refine sim_skip (sim_seq (sim_region ?_))
            refine o1 ?_
            refine sim_ops_nil ?_
            obtain rfl := Option.some.inj h
            exact sim_ret ⟨.inl rfl, .one (.tmp rt) rfl⟩
        · skip
          obtain ⟨c23, h⟩ := tkT h hb
          have g24 := hb
          clear hb
          refine sim_skip (sim_region ?_)
          iterate 3 refine o1 ?_
          refine sim_ops_nil ?_
          exact simL_again (ih10 m11 (by omega) (_, _, _, ()) h) ⟨rfl, rfl, rfl, trivial⟩ trivial rfl
      · skip
        obtain ⟨c25, h⟩ := tkF h hb
        have g26 := hb
        clear hb
        refine sim_exit (sim_seq (sim_region ?_))
        refine o1 ?_
        refine sim_ops_nil ?_
        obtain rfl := Option.some.inj h
        exact sim_ret ⟨.inl rfl, .one (.tmp rt) rfl⟩
instance : FN Try.prog 110 := ⟨⟨_, Try.func110, by decide, by simp [Try.f110]⟩⟩
set_option maxRecDepth 100000 in
set_option maxHeartbeats 4000000 in
theorem isochroneref01_little.v (k : Nat) (l0 : List Int) (r : Int × Bool) (h : P.isochroneref01_little.f k l0 = some r) : Fn Try.prog 110 [.ints .i64 l0] (.tup [.int .i64 r.1, .bool r.2]) := by
  refine fn_of_sim Try.func110 rfl (Nat.le_of_ble_eq_true rfl) ?_
  intro X hX
  unfold P.isochroneref01_little.f at h
  refine sim_seq (sim_region ?_)
  iterate 2 refine o1 ?_
  refine sim_ops_nil (sim_seq (sim_seq (sim_region ?_)))
  iterate 3 refine o1 ?_
  refine sim_ops_nil ?_
  refine sim_cond rfl (fun hb => ?_) (fun hb => ?_)
  · skip
    obtain ⟨c1, h⟩ := tkT h hb
    have g2 := hb
    clear hb
    refine sim_seq (sim_region ?_)
    iterate 2 refine o1 ?_
    refine sim_ops_nil ?_
    obtain rfl := Option.some.inj h
    exact sim_ret ⟨.inl rfl, .two (.tmp rt) (.tmp rt) rfl rfl⟩
  · skip
    obtain ⟨c3, h⟩ := tkF h hb
    have g4 := hb
    clear hb
    refine sim_skip (sim_seq (sim_region ?_))
    refine o1 ?_
    refine sim_ops_nil (sim_seq (sim_seq (sim_region ?_)))
    iterate 4 refine o1 ?_
    refine sim_ops_nil (sim_block (sim_loop ?_))
    refine simL_ind (D := List Int × Int × Int × Unit) (fun d => ⟨look [(0, .ints .i64 d.1), (4, .int .i64 d.2.1), (5, .int .i64 d.2.2.1)], look []⟩) (fun K_ d => P.isochroneref01_little.l0 K_ d.1 d.2.1 d.2.2.1 = some r) ?_ _ (_, _, _, ()) h (rel_look _ _ ⟨rfl, rfl, rfl, trivial⟩ trivial rfl)
    intro K5 ih6 d h
    obtain ⟨x0, x4, x5, _⟩ := d
    dsimp only at h ⊢
    cases K5 with
    | zero => exact absurd h (by simp [P.isochroneref01_little.l0])
    | succ m7 =>
      simp only [P.isochroneref01_little.l0] at h
      refine simL_step (sim_seq (sim_seq (sim_region ?_)))
      iterate 2 refine o1 ?_
      refine sim_ops_nil ?_
      refine sim_cond rfl (fun hb => ?_) (fun hb => ?_)
      · skip
        obtain ⟨c8, h⟩ := tkT h hb
        have g9 := hb
        clear hb
        obtain ⟨q10, h⟩ := ite_none h
        obtain ⟨q11, h⟩ := ite_none h
        refine sim_skip (sim_seq (sim_block (sim_region ?_)))
        iterate 8 refine o1 ?_
        refine sim_ops_nil (sim_region ?_)
        iterate 3 refine o1 ?_
        refine sim_ops_nil ?_
        exact simL_again (ih6 m7 (by omega) (_, _, _, ()) h) ⟨rfl, rfl, rfl, trivial⟩ trivial rfl
      · skip
        obtain ⟨c12, h⟩ := tkF h hb
        have g13 := hb
        clear hb
        refine sim_exit (sim_seq (sim_region ?_))
        iterate 3 refine o1 ?_
        refine sim_ops_nil ?_
        obtain rfl := Option.some.inj h
        exact sim_ret ⟨.inl rfl, .two (.tmp rt) (.tmp rt) rfl rfl⟩
instance : FN Try.prog 112 := ⟨⟨_, Try.func112, by decide, by simp [Try.f112]⟩⟩
set_option maxRecDepth 100000 in
set_option maxHeartbeats 4000000 in
theorem isochroneref01_digit.v (k : Nat) (l0 : List Int) (l1 : List Int) (r : Int) (h : P.isochroneref01_digit.f k l0 l1 = some r) : Fn Try.prog 112 [.ints .i64 l0, .ints .i64 l1] (.int .i64 r) := by
  refine fn_of_sim Try.func112 rfl (Nat.le_of_ble_eq_true rfl) ?_
  intro X hX
  unfold P.isochroneref01_digit.f at h
  refine sim_seq (sim_region ?_)
  refine o1 ?_
  refine sim_ops_nil (sim_seq (sim_region ?_))
  iterate 3 refine o1 ?_
  refine sim_ops_nil (sim_seq (sim_region ?_))
  iterate 2 refine o1 ?_
  refine sim_ops_nil (sim_seq (sim_seq (sim_region ?_)))
  iterate 2 refine o1 ?_
  refine sim_ops_nil (sim_block (sim_loop ?_))
  refine simL_ind (D := List Int × List Int × Int × Int × Int × Int × Unit) (fun d => ⟨look [(0, .ints .i64 d.1), (1, .ints .i64 d.2.1), (5, .int .i64 d.2.2.1), (6, .int .i64 d.2.2.2.1), (7, .int .i64 d.2.2.2.2.1), (8, .int .i64 d.2.2.2.2.2.1)], look []⟩) (fun K_ d => P.isochroneref01_digit.l0 K_ d.1 d.2.1 d.2.2.1 d.2.2.2.1 d.2.2.2.2.1 d.2.2.2.2.2.1 = some r) ?_ _ (_, _, _, _, _, _, ()) h (rel_look _ _ ⟨rfl, rfl, rfl, rfl, rfl, rfl, trivial⟩ trivial rfl)
  intro K1 ih2 d h
  obtain ⟨x0, x1, x5, x6, x7, x8, _⟩ := d
  dsimp only at h ⊢
  cases K1 with
  | zero => exact absurd h (by simp [P.isochroneref01_digit.l0])
  | succ m3 =>
    simp only [P.isochroneref01_digit.l0] at h
    refine simL_step (sim_seq (sim_seq (sim_region ?_)))
    iterate 5 refine o1 ?_
    refine sim_ops_nil ?_
    refine sim_cond rfl (fun hb => ?_) (fun hb => ?_)
    · skip
      obtain ⟨c4, h⟩ := tkT h hb
      have g5 := hb
      clear hb
      refine sim_skip (sim_seq (sim_block (sim_seq (sim_region ?_))))
      iterate 3 refine o1 ?_
      refine sim_ops_nil (sim_seq (sim_region ?_))
      iterate 4 refine o1 ?_
      refine sim_ops_nil ?_
      refine sim_cond rfl (fun hb => ?_) (fun hb => ?_)
      · skip
        obtain ⟨c6, h⟩ := tkT h hb
        have g7 := hb
        clear hb
        obtain ⟨q8, h⟩ := ite_none h
        refine sim_region ?_
        iterate 7 refine o1 ?_
        refine sim_ops_nil (sim_region ?_)
        iterate 3 refine o1 ?_
        refine sim_ops_nil ?_
        exact simL_again (ih2 m3 (by omega) (_, _, _, _, _, _, ()) h) ⟨rfl, rfl, rfl, rfl, rfl, rfl, trivial⟩ trivial rfl
      · skip
        obtain ⟨c9, h⟩ := tkF h hb
        have g10 := hb
        clear hb
        refine sim_skip (sim_region ?_)
        iterate 3 refine o1 ?_
        refine sim_ops_nil ?_
        exact simL_again (ih2 m3 (by omega) (_, _, _, _, _, _, ()) h) ⟨rfl, rfl, rfl, rfl, rfl, rfl, trivial⟩ trivial rfl
    · skip
      obtain ⟨c11, h⟩ := tkF h hb
      have g12 := hb
      clear hb
      refine sim_exit (sim_seq (sim_seq (sim_region ?_)))
      iterate 3 refine o1 ?_
      refine sim_ops_nil (sim_block (sim_loop ?_))
      refine simL_ind (D := List Int × List Int × Int × Int × Int × Int × Unit) (fun d => ⟨look [(0, .ints .i64 d.1), (1, .ints .i64 d.2.1), (5, .int .i64 d.2.2.1), (6, .int .i64 d.2.2.2.1), (7, .int .i64 d.2.2.2.2.1), (9, .int .i64 d.2.2.2.2.2.1)], look []⟩) (fun K_ d => P.isochroneref01_digit.l1 K_ d.1 d.2.1 d.2.2.1 d.2.2.2.1 d.2.2.2.2.1 d.2.2.2.2.2.1 = some r ∧ K_ ≤ m3) ?_ _ (_, _, _, _, _, _, ()) ⟨h, by omega⟩ (rel_look _ _ ⟨rfl, rfl, rfl, rfl, rfl, rfl, trivial⟩ trivial rfl)
      intro K13 ih14 d h
      obtain ⟨h, b16⟩ := h
      obtain ⟨x0, x1, x5, x6, x7, x9, _⟩ := d
      dsimp only at h b16 ⊢
      cases K13 with
      | zero => exact absurd h (by simp [P.isochroneref01_digit.l1])
      | succ m15 =>
        simp only [P.isochroneref01_digit.l1] at h
        refine simL_step (sim_seq (sim_seq (sim_region ?_)))
        iterate 5 refine o1 ?_
        refine sim_ops_nil ?_
        refine sim_cond rfl (fun hb => ?_) (fun hb => ?_)
        · skip
          obtain ⟨c17, h⟩ := tkT h hb
          have g18 := hb
          clear hb
          obtain ⟨q19, h⟩ := ite_none h
          obtain ⟨q20, h⟩ := ite_none h
          refine sim_skip (sim_seq (sim_block (sim_region ?_)))
          iterate 8 refine o1 ?_
          refine sim_ops_nil (sim_region ?_)
          iterate 3 refine o1 ?_
          refine sim_ops_nil ?_
          exact simL_again (ih14 m15 (by omega) (_, _, _, _, _, _, ()) ⟨h, by omega⟩) ⟨rfl, rfl, rfl, rfl, rfl, rfl, trivial⟩ trivial rfl
        · skip
          obtain ⟨c21, h⟩ := tkF h hb
          have g22 := hb
          clear hb
          refine sim_exit (sim_seq (sim_seq (sim_region ?_)))
          iterate 2 refine o1 ?_
          refine sim_ops_nil ?_
          refine sim_joinG (D := Nat × List Int × List Int × Int × Int × Unit) (fun d => ⟨look [(0, .ints .i64 d.2.1), (1, .ints .i64 d.2.2.1), (6, .int .i64 d.2.2.2.1), (7, .int .i64 d.2.2.2.2.1)], look []⟩) (fun d => P.isochroneref01_digit.j2 d.1 d.2.1 d.2.2.1 d.2.2.2.1 d.2.2.2.2.1 = some r ∧ d.1 ≤ m15) ?_ ?_
          · skip
            rintro ⟨kq23, x0, x1, x6, x7, _⟩ ⟨h, b24⟩
            dsimp only at h b24 ⊢
            cases kq23 with
            | zero => exact absurd h (by simp [P.isochroneref01_digit.j2])
            | succ m25 =>
              simp only [P.isochroneref01_digit.j2] at h
              obtain ⟨q26, h⟩ := ite_none2 h
              refine sim_seq (sim_region ?_)
              iterate 5 refine o1 ?_
              refine sim_ops_nil (sim_seq (sim_block (sim_loop ?_)))
              refine simL_ind (D := List Int × List Int × Int × Unit) (fun d => ⟨look [(0, .ints .i64 d.1), (1, .ints .i64 d.2.1), (10, .int .i64 d.2.2.1)], look []⟩) (fun K_ d => P.isochroneref01_digit.l2 K_ d.1 d.2.1 d.2.2.1 = some r ∧ K_ ≤ m25) ?_ _ (_, _, _, ()) ⟨h, by omega⟩ (rel_look _ _ ⟨rfl, rfl, rfl, trivial⟩ trivial rfl)
              intro K27 ih28 d h
              obtain ⟨h, b30⟩ := h
              obtain ⟨x0, x1, x10, _⟩ := d
              dsimp only at h b30 ⊢
              cases K27 with
              | zero => exact absurd h (by simp [P.isochroneref01_digit.l2])
              | succ m29 =>
                simp only [P.isochroneref01_digit.l2] at h
                refine simL_step (sim_seq (sim_seq (sim_region ?_)))
                iterate 2 refine o1 ?_
                obtain ⟨t31, ht32, h⟩ := Option.bind_eq_some_iff.1 h
                refine opC (isochroneref01_Small.v _ _ _ _ _ ht32) ?_
                refine o1 ?_
                obtain ⟨t33, ht34, h⟩ := Option.bind_eq_some_iff.1 h
                refine opC (isochroneref01_Cmp.v _ _ _ _ ht34) ?_
                refine o1 ?_
                refine sim_ops_nil ?_
                refine sim_cond rfl (fun hb => ?_) (fun hb => ?_)
                · skip
                  obtain ⟨c35, h⟩ := tkT h hb
                  have g36 := hb
                  clear hb
                  refine sim_skip (sim_block (sim_region ?_))
                  iterate 3 refine o1 ?_
                  refine sim_ops_nil ?_
                  exact simL_again (ih28 m29 (by omega) (_, _, _, ()) ⟨h, by omega⟩) ⟨rfl, rfl, rfl, trivial⟩ trivial rfl
                · skip
                  obtain ⟨c37, h⟩ := tkF h hb
                  have g38 := hb
                  clear hb
                  refine sim_exit (sim_seq (sim_block (sim_loop ?_)))
                  refine simL_ind (D := List Int × List Int × Int × Unit) (fun d => ⟨look [(0, .ints .i64 d.1), (1, .ints .i64 d.2.1), (10, .int .i64 d.2.2.1)], look []⟩) (fun K_ d => P.isochroneref01_digit.l3 K_ d.1 d.2.1 d.2.2.1 = some r ∧ K_ ≤ m29) ?_ _ (_, _, _, ()) ⟨h, by omega⟩ (rel_look _ _ ⟨rfl, rfl, rfl, trivial⟩ trivial rfl)
                  intro K39 ih40 d h
                  obtain ⟨h, b42⟩ := h
                  obtain ⟨x0, x1, x10, _⟩ := d
                  dsimp only at h b42 ⊢
                  cases K39 with
                  | zero => exact absurd h (by simp [P.isochroneref01_digit.l3])
                  | succ m41 =>
                    simp only [P.isochroneref01_digit.l3] at h
                    refine simL_step (sim_seq (sim_seq (sim_region ?_)))
                    iterate 4 refine o1 ?_
                    refine og rfl rfl rfl rfl (fun hb => ?_) (fun hb => ?_)
                    · skip
                      obtain ⟨c43, h⟩ := tkT h hb
                      have g44 := hb
                      clear hb
                      iterate 3 refine oT ?_
                      obtain ⟨t45, ht46, h⟩ := Option.bind_eq_some_iff.1 h
                      refine opCT (isochroneref01_Small.v _ _ _ _ _ ht46) ?_
                      refine oT ?_
                      obtain ⟨t47, ht48, h⟩ := Option.bind_eq_some_iff.1 h
                      refine opCT (isochroneref01_Cmp.v _ _ _ _ ht48) ?_
                      refine oT ?_
                      refine o1 ?_
                      refine sim_ops_nil ?_
                      refine sim_cond rfl (fun hb => ?_) (fun hb => ?_)
                      · skip
                        obtain ⟨c49, h⟩ := tkT h hb
                        have g50 := hb
                        clear hb
                        refine sim_skip (sim_block (sim_region ?_))
                        iterate 3 refine o1 ?_
                        refine sim_ops_nil ?_
                        exact simL_again (ih40 m41 (by omega) (_, _, _, ()) ⟨h, by omega⟩) ⟨rfl, rfl, rfl, trivial⟩ trivial rfl
                      · skip
                        obtain ⟨c51, h⟩ := tkF h hb
                        have g52 := hb
                        clear hb
                        refine sim_exit (sim_seq (sim_region ?_))
                        iterate 2 refine o1 ?_
                        refine sim_ops_nil ?_
                        obtain rfl := Option.some.inj h
                        exact sim_ret ⟨.inl rfl, .one (.tmp rt) rfl⟩
                    · skip
                      obtain ⟨c53, h⟩ := tkF h hb
                      have g54 := hb
                      clear hb
                      iterate 7 refine opS ?_
                      refine o1 ?_
                      refine sim_ops_nil ?_
                      refine sim_cond rfl (fun hb => ?_) (fun hb => ?_)
                      · skip
                        first | cases hb | (simp_all; done)
                      · skip
                        refine sim_exit (sim_seq (sim_region ?_))
                        iterate 2 refine o1 ?_
                        refine sim_ops_nil ?_
                        obtain rfl := Option.some.inj h
                        exact sim_ret ⟨.inl rfl, .one (.tmp rt) rfl⟩
          · skip
            refine sim_cond rfl (fun hb => ?_) (fun hb => ?_)
            · skip
              obtain ⟨c55, h⟩ := tkT h hb
              have g56 := hb
              clear hb
              obtain ⟨q57, h⟩ := ite_none h
              refine sim_region ?_
              iterate 4 refine o1 ?_
              refine sim_ops_nil ?_
              exact ⟨(m15, _, _, _, _, ()), ⟨h, by omega⟩, rel_look _ _ ⟨rfl, rfl, rfl, rfl, trivial⟩ trivial rfl⟩
            · skip
              obtain ⟨c58, h⟩ := tkF h hb
              have g59 := hb
              clear hb
              refine sim_skip ?_
              exact ⟨(m15, _, _, _, _, ()), ⟨h, by omega⟩, rel_look _ _ ⟨rfl, rfl, rfl, rfl, trivial⟩ trivial rfl⟩
instance : FN Try.prog 67 := ⟨⟨_, Try.func67, by decide, by simp [Try.f67]⟩⟩
set_option maxRecDepth 100000 in
set_option maxHeartbeats 4000000 in
theorem isochroneref01_DivMod.v (k : Nat) (l0 : List Int) (l1 : List Int) (r : List Int × List Int) (h : P.isochroneref01_DivMod.f k l0 l1 = some r) : Fn Try.prog 67 [.ints .i64 l0, .ints .i64 l1] (.tup [.ints .i64 r.1, .ints .i64 r.2]) := by
  refine fn_of_sim Try.func67 rfl (Nat.le_of_ble_eq_true rfl) ?_
  intro X hX
  unfold P.isochroneref01_DivMod.f at h
  refine sim_seq (sim_region ?_)
  iterate 2 refine o1 ?_
  refine sim_ops_nil (sim_seq (sim_seq (sim_region ?_)))
  iterate 2 refine o1 ?_
  obtain ⟨t1, ht2, h⟩ := Option.bind_eq_some_iff.1 h
  refine opC (isochroneref01_Cmp.v _ _ _ _ ht2) ?_
  refine o1 ?_
  refine sim_ops_nil ?_
  refine sim_cond rfl (fun hb => ?_) (fun hb => ?_)
  · skip
    obtain ⟨c3, h⟩ := tkT h hb
    have g4 := hb
    clear hb
    refine sim_seq (sim_region ?_)
    iterate 4 refine o1 ?_
    refine sim_ops_nil ?_
    obtain rfl := Option.some.inj h
    exact sim_ret ⟨.inl rfl, .two (.tmp rt) (.tmp rt) rfl rfl⟩
  · skip
    obtain ⟨c5, h⟩ := tkF h hb
    have g6 := hb
    clear hb
    refine sim_skip (sim_seq (sim_seq (sim_region ?_)))
    refine o1 ?_
    obtain ⟨t7, ht8, h⟩ := Option.bind_eq_some_iff.1 h
    refine opC (isochroneref01_little.v _ _ _ ht8) ?_
    iterate 5 refine o1 ?_
    refine sim_ops_nil (sim_seq (sim_region ?_))
    refine o1 ?_
    refine sim_ops_nil ?_
    refine sim_cond rfl (fun hb => ?_) (fun hb => ?_)
    · skip
      obtain ⟨c9, h⟩ := tkT h hb
      have g10 := hb
      clear hb
      refine sim_seq (sim_region ?_)
      refine o1 ?_
      obtain ⟨t11, ht12, h⟩ := Option.bind_eq_some_iff.1 h
      refine opC (isochroneref01_little.v _ _ _ ht12) ?_
      obtain ⟨q13, h⟩ := ite_none2 h
      iterate 5 refine o1 ?_
      refine sim_ops_nil (sim_seq ?_)
      refine sim_dr [⟨[6], [], [32], []⟩, ⟨[8], [], [33], []⟩, ⟨[32, 33], [], [34], []⟩, ⟨[34], [], [35], []⟩, ⟨[6], [], [36], []⟩, ⟨[8], [], [37], []⟩, ⟨[36, 37], [], [38], []⟩, ⟨[38], [], [39], []⟩, ⟨[35], [], [4], []⟩, ⟨[39], [], [5], []⟩] [[], [], [0, 1], [0, 1, 2], [], [], [4, 5], [0, 1, 2, 3, 4, 5, 6], [0, 1, 2, 3, 4, 5, 6, 7], [0, 1, 2, 3, 4, 5, 6, 7, 8]] ?_
      refine dG [(6, _)] [] [(32, _)] [] ⟨rfl, trivial⟩ trivial (fun S0 => stepOK_plain rfl rfl ow rfl) ?_
      refine dG [(8, _)] [] [(33, _)] [] ⟨rfl, trivial⟩ trivial (fun S0 => stepOK_plain rfl rfl ow rfl) ?_
      refine dG [(32, _), (33, _)] [] [(34, _)] [] ⟨rfl, rfl, trivial⟩ trivial (fun S0 => stepOK_plain rfl rfl ow rfl) ?_
      obtain ⟨t14, ht15, h⟩ := Option.bind_eq_some_iff.1 h
      refine dG [(34, _)] [] [(35, _)] [] ⟨rfl, trivial⟩ trivial (fun S0 => stepOK_plain rfl rfl (oc (isochroneref01_Int.v _ _ _ ht15)) rfl) ?_
      refine dG [(6, _)] [] [(36, _)] [] ⟨rfl, trivial⟩ trivial (fun S0 => stepOK_plain rfl rfl ow rfl) ?_
      refine dG [(8, _)] [] [(37, _)] [] ⟨rfl, trivial⟩ trivial (fun S0 => stepOK_plain rfl rfl ow rfl) ?_
      refine dG [(36, _), (37, _)] [] [(38, _)] [] ⟨rfl, rfl, trivial⟩ trivial (fun S0 => stepOK_plain rfl rfl ow rfl) ?_
      obtain ⟨t16, ht17, h⟩ := Option.bind_eq_some_iff.1 h
      refine dG [(38, _)] [] [(39, _)] [] ⟨rfl, trivial⟩ trivial (fun S0 => stepOK_plain rfl rfl (oc (isochroneref01_Int.v _ _ _ ht17)) rfl) ?_
      refine dG [(35, _)] [] [(4, _)] [] ⟨rfl, trivial⟩ trivial (fun S0 => stepOK_plain rfl rfl ow rfl) ?_
      refine dG [(39, _)] [] [(5, _)] [] ⟨rfl, trivial⟩ trivial (fun S0 => stepOK_plain rfl rfl ow rfl) ?_
      refine dn ?_
      obtain rfl := Option.some.inj h
      exact sim_ret ⟨.inl rfl, .two (.tmp rt) (.tmp rt) rfl rfl⟩
    · skip
      obtain ⟨c18, h⟩ := tkF h hb
      have g19 := hb
      clear hb
      refine sim_skip (sim_seq (sim_seq (sim_region ?_)))
      iterate 3 refine o1 ?_
      refine sim_ops_nil ?_
      refine sim_cond rfl (fun hb => ?_) (fun hb => ?_)
      · skip
        obtain ⟨c20, h⟩ := tkT h hb
        have g21 := hb
        clear hb
        obtain ⟨q22, h⟩ := ite_none h
        refine sim_seq (sim_region ?_)
        iterate 4 refine o1 ?_
        obtain ⟨t23, ht24, h⟩ := Option.bind_eq_some_iff.1 h
        refine opC (isochroneref01_Split.v _ _ _ _ ht24) ?_
        iterate 5 refine o1 ?_
        refine sim_ops_nil (sim_seq (sim_region ?_))
        iterate 2 refine o1 ?_
        obtain ⟨t25, ht26, h⟩ := Option.bind_eq_some_iff.1 h
        refine opC (isochroneref01_Int.v _ _ _ ht26) ?_
        iterate 2 refine o1 ?_
        refine sim_ops_nil ?_
        obtain rfl := Option.some.inj h
        exact sim_ret ⟨.inl rfl, .two (.tmp rt) (.tmp rt) rfl rfl⟩
      · skip
        obtain ⟨c27, h⟩ := tkF h hb
        have g28 := hb
        clear hb
        obtain ⟨q29, h⟩ := ite_none h
        obtain ⟨q30, h⟩ := ite_none h
        refine sim_skip (sim_seq (sim_region ?_))
        iterate 4 refine o1 ?_
        refine sim_ops_nil (sim_seq (sim_region ?_))
        iterate 2 refine o1 ?_
        refine sim_ops_nil (sim_seq (sim_seq (sim_region ?_)))
        iterate 4 refine o1 ?_
        refine sim_ops_nil (sim_block (sim_loop ?_))
        refine simL_ind (D := List Int × List Int × List Int × List Int × Int × Unit) (fun d => ⟨look [(0, .ints .i64 d.1), (1, .ints .i64 d.2.1), (12, .own 56), (13, .ints .i64 d.2.2.2.1), (14, .int .i64 d.2.2.2.2.1)], look [(56, rowI 3 .i64 d.2.2.1)]⟩) (fun K_ d => P.isochroneref01_DivMod.l0 K_ d.1 d.2.1 d.2.2.1 d.2.2.2.1 d.2.2.2.2.1 = some r) ?_ _ (_, _, _, _, _, ()) h (rel_look _ _ ⟨rfl, rfl, rfl, rfl, rfl, trivial⟩ ⟨rfl, trivial⟩ rfl)
        intro K31 ih32 d h
        obtain ⟨x0, x1, x12, x13, x14, _⟩ := d
        dsimp only at h ⊢
        cases K31 with
        | zero => exact absurd h (by simp [P.isochroneref01_DivMod.l0])
        | succ m33 =>
          simp only [P.isochroneref01_DivMod.l0] at h
          refine simL_step (sim_seq (sim_seq (sim_region ?_)))
          iterate 2 refine o1 ?_
          refine sim_ops_nil ?_
          refine sim_cond rfl (fun hb => ?_) (fun hb => ?_)
          · skip
            obtain ⟨c34, h⟩ := tkT h hb
            have g35 := hb
            clear hb
            obtain ⟨q36, h⟩ := ite_none h
            obtain ⟨q37, h⟩ := ite_none h
            refine sim_skip (sim_seq (sim_block (sim_seq (sim_region ?_))))
            iterate 5 refine o1 ?_
            obtain ⟨t38, ht39, h⟩ := Option.bind_eq_some_iff.1 h
            refine opC (isochroneref01_Small.v _ _ _ _ _ ht39) ?_
            refine o1 ?_
            refine sim_ops_nil (sim_seq (sim_seq (sim_region ?_)))
            iterate 2 refine o1 ?_
            obtain ⟨t40, ht41, h⟩ := Option.bind_eq_some_iff.1 h
            refine opC (isochroneref01_Cmp.v _ _ _ _ ht41) ?_
            refine o1 ?_
            refine sim_ops_nil ?_
            refine sim_cond rfl (fun hb => ?_) (fun hb => ?_)
            · skip
              obtain ⟨c42, h⟩ := tkT h hb
              have g43 := hb
              clear hb
              refine sim_exit (sim_region ?_)
              iterate 3 refine o1 ?_
              refine sim_ops_nil ?_
              exact simL_again (ih32 m33 (by omega) (_, _, _, _, _, ()) h) ⟨rfl, rfl, rfl, rfl, rfl, trivial⟩ ⟨rfl, trivial⟩ rfl
            · skip
              obtain ⟨c44, h⟩ := tkF h hb
              have g45 := hb
              clear hb
              refine sim_skip (sim_seq (sim_region ?_))
              iterate 4 refine o1 ?_
              obtain ⟨t46, ht47, h⟩ := Option.bind_eq_some_iff.1 h
              refine opC (isochroneref01_digit.v _ _ _ _ ht47) ?_
              obtain ⟨q48, h⟩ := ite_none h
              replace h := bsome h
              iterate 2 refine o1 ?_
              refine sim_ops_nil (sim_region ?_)
              iterate 6 refine o1 ?_
              obtain ⟨t49, ht50, h⟩ := Option.bind_eq_some_iff.1 h
              refine opC (isochroneref01_Small.v _ _ _ _ _ ht50) ?_
              obtain ⟨t51, ht52, h⟩ := Option.bind_eq_some_iff.1 h
              refine opC (isochroneref01_Sub.v _ _ _ _ ht52) ?_
              refine o1 ?_
              refine sim_ops_nil (sim_region ?_)
              iterate 3 refine o1 ?_
              refine sim_ops_nil ?_
              exact simL_again (ih32 m33 (by omega) (_, _, _, _, _, ()) h) ⟨rfl, rfl, rfl, rfl, rfl, trivial⟩ ⟨rfl, trivial⟩ rfl
          · skip
            obtain ⟨c53, h⟩ := tkF h hb
            have g54 := hb
            clear hb
            refine sim_exit (sim_seq ?_)
            refine sim_weak (rel_freeze (k := 56) rfl) ?_
            refine sim_region ?_
            refine o1 ?_
            obtain ⟨t55, ht56, h⟩ := Option.bind_eq_some_iff.1 h
            refine opC (isochroneref01_trim.v _ _ _ ht56) ?_
            iterate 3 refine o1 ?_
            refine sim_ops_nil ?_
            obtain rfl := Option.some.inj h
            exact sim_ret ⟨.inl rfl, .two (.tmp rt) (.tmp rt) rfl rfl⟩
instance : FN Try.prog 66 := ⟨⟨_, Try.func66, by decide, by simp [Try.f66]⟩⟩
set_option maxRecDepth 100000 in
set_option maxHeartbeats 4000000 in
theorem isochroneref01_GCD.v (k : Nat) (l0 : List Int) (l1 : List Int) (r : List Int) (h : P.isochroneref01_GCD.f k l0 l1 = some r) : Fn Try.prog 66 [.ints .i64 l0, .ints .i64 l1] (.ints .i64 r) := by
  refine fn_of_sim Try.func66 rfl (Nat.le_of_ble_eq_true rfl) ?_
  intro X hX
  unfold P.isochroneref01_GCD.f at h
  refine sim_seq (sim_region ?_)
  refine o1 ?_
  refine sim_ops_nil (sim_seq (sim_block (sim_loop ?_)))
  refine simL_ind (D := List Int × List Int × Unit) (fun d => ⟨look [(0, .ints .i64 d.1), (1, .ints .i64 d.2.1)], look []⟩) (fun K_ d => P.isochroneref01_GCD.l0 K_ d.1 d.2.1 = some r) ?_ _ (_, _, ()) h (rel_look _ _ ⟨rfl, rfl, trivial⟩ trivial rfl)
  intro K1 ih2 d h
  obtain ⟨x0, x1, _⟩ := d
  dsimp only at h ⊢
  cases K1 with
  | zero => exact absurd h (by simp [P.isochroneref01_GCD.l0])
  | succ m3 =>
    simp only [P.isochroneref01_GCD.l0] at h
    refine simL_step (sim_seq (sim_seq (sim_region ?_)))
    iterate 3 refine o1 ?_
    refine sim_ops_nil ?_
    refine sim_cond rfl (fun hb => ?_) (fun hb => ?_)
    · skip
      obtain ⟨c4, h⟩ := tkT h hb
      have g5 := hb
      clear hb
      refine sim_skip (sim_block (sim_seq (sim_region ?_)))
      refine o1 ?_
      obtain ⟨t6, ht7, h⟩ := Option.bind_eq_some_iff.1 h
      refine opC (isochroneref01_little.v _ _ _ ht7) ?_
      iterate 5 refine o1 ?_
      refine sim_ops_nil (sim_seq (sim_region ?_))
      refine o1 ?_
      obtain ⟨t8, ht9, h⟩ := Option.bind_eq_some_iff.1 h
      refine opC (isochroneref01_little.v _ _ _ ht9) ?_
      iterate 5 refine o1 ?_
      refine sim_ops_nil (sim_seq (sim_seq ?_))
      refine sim_joinG (D := Nat × List Int × List Int × Int × Int × Bool × Unit) (fun d => ⟨look [(0, .ints .i64 d.2.1), (1, .ints .i64 d.2.2.1), (5, .int .i64 d.2.2.2.1), (7, .int .i64 d.2.2.2.2.1), (27, .bool d.2.2.2.2.2.1)], look []⟩) (fun d => P.isochroneref01_GCD.j1 d.1 d.2.1 d.2.2.1 d.2.2.2.1 d.2.2.2.2.1 d.2.2.2.2.2.1 = some r ∧ d.1 ≤ m3) ?_ ?_
      · skip
        rintro ⟨kq10, x0, x1, x5, x7, x27, _⟩ ⟨h, b11⟩
        dsimp only at h b11 ⊢
        cases kq10 with
        | zero => exact absurd h (by simp [P.isochroneref01_GCD.j1])
        | succ m12 =>
          simp only [P.isochroneref01_GCD.j1] at h
          refine sim_cond rfl (fun hb => ?_) (fun hb => ?_)
          · skip
            obtain ⟨c13, h⟩ := tkT h hb
            have g14 := hb
            clear hb
            refine sim_seq (sim_block (sim_loop ?_))
            refine simL_ind (D := Int × Int × Unit) (fun d => ⟨look [(5, .int .i64 d.1), (7, .int .i64 d.2.1)], look []⟩) (fun K_ d => P.isochroneref01_GCD.l1 K_ d.1 d.2.1 = some r ∧ K_ ≤ m12) ?_ _ (_, _, ()) ⟨h, by omega⟩ (rel_look _ _ ⟨rfl, rfl, trivial⟩ trivial rfl)
            intro K15 ih16 d h
            obtain ⟨h, b18⟩ := h
            obtain ⟨x5, x7, _⟩ := d
            dsimp only at h b18 ⊢
            cases K15 with
            | zero => exact absurd h (by simp [P.isochroneref01_GCD.l1])
            | succ m17 =>
              simp only [P.isochroneref01_GCD.l1] at h
              refine simL_step (sim_seq (sim_seq (sim_region ?_)))
              iterate 2 refine o1 ?_
              refine sim_ops_nil ?_
              refine sim_cond rfl (fun hb => ?_) (fun hb => ?_)
              · skip
                obtain ⟨c19, h⟩ := tkT h hb
                have g20 := hb
                clear hb
                obtain ⟨q21, h⟩ := ite_none2 h
                refine sim_skip (sim_block (sim_still ?_))
                iterate 6 refine s1 ?_
                refine st_nil ?_
                exact simL_again (ih16 m17 (by omega) (_, _, ()) ⟨h, by omega⟩) ⟨rfl, rfl, trivial⟩ trivial rfl
              · skip
                obtain ⟨c22, h⟩ := tkF h hb
                have g23 := hb
                clear hb
                refine sim_exit (sim_seq (sim_region ?_))
                refine o1 ?_
                obtain ⟨t24, ht25, h⟩ := Option.bind_eq_some_iff.1 h
                refine opC (isochroneref01_Int.v _ _ _ ht25) ?_
                refine o1 ?_
                refine sim_ops_nil ?_
                obtain rfl := Option.some.inj h
                exact sim_ret ⟨.inl rfl, .one (.tmp rt) rfl⟩
          · skip
            obtain ⟨c26, h⟩ := tkF h hb
            have g27 := hb
            clear hb
            refine sim_skip (sim_seq (sim_region ?_))
            iterate 2 refine o1 ?_
            obtain ⟨t28, ht29, h⟩ := Option.bind_eq_some_iff.1 h
            refine opC (isochroneref01_DivMod.v _ _ _ _ ht29) ?_
            iterate 5 refine o1 ?_
            refine sim_ops_nil (sim_region ?_)
            iterate 4 refine o1 ?_
            refine sim_ops_nil ?_
            exact simL_again (ih2 m12 (by omega) (_, _, ()) h) ⟨rfl, rfl, trivial⟩ trivial rfl
      · skip
        refine sim_region ?_
        iterate 2 refine o1 ?_
        refine og rfl rfl rfl rfl (fun hb => ?_) (fun hb => ?_)
        · skip
          obtain ⟨c30, h⟩ := tkT h hb
          have g31 := hb
          clear hb
          refine oT ?_
          refine o1 ?_
          refine sim_ops_nil ?_
          exact ⟨(m3, _, _, _, _, _, ()), ⟨h, by omega⟩, rel_look _ _ ⟨rfl, rfl, rfl, rfl, rfl, trivial⟩ trivial rfl⟩
        · skip
          obtain ⟨c32, h⟩ := tkF h hb
          have g33 := hb
          clear hb
          refine opS ?_
          refine o1 ?_
          refine sim_ops_nil ?_
          exact ⟨(m3, _, _, _, _, _, ()), ⟨h, by omega⟩, rel_look _ _ ⟨rfl, rfl, rfl, rfl, rfl, trivial⟩ trivial rfl⟩
    · skip
      obtain ⟨c34, h⟩ := tkF h hb
      have g35 := hb
      clear hb
      refine sim_exit (sim_seq (sim_region ?_))
      iterate 2 refine o1 ?_
      refine sim_ops_nil ?_
      obtain rfl := Option.some.inj h
      exact sim_ret ⟨.inl rfl, .one (.tmp rt) rfl⟩
instance : FN Try.prog 20 := ⟨⟨_, Try.func20, by decide, by simp [Try.f20]⟩⟩
set_option maxRecDepth 100000 in
set_option maxHeartbeats 4000000 in
theorem isochroneref01_Valid.v (l0 : List Int) (r : Bool) (h : P.isochroneref01_Valid.f l0 = some r) : Fn Try.prog 20 [.ints .u32 l0] (.bool r) := by
  refine fn_of_sim Try.func20 rfl (Nat.le_of_ble_eq_true rfl) ?_
  intro X hX
  unfold P.isochroneref01_Valid.f at h
  refine sim_seq (sim_region ?_)
  refine o1 ?_
  refine sim_ops_nil (sim_seq (sim_region ?_))
  iterate 4 refine o1 ?_
  refine og rfl rfl rfl rfl (fun hb => ?_) (fun hb => ?_)
  · skip
    obtain ⟨c1, h⟩ := tkT h hb
    have g2 := hb
    clear hb
    iterate 4 refine oT ?_
    refine og rfl rfl rfl rfl (fun hb => ?_) (fun hb => ?_)
    · skip
      obtain ⟨c3, h⟩ := tkF h hb
      have g4 := hb
      clear hb
      obtain ⟨q5, h⟩ := ite_none h
      obtain ⟨q6, h⟩ := ite_none h
      iterate 8 refine oT ?_
      iterate 2 refine o1 ?_
      refine sim_ops_nil ?_
      obtain rfl := Option.some.inj h
      exact sim_ret ⟨.inl rfl, .one (.tmp rt) rfl⟩
    · skip
      obtain ⟨c7, h⟩ := tkT h hb
      have g8 := hb
      clear hb
      iterate 7 refine opS ?_
      refine oT ?_
      iterate 2 refine o1 ?_
      refine sim_ops_nil ?_
      obtain rfl := Option.some.inj h
      exact sim_ret ⟨.inl rfl, .one (.tmp rt) rfl⟩
  · skip
    obtain ⟨c9, h⟩ := tkF h hb
    have g10 := hb
    clear hb
    iterate 4 refine opS ?_
    iterate 7 refine opU ?_
    refine opS ?_
    iterate 2 refine o1 ?_
    refine sim_ops_nil ?_
    obtain rfl := Option.some.inj h
    exact sim_ret ⟨.inl rfl, .one (.tmp rt) rfl⟩
instance : FN Try.prog 77 := ⟨⟨_, Try.func77, by decide, by simp [Try.f77]⟩⟩
set_option maxRecDepth 100000 in
set_option maxHeartbeats 4000000 in
theorem isochroneref01_Pow.v (k : Nat) (l0 : List Int) (a1 : Int) (r : List Int) (h : P.isochroneref01_Pow.f k l0 a1 = some r) : Fn Try.prog 77 [.ints .i64 l0, .int .i64 a1] (.ints .i64 r) := by
  refine fn_of_sim Try.func77 rfl (Nat.le_of_ble_eq_true rfl) ?_
  intro X hX
  unfold P.isochroneref01_Pow.f at h
  refine sim_seq (sim_region ?_)
  refine o1 ?_
  refine sim_ops_nil (sim_seq (sim_region ?_))
  iterate 2 refine o1 ?_
  refine sim_ops_nil (sim_seq (sim_seq (sim_region ?_)))
  iterate 2 refine o1 ?_
  refine sim_ops_nil (sim_block (sim_loop ?_))
  refine simL_ind (D := List Int × List Int × Int × Int × Unit) (fun d => ⟨look [(0, .ints .i64 d.1), (5, .ints .i64 d.2.1), (7, .int .i64 d.2.2.1), (8, .int .i64 d.2.2.2.1)], look []⟩) (fun K_ d => P.isochroneref01_Pow.l0 K_ d.1 d.2.1 d.2.2.1 d.2.2.2.1 = some r) ?_ _ (_, _, _, _, ()) h (rel_look _ _ ⟨rfl, rfl, rfl, rfl, trivial⟩ trivial rfl)
  intro K1 ih2 d h
  obtain ⟨x0, x5, x7, x8, _⟩ := d
  dsimp only at h ⊢
  cases K1 with
  | zero => exact absurd h (by simp [P.isochroneref01_Pow.l0])
  | succ m3 =>
    simp only [P.isochroneref01_Pow.l0] at h
    refine simL_step (sim_seq (sim_region ?_))
    refine o1 ?_
    refine sim_ops_nil (sim_seq ?_)
    refine sim_cond rfl (fun hb => ?_) (fun hb => ?_)
    · skip
      obtain ⟨c4, h⟩ := tkT h hb
      have g5 := hb
      clear hb
      refine sim_skip (sim_seq (sim_block (sim_region ?_)))
      iterate 2 refine o1 ?_
      obtain ⟨t6, ht7, h⟩ := Option.bind_eq_some_iff.1 h
      refine opC (isochroneref01_Mul.v _ _ _ _ ht7) ?_
      refine o1 ?_
      refine sim_ops_nil (sim_region ?_)
      iterate 2 refine o1 ?_
      refine sim_ops_nil ?_
      exact simL_again (ih2 m3 (by omega) (_, _, _, _, ()) h) ⟨rfl, rfl, rfl, rfl, trivial⟩ trivial rfl
    · skip
      obtain ⟨c8, h⟩ := tkF h hb
      have g9 := hb
      clear hb
      refine sim_exit (sim_seq (sim_region ?_))
      iterate 2 refine o1 ?_
      refine sim_ops_nil ?_
      obtain rfl := Option.some.inj h
      exact sim_ret ⟨.inl rfl, .one (.tmp rt) rfl⟩
instance : FN Try.prog 127 := ⟨⟨_, Try.func127, by decide, by simp [Try.f127]⟩⟩
set_option maxRecDepth 100000 in
set_option maxHeartbeats 4000000 in
theorem nat_limited.v (l0 : List Int) (r : List Int × Int) (h : P.nat_limited.f l0 = some r) : Fn Try.prog 127 [.ints .u32 l0] (.tup [.ints .u32 r.1, .int .i64 r.2]) := by
  refine fn_of_sim Try.func127 rfl (Nat.le_of_ble_eq_true rfl) ?_
  intro X hX
  unfold P.nat_limited.f at h
  refine sim_seq (sim_region ?_)
  iterate 2 refine o1 ?_
  refine sim_ops_nil (sim_seq (sim_seq (sim_region ?_)))
  iterate 3 refine o1 ?_
  refine sim_ops_nil ?_
  refine sim_cond rfl (fun hb => ?_) (fun hb => ?_)
  · skip
    obtain ⟨c1, h⟩ := tkT h hb
    have g2 := hb
    clear hb
    refine sim_seq (sim_region ?_)
    iterate 2 refine o1 ?_
    refine sim_ops_nil ?_
    obtain rfl := Option.some.inj h
    exact sim_ret ⟨.inl rfl, .two (.tmp rt) (.tmp rt) rfl rfl⟩
  · skip
    obtain ⟨c3, h⟩ := tkF h hb
    have g4 := hb
    clear hb
    obtain ⟨q5, h⟩ := ite_none h
    refine sim_skip (sim_seq (sim_region ?_))
    iterate 4 refine o1 ?_
    refine sim_ops_nil ?_
    obtain rfl := Option.some.inj h
    exact sim_ret ⟨.inl rfl, .two (.tmp rt) (.tmp rt) rfl rfl⟩
instance : FN Try.prog 99 := ⟨⟨_, Try.func99, by decide, by simp [Try.f99]⟩⟩
set_option maxRecDepth 100000 in
set_option maxHeartbeats 4000000 in
theorem nat_Parse.v (k : Nat) (a0 : ByteArray) (r : List Int × Int) (h : P.nat_Parse.f k a0 = some r) : Fn Try.prog 99 [.str a0] (.tup [.ints .u32 r.1, .int .i64 r.2]) := by
  refine fn_of_sim Try.func99 rfl (Nat.le_of_ble_eq_true rfl) ?_
  intro X hX
  unfold P.nat_Parse.f at h
  refine sim_seq ?_
  refine sim_region ?_
  iterate 2 refine o1 ?_
  refine sim_ops_nil ?_
  refine sim_scope ?_
  refine sim_seq ?_
  refine sim_seq ?_
  refine sim_region ?_
  iterate 3 refine o1 ?_
  refine sim_ops_nil ?_
  refine sim_cond rfl (fun hb => ?_) (fun hb => ?_)
  · skip
    obtain ⟨c1, h⟩ := tkT h hb
    have g2 := hb
    clear hb
    refine sim_seq ?_
    refine sim_region ?_
    iterate 2 refine o1 ?_
    refine sim_ops_nil ?_
    obtain rfl := Option.some.inj h
    exact sim_ret ⟨.inl rfl, .two (.tmp rt) (.tmp rt) rfl rfl⟩
  · skip
    obtain ⟨c3, h⟩ := tkF h hb
    have g4 := hb
    clear hb
    refine sim_skip ?_
    refine sim_seq ?_
    refine sim_seq ?_
    refine sim_region ?_
    iterate 2 refine o1 ?_
    refine sim_ops_nil ?_
    refine sim_cond rfl (fun hb => ?_) (fun hb => ?_)
    · skip
      obtain ⟨c5, h⟩ := tkT h hb
      have g6 := hb
      clear hb
      refine sim_seq ?_
      refine sim_region ?_
      iterate 2 refine o1 ?_
      refine sim_ops_nil ?_
      obtain rfl := Option.some.inj h
      exact sim_ret ⟨.inl rfl, .two (.tmp rt) (.tmp rt) rfl rfl⟩
    · skip
      obtain ⟨c7, h⟩ := tkF h hb
      have g8 := hb
      clear hb
      refine sim_skip ?_
      refine sim_seq ?_
      refine sim_region ?_
      refine o1 ?_
      refine sim_ops_nil ?_
      refine sim_seq ?_
      refine sim_region ?_
      iterate 2 refine o1 ?_
      refine sim_ops_nil ?_
      refine sim_seq ?_
      refine sim_label ?_
      refine sim_seq ?_
      refine sim_seq ?_
      refine sim_region ?_
      refine o1 ?_
      refine sim_ops_nil ?_
      refine sim_block ?_
      refine sim_loop ?_
      refine simL_ind (D := ByteArray × List Int × Int × Int × Int × Unit) (fun d => ⟨look [(0, .str d.1), (4, .ints .u32 d.2.1), (5, .int .u64 d.2.2.1), (6, .int .u64 d.2.2.2.1), (7, .int .i64 d.2.2.2.2.1)], look []⟩) (fun K_ d => P.nat_Parse.l0 K_ d.1 d.2.1 d.2.2.1 d.2.2.2.1 d.2.2.2.2.1 = some r) ?_ _ (_, _, _, _, _, ()) h (rel_look _ _ ⟨rfl, rfl, rfl, rfl, rfl, trivial⟩ trivial rfl)
      intro K9 ih10 d h
      obtain ⟨x0, x4, x5, x6, x7, _⟩ := d
      dsimp only at h ⊢
      cases K9 with
      | zero => exact absurd h (by simp [P.nat_Parse.l0])
      | succ m11 =>
        simp only [P.nat_Parse.l0] at h
        refine simL_step ?_
        refine sim_seq ?_
        refine sim_block ?_
        refine sim_seq ?_
        refine sim_block ?_
        refine sim_seq ?_
        refine sim_region ?_
        iterate 5 refine o1 ?_
        refine sim_ops_nil ?_
        refine sim_cond rfl (fun hb => ?_) (fun hb => ?_)
        · skip
          obtain ⟨c12, h⟩ := tkT h hb
          have g13 := hb
          clear hb
          refine sim_seq ?_
          refine sim_region ?_
          iterate 2 refine o1 ?_
          obtain ⟨t14, ht15, h⟩ := Option.bind_eq_some_iff.1 h
          refine opC (mag_From.v _ _ _ ht15) ?_
          obtain ⟨t16, ht17, h⟩ := Option.bind_eq_some_iff.1 h
          refine opC (mag_Mul.v _ _ _ _ ht17) ?_
          refine o1 ?_
          obtain ⟨t18, ht19, h⟩ := Option.bind_eq_some_iff.1 h
          refine opC (mag_From.v _ _ _ ht19) ?_
          obtain ⟨t20, ht21, h⟩ := Option.bind_eq_some_iff.1 h
          refine opC (mag_Add.v _ _ _ _ ht21) ?_
          refine o1 ?_
          refine sim_ops_nil ?_
          refine sim_exit ?_
          refine sim_seq ?_
          refine sim_region ?_
          refine o1 ?_
          obtain ⟨t22, ht23, h⟩ := Option.bind_eq_some_iff.1 h
          refine opC (nat_limited.v _ _ ht23) ?_
          iterate 4 refine o1 ?_
          refine sim_ops_nil ?_
          obtain rfl := Option.some.inj h
          exact sim_ret ⟨.inl rfl, .two (.tmp rt) (.tmp rt) rfl rfl⟩
        · skip
          obtain ⟨c24, h⟩ := tkF h hb
          have g25 := hb
          clear hb
          obtain ⟨q26, h⟩ := ite_none h
          obtain ⟨q27, h⟩ := ite_none h
          refine sim_seq ?_
          refine sim_joinG (D := Nat × ByteArray × List Int × Int × Int × Int × Bool × Unit) (fun d => ⟨look [(0, .str d.2.1), (4, .ints .u32 d.2.2.1), (5, .int .u64 d.2.2.2.1), (6, .int .u64 d.2.2.2.2.1), (7, .int .i64 d.2.2.2.2.2.1), (27, .bool d.2.2.2.2.2.2.1)], look []⟩) (fun d => P.nat_Parse.j1 d.1 d.2.1 d.2.2.1 d.2.2.2.1 d.2.2.2.2.1 d.2.2.2.2.2.1 d.2.2.2.2.2.2.1 = some r ∧ d.1 ≤ m11) ?_ ?_
          · skip
            rintro ⟨kq28, x0, x4, x5, x6, x7, x27, _⟩ ⟨h, b29⟩
            dsimp only at h b29 ⊢
            cases kq28 with
            | zero => exact absurd h (by simp [P.nat_Parse.j1])
            | succ m30 =>
              simp only [P.nat_Parse.j1] at h
              refine sim_cond rfl (fun hb => ?_) (fun hb => ?_)
              · skip
                obtain ⟨c31, h⟩ := tkT h hb
                have g32 := hb
                clear hb
                refine sim_seq ?_
                refine sim_region ?_
                iterate 2 refine o1 ?_
                refine sim_ops_nil ?_
                obtain rfl := Option.some.inj h
                exact sim_ret ⟨.inl rfl, .two (.tmp rt) (.tmp rt) rfl rfl⟩
              · skip
                obtain ⟨c33, h⟩ := tkF h hb
                have g34 := hb
                clear hb
                refine sim_seq ?_
                refine sim_region ?_
                iterate 3 refine o1 ?_
                refine sim_ops_nil ?_
                refine sim_cond rfl (fun hb => ?_) (fun hb => ?_)
                · skip
                  obtain ⟨c35, h⟩ := tkT h hb
                  have g36 := hb
                  clear hb
                  refine sim_seq ?_
                  refine sim_region ?_
                  iterate 2 refine o1 ?_
                  obtain ⟨t37, ht38, h⟩ := Option.bind_eq_some_iff.1 h
                  refine opC (mag_From.v _ _ _ ht38) ?_
                  obtain ⟨t39, ht40, h⟩ := Option.bind_eq_some_iff.1 h
                  refine opC (mag_Mul.v _ _ _ _ ht40) ?_
                  refine o1 ?_
                  obtain ⟨t41, ht42, h⟩ := Option.bind_eq_some_iff.1 h
                  refine opC (mag_From.v _ _ _ ht42) ?_
                  obtain ⟨t43, ht44, h⟩ := Option.bind_eq_some_iff.1 h
                  refine opC (mag_Add.v _ _ _ _ ht44) ?_
                  obtain ⟨q45, h⟩ := ite_none h
                  obtain ⟨q46, h⟩ := ite_none h
                  refine o1 ?_
                  refine sim_ops_nil ?_
                  refine sim_region ?_
                  iterate 2 refine o1 ?_
                  refine sim_ops_nil ?_
                  refine sim_region ?_
                  iterate 12 refine o1 ?_
                  refine sim_ops_nil ?_
                  refine sim_region ?_
                  iterate 3 refine o1 ?_
                  refine sim_ops_nil ?_
                  exact simL_again (ih10 m30 (by omega) (_, _, _, _, _, ()) h) ⟨hv, hv, hv, hv, hv, trivial⟩ trivial rfl
                · skip
                  obtain ⟨c47, h⟩ := tkF h hb
                  have g48 := hb
                  clear hb
                  obtain ⟨q49, h⟩ := ite_none h
                  obtain ⟨q50, h⟩ := ite_none h
                  refine sim_skip ?_
                  refine sim_region ?_
                  iterate 12 refine o1 ?_
                  refine sim_ops_nil ?_
                  refine sim_region ?_
                  iterate 3 refine o1 ?_
                  refine sim_ops_nil ?_
                  exact simL_again (ih10 m30 (by omega) (_, _, _, _, _, ()) h) ⟨hv, hv, hv, hv, hv, trivial⟩ trivial rfl
          · skip
            refine sim_region ?_
            iterate 5 refine o1 ?_
            refine og rfl rfl rfl rfl (fun hb => ?_) (fun hb => ?_)
            · skip
              obtain ⟨c51, h⟩ := tkF h hb
              have g52 := hb
              clear hb
              refine oT ?_
              refine oT ?_
              refine oT ?_
              refine oT ?_
              iterate 2 refine o1 ?_
              refine sim_ops_nil ?_
              exact ⟨(m11, _, _, _, _, _, _, ()), ⟨h, by omega⟩, rel_look _ _ ⟨rfl, rfl, rfl, rfl, rfl, rfl, trivial⟩ trivial rfl⟩
            · skip
              obtain ⟨c53, h⟩ := tkT h hb
              have g54 := hb
              clear hb
              refine opS ?_
              refine opS ?_
              refine opS ?_
              refine opS ?_
              iterate 2 refine o1 ?_
              refine sim_ops_nil ?_
              exact ⟨(m11, _, _, _, _, _, _, ()), ⟨h, by omega⟩, rel_look _ _ ⟨rfl, rfl, rfl, rfl, rfl, rfl, trivial⟩ trivial rfl⟩
instance : FN Try.prog 137 := ⟨⟨_, Try.func137, by decide, by simp [Try.f137]⟩⟩
set_option maxRecDepth 100000 in
set_option maxHeartbeats 4000000 in
theorem bits_Len64.v (k : Nat) (a0 : Int) (r : Int) (h : P.bits_Len64.f k a0 = some r) : Fn Try.prog 137 [.int .u64 a0] (.int .i64 r) := by
  refine fn_of_sim Try.func137 rfl (Nat.le_of_ble_eq_true rfl) ?_
  intro X hX
  unfold P.bits_Len64.f at h
  refine sim_seq (sim_region ?_)
  refine o1 ?_
  refine sim_ops_nil (sim_seq (sim_seq (sim_region ?_)))
  iterate 2 refine o1 ?_
  refine sim_ops_nil ?_
  refine sim_joinG (D := Nat × Int × Int × Unit) (fun d => ⟨look [(0, .int .u64 d.2.1), (2, .int .i64 d.2.2.1)], look []⟩) (fun d => P.bits_Len64.j0 d.1 d.2.1 d.2.2.1 = some r ∧ d.1 ≤ k) ?_ ?_
  · skip
    rintro ⟨kq1, x0, x2, _⟩ ⟨h, b2⟩
    dsimp only at h b2 ⊢
    cases kq1 with
    | zero => exact absurd h (by simp [P.bits_Len64.j0])
    | succ m3 =>
      simp only [P.bits_Len64.j0] at h
      refine sim_seq (sim_seq (sim_region ?_))
      iterate 2 refine o1 ?_
      refine sim_ops_nil ?_
      refine sim_cond rfl (fun hb => ?_) (fun hb => ?_)
      · skip
        obtain ⟨c4, h⟩ := tkT h hb
        have g5 := hb
        clear hb
        refine sim_seq (sim_region ?_)
        iterate 3 refine o1 ?_
        refine sim_ops_nil (sim_region ?_)
        iterate 3 refine o1 ?_
        refine sim_ops_nil (sim_seq (sim_seq (sim_region ?_)))
        iterate 2 refine o1 ?_
        refine sim_ops_nil ?_
        refine sim_cond rfl (fun hb => ?_) (fun hb => ?_)
        · skip
          obtain ⟨c6, h⟩ := tkT h hb
          have g7 := hb
          clear hb
          obtain ⟨q8, h⟩ := ite_none h
          obtain ⟨q9, h⟩ := ite_none h
          refine sim_seq (sim_region ?_)
          iterate 3 refine o1 ?_
          refine sim_ops_nil (sim_region ?_)
          iterate 3 refine o1 ?_
          refine sim_ops_nil (sim_seq (sim_region ?_))
          iterate 7 refine o1 ?_
          refine sim_ops_nil ?_
          obtain rfl := Option.some.inj h
          exact sim_ret ⟨.inl rfl, .one (.tmp rt) rfl⟩
        · skip
          obtain ⟨c10, h⟩ := tkF h hb
          have g11 := hb
          clear hb
          obtain ⟨q12, h⟩ := ite_none h
          obtain ⟨q13, h⟩ := ite_none h
          refine sim_skip (sim_seq (sim_region ?_))
          iterate 7 refine o1 ?_
          refine sim_ops_nil ?_
          obtain rfl := Option.some.inj h
          exact sim_ret ⟨.inl rfl, .one (.tmp rt) rfl⟩
      · skip
        obtain ⟨c14, h⟩ := tkF h hb
        have g15 := hb
        clear hb
        refine sim_skip (sim_seq (sim_seq (sim_region ?_)))
        iterate 2 refine o1 ?_
        refine sim_ops_nil ?_
        refine sim_cond rfl (fun hb => ?_) (fun hb => ?_)
        · skip
          obtain ⟨c16, h⟩ := tkT h hb
          have g17 := hb
          clear hb
          obtain ⟨q18, h⟩ := ite_none h
          obtain ⟨q19, h⟩ := ite_none h
          refine sim_seq (sim_region ?_)
          iterate 3 refine o1 ?_
          refine sim_ops_nil (sim_region ?_)
          iterate 3 refine o1 ?_
          refine sim_ops_nil (sim_seq (sim_region ?_))
          iterate 7 refine o1 ?_
          refine sim_ops_nil ?_
          obtain rfl := Option.some.inj h
          exact sim_ret ⟨.inl rfl, .one (.tmp rt) rfl⟩
        · skip
          obtain ⟨c20, h⟩ := tkF h hb
          have g21 := hb
          clear hb
          obtain ⟨q22, h⟩ := ite_none h
          obtain ⟨q23, h⟩ := ite_none h
          refine sim_skip (sim_seq (sim_region ?_))
          iterate 7 refine o1 ?_
          refine sim_ops_nil ?_
          obtain rfl := Option.some.inj h
          exact sim_ret ⟨.inl rfl, .one (.tmp rt) rfl⟩
  · skip
    refine sim_cond rfl (fun hb => ?_) (fun hb => ?_)
    · skip
      obtain ⟨c24, h⟩ := tkT h hb
      have g25 := hb
      clear hb
      refine sim_seq (sim_region ?_)
      iterate 3 refine o1 ?_
      refine sim_ops_nil (sim_region ?_)
      refine o1 ?_
      refine sim_ops_nil ?_
      exact ⟨(k, _, _, ()), ⟨h, by omega⟩, rel_look _ _ ⟨rfl, rfl, trivial⟩ trivial rfl⟩
    · skip
      obtain ⟨c26, h⟩ := tkF h hb
      have g27 := hb
      clear hb
      refine sim_skip ?_
      exact ⟨(k, _, _, ()), ⟨h, by omega⟩, rel_look _ _ ⟨rfl, rfl, trivial⟩ trivial rfl⟩
instance : FN Try.prog 128 := ⟨⟨_, Try.func128, by decide, by simp [Try.f128]⟩⟩
set_option maxRecDepth 100000 in
set_option maxHeartbeats 4000000 in
theorem bits_Len.v (k : Nat) (a0 : Int) (r : Int) (h : P.bits_Len.f k a0 = some r) : Fn Try.prog 128 [.int .u64 a0] (.int .i64 r) := by
  refine fn_of_sim Try.func128 rfl (Nat.le_of_ble_eq_true rfl) ?_
  intro X hX
  unfold P.bits_Len.f at h
  refine sim_seq (sim_region ?_)
  refine o1 ?_
  refine sim_ops_nil (sim_seq ?_)
  refine sim_cond rfl (fun hb => by cases hb) (fun hb => ?_)
  refine sim_skip (sim_seq (sim_region ?_))
  refine o1 ?_
  obtain ⟨t1, ht2, h⟩ := Option.bind_eq_some_iff.1 h
  refine opC (bits_Len64.v _ _ _ ht2) ?_
  refine o1 ?_
  refine sim_ops_nil ?_
  obtain rfl := Option.some.inj h
  exact sim_ret ⟨.inl rfl, .one (.tmp rt) rfl⟩
instance : FN Try.prog 100 := ⟨⟨_, Try.func100, by decide, by simp [Try.f100]⟩⟩
set_option maxRecDepth 100000 in
set_option maxHeartbeats 4000000 in
theorem nat_Pow.v (k : Nat) (l0 : List Int) (a1 : Int) (r : List Int × Int) (h : P.nat_Pow.f k l0 a1 = some r) : Fn Try.prog 100 [.ints .u32 l0, .int .i64 a1] (.tup [.ints .u32 r.1, .int .i64 r.2]) := by
  refine fn_of_sim Try.func100 rfl (Nat.le_of_ble_eq_true rfl) ?_
  intro X hX
  unfold P.nat_Pow.f at h
  refine sim_seq (sim_region ?_)
  iterate 2 refine o1 ?_
  refine sim_ops_nil (sim_seq (sim_block (sim_seq (sim_region ?_))))
  refine o1 ?_
  obtain ⟨t1, ht2, h⟩ := Option.bind_eq_some_iff.1 h
  refine opC (nat_Valid.v _ _ ht2) ?_
  iterate 2 refine o1 ?_
  refine sim_ops_nil ?_
  refine sim_cond rfl (fun hb => ?_) (fun hb => ?_)
  · skip
    obtain ⟨c3, h⟩ := tkF h hb
    have g4 := hb
    clear hb
    refine sim_seq (sim_region ?_)
    iterate 2 refine o1 ?_
    refine sim_ops_nil ?_
    obtain rfl := Option.some.inj h
    exact sim_ret ⟨.inl rfl, .two (.tmp rt) (.tmp rt) rfl rfl⟩
  · skip
    obtain ⟨c5, h⟩ := tkT h hb
    have g6 := hb
    clear hb
    refine sim_seq (sim_region ?_)
    iterate 3 refine o1 ?_
    refine sim_ops_nil ?_
    refine sim_cond rfl (fun hb => ?_) (fun hb => ?_)
    · skip
      obtain ⟨c7, h⟩ := tkT h hb
      have g8 := hb
      clear hb
      refine sim_seq (sim_region ?_)
      iterate 2 refine o1 ?_
      refine sim_ops_nil ?_
      obtain rfl := Option.some.inj h
      exact sim_ret ⟨.inl rfl, .two (.tmp rt) (.tmp rt) rfl rfl⟩
    · skip
      obtain ⟨c9, h⟩ := tkF h hb
      have g10 := hb
      clear hb
      refine sim_seq (sim_region ?_)
      iterate 3 refine o1 ?_
      refine sim_ops_nil ?_
      refine sim_cond rfl (fun hb => ?_) (fun hb => ?_)
      · skip
        obtain ⟨c11, h⟩ := tkT h hb
        have g12 := hb
        clear hb
        refine sim_seq (sim_region ?_)
        iterate 3 refine o1 ?_
        refine sim_ops_nil ?_
        obtain rfl := Option.some.inj h
        exact sim_ret ⟨.inl rfl, .two (.tmp rt) (.tmp rt) rfl rfl⟩
      · skip
        obtain ⟨c13, h⟩ := tkF h hb
        have g14 := hb
        clear hb
        refine sim_seq ?_
        refine sim_joinG (D := Nat × List Int × Int × Bool × Unit) (fun d => ⟨look [(0, .ints .u32 d.2.1), (1, .int .i64 d.2.2.1), (19, .bool d.2.2.2.1)], look []⟩) (fun d => P.nat_Pow.j0 d.1 d.2.1 d.2.2.1 d.2.2.2.1 = some r ∧ d.1 ≤ k) ?_ ?_
        · skip
          rintro ⟨kq15, x0, x1, x19, _⟩ ⟨h, b16⟩
          dsimp only at h b16 ⊢
          cases kq15 with
          | zero => exact absurd h (by simp [P.nat_Pow.j0])
          | succ m17 =>
            simp only [P.nat_Pow.j0] at h
            refine sim_cond rfl (fun hb => ?_) (fun hb => ?_)
            · skip
              obtain ⟨c18, h⟩ := tkT h hb
              have g19 := hb
              clear hb
              refine sim_seq (sim_region ?_)
              refine o1 ?_
              obtain ⟨t20, ht21, h⟩ := Option.bind_eq_some_iff.1 h
              refine opC (nat_limited.v _ _ ht21) ?_
              iterate 4 refine o1 ?_
              refine sim_ops_nil ?_
              obtain rfl := Option.some.inj h
              exact sim_ret ⟨.inl rfl, .two (.tmp rt) (.tmp rt) rfl rfl⟩
            · skip
              obtain ⟨c22, h⟩ := tkF h hb
              have g23 := hb
              clear hb
              refine sim_seq (sim_region ?_)
              iterate 3 refine o1 ?_
              refine og rfl rfl rfl rfl (fun hb => ?_) (fun hb => ?_)
              · skip
                obtain ⟨c24, h⟩ := tkF h hb
                have g25 := hb
                clear hb
                refine oT ?_
                obtain ⟨t26, ht27, h⟩ := Option.bind_eq_some_iff.1 h
                refine opCT (mag_Bits.v _ _ ht27) ?_
                iterate 4 refine oT ?_
                iterate 2 refine o1 ?_
                refine sim_ops_nil ?_
                refine sim_cond rfl (fun hb => ?_) (fun hb => ?_)
                · skip
                  obtain ⟨c28, h⟩ := tkT h hb
                  have g29 := hb
                  clear hb
                  refine sim_seq (sim_region ?_)
                  iterate 2 refine o1 ?_
                  refine sim_ops_nil ?_
                  obtain rfl := Option.some.inj h
                  exact sim_ret ⟨.inl rfl, .two (.tmp rt) (.tmp rt) rfl rfl⟩
                · skip
                  obtain ⟨c30, h⟩ := tkF h hb
                  have g31 := hb
                  clear hb
                  refine sim_skip (sim_seq (sim_region ?_))
                  iterate 2 refine o1 ?_
                  refine sim_ops_nil (sim_seq (sim_seq (sim_region ?_)))
                  iterate 2 refine o1 ?_
                  obtain ⟨t32, ht33, h⟩ := Option.bind_eq_some_iff.1 h
                  refine opC (bits_Len.v _ _ _ ht33) ?_
                  iterate 2 refine o1 ?_
                  refine sim_ops_nil (sim_block (sim_loop ?_))
                  refine simL_ind (D := List Int × Int × List Int × Int × Unit) (fun d => ⟨look [(0, .ints .u32 d.1), (1, .int .i64 d.2.1), (6, .ints .u32 d.2.2.1), (7, .int .i64 d.2.2.2.1)], look []⟩) (fun K_ d => P.nat_Pow.l0 K_ d.1 d.2.1 d.2.2.1 d.2.2.2.1 = some r ∧ K_ ≤ m17) ?_ _ (_, _, _, _, ()) ⟨h, by omega⟩ (rel_look _ _ ⟨rfl, rfl, rfl, rfl, trivial⟩ trivial rfl)
                  intro K34 ih35 d h
                  obtain ⟨h, b37⟩ := h
                  obtain ⟨x0, x1, x6, x7, _⟩ := d
                  dsimp only at h b37 ⊢
                  cases K34 with
                  | zero => exact absurd h (by simp [P.nat_Pow.l0])
                  | succ m36 =>
                    simp only [P.nat_Pow.l0] at h
                    refine simL_step (sim_seq (sim_seq (sim_region ?_)))
                    iterate 2 refine o1 ?_
                    refine sim_ops_nil ?_
                    refine sim_cond rfl (fun hb => ?_) (fun hb => ?_)
                    · skip
                      obtain ⟨c38, h⟩ := tkT h hb
                      have g39 := hb
                      clear hb
                      refine sim_skip (sim_seq (sim_block (sim_seq (sim_region ?_))))
                      iterate 2 refine o1 ?_
                      obtain ⟨t40, ht41, h⟩ := Option.bind_eq_some_iff.1 h
                      refine opC (mag_Mul.v _ _ _ _ ht41) ?_
                      obtain ⟨q42, h⟩ := ite_none h
                      refine o1 ?_
                      refine sim_ops_nil (sim_seq (sim_region ?_))
                      iterate 5 refine o1 ?_
                      refine sim_ops_nil ?_
                      refine sim_cond rfl (fun hb => ?_) (fun hb => ?_)
                      · skip
                        obtain ⟨c43, h⟩ := tkT h hb
                        have g44 := hb
                        clear hb
                        refine sim_region ?_
                        iterate 2 refine o1 ?_
                        obtain ⟨t45, ht46, h⟩ := Option.bind_eq_some_iff.1 h
                        refine opC (mag_Mul.v _ _ _ _ ht46) ?_
                        refine o1 ?_
                        refine sim_ops_nil (sim_region ?_)
                        iterate 3 refine o1 ?_
                        refine sim_ops_nil ?_
                        exact simL_again (ih35 m36 (by omega) (_, _, _, _, ()) ⟨h, by omega⟩) ⟨rfl, rfl, rfl, rfl, trivial⟩ trivial rfl
                      · skip
                        obtain ⟨c47, h⟩ := tkF h hb
                        have g48 := hb
                        clear hb
                        refine sim_skip (sim_region ?_)
                        iterate 3 refine o1 ?_
                        refine sim_ops_nil ?_
                        exact simL_again (ih35 m36 (by omega) (_, _, _, _, ()) ⟨h, by omega⟩) ⟨rfl, rfl, rfl, rfl, trivial⟩ trivial rfl
                    · skip
                      obtain ⟨c49, h⟩ := tkF h hb
                      have g50 := hb
                      clear hb
                      refine sim_exit (sim_seq (sim_region ?_))
                      refine o1 ?_
                      obtain ⟨t51, ht52, h⟩ := Option.bind_eq_some_iff.1 h
                      refine opC (nat_limited.v _ _ ht52) ?_
                      iterate 4 refine o1 ?_
                      refine sim_ops_nil ?_
                      obtain rfl := Option.some.inj h
                      exact sim_ret ⟨.inl rfl, .two (.tmp rt) (.tmp rt) rfl rfl⟩
              · skip
                obtain ⟨c53, h⟩ := tkT h hb
                have g54 := hb
                clear hb
                iterate 6 refine opS ?_
                iterate 2 refine o1 ?_
                refine sim_ops_nil ?_
                refine sim_cond rfl (fun hb => ?_) (fun hb => ?_)
                · skip
                  refine sim_seq (sim_region ?_)
                  iterate 2 refine o1 ?_
                  refine sim_ops_nil ?_
                  obtain rfl := Option.some.inj h
                  exact sim_ret ⟨.inl rfl, .two (.tmp rt) (.tmp rt) rfl rfl⟩
                · skip
                  first | cases hb | (simp_all; done)
        · skip
          refine sim_region ?_
          iterate 4 refine o1 ?_
          refine og rfl rfl rfl rfl (fun hb => ?_) (fun hb => ?_)
          · skip
            obtain ⟨c55, h⟩ := tkF h hb
            have g56 := hb
            clear hb
            iterate 4 refine oT ?_
            refine og rfl rfl rfl rfl (fun hb => ?_) (fun hb => ?_)
            · skip
              obtain ⟨c57, h⟩ := tkT h hb
              have g58 := hb
              clear hb
              obtain ⟨q59, h⟩ := ite_none h
              iterate 5 refine oT ?_
              iterate 2 refine o1 ?_
              refine sim_ops_nil ?_
              exact ⟨(k, _, _, _, ()), ⟨h, by omega⟩, rel_look _ _ ⟨rfl, rfl, rfl, trivial⟩ trivial rfl⟩
            · skip
              obtain ⟨c60, h⟩ := tkF h hb
              have g61 := hb
              clear hb
              iterate 4 refine opS ?_
              refine oT ?_
              iterate 2 refine o1 ?_
              refine sim_ops_nil ?_
              exact ⟨(k, _, _, _, ()), ⟨h, by omega⟩, rel_look _ _ ⟨rfl, rfl, rfl, trivial⟩ trivial rfl⟩
          · skip
            obtain ⟨c62, h⟩ := tkT h hb
            have g63 := hb
            clear hb
            iterate 4 refine opS ?_
            iterate 4 refine opU ?_
            refine opS ?_
            iterate 2 refine o1 ?_
            refine sim_ops_nil ?_
            exact ⟨(k, _, _, _, ()), ⟨h, by omega⟩, rel_look _ _ ⟨rfl, rfl, rfl, trivial⟩ trivial rfl⟩
instance : FN Try.prog 103 := ⟨⟨_, Try.func103, by decide, by simp [Try.f103]⟩⟩
set_option maxRecDepth 100000 in
set_option maxHeartbeats 4000000 in
theorem isochroneref01_Text.v (k : Nat) (l0 : List Int) (r : ByteArray) (h : P.isochroneref01_Text.f k l0 = some r) : Fn Try.prog 103 [.ints .i64 l0] (.str r) := by
  refine fn_of_sim Try.func103 rfl (Nat.le_of_ble_eq_true rfl) ?_
  intro X hX
  unfold P.isochroneref01_Text.f at h
  refine sim_seq (sim_region ?_)
  refine o1 ?_
  refine sim_ops_nil (sim_seq (sim_seq (sim_region ?_)))
  iterate 3 refine o1 ?_
  refine sim_ops_nil ?_
  refine sim_cond rfl (fun hb => ?_) (fun hb => ?_)
  · skip
    obtain ⟨c1, h⟩ := tkT h hb
    have g2 := hb
    clear hb
    refine sim_seq (sim_region ?_)
    refine o1 ?_
    refine sim_ops_nil ?_
    obtain rfl := Option.some.inj h
    exact sim_ret ⟨.inl rfl, .one (.tmp rt) rfl⟩
  · skip
    obtain ⟨c3, h⟩ := tkF h hb
    have g4 := hb
    clear hb
    refine sim_skip (sim_seq (sim_region ?_))
    refine sim_ops_cons rfl (x_none 5 .u8 (.inr rfl) rfl rfl (ib hX (by decide))) ?_
    refine sim_ops_nil (sim_seq (sim_seq (sim_region ?_)))
    iterate 4 refine o1 ?_
    refine sim_ops_nil (sim_block (sim_loop ?_))
    refine simL_ind (D := List Int × List Int × Int × Unit) (fun d => ⟨look [(0, .ints .i64 d.1), (3, .own 3), (4, .int .i64 d.2.2.1)], look [(3, rowI 5 .u8 d.2.1)]⟩) (fun K_ d => P.isochroneref01_Text.l0 K_ d.1 d.2.1 d.2.2.1 = some r) ?_ _ (_, _, _, ()) h (rel_look _ _ ⟨rfl, rfl, rfl, trivial⟩ ⟨rfl, trivial⟩ rfl)
    intro K5 ih6 d h
    obtain ⟨x0, x3, x4, _⟩ := d
    dsimp only at h ⊢
    cases K5 with
    | zero => exact absurd h (by simp [P.isochroneref01_Text.l0])
    | succ m7 =>
      simp only [P.isochroneref01_Text.l0] at h
      refine simL_step (sim_seq (sim_seq (sim_region ?_)))
      iterate 2 refine o1 ?_
      refine sim_ops_nil ?_
      refine sim_cond rfl (fun hb => ?_) (fun hb => ?_)
      · skip
        obtain ⟨c8, h⟩ := tkT h hb
        have g9 := hb
        clear hb
        refine sim_skip (sim_seq (sim_block (sim_seq (sim_region ?_))))
        refine o1 ?_
        refine sim_ops_nil (sim_block (sim_loop ?_))
        refine simL_ind (D := List Int × List Int × Int × Int × Unit) (fun d => ⟨look [(0, .ints .i64 d.1), (3, .own 3), (4, .int .i64 d.2.2.1), (5, .int .i64 d.2.2.2.1)], look [(3, rowI 5 .u8 d.2.1)]⟩) (fun K_ d => P.isochroneref01_Text.l1 K_ d.1 d.2.1 d.2.2.1 d.2.2.2.1 = some r ∧ K_ ≤ m7) ?_ _ (_, _, _, _, ()) ⟨h, by omega⟩ (rel_look _ _ ⟨rfl, rfl, rfl, rfl, trivial⟩ ⟨rfl, trivial⟩ rfl)
        intro K10 ih11 d h
        obtain ⟨h, b13⟩ := h
        obtain ⟨x0, x3, x4, x5, _⟩ := d
        dsimp only at h b13 ⊢
        cases K10 with
        | zero => exact absurd h (by simp [P.isochroneref01_Text.l1])
        | succ m12 =>
          simp only [P.isochroneref01_Text.l1] at h
          refine simL_step (sim_seq (sim_seq (sim_region ?_)))
          iterate 2 refine o1 ?_
          refine sim_ops_nil ?_
          refine sim_cond rfl (fun hb => ?_) (fun hb => ?_)
          · skip
            obtain ⟨c14, h⟩ := tkT h hb
            have g15 := hb
            clear hb
            obtain ⟨q16, h⟩ := ite_none h
            obtain ⟨q17, h⟩ := ite_none h
            obtain ⟨q18, h⟩ := ite_none2 h
            refine sim_skip (sim_seq (sim_block (sim_seq (sim_region ?_))))
            iterate 8 refine o1 ?_
            refine sim_ops_nil (sim_seq (sim_region ?_))
            iterate 4 refine o1 ?_
            refine og rfl rfl rfl rfl (fun hb => ?_) (fun hb => ?_)
            · skip
              obtain ⟨c19, h⟩ := tkF h hb
              have g20 := hb
              clear hb
              iterate 2 refine oT ?_
              refine o1 ?_
              refine sim_ops_nil ?_
              refine sim_cond rfl (fun hb => ?_) (fun hb => ?_)
              · skip
                obtain ⟨c21, h⟩ := tkT h hb
                have g22 := hb
                clear hb
                obtain ⟨q23, h⟩ := ite_none h
                refine sim_region ?_
                iterate 7 refine o1 ?_
                refine sim_ops_nil (sim_region ?_)
                iterate 3 refine o1 ?_
                refine sim_ops_nil ?_
                exact simL_again (ih11 m12 (by omega) (_, _, _, _, ()) ⟨h, by omega⟩) ⟨rfl, rfl, rfl, rfl, trivial⟩ ⟨rfl, trivial⟩ rfl
              · skip
                obtain ⟨c24, h⟩ := tkF h hb
                have g25 := hb
                clear hb
                refine sim_skip (sim_region ?_)
                iterate 3 refine o1 ?_
                refine sim_ops_nil ?_
                exact simL_again (ih11 m12 (by omega) (_, _, _, _, ()) ⟨h, by omega⟩) ⟨rfl, rfl, rfl, rfl, trivial⟩ ⟨rfl, trivial⟩ rfl
            · skip
              obtain ⟨c26, h⟩ := tkT h hb
              have g27 := hb
              clear hb
              obtain ⟨q28, h⟩ := ite_none h
              iterate 2 refine opS ?_
              refine o1 ?_
              refine sim_ops_nil ?_
              refine sim_cond rfl (fun hb => ?_) (fun hb => ?_)
              · skip
                refine sim_region ?_
                iterate 7 refine o1 ?_
                refine sim_ops_nil (sim_region ?_)
                iterate 3 refine o1 ?_
                refine sim_ops_nil ?_
                exact simL_again (ih11 m12 (by omega) (_, _, _, _, ()) ⟨h, by omega⟩) ⟨rfl, rfl, rfl, rfl, trivial⟩ ⟨rfl, trivial⟩ rfl
              · skip
                first | cases hb | (simp_all; done)
          · skip
            obtain ⟨c29, h⟩ := tkF h hb
            have g30 := hb
            clear hb
            refine sim_exit (sim_region ?_)
            iterate 3 refine o1 ?_
            refine sim_ops_nil ?_
            exact simL_again (ih6 m12 (by omega) (_, _, _, ()) h) ⟨rfl, rfl, rfl, trivial⟩ ⟨rfl, trivial⟩ rfl
      · skip
        obtain ⟨c31, h⟩ := tkF h hb
        have g32 := hb
        clear hb
        refine sim_exit (sim_seq (sim_region ?_))
        iterate 3 refine o1 ?_
        refine sim_ops_nil ?_
        obtain rfl := Option.some.inj h
        exact sim_ret ⟨.inl rfl, .one (.tmp rt) rfl⟩
instance : FN Try.prog 105 := ⟨⟨_, Try.func105, by decide, by simp [Try.f105]⟩⟩
set_option maxRecDepth 100000 in
set_option maxHeartbeats 4000000 in
theorem isochroneref01_Decimal.v (k : Nat) (a0 : ByteArray) (r : Bool) (h : P.isochroneref01_Decimal.f k a0 = some r) : Fn Try.prog 105 [.str a0] (.bool r) := by
  refine fn_of_sim Try.func105 rfl (Nat.le_of_ble_eq_true rfl) ?_
  intro X hX
  unfold P.isochroneref01_Decimal.f at h
  refine sim_seq (sim_region ?_)
  refine o1 ?_
  refine sim_ops_nil (sim_seq (sim_seq (sim_region ?_)))
  iterate 3 refine o1 ?_
  refine sim_ops_nil (sim_block (sim_loop ?_))
  refine simL_ind (D := ByteArray × Int × Int × Unit) (fun d => ⟨look [(0, .str d.1), (5, .int .i64 d.2.1), (6, .int .i64 d.2.2.1)], look []⟩) (fun K_ d => P.isochroneref01_Decimal.l0 K_ d.1 d.2.1 d.2.2.1 = some r) ?_ _ (_, _, _, ()) h (rel_look _ _ ⟨rfl, rfl, rfl, trivial⟩ trivial rfl)
  intro K1 ih2 d h
  obtain ⟨x0, x5, x6, _⟩ := d
  dsimp only at h ⊢
  cases K1 with
  | zero => exact absurd h (by simp [P.isochroneref01_Decimal.l0])
  | succ m3 =>
    simp only [P.isochroneref01_Decimal.l0] at h
    refine simL_step (sim_seq (sim_region ?_))
    refine o1 ?_
    refine sim_ops_nil (sim_seq ?_)
    refine sim_cond rfl (fun hb => ?_) (fun hb => ?_)
    · skip
      obtain ⟨c4, h⟩ := tkT h hb
      have g5 := hb
      clear hb
      obtain ⟨q6, h⟩ := ite_none h
      obtain ⟨q7, h⟩ := ite_none h
      refine sim_skip (sim_seq (sim_block (sim_seq (sim_region ?_))))
      iterate 2 refine o1 ?_
      refine sim_ops_nil (sim_seq (sim_region ?_))
      iterate 5 refine o1 ?_
      refine og rfl rfl rfl rfl (fun hb => ?_) (fun hb => ?_)
      · skip
        obtain ⟨c8, h⟩ := tkF h hb
        have g9 := hb
        clear hb
        iterate 4 refine oT ?_
        refine o1 ?_
        refine sim_ops_nil ?_
        refine sim_cond rfl (fun hb => ?_) (fun hb => ?_)
        · skip
          obtain ⟨c10, h⟩ := tkT h hb
          have g11 := hb
          clear hb
          refine sim_seq (sim_region ?_)
          refine o1 ?_
          refine sim_ops_nil ?_
          obtain rfl := Option.some.inj h
          exact sim_ret ⟨.inl rfl, .one (.tmp rt) rfl⟩
        · skip
          obtain ⟨c12, h⟩ := tkF h hb
          have g13 := hb
          clear hb
          refine sim_skip (sim_region ?_)
          iterate 2 refine o1 ?_
          refine sim_ops_nil ?_
          exact simL_again (ih2 m3 (by omega) (_, _, _, ()) h) ⟨rfl, rfl, rfl, trivial⟩ trivial rfl
      · skip
        obtain ⟨c14, h⟩ := tkT h hb
        have g15 := hb
        clear hb
        iterate 4 refine opS ?_
        refine o1 ?_
        refine sim_ops_nil ?_
        refine sim_cond rfl (fun hb => ?_) (fun hb => ?_)
        · skip
          refine sim_seq (sim_region ?_)
          refine o1 ?_
          refine sim_ops_nil ?_
          obtain rfl := Option.some.inj h
          exact sim_ret ⟨.inl rfl, .one (.tmp rt) rfl⟩
        · skip
          first | cases hb | (simp_all; done)
    · skip
      obtain ⟨c16, h⟩ := tkF h hb
      have g17 := hb
      clear hb
      refine sim_exit (sim_seq (sim_region ?_))
      iterate 3 refine o1 ?_
      refine sim_ops_nil ?_
      obtain rfl := Option.some.inj h
      exact sim_ret ⟨.inl rfl, .one (.tmp rt) rfl⟩
instance : FN Try.prog 106 := ⟨⟨_, Try.func106, by decide, by simp [Try.f106]⟩⟩
set_option maxRecDepth 100000 in
set_option maxHeartbeats 4000000 in
theorem isochroneref01_Digits.v (k : Nat) (a0 : ByteArray) (r : List Int) (h : P.isochroneref01_Digits.f k a0 = some r) : Fn Try.prog 106 [.str a0] (.ints .i64 r) := by
  refine fn_of_sim Try.func106 rfl (Nat.le_of_ble_eq_true rfl) ?_
  intro X hX
  unfold P.isochroneref01_Digits.f at h
  refine sim_seq (sim_region ?_)
  refine o1 ?_
  refine sim_ops_nil (sim_seq (sim_region ?_))
  refine sim_ops_cons rfl (x_olit0 rfl rfl rfl (ib hX (by decide))) ?_
  refine o1 ?_
  refine sim_ops_nil (sim_seq (sim_seq (sim_region ?_)))
  iterate 3 refine o1 ?_
  refine sim_ops_nil (sim_block (sim_loop ?_))
  refine simL_ind (D := ByteArray × List Int × Int × Unit) (fun d => ⟨look [(0, .str d.1), (3, .own 7), (4, .int .i64 d.2.2.1)], look [(7, rowI 3 .i64 d.2.1)]⟩) (fun K_ d => P.isochroneref01_Digits.l0 K_ d.1 d.2.1 d.2.2.1 = some r) ?_ _ (_, _, _, ()) h (rel_look _ _ ⟨rfl, rfl, rfl, trivial⟩ ⟨rfl, trivial⟩ rfl)
  intro K1 ih2 d h
  obtain ⟨x0, x3, x4, _⟩ := d
  dsimp only at h ⊢
  cases K1 with
  | zero => exact absurd h (by simp [P.isochroneref01_Digits.l0])
  | succ m3 =>
    simp only [P.isochroneref01_Digits.l0] at h
    refine simL_step (sim_seq (sim_seq (sim_region ?_)))
    iterate 2 refine o1 ?_
    refine sim_ops_nil ?_
    refine sim_cond rfl (fun hb => ?_) (fun hb => ?_)
    · skip
      obtain ⟨c4, h⟩ := tkT h hb
      have g5 := hb
      clear hb
      refine sim_skip (sim_seq (sim_block (sim_seq (sim_region ?_))))
      refine o1 ?_
      refine sim_ops_nil (sim_seq (sim_seq (sim_region ?_)))
      iterate 4 refine o1 ?_
      refine sim_ops_nil (sim_block (sim_loop ?_))
      refine simL_ind (D := ByteArray × List Int × Int × Int × Int × Unit) (fun d => ⟨look [(0, .str d.1), (3, .own 7), (4, .int .i64 d.2.2.1), (5, .int .i64 d.2.2.2.1), (6, .int .i64 d.2.2.2.2.1)], look [(7, rowI 3 .i64 d.2.1)]⟩) (fun K_ d => P.isochroneref01_Digits.l1 K_ d.1 d.2.1 d.2.2.1 d.2.2.2.1 d.2.2.2.2.1 = some r ∧ K_ ≤ m3) ?_ _ (_, _, _, _, _, ()) ⟨h, by omega⟩ (rel_look _ _ ⟨rfl, rfl, rfl, rfl, rfl, trivial⟩ ⟨rfl, trivial⟩ rfl)
      intro K6 ih7 d h
      obtain ⟨h, b9⟩ := h
      obtain ⟨x0, x3, x4, x5, x6, _⟩ := d
      dsimp only at h b9 ⊢
      cases K6 with
      | zero => exact absurd h (by simp [P.isochroneref01_Digits.l1])
      | succ m8 =>
        simp only [P.isochroneref01_Digits.l1] at h
        refine simL_step (sim_seq (sim_seq (sim_region ?_)))
        iterate 3 refine o1 ?_
        refine sim_ops_nil ?_
        refine sim_cond rfl (fun hb => ?_) (fun hb => ?_)
        · skip
          obtain ⟨c10, h⟩ := tkT h hb
          have g11 := hb
          clear hb
          obtain ⟨q12, h⟩ := ite_none h
          obtain ⟨q13, h⟩ := ite_none h
          refine sim_skip (sim_seq (sim_block (sim_region ?_)))
          iterate 9 refine o1 ?_
          refine sim_ops_nil (sim_region ?_)
          iterate 3 refine o1 ?_
          refine sim_ops_nil ?_
          exact simL_again (ih7 m8 (by omega) (_, _, _, _, _, ()) ⟨h, by omega⟩) ⟨rfl, rfl, rfl, rfl, rfl, trivial⟩ ⟨rfl, trivial⟩ rfl
        · skip
          obtain ⟨c14, h⟩ := tkF h hb
          have g15 := hb
          clear hb
          obtain ⟨q16, h⟩ := ite_none h
          refine sim_exit (sim_region ?_)
          iterate 5 refine o1 ?_
          refine sim_ops_nil (sim_region ?_)
          iterate 3 refine o1 ?_
          refine sim_ops_nil ?_
          exact simL_again (ih2 m8 (by omega) (_, _, _, ()) h) ⟨rfl, rfl, rfl, trivial⟩ ⟨rfl, trivial⟩ rfl
    · skip
      obtain ⟨c17, h⟩ := tkF h hb
      have g18 := hb
      clear hb
      refine sim_exit (sim_seq ?_)
      refine sim_weak (rel_freeze (k := 7) rfl) ?_
      refine sim_region ?_
      refine o1 ?_
      obtain ⟨t19, ht20, h⟩ := Option.bind_eq_some_iff.1 h
      refine opC (isochroneref01_trim.v _ _ _ ht20) ?_
      refine o1 ?_
      refine sim_ops_nil ?_
      obtain rfl := Option.some.inj h
      exact sim_ret ⟨.inl rfl, .one (.tmp rt) rfl⟩
end Go.Proofs.Ytfpolhoabfadnaa.V
end
section
namespace Go.Proofs.Ytfpolhoabfadnaa.E
open Go.RowKit Go.Proofs.YtfpolhoabfadnaaW.PrintWords Go.Proofs.YtfpolhoabfadnaaW.PrintMore Go.Proofs.Ytfpolhoabfadnaa.V
set_option linter.unusedVariables false
noncomputable def orc_isochroneref01_Int : Orc T := orc1 (.int .i64) (.list (.int .i64)) (fun k a0 => P.isochroneref01_Int.f k a0)
theorem orc_isochroneref01_Int_good : OrcGood T (13, orc_isochroneref01_Int) := orc1_good rfl (FN.h (P := Try.prog)) fun k a0 r h => by
    have q := isochroneref01_Int.v k a0 r h
    simp only [ints_pv] at q
    exact ⟨_, rfl, q⟩
noncomputable def orc_isochroneref01_Add : Orc T := orc2 (.list (.int .i64)) (.list (.int .i64)) (.list (.int .i64)) (fun k a0 a1 => P.isochroneref01_Add.f k a0 a1)
theorem orc_isochroneref01_Add_good : OrcGood T (14, orc_isochroneref01_Add) := orc2_good rfl (FN.h (P := Try.prog)) fun k a0 a1 r h => by
    have q := isochroneref01_Add.v k a0 a1 r h
    simp only [ints_pv] at q
    exact ⟨_, rfl, q⟩
noncomputable def orc_isochroneref01_Mul : Orc T := orc2 (.list (.int .i64)) (.list (.int .i64)) (.list (.int .i64)) (fun k a0 a1 => P.isochroneref01_Mul.f k a0 a1)
theorem orc_isochroneref01_Mul_good : OrcGood T (15, orc_isochroneref01_Mul) := orc2_good rfl (FN.h (P := Try.prog)) fun k a0 a1 r h => by
    have q := isochroneref01_Mul.v k a0 a1 r h
    simp only [ints_pv] at q
    exact ⟨_, rfl, q⟩
noncomputable def orc_isochroneref01_Two : Orc T := orc1 (.int .i64) (.list (.int .i64)) (fun k a0 => P.isochroneref01_Two.f k a0)
theorem orc_isochroneref01_Two_good : OrcGood T (16, orc_isochroneref01_Two) := orc1_good rfl (FN.h (P := Try.prog)) fun k a0 r h => by
    have q := isochroneref01_Two.v k a0 r h
    simp only [ints_pv] at q
    exact ⟨_, rfl, q⟩
noncomputable def orc_isochroneref01_Sub : Orc T := orc2 (.list (.int .i64)) (.list (.int .i64)) (.list (.int .i64)) (fun k a0 a1 => P.isochroneref01_Sub.f k a0 a1)
theorem orc_isochroneref01_Sub_good : OrcGood T (17, orc_isochroneref01_Sub) := orc2_good rfl (FN.h (P := Try.prog)) fun k a0 a1 r h => by
    have q := isochroneref01_Sub.v k a0 a1 r h
    simp only [ints_pv] at q
    exact ⟨_, rfl, q⟩
noncomputable def orc_isochroneref01_Valid : Orc T := orc1 (.list (.int .u32)) .bool (fun k a0 => P.isochroneref01_Valid.f a0)
theorem orc_isochroneref01_Valid_good : OrcGood T (20, orc_isochroneref01_Valid) := orc1_good rfl (FN.h (P := Try.prog)) fun k a0 r h => by
    have q := isochroneref01_Valid.v a0 r h
    simp only [ints_pv] at q
    exact ⟨_, rfl, q⟩
noncomputable def orc_nat_Valid : Orc T := orc1 (.list (.int .u32)) .bool (fun k a0 => P.nat_Valid.f a0)
theorem orc_nat_Valid_good : OrcGood T (60, orc_nat_Valid) := orc1_good rfl (FN.h (P := Try.prog)) fun k a0 r h => by
    have q := nat_Valid.v a0 r h
    simp only [ints_pv] at q
    exact ⟨_, rfl, q⟩
noncomputable def orc_mag_From : Orc T := orc1 (.int .u64) (.list (.int .u32)) (fun k a0 => P.mag_From.f k a0)
theorem orc_mag_From_good : OrcGood T (62, orc_mag_From) := orc1_good rfl (FN.h (P := Try.prog)) fun k a0 r h => by
    have q := mag_From.v k a0 r h
    simp only [ints_pv] at q
    exact ⟨_, rfl, q⟩
noncomputable def orc_isochroneref01_GCD : Orc T := orc2 (.list (.int .i64)) (.list (.int .i64)) (.list (.int .i64)) (fun k a0 a1 => P.isochroneref01_GCD.f k a0 a1)
theorem orc_isochroneref01_GCD_good : OrcGood T (66, orc_isochroneref01_GCD) := orc2_good rfl (FN.h (P := Try.prog)) fun k a0 a1 r h => by
    have q := isochroneref01_GCD.v k a0 a1 r h
    simp only [ints_pv] at q
    exact ⟨_, rfl, q⟩
noncomputable def orc_isochroneref01_DivMod : Orc T := orc2 (.list (.int .i64)) (.list (.int .i64)) (.pair (.list (.int .i64)) (.pair (.list (.int .i64)) .unit)) (fun k a0 a1 => (P.isochroneref01_DivMod.f k a0 a1).map fun r => (r.1, r.2, ()))
theorem orc_isochroneref01_DivMod_good : OrcGood T (67, orc_isochroneref01_DivMod) := orc2_good rfl (FN.h (P := Try.prog)) fun k a0 a1 r h => by
    obtain ⟨r1, h1, rfl⟩ := Option.map_eq_some_iff.1 h
    have q := isochroneref01_DivMod.v k a0 a1 r1 h1
    simp only [ints_pv] at q
    exact ⟨_, rfl, q⟩
noncomputable def orc_mag_Bits : Orc T := orc1 (.list (.int .u32)) (.int .i64) (fun k a0 => P.mag_Bits.f a0)
theorem orc_mag_Bits_good : OrcGood T (75, orc_mag_Bits) := orc1_good rfl (FN.h (P := Try.prog)) fun k a0 r h => by
    have q := mag_Bits.v a0 r h
    simp only [ints_pv] at q
    exact ⟨_, rfl, q⟩
noncomputable def orc_isochroneref01_Pow : Orc T := orc2 (.list (.int .i64)) (.int .i64) (.list (.int .i64)) (fun k a0 a1 => P.isochroneref01_Pow.f k a0 a1)
theorem orc_isochroneref01_Pow_good : OrcGood T (77, orc_isochroneref01_Pow) := orc2_good rfl (FN.h (P := Try.prog)) fun k a0 a1 r h => by
    have q := isochroneref01_Pow.v k a0 a1 r h
    simp only [ints_pv] at q
    exact ⟨_, rfl, q⟩
noncomputable def orc_isochroneref01_Cmp : Orc T := orc2 (.list (.int .i64)) (.list (.int .i64)) (.int .i64) (fun k a0 a1 => P.isochroneref01_Cmp.f k a0 a1)
theorem orc_isochroneref01_Cmp_good : OrcGood T (85, orc_isochroneref01_Cmp) := orc2_good rfl (FN.h (P := Try.prog)) fun k a0 a1 r h => by
    have q := isochroneref01_Cmp.v k a0 a1 r h
    simp only [ints_pv] at q
    exact ⟨_, rfl, q⟩
noncomputable def orc_isochroneref01_Words : Orc T := orc1 (.list (.int .i64)) (.list (.int .u32)) (fun k a0 => P.isochroneref01_Words.f k a0)
theorem orc_isochroneref01_Words_good : OrcGood T (90, orc_isochroneref01_Words) := orc1_good rfl (FN.h (P := Try.prog)) fun k a0 r h => by
    have q := isochroneref01_Words.v k a0 r h
    simp only [ints_pv] at q
    exact ⟨_, rfl, q⟩
noncomputable def orc_nat_Parse : Orc T := orc1 .str (.pair (.list (.int .u32)) (.pair (.int .i64) .unit)) (fun k a0 => (P.nat_Parse.f k a0).map fun r => (r.1, r.2, ()))
theorem orc_nat_Parse_good : OrcGood T (99, orc_nat_Parse) := orc1_good rfl (FN.h (P := Try.prog)) fun k a0 r h => by
    obtain ⟨r1, h1, rfl⟩ := Option.map_eq_some_iff.1 h
    have q := nat_Parse.v k a0 r1 h1
    simp only [ints_pv] at q
    exact ⟨_, rfl, q⟩
noncomputable def orc_nat_Pow : Orc T := orc2 (.list (.int .u32)) (.int .i64) (.pair (.list (.int .u32)) (.pair (.int .i64) .unit)) (fun k a0 a1 => (P.nat_Pow.f k a0 a1).map fun r => (r.1, r.2, ()))
theorem orc_nat_Pow_good : OrcGood T (100, orc_nat_Pow) := orc2_good rfl (FN.h (P := Try.prog)) fun k a0 a1 r h => by
    obtain ⟨r1, h1, rfl⟩ := Option.map_eq_some_iff.1 h
    have q := nat_Pow.v k a0 a1 r1 h1
    simp only [ints_pv] at q
    exact ⟨_, rfl, q⟩
noncomputable def orc_mag_Add : Orc T := orc2 (.list (.int .u32)) (.list (.int .u32)) (.list (.int .u32)) (fun k a0 a1 => P.mag_Add.f k a0 a1)
theorem orc_mag_Add_good : OrcGood T (101, orc_mag_Add) := orc2_good rfl (FN.h (P := Try.prog)) fun k a0 a1 r h => by
    have q := mag_Add.v k a0 a1 r h
    simp only [ints_pv] at q
    exact ⟨_, rfl, q⟩
noncomputable def orc_mag_Mul : Orc T := orc2 (.list (.int .u32)) (.list (.int .u32)) (.list (.int .u32)) (fun k a0 a1 => P.mag_Mul.f k a0 a1)
theorem orc_mag_Mul_good : OrcGood T (102, orc_mag_Mul) := orc2_good rfl (FN.h (P := Try.prog)) fun k a0 a1 r h => by
    have q := mag_Mul.v k a0 a1 r h
    simp only [ints_pv] at q
    exact ⟨_, rfl, q⟩
noncomputable def orc_isochroneref01_Text : Orc T := orc1 (.list (.int .i64)) .str (fun k a0 => P.isochroneref01_Text.f k a0)
theorem orc_isochroneref01_Text_good : OrcGood T (103, orc_isochroneref01_Text) := orc1_good rfl (FN.h (P := Try.prog)) fun k a0 r h => by
    have q := isochroneref01_Text.v k a0 r h
    simp only [ints_pv] at q
    exact ⟨_, rfl, q⟩
noncomputable def orc_slices_Equal_uint32_uint32 : Orc T := orc2 (.list (.int .u32)) (.list (.int .u32)) .bool (fun k a0 a1 => P.slices_Equal_uint32_uint32.f k a0 a1)
theorem orc_slices_Equal_uint32_uint32_good : OrcGood T (104, orc_slices_Equal_uint32_uint32) := orc2_good rfl (FN.h (P := Try.prog)) fun k a0 a1 r h => by
    have q := slices_Equal_uint32_uint32.v k a0 a1 r h
    simp only [ints_pv] at q
    exact ⟨_, rfl, q⟩
noncomputable def orc_isochroneref01_Decimal : Orc T := orc1 .str .bool (fun k a0 => P.isochroneref01_Decimal.f k a0)
theorem orc_isochroneref01_Decimal_good : OrcGood T (105, orc_isochroneref01_Decimal) := orc1_good rfl (FN.h (P := Try.prog)) fun k a0 r h => by
    have q := isochroneref01_Decimal.v k a0 r h
    skip
    exact ⟨_, rfl, q⟩
noncomputable def orc_isochroneref01_Digits : Orc T := orc1 .str (.list (.int .i64)) (fun k a0 => P.isochroneref01_Digits.f k a0)
theorem orc_isochroneref01_Digits_good : OrcGood T (106, orc_isochroneref01_Digits) := orc1_good rfl (FN.h (P := Try.prog)) fun k a0 r h => by
    have q := isochroneref01_Digits.v k a0 r h
    simp only [ints_pv] at q
    exact ⟨_, rfl, q⟩
noncomputable def orc_mag_GCD : Orc T := orc2 (.list (.int .u32)) (.list (.int .u32)) (.list (.int .u32)) (fun k a0 a1 => P.mag_GCD.f k a0 a1)
theorem orc_mag_GCD_good : OrcGood T (107, orc_mag_GCD) := orc2_good rfl (FN.h (P := Try.prog)) fun k a0 a1 r h => by
    have q := mag_GCD.v k a0 a1 r h
    simp only [ints_pv] at q
    exact ⟨_, rfl, q⟩
noncomputable def orc_mag_DivMod : Orc T := orc2 (.list (.int .u32)) (.list (.int .u32)) (.pair (.list (.int .u32)) (.pair (.list (.int .u32)) .unit)) (fun k a0 a1 => (P.mag_DivMod.f k a0 a1).map fun r => (r.1, r.2, ()))
theorem orc_mag_DivMod_good : OrcGood T (108, orc_mag_DivMod) := orc2_good rfl (FN.h (P := Try.prog)) fun k a0 a1 r h => by
    obtain ⟨r1, h1, rfl⟩ := Option.map_eq_some_iff.1 h
    have q := mag_DivMod.v k a0 a1 r1 h1
    simp only [ints_pv] at q
    exact ⟨_, rfl, q⟩
noncomputable def orc_mag_Shl : Orc T := orc2 (.list (.int .u32)) (.int .i64) (.list (.int .u32)) (fun k a0 a1 => P.mag_Shl.f k a0 a1)
theorem orc_mag_Shl_good : OrcGood T (114, orc_mag_Shl) := orc2_good rfl (FN.h (P := Try.prog)) fun k a0 a1 r h => by
    have q := mag_Shl.v k a0 a1 r h
    simp only [ints_pv] at q
    exact ⟨_, rfl, q⟩
noncomputable def orc_mag_Cmp : Orc T := orc2 (.list (.int .u32)) (.list (.int .u32)) (.int .i64) (fun k a0 a1 => P.mag_Cmp.f k a0 a1)
theorem orc_mag_Cmp_good : OrcGood T (117, orc_mag_Cmp) := orc2_good rfl (FN.h (P := Try.prog)) fun k a0 a1 r h => by
    have q := mag_Cmp.v k a0 a1 r h
    simp only [ints_pv] at q
    exact ⟨_, rfl, q⟩
noncomputable def orc_mag_Sub : Orc T := orc2 (.list (.int .u32)) (.list (.int .u32)) (.list (.int .u32)) (fun k a0 a1 => P.mag_Sub.f k a0 a1)
theorem orc_mag_Sub_good : OrcGood T (118, orc_mag_Sub) := orc2_good rfl (FN.h (P := Try.prog)) fun k a0 a1 r h => by
    have q := mag_Sub.v k a0 a1 r h
    simp only [ints_pv] at q
    exact ⟨_, rfl, q⟩
noncomputable def orc_nat_Text : Orc T := orc1 (.list (.int .u32)) (.pair .str (.pair (.int .i64) .unit)) (fun k a0 => (P.nat_Text.f k a0).map fun r => (r.1, r.2, ()))
theorem orc_nat_Text_good : OrcGood T (93, orc_nat_Text) := orc1_good rfl (FN.h (P := Try.prog)) fun k a0 r h => by
    obtain ⟨r1, h1, rfl⟩ := Option.map_eq_some_iff.1 h
    have q := nat_Text.v k a0 r1 h1
    simp only [ints_pv] at q
    exact ⟨_, rfl, q⟩
noncomputable def orc_isochroneref01_Small : Orc T := orc3 (.list (.int .i64)) (.int .i64) (.int .i64) (.list (.int .i64)) (fun k a0 a1 a2 => P.isochroneref01_Small.f k a0 a1 a2)
theorem orc_isochroneref01_Small_good : OrcGood T (64, orc_isochroneref01_Small) := orc3_good rfl (FN.h (P := Try.prog)) fun k a0 a1 a2 r h => by
    have q := isochroneref01_Small.v k a0 a1 a2 r h
    simp only [ints_pv] at q
    exact ⟨_, rfl, q⟩
noncomputable def orcA : List (Nat × Orc T) := [(13, orc_isochroneref01_Int), (14, orc_isochroneref01_Add), (15, orc_isochroneref01_Mul), (16, orc_isochroneref01_Two), (17, orc_isochroneref01_Sub), (20, orc_isochroneref01_Valid), (60, orc_nat_Valid), (62, orc_mag_From), (66, orc_isochroneref01_GCD), (67, orc_isochroneref01_DivMod), (75, orc_mag_Bits), (77, orc_isochroneref01_Pow), (85, orc_isochroneref01_Cmp), (90, orc_isochroneref01_Words), (99, orc_nat_Parse), (100, orc_nat_Pow), (101, orc_mag_Add), (102, orc_mag_Mul), (103, orc_isochroneref01_Text), (104, orc_slices_Equal_uint32_uint32), (105, orc_isochroneref01_Decimal), (106, orc_isochroneref01_Digits), (107, orc_mag_GCD), (108, orc_mag_DivMod), (114, orc_mag_Shl), (117, orc_mag_Cmp), (118, orc_mag_Sub), (93, orc_nat_Text), (64, orc_isochroneref01_Small)]
theorem orcA_good : ∀ x ∈ orcA, OrcGood T x := by
  simp only [orcA, List.mem_cons, List.not_mem_nil, or_false, forall_eq_or_imp, forall_eq]
  exact ⟨orc_isochroneref01_Int_good, orc_isochroneref01_Add_good, orc_isochroneref01_Mul_good, orc_isochroneref01_Two_good, orc_isochroneref01_Sub_good, orc_isochroneref01_Valid_good, orc_nat_Valid_good, orc_mag_From_good, orc_isochroneref01_GCD_good, orc_isochroneref01_DivMod_good, orc_mag_Bits_good, orc_isochroneref01_Pow_good, orc_isochroneref01_Cmp_good, orc_isochroneref01_Words_good, orc_nat_Parse_good, orc_nat_Pow_good, orc_mag_Add_good, orc_mag_Mul_good, orc_isochroneref01_Text_good, orc_slices_Equal_uint32_uint32_good, orc_isochroneref01_Decimal_good, orc_isochroneref01_Digits_good, orc_mag_GCD_good, orc_mag_DivMod_good, orc_mag_Shl_good, orc_mag_Cmp_good, orc_mag_Sub_good, orc_nat_Text_good, orc_isochroneref01_Small_good⟩
end Go.Proofs.Ytfpolhoabfadnaa.E
end
section
namespace Go.Proofs.Ytfpolhoabfadnaa.E
open Go.RowKit Go.Proofs.YtfpolhoabfadnaaW.PrintWords Go.Proofs.YtfpolhoabfadnaaW.PrintMore Go.Proofs.Ytfpolhoabfadnaa.V
set_option linter.unusedVariables false
set_option maxHeartbeats 1000000 in
set_option maxRecDepth 100000 in
theorem calls_indexByte (s : ByteArray) (c : Int) (w : World) :
    Calls Try.prog 139 #[.string s, .int .u8 c] w fun e w' => e = .returned (.int .i64 (Lib.indexByte s.data.toList c.toNat.toUInt8)) ∧ w' = w := by
  go_enter Try.func139, Try.ntmps139
  go_wp2
  rw [run_callFunc_extern Try.func143 (by kernel_rfl) (by kernel_rfl) (by kernel_rfl) (e := Extern.BytealgIndexByte.indexByte) (by kernel_rfl), Lib.run_indexByteString]
  simp only [Result.andThen]
  rw [Oper.upon_value]
  go_wp2
  go_ret
  exact ⟨rfl, rfl⟩
theorem arr2x {α : Type} {vs : Array α} {d : α} (h : vs.size = 2) : vs = #[vs.getD 0 d, vs.getD 1 d] := by
  apply Array.ext
  · rw [h]; rfl
  · intro i h1 h2
    match i, h1 with
    | 0, h1 => simp [Array.getD, h]
    | 1, h1 => simp [Array.getD, h]
    | n + 2, h1 => omega
theorem vrel_litx {w : World} {F : Nat → Prop} {a b} {v u : Value} (h : VRel w F a b v (.cv (.lit u))) : v = u := by
  cases h with
  | cv h => cases h; rfl
theorem fn_indexByte (s : ByteArray) (c : Int) : V.Fn Try.prog 139 [Ty.str.pv s, (Ty.int .u8).pv c] ((Ty.int .i64).pv (Lib.indexByte s.data.toList c.toNat.toUInt8)) := by
  intro F w vs hF hn hv
  have e0 : vs.getD 0 undef = .string s := vrel_litx (hv 0 (by simp))
  have e1 : vs.getD 1 undef = .int .u8 c := vrel_litx (hv 1 (by simp))
  rw [arr2x (d := undef) hn, e0, e1]
  refine (calls_indexByte s c w).mono ?_
  rintro e w' ⟨rfl, rfl⟩
  exact ⟨_, rfl, .refl _ _, .cv (.lit _)⟩
noncomputable def orc_indexByte : Orc T := orc2 .str (.int .u8) (.int .i64) (fun k s c => some (Lib.indexByte s.data.toList c.toNat.toUInt8))
theorem callee139 : CalleeOk Try.prog 139 := ⟨_, Try.func139, by decide, by simp [Try.f139]⟩
theorem orc_indexByte_good : OrcGood T (139, orc_indexByte) := orc2_good rfl callee139 fun k s c r h => by
  obtain rfl := Option.some.inj h
  exact ⟨_, rfl, fn_indexByte s c⟩
end Go.Proofs.Ytfpolhoabfadnaa.E
end
section
namespace Go.Proofs.Ytfpolhoabfadnaa.E
open Go.RowKit Go.Shelf
set_option linter.unusedVariables false
def blF : Nat → Nat
  | 169 => 96
  | n => n
def blT : Nat → Nat
  | 70 => 93
  | 9 => 9
  | 0 => 0
  | 72 => 96
  | 37 => 94
  | 127 => 132
  | 3 => 3
  | 5 => 5
  | n => n
def blays : Ren := ⟨blF, blT, fun n => n⟩
set_option maxRecDepth 100000 in
theorem blays_ok : Lays.n169 Try.prog blays :=
  { mixed := Eq.refl true, f169 := Eq.trans Try.func96 (congrArg some (Eq.refl (Body.n169 blays))), t0 := Try.underlying0, a0 := Try.isAgg0, z0 := Try.sizeOf0, v0 := Try.zeroValue0, t3 := Try.underlying3, a3 := Try.isAgg3, z3 := Try.sizeOf3, v3 := Try.zeroValue3, t9 := Try.underlying9, a9 := Try.isAgg9, z9 := Try.sizeOf9, v9 := Try.zeroValue9, t37 := Try.underlying94, a37 := Try.isAgg94, z37 := Try.sizeOf94, v37 := Try.zeroValue94, t70 := Try.underlying93, a70 := Try.isAgg93, z70 := Try.sizeOf93, v70 := Try.zeroValue93, t72 := Try.underlying96, a72 := Try.isAgg96, z72 := Try.sizeOf96, v72 := Try.zeroValue96, t127 := Try.underlying132, a127 := Try.isAgg132, z127 := Try.sizeOf132, v127 := Try.zeroValue132 }
set_option maxRecDepth 100000 in
theorem bextra : Builder.Extra Try.prog blays where
  sizeBuilder := by kernel_rfl
  liesBuilder := by kernel_rfl
  t5 := Try.underlying5
  a5 := Try.isAgg5
  z5 := Try.sizeOf5
  v5 := Try.zeroValue5
  infoByte := by kernel_rfl
  cellsByte := by kernel_rfl
  sizeByte := by kernel_rfl
  neB5 := by decide
theorem b_string (B b : Nat) (l : List UInt8) (w : World) (h : Lib.IsBuilder 96 5 B b (Lib.byteCells l) w) (hBw : B ≤ w.heap.size) :
    Calls Try.prog 96 #[.pointer (some ⟨b, 0, none⟩)] w fun e w' => e = .returned (.string ⟨l.toArray⟩) ∧ Below B w w' := Any.Builder_String_any blays_ok bextra B b l w h hBw
theorem b_size : (Try.prog.info? 96).map (·.size) = some 2 := by kernel_rfl
theorem b_lies : liesAt Try.prog Try.prog.depth 96 (2 / Try.prog.cellsOf 96) 0 96 1 = true := by kernel_rfl
theorem b_byte : (Try.prog.info? 5).map (fun i => (i.zero, i.size, i.bytes)) = some (some (.int .u8 0), 1, 1) := by kernel_rfl
set_option maxHeartbeats 1000000 in
set_option maxRecDepth 100000 in
theorem b_check_used (b : Nat) (w : World) (h0 : w.cell? ⟨b, 0, none⟩ = some (.pointer (some ⟨b, 0, none⟩))) :
    Calls Try.prog 121 #[.pointer (some ⟨b, 0, none⟩)] w fun e w' => e = .returned (.tuple #[]) ∧ w' = w := by
  obtain ⟨j, hj, _⟩ := Option.map_eq_some_iff.1 b_size
  go_enter Try.func121, Try.ntmps121
  go_wp2
  rw [Lib.run_neq_ptr_same w _ Try.underlying93 hj]
  go_wp2
  go_end0
  exact ⟨rfl, rfl⟩
set_option maxHeartbeats 1000000 in
set_option maxRecDepth 100000 in
theorem b_check_fresh (b : Nat) (w : World) (h0 : w.cell? ⟨b, 0, none⟩ = some (.pointer none)) (hsh : w.shape? b = some (96, 2)) (hfz : w.frozen? ⟨b, 0, none⟩ = false) :
    Calls Try.prog 121 #[.pointer (some ⟨b, 0, none⟩)] w fun e w' => e = .returned (.tuple #[]) ∧ w' = w.setCell ⟨b, 0, none⟩ (.pointer (some ⟨b, 0, none⟩)) := by
  obtain ⟨j, hj, hjs⟩ := Option.map_eq_some_iff.1 b_size
  go_enter Try.func121, Try.ntmps121
  go_wp2
  rw [Lib.run_to_unsafe w ⟨b, 0, none⟩ Try.underlying93 Try.underlying141 hj (by rw [hjs]; decide) hsh (Nat.zero_lt_succ 1)]
  simp only [Result.andThen]
  rw [Oper.upon_value]
  go_wp2
  rw [run_callFunc_extern Try.func135 (by kernel_rfl) (by kernel_rfl) (by kernel_rfl) (e := Extern.AbiNoEscape.same) (by kernel_rfl)]
  rw [Lib.run_noEscape]
  simp only [Result.andThen]
  rw [Oper.upon_value]
  go_wp2
  rw [Lib.run_from_unsafe w ⟨b, 0, none⟩ Try.underlying141 Try.underlying93 hj hsh b_lies]
  simp only [Result.andThen]
  rw [Oper.upon_value]
  go_wp2
  go_end0
  exact ⟨rfl, rfl⟩
theorem b_check (B b : Nat) (bs : List Value) (w : World) (h : Lib.IsBuilder 96 5 B b bs w) :
    Calls Try.prog 121 #[.pointer (some ⟨b, 0, none⟩)] w fun e w' => e = .returned (.tuple #[]) ∧ (Lib.BuilderAt 96 5 B b (.pointer (some ⟨b, 0, none⟩)) bs w' ∧ Below B w w') := by
  rcases h with h | h
  · refine (b_check_fresh b w h.cell0 h.shape h.frozen0).mono ?_
    rintro e w' ⟨rfl, rfl⟩
    exact ⟨rfl, h.used _, (Below.refl B w).setCell (p := ⟨b, 0, none⟩) h.1 _⟩
  · refine (b_check_used b w h.cell0).mono ?_
    rintro e w' ⟨rfl, rfl⟩
    exact ⟨rfl, h, Below.refl B _⟩
set_option maxHeartbeats 2000000 in
set_option maxRecDepth 100000 in
theorem b_byte_put (B b : Nat) (bs : List Value) (c : Int) (w : World) (h : Lib.IsBuilder 96 5 B b bs w) (hlen : bs.length + 1 ≤ 140737488355328) (hBw : B ≤ w.heap.size) :
    Calls Try.prog 92 #[.pointer (some ⟨b, 0, none⟩), .int .u8 c] w fun e w' => e = .returned .nilIface ∧ (Lib.BuilderAt 96 5 B b (.pointer (some ⟨b, 0, none⟩)) (bs ++ [.int .u8 c]) w' ∧ Below B w w') := by
  obtain ⟨i0, hi, hz0, hz1, hz2⟩ := info_parts b_byte
  go_enter Try.func92, Try.ntmps92
  go_wp2_with (go_at_call 121; refine (b_check B b bs _ h).mono ?_)
  rintro e w1 ⟨rfl, h1, hb1⟩
  obtain ⟨hB, v, hbk, hown, hne⟩ := h1
  have c0 : w1.cell? ⟨b, 0, none⟩ = some (.pointer (some ⟨b, 0, none⟩)) := by rw [Lib.cell_of_heap hbk]; rfl
  have c1 : w1.cell? ⟨b, 1, none⟩ = some v := by rw [Lib.cell_of_heap hbk]; rfl
  go_wp2_with (at_builtin; refine wpList_append_own _ rfl _ _ 94 rfl B 5 i0 (.int .u8 0) 1 1 Try.underlying94 hi hz0 hz1 hz2 rfl (by decide) _ _ _ rfl (hown.alloc _) ⟨w1.heap.size, 0, none⟩ 1 1 [.int .u8 c] rfl rfl ?c1 ?c2 ?c3 ?c4 ?c5 ?_)
  case c1 =>
    intro j u hj
    match j, hj with
    | 0, hj => simp at hj; subst hj; simp [Addr.add]
  case c2 => intro u hu; simp at hu; subst hu; rfl
  case c3 => unfold maxLen; omega
  case c4 => omega
  case c5 => have := hb1.size; simp; omega
  intro v' w2 hown' hgrow _
  have hlt : b < w1.heap.size := by
    rcases Nat.lt_or_ge b w1.heap.size with h' | h'
    · exact h'
    · simp [Array.getElem?_eq_none h'] at hbk
  have hb2 : w2.heap[b]? = some (.cells #[.pointer (some ⟨b, 0, none⟩), v] 96 (0, 0)) := by
    rw [hgrow.block b (by simp; omega) (fun e => hne e.symm), Lib.alloc_old w1 _ b hlt]
    exact hbk
  have d0 : w2.cell? ⟨b, 0, none⟩ = some (.pointer (some ⟨b, 0, none⟩)) := by rw [Lib.cell_of_heap hb2]; rfl
  have d1 : w2.cell? ⟨b, 1, none⟩ = some v := by rw [Lib.cell_of_heap hb2]; rfl
  have f1 : w2.frozen? ⟨b, 1, none⟩ = false := Lib.frozen_of_heap hb2 1
  obtain ⟨g, cap, rfl⟩ : ∃ g cap, v' = .slice (some ⟨g, 0, none⟩) (bs.length + 1) cap := by
    rcases hown'.2 with ⟨_, h0⟩ | ⟨g, cap, cur, hv, _⟩
    · omega
    · exact ⟨g, cap, hv⟩
  go_wp2
  go_ret
  refine ⟨rfl, ?_, ?_⟩
  · exact Lib.BuilderAt.put (T := 96) (e := 5) hB hb2 (bs' := bs ++ [.int .u8 c]) (by simpa using hown') (by decide)
  · exact ((hb1.alloc (by have := hb1.size; omega) _).grown hgrow (by have := hb1.size; simp; omega) (fun k hk => (hown.lt k hk).1)).setCell (p := ⟨b, 1, none⟩) hB _
set_option maxHeartbeats 2000000 in
set_option maxRecDepth 100000 in
theorem b_str_put (B b : Nat) (bs : List Value) (s : ByteArray) (w : World) (h : Lib.IsBuilder 96 5 B b bs w) (hlen : bs.length + s.size ≤ 140737488355328) (hBw : B ≤ w.heap.size) :
    Calls Try.prog 94 #[.pointer (some ⟨b, 0, none⟩), .string s] w fun e w' => e = .returned (.tuple #[.int .i64 s.size, .nilIface]) ∧ (Lib.BuilderAt 96 5 B b (.pointer (some ⟨b, 0, none⟩)) (bs ++ Lib.strCells s) w' ∧ Below B w w') := by
  obtain ⟨i0, hi, hz0, hz1, hz2⟩ := info_parts b_byte
  go_enter Try.func94, Try.ntmps94
  go_wp2_with (go_at_call 121; refine (b_check B b bs _ h).mono ?_)
  rintro e w1 ⟨rfl, h1, hb1⟩
  obtain ⟨hB, v, hbk, hown, hne⟩ := h1
  have c0 : w1.cell? ⟨b, 0, none⟩ = some (.pointer (some ⟨b, 0, none⟩)) := by rw [Lib.cell_of_heap hbk]; rfl
  have c1 : w1.cell? ⟨b, 1, none⟩ = some v := by rw [Lib.cell_of_heap hbk]; rfl
  go_wp2_with (at_builtin; refine Lib.wpList_append_own_string _ rfl _ _ 94 9 rfl B 5 i0 Try.underlying94 Try.underlying9 hi hz0 hz1 hz2 _ _ _ rfl hown s rfl ?c3 ?c4 ?c5 ?_)
  case c3 => unfold maxLen; omega
  case c4 => omega
  case c5 => have := hb1.size; omega
  intro v' w2 hown' hgrow _
  have hlt : b < w1.heap.size := by
    rcases Nat.lt_or_ge b w1.heap.size with h' | h'
    · exact h'
    · simp [Array.getElem?_eq_none h'] at hbk
  have hb2 : w2.heap[b]? = some (.cells #[.pointer (some ⟨b, 0, none⟩), v] 96 (0, 0)) := by
    rw [hgrow.block b hlt (fun e => hne e.symm)]
    exact hbk
  have d0 : w2.cell? ⟨b, 0, none⟩ = some (.pointer (some ⟨b, 0, none⟩)) := by rw [Lib.cell_of_heap hb2]; rfl
  have d1 : w2.cell? ⟨b, 1, none⟩ = some v := by rw [Lib.cell_of_heap hb2]; rfl
  have f1 : w2.frozen? ⟨b, 1, none⟩ = false := Lib.frozen_of_heap hb2 1
  obtain ⟨ao, n', cap, rfl⟩ : ∃ ao n' cap, v' = .slice ao n' cap := by
    rcases hown'.2 with ⟨hv, _⟩ | ⟨g, cap, cur, hv, _⟩
    · exact ⟨_, _, _, hv⟩
    · exact ⟨_, _, _, hv⟩
  go_wp2
  go_ret2
  refine ⟨rfl, ?_, ?_⟩
  · exact Lib.BuilderAt.put (T := 96) (e := 5) hB hb2 (bs' := bs ++ Lib.strCells s) (by simpa [Lib.strCells_length] using hown') (by decide)
  · exact (hb1.grown hgrow (by have := hb1.size; omega) (fun k hk => (hown.lt k hk).1)).setCell (p := ⟨b, 1, none⟩) hB _
end Go.Proofs.Ytfpolhoabfadnaa.E
end
