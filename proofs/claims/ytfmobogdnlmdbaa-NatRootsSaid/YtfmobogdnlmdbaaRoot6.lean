/- NatRoots: Root of a magnitude of at most 30 words is the integer part of its square root, for every input. No condition. (text 6 of 6) -/
import Derived.Laws.BitsLemmas
import Derived.SizedLaws
import Derived.ChangeSlices
import Derived.Test.YtfmobogdnlmdbaaRows
import Derived.WalkKit
import Derived.ProofKit
import Derived.OpenShut
import Derived.ShutString
import Derived.ChangeOld
import Derived.Below
import Derived.Test.YtfmobogdnlmdbaaRoot5
section
namespace Go.Proofs.Ytfmobogdnlmdbaa.P
open Go.RowKit Go.Proofs.YtfmobogdnlmdbaaW.PrintWords Go.Proofs.YtfmobogdnlmdbaaW.PrintLast Go.Proofs.YtfmobogdnlmdbaaW.PrintMore Go.Proofs.YtfmobogdnlmdbaaW
attribute [local go_sem] max2_int min2_int max_two min_two max_three min_three max_four min_four
set_option linter.unusedVariables false
set_option linter.unusedSimpArgs false
set_option maxHeartbeats 8000000 in
set_option maxRecDepth 100000 in
theorem isochroneref01_Add.calls (k : Nat) (A0 : Option Addr) (c0 : Nat) (l0 : List Int) (A1 : Option Addr) (c1 : Nat) (l1 : List Int) (r : List Int) (w : World) (hr0 : Kd.C (Kd.int .i64) w A0 l0.length l0) (hc0 : l0.length ≤ c0) (hr1 : Kd.C (Kd.int .i64) w A1 l1.length l1) (hc1 : l1.length ≤ c1) (h : isochroneref01_Add.f k l0 l1 = some r) :
  Calls Try.prog 16 #[.slice A0 l0.length c0, .slice A1 l1.length c1] w fun e w' => ∃ v0_ : Value, e = .returned (v0_) ∧ Kd.R (Kd.int .i64) 3 w' w.heap.size (fun _ => True) v0_ r ∧ Below w.heap.size w w' := by
 have HR0 := Aside0.mk hr0
 have HC0 := Aside0.mk hc0
 clear hr0 hc0
 have HR1 := Aside0.mk hr1
 have HC1 := Aside0.mk hc1
 clear hr1 hc1
 have HB := Aside0.mk (Below.refl w.heap.size w)
 have H : (isochroneref01_Add.l0 k l0 l1 ([] : List Int) 0 0) = some r := h
 clear h
 have H' := Aside0.mk H
 clear H
 go_enter Try.func16, Try.ntmps16
 go_wp2
 go_loopg [5, 6, 7] k (fun kq v5 v6 v7 w' => ∃ (x5_1 : List Int) (x6_1 : Int) (x7_1 : Int), v6 = .int .i64 x6_1 ∧ v7 = .int .i64 x7_1 ∧ Aside0 (isochroneref01_Add.l0 kq l0 l1 x5_1 x6_1 x7_1 = some r) ∧ Aside0 (kq ≤ k) ∧ Aside0 (Kd.R (Kd.int .i64) 3 w' w.heap.size (fun _ => True) v5 x5_1) ∧ Aside0 (Below w.heap.size w w'))
 case atStart => exact ⟨(([] : List Int)), (0), (0), (by first | rfl | (simp; done) | (simp [*]; done)), (by first | rfl | (simp; done) | (simp [*]; done)), H', ⟨Nat.le_refl _⟩, ⟨by first | exact Kd.R_nil _ _ _ _ _ | exact Kd.N_nil _ _ _ _ _ | exact Kd.V_nil _ _ _ _ _ | exact Kd.Q_nil _ _ _ _ _ | exact Kd.S_nil _ _ _ _ _⟩, ⟨by repeat (first | (with_reducible first | exact HB.out | apply below_alloc | apply pw_below_drewN | apply below_drew1) | exact HB.out)⟩⟩
 case round =>
  clear H'
  try clear c1
  try clear p2
  obtain ⟨x5_1, x6_1, x7_1, rfl, rfl, HA, HK1, HO_5, HB⟩ := hrel
  cases gk with
  | zero => exact absurd HA.out (by simp [isochroneref01_Add.l0])
  | succ k1 =>
   have H := HA.out
   clear HA
   simp only [isochroneref01_Add.l0] at H
   have HC3 := Aside0.mk H
   clear H
   go_upto_region 4 with (fail)
   go_cut [21] (fun v21 wc => ∃ (kq : Nat) (x21_2 : Bool), v21 = .bool x21_2 ∧ Aside0 (isochroneref01_Add.j1 kq l0 l1 x5_1 x6_1 x7_1 x21_2 = some r) ∧ Aside0 (kq ≤ k1) ∧ Aside0 (Kd.R (Kd.int .i64) 3 wc w.heap.size (fun _ => True) u5 x5_1) ∧ Aside0 (Below w.heap.size w wc))
   case first =>
    have H := HC3.out
    clear HC3
    by_cases c4 : x7_1 < (l0.length : Int)
    ·rw [if_pos c4] at H
     have c4b0 : decide (x7_1 < (l0.length : Int)) = true := decide_eq_true c4
     clear c4
     (first | rw [c4b0] | (simp only [i64_w, i32_w]; rw [c4b0]) | rw [c4b1] | skip)
     have H' := Aside0.mk H
     clear H
     go_wp2
     go_meet
     case rel => exact ⟨_, (true), (by first | rfl | (simp; done) | (simp [*]; done)), H', ⟨by have := HK1.out; first | omega | exact Nat.le_refl _⟩, ⟨by (with_reducible repeat (first | apply Kd.R_alloc | apply Kd.R_drewN | apply Kd.R_drew)); exact HO_5.out⟩, ⟨by repeat (first | (with_reducible first | exact HB.out | apply below_alloc | apply pw_below_drewN | apply below_drew1) | exact HB.out)⟩⟩
    ·rw [if_neg c4] at H
     have c4b0 : decide (x7_1 < (l0.length : Int)) = false := decide_eq_false c4
     clear c4
     (first | rw [c4b0] | (simp only [i64_w, i32_w]; rw [c4b0]) | rw [c4b1] | skip)
     by_cases c5 : x7_1 < (l1.length : Int)
     ·rw [if_pos c5] at H
      have c5b0 : decide (x7_1 < (l1.length : Int)) = true := decide_eq_true c5
      clear c5
      have H' := Aside0.mk H
      clear H
      go_wp2
      go_meet
      case rel => exact ⟨_, (true), (by first | rfl | (simp; done) | (simp [*]; done)), H', ⟨by have := HK1.out; first | omega | exact Nat.le_refl _⟩, ⟨by (with_reducible repeat (first | apply Kd.R_alloc | apply Kd.R_drewN | apply Kd.R_drew)); exact HO_5.out⟩, ⟨by repeat (first | (with_reducible first | exact HB.out | apply below_alloc | apply pw_below_drewN | apply below_drew1) | exact HB.out)⟩⟩
     ·rw [if_neg c5] at H
      have c5b0 : decide (x7_1 < (l1.length : Int)) = false := decide_eq_false c5
      clear c5
      have H' := Aside0.mk H
      clear H
      go_wp2
      go_meet
      case rel => exact ⟨_, (decide (x6_1 > 0)), (by first | rfl | (simp; done) | (simp [*]; done)), H', ⟨by have := HK1.out; first | omega | exact Nat.le_refl _⟩, ⟨by (with_reducible repeat (first | apply Kd.R_alloc | apply Kd.R_drewN | apply Kd.R_drew)); exact HO_5.out⟩, ⟨by repeat (first | (with_reducible first | exact HB.out | apply below_alloc | apply pw_below_drewN | apply below_drew1) | exact HB.out)⟩⟩
   case rest =>
    clear HC3
    try clear c1
    try clear p2
    try clear c4
    try clear c4b0
    try clear c4b1
    try clear c5
    try clear c5b0
    try clear p2
    obtain ⟨kq, x21_2, rfl, HA, HJ2, HO_5, HB⟩ := hcut
    cases kq with
    | zero => exact absurd HA.out (by simp [isochroneref01_Add.j1])
    | succ kj2 =>
     have H := HA.out
     clear HA
     simp only [isochroneref01_Add.j1] at H
     by_cases c6 : x21_2 = true
     ·subst c6
      have H1 : (if x7_1 < (l0.length : Int) then (if 0 ≤ x7_1 then (if x7_1 < (l1.length : Int) then (if x5_1.length < 17592186044416 then (isochroneref01_Add.l0 kj2 l0 l1 (x5_1 ++ [Int.tmod (wrap64 ((wrap64 (x6_1 + (rd l0 x7_1))) + (rd l1 x7_1))) 10000]) (wrap64 (Int.tdiv (wrap64 ((wrap64 (x6_1 + (rd l0 x7_1))) + (rd l1 x7_1))) 10000)) (wrap64 (x7_1 + 1))) else (none)) else (if x5_1.length < 17592186044416 then (isochroneref01_Add.l0 kj2 l0 l1 (x5_1 ++ [Int.tmod (wrap64 (x6_1 + (rd l0 x7_1))) 10000]) (wrap64 (Int.tdiv (wrap64 (x6_1 + (rd l0 x7_1))) 10000)) (wrap64 (x7_1 + 1))) else (none))) else (none)) else (if x7_1 < (l1.length : Int) then (if 0 ≤ x7_1 then (if x5_1.length < 17592186044416 then (isochroneref01_Add.l0 kj2 l0 l1 (x5_1 ++ [Int.tmod (wrap64 (x6_1 + (rd l1 x7_1))) 10000]) (wrap64 (Int.tdiv (wrap64 (x6_1 + (rd l1 x7_1))) 10000)) (wrap64 (x7_1 + 1))) else (none)) else (none)) else (if x5_1.length < 17592186044416 then (isochroneref01_Add.l0 kj2 l0 l1 (x5_1 ++ [Int.tmod x6_1 10000]) (wrap64 (Int.tdiv x6_1 10000)) (wrap64 (x7_1 + 1))) else (none)))) = some r := by rw [if_pos rfl] at H; exact H
      clear H
      have H := H1
      clear H1
      by_cases c7 : x7_1 < (l0.length : Int)
      ·rw [if_pos c7] at H
       have c7b0 : decide (x7_1 < (l0.length : Int)) = true := decide_eq_true c7
       clear c7
       by_cases c8 : 0 ≤ x7_1
       ·rw [if_pos c8] at H
        have c8b0 : decide (0 ≤ x7_1) = true := decide_eq_true c8
        clear c8
        by_cases c9 : x7_1 < (l1.length : Int)
        ·rw [if_pos c9] at H
         have c9b0 : decide (x7_1 < (l1.length : Int)) = true := decide_eq_true c9
         clear c9
         by_cases c10 : x5_1.length < 17592186044416
         ·rw [if_pos c10] at H
          have LMc10 := Aside0.mk c10
          clear c10
          obtain ⟨y384, hy384⟩ : ∃ y_ : List Int, y_ = (x5_1 ++ [Int.tmod (wrap64 ((wrap64 (x6_1 + (rd l0 x7_1))) + (rd l1 x7_1))) 10000]) := ⟨_, rfl⟩
          replace H : (isochroneref01_Add.l0 kj2 l0 l1 y384 (wrap64 (Int.tdiv (wrap64 ((wrap64 (x6_1 + (rd l0 x7_1))) + (rd l1 x7_1))) 10000)) (wrap64 (x7_1 + 1))) = some r := by first | (rw [hy384]; with_reducible exact H) | (have H2_ := (Option.bind_some _ _).symm.trans H; rw [hy384]; with_reducible exact H2_) | (have H2_ := (Option.bind_some _ _).symm.trans H; with_reducible exact H2_) | with_reducible exact H | (rw [hy384]; exact H) | exact H
          have Ny384 := Aside0.mk hy384
          clear hy384
          have H' := Aside0.mk H
          clear H
          have p382 : 0 ≤ (x7_1 : Int) := of_decide_eq_true aS
          have q382 : x7_1 < (l0.length : Int) := of_decide_eq_true aS
          obtain ⟨ad382, e382, hx382_0⟩ := Kd.at_int HR0.out x7_1 p382 q382
          cases e382
          replace hx382_0 := (HB.out.cell (World.block_lt_of_cell? w _ hx382_0)).trans hx382_0
          replace p382 := eq_true p382
          replace q382 := eq_true q382
          have p383 : 0 ≤ (x7_1 : Int) := of_decide_eq_true aS
          have q383 : x7_1 < (l1.length : Int) := of_decide_eq_true aS
          obtain ⟨ad383, e383, hx383_0⟩ := Kd.at_int HR1.out x7_1 p383 q383
          cases e383
          replace hx383_0 := (HB.out.cell (World.block_lt_of_cell? w _ hx383_0)).trans hx383_0
          replace p383 := eq_true p383
          replace q383 := eq_true q383
          go_wp2_with (first | ((with_reducible refine gate_builtin (b := .append) (xs := #[.tmp 44, .tmp 47]) rfl ?_); (try (refine gate_guard (by rfl) ?_; dsimp only)); at_builtin; refine Kd.R_append (Kd.int .i64) (w0 := w) w.heap.size rfl (.tmp 44) (.tmp 47) 30 3 (.int .i64 0) 8 rfl Try.underlying30 info3 rfl (by decide) (by omega) u5 x5_1 (Int.tmod (wrap64 ((wrap64 (x6_1 + (rd l0 x7_1))) + (rd l1 x7_1))) 10000) [.int .i64 (Int.tmod (wrap64 ((wrap64 (x6_1 + (rd l0 x7_1))) + (rd l1 x7_1))) 10000)] (fun _ => True) (fun _ => False) rfl (by first | rfl | (go_simp; done) | (go_simp; rfl)) ?aP (fun _ hk => hk.elim) ?aF ?aO ?aB ?aS ?aL ?_; (case aP => exact rfl); (case aB => exact (bB)); (case aF => exact (fun _ _ => trivial)); (case aO => exact (by (with_reducible repeat (first | apply Kd.R_alloc | apply Kd.R_drewN | apply Kd.R_drew)); exact HO_5.out)); (case aS => exact (below_size (bB))); (case aL => have := LMc10.out; omega); intro v385 w11 ho hb hg hat; rw [← Ny384.out] at ho; have n0_ := Aside0.mk (hb); have n1_ := Aside0.mk (ho); clear HB; clear HO_5; have HB := n0_; have HO386 := n1_; clear n0_ n1_; clear ho hb hg hat))
          go_roundg kj2
          case measure => have := HK1.out; have := HJ2.out; omega
          case rel => exact ⟨(y384), (wrap64 (Int.tdiv (wrap64 ((wrap64 (x6_1 + (rd l0 x7_1))) + (rd l1 x7_1))) 10000)), (wrap64 (x7_1 + 1)), (by first | rfl | (simp; done) | (simp [*]; done)), (by first | rfl | (simp; done) | (simp [*]; done)), H', ⟨by have := HK1.out; have := HJ2.out; omega⟩, ⟨by (with_reducible repeat (first | apply Kd.R_alloc | apply Kd.R_drewN | apply Kd.R_drew)); exact HO386.out⟩, ⟨by repeat (first | (with_reducible first | exact HB.out | apply below_alloc | apply pw_below_drewN | apply below_drew1) | exact HB.out)⟩⟩
         ·rw [if_neg c10] at H
          exact absurd H (by simp)
        ·rw [if_neg c9] at H
         have c9b0 : decide (x7_1 < (l1.length : Int)) = false := decide_eq_false c9
         clear c9
         by_cases c12 : x5_1.length < 17592186044416
         ·rw [if_pos c12] at H
          have LMc12 := Aside0.mk c12
          clear c12
          obtain ⟨y387, hy387⟩ : ∃ y_ : List Int, y_ = (x5_1 ++ [Int.tmod (wrap64 (x6_1 + (rd l0 x7_1))) 10000]) := ⟨_, rfl⟩
          replace H : (isochroneref01_Add.l0 kj2 l0 l1 y387 (wrap64 (Int.tdiv (wrap64 (x6_1 + (rd l0 x7_1))) 10000)) (wrap64 (x7_1 + 1))) = some r := by first | (rw [hy387]; with_reducible exact H) | (have H2_ := (Option.bind_some _ _).symm.trans H; rw [hy387]; with_reducible exact H2_) | (have H2_ := (Option.bind_some _ _).symm.trans H; with_reducible exact H2_) | with_reducible exact H | (rw [hy387]; exact H) | exact H
          have Ny387 := Aside0.mk hy387
          clear hy387
          have H' := Aside0.mk H
          clear H
          have p382 : 0 ≤ (x7_1 : Int) := of_decide_eq_true aS
          have q382 : x7_1 < (l0.length : Int) := of_decide_eq_true aS
          obtain ⟨ad382, e382, hx382_0⟩ := Kd.at_int HR0.out x7_1 p382 q382
          cases e382
          replace hx382_0 := (HB.out.cell (World.block_lt_of_cell? w _ hx382_0)).trans hx382_0
          replace p382 := eq_true p382
          replace q382 := eq_true q382
          go_wp2_with (first | ((with_reducible refine gate_builtin (b := .append) (xs := #[.tmp 44, .tmp 47]) rfl ?_); (try (refine gate_guard (by rfl) ?_; dsimp only)); at_builtin; refine Kd.R_append (Kd.int .i64) (w0 := w) w.heap.size rfl (.tmp 44) (.tmp 47) 30 3 (.int .i64 0) 8 rfl Try.underlying30 info3 rfl (by decide) (by omega) u5 x5_1 (Int.tmod (wrap64 (x6_1 + (rd l0 x7_1))) 10000) [.int .i64 (Int.tmod (wrap64 (x6_1 + (rd l0 x7_1))) 10000)] (fun _ => True) (fun _ => False) rfl (by first | rfl | (go_simp; done) | (go_simp; rfl)) ?aP (fun _ hk => hk.elim) ?aF ?aO ?aB ?aS ?aL ?_; (case aP => exact rfl); (case aB => exact (bB)); (case aF => exact (fun _ _ => trivial)); (case aO => exact (by (with_reducible repeat (first | apply Kd.R_alloc | apply Kd.R_drewN | apply Kd.R_drew)); exact HO_5.out)); (case aS => exact (below_size (bB))); (case aL => have := LMc12.out; omega); intro v388 w13 ho hb hg hat; rw [← Ny387.out] at ho; have n0_ := Aside0.mk (hb); have n1_ := Aside0.mk (ho); clear HB; clear HO_5; have HB := n0_; have HO389 := n1_; clear n0_ n1_; clear ho hb hg hat))
          go_roundg kj2
          case measure => have := HK1.out; have := HJ2.out; omega
          case rel => exact ⟨(y387), (wrap64 (Int.tdiv (wrap64 (x6_1 + (rd l0 x7_1))) 10000)), (wrap64 (x7_1 + 1)), (by first | rfl | (simp; done) | (simp [*]; done)), (by first | rfl | (simp; done) | (simp [*]; done)), H', ⟨by have := HK1.out; have := HJ2.out; omega⟩, ⟨by (with_reducible repeat (first | apply Kd.R_alloc | apply Kd.R_drewN | apply Kd.R_drew)); exact HO389.out⟩, ⟨by repeat (first | (with_reducible first | exact HB.out | apply below_alloc | apply pw_below_drewN | apply below_drew1) | exact HB.out)⟩⟩
         ·rw [if_neg c12] at H
          exact absurd H (by simp)
       ·rw [if_neg c8] at H
        exact absurd H (by simp)
      ·rw [if_neg c7] at H
       have c7b0 : decide (x7_1 < (l0.length : Int)) = false := decide_eq_false c7
       clear c7
       by_cases c14 : x7_1 < (l1.length : Int)
       ·rw [if_pos c14] at H
        have c14b0 : decide (x7_1 < (l1.length : Int)) = true := decide_eq_true c14
        clear c14
        by_cases c15 : 0 ≤ x7_1
        ·rw [if_pos c15] at H
         have c15b0 : decide (0 ≤ x7_1) = true := decide_eq_true c15
         clear c15
         by_cases c16 : x5_1.length < 17592186044416
         ·rw [if_pos c16] at H
          have LMc16 := Aside0.mk c16
          clear c16
          obtain ⟨y391, hy391⟩ : ∃ y_ : List Int, y_ = (x5_1 ++ [Int.tmod (wrap64 (x6_1 + (rd l1 x7_1))) 10000]) := ⟨_, rfl⟩
          replace H : (isochroneref01_Add.l0 kj2 l0 l1 y391 (wrap64 (Int.tdiv (wrap64 (x6_1 + (rd l1 x7_1))) 10000)) (wrap64 (x7_1 + 1))) = some r := by first | (rw [hy391]; with_reducible exact H) | (have H2_ := (Option.bind_some _ _).symm.trans H; rw [hy391]; with_reducible exact H2_) | (have H2_ := (Option.bind_some _ _).symm.trans H; with_reducible exact H2_) | with_reducible exact H | (rw [hy391]; exact H) | exact H
          have Ny391 := Aside0.mk hy391
          clear hy391
          have H' := Aside0.mk H
          clear H
          have p390 : 0 ≤ (x7_1 : Int) := of_decide_eq_true aS
          have q390 : x7_1 < (l1.length : Int) := of_decide_eq_true aS
          obtain ⟨ad390, e390, hx390_0⟩ := Kd.at_int HR1.out x7_1 p390 q390
          cases e390
          replace hx390_0 := (HB.out.cell (World.block_lt_of_cell? w _ hx390_0)).trans hx390_0
          replace p390 := eq_true p390
          replace q390 := eq_true q390
          go_wp2_with (first | ((with_reducible refine gate_builtin (b := .append) (xs := #[.tmp 44, .tmp 47]) rfl ?_); (try (refine gate_guard (by rfl) ?_; dsimp only)); at_builtin; refine Kd.R_append (Kd.int .i64) (w0 := w) w.heap.size rfl (.tmp 44) (.tmp 47) 30 3 (.int .i64 0) 8 rfl Try.underlying30 info3 rfl (by decide) (by omega) u5 x5_1 (Int.tmod (wrap64 (x6_1 + (rd l1 x7_1))) 10000) [.int .i64 (Int.tmod (wrap64 (x6_1 + (rd l1 x7_1))) 10000)] (fun _ => True) (fun _ => False) rfl (by first | rfl | (go_simp; done) | (go_simp; rfl)) ?aP (fun _ hk => hk.elim) ?aF ?aO ?aB ?aS ?aL ?_; (case aP => exact rfl); (case aB => exact (bB)); (case aF => exact (fun _ _ => trivial)); (case aO => exact (by (with_reducible repeat (first | apply Kd.R_alloc | apply Kd.R_drewN | apply Kd.R_drew)); exact HO_5.out)); (case aS => exact (below_size (bB))); (case aL => have := LMc16.out; omega); intro v392 w17 ho hb hg hat; rw [← Ny391.out] at ho; have n0_ := Aside0.mk (hb); have n1_ := Aside0.mk (ho); clear HB; clear HO_5; have HB := n0_; have HO393 := n1_; clear n0_ n1_; clear ho hb hg hat))
          go_roundg kj2
          case measure => have := HK1.out; have := HJ2.out; omega
          case rel => exact ⟨(y391), (wrap64 (Int.tdiv (wrap64 (x6_1 + (rd l1 x7_1))) 10000)), (wrap64 (x7_1 + 1)), (by first | rfl | (simp; done) | (simp [*]; done)), (by first | rfl | (simp; done) | (simp [*]; done)), H', ⟨by have := HK1.out; have := HJ2.out; omega⟩, ⟨by (with_reducible repeat (first | apply Kd.R_alloc | apply Kd.R_drewN | apply Kd.R_drew)); exact HO393.out⟩, ⟨by repeat (first | (with_reducible first | exact HB.out | apply below_alloc | apply pw_below_drewN | apply below_drew1) | exact HB.out)⟩⟩
         ·rw [if_neg c16] at H
          exact absurd H (by simp)
        ·rw [if_neg c15] at H
         exact absurd H (by simp)
       ·rw [if_neg c14] at H
        have c14b0 : decide (x7_1 < (l1.length : Int)) = false := decide_eq_false c14
        clear c14
        by_cases c18 : x5_1.length < 17592186044416
        ·rw [if_pos c18] at H
         have LMc18 := Aside0.mk c18
         clear c18
         obtain ⟨y394, hy394⟩ : ∃ y_ : List Int, y_ = (x5_1 ++ [Int.tmod x6_1 10000]) := ⟨_, rfl⟩
         replace H : (isochroneref01_Add.l0 kj2 l0 l1 y394 (wrap64 (Int.tdiv x6_1 10000)) (wrap64 (x7_1 + 1))) = some r := by first | (rw [hy394]; with_reducible exact H) | (have H2_ := (Option.bind_some _ _).symm.trans H; rw [hy394]; with_reducible exact H2_) | (have H2_ := (Option.bind_some _ _).symm.trans H; with_reducible exact H2_) | with_reducible exact H | (rw [hy394]; exact H) | exact H
         have Ny394 := Aside0.mk hy394
         clear hy394
         have H' := Aside0.mk H
         clear H
         go_wp2_with (first | ((with_reducible refine gate_builtin (b := .append) (xs := #[.tmp 44, .tmp 47]) rfl ?_); (try (refine gate_guard (by rfl) ?_; dsimp only)); at_builtin; refine Kd.R_append (Kd.int .i64) (w0 := w) w.heap.size rfl (.tmp 44) (.tmp 47) 30 3 (.int .i64 0) 8 rfl Try.underlying30 info3 rfl (by decide) (by omega) u5 x5_1 (Int.tmod x6_1 10000) [.int .i64 (Int.tmod x6_1 10000)] (fun _ => True) (fun _ => False) rfl (by first | rfl | (go_simp; done) | (go_simp; rfl)) ?aP (fun _ hk => hk.elim) ?aF ?aO ?aB ?aS ?aL ?_; (case aP => exact rfl); (case aB => exact (bB)); (case aF => exact (fun _ _ => trivial)); (case aO => exact (by (with_reducible repeat (first | apply Kd.R_alloc | apply Kd.R_drewN | apply Kd.R_drew)); exact HO_5.out)); (case aS => exact (below_size (bB))); (case aL => have := LMc18.out; omega); intro v395 w19 ho hb hg hat; rw [← Ny394.out] at ho; have n0_ := Aside0.mk (hb); have n1_ := Aside0.mk (ho); clear HB; clear HO_5; have HB := n0_; have HO396 := n1_; clear n0_ n1_; clear ho hb hg hat))
         go_roundg kj2
         case measure => have := HK1.out; have := HJ2.out; omega
         case rel => exact ⟨(y394), (wrap64 (Int.tdiv x6_1 10000)), (wrap64 (x7_1 + 1)), (by first | rfl | (simp; done) | (simp [*]; done)), (by first | rfl | (simp; done) | (simp [*]; done)), H', ⟨by have := HK1.out; have := HJ2.out; omega⟩, ⟨by (with_reducible repeat (first | apply Kd.R_alloc | apply Kd.R_drewN | apply Kd.R_drew)); exact HO396.out⟩, ⟨by repeat (first | (with_reducible first | exact HB.out | apply below_alloc | apply pw_below_drewN | apply below_drew1) | exact HB.out)⟩⟩
        ·rw [if_neg c18] at H
         exact absurd H (by simp)
     ·replace c6 := Bool.eq_false_iff.mpr c6
      subst c6
      have H1 : (some x5_1) = some r := by rw [if_neg (show ¬ (false = true) by decide)] at H; exact H
      clear H
      have H := H1
      clear H1
      obtain rfl := Option.some.inj H
      go_wp2
      go_ret
      exact ⟨_, by first | rfl | (simp [errW_none, errW_some] <;> rfl) | (simp [*, errW_none, errW_some] <;> rfl), by (with_reducible repeat (first | apply Kd.R_alloc | apply Kd.R_drewN | apply Kd.R_drew)); exact HO_5.out, by repeat (first | (with_reducible first | exact HB.out | apply below_alloc | apply pw_below_drewN | apply below_drew1) | exact HB.out)⟩
set_option maxHeartbeats 8000000 in
set_option maxRecDepth 100000 in
theorem isochroneref01_Int.calls (k : Nat) (a0 : Int) (r : List Int) (w : World) (h : isochroneref01_Int.f k a0 = some r) :
  Calls Try.prog 17 #[.int .i64 a0] w fun e w' => ∃ v0_ : Value, e = .returned (v0_) ∧ Kd.R (Kd.int .i64) 3 w' w.heap.size (fun _ => True) v0_ r ∧ Below w.heap.size w w' := by
 have HB := Aside0.mk (Below.refl w.heap.size w)
 have H : (isochroneref01_Int.l0 k a0 (([] : List Int))) = some r := h
 clear h
 obtain ⟨y397, hy397⟩ : ∃ y_ : List Int, y_ = (([] : List Int)) := ⟨_, rfl⟩
 replace H : (isochroneref01_Int.l0 k a0 y397) = some r := by first | (rw [hy397]; with_reducible exact H) | (have H2_ := (Option.bind_some _ _).symm.trans H; rw [hy397]; with_reducible exact H2_) | (have H2_ := (Option.bind_some _ _).symm.trans H; with_reducible exact H2_) | with_reducible exact H | (rw [hy397]; exact H) | exact H
 have Ny397 := Aside0.mk hy397
 clear hy397
 have H' := Aside0.mk H
 clear H
 go_enter Try.func17, Try.ntmps17
 go_wp2_with (first | ((with_reducible refine gate_dst (N := 4) rfl ?_); refine Kd.R_lit (Kd.int .i64) _ 3 ?hg (N := 4) ?hd (xs := ([] : List Int)) (inner := []) (ok := fun _ => True) (okp := fun _ => True) ?hr ?hp (fun _ hk => hk) trivial (Below.refl _ _) (Nat.le_refl _) (by simp) ?_; (case hd => rfl); (case hg => rfl); (case hr => first | (go_simp; done) | (go_simp; rfl)); (case hp => exact (Reps.none _ _)); intro v398 w2 ho3 hb hg_ hnew_; clear hg_ hnew_; (first | rw [← Ny397.out] at ho3 | (simp only [Int.reduceToNat] at ho3; rw [← Ny397.out] at ho3)); have n0_ := Aside0.mk (Kd.R_lower ho3 (below_size (bB))); have n1_ := Aside0.mk (below_step (bB) hb); clear HB; have HO399 := n0_; have HB := n1_; clear n0_ n1_; clear hb ho3))
 go_loopg [0, 3] k (fun kq v0 v3 w' => ∃ (x0_1 : Int) (x3_1 : List Int), v0 = .int .i64 x0_1 ∧ Aside0 (isochroneref01_Int.l0 kq x0_1 x3_1 = some r) ∧ Aside0 (kq ≤ k) ∧ Aside0 (Kd.R (Kd.int .i64) 3 w' w.heap.size (fun _ => True) v3 x3_1) ∧ Aside0 (Below w.heap.size w w'))
 case atStart => exact ⟨(a0), (y397), (by first | rfl | (simp; done) | (simp [*]; done)), H', ⟨Nat.le_refl _⟩, ⟨by (with_reducible repeat (first | apply Kd.R_alloc | apply Kd.R_drewN | apply Kd.R_drew)); exact HO399.out⟩, ⟨by repeat (first | (with_reducible first | exact HB.out | apply below_alloc | apply pw_below_drewN | apply below_drew1) | exact HB.out)⟩⟩
 case round =>
  clear H'
  try clear c1
  try clear p2
  obtain ⟨x0_1, x3_1, rfl, HA, HK1, HO_3, HB⟩ := hrel
  cases gk with
  | zero => exact absurd HA.out (by simp [isochroneref01_Int.l0])
  | succ k1 =>
   have H := HA.out
   clear HA
   simp only [isochroneref01_Int.l0] at H
   by_cases c4 : x0_1 > 0
   ·rw [if_pos c4] at H
    have c4b0 : decide (0 < x0_1) = true := decide_eq_true c4
    clear c4
    by_cases c5 : x3_1.length < 17592186044416
    ·rw [if_pos c5] at H
     have LMc5 := Aside0.mk c5
     clear c5
     obtain ⟨y400, hy400⟩ : ∃ y_ : List Int, y_ = (x3_1 ++ [Int.tmod x0_1 10000]) := ⟨_, rfl⟩
     replace H : (isochroneref01_Int.l0 k1 (wrap64 (Int.tdiv x0_1 10000)) y400) = some r := by first | (rw [hy400]; with_reducible exact H) | (have H2_ := (Option.bind_some _ _).symm.trans H; rw [hy400]; with_reducible exact H2_) | (have H2_ := (Option.bind_some _ _).symm.trans H; with_reducible exact H2_) | with_reducible exact H | (rw [hy400]; exact H) | exact H
     have Ny400 := Aside0.mk hy400
     clear hy400
     have H' := Aside0.mk H
     clear H
     go_wp2_with (first | ((with_reducible refine gate_builtin (b := .append) (xs := #[.tmp 7, .tmp 10]) rfl ?_); at_builtin; refine Kd.R_append (Kd.int .i64) (w0 := w) w.heap.size rfl (.tmp 7) (.tmp 10) 30 3 (.int .i64 0) 8 rfl Try.underlying30 info3 rfl (by decide) (by omega) u3 x3_1 (Int.tmod x0_1 10000) [.int .i64 (Int.tmod x0_1 10000)] (fun _ => True) (fun _ => False) rfl (by first | rfl | (go_simp; done) | (go_simp; rfl)) ?aP (fun _ hk => hk.elim) ?aF ?aO ?aB ?aS ?aL ?_; (case aP => exact rfl); (case aB => exact (bB)); (case aF => exact (fun _ _ => trivial)); (case aO => exact (by (with_reducible repeat (first | apply Kd.R_alloc | apply Kd.R_drewN | apply Kd.R_drew)); exact HO_3.out)); (case aS => exact (below_size (bB))); (case aL => have := LMc5.out; omega); intro v401 w6 ho hb hg hat; rw [← Ny400.out] at ho; have n0_ := Aside0.mk (hb); have n1_ := Aside0.mk (ho); clear HB; clear HO_3; have HB := n0_; have HO402 := n1_; clear n0_ n1_; clear ho hb hg hat))
     go_roundg k1
     case measure => have := HK1.out; omega
     case rel => exact ⟨(wrap64 (Int.tdiv x0_1 10000)), (y400), (by first | rfl | (simp; done) | (simp [*]; done)), H', ⟨by have := HK1.out; omega⟩, ⟨by (with_reducible repeat (first | apply Kd.R_alloc | apply Kd.R_drewN | apply Kd.R_drew)); exact HO402.out⟩, ⟨by repeat (first | (with_reducible first | exact HB.out | apply below_alloc | apply pw_below_drewN | apply below_drew1) | exact HB.out)⟩⟩
    ·rw [if_neg c5] at H
     exact absurd H (by simp)
   ·rw [if_neg c4] at H
    have c4b0 : decide (0 < x0_1) = false := decide_eq_false c4
    clear c4
    obtain rfl := Option.some.inj H
    go_wp2
    go_ret
    exact ⟨_, by first | rfl | (simp [errW_none, errW_some] <;> rfl) | (simp [*, errW_none, errW_some] <;> rfl), by (with_reducible repeat (first | apply Kd.R_alloc | apply Kd.R_drewN | apply Kd.R_drew)); exact HO_3.out, by repeat (first | (with_reducible first | exact HB.out | apply below_alloc | apply pw_below_drewN | apply below_drew1) | exact HB.out)⟩
end Go.Proofs.Ytfmobogdnlmdbaa.P
end
section
namespace Go.Proofs.Ytfmobogdnlmdbaa.P
open Go.RowKit Go.Proofs.YtfmobogdnlmdbaaW.PrintWords Go.Proofs.YtfmobogdnlmdbaaW.PrintLast Go.Proofs.YtfmobogdnlmdbaaW.PrintMore Go.Proofs.YtfmobogdnlmdbaaW
attribute [local go_sem] max2_int min2_int max_two min_two max_three min_three max_four min_four
set_option linter.unusedVariables false
set_option linter.unusedSimpArgs false
set_option maxHeartbeats 8000000 in
set_option maxRecDepth 100000 in
theorem isochroneref01_Cmp.calls (k : Nat) (A0 : Option Addr) (c0 : Nat) (l0 : List Int) (A1 : Option Addr) (c1 : Nat) (l1 : List Int) (r : Int) (w : World) (hr0 : Kd.C (Kd.int .i64) w A0 l0.length l0) (hc0 : l0.length ≤ c0) (hr1 : Kd.C (Kd.int .i64) w A1 l1.length l1) (hc1 : l1.length ≤ c1) (h : isochroneref01_Cmp.f k l0 l1 = some r) :
  Calls Try.prog 18 #[.slice A0 l0.length c0, .slice A1 l1.length c1] w fun e w' => e = .returned (.int .i64 r) ∧ Drawn0 w w' := by
 have HR0 := Aside0.mk hr0
 have HC0 := Aside0.mk hc0
 clear hr0 hc0
 have HR1 := Aside0.mk hr1
 have HC1 := Aside0.mk hc1
 clear hr1 hc1
 have H : (if (l0.length : Int) = (l1.length : Int) then (isochroneref01_Cmp.l0 k l0 l1 (wrap64 ((l0.length : Int) - 1))) else (if (l0.length : Int) < (l1.length : Int) then (some (-1)) else (some 1))) = some r := h
 clear h
 by_cases c3 : (l0.length : Int) = (l1.length : Int)
 ·rw [if_pos c3] at H
  have c3b0 : ((l0.length : Int) == (l1.length : Int)) = true := beq_iff_eq.mpr c3
  have c3b1 : ((l0.length : Int) != (l1.length : Int)) = false := bne_eq_false_iff_eq.mpr c3
  have c3b2 : (l0.length == l1.length) = true := by first | simpa using c3 | (simp at c3 ⊢; omega)
  clear c3
  have H' := Aside0.mk H
  clear H
  go_enter Try.func18, Try.ntmps18
  go_wp2
  repeat (go_quiet (fail); try go_wp2)
  go_loopg [5] k (fun kq v5 w' => ∃ (x5_1 : Int), v5 = .int .i64 x5_1 ∧ Aside0 (isochroneref01_Cmp.l0 kq l0 l1 x5_1 = some r) ∧ Aside0 (kq ≤ k) ∧ Drawn0 w w')
  case atStart => exact ⟨(wrap64 ((l0.length : Int) - 1)), (by first | rfl | (simp; done) | (simp [*]; done)), H', ⟨Nat.le_refl _⟩, by repeat (first | exact Drawn0.refl _ | apply Drawn0.step)⟩
  case round =>
   clear H'
   try clear c1
   try clear p2
   try clear c3
   try clear c3b0
   try clear c3b1
   try clear c3b2
   obtain ⟨x5_1, rfl, HA, HK1, ⟨m1, rfl⟩⟩ := hrel
   cases gk with
   | zero => exact absurd HA.out (by simp [isochroneref01_Cmp.l0])
   | succ k1 =>
    have H := HA.out
    clear HA
    simp only [isochroneref01_Cmp.l0] at H
    by_cases c4 : x5_1 ≥ 0
    ·rw [if_pos c4] at H
     have c4b0 : decide (0 ≤ x5_1) = true := decide_eq_true c4
     clear c4
     by_cases c5 : 0 ≤ x5_1
     ·rw [if_pos c5] at H
      have c5b0 : decide (0 ≤ x5_1) = true := decide_eq_true c5
      clear c5
      by_cases c6 : x5_1 < (l0.length : Int)
      ·rw [if_pos c6] at H
       have c6b0 : decide (x5_1 < (l0.length : Int)) = true := decide_eq_true c6
       clear c6
       by_cases c7 : x5_1 < (l1.length : Int)
       ·rw [if_pos c7] at H
        have c7b0 : decide (x5_1 < (l1.length : Int)) = true := decide_eq_true c7
        clear c7
        by_cases c8 : (rd l0 x5_1) = (rd l1 x5_1)
        ·rw [if_pos c8] at H
         have c8b0 : ((rd l0 x5_1) == (rd l1 x5_1)) = true := beq_iff_eq.mpr c8
         have c8b1 : ((rd l0 x5_1) != (rd l1 x5_1)) = false := bne_eq_false_iff_eq.mpr c8
         clear c8
         have H' := Aside0.mk H
         clear H
         have p403 : 0 ≤ (x5_1 : Int) := of_decide_eq_true aS
         have q403 : x5_1 < (l0.length : Int) := of_decide_eq_true aS
         obtain ⟨ad403, e403, hx403_0⟩ := Kd.at_int HR0.out x5_1 p403 q403
         cases e403
         replace p403 := eq_true p403
         replace q403 := eq_true q403
         have p404 : 0 ≤ (x5_1 : Int) := of_decide_eq_true aS
         have q404 : x5_1 < (l1.length : Int) := of_decide_eq_true aS
         obtain ⟨ad404, e404, hx404_0⟩ := Kd.at_int HR1.out x5_1 p404 q404
         cases e404
         replace p404 := eq_true p404
         replace q404 := eq_true q404
         go_wp2
         repeat (go_quiet (fail); try go_wp2)
         go_roundg k1
         case measure => have := HK1.out; omega
         case rel => exact ⟨(wrap64 (x5_1 - 1)), (by first | rfl | (simp; done) | (simp [*]; done)), H', ⟨by have := HK1.out; omega⟩, by repeat (first | exact Drawn0.refl _ | apply Drawn0.step)⟩
        ·rw [if_neg c8] at H
         have c8b0 : ((rd l0 x5_1) == (rd l1 x5_1)) = false := beq_eq_false_iff_ne.mpr c8
         have c8b1 : ((rd l0 x5_1) != (rd l1 x5_1)) = true := bne_iff_ne.mpr c8
         by_cases c9 : (rd l0 x5_1) < (rd l1 x5_1)
         ·rw [if_pos c9] at H
          have c9b0 : decide ((rd l0 x5_1) < (rd l1 x5_1)) = true := decide_eq_true c9
          clear c9
          obtain rfl := Option.some.inj H
          have p403 : 0 ≤ (x5_1 : Int) := of_decide_eq_true aS
          have q403 : x5_1 < (l0.length : Int) := of_decide_eq_true aS
          obtain ⟨ad403, e403, hx403_0⟩ := Kd.at_int HR0.out x5_1 p403 q403
          cases e403
          replace p403 := eq_true p403
          replace q403 := eq_true q403
          have p404 : 0 ≤ (x5_1 : Int) := of_decide_eq_true aS
          have q404 : x5_1 < (l1.length : Int) := of_decide_eq_true aS
          obtain ⟨ad404, e404, hx404_0⟩ := Kd.at_int HR1.out x5_1 p404 q404
          cases e404
          replace p404 := eq_true p404
          replace q404 := eq_true q404
          have p405 : 0 ≤ (x5_1 : Int) := of_decide_eq_true aS
          have q405 : x5_1 < (l0.length : Int) := of_decide_eq_true aS
          obtain ⟨ad405, e405, hx405_0⟩ := Kd.at_int HR0.out x5_1 p405 q405
          obtain rfl : ad403 = ad405 := (by injection e405)
          replace p405 := eq_true p405
          replace q405 := eq_true q405
          have p406 : 0 ≤ (x5_1 : Int) := of_decide_eq_true aS
          have q406 : x5_1 < (l1.length : Int) := of_decide_eq_true aS
          obtain ⟨ad406, e406, hx406_0⟩ := Kd.at_int HR1.out x5_1 p406 q406
          obtain rfl : ad404 = ad406 := (by injection e406)
          replace p406 := eq_true p406
          replace q406 := eq_true q406
          go_wp2
          repeat (go_quiet (fail); try go_wp2)
          go_ret
          exact ⟨by first | rfl | (simp; done) | (simp [*]; done), by repeat (first | exact Drawn0.refl _ | apply Drawn0.step)⟩
         ·rw [if_neg c9] at H
          have c9b0 : decide ((rd l0 x5_1) < (rd l1 x5_1)) = false := decide_eq_false c9
          clear c9
          obtain rfl := Option.some.inj H
          have p403 : 0 ≤ (x5_1 : Int) := of_decide_eq_true aS
          have q403 : x5_1 < (l0.length : Int) := of_decide_eq_true aS
          obtain ⟨ad403, e403, hx403_0⟩ := Kd.at_int HR0.out x5_1 p403 q403
          cases e403
          replace p403 := eq_true p403
          replace q403 := eq_true q403
          have p404 : 0 ≤ (x5_1 : Int) := of_decide_eq_true aS
          have q404 : x5_1 < (l1.length : Int) := of_decide_eq_true aS
          obtain ⟨ad404, e404, hx404_0⟩ := Kd.at_int HR1.out x5_1 p404 q404
          cases e404
          replace p404 := eq_true p404
          replace q404 := eq_true q404
          have p405 : 0 ≤ (x5_1 : Int) := of_decide_eq_true aS
          have q405 : x5_1 < (l0.length : Int) := of_decide_eq_true aS
          obtain ⟨ad405, e405, hx405_0⟩ := Kd.at_int HR0.out x5_1 p405 q405
          obtain rfl : ad403 = ad405 := (by injection e405)
          replace p405 := eq_true p405
          replace q405 := eq_true q405
          have p406 : 0 ≤ (x5_1 : Int) := of_decide_eq_true aS
          have q406 : x5_1 < (l1.length : Int) := of_decide_eq_true aS
          obtain ⟨ad406, e406, hx406_0⟩ := Kd.at_int HR1.out x5_1 p406 q406
          obtain rfl : ad404 = ad406 := (by injection e406)
          replace p406 := eq_true p406
          replace q406 := eq_true q406
          go_wp2
          repeat (go_quiet (fail); try go_wp2)
          go_ret
          exact ⟨by first | rfl | (simp; done) | (simp [*]; done), by repeat (first | exact Drawn0.refl _ | apply Drawn0.step)⟩
       ·rw [if_neg c7] at H
        exact absurd H (by simp)
      ·rw [if_neg c6] at H
       exact absurd H (by simp)
     ·rw [if_neg c5] at H
      exact absurd H (by simp)
    ·rw [if_neg c4] at H
     have c4b0 : decide (0 ≤ x5_1) = false := decide_eq_false c4
     clear c4
     obtain rfl := Option.some.inj H
     go_wp2
     repeat (go_quiet (fail); try go_wp2)
     go_ret
     exact ⟨by first | rfl | (simp; done) | (simp [*]; done), by repeat (first | exact Drawn0.refl _ | apply Drawn0.step)⟩
 ·rw [if_neg c3] at H
  have c3b0 : ((l0.length : Int) == (l1.length : Int)) = false := beq_eq_false_iff_ne.mpr c3
  have c3b1 : ((l0.length : Int) != (l1.length : Int)) = true := bne_iff_ne.mpr c3
  have c3b2 : (l0.length == l1.length) = false := by first | simpa using c3 | (simp at c3 ⊢; omega)
  by_cases c10 : (l0.length : Int) < (l1.length : Int)
  ·rw [if_pos c10] at H
   have c10b0 : decide ((l0.length : Int) < (l1.length : Int)) = true := decide_eq_true c10
   have c10b1 : decide (l0.length < l1.length) = true := decide_eq_true (Int.ofNat_lt.mp c10)
   clear c10
   obtain rfl := Option.some.inj H
   go_enter Try.func18, Try.ntmps18
   go_wp2
   repeat (go_quiet (fail); try go_wp2)
   go_ret
   exact ⟨by first | rfl | (simp; done) | (simp [*]; done), by repeat (first | exact Drawn0.refl _ | apply Drawn0.step)⟩
  ·rw [if_neg c10] at H
   have c10b0 : decide ((l0.length : Int) < (l1.length : Int)) = false := decide_eq_false c10
   have c10b1 : decide (l0.length < l1.length) = false := decide_eq_false (fun h => c10 (Int.ofNat_lt.mpr h))
   clear c10
   obtain rfl := Option.some.inj H
   go_enter Try.func18, Try.ntmps18
   go_wp2
   repeat (go_quiet (fail); try go_wp2)
   go_ret
   exact ⟨by first | rfl | (simp; done) | (simp [*]; done), by repeat (first | exact Drawn0.refl _ | apply Drawn0.step)⟩
end Go.Proofs.Ytfmobogdnlmdbaa.P
end
section
namespace Go.Proofs.Ytfmobogdnlmdbaa.P
open Go.RowKit Go.Proofs.YtfmobogdnlmdbaaW.PrintWords Go.Proofs.YtfmobogdnlmdbaaW.PrintLast Go.Proofs.YtfmobogdnlmdbaaW.PrintMore Go.Proofs.YtfmobogdnlmdbaaW
attribute [local go_sem] max2_int min2_int max_two min_two max_three min_three max_four min_four
set_option linter.unusedVariables false
set_option linter.unusedSimpArgs false
set_option maxHeartbeats 8000000 in
set_option maxRecDepth 100000 in
theorem isochroneref01_Mul.calls (k : Nat) (A0 : Option Addr) (c0 : Nat) (l0 : List Int) (A1 : Option Addr) (c1 : Nat) (l1 : List Int) (r : List Int) (w : World) (hr0 : Kd.C (Kd.int .i64) w A0 l0.length l0) (hc0 : l0.length ≤ c0) (hr1 : Kd.C (Kd.int .i64) w A1 l1.length l1) (hc1 : l1.length ≤ c1) (h : isochroneref01_Mul.f k l0 l1 = some r) :
  Calls Try.prog 19 #[.slice A0 l0.length c0, .slice A1 l1.length c1] w fun e w' => ∃ v0_ : Value, e = .returned (v0_) ∧ Kd.R (Kd.int .i64) 3 w' w.heap.size (fun _ => True) v0_ r ∧ Below w.heap.size w w' := by
 have HR0 := Aside0.mk hr0
 have HC0 := Aside0.mk hc0
 clear hr0 hc0
 have HR1 := Aside0.mk hr1
 have HC1 := Aside0.mk hc1
 clear hr1 hc1
 have HB := Aside0.mk (Below.refl w.heap.size w)
 have H : (if 0 ≤ (wrap64 ((wrap64 ((l0.length : Int) + (l1.length : Int))) + 1)) then (if (wrap64 ((wrap64 ((l0.length : Int) + (l1.length : Int))) + 1) : Int).toNat ≤ 35184372088832 then (isochroneref01_Mul.l0 k l1 (List.replicate (wrap64 ((wrap64 ((l0.length : Int) + (l1.length : Int))) + 1) : Int).toNat 0) l0 (l0.length : Int) 0) else (none)) else (none)) = some r := h
 clear h
 obtain ⟨ji3, hji3⟩ : ∃ j_ : Int, (wrap64 ((wrap64 ((l0.length : Int) + (l1.length : Int))) + 1)) = j_ := ⟨_, rfl⟩
 replace H : (if 0 ≤ (ji3) then (if (ji3 : Int).toNat ≤ 35184372088832 then (isochroneref01_Mul.l0 k l1 (List.replicate (ji3 : Int).toNat 0) l0 (l0.length : Int) 0) else (none)) else (none)) = some r := by first | (rw [hji3] at H; exact H) | (simp only [hji3] at H ⊢; exact H)
 have hji3w : (IntKind.i64.wrap ((wrap64 ((l0.length : Int) + (l1.length : Int))) + 1)) = ji3 := (i64_w _).trans hji3
 by_cases c4 : 0 ≤ (ji3)
 ·rw [if_pos c4] at H
  have c4b0 := eq_true c4
  have c4b1 : decide (0 ≤ (ji3)) = true := decide_eq_true c4
  clear c4
  by_cases c5 : (ji3 : Int).toNat ≤ 35184372088832
  ·rw [if_pos c5] at H
   have c5b0 := eq_true c5
   have c5b1 : decide ((ji3 : Int).toNat ≤ 35184372088832) = true := decide_eq_true c5
   clear c5
   obtain ⟨y407, hy407⟩ : ∃ y_ : List Int, y_ = (List.replicate (ji3 : Int).toNat 0) := ⟨_, rfl⟩
   replace H : (isochroneref01_Mul.l0 k l1 y407 l0 (l0.length : Int) 0) = some r := by first | (rw [hy407]; with_reducible exact H) | (have H2_ := (Option.bind_some _ _).symm.trans H; rw [hy407]; with_reducible exact H2_) | (have H2_ := (Option.bind_some _ _).symm.trans H; with_reducible exact H2_) | with_reducible exact H | (rw [hy407]; exact H) | exact H
   have Ny407 := Aside0.mk hy407
   clear hy407
   have H' := Aside0.mk H
   clear H
   go_enter Try.func19, Try.ntmps19
   go_wp2_with (first | ((with_reducible refine gate_dst (N := 18) rfl ?_); refine Kd.R_make (Kd.int .i64) _ 3 rfl (N := 18) rfl 30 _ _ rfl ji3 rfl rfl Try.underlying30 (.int .i64 0) 8 info3 rfl (by decide) (by omega) 0 (ok := fun _ => True) (okp := fun _ => True) rfl (fun _ hk => hk) trivial (of_decide_eq_true aS) (Nat.le_trans (Nat.mul_le_mul_right _ (of_decide_eq_true aS : ji3.toNat ≤ 35184372088832)) (by omega)) (Below.refl _ _) (Nat.le_refl _) ?_; intro v408 w6 ho7 hb hg_ hnew_; clear hg_ hnew_; (first | rw [← Ny407.out] at ho7 | (simp only [Int.reduceToNat] at ho7; rw [← Ny407.out] at ho7)); have n0_ := Aside0.mk (Kd.R_lower ho7 (below_size (bB))); have n1_ := Aside0.mk (below_step (bB) hb); clear HB; have HO409 := n0_; have HB := n1_; clear n0_ n1_; clear hb ho7))
   go_loopg [21] k (fun kq v21 w' => ∃ (x5_1 : List Int) (x21_1 : Int), v21 = .int .i64 x21_1 ∧ Aside0 (isochroneref01_Mul.l0 kq l1 x5_1 l0 (l0.length : Int) x21_1 = some r) ∧ Aside0 (kq ≤ k) ∧ Aside0 (Kd.R (Kd.int .i64) 3 w' w.heap.size (fun _ => True) v408 x5_1) ∧ Aside0 (Below w.heap.size w w'))
   case atStart => exact ⟨(y407), (0), (by first | rfl | (simp; done) | (simp [*]; done)), H', ⟨Nat.le_refl _⟩, ⟨by (with_reducible repeat (first | apply Kd.R_alloc | apply Kd.R_drewN | apply Kd.R_drew)); exact HO409.out⟩, ⟨by repeat (first | (with_reducible first | exact HB.out | apply below_alloc | apply pw_below_drewN | apply below_drew1) | exact HB.out)⟩⟩
   case round =>
    clear H'
    try clear c1
    try clear p2
    try clear c4
    try clear c4b0
    try clear c4b1
    try clear c5
    try clear c5b0
    try clear c5b1
    try clear p6
    obtain ⟨x5_1, x21_1, rfl, HA, HK1, HO_5, HB⟩ := hrel
    cases gk with
    | zero => exact absurd HA.out (by simp [isochroneref01_Mul.l0])
    | succ k1 =>
     have H := HA.out
     clear HA
     simp only [isochroneref01_Mul.l0] at H
     by_cases c8 : x21_1 < (l0.length : Int)
     ·rw [if_pos c8] at H
      have c8b0 : decide (x21_1 < (l0.length : Int)) = true := decide_eq_true c8
      clear c8
      by_cases c9 : 0 ≤ x21_1
      ·rw [if_pos c9] at H
       have c9b0 : decide (0 ≤ x21_1) = true := decide_eq_true c9
       clear c9
       by_cases c10 : x21_1 < (l0.length : Int)
       ·rw [if_pos c10] at H
        have c10b0 : decide (x21_1 < (l0.length : Int)) = true := decide_eq_true c10
        clear c10
        have H' := Aside0.mk H
        clear H
        have p413 : 0 ≤ (x21_1 : Int) := of_decide_eq_true aS
        have q413 : x21_1 < (l0.length : Int) := of_decide_eq_true aS
        obtain ⟨ad413, e413, hx413_0⟩ := Kd.at_int HR0.out x21_1 p413 q413
        cases e413
        replace hx413_0 := (HB.out.cell (World.block_lt_of_cell? w _ hx413_0)).trans hx413_0
        replace p413 := eq_true p413
        replace q413 := eq_true q413
        go_wp2
        go_loopg [8, 28] k1 (fun kq v8 v28 w' => ∃ (x5_2 : List Int) (x8_2 : Int) (x28_2 : Int), v8 = .int .i64 x8_2 ∧ v28 = .int .i64 x28_2 ∧ Aside0 (isochroneref01_Mul.l1 kq l1 x5_2 x21_1 (rd l0 x21_1) x8_2 l0 (l0.length : Int) x21_1 l1 (l1.length : Int) x28_2 = some r) ∧ Aside0 (kq ≤ k1) ∧ Aside0 (Kd.R (Kd.int .i64) 3 w' w.heap.size (fun _ => True) v408 x5_2) ∧ Aside0 (Below w.heap.size w w'))
        case atStart => exact ⟨(x5_1), (0), (0), (by first | rfl | (simp; done) | (simp [*]; done)), (by first | rfl | (simp; done) | (simp [*]; done)), H', ⟨Nat.le_refl _⟩, ⟨by (with_reducible repeat (first | apply Kd.R_alloc | apply Kd.R_drewN | apply Kd.R_drew)); exact HO_5.out⟩, ⟨by repeat (first | (with_reducible first | exact HB.out | apply below_alloc | apply pw_below_drewN | apply below_drew1) | exact HB.out)⟩⟩
        case round =>
         clear H'
         try clear c1
         try clear p2
         try clear c4
         try clear c4b0
         try clear c4b1
         try clear p4
         try clear q4
         try clear hx4
         try clear c5
         try clear c5b0
         try clear c5b1
         try clear p6
         try clear c8
         try clear c8b0
         try clear c9
         try clear c9b0
         try clear c10
         try clear c10b0
         try clear hx413_0
         try clear p2
         try clear p413
         try clear p6
         try clear q413
         obtain ⟨x5_2, x8_2, x28_2, rfl, rfl, HA, HK2, HO_5, HB⟩ := hrel
         cases gk with
         | zero => exact absurd HA.out (by simp [isochroneref01_Mul.l1])
         | succ k2 =>
          have H := HA.out
          clear HA
          simp only [isochroneref01_Mul.l1] at H
          by_cases c11 : x28_2 < (l1.length : Int)
          ·rw [if_pos c11] at H
           have c11b0 : decide (x28_2 < (l1.length : Int)) = true := decide_eq_true c11
           clear c11
           by_cases c12 : 0 ≤ x28_2
           ·rw [if_pos c12] at H
            have c12b0 : decide (0 ≤ x28_2) = true := decide_eq_true c12
            clear c12
            by_cases c13 : x28_2 < (l1.length : Int)
            ·rw [if_pos c13] at H
             have c13b0 : decide (x28_2 < (l1.length : Int)) = true := decide_eq_true c13
             clear c13
             obtain ⟨ji14, hji14⟩ : ∃ j_ : Int, (wrap64 (x21_1 + x28_2)) = j_ := ⟨_, rfl⟩
             replace H : (if 0 ≤ (ji14) then (if (ji14) < (x5_2.length : Int) then (isochroneref01_Mul.l1 k2 l1 (x5_2.set ((ji14) : Int).toNat (Int.tmod (wrap64 (x8_2 + (wrap64 ((rd x5_2 (ji14)) + (wrap64 ((rd l0 x21_1) * (rd l1 x28_2))))))) 10000)) x21_1 (rd l0 x21_1) (wrap64 (Int.tdiv (wrap64 (x8_2 + (wrap64 ((rd x5_2 (ji14)) + (wrap64 ((rd l0 x21_1) * (rd l1 x28_2))))))) 10000)) l0 (l0.length : Int) x21_1 l1 (l1.length : Int) (wrap64 (x28_2 + 1))) else (none)) else (none)) = some r := by first | (rw [hji14] at H; exact H) | (simp only [hji14] at H ⊢; exact H)
             have hji14w : (IntKind.i64.wrap (x21_1 + x28_2)) = ji14 := (i64_w _).trans hji14
             by_cases c15 : 0 ≤ (ji14)
             ·rw [if_pos c15] at H
              have c15b0 : decide (0 ≤ (ji14)) = true := decide_eq_true c15
              clear c15
              by_cases c16 : (ji14) < (x5_2.length : Int)
              ·rw [if_pos c16] at H
               have c16b0 : decide ((ji14) < (x5_2.length : Int)) = true := decide_eq_true c16
               clear c16
               obtain ⟨y416, hy416⟩ : ∃ y_ : List Int, y_ = (x5_2.set ((ji14) : Int).toNat (Int.tmod (wrap64 (x8_2 + (wrap64 ((rd x5_2 (ji14)) + (wrap64 ((rd l0 x21_1) * (rd l1 x28_2))))))) 10000)) := ⟨_, rfl⟩
               replace H : (isochroneref01_Mul.l1 k2 l1 y416 x21_1 (rd l0 x21_1) (wrap64 (Int.tdiv (wrap64 (x8_2 + (wrap64 ((rd x5_2 (ji14)) + (wrap64 ((rd l0 x21_1) * (rd l1 x28_2))))))) 10000)) l0 (l0.length : Int) x21_1 l1 (l1.length : Int) (wrap64 (x28_2 + 1))) = some r := by first | (rw [hy416]; with_reducible exact H) | (have H2_ := (Option.bind_some _ _).symm.trans H; rw [hy416]; with_reducible exact H2_) | (have H2_ := (Option.bind_some _ _).symm.trans H; with_reducible exact H2_) | with_reducible exact H | (rw [hy416]; exact H) | exact H
               have Ny416 := Aside0.mk hy416
               clear hy416
               have H' := Aside0.mk H
               clear H
               have p414 : 0 ≤ (x28_2 : Int) := of_decide_eq_true aS
               have q414 : x28_2 < (l1.length : Int) := of_decide_eq_true aS
               obtain ⟨ad414, e414, hx414_0⟩ := Kd.at_int HR1.out x28_2 p414 q414
               cases e414
               replace hx414_0 := (HB.out.cell (World.block_lt_of_cell? w _ hx414_0)).trans hx414_0
               replace p414 := eq_true p414
               replace q414 := eq_true q414
               obtain ⟨Ao18, co18, eo18⟩ := Kd.R_slice HO_5.out
               subst eo18
               have p415 : 0 ≤ ((ji14) : Int) := of_decide_eq_true aS
               have q415 : (ji14) < (x5_2.length : Int) := of_decide_eq_true aS
               obtain ⟨ad415, e415, hx415_0⟩ := Kd.at_int (Kd.R_reads' HO_5.out).2.2 (ji14) p415 q415
               cases e415
               replace p415 := eq_true p415
               replace q415 := eq_true q415
               have p17 : 0 ≤ ((ji14) : Int) := of_decide_eq_true aS
               have q17 : ((ji14) : Int) < ((x5_2.length : Int) : Int) := of_decide_eq_true aS
               obtain ⟨go17, co17, eo17, gb17, gl17, cl17, HG17⟩ := Kd.R_form HO_5.out (by omega)
               (first | cases eo17 | (injection eo17 with ea_ en_ ec_; (first | subst ea_ | (injection ea_ with ea_; subst ea_)); subst ec_; clear en_))
               have GB17 := Aside0.mk gb17
               have GG17 := Aside0.mk HG17
               clear gb17 gl17 HG17
               (first | simp only [add_plain] at hx415_0 | skip)
               obtain ⟨hx17_0, hf17_0⟩ := Kd.R_celln 0 HO_5.out ((ji14) : Int) p17 q17
               replace p17 := eq_true p17
               replace q17 := eq_true q17
               have HP19 := Kd.R_putg HO_5.out ((ji14) : Int) (Int.tmod (wrap64 (x8_2 + (wrap64 ((rd x5_2 (ji14)) + (wrap64 ((rd l0 x21_1) * (rd l1 x28_2))))))) 10000)
               go_wp2_with (first | ((with_reducible refine gate_store (t := 3) (p := 51) rfl ?_); refine store_event (t := 3) (p := 51) (v := ?vo_w20) (w1 := (wr.setCell ⟨go17, ((ji14) : Int).toNat, none⟩ (.int .i64 (Int.tmod (wrap64 (x8_2 + (wrap64 ((rd x5_2 (ji14)) + (wrap64 ((rd l0 x21_1) * (rd l1 x28_2))))))) 10000)))) ?hg ?ho ?hn ?hr ?_; (case ho => rfl); (case hg => rfl); (case hn => rfl); (case hr => first | (go_simp; done) | (go_simp; rfl)); intro w20 hw; have hg : wr.grownBy w20 (some go17) := (by rw [hw]; exact HP19.2); have hp_ : Kd.R (Kd.int .i64) 3 w20 w.heap.size (fun _ => True) (.slice (some ⟨go17, 0, none⟩) x5_2.length co18) y416 := (by rw [hw, Ny416.out]; exact HP19.1); clear HP19; have n0_ := Aside0.mk (hp_); have n1_ := Aside0.mk ((by rw [hw]; exact below_set (HB.out) GB17.out : Below w.heap.size w w20)); clear HO_5; clear HB; have HO_5 := n0_; have HB := n1_; clear n0_ n1_; clear hg hw hp_))
               (try simp only [← hji14])
               go_roundg k2
               case measure => have := HK1.out; have := HK2.out; omega
               case rel => exact ⟨(y416), (wrap64 (Int.tdiv (wrap64 (x8_2 + (wrap64 ((rd x5_2 (ji14)) + (wrap64 ((rd l0 x21_1) * (rd l1 x28_2))))))) 10000)), (wrap64 (x28_2 + 1)), (by first | rfl | (simp; done) | (simp only [← hji14] <;> (first | rfl | simp)) | (simp [*]; done)), (by first | rfl | (simp; done) | (simp [*]; done)), (by first | with_reducible exact H' | (simp only [hji14]; exact H') | exact H'), ⟨by have := HK1.out; have := HK2.out; omega⟩, ⟨by (with_reducible repeat (first | apply Kd.R_alloc | apply Kd.R_drewN | apply Kd.R_drew)); exact HO_5.out⟩, ⟨by repeat (first | (with_reducible first | exact HB.out | apply below_alloc | apply pw_below_drewN | apply below_drew1) | exact HB.out)⟩⟩
              ·rw [if_neg c16] at H
               exact absurd H (by simp)
             ·rw [if_neg c15] at H
              exact absurd H (by simp)
            ·rw [if_neg c13] at H
             exact absurd H (by simp)
           ·rw [if_neg c12] at H
            exact absurd H (by simp)
          ·rw [if_neg c11] at H
           have c11b0 : decide (x28_2 < (l1.length : Int)) = false := decide_eq_false c11
           clear c11
           have H' := Aside0.mk H
           clear H
           go_wp2
           go_loopg [8, 11] k2 (fun kq v8 v11 w' => ∃ (x5_3 : List Int) (x8_3 : Int) (x11_3 : Int), v8 = .int .i64 x8_3 ∧ v11 = .int .i64 x11_3 ∧ Aside0 (isochroneref01_Mul.l2 kq l1 x5_3 x8_3 x11_3 l0 (l0.length : Int) x21_1 = some r) ∧ Aside0 (kq ≤ k2) ∧ Aside0 (Kd.R (Kd.int .i64) 3 w' w.heap.size (fun _ => True) v408 x5_3) ∧ Aside0 (Below w.heap.size w w'))
           case atStart => exact ⟨(x5_2), (x8_2), (wrap64 (x21_1 + (l1.length : Int))), (by first | rfl | (simp; done) | (simp [*]; done)), (by first | rfl | (simp; done) | (simp [*]; done)), H', ⟨Nat.le_refl _⟩, ⟨by (with_reducible repeat (first | apply Kd.R_alloc | apply Kd.R_drewN | apply Kd.R_drew)); exact HO_5.out⟩, ⟨by repeat (first | (with_reducible first | exact HB.out | apply below_alloc | apply pw_below_drewN | apply below_drew1) | exact HB.out)⟩⟩
           case round =>
            clear H'
            try clear c1
            try clear p1
            try clear q1
            try clear hx1
            try clear p2
            try clear c4
            try clear c4b0
            try clear c4b1
            try clear p4
            try clear q4
            try clear hx4
            try clear c5
            try clear c5b0
            try clear c5b1
            try clear p6
            try clear c8
            try clear c8b0
            try clear c9
            try clear c9b0
            try clear c10
            try clear c10b0
            try clear c11
            try clear c11b0
            try clear c12
            try clear c12b0
            try clear c13
            try clear c13b0
            try clear c15
            try clear c15b0
            try clear c16
            try clear c16b0
            try clear p17
            try clear q17
            try clear hx17
            try clear hf17
            try clear c19
            try clear hx17_0
            try clear hx413_0
            try clear hx414_0
            try clear hx415_0
            try clear p17
            try clear p2
            try clear p4
            try clear p413
            try clear p414
            try clear p415
            try clear p6
            try clear q17
            try clear q4
            try clear q413
            try clear q414
            try clear q415
            obtain ⟨x5_3, x8_3, x11_3, rfl, rfl, HA, HK3, HO_5, HB⟩ := hrel
            cases gk with
            | zero => exact absurd HA.out (by simp [isochroneref01_Mul.l2])
            | succ k3 =>
             have H := HA.out
             clear HA
             simp only [isochroneref01_Mul.l2] at H
             by_cases c21 : x8_3 > 0
             ·rw [if_pos c21] at H
              have c21b0 : decide (0 < x8_3) = true := decide_eq_true c21
              clear c21
              by_cases c22 : 0 ≤ x11_3
              ·rw [if_pos c22] at H
               have c22b0 : decide (0 ≤ x11_3) = true := decide_eq_true c22
               clear c22
               by_cases c23 : x11_3 < (x5_3.length : Int)
               ·rw [if_pos c23] at H
                have c23b0 : decide (x11_3 < (x5_3.length : Int)) = true := decide_eq_true c23
                clear c23
                obtain ⟨y418, hy418⟩ : ∃ y_ : List Int, y_ = (x5_3.set (x11_3 : Int).toNat (Int.tmod (wrap64 (x8_3 + (rd x5_3 x11_3))) 10000)) := ⟨_, rfl⟩
                replace H : (isochroneref01_Mul.l2 k3 l1 y418 (wrap64 (Int.tdiv (wrap64 (x8_3 + (rd x5_3 x11_3))) 10000)) (wrap64 (x11_3 + 1)) l0 (l0.length : Int) x21_1) = some r := by first | (rw [hy418]; with_reducible exact H) | (have H2_ := (Option.bind_some _ _).symm.trans H; rw [hy418]; with_reducible exact H2_) | (have H2_ := (Option.bind_some _ _).symm.trans H; with_reducible exact H2_) | with_reducible exact H | (rw [hy418]; exact H) | exact H
                have Ny418 := Aside0.mk hy418
                clear hy418
                have H' := Aside0.mk H
                clear H
                obtain ⟨Ao25, co25, eo25⟩ := Kd.R_slice HO_5.out
                subst eo25
                have p417 : 0 ≤ (x11_3 : Int) := of_decide_eq_true aS
                have q417 : x11_3 < (x5_3.length : Int) := of_decide_eq_true aS
                obtain ⟨ad417, e417, hx417_0⟩ := Kd.at_int (Kd.R_reads' HO_5.out).2.2 x11_3 p417 q417
                cases e417
                replace p417 := eq_true p417
                replace q417 := eq_true q417
                have p24 : 0 ≤ (x11_3 : Int) := of_decide_eq_true aS
                have q24 : (x11_3 : Int) < ((x5_3.length : Int) : Int) := of_decide_eq_true aS
                obtain ⟨go24, co24, eo24, gb24, gl24, cl24, HG24⟩ := Kd.R_form HO_5.out (by omega)
                (first | cases eo24 | (injection eo24 with ea_ en_ ec_; (first | subst ea_ | (injection ea_ with ea_; subst ea_)); subst ec_; clear en_))
                have GB24 := Aside0.mk gb24
                have GG24 := Aside0.mk HG24
                clear gb24 gl24 HG24
                (first | simp only [add_plain] at hx417_0 | skip)
                obtain ⟨hx24_0, hf24_0⟩ := Kd.R_celln 0 HO_5.out (x11_3 : Int) p24 q24
                replace p24 := eq_true p24
                replace q24 := eq_true q24
                have HP26 := Kd.R_putg HO_5.out (x11_3 : Int) (Int.tmod (wrap64 (x8_3 + (rd x5_3 x11_3))) 10000)
                go_wp2_with (first | ((with_reducible refine gate_store (t := 3) (p := 73) rfl ?_); refine store_event (t := 3) (p := 73) (v := ?vo_w27) (w1 := (wr.setCell ⟨go24, (x11_3 : Int).toNat, none⟩ (.int .i64 (Int.tmod (wrap64 (x8_3 + (rd x5_3 x11_3))) 10000)))) ?hg ?ho ?hn ?hr ?_; (case ho => rfl); (case hg => rfl); (case hn => rfl); (case hr => first | (go_simp; done) | (go_simp; rfl)); intro w27 hw; have hg : wr.grownBy w27 (some go24) := (by rw [hw]; exact HP26.2); have hp_ : Kd.R (Kd.int .i64) 3 w27 w.heap.size (fun _ => True) (.slice (some ⟨go24, 0, none⟩) x5_3.length co25) y418 := (by rw [hw, Ny418.out]; exact HP26.1); clear HP26; have n0_ := Aside0.mk (hp_); have n1_ := Aside0.mk ((by rw [hw]; exact below_set (HB.out) GB24.out : Below w.heap.size w w27)); clear HO_5; clear HB; have HO_5 := n0_; have HB := n1_; clear n0_ n1_; clear hg hw hp_))
                go_roundg k3
                case measure => have := HK1.out; have := HK2.out; have := HK3.out; omega
                case rel => exact ⟨(y418), (wrap64 (Int.tdiv (wrap64 (x8_3 + (rd x5_3 x11_3))) 10000)), (wrap64 (x11_3 + 1)), (by first | rfl | (simp; done) | (simp [*]; done)), (by first | rfl | (simp; done) | (simp [*]; done)), H', ⟨by have := HK1.out; have := HK2.out; have := HK3.out; omega⟩, ⟨by (with_reducible repeat (first | apply Kd.R_alloc | apply Kd.R_drewN | apply Kd.R_drew)); exact HO_5.out⟩, ⟨by repeat (first | (with_reducible first | exact HB.out | apply below_alloc | apply pw_below_drewN | apply below_drew1) | exact HB.out)⟩⟩
               ·rw [if_neg c23] at H
                exact absurd H (by simp)
              ·rw [if_neg c22] at H
               exact absurd H (by simp)
             ·rw [if_neg c21] at H
              have c21b0 : decide (0 < x8_3) = false := decide_eq_false c21
              clear c21
              have H' := Aside0.mk H
              clear H
              go_wp2
              go_roundg k3
              case measure => have := HK1.out; have := HK2.out; have := HK3.out; omega
              case rel => exact ⟨(x5_3), (wrap64 (x21_1 + 1)), (by first | rfl | (simp; done) | (simp [*]; done)), H', ⟨by have := HK1.out; have := HK2.out; have := HK3.out; omega⟩, ⟨by (with_reducible repeat (first | apply Kd.R_alloc | apply Kd.R_drewN | apply Kd.R_drew)); exact HO_5.out⟩, ⟨by repeat (first | (with_reducible first | exact HB.out | apply below_alloc | apply pw_below_drewN | apply below_drew1) | exact HB.out)⟩⟩
       ·rw [if_neg c10] at H
        exact absurd H (by simp)
      ·rw [if_neg c9] at H
       exact absurd H (by simp)
     ·rw [if_neg c8] at H
      have c8b0 : decide (x21_1 < (l0.length : Int)) = false := decide_eq_false c8
      clear c8
      replace H := Option.bind_eq_some_iff.mp H
      obtain ⟨t410, A280, H⟩ := H
      replace H : (some t410) = some r := H
      have A28 := Aside0.mk A280
      clear A280
      obtain rfl := Option.some.inj H
      obtain ⟨Ao29, co29, eo29⟩ := Kd.R_slice HO_5.out
      subst eo29
      go_wp2_with (first | ((with_reducible refine gate_callee (f := 53) rfl ?_); refine goesL_ (some 78) rfl rfl Try.func53 (by kernel_rfl) rfl #[.slice Ao29 x5_1.length co29] rfl (by (try simp only [List.map_toArray, List.map_cons, List.map_nil]); first | done | rfl | (simp only [List.length_drop, List.length_take]; rfl)) ?_; (with_reducible refine (isochroneref01_trim.calls k1 (fun k_ => some k_ = (.slice Ao29 x5_1.length co29 : Value).ownBlock) (.slice Ao29 x5_1.length co29) x5_1 t410 w _ ?side1 ?side2 A28.out).mono ?_); (case side1 => repeat (first | (with_reducible first | exact HB.out | apply below_alloc | apply pw_below_drewN | apply below_drew1) | exact HB.out)); (case side2 => exact Kd.R_tight rfl HO_5.out); rintro e w30 ⟨v411, rfl, ho0, hb, hkp⟩; refine ⟨_, rfl, ?_⟩; have n0_ := Aside0.mk (Kd.R_mono (ok' := fun k_ => True) ho0 (fun k_ hk_ => trivial)); have n1_ := Aside0.mk (hb); clear HB; clear HO_5; have HO412 := n0_; have HB := n1_; clear n0_ n1_; (try clear hb); (try clear hkp); (try clear ho0)))
      go_ret
      exact ⟨_, by first | rfl | (simp [errW_none, errW_some] <;> rfl) | (simp only [← hji3]; first | rfl | (simp [errW_none, errW_some] <;> rfl)) | (simp [*, errW_none, errW_some] <;> rfl), by (with_reducible repeat (first | apply Kd.R_alloc | apply Kd.R_drewN | apply Kd.R_drew)); exact HO412.out, by repeat (first | (with_reducible first | exact HB.out | apply below_alloc | apply pw_below_drewN | apply below_drew1) | exact HB.out)⟩
  ·rw [if_neg c5] at H
   exact absurd H (by simp)
 ·rw [if_neg c4] at H
  exact absurd H (by simp)
end Go.Proofs.Ytfmobogdnlmdbaa.P
end
section
namespace Go.Proofs.Ytfmobogdnlmdbaa.P
open Go.RowKit Go.Proofs.YtfmobogdnlmdbaaW.PrintWords Go.Proofs.YtfmobogdnlmdbaaW.PrintLast Go.Proofs.YtfmobogdnlmdbaaW.PrintMore Go.Proofs.YtfmobogdnlmdbaaW
attribute [local go_sem] max2_int min2_int max_two min_two max_three min_three max_four min_four
set_option linter.unusedVariables false
set_option linter.unusedSimpArgs false
set_option maxHeartbeats 8000000 in
set_option maxRecDepth 100000 in
theorem isochronelaw01_NatRoots.calls (k : Nat) (A0 : Option Addr) (c0 : Nat) (l0 : List Int) (r : Bool) (w : World) (hr0 : Kd.C (Kd.int .u32) w A0 l0.length l0) (hc0 : l0.length ≤ c0) (h : isochronelaw01_NatRoots.f k l0 = some r) :
  Calls Try.prog 3 #[.slice A0 l0.length c0] w fun e w' => e = .returned (.bool r) ∧ Below w.heap.size w w' := by
 have HR0 := Aside0.mk hr0
 have HC0 := Aside0.mk hc0
 clear hr0 hc0
 have HB := Aside0.mk (Below.refl w.heap.size w)
 have H : ((isochronelaw01_awake.f k).bind fun t419 => (if t419 = true then ((isochronelaw01_small.f l0 ([] : List Int) 30).bind fun t420 => (if t420 = true then ((nat_Root.f k l0).bind fun bt421 => (if bt421.2 = 0 then ((isochroneref01_Valid.f bt421.1).bind fun t425 => (if t425 = true then (isochronelaw01_NatRoots.j0 k l0 bt421.1 (decide ((bt421.1.length : Int) > 16))) else (isochronelaw01_NatRoots.j0 k l0 bt421.1 true))) else (isochronelaw01_NatRoots.j0 k l0 bt421.1 true))) else (some true))) else (some false))) = some r := h
 clear h
 replace H := Option.bind_eq_some_iff.mp H
 obtain ⟨t419, A20, H⟩ := H
 replace H : (if t419 = true then ((isochronelaw01_small.f l0 ([] : List Int) 30).bind fun t420 => (if t420 = true then ((nat_Root.f k l0).bind fun bt421 => (if bt421.2 = 0 then ((isochroneref01_Valid.f bt421.1).bind fun t425 => (if t425 = true then (isochronelaw01_NatRoots.j0 k l0 bt421.1 (decide ((bt421.1.length : Int) > 16))) else (isochronelaw01_NatRoots.j0 k l0 bt421.1 true))) else (isochronelaw01_NatRoots.j0 k l0 bt421.1 true))) else (some true))) else (some false)) = some r := H
 have A2 := Aside0.mk A20
 clear A20
 by_cases c3 : t419 = true
 ·subst c3
  have H1 : ((isochronelaw01_small.f l0 ([] : List Int) 30).bind fun t420 => (if t420 = true then ((nat_Root.f k l0).bind fun bt421 => (if bt421.2 = 0 then ((isochroneref01_Valid.f bt421.1).bind fun t425 => (if t425 = true then (isochronelaw01_NatRoots.j0 k l0 bt421.1 (decide ((bt421.1.length : Int) > 16))) else (isochronelaw01_NatRoots.j0 k l0 bt421.1 true))) else (isochronelaw01_NatRoots.j0 k l0 bt421.1 true))) else (some true))) = some r := by rw [if_pos rfl] at H; exact H
  clear H
  have H := H1
  clear H1
  replace H := Option.bind_eq_some_iff.mp H
  obtain ⟨t420, A40, H⟩ := H
  replace H : (if t420 = true then ((nat_Root.f k l0).bind fun bt421 => (if bt421.2 = 0 then ((isochroneref01_Valid.f bt421.1).bind fun t425 => (if t425 = true then (isochronelaw01_NatRoots.j0 k l0 bt421.1 (decide ((bt421.1.length : Int) > 16))) else (isochronelaw01_NatRoots.j0 k l0 bt421.1 true))) else (isochronelaw01_NatRoots.j0 k l0 bt421.1 true))) else (some true)) = some r := H
  have A4 := Aside0.mk A40
  clear A40
  by_cases c5 : t420 = true
  ·subst c5
   have H1 : ((nat_Root.f k l0).bind fun bt421 => (if bt421.2 = 0 then ((isochroneref01_Valid.f bt421.1).bind fun t425 => (if t425 = true then (isochronelaw01_NatRoots.j0 k l0 bt421.1 (decide ((bt421.1.length : Int) > 16))) else (isochronelaw01_NatRoots.j0 k l0 bt421.1 true))) else (isochronelaw01_NatRoots.j0 k l0 bt421.1 true))) = some r := by rw [if_pos rfl] at H; exact H
   clear H
   have H := H1
   clear H1
   replace H := Option.bind_eq_some_iff.mp H
   obtain ⟨⟨t421, t422⟩, A60, H⟩ := H
   replace H : (if t422 = 0 then ((isochroneref01_Valid.f t421).bind fun t425 => (if t425 = true then (isochronelaw01_NatRoots.j0 k l0 t421 (decide ((t421.length : Int) > 16))) else (isochronelaw01_NatRoots.j0 k l0 t421 true))) else (isochronelaw01_NatRoots.j0 k l0 t421 true)) = some r := H
   have A6 := Aside0.mk A60
   clear A60
   have HC7 := Aside0.mk H
   clear H
   go_enter Try.func3, Try.ntmps3
   go_upto_region 6 with (first | ((with_reducible refine gate_callee (f := 11) rfl ?_); refine goesL_ (some 8) rfl rfl Try.func11 (by kernel_rfl) rfl #[] rfl (by (try simp only [List.map_toArray, List.map_cons, List.map_nil]); first | done | rfl | (simp only [List.length_drop, List.length_take]; rfl)) ?_; (with_reducible refine (isochronelaw01_awake.calls k  true _ A2.out).mono ?_); rintro e w8 ⟨rfl, hb⟩; refine ⟨_, rfl, ?_⟩; have n0_ := Aside0.mk (below_step (bB) hb); clear HB; have HB := n0_; clear n0_; (try clear hb); (try clear hb2); (try clear hk); (try clear hi)) | ((with_reducible refine gate_callee (f := 12) rfl ?_); refine goesL_ (some 11) rfl rfl Try.func12 (by kernel_rfl) rfl #[.slice A0 l0.length c0, .slice none 0 0, .int .i64 30] rfl (by (try simp only [List.map_toArray, List.map_cons, List.map_nil]); first | done | rfl | (simp only [List.length_drop, List.length_take]; rfl)) ?_; (refine (isochronelaw01_small.calls _ _ l0 _ _ ([] : List Int) 30 true _ ?side1 ?side2 ?side3 ?side4 A4.out).mono ?_); (case side1 => repeat (first | exact (Kd.C_below HR0.out HB.out) | (with_reducible refine Kd.C_alloc ?_ _) | (with_reducible refine Kd.C_drewN ?_ _) | (with_reducible refine Kd.C_drew ?_))); (case side2 => exact HC0.out); (case side3 => exact Kd.C_nil _ _); (case side4 => exact Nat.le_refl _); rintro e w' ⟨rfl, ⟨nd, rfl⟩⟩; refine ⟨_, rfl, ?_⟩) | ((with_reducible refine gate_callee (f := 13) rfl ?_); refine goesL_ (some 15) rfl rfl Try.func13 (by kernel_rfl) rfl #[.slice A0 l0.length c0] rfl (by (try simp only [List.map_toArray, List.map_cons, List.map_nil]); first | done | rfl | (simp only [List.length_drop, List.length_take]; rfl)) ?_; (with_reducible refine (nat_Root.calls k _ _ l0 t421 t422 _ ?side1 ?side2 A6.out).mono ?_); (case side1 => repeat (first | exact (Kd.C_below HR0.out (bB)) | (with_reducible refine Kd.C_alloc ?_ _) | (with_reducible refine Kd.C_drewN ?_ _) | (with_reducible refine Kd.C_drew ?_))); (case side2 => exact HC0.out); rintro e w9 ⟨v423, rfl, ho0, hb⟩; refine ⟨_, rfl, ?_⟩; have n0_ := Aside0.mk (Kd.R_lower ho0 (below_size (bB))); have n1_ := Aside0.mk (below_step (bB) hb); clear HB; have HO424 := n0_; have HB := n1_; clear n0_ n1_; (try clear hb); (try clear hb2); (try clear hk); (try clear hi); (try clear ho0)))
   (try simp only [Act.put, List.setIfInBounds_toArray, List.set_cons_zero, List.set_cons_succ])
   go_cut [29] (fun v29 wc => ∃ (kq : Nat) (x29_6 : Bool), v29 = .bool x29_6 ∧ Aside0 (isochronelaw01_NatRoots.j0 kq l0 t421 x29_6 = some r) ∧ Aside0 (kq ≤ k) ∧ Aside0 (Kd.R (Kd.int .u32) 36 wc w.heap.size (fun _ => True) v423 t421) ∧ Aside0 (Below w.heap.size w wc))
   case first =>
    have H := HC7.out
    clear HC7
    by_cases c10 : t422 = 0
    ·rw [if_pos c10] at H
     have c10b0 : (t422 == 0) = true := beq_iff_eq.mpr c10
     have c10b1 : (t422 != 0) = false := bne_eq_false_iff_eq.mpr c10
     clear c10
     (first | rw [c10b0] | (simp only [i64_w, i32_w]; rw [c10b0]) | rw [c10b1] | skip)
     replace H := Option.bind_eq_some_iff.mp H
     obtain ⟨t425, A110, H⟩ := H
     replace H : (if t425 = true then (isochronelaw01_NatRoots.j0 k l0 t421 (decide ((t421.length : Int) > 16))) else (isochronelaw01_NatRoots.j0 k l0 t421 true)) = some r := H
     have A11 := Aside0.mk A110
     clear A110
     by_cases c12 : t425 = true
     ·subst c12
      have H1 : (isochronelaw01_NatRoots.j0 k l0 t421 (decide ((t421.length : Int) > 16))) = some r := by rw [if_pos rfl] at H; exact H
      clear H
      have H := H1
      clear H1
      have H' := Aside0.mk H
      clear H
      obtain ⟨Ao13, co13, eo13⟩ := Kd.R_slice HO424.out
      subst eo13
      go_wp2_with (first | (go_at_call 14; (with_reducible refine (isochroneref01_Valid.calls _ _ t421 true _ ?side1 ?side2 A11.out).mono ?_); (case side1 => repeat (first | exact (Kd.R_reads' HO424.out).2.2 | (with_reducible refine Kd.C_alloc ?_ _) | (with_reducible refine Kd.C_drewN ?_ _) | (with_reducible refine Kd.C_drew ?_))); (case side2 => exact (Kd.R_reads' HO424.out).2.1); rintro e w' ⟨rfl, ⟨nd, rfl⟩⟩))
      go_meet
      case rel => exact ⟨_, (decide ((t421.length : Int) > 16)), (by first | rfl | (simp; done) | (simp [*]; done)), H', ⟨by first | omega | exact Nat.le_refl _⟩, ⟨by (with_reducible repeat (first | apply Kd.R_alloc | apply Kd.R_drewN | apply Kd.R_drew)); exact HO424.out⟩, ⟨by repeat (first | (with_reducible first | exact HB.out | apply below_alloc | apply pw_below_drewN | apply below_drew1) | exact HB.out)⟩⟩
     ·replace c12 := Bool.eq_false_iff.mpr c12
      subst c12
      have H1 : (isochronelaw01_NatRoots.j0 k l0 t421 true) = some r := by rw [if_neg (show ¬ (false = true) by decide)] at H; exact H
      clear H
      have H := H1
      clear H1
      have H' := Aside0.mk H
      clear H
      obtain ⟨Ao14, co14, eo14⟩ := Kd.R_slice HO424.out
      subst eo14
      go_wp2_with (first | (go_at_call 14; (with_reducible refine (isochroneref01_Valid.calls _ _ t421 false _ ?side1 ?side2 A11.out).mono ?_); (case side1 => repeat (first | exact (Kd.R_reads' HO424.out).2.2 | (with_reducible refine Kd.C_alloc ?_ _) | (with_reducible refine Kd.C_drewN ?_ _) | (with_reducible refine Kd.C_drew ?_))); (case side2 => exact (Kd.R_reads' HO424.out).2.1); rintro e w' ⟨rfl, ⟨nd, rfl⟩⟩))
      go_meet
      case rel => exact ⟨_, (true), (by first | rfl | (simp; done) | (simp [*]; done)), H', ⟨by first | omega | exact Nat.le_refl _⟩, ⟨by (with_reducible repeat (first | apply Kd.R_alloc | apply Kd.R_drewN | apply Kd.R_drew)); exact HO424.out⟩, ⟨by repeat (first | (with_reducible first | exact HB.out | apply below_alloc | apply pw_below_drewN | apply below_drew1) | exact HB.out)⟩⟩
    ·rw [if_neg c10] at H
     have c10b0 : (t422 == 0) = false := beq_eq_false_iff_ne.mpr c10
     have c10b1 : (t422 != 0) = true := bne_iff_ne.mpr c10
     (first | rw [c10b0] | (simp only [i64_w, i32_w]; rw [c10b0]) | rw [c10b1] | skip)
     have H' := Aside0.mk H
     clear H
     go_wp2
     go_meet
     case rel => exact ⟨_, (true), (by first | rfl | (simp; done) | (simp [*]; done)), H', ⟨by first | omega | exact Nat.le_refl _⟩, ⟨by (with_reducible repeat (first | apply Kd.R_alloc | apply Kd.R_drewN | apply Kd.R_drew)); exact HO424.out⟩, ⟨by repeat (first | (with_reducible first | exact HB.out | apply below_alloc | apply pw_below_drewN | apply below_drew1) | exact HB.out)⟩⟩
   case rest =>
    clear HC7
    try clear c1
    try clear p2
    try clear c3
    try clear c5
    try clear c10
    try clear c10b0
    try clear c10b1
    try clear c11
    try clear c12
    try clear c13
    obtain ⟨kq, x29_6, rfl, HA, HJ6, HO_3, HB⟩ := hcut
    cases kq with
    | zero => exact absurd HA.out (by simp [isochronelaw01_NatRoots.j0])
    | succ kj6 =>
     have H := HA.out
     clear HA
     simp only [isochronelaw01_NatRoots.j0] at H
     by_cases c15 : x29_6 = true
     ·subst c15
      have H1 : (some false) = some r := by rw [if_pos rfl] at H; exact H
      clear H
      have H := H1
      clear H1
      obtain rfl := Option.some.inj H
      go_wp2
      go_ret
      exact ⟨by first | rfl | (simp [errW_none, errW_some] <;> rfl) | (simp [*, errW_none, errW_some] <;> rfl), by repeat (first | (with_reducible first | exact HB.out | apply below_alloc | apply pw_below_drewN | apply below_drew1) | exact HB.out)⟩
     ·replace c15 := Bool.eq_false_iff.mpr c15
      subst c15
      have H1 : ((isochroneref01_Of.f kj6 l0).bind fun t426 => ((isochroneref01_Of.f kj6 t421).bind fun t429 => ((isochroneref01_Int.f kj6 1).bind fun t432 => ((isochroneref01_Add.f kj6 t429 t432).bind fun t435 => ((isochroneref01_Mul.f kj6 t429 t429).bind fun t438 => ((isochroneref01_Cmp.f kj6 t438 t426).bind fun t441 => (if t441 ≤ 0 then ((isochroneref01_Mul.f kj6 t435 t435).bind fun t442 => ((isochroneref01_Cmp.f kj6 t442 t426).bind fun t445 => (some (decide (t445 > 0))))) else (some false)))))))) = some r := by rw [if_neg (show ¬ (false = true) by decide)] at H; exact H
      clear H
      have H := H1
      clear H1
      replace H := Option.bind_eq_some_iff.mp H
      obtain ⟨t426, A160, H⟩ := H
      replace H : ((isochroneref01_Of.f kj6 t421).bind fun t429 => ((isochroneref01_Int.f kj6 1).bind fun t432 => ((isochroneref01_Add.f kj6 t429 t432).bind fun t435 => ((isochroneref01_Mul.f kj6 t429 t429).bind fun t438 => ((isochroneref01_Cmp.f kj6 t438 t426).bind fun t441 => (if t441 ≤ 0 then ((isochroneref01_Mul.f kj6 t435 t435).bind fun t442 => ((isochroneref01_Cmp.f kj6 t442 t426).bind fun t445 => (some (decide (t445 > 0))))) else (some false))))))) = some r := H
      have A16 := Aside0.mk A160
      clear A160
      replace H := Option.bind_eq_some_iff.mp H
      obtain ⟨t429, A170, H⟩ := H
      replace H : ((isochroneref01_Int.f kj6 1).bind fun t432 => ((isochroneref01_Add.f kj6 t429 t432).bind fun t435 => ((isochroneref01_Mul.f kj6 t429 t429).bind fun t438 => ((isochroneref01_Cmp.f kj6 t438 t426).bind fun t441 => (if t441 ≤ 0 then ((isochroneref01_Mul.f kj6 t435 t435).bind fun t442 => ((isochroneref01_Cmp.f kj6 t442 t426).bind fun t445 => (some (decide (t445 > 0))))) else (some false)))))) = some r := H
      have A17 := Aside0.mk A170
      clear A170
      replace H := Option.bind_eq_some_iff.mp H
      obtain ⟨t432, A180, H⟩ := H
      replace H : ((isochroneref01_Add.f kj6 t429 t432).bind fun t435 => ((isochroneref01_Mul.f kj6 t429 t429).bind fun t438 => ((isochroneref01_Cmp.f kj6 t438 t426).bind fun t441 => (if t441 ≤ 0 then ((isochroneref01_Mul.f kj6 t435 t435).bind fun t442 => ((isochroneref01_Cmp.f kj6 t442 t426).bind fun t445 => (some (decide (t445 > 0))))) else (some false))))) = some r := H
      have A18 := Aside0.mk A180
      clear A180
      replace H := Option.bind_eq_some_iff.mp H
      obtain ⟨t435, A190, H⟩ := H
      replace H : ((isochroneref01_Mul.f kj6 t429 t429).bind fun t438 => ((isochroneref01_Cmp.f kj6 t438 t426).bind fun t441 => (if t441 ≤ 0 then ((isochroneref01_Mul.f kj6 t435 t435).bind fun t442 => ((isochroneref01_Cmp.f kj6 t442 t426).bind fun t445 => (some (decide (t445 > 0))))) else (some false)))) = some r := H
      have A19 := Aside0.mk A190
      clear A190
      replace H := Option.bind_eq_some_iff.mp H
      obtain ⟨t438, A200, H⟩ := H
      replace H : ((isochroneref01_Cmp.f kj6 t438 t426).bind fun t441 => (if t441 ≤ 0 then ((isochroneref01_Mul.f kj6 t435 t435).bind fun t442 => ((isochroneref01_Cmp.f kj6 t442 t426).bind fun t445 => (some (decide (t445 > 0))))) else (some false))) = some r := H
      have A20 := Aside0.mk A200
      clear A200
      replace H := Option.bind_eq_some_iff.mp H
      obtain ⟨t441, A210, H⟩ := H
      replace H : (if t441 ≤ 0 then ((isochroneref01_Mul.f kj6 t435 t435).bind fun t442 => ((isochroneref01_Cmp.f kj6 t442 t426).bind fun t445 => (some (decide (t445 > 0))))) else (some false)) = some r := H
      have A21 := Aside0.mk A210
      clear A210
      by_cases c22 : t441 ≤ 0
      ·rw [if_pos c22] at H
       have c22b0 : decide (t441 ≤ 0) = true := decide_eq_true c22
       clear c22
       replace H := Option.bind_eq_some_iff.mp H
       obtain ⟨t442, A230, H⟩ := H
       replace H : ((isochroneref01_Cmp.f kj6 t442 t426).bind fun t445 => (some (decide (t445 > 0)))) = some r := H
       have A23 := Aside0.mk A230
       clear A230
       replace H := Option.bind_eq_some_iff.mp H
       obtain ⟨t445, A240, H⟩ := H
       replace H : (some (decide (t445 > 0))) = some r := H
       have A24 := Aside0.mk A240
       clear A240
       obtain rfl := Option.some.inj H
       go_wp2_with (first | ((with_reducible refine gate_callee (f := 15) rfl ?_); refine goesL_ (some 31) rfl rfl Try.func15 (by kernel_rfl) rfl #[.slice A0 l0.length c0] rfl (by (try simp only [List.map_toArray, List.map_cons, List.map_nil]); first | done | rfl | (simp only [List.length_drop, List.length_take]; rfl)) ?_; (with_reducible refine (isochroneref01_Of.calls kj6 _ _ l0 t426 _ ?side1 ?side2 A16.out).mono ?_); (case side1 => repeat (first | exact (Kd.C_below HR0.out HB.out) | (with_reducible refine Kd.C_alloc ?_ _) | (with_reducible refine Kd.C_drewN ?_ _) | (with_reducible refine Kd.C_drew ?_))); (case side2 => exact HC0.out); rintro e w25 ⟨v427, rfl, ho0, hb⟩; refine ⟨_, rfl, ?_⟩; have n0_ := Aside0.mk (Kd.R_below (by (with_reducible repeat (first | apply Kd.R_alloc | apply Kd.R_drewN | apply Kd.R_drew)); exact HO_3.out) hb); have n1_ := Aside0.mk (Kd.R_lower ho0 (below_size (bB))); have n2_ := Aside0.mk (below_step (bB) hb); clear HO_3; clear HB; have HO_3 := n0_; have HO428 := n1_; have HB := n2_; clear n0_ n1_ n2_; (try clear hb); (try clear hb2); (try clear hk); (try clear hi); (try clear ho0); obtain ⟨Ao26, co26, eo26⟩ := Kd.R_slice HO_3.out; subst eo26) | ((with_reducible refine gate_callee (f := 15) rfl ?_); refine goesL_ (some 33) rfl rfl Try.func15 (by kernel_rfl) rfl #[.slice Ao26 t421.length co26] rfl (by (try simp only [List.map_toArray, List.map_cons, List.map_nil]); first | done | rfl | (simp only [List.length_drop, List.length_take]; rfl)) ?_; (with_reducible refine (isochroneref01_Of.calls kj6 _ _ t421 t429 _ ?side1 ?side2 A17.out).mono ?_); (case side1 => repeat (first | exact (Kd.R_reads' HO_3.out).2.2 | (with_reducible refine Kd.C_alloc ?_ _) | (with_reducible refine Kd.C_drewN ?_ _) | (with_reducible refine Kd.C_drew ?_))); (case side2 => exact (Kd.R_reads' HO_3.out).2.1); rintro e w27 ⟨v430, rfl, ho0, hb⟩; refine ⟨_, rfl, ?_⟩; have n0_ := Aside0.mk (Kd.R_below (by (with_reducible repeat (first | apply Kd.R_alloc | apply Kd.R_drewN | apply Kd.R_drew)); exact HO_3.out) hb); have n1_ := Aside0.mk (Kd.R_elder' (by (with_reducible repeat (first | apply Kd.R_alloc | apply Kd.R_drewN | apply Kd.R_drew)); exact HO428.out) (Kd.R_base ho0) hb); have n2_ := Aside0.mk (Kd.R_lower (Kd.R_new' ho0 (Kd.R_lt (by (with_reducible repeat (first | apply Kd.R_alloc | apply Kd.R_drewN | apply Kd.R_drew)); exact HO428.out))) (below_size (bB))); have n3_ := Aside0.mk (below_step (bB) hb); clear HO_3; clear HO428; clear HB; have HO_3 := n0_; have HO428 := n1_; have HO431 := n2_; have HB := n3_; clear n0_ n1_ n2_ n3_; (try clear hb); (try clear hb2); (try clear hk); (try clear hi); (try clear ho0)) | ((with_reducible refine gate_callee (f := 17) rfl ?_); refine goesL_ (some 35) rfl rfl Try.func17 (by kernel_rfl) rfl #[.int .i64 1] rfl (by (try simp only [List.map_toArray, List.map_cons, List.map_nil]); first | done | rfl | (simp only [List.length_drop, List.length_take]; rfl)) ?_; (with_reducible refine (isochroneref01_Int.calls kj6 1 t432 _ A18.out).mono ?_); rintro e w28 ⟨v433, rfl, ho0, hb⟩; refine ⟨_, rfl, ?_⟩; have n0_ := Aside0.mk (Kd.R_below (by (with_reducible repeat (first | apply Kd.R_alloc | apply Kd.R_drewN | apply Kd.R_drew)); exact HO_3.out) hb); have n1_ := Aside0.mk (Kd.R_elder' (by (with_reducible repeat (first | apply Kd.R_alloc | apply Kd.R_drewN | apply Kd.R_drew)); exact HO428.out) (Kd.R_base ho0) hb); have n2_ := Aside0.mk (Kd.R_elder' (by (with_reducible repeat (first | apply Kd.R_alloc | apply Kd.R_drewN | apply Kd.R_drew)); exact HO431.out) (Kd.R_base ho0) hb); have n3_ := Aside0.mk (Kd.R_lower (Kd.R_new' (Kd.R_new' ho0 (Kd.R_lt (by (with_reducible repeat (first | apply Kd.R_alloc | apply Kd.R_drewN | apply Kd.R_drew)); exact HO428.out))) (Kd.R_lt (by (with_reducible repeat (first | apply Kd.R_alloc | apply Kd.R_drewN | apply Kd.R_drew)); exact HO431.out))) (below_size (bB))); have n4_ := Aside0.mk (below_step (bB) hb); clear HO_3; clear HO428; clear HO431; clear HB; have HO_3 := n0_; have HO428 := n1_; have HO431 := n2_; have HO434 := n3_; have HB := n4_; clear n0_ n1_ n2_ n3_ n4_; (try clear hb); (try clear hb2); (try clear hk); (try clear hi); (try clear ho0); obtain ⟨Ao29, co29, eo29⟩ := Kd.R_slice HO431.out; subst eo29; obtain ⟨Ao30, co30, eo30⟩ := Kd.R_slice HO434.out; subst eo30) | ((with_reducible refine gate_callee (f := 16) rfl ?_); refine goesL_ (some 36) rfl rfl Try.func16 (by kernel_rfl) rfl #[.slice Ao29 t429.length co29, .slice Ao30 t432.length co30] rfl (by (try simp only [List.map_toArray, List.map_cons, List.map_nil]); first | done | rfl | (simp only [List.length_drop, List.length_take]; rfl)) ?_; (with_reducible refine (isochroneref01_Add.calls kj6 _ _ t429 _ _ t432 t435 _ ?side1 ?side2 ?side3 ?side4 A19.out).mono ?_); (case side1 => repeat (first | exact (Kd.R_reads' HO431.out).2.2 | (with_reducible refine Kd.C_alloc ?_ _) | (with_reducible refine Kd.C_drewN ?_ _) | (with_reducible refine Kd.C_drew ?_))); (case side2 => exact (Kd.R_reads' HO431.out).2.1); (case side3 => repeat (first | exact (Kd.R_reads' HO434.out).2.2 | (with_reducible refine Kd.C_alloc ?_ _) | (with_reducible refine Kd.C_drewN ?_ _) | (with_reducible refine Kd.C_drew ?_))); (case side4 => exact (Kd.R_reads' HO434.out).2.1); rintro e w31 ⟨v436, rfl, ho0, hb⟩; refine ⟨_, rfl, ?_⟩; have n0_ := Aside0.mk (Kd.R_below (by (with_reducible repeat (first | apply Kd.R_alloc | apply Kd.R_drewN | apply Kd.R_drew)); exact HO_3.out) hb); have n1_ := Aside0.mk (Kd.R_elder' (by (with_reducible repeat (first | apply Kd.R_alloc | apply Kd.R_drewN | apply Kd.R_drew)); exact HO428.out) (Kd.R_base ho0) hb); have n2_ := Aside0.mk (Kd.R_elder' (by (with_reducible repeat (first | apply Kd.R_alloc | apply Kd.R_drewN | apply Kd.R_drew)); exact HO431.out) (Kd.R_base ho0) hb); have n3_ := Aside0.mk (Kd.R_elder' (by (with_reducible repeat (first | apply Kd.R_alloc | apply Kd.R_drewN | apply Kd.R_drew)); exact HO434.out) (Kd.R_base ho0) hb); have n4_ := Aside0.mk (Kd.R_lower (Kd.R_new' (Kd.R_new' (Kd.R_new' ho0 (Kd.R_lt (by (with_reducible repeat (first | apply Kd.R_alloc | apply Kd.R_drewN | apply Kd.R_drew)); exact HO428.out))) (Kd.R_lt (by (with_reducible repeat (first | apply Kd.R_alloc | apply Kd.R_drewN | apply Kd.R_drew)); exact HO431.out))) (Kd.R_lt (by (with_reducible repeat (first | apply Kd.R_alloc | apply Kd.R_drewN | apply Kd.R_drew)); exact HO434.out))) (below_size (bB))); have n5_ := Aside0.mk (below_step (bB) hb); clear HO_3; clear HO428; clear HO431; clear HO434; clear HB; have HO_3 := n0_; have HO428 := n1_; have HO431 := n2_; have HO434 := n3_; have HO437 := n4_; have HB := n5_; clear n0_ n1_ n2_ n3_ n4_ n5_; (try clear hb); (try clear hb2); (try clear hk); (try clear hi); (try clear ho0)) | ((with_reducible refine gate_callee (f := 19) rfl ?_); refine goesL_ (some 39) rfl rfl Try.func19 (by kernel_rfl) rfl #[.slice Ao29 t429.length co29, .slice Ao29 t429.length co29] rfl (by (try simp only [List.map_toArray, List.map_cons, List.map_nil]); first | done | rfl | (simp only [List.length_drop, List.length_take]; rfl)) ?_; (with_reducible refine (isochroneref01_Mul.calls kj6 _ _ t429 _ _ t429 t438 _ ?side1 ?side2 ?side3 ?side4 A20.out).mono ?_); (case side1 => repeat (first | exact (Kd.R_reads' HO431.out).2.2 | (with_reducible refine Kd.C_alloc ?_ _) | (with_reducible refine Kd.C_drewN ?_ _) | (with_reducible refine Kd.C_drew ?_))); (case side2 => exact (Kd.R_reads' HO431.out).2.1); (case side3 => repeat (first | exact (Kd.R_reads' HO431.out).2.2 | (with_reducible refine Kd.C_alloc ?_ _) | (with_reducible refine Kd.C_drewN ?_ _) | (with_reducible refine Kd.C_drew ?_))); (case side4 => exact (Kd.R_reads' HO431.out).2.1); rintro e w32 ⟨v439, rfl, ho0, hb⟩; refine ⟨_, rfl, ?_⟩; have n0_ := Aside0.mk (Kd.R_below (by (with_reducible repeat (first | apply Kd.R_alloc | apply Kd.R_drewN | apply Kd.R_drew)); exact HO_3.out) hb); have n1_ := Aside0.mk (Kd.R_elder' (by (with_reducible repeat (first | apply Kd.R_alloc | apply Kd.R_drewN | apply Kd.R_drew)); exact HO428.out) (Kd.R_base ho0) hb); have n2_ := Aside0.mk (Kd.R_elder' (by (with_reducible repeat (first | apply Kd.R_alloc | apply Kd.R_drewN | apply Kd.R_drew)); exact HO431.out) (Kd.R_base ho0) hb); have n3_ := Aside0.mk (Kd.R_elder' (by (with_reducible repeat (first | apply Kd.R_alloc | apply Kd.R_drewN | apply Kd.R_drew)); exact HO434.out) (Kd.R_base ho0) hb); have n4_ := Aside0.mk (Kd.R_elder' (by (with_reducible repeat (first | apply Kd.R_alloc | apply Kd.R_drewN | apply Kd.R_drew)); exact HO437.out) (Kd.R_base ho0) hb); have n5_ := Aside0.mk (Kd.R_lower (Kd.R_new' (Kd.R_new' (Kd.R_new' (Kd.R_new' ho0 (Kd.R_lt (by (with_reducible repeat (first | apply Kd.R_alloc | apply Kd.R_drewN | apply Kd.R_drew)); exact HO428.out))) (Kd.R_lt (by (with_reducible repeat (first | apply Kd.R_alloc | apply Kd.R_drewN | apply Kd.R_drew)); exact HO431.out))) (Kd.R_lt (by (with_reducible repeat (first | apply Kd.R_alloc | apply Kd.R_drewN | apply Kd.R_drew)); exact HO434.out))) (Kd.R_lt (by (with_reducible repeat (first | apply Kd.R_alloc | apply Kd.R_drewN | apply Kd.R_drew)); exact HO437.out))) (below_size (bB))); have n6_ := Aside0.mk (below_step (bB) hb); clear HO_3; clear HO428; clear HO431; clear HO434; clear HO437; clear HB; have HO_3 := n0_; have HO428 := n1_; have HO431 := n2_; have HO434 := n3_; have HO437 := n4_; have HO440 := n5_; have HB := n6_; clear n0_ n1_ n2_ n3_ n4_ n5_ n6_; (try clear hb); (try clear hb2); (try clear hk); (try clear hi); (try clear ho0); obtain ⟨Ao33, co33, eo33⟩ := Kd.R_slice HO440.out; subst eo33; obtain ⟨Ao34, co34, eo34⟩ := Kd.R_slice HO428.out; subst eo34) | ((with_reducible refine gate_callee (f := 18) rfl ?_); refine goesL_ (some 41) rfl rfl Try.func18 (by kernel_rfl) rfl #[.slice Ao33 t438.length co33, .slice Ao34 t426.length co34] rfl (by (try simp only [List.map_toArray, List.map_cons, List.map_nil]); first | done | rfl | (simp only [List.length_drop, List.length_take]; rfl)) ?_; (with_reducible refine (isochroneref01_Cmp.calls kj6 _ _ t438 _ _ t426 t441 _ ?side1 ?side2 ?side3 ?side4 A21.out).mono ?_); (case side1 => repeat (first | exact (Kd.R_reads' HO440.out).2.2 | (with_reducible refine Kd.C_alloc ?_ _) | (with_reducible refine Kd.C_drewN ?_ _) | (with_reducible refine Kd.C_drew ?_))); (case side2 => exact (Kd.R_reads' HO440.out).2.1); (case side3 => repeat (first | exact (Kd.R_reads' HO428.out).2.2 | (with_reducible refine Kd.C_alloc ?_ _) | (with_reducible refine Kd.C_drewN ?_ _) | (with_reducible refine Kd.C_drew ?_))); (case side4 => exact (Kd.R_reads' HO428.out).2.1); rintro e w' ⟨rfl, ⟨nd, rfl⟩⟩; refine ⟨_, rfl, ?_⟩; obtain ⟨Ao35, co35, eo35⟩ := Kd.R_slice HO437.out; subst eo35) | (go_at_call 19; (with_reducible refine (isochroneref01_Mul.calls kj6 _ _ t435 _ _ t435 t442 _ ?side1 ?side2 ?side3 ?side4 A23.out).mono ?_); (case side1 => repeat (first | exact (Kd.R_reads' HO437.out).2.2 | (with_reducible refine Kd.C_alloc ?_ _) | (with_reducible refine Kd.C_drewN ?_ _) | (with_reducible refine Kd.C_drew ?_))); (case side2 => exact (Kd.R_reads' HO437.out).2.1); (case side3 => repeat (first | exact (Kd.R_reads' HO437.out).2.2 | (with_reducible refine Kd.C_alloc ?_ _) | (with_reducible refine Kd.C_drewN ?_ _) | (with_reducible refine Kd.C_drew ?_))); (case side4 => exact (Kd.R_reads' HO437.out).2.1); rintro e w36 ⟨v443, rfl, ho0, hb⟩; have n0_ := Aside0.mk (Kd.R_below (by (with_reducible repeat (first | apply Kd.R_alloc | apply Kd.R_drewN | apply Kd.R_drew)); exact HO_3.out) hb); have n1_ := Aside0.mk (Kd.R_elder' (by (with_reducible repeat (first | apply Kd.R_alloc | apply Kd.R_drewN | apply Kd.R_drew)); exact HO428.out) (Kd.R_base ho0) hb); have n2_ := Aside0.mk (Kd.R_elder' (by (with_reducible repeat (first | apply Kd.R_alloc | apply Kd.R_drewN | apply Kd.R_drew)); exact HO431.out) (Kd.R_base ho0) hb); have n3_ := Aside0.mk (Kd.R_elder' (by (with_reducible repeat (first | apply Kd.R_alloc | apply Kd.R_drewN | apply Kd.R_drew)); exact HO434.out) (Kd.R_base ho0) hb); have n4_ := Aside0.mk (Kd.R_elder' (by (with_reducible repeat (first | apply Kd.R_alloc | apply Kd.R_drewN | apply Kd.R_drew)); exact HO437.out) (Kd.R_base ho0) hb); have n5_ := Aside0.mk (Kd.R_elder' (by (with_reducible repeat (first | apply Kd.R_alloc | apply Kd.R_drewN | apply Kd.R_drew)); exact HO440.out) (Kd.R_base ho0) hb); have n6_ := Aside0.mk (Kd.R_lower (Kd.R_new' (Kd.R_new' (Kd.R_new' (Kd.R_new' (Kd.R_new' ho0 (Kd.R_lt (by (with_reducible repeat (first | apply Kd.R_alloc | apply Kd.R_drewN | apply Kd.R_drew)); exact HO428.out))) (Kd.R_lt (by (with_reducible repeat (first | apply Kd.R_alloc | apply Kd.R_drewN | apply Kd.R_drew)); exact HO431.out))) (Kd.R_lt (by (with_reducible repeat (first | apply Kd.R_alloc | apply Kd.R_drewN | apply Kd.R_drew)); exact HO434.out))) (Kd.R_lt (by (with_reducible repeat (first | apply Kd.R_alloc | apply Kd.R_drewN | apply Kd.R_drew)); exact HO437.out))) (Kd.R_lt (by (with_reducible repeat (first | apply Kd.R_alloc | apply Kd.R_drewN | apply Kd.R_drew)); exact HO440.out))) (below_size (bB))); have n7_ := Aside0.mk (below_step (bB) hb); clear HO_3; clear HO428; clear HO431; clear HO434; clear HO437; clear HO440; clear HB; have HO_3 := n0_; have HO428 := n1_; have HO431 := n2_; have HO434 := n3_; have HO437 := n4_; have HO440 := n5_; have HO444 := n6_; have HB := n7_; clear n0_ n1_ n2_ n3_ n4_ n5_ n6_ n7_; (try clear hb); (try clear hb2); (try clear hk); (try clear hi); (try clear ho0); obtain ⟨Ao37, co37, eo37⟩ := Kd.R_slice HO444.out; subst eo37) | (go_at_call 18; (with_reducible refine (isochroneref01_Cmp.calls kj6 _ _ t442 _ _ t426 t445 _ ?side1 ?side2 ?side3 ?side4 A24.out).mono ?_); (case side1 => repeat (first | exact (Kd.R_reads' HO444.out).2.2 | (with_reducible refine Kd.C_alloc ?_ _) | (with_reducible refine Kd.C_drewN ?_ _) | (with_reducible refine Kd.C_drew ?_))); (case side2 => exact (Kd.R_reads' HO444.out).2.1); (case side3 => repeat (first | exact (Kd.R_reads' HO428.out).2.2 | (with_reducible refine Kd.C_alloc ?_ _) | (with_reducible refine Kd.C_drewN ?_ _) | (with_reducible refine Kd.C_drew ?_))); (case side4 => exact (Kd.R_reads' HO428.out).2.1); rintro e w' ⟨rfl, ⟨nd, rfl⟩⟩))
       go_ret
       exact ⟨by first | rfl | (simp [errW_none, errW_some] <;> rfl) | (simp [*, errW_none, errW_some] <;> rfl), by repeat (first | (with_reducible first | exact HB.out | apply below_alloc | apply pw_below_drewN | apply below_drew1) | exact HB.out)⟩
      ·rw [if_neg c22] at H
       have c22b0 : decide (t441 ≤ 0) = false := decide_eq_false c22
       clear c22
       obtain rfl := Option.some.inj H
       go_wp2_with (first | ((with_reducible refine gate_callee (f := 15) rfl ?_); refine goesL_ (some 31) rfl rfl Try.func15 (by kernel_rfl) rfl #[.slice A0 l0.length c0] rfl (by (try simp only [List.map_toArray, List.map_cons, List.map_nil]); first | done | rfl | (simp only [List.length_drop, List.length_take]; rfl)) ?_; (with_reducible refine (isochroneref01_Of.calls kj6 _ _ l0 t426 _ ?side1 ?side2 A16.out).mono ?_); (case side1 => repeat (first | exact (Kd.C_below HR0.out HB.out) | (with_reducible refine Kd.C_alloc ?_ _) | (with_reducible refine Kd.C_drewN ?_ _) | (with_reducible refine Kd.C_drew ?_))); (case side2 => exact HC0.out); rintro e w38 ⟨v427, rfl, ho0, hb⟩; refine ⟨_, rfl, ?_⟩; have n0_ := Aside0.mk (Kd.R_below (by (with_reducible repeat (first | apply Kd.R_alloc | apply Kd.R_drewN | apply Kd.R_drew)); exact HO_3.out) hb); have n1_ := Aside0.mk (Kd.R_lower ho0 (below_size (bB))); have n2_ := Aside0.mk (below_step (bB) hb); clear HO_3; clear HB; have HO_3 := n0_; have HO428 := n1_; have HB := n2_; clear n0_ n1_ n2_; (try clear hb); (try clear hb2); (try clear hk); (try clear hi); (try clear ho0); obtain ⟨Ao39, co39, eo39⟩ := Kd.R_slice HO_3.out; subst eo39) | ((with_reducible refine gate_callee (f := 15) rfl ?_); refine goesL_ (some 33) rfl rfl Try.func15 (by kernel_rfl) rfl #[.slice Ao39 t421.length co39] rfl (by (try simp only [List.map_toArray, List.map_cons, List.map_nil]); first | done | rfl | (simp only [List.length_drop, List.length_take]; rfl)) ?_; (with_reducible refine (isochroneref01_Of.calls kj6 _ _ t421 t429 _ ?side1 ?side2 A17.out).mono ?_); (case side1 => repeat (first | exact (Kd.R_reads' HO_3.out).2.2 | (with_reducible refine Kd.C_alloc ?_ _) | (with_reducible refine Kd.C_drewN ?_ _) | (with_reducible refine Kd.C_drew ?_))); (case side2 => exact (Kd.R_reads' HO_3.out).2.1); rintro e w40 ⟨v430, rfl, ho0, hb⟩; refine ⟨_, rfl, ?_⟩; have n0_ := Aside0.mk (Kd.R_below (by (with_reducible repeat (first | apply Kd.R_alloc | apply Kd.R_drewN | apply Kd.R_drew)); exact HO_3.out) hb); have n1_ := Aside0.mk (Kd.R_elder' (by (with_reducible repeat (first | apply Kd.R_alloc | apply Kd.R_drewN | apply Kd.R_drew)); exact HO428.out) (Kd.R_base ho0) hb); have n2_ := Aside0.mk (Kd.R_lower (Kd.R_new' ho0 (Kd.R_lt (by (with_reducible repeat (first | apply Kd.R_alloc | apply Kd.R_drewN | apply Kd.R_drew)); exact HO428.out))) (below_size (bB))); have n3_ := Aside0.mk (below_step (bB) hb); clear HO_3; clear HO428; clear HB; have HO_3 := n0_; have HO428 := n1_; have HO431 := n2_; have HB := n3_; clear n0_ n1_ n2_ n3_; (try clear hb); (try clear hb2); (try clear hk); (try clear hi); (try clear ho0)) | ((with_reducible refine gate_callee (f := 17) rfl ?_); refine goesL_ (some 35) rfl rfl Try.func17 (by kernel_rfl) rfl #[.int .i64 1] rfl (by (try simp only [List.map_toArray, List.map_cons, List.map_nil]); first | done | rfl | (simp only [List.length_drop, List.length_take]; rfl)) ?_; (with_reducible refine (isochroneref01_Int.calls kj6 1 t432 _ A18.out).mono ?_); rintro e w41 ⟨v433, rfl, ho0, hb⟩; refine ⟨_, rfl, ?_⟩; have n0_ := Aside0.mk (Kd.R_below (by (with_reducible repeat (first | apply Kd.R_alloc | apply Kd.R_drewN | apply Kd.R_drew)); exact HO_3.out) hb); have n1_ := Aside0.mk (Kd.R_elder' (by (with_reducible repeat (first | apply Kd.R_alloc | apply Kd.R_drewN | apply Kd.R_drew)); exact HO428.out) (Kd.R_base ho0) hb); have n2_ := Aside0.mk (Kd.R_elder' (by (with_reducible repeat (first | apply Kd.R_alloc | apply Kd.R_drewN | apply Kd.R_drew)); exact HO431.out) (Kd.R_base ho0) hb); have n3_ := Aside0.mk (Kd.R_lower (Kd.R_new' (Kd.R_new' ho0 (Kd.R_lt (by (with_reducible repeat (first | apply Kd.R_alloc | apply Kd.R_drewN | apply Kd.R_drew)); exact HO428.out))) (Kd.R_lt (by (with_reducible repeat (first | apply Kd.R_alloc | apply Kd.R_drewN | apply Kd.R_drew)); exact HO431.out))) (below_size (bB))); have n4_ := Aside0.mk (below_step (bB) hb); clear HO_3; clear HO428; clear HO431; clear HB; have HO_3 := n0_; have HO428 := n1_; have HO431 := n2_; have HO434 := n3_; have HB := n4_; clear n0_ n1_ n2_ n3_ n4_; (try clear hb); (try clear hb2); (try clear hk); (try clear hi); (try clear ho0); obtain ⟨Ao42, co42, eo42⟩ := Kd.R_slice HO431.out; subst eo42; obtain ⟨Ao43, co43, eo43⟩ := Kd.R_slice HO434.out; subst eo43) | ((with_reducible refine gate_callee (f := 16) rfl ?_); refine goesL_ (some 36) rfl rfl Try.func16 (by kernel_rfl) rfl #[.slice Ao42 t429.length co42, .slice Ao43 t432.length co43] rfl (by (try simp only [List.map_toArray, List.map_cons, List.map_nil]); first | done | rfl | (simp only [List.length_drop, List.length_take]; rfl)) ?_; (with_reducible refine (isochroneref01_Add.calls kj6 _ _ t429 _ _ t432 t435 _ ?side1 ?side2 ?side3 ?side4 A19.out).mono ?_); (case side1 => repeat (first | exact (Kd.R_reads' HO431.out).2.2 | (with_reducible refine Kd.C_alloc ?_ _) | (with_reducible refine Kd.C_drewN ?_ _) | (with_reducible refine Kd.C_drew ?_))); (case side2 => exact (Kd.R_reads' HO431.out).2.1); (case side3 => repeat (first | exact (Kd.R_reads' HO434.out).2.2 | (with_reducible refine Kd.C_alloc ?_ _) | (with_reducible refine Kd.C_drewN ?_ _) | (with_reducible refine Kd.C_drew ?_))); (case side4 => exact (Kd.R_reads' HO434.out).2.1); rintro e w44 ⟨v436, rfl, ho0, hb⟩; refine ⟨_, rfl, ?_⟩; have n0_ := Aside0.mk (Kd.R_below (by (with_reducible repeat (first | apply Kd.R_alloc | apply Kd.R_drewN | apply Kd.R_drew)); exact HO_3.out) hb); have n1_ := Aside0.mk (Kd.R_elder' (by (with_reducible repeat (first | apply Kd.R_alloc | apply Kd.R_drewN | apply Kd.R_drew)); exact HO428.out) (Kd.R_base ho0) hb); have n2_ := Aside0.mk (Kd.R_elder' (by (with_reducible repeat (first | apply Kd.R_alloc | apply Kd.R_drewN | apply Kd.R_drew)); exact HO431.out) (Kd.R_base ho0) hb); have n3_ := Aside0.mk (Kd.R_elder' (by (with_reducible repeat (first | apply Kd.R_alloc | apply Kd.R_drewN | apply Kd.R_drew)); exact HO434.out) (Kd.R_base ho0) hb); have n4_ := Aside0.mk (Kd.R_lower (Kd.R_new' (Kd.R_new' (Kd.R_new' ho0 (Kd.R_lt (by (with_reducible repeat (first | apply Kd.R_alloc | apply Kd.R_drewN | apply Kd.R_drew)); exact HO428.out))) (Kd.R_lt (by (with_reducible repeat (first | apply Kd.R_alloc | apply Kd.R_drewN | apply Kd.R_drew)); exact HO431.out))) (Kd.R_lt (by (with_reducible repeat (first | apply Kd.R_alloc | apply Kd.R_drewN | apply Kd.R_drew)); exact HO434.out))) (below_size (bB))); have n5_ := Aside0.mk (below_step (bB) hb); clear HO_3; clear HO428; clear HO431; clear HO434; clear HB; have HO_3 := n0_; have HO428 := n1_; have HO431 := n2_; have HO434 := n3_; have HO437 := n4_; have HB := n5_; clear n0_ n1_ n2_ n3_ n4_ n5_; (try clear hb); (try clear hb2); (try clear hk); (try clear hi); (try clear ho0)) | ((with_reducible refine gate_callee (f := 19) rfl ?_); refine goesL_ (some 39) rfl rfl Try.func19 (by kernel_rfl) rfl #[.slice Ao42 t429.length co42, .slice Ao42 t429.length co42] rfl (by (try simp only [List.map_toArray, List.map_cons, List.map_nil]); first | done | rfl | (simp only [List.length_drop, List.length_take]; rfl)) ?_; (with_reducible refine (isochroneref01_Mul.calls kj6 _ _ t429 _ _ t429 t438 _ ?side1 ?side2 ?side3 ?side4 A20.out).mono ?_); (case side1 => repeat (first | exact (Kd.R_reads' HO431.out).2.2 | (with_reducible refine Kd.C_alloc ?_ _) | (with_reducible refine Kd.C_drewN ?_ _) | (with_reducible refine Kd.C_drew ?_))); (case side2 => exact (Kd.R_reads' HO431.out).2.1); (case side3 => repeat (first | exact (Kd.R_reads' HO431.out).2.2 | (with_reducible refine Kd.C_alloc ?_ _) | (with_reducible refine Kd.C_drewN ?_ _) | (with_reducible refine Kd.C_drew ?_))); (case side4 => exact (Kd.R_reads' HO431.out).2.1); rintro e w45 ⟨v439, rfl, ho0, hb⟩; refine ⟨_, rfl, ?_⟩; have n0_ := Aside0.mk (Kd.R_below (by (with_reducible repeat (first | apply Kd.R_alloc | apply Kd.R_drewN | apply Kd.R_drew)); exact HO_3.out) hb); have n1_ := Aside0.mk (Kd.R_elder' (by (with_reducible repeat (first | apply Kd.R_alloc | apply Kd.R_drewN | apply Kd.R_drew)); exact HO428.out) (Kd.R_base ho0) hb); have n2_ := Aside0.mk (Kd.R_elder' (by (with_reducible repeat (first | apply Kd.R_alloc | apply Kd.R_drewN | apply Kd.R_drew)); exact HO431.out) (Kd.R_base ho0) hb); have n3_ := Aside0.mk (Kd.R_elder' (by (with_reducible repeat (first | apply Kd.R_alloc | apply Kd.R_drewN | apply Kd.R_drew)); exact HO434.out) (Kd.R_base ho0) hb); have n4_ := Aside0.mk (Kd.R_elder' (by (with_reducible repeat (first | apply Kd.R_alloc | apply Kd.R_drewN | apply Kd.R_drew)); exact HO437.out) (Kd.R_base ho0) hb); have n5_ := Aside0.mk (Kd.R_lower (Kd.R_new' (Kd.R_new' (Kd.R_new' (Kd.R_new' ho0 (Kd.R_lt (by (with_reducible repeat (first | apply Kd.R_alloc | apply Kd.R_drewN | apply Kd.R_drew)); exact HO428.out))) (Kd.R_lt (by (with_reducible repeat (first | apply Kd.R_alloc | apply Kd.R_drewN | apply Kd.R_drew)); exact HO431.out))) (Kd.R_lt (by (with_reducible repeat (first | apply Kd.R_alloc | apply Kd.R_drewN | apply Kd.R_drew)); exact HO434.out))) (Kd.R_lt (by (with_reducible repeat (first | apply Kd.R_alloc | apply Kd.R_drewN | apply Kd.R_drew)); exact HO437.out))) (below_size (bB))); have n6_ := Aside0.mk (below_step (bB) hb); clear HO_3; clear HO428; clear HO431; clear HO434; clear HO437; clear HB; have HO_3 := n0_; have HO428 := n1_; have HO431 := n2_; have HO434 := n3_; have HO437 := n4_; have HO440 := n5_; have HB := n6_; clear n0_ n1_ n2_ n3_ n4_ n5_ n6_; (try clear hb); (try clear hb2); (try clear hk); (try clear hi); (try clear ho0); obtain ⟨Ao46, co46, eo46⟩ := Kd.R_slice HO440.out; subst eo46; obtain ⟨Ao47, co47, eo47⟩ := Kd.R_slice HO428.out; subst eo47) | ((with_reducible refine gate_callee (f := 18) rfl ?_); refine goesL_ (some 41) rfl rfl Try.func18 (by kernel_rfl) rfl #[.slice Ao46 t438.length co46, .slice Ao47 t426.length co47] rfl (by (try simp only [List.map_toArray, List.map_cons, List.map_nil]); first | done | rfl | (simp only [List.length_drop, List.length_take]; rfl)) ?_; (with_reducible refine (isochroneref01_Cmp.calls kj6 _ _ t438 _ _ t426 t441 _ ?side1 ?side2 ?side3 ?side4 A21.out).mono ?_); (case side1 => repeat (first | exact (Kd.R_reads' HO440.out).2.2 | (with_reducible refine Kd.C_alloc ?_ _) | (with_reducible refine Kd.C_drewN ?_ _) | (with_reducible refine Kd.C_drew ?_))); (case side2 => exact (Kd.R_reads' HO440.out).2.1); (case side3 => repeat (first | exact (Kd.R_reads' HO428.out).2.2 | (with_reducible refine Kd.C_alloc ?_ _) | (with_reducible refine Kd.C_drewN ?_ _) | (with_reducible refine Kd.C_drew ?_))); (case side4 => exact (Kd.R_reads' HO428.out).2.1); rintro e w' ⟨rfl, ⟨nd, rfl⟩⟩; refine ⟨_, rfl, ?_⟩))
       go_ret
       exact ⟨by first | rfl | (simp [errW_none, errW_some] <;> rfl) | (simp [*, errW_none, errW_some] <;> rfl), by repeat (first | (with_reducible first | exact HB.out | apply below_alloc | apply pw_below_drewN | apply below_drew1) | exact HB.out)⟩
  ·replace c5 := Bool.eq_false_iff.mpr c5
   subst c5
   have H1 : (some true) = some r := by rw [if_neg (show ¬ (false = true) by decide)] at H; exact H
   clear H
   have H := H1
   clear H1
   obtain rfl := Option.some.inj H
   go_enter Try.func3, Try.ntmps3
   go_wp2_with (first | ((with_reducible refine gate_callee (f := 11) rfl ?_); refine goesL_ (some 8) rfl rfl Try.func11 (by kernel_rfl) rfl #[] rfl (by (try simp only [List.map_toArray, List.map_cons, List.map_nil]); first | done | rfl | (simp only [List.length_drop, List.length_take]; rfl)) ?_; (with_reducible refine (isochronelaw01_awake.calls k  true _ A2.out).mono ?_); rintro e w48 ⟨rfl, hb⟩; refine ⟨_, rfl, ?_⟩; have n0_ := Aside0.mk (below_step (bB) hb); clear HB; have HB := n0_; clear n0_; (try clear hb); (try clear hb2); (try clear hk); (try clear hi)) | ((with_reducible refine gate_callee (f := 12) rfl ?_); refine goesL_ (some 11) rfl rfl Try.func12 (by kernel_rfl) rfl #[.slice A0 l0.length c0, .slice none 0 0, .int .i64 30] rfl (by (try simp only [List.map_toArray, List.map_cons, List.map_nil]); first | done | rfl | (simp only [List.length_drop, List.length_take]; rfl)) ?_; (refine (isochronelaw01_small.calls _ _ l0 _ _ ([] : List Int) 30 false _ ?side1 ?side2 ?side3 ?side4 A4.out).mono ?_); (case side1 => repeat (first | exact (Kd.C_below HR0.out HB.out) | (with_reducible refine Kd.C_alloc ?_ _) | (with_reducible refine Kd.C_drewN ?_ _) | (with_reducible refine Kd.C_drew ?_))); (case side2 => exact HC0.out); (case side3 => exact Kd.C_nil _ _); (case side4 => exact Nat.le_refl _); rintro e w' ⟨rfl, ⟨nd, rfl⟩⟩; refine ⟨_, rfl, ?_⟩))
   go_ret
   exact ⟨by first | rfl | (simp [errW_none, errW_some] <;> rfl) | (simp [*, errW_none, errW_some] <;> rfl), by repeat (first | (with_reducible first | exact HB.out | apply below_alloc | apply pw_below_drewN | apply below_drew1) | exact HB.out)⟩
 ·replace c3 := Bool.eq_false_iff.mpr c3
  subst c3
  have H1 : (some false) = some r := by rw [if_neg (show ¬ (false = true) by decide)] at H; exact H
  clear H
  have H := H1
  clear H1
  obtain rfl := Option.some.inj H
  go_enter Try.func3, Try.ntmps3
  go_wp2_with (first | ((with_reducible refine gate_callee (f := 11) rfl ?_); refine goesL_ (some 8) rfl rfl Try.func11 (by kernel_rfl) rfl #[] rfl (by (try simp only [List.map_toArray, List.map_cons, List.map_nil]); first | done | rfl | (simp only [List.length_drop, List.length_take]; rfl)) ?_; (with_reducible refine (isochronelaw01_awake.calls k  false _ A2.out).mono ?_); rintro e w49 ⟨rfl, hb⟩; refine ⟨_, rfl, ?_⟩; have n0_ := Aside0.mk (below_step (bB) hb); clear HB; have HB := n0_; clear n0_; (try clear hb); (try clear hb2); (try clear hk); (try clear hi)))
  go_ret
  exact ⟨by first | rfl | (simp [errW_none, errW_some] <;> rfl) | (simp [*, errW_none, errW_some] <;> rfl), by repeat (first | (with_reducible first | exact HB.out | apply below_alloc | apply pw_below_drewN | apply below_drew1) | exact HB.out)⟩
def isochronelaw01_NatRoots.Pure : Prop := ∀ (l0 : List Int), l0.length ≤ maxLen → l0.length * 4 ≤ 140737488351232 → (∀ x ∈ l0, (Lit.int .u32 x).wf = true) → ∃ k, isochronelaw01_NatRoots.f k l0 = some true
theorem isochronelaw01_NatRoots.walk (P : isochronelaw01_NatRoots.Pure) (a0 : Option Addr) (len0 cap0 : Nat) (z0 : List Int) (w : World) (w0 : (a0 = none ∧ len0 = 0 ∧ cap0 = 0 ∧ z0 = []) ∨ ∃ x, a0 = some x ∧ len0 ≤ cap0 ∧ cap0 ≤ maxLen ∧ z0.length = cap0 ∧ (∀ i, i < z0.length → w.cell? (x.add i) = some (.int .u32 (z0.getD i 0))) ∧ ∀ n ∈ z0, (Lit.int .u32 n).wf = true) (y0 : len0 * 4 ≤ 140737488351232) :
  Calls Try.prog 3 #[.slice a0 len0 cap0] w fun e w' => e = .returned (.bool true) ∧ Below w.heap.size w w' := by
 obtain ⟨l0, rfl, hr0, hm0, hw0, hc0⟩ := ReadsInt.ofRowC w0
 obtain ⟨k, h⟩ := P l0 hm0 y0 hw0
 refine (isochronelaw01_NatRoots.calls k _ _ l0 true w (Kd.C_of_reads (d := (0 : Int)) (h1 := fun _ => rfl) hr0) hc0 h).mono ?_
 rintro e w' ⟨rfl, hd⟩
 exact ⟨rfl, hd⟩
end Go.Proofs.Ytfmobogdnlmdbaa.P
end
section
namespace Go.Proofs.Ytfmobogdnlmdbaa.P
open Go.RowKit Go.Proofs.YtfmobogdnlmdbaaW.PrintWords Go.Proofs.YtfmobogdnlmdbaaW.PrintLast Go.Proofs.YtfmobogdnlmdbaaW.PrintMore
set_option linter.unusedVariables false
theorem evp {α : Type} {c : Prop} [Decidable c] {f g : Nat → Option α} {r : α} (hc : c) (h : Ev f r) : Ev (fun k => if c then f k else g k) r := by simpa only [if_pos hc] using h
theorem evn {α : Type} {c : Prop} [Decidable c] {f g : Nat → Option α} {r : α} (hc : ¬ c) (h : Ev g r) : Ev (fun k => if c then f k else g k) r := by simpa only [if_neg hc] using h
theorem evb {α β : Type} {o : Option α} {f : Nat → α → Option β} {a : α} {r : β} (h : o = some a) (k : Ev (fun n => f n a) r) : Ev (fun n => o.bind (f n)) r := by subst h; exact k
theorem evs {α : Type} (r : α) : Ev (fun _ => some r) r := ⟨0, fun _ _ => rfl⟩
theorem w64 {x : Int} (h0 : -9223372036854775808 ≤ x) (h1 : x ≤ 9223372036854775807) : wrap64 x = x := by unfold wrap64; omega
theorem u64 {x : Int} (h0 : 0 ≤ x) (h1 : x < 18446744073709551616) : IntKind.u64.wrap x = x := by rw [IntKind.wrap_u64]; omega
def vl (B : Int) : List Int → Int
  | [] => 0
  | x :: t => x + B * vl B t
def Dg (B : Int) (l : List Int) : Prop := ∀ x ∈ l, 0 ≤ x ∧ x < B
def Nm (l : List Int) : Prop := ∀ h : l ≠ [], l.getLast h ≠ 0
def Can (B : Int) (l : List Int) (n : Int) : Prop := Dg B l ∧ Nm l ∧ vl B l = n
section
variable {B : Int} {l a b : List Int}
theorem vl_append (B : Int) (a b : List Int) : vl B (a ++ b) = vl B a + B ^ a.length * vl B b := by
  induction a with
  | nil => simp [vl]
  | cons x t ih =>
    simp only [List.cons_append, vl, ih, List.length_cons]
    grind
theorem rd_lt (l : List Int) (i : Nat) (h : i < l.length) : rd l (i : Int) = l[i] := by simp [rd, h]
theorem vl_take (B : Int) (l : List Int) (i : Nat) (h : i < l.length) : vl B (l.take (i + 1)) = vl B (l.take i) + rd l (i : Int) * B ^ i := by
  rw [List.take_succ_eq_append_getElem h, vl_append, rd_lt l i h, List.length_take, Nat.min_eq_left (by omega)]
  simp only [vl]
  grind
theorem take_set (l : List Int) (i : Nat) (v : Int) (h : i < l.length) : (l.set i v).take (i + 1) = l.take i ++ [v] := by
  rw [List.take_succ_eq_append_getElem (by simpa using h), List.take_set_of_le (by omega)]
  simp
theorem vl_set (B : Int) (l : List Int) (i : Nat) (v : Int) (h : i < l.length) : vl B ((l.set i v).take (i + 1)) = vl B (l.take i) + v * B ^ i := by
  rw [take_set l i v h, vl_append, List.length_take, Nat.min_eq_left (by omega)]
  simp only [vl]
  grind
theorem Dg.nil (B : Int) : Dg B [] := fun x hx => by cases hx
theorem Dg.cons {x : Int} (h : Dg B (x :: l)) : (0 ≤ x ∧ x < B) ∧ Dg B l := ⟨h x (by simp), fun y hy => h y (by simp [hy])⟩
theorem Dg.mk {x : Int} (h0 : 0 ≤ x) (h1 : x < B) (h : Dg B l) : Dg B (x :: l) := by
  intro y hy
  rcases List.mem_cons.1 hy with rfl | hy
  · exact ⟨h0, h1⟩
  · exact h y hy
theorem Dg.append (ha : Dg B a) (hb : Dg B b) : Dg B (a ++ b) := by
  intro y hy
  rcases List.mem_append.1 hy with hy | hy
  · exact ha y hy
  · exact hb y hy
theorem Dg.take (h : Dg B l) (i : Nat) : Dg B (l.take i) := fun x hx => h x (List.mem_of_mem_take hx)
theorem Dg.drop (h : Dg B l) (i : Nat) : Dg B (l.drop i) := fun x hx => h x (List.mem_of_mem_drop hx)
theorem Dg.set (h : Dg B l) (i : Nat) {v : Int} (h0 : 0 ≤ v) (h1 : v < B) : Dg B (l.set i v) := by
  intro x hx
  rcases List.mem_or_eq_of_mem_set hx with hx | rfl
  · exact h x hx
  · exact ⟨h0, h1⟩
theorem Dg.rep (hB : 0 < B) (n : Nat) : Dg B (List.replicate n 0) := by
  intro x hx
  have := (List.mem_replicate.1 hx).2
  omega
theorem Dg.take_set {i : Nat} {v : Int} (hi : i < l.length) (h' : Dg B (l.take i)) (h0 : 0 ≤ v) (h1 : v < B) : Dg B ((l.set i v).take (i + 1)) := by
  rw [P.take_set l i v hi]
  exact h'.append (Dg.mk h0 h1 (Dg.nil B))
theorem dg_rd (h : Dg B l) (i : Int) (h0 : 0 ≤ i) (h1 : i < l.length) : 0 ≤ rd l i ∧ rd l i < B := by
  obtain ⟨n, rfl⟩ := Int.eq_ofNat_of_zero_le h0
  rw [rd_lt l n (by omega)]
  exact h _ (List.getElem_mem _)
theorem pow_pos' (hB : 0 < B) (n : Nat) : 0 < B ^ n := Int.pow_pos hB
theorem vl_nonneg (hB : 0 < B) : ∀ {l : List Int}, Dg B l → 0 ≤ vl B l
  | [], _ => by simp [vl]
  | x :: t, h => by
    have h1 := h.cons
    have h2 := vl_nonneg hB h1.2
    have h3 : 0 ≤ B * vl B t := Int.mul_nonneg (by omega) h2
    simp only [vl]
    omega
theorem vl_lt (hB : 0 < B) : ∀ {l : List Int}, Dg B l → vl B l < B ^ l.length
  | [], _ => by simp [vl]
  | x :: t, h => by
    have h1 := h.cons
    have h2 := vl_lt hB h1.2
    have h3 : B * (vl B t + 1) ≤ B * B ^ t.length := Int.mul_le_mul_of_nonneg_left (by omega) (by omega)
    simp only [vl, List.length_cons]
    rw [Int.mul_add] at h3
    have h4 : B ^ (t.length + 1) = B * B ^ t.length := by grind
    omega
theorem Nm.nil : Nm [] := fun h => absurd rfl h
theorem Nm.tail {x : Int} (h : Nm (x :: l)) : Nm l := by
  intro hl
  have := h (by simp)
  rwa [List.getLast_cons hl] at this
theorem vl_pos (hB : 0 < B) : ∀ {l : List Int}, Dg B l → Nm l → l ≠ [] → 0 < vl B l
  | [], _, _, h => absurd rfl h
  | [x], hd, hn, _ => by
    have h1 := hd.cons
    have h2 := hn (by simp)
    simp at h2
    simp [vl]
    omega
  | x :: y :: t, hd, hn, _ => by
    have h1 := hd.cons
    have h2 := vl_pos hB h1.2 hn.tail (by simp)
    have h3 : 0 < B * vl B (y :: t) := Int.mul_pos hB h2
    rw [vl]
    omega
theorem vl_ge (hB : 0 < B) : ∀ {l : List Int}, Dg B l → Nm l → l ≠ [] → B ^ (l.length - 1) ≤ vl B l
  | [], _, _, h => absurd rfl h
  | [x], hd, hn, _ => by
    have h1 := vl_pos hB hd hn (by simp)
    simp
    omega
  | x :: y :: t, hd, hn, _ => by
    have h1 := hd.cons
    have h2 := vl_ge hB h1.2 hn.tail (by simp)
    have h3 : B * B ^ ((y :: t).length - 1) ≤ B * vl B (y :: t) := Int.mul_le_mul_of_nonneg_left h2 (by omega)
    rw [vl]
    have h4 : B ^ ((x :: y :: t).length - 1) = B * B ^ ((y :: t).length - 1) := by
      simp only [List.length_cons, Nat.add_sub_cancel]
      grind
    omega
theorem can_uniq (hB : 0 < B) : ∀ {a b : List Int} {n : Int}, Can B a n → Can B b n → a = b
  | [], [], _, _, _ => rfl
  | [], y :: t, n, h, h' => by
    have h1 := vl_pos hB h'.1 h'.2.1 (by simp)
    have h2 := h.2.2
    have h3 := h'.2.2
    simp only [vl] at h2
    omega
  | x :: t, [], n, h, h' => by
    have h1 := vl_pos hB h.1 h.2.1 (by simp)
    have h2 := h.2.2
    have h3 := h'.2.2
    simp only [vl] at h3
    omega
  | x :: s, y :: t, n, h, h' => by
    have h1 := h.1.cons
    have h2 := h'.1.cons
    have h3 := h.2.2
    have h4 := h'.2.2
    simp only [vl] at h3 h4
    have e1 : x = n % B := by rw [← h3, Int.add_mul_emod_self_left, Int.emod_eq_of_lt h1.1.1 h1.1.2]
    have e2 : y = n % B := by rw [← h4, Int.add_mul_emod_self_left, Int.emod_eq_of_lt h2.1.1 h2.1.2]
    have e3 : x = y := by omega
    subst e3
    have e4 : vl B s = vl B t := Int.eq_of_mul_eq_mul_left (a := B) (by omega) (by omega)
    rw [can_uniq hB (n := vl B t) ⟨h1.2, h.2.1.tail, e4⟩ ⟨h2.2, h'.2.1.tail, rfl⟩]
theorem Can.nonneg (hB : 0 < B) {n : Int} (h : Can B l n) : 0 ≤ n := by rw [← h.2.2]; exact vl_nonneg hB h.1
theorem Can.zero (B : Int) : Can B [] 0 := ⟨Dg.nil B, Nm.nil, rfl⟩
theorem Can.nil_iff (hB : 0 < B) {n : Int} (h : Can B l n) : l = [] ↔ n = 0 := by
  constructor
  · rintro rfl
    exact h.2.2.symm
  · rintro rfl
    exact can_uniq hB h (Can.zero B)
theorem Can.len_iff (hB : 0 < B) {n : Int} (h : Can B l n) : l.length = 0 ↔ n = 0 := by rw [← h.nil_iff hB]; exact List.length_eq_zero_iff
theorem Can.lt (hB : 0 < B) {n : Int} (h : Can B l n) : n < B ^ l.length := by rw [← h.2.2]; exact vl_lt hB h.1
theorem Can.ge (hB : 0 < B) {n : Int} (h : Can B l n) (h0 : l.length ≠ 0) : B ^ (l.length - 1) ≤ n := by
  rw [← h.2.2]
  exact vl_ge hB h.1 h.2.1 (fun e => h0 (by rw [e]; rfl))
theorem pow_le {B : Int} (hB : 1 ≤ B) {i j : Nat} (h : i ≤ j) : B ^ i ≤ B ^ j := by
  obtain ⟨d, rfl⟩ := Nat.exists_eq_add_of_le h
  rw [Int.pow_add]
  have h1 : 1 ≤ B ^ d := Int.pow_pos (by omega)
  have h2 : B ^ i * 1 ≤ B ^ i * B ^ d := Int.mul_le_mul_of_nonneg_left h1 (Int.le_of_lt (Int.pow_pos (by omega)))
  omega
theorem Can.len_lt (hB : 1 < B) {n m : Int} (h : Can B a n) (h' : Can B b m) (hl : a.length < b.length) : n < m := by
  have h1 := h.lt (by omega)
  have h2 := h'.ge (by omega) (by omega)
  have h3 := pow_le (B := B) (by omega) (show a.length ≤ b.length - 1 by omega)
  omega
theorem Can.len_le (hB : 1 < B) {n : Int} (h : Can B l n) {k : Nat} (hn : n < B ^ k) : l.length ≤ k := by
  rcases Nat.lt_or_ge k l.length with hk | hk
  · have h1 := h.ge (by omega) (by omega)
    have h2 := pow_le (B := B) (by omega) (show k ≤ l.length - 1 by omega)
    omega
  · exact hk
theorem Can.len_ge (hB : 1 < B) {n : Int} (h : Can B l n) {k : Nat} (hn : B ^ k ≤ n) : k < l.length := by
  rcases Nat.lt_or_ge k l.length with hk | hk
  · exact hk
  · have h1 := h.lt (by omega)
    have h2 := pow_le (B := B) (by omega) hk
    omega
theorem vl_drop (B : Int) (l : List Int) (i : Nat) (h : i ≤ l.length) : vl B l = vl B (l.take i) + B ^ i * vl B (l.drop i) := by
  conv => lhs; rw [← List.take_append_drop i l]
  rw [vl_append, List.length_take, Nat.min_eq_left h]
theorem rd_set_eq (l : List Int) (i : Int) (v : Int) (h : i.toNat < l.length) : rd (l.set i.toNat v) i = v := by
  simp only [rd, List.getD_eq_getElem?_getD]
  rw [List.getElem?_set_self h]
  rfl
theorem rd_take (l : List Int) (j : Int) (i : Nat) (h : j.toNat < i) : rd (l.take i) j = rd l j := by
  simp only [rd, List.getD_eq_getElem?_getD]
  rw [List.getElem?_take_of_lt h]
theorem getLast_rd (l : List Int) (h : l ≠ []) : l.getLast h = rd l ((l.length : Int) - 1) := by
  have hp : 0 < l.length := List.length_pos_iff.2 h
  rw [List.getLast_eq_getElem]
  have e : (l.length : Int) - 1 = ((l.length - 1 : Nat) : Int) := by omega
  rw [e, rd_lt _ _ (by omega)]
theorem nm_of_rd (h : 0 < l.length → rd l ((l.length : Int) - 1) ≠ 0) : Nm l := by
  intro hl
  rw [getLast_rd l hl]
  exact h (List.length_pos_iff.2 hl)
theorem Nm.rd (h : Nm l) (hp : 0 < l.length) : rd l ((l.length : Int) - 1) ≠ 0 := by
  have hl : l ≠ [] := List.ne_nil_of_length_pos hp
  rw [← getLast_rd l hl]
  exact h hl
theorem vl_rep (B : Int) (n : Nat) : vl B (List.replicate n 0) = 0 := by
  induction n with
  | zero => rfl
  | succ n ih => simp [List.replicate_succ, vl, ih]
theorem can_ex_nat (hB : 1 < B) (n : Nat) : ∃ l, Can B l (n : Int) := by
  induction n using Nat.strongRecOn with
  | _ n ih =>
    by_cases h0 : n = 0
    · subst h0
      exact ⟨[], Can.zero B⟩
    · have hlt : ((n : Int) / B).toNat < n := by
        have h1 : (n : Int) / B < n := Int.ediv_lt_self_of_pos_of_ne_one (by omega) (by omega)
        have h2 : 0 ≤ (n : Int) / B := Int.ediv_nonneg (by omega) (by omega)
        omega
      obtain ⟨l, h1, h2, h3⟩ := ih _ hlt
      have h4 : 0 ≤ (n : Int) / B := Int.ediv_nonneg (by omega) (by omega)
      have hm := Int.emod_nonneg (n : Int) (show B ≠ 0 by omega)
      have hm2 := Int.emod_lt_of_pos (n : Int) (show 0 < B by omega)
      have h5 : vl B ((n : Int) % B :: l) = n := by
        rw [vl, h3, Int.toNat_of_nonneg h4]
        exact Int.emod_add_mul_ediv _ _
      refine ⟨(n : Int) % B :: l, Dg.mk hm hm2 h1, ?_, h5⟩
      intro hne
      rcases List.eq_nil_or_concat l with hl | ⟨_, _, hl⟩
      · subst hl
        simp only [vl, Int.mul_zero, Int.add_zero] at h5
        simp only [List.getLast_singleton]
        omega
      · have hne' : l ≠ [] := by rw [hl]; simp
        rw [List.getLast_cons hne']
        exact h2 hne'
theorem can_ex (hB : 1 < B) {n : Int} (h : 0 ≤ n) : ∃ l, Can B l n := by
  obtain ⟨k, rfl⟩ := Int.eq_ofNat_of_zero_le h
  exact can_ex_nat hB k
end
end Go.Proofs.Ytfmobogdnlmdbaa.P
end
section
namespace Go.Proofs.Ytfmobogdnlmdbaa.P
open Go.RowKit Go.Proofs.YtfmobogdnlmdbaaW.PrintWords Go.Proofs.YtfmobogdnlmdbaaW.PrintLast Go.Proofs.YtfmobogdnlmdbaaW.PrintMore
set_option linter.unusedVariables false
abbrev WW : Int := 4294967296
theorem WW_pos : (0 : Int) < WW := by decide
theorem WW_one : (1 : Int) < WW := by decide
theorem WW_eq : WW = 4294967296 := rfl
theorem alg_add {vo va vb P c c' v x y W : Int} (h : vo + c * P = va + vb) (h2 : v + W * c' = c + x + y) : vo + v * P + c' * (W * P) = (va + x * P) + (vb + y * P) := by grind
theorem alg_add1 {vo va vb P c c' v x W : Int} (h : vo + c * P = va + vb) (h2 : v + W * c' = c + x) : vo + v * P + c' * (W * P) = (va + x * P) + vb := by grind
theorem alg_last {vo c P n W : Int} (h : vo + c * P = n) : vo + P * (c + W * 0) = n := by grind
theorem wsucc {i : Nat} (h : i < 4611686018427387904) : wrap64 ((i : Int) + 1) = ((i + 1 : Nat) : Int) := by rw [w64 (by omega) (by omega)]; omega
theorem mag_Trim_ev (n : Nat) : ∀ (l : List Int), l.length = n → n < 4611686018427387904 → Dg WW l → ∃ r, Ev (fun k => mag_Trim.l0 k l) r ∧ Can WW r (vl WW l) ∧ r.length ≤ l.length := by
  induction n with
  | zero =>
    intro l hl _ hd
    have e : l = [] := List.eq_nil_of_length_eq_zero hl
    subst e
    refine ⟨[], ?_, Can.zero _, Nat.le_refl _⟩
    refine Ev.step (fun k => by rw [mag_Trim.l0]) ?_
    exact evn (by simp) (evs _)
  | succ n ih =>
    intro l hl hn hd
    have ew : wrap64 ((l.length : Int) - 1) = (n : Int) := by rw [w64 (by omega) (by omega)]; omega
    by_cases hz : rd l n = 0
    · obtain ⟨r, h1, h2, h3⟩ := ih (l.take n) (by rw [List.length_take]; omega) (by omega) (hd.take n)
      refine ⟨r, ?_, ?_, ?_⟩
      · refine Ev.step (fun k => by rw [mag_Trim.l0]) ?_
        rw [ew]
        refine evp (by omega) (evp (by omega) (evp (by omega) (evp hz (evp (by omega) ?_))))
        simpa using h1
      · have h4 := vl_take WW l n (by omega)
        rw [hz, show n + 1 = l.length by omega, List.take_length] at h4
        rw [h4]
        simpa using h2
      · rw [List.length_take] at h3
        omega
    · refine ⟨l, ?_, ⟨hd, nm_of_rd (fun _ => ?_), rfl⟩, Nat.le_refl _⟩
      · refine Ev.step (fun k => by rw [mag_Trim.l0]) ?_
        rw [ew]
        exact evp (by omega) (evp (by omega) (evp (by omega) (evn hz (evs _))))
      · rw [hl]
        have e : (((n + 1 : Nat) : Int) - 1) = (n : Int) := by omega
        rw [e]
        exact hz
theorem mag_Trim_sp {l : List Int} (hn : l.length < 4611686018427387904) (hd : Dg WW l) : ∃ r, Ev (fun k => mag_Trim.f k l) r ∧ Can WW r (vl WW l) ∧ r.length ≤ l.length := by
  obtain ⟨r, h1, h2⟩ := mag_Trim_ev l.length l rfl hn hd
  exact ⟨r, Ev.congr (fun k => by rw [mag_Trim.f]) h1, h2⟩
theorem mag_From_sp {a : Int} (h0 : 0 ≤ a) (h1 : a < 18446744073709551616) : ∃ r, Ev (fun k => mag_From.f k a) r ∧ Can WW r a := by
  have hW := WW_eq
  have hd : Dg WW [a % 4294967296, (a / 4294967296) % 4294967296] := Dg.mk (by omega) (by omega) (Dg.mk (by omega) (by omega) (Dg.nil _))
  obtain ⟨r, h2, h3, _⟩ := mag_Trim_sp (by simp) hd
  refine ⟨r, ?_, ?_⟩
  · unfold mag_From.f
    exact Ev.bind h2 (evs _)
  · have e : vl WW [a % 4294967296, (a / 4294967296) % 4294967296] = a := by
      simp only [vl, Int.mul_zero, Int.add_zero, WW_eq]
      omega
    rw [← e]
    exact h3
theorem mag_Cmp_ev {a b : List Int} (hl : a.length = b.length) (hn : a.length < 4611686018427387904) (ha : Dg WW a) (hb : Dg WW b) (d : Nat) :
    ∀ (i : Nat), i = d → i ≤ a.length → vl WW (a.drop i) = vl WW (b.drop i) → ∃ r, Ev (fun k => mag_Cmp.l0 k a b ((i : Int) - 1)) r ∧ (r = -1 ∧ vl WW a < vl WW b ∨ r = 0 ∧ vl WW a = vl WW b ∨ r = 1 ∧ vl WW b < vl WW a) := by
  induction d with
  | zero =>
    rintro i rfl h1 h2
    refine ⟨0, ?_, .inr (.inl ⟨rfl, by simpa using h2⟩)⟩
    refine Ev.step (fun k => by rw [mag_Cmp.l0]) ?_
    exact evn (by omega) (evs _)
  | succ d ih =>
    rintro i rfl h1 h2
    have e1 : (((d + 1 : Nat) : Int) - 1) = (d : Int) := by omega
    rw [e1]
    have h3 := vl_drop WW a d (by omega)
    have h4 := vl_drop WW b d (by omega)
    have ea : a.drop d = rd a d :: a.drop (d + 1) := by rw [rd_lt a d (by omega)]; exact (List.drop_eq_getElem_cons (by omega))
    have eb : b.drop d = rd b d :: b.drop (d + 1) := by rw [rd_lt b d (by omega)]; exact (List.drop_eq_getElem_cons (by omega))
    have ta := vl_lt WW_pos (ha.take d)
    have tb := vl_lt WW_pos (hb.take d)
    have ta0 := vl_nonneg WW_pos (ha.take d)
    have tb0 := vl_nonneg WW_pos (hb.take d)
    rw [List.length_take, Nat.min_eq_left (by omega)] at ta tb
    by_cases he : rd a d = rd b d
    · obtain ⟨r, h5, h6⟩ := ih d rfl (by omega) (by rw [ea, eb, vl, vl, he, h2])
      refine ⟨r, ?_, h6⟩
      refine Ev.step (fun k => by rw [mag_Cmp.l0]) ?_
      rw [w64 (by omega) (by omega)]
      exact evp (by omega) (evp (by omega) (evp (by omega) (evp (by omega) (evp he h5))))
    · have h7 : vl WW (a.drop d) = rd a d + WW * vl WW (a.drop (d + 1)) := by rw [ea, vl]
      have h8 : vl WW (b.drop d) = rd b d + WW * vl WW (b.drop (d + 1)) := by rw [eb, vl]
      have hp : 0 < WW ^ d := Int.pow_pos WW_pos
      by_cases hlt : rd a d < rd b d
      · refine ⟨-1, ?_, .inl ⟨rfl, ?_⟩⟩
        · refine Ev.step (fun k => by rw [mag_Cmp.l0]) ?_
          exact evp (by omega) (evp (by omega) (evp (by omega) (evp (by omega) (evn he (evp hlt (evs _))))))
        · have h9 : WW ^ d * (vl WW (a.drop d) + 1) ≤ WW ^ d * vl WW (b.drop d) := Int.mul_le_mul_of_nonneg_left (by rw [h7, h8, h2]; omega) (by omega)
          rw [Int.mul_add] at h9
          omega
      · refine ⟨1, ?_, .inr (.inr ⟨rfl, ?_⟩)⟩
        · refine Ev.step (fun k => by rw [mag_Cmp.l0]) ?_
          exact evp (by omega) (evp (by omega) (evp (by omega) (evp (by omega) (evn he (evn hlt (evs _))))))
        · have h9 : WW ^ d * (vl WW (b.drop d) + 1) ≤ WW ^ d * vl WW (a.drop d) := Int.mul_le_mul_of_nonneg_left (by rw [h7, h8, h2]; omega) (by omega)
          rw [Int.mul_add] at h9
          omega
def cmpi (n m : Int) : Int := if n < m then -1 else if n = m then 0 else 1
theorem mag_Cmp_sp {a b : List Int} {n m : Int} (hn : a.length < 4611686018427387904) (ha : Can WW a n) (hb : Can WW b m) : Ev (fun k => mag_Cmp.f k a b) (cmpi n m) := by
  unfold mag_Cmp.f
  by_cases hl : a.length = b.length
  · obtain ⟨r, h1, h2⟩ := mag_Cmp_ev hl hn ha.1 hb.1 a.length a.length rfl (Nat.le_refl _) (by rw [List.drop_length, hl, List.drop_length])
    have e : r = cmpi n m := by
      rw [ha.2.2, hb.2.2] at h2
      unfold cmpi
      rcases h2 with ⟨rfl, h⟩ | ⟨rfl, h⟩ | ⟨rfl, h⟩
      · rw [if_pos h]
      · rw [if_neg (by omega), if_pos h]
      · rw [if_neg (by omega), if_neg (by omega)]
    rw [← e]
    refine evp (by omega) ?_
    rw [w64 (by omega) (by omega)]
    exact h1
  · refine evn (by omega) ?_
    unfold cmpi
    by_cases h : a.length < b.length
    · have := Can.len_lt WW_one ha hb h
      rw [if_pos this]
      exact evp (by omega) (evs _)
    · have := Can.len_lt WW_one hb ha (by omega)
      rw [if_neg (show ¬ n < m by omega), if_neg (show ¬ n = m by omega)]
      exact evn (by omega) (evs _)
theorem mag_Add_ev {a b : List Int} (hba : b.length ≤ a.length) (hn : a.length < 1099511627776) (ha : Dg WW a) (hb : Dg WW b) (d : Nat) :
    ∀ (i : Nat) (o : List Int) (c : Int), a.length - i = d → i ≤ a.length → o.length = a.length + 1 → Dg WW (o.take i) → 0 ≤ c → c ≤ 1 → vl WW (o.take i) + c * WW ^ i = vl WW (a.take i) + vl WW (b.take i) →
    ∃ r, Ev (fun k => mag_Add.l0 k a b o c a (a.length : Int) (i : Int)) r ∧ Can WW r (vl WW a + vl WW b) ∧ r.length ≤ a.length + 1 := by
  induction d with
  | zero =>
    intro i o c h1 h2 h3 h4 h5 h6 h7
    have e : i = a.length := by omega
    subst e
    have hset : o.set a.length c = o.take a.length ++ [c] := by
      have := P.take_set o a.length c (by omega)
      rw [show a.length + 1 = (o.set a.length c).length by simp [h3], List.take_length] at this
      exact this
    have hd : Dg WW (o.set a.length c) := by rw [hset]; exact h4.append (Dg.mk h5 (by have := WW_one; omega) (Dg.nil _))
    obtain ⟨r, h8, h9, h10⟩ := mag_Trim_sp (l := o.set a.length c) (by simp; omega) hd
    have hv : vl WW (o.set a.length c) = vl WW a + vl WW b := by
      rw [hset, vl_append, List.length_take, Nat.min_eq_left (by omega)]
      rw [List.take_length, List.take_of_length_le hba] at h7
      simp only [vl]
      exact alg_last h7
    refine ⟨r, ?_, by rw [← hv]; exact h9, by simp at h10; omega⟩
    refine Ev.step (fun k => by rw [mag_Add.l0]) ?_
    refine evn (by omega) (evp (by omega) (evp (by omega) ?_))
    have ec : c % 4294967296 = c := by omega
    rw [ec, show ((a.length : Int)).toNat = a.length by omega]
    exact Ev.bind h8 (evs _)
  | succ d ih =>
    intro i o c h1 h2 h3 h4 h5 h6 h7
    have hi : i < a.length := by omega
    have hx := dg_rd ha (i : Int) (by omega) (by omega)
    have ti := vl_take WW a i hi
    have ep : WW ^ (i + 1) = WW * WW ^ i := by rw [Int.pow_succ, Int.mul_comm]
    have hW := WW_eq
    by_cases hib : i < b.length
    · have hy := dg_rd hb (i : Int) (by omega) (by omega)
      have tb := vl_take WW b i hib
      have ev : (c + rd a i + rd b i) % 4294967296 + WW * ((c + rd a i + rd b i) / 4294967296) = c + rd a i + rd b i := by rw [WW_eq]; omega
      obtain ⟨r, h8, h9⟩ := ih (i + 1) (o.set i ((c + rd a i + rd b i) % 4294967296)) ((c + rd a i + rd b i) / 4294967296) (by omega) (by omega) (by simpa using h3)
        (Dg.take_set (by omega) h4 (by omega) (by omega)) (by omega) (by omega)
        (by rw [vl_set _ _ _ _ (by omega), ti, tb, ep]; exact alg_add h7 ev)
      refine ⟨r, ?_, h9⟩
      refine Ev.step (fun k => by rw [mag_Add.l0]) ?_
      rw [u64 (x := rd a i) (by omega) (by omega), u64 (x := rd b i) (by omega) (by omega), u64 (x := c + rd a i) (by omega) (by omega), u64 (x := c + rd a i + rd b i) (by omega) (by omega), wsucc (by omega)]
      exact evp (by omega) (evp (by omega) (evp (by omega) (evp (by omega) (evp (by omega) h8))))
    · have tb : vl WW (b.take (i + 1)) = vl WW (b.take i) := by rw [List.take_of_length_le (by omega), List.take_of_length_le (by omega)]
      have ev : (c + rd a i) % 4294967296 + WW * ((c + rd a i) / 4294967296) = c + rd a i := by rw [WW_eq]; omega
      obtain ⟨r, h8, h9⟩ := ih (i + 1) (o.set i ((c + rd a i) % 4294967296)) ((c + rd a i) / 4294967296) (by omega) (by omega) (by simpa using h3)
        (Dg.take_set (by omega) h4 (by omega) (by omega)) (by omega) (by omega)
        (by rw [vl_set _ _ _ _ (by omega), ti, tb, ep]; exact alg_add1 h7 ev)
      refine ⟨r, ?_, h9⟩
      refine Ev.step (fun k => by rw [mag_Add.l0]) ?_
      rw [u64 (x := rd a i) (by omega) (by omega), u64 (x := c + rd a i) (by omega) (by omega), wsucc (by omega)]
      exact evp (by omega) (evp (by omega) (evp (by omega) (evn (by omega) (evp (by omega) h8))))
theorem mag_Add_j {a b : List Int} (hba : b.length ≤ a.length) (hn : a.length < 1099511627776) (ha : Dg WW a) (hb : Dg WW b) : ∃ r, Ev (fun k => mag_Add.j0 k a b) r ∧ Can WW r (vl WW a + vl WW b) ∧ r.length ≤ a.length + 1 := by
  obtain ⟨r, h1, h2⟩ := mag_Add_ev hba hn ha hb a.length 0 (List.replicate (a.length + 1) 0) 0 (by omega) (by omega) (by simp) (by simp; exact Dg.nil _) (by omega) (by omega) (by simp [vl])
  refine ⟨r, ?_, h2⟩
  refine Ev.step (fun k => by rw [mag_Add.j0]) ?_
  have e : wrap64 ((a.length : Int) + 1) = ((a.length + 1 : Nat) : Int) := by rw [w64 (by omega) (by omega)]; omega
  rw [e, Int.toNat_natCast]
  exact evp (by omega) (evp (by omega) h1)
theorem mag_Add_sp {a b : List Int} {n m : Int} (hla : a.length < 1099511627776) (hlb : b.length < 1099511627776) (ha : Can WW a n) (hb : Can WW b m) : ∃ r, Ev (fun k => mag_Add.f k a b) r ∧ Can WW r (n + m) ∧ r.length ≤ max a.length b.length + 1 := by
  unfold mag_Add.f
  rw [← ha.2.2, ← hb.2.2]
  by_cases h : a.length < b.length
  · obtain ⟨r, h1, h2, h3⟩ := mag_Add_j (a := b) (b := a) (by omega) hlb hb.1 ha.1
    exact ⟨r, evp (by omega) h1, by rw [Int.add_comm]; exact h2, by omega⟩
  · obtain ⟨r, h1, h2, h3⟩ := mag_Add_j (a := a) (b := b) (by omega) hla ha.1 hb.1
    exact ⟨r, evn (by omega) h1, h2, by omega⟩
end Go.Proofs.Ytfmobogdnlmdbaa.P
end
section
namespace Go.Proofs.Ytfmobogdnlmdbaa.P
open Go.RowKit Go.Proofs.YtfmobogdnlmdbaaW.PrintWords Go.Proofs.YtfmobogdnlmdbaaW.PrintLast Go.Proofs.YtfmobogdnlmdbaaW.PrintMore
set_option linter.unusedVariables false
theorem can_len_le {a b : List Int} {n m : Int} (ha : Can WW a n) (hb : Can WW b m) (h : m ≤ n) : b.length ≤ a.length := by
  rcases Nat.lt_or_ge a.length b.length with hl | hl
  · have := Can.len_lt WW_one ha hb hl
    omega
  · exact hl
theorem vl_set_mid (B : Int) (l : List Int) (p q : Nat) (v : Int) (h : p < q) (hq : q ≤ l.length) : vl B ((l.set p v).take q) = vl B (l.take q) + (v - rd l (p : Int)) * B ^ p := by
  have h1 := vl_drop B ((l.set p v).take q) (p + 1) (by simp; omega)
  have h2 := vl_drop B (l.take q) (p + 1) (by simp; omega)
  have e1 : ((l.set p v).take q).take (p + 1) = (l.set p v).take (p + 1) := by rw [List.take_take, Nat.min_eq_left (by omega)]
  have e2 : (l.take q).take (p + 1) = l.take (p + 1) := by rw [List.take_take, Nat.min_eq_left (by omega)]
  have e3 : ((l.set p v).take q).drop (p + 1) = (l.take q).drop (p + 1) := by
    rw [List.drop_take, List.drop_take, List.drop_set_of_lt (by omega)]
  rw [e1, e3, vl_set _ _ _ _ (by omega)] at h1
  rw [e2, vl_take _ _ _ (by omega)] at h2
  rw [h1, h2]
  grind
theorem mul_bd {x y : Int} (hx : 0 ≤ x ∧ x < 4294967296) (hy : 0 ≤ y ∧ y < 4294967296) : 0 ≤ x * y ∧ x * y ≤ 18446744065119617025 := by
  have h1 : 0 ≤ x * y := Int.mul_nonneg hx.1 hy.1
  have h2 : x * y ≤ 4294967295 * 4294967295 := Int.mul_le_mul (by omega) (by omega) hy.1 (by omega)
  omega
theorem alg_mul2 {T c P va vb x Pi : Int} (h : T + c * P = va * vb + x * Pi * vb) : T + c * P = (va + x * Pi) * vb := by rw [h]; grind
theorem mul_lt' {n m A C : Int} (h1 : n < A) (h2 : m < C) (h3 : 0 ≤ n) (h4 : 0 ≤ m) : n * m < A * C := by
  have h5 : n * m ≤ n * C := Int.mul_le_mul_of_nonneg_left (by omega) h3
  have h6 : n * C < A * C := Int.mul_lt_mul_of_pos_right h1 (by omega)
  omega
end Go.Proofs.Ytfmobogdnlmdbaa.P
end
section
namespace Go.Proofs.Ytfmobogdnlmdbaa.P
open Go.RowKit Go.Proofs.YtfmobogdnlmdbaaW.PrintWords Go.Proofs.YtfmobogdnlmdbaaW.PrintLast Go.Proofs.YtfmobogdnlmdbaaW.PrintMore
set_option linter.unusedVariables false
abbrev RR : Int := 10000
theorem RR_pos : (0 : Int) < RR := by decide
theorem RR_one : (1 : Int) < RR := by decide
theorem RR_eq : RR = 10000 := rfl
theorem r_trim_ev {l : List Int} (hn : l.length < 4611686018427387904) (hd : Dg RR l) (d : Nat) : ∀ i : Nat, i = d → i ≤ l.length → ∃ r, Ev (fun k => isochroneref01_trim.l0 k l (i : Int)) r ∧ Can RR r (vl RR (l.take i)) ∧ r.length ≤ i := by
  induction d with
  | zero =>
    rintro i rfl h
    refine ⟨[], ?_, Can.zero _, Nat.le_refl _⟩
    refine Ev.step (fun k => by rw [isochroneref01_trim.l0]) ?_
    exact evn (by omega) (evp (by omega) (evp (by omega) (evs _)))
  | succ d ih =>
    rintro i rfl h
    have hw : ((d + 1 : Nat) : Int) - 1 = (d : Int) := by omega
    by_cases hz : rd l d = 0
    · obtain ⟨r, h1, h2, h3⟩ := ih d rfl (by omega)
      refine ⟨r, ?_, ?_, by omega⟩
      · refine Ev.step (fun k => by rw [isochroneref01_trim.l0]) ?_
        rw [hw, w64 (x := (d : Int)) (by omega) (by omega)]
        exact evp (by omega) (evp (by omega) (evp (by omega) (evp hz h1)))
      · rw [vl_take RR l d (by omega), hz, Int.zero_mul, Int.add_zero]
        exact h2
    · refine ⟨l.take (d + 1), ?_, ⟨hd.take _, nm_of_rd (fun _ => ?_), rfl⟩, by rw [List.length_take]; omega⟩
      · refine Ev.step (fun k => by rw [isochroneref01_trim.l0]) ?_
        rw [hw, w64 (x := (d : Int)) (by omega) (by omega), Int.toNat_natCast]
        exact evp (by omega) (evp (by omega) (evp (by omega) (evn hz (evp (by omega) (evp (by omega) (evs _))))))
      · rw [List.length_take, Nat.min_eq_left (by omega), hw, rd_take _ _ _ (by omega)]
        exact hz
theorem r_trim_sp {l : List Int} (hn : l.length < 4611686018427387904) (hd : Dg RR l) : ∃ r, Ev (fun k => isochroneref01_trim.f k l) r ∧ Can RR r (vl RR l) ∧ r.length ≤ l.length := by
  obtain ⟨r, h1, h2⟩ := r_trim_ev hn hd l.length l.length rfl (Nat.le_refl _)
  rw [List.take_length] at h2
  exact ⟨r, Ev.congr (fun k => by rw [isochroneref01_trim.f]) h1, h2⟩
theorem isochroneref01_Cmp_ev {a b : List Int} (hl : a.length = b.length) (hn : a.length < 4611686018427387904) (ha : Dg RR a) (hb : Dg RR b) (d : Nat) :
    ∀ (i : Nat), i = d → i ≤ a.length → vl RR (a.drop i) = vl RR (b.drop i) → ∃ r, Ev (fun k => isochroneref01_Cmp.l0 k a b ((i : Int) - 1)) r ∧ (r = -1 ∧ vl RR a < vl RR b ∨ r = 0 ∧ vl RR a = vl RR b ∨ r = 1 ∧ vl RR b < vl RR a) := by
  induction d with
  | zero =>
    rintro i rfl h1 h2
    refine ⟨0, ?_, .inr (.inl ⟨rfl, by simpa using h2⟩)⟩
    refine Ev.step (fun k => by rw [isochroneref01_Cmp.l0]) ?_
    exact evn (by omega) (evs _)
  | succ d ih =>
    rintro i rfl h1 h2
    have e1 : (((d + 1 : Nat) : Int) - 1) = (d : Int) := by omega
    rw [e1]
    have h3 := vl_drop RR a d (by omega)
    have h4 := vl_drop RR b d (by omega)
    have ea : a.drop d = rd a d :: a.drop (d + 1) := by rw [rd_lt a d (by omega)]; exact (List.drop_eq_getElem_cons (by omega))
    have eb : b.drop d = rd b d :: b.drop (d + 1) := by rw [rd_lt b d (by omega)]; exact (List.drop_eq_getElem_cons (by omega))
    have ta := vl_lt RR_pos (ha.take d)
    have tb := vl_lt RR_pos (hb.take d)
    have ta0 := vl_nonneg RR_pos (ha.take d)
    have tb0 := vl_nonneg RR_pos (hb.take d)
    rw [List.length_take, Nat.min_eq_left (by omega)] at ta tb
    by_cases he : rd a d = rd b d
    · obtain ⟨r, h5, h6⟩ := ih d rfl (by omega) (by rw [ea, eb, vl, vl, he, h2])
      refine ⟨r, ?_, h6⟩
      refine Ev.step (fun k => by rw [isochroneref01_Cmp.l0]) ?_
      rw [w64 (by omega) (by omega)]
      exact evp (by omega) (evp (by omega) (evp (by omega) (evp (by omega) (evp he h5))))
    · have h7 : vl RR (a.drop d) = rd a d + RR * vl RR (a.drop (d + 1)) := by rw [ea, vl]
      have h8 : vl RR (b.drop d) = rd b d + RR * vl RR (b.drop (d + 1)) := by rw [eb, vl]
      have hp : 0 < RR ^ d := Int.pow_pos RR_pos
      by_cases hlt : rd a d < rd b d
      · refine ⟨-1, ?_, .inl ⟨rfl, ?_⟩⟩
        · refine Ev.step (fun k => by rw [isochroneref01_Cmp.l0]) ?_
          exact evp (by omega) (evp (by omega) (evp (by omega) (evp (by omega) (evn he (evp hlt (evs _))))))
        · have h9 : RR ^ d * (vl RR (a.drop d) + 1) ≤ RR ^ d * vl RR (b.drop d) := Int.mul_le_mul_of_nonneg_left (by rw [h7, h8, h2]; omega) (by omega)
          rw [Int.mul_add] at h9
          omega
      · refine ⟨1, ?_, .inr (.inr ⟨rfl, ?_⟩)⟩
        · refine Ev.step (fun k => by rw [isochroneref01_Cmp.l0]) ?_
          exact evp (by omega) (evp (by omega) (evp (by omega) (evp (by omega) (evn he (evn hlt (evs _))))))
        · have h9 : RR ^ d * (vl RR (b.drop d) + 1) ≤ RR ^ d * vl RR (a.drop d) := Int.mul_le_mul_of_nonneg_left (by rw [h7, h8, h2]; omega) (by omega)
          rw [Int.mul_add] at h9
          omega
theorem isochroneref01_Cmp_sp {a b : List Int} {n m : Int} (hn : a.length < 4611686018427387904) (ha : Can RR a n) (hb : Can RR b m) : Ev (fun k => isochroneref01_Cmp.f k a b) (cmpi n m) := by
  unfold isochroneref01_Cmp.f
  by_cases hl : a.length = b.length
  · obtain ⟨r, h1, h2⟩ := isochroneref01_Cmp_ev hl hn ha.1 hb.1 a.length a.length rfl (Nat.le_refl _) (by rw [List.drop_length, hl, List.drop_length])
    have e : r = cmpi n m := by
      rw [ha.2.2, hb.2.2] at h2
      unfold cmpi
      rcases h2 with ⟨rfl, h⟩ | ⟨rfl, h⟩ | ⟨rfl, h⟩
      · rw [if_pos h]
      · rw [if_neg (by omega), if_pos h]
      · rw [if_neg (by omega), if_neg (by omega)]
    rw [← e]
    refine evp (by omega) ?_
    rw [w64 (by omega) (by omega)]
    exact h1
  · refine evn (by omega) ?_
    unfold cmpi
    by_cases h : a.length < b.length
    · have := Can.len_lt RR_one ha hb h
      rw [if_pos this]
      exact evp (by omega) (evs _)
    · have := Can.len_lt RR_one hb ha (by omega)
      rw [if_neg (show ¬ n < m by omega), if_neg (show ¬ n = m by omega)]
      exact evn (by omega) (evs _)
theorem tmod_nn {x : Int} (h : 0 ≤ x) (m : Int) : Int.tmod x m = x % m := Int.tmod_eq_emod_of_nonneg h
theorem tdiv_nn {x : Int} (h : 0 ≤ x) (m : Int) : Int.tdiv x m = x / m := Int.tdiv_eq_ediv_of_nonneg h
theorem vl_snoc (B : Int) (l : List Int) (x : Int) : vl B (l ++ [x]) = vl B l + x * B ^ l.length := by
  rw [vl_append]
  simp only [vl]
  grind
theorem alg_sm {vo c P n v c' R : Int} (h : vo + c * P = n) (h2 : v + R * c' = c) : vo + v * P + c' * (R * P) = n := by grind
theorem alg_sm2 {vo c P va x k v c' R c0 : Int} (h : vo + c * P = c0 + k * va) (h2 : v + R * c' = c + x * k) : vo + v * P + c' * (R * P) = c0 + k * (va + x * P) := by grind
theorem r_Small_in (o0 : List Int) (n : Int) (c : Nat) : ∀ (o : List Int) (cc : Int), cc = (c : Int) → cc < 4611686018427387904 → o.length + c < 1099511627776 → Dg RR o → vl RR o + cc * RR ^ o.length = n → ∃ r, Ev (fun k => isochroneref01_Small.l1 k cc o) r ∧ Can RR r n := by
  induction c using Nat.strongRecOn with
  | _ c ih =>
    intro o cc hcc hlt hl hd hv
    by_cases h0 : c = 0
    · subst h0
      have e : cc = 0 := by omega
      subst e
      rw [Int.zero_mul, Int.add_zero] at hv
      obtain ⟨r, h1, h2, _⟩ := r_trim_sp (l := o) (by omega) hd
      refine ⟨r, ?_, by rw [← hv]; exact h2⟩
      refine Ev.step (fun k => by rw [isochroneref01_Small.l1]) ?_
      exact evn (by omega) (Ev.bind h1 (evs _))
    · obtain ⟨r, h1, h2⟩ := ih (c / 10000) (by omega) (o ++ [cc % 10000]) (cc / 10000) (by omega) (by omega) (by simp; omega) (hd.append (Dg.mk (by omega) (by rw [RR_eq]; omega) (Dg.nil _)))
        (by rw [vl_snoc, List.length_append, List.length_singleton, Int.pow_succ, Int.mul_comm (RR ^ o.length) RR]; exact alg_sm hv (by rw [RR_eq]; omega))
      refine ⟨r, ?_, h2⟩
      refine Ev.step (fun k => by rw [isochroneref01_Small.l1]) ?_
      rw [tmod_nn (x := cc) (by omega), tdiv_nn (x := cc) (by omega), w64 (x := cc / 10000) (by omega) (by omega)]
      exact evp (by omega) (evp (by omega) h1)
theorem r_Small_l0 {a : List Int} (hn : a.length < 549755813888) (ha : Dg RR a) {k0 c0 : Int} (hk : 0 ≤ k0 ∧ k0 ≤ 65536) (d : Nat) :
    ∀ (i : Nat) (o : List Int) (c : Int), a.length - i = d → i ≤ a.length → o.length = i → Dg RR o → 0 ≤ c → c ≤ 65536 → vl RR o + c * RR ^ i = c0 + k0 * vl RR (a.take i) →
    ∃ r, Ev (fun k => isochroneref01_Small.l0 k k0 c o a (a.length : Int) (i : Int)) r ∧ Can RR r (c0 + k0 * vl RR a) := by
  induction d with
  | zero =>
    intro i o c h1 h2 h3 h4 h5 h6 h7
    have e : i = a.length := by omega
    subst e
    rw [List.take_length] at h7
    obtain ⟨r, h8, h9⟩ := r_Small_in o (c0 + k0 * vl RR a) c.toNat o c (by omega) (by omega) (by omega) h4 (by rw [h3]; exact h7)
    refine ⟨r, ?_, h9⟩
    refine Ev.step (fun k => by rw [isochroneref01_Small.l0]) ?_
    exact evn (by omega) h8
  | succ d ih =>
    intro i o c h1 h2 h3 h4 h5 h6 h7
    have hx := dg_rd ha (i : Int) (by omega) (by omega)
    rw [RR_eq] at hx
    have hm : 0 ≤ rd a i * k0 := Int.mul_nonneg hx.1 hk.1
    have hm2 : rd a i * k0 ≤ 9999 * 65536 := Int.mul_le_mul (by omega) hk.2 hk.1 (by omega)
    obtain ⟨r, h8, h9⟩ := ih (i + 1) (o ++ [(c + rd a i * k0) % 10000]) ((c + rd a i * k0) / 10000) (by omega) (by omega) (by simp; omega) (h4.append (Dg.mk (by omega) (by rw [RR_eq]; omega) (Dg.nil _))) (by omega) (by omega)
      (by rw [vl_snoc, h3, vl_take RR a i (by omega), Int.pow_succ, Int.mul_comm (RR ^ i) RR]; exact alg_sm2 h7 (by rw [RR_eq]; omega))
    refine ⟨r, ?_, h9⟩
    refine Ev.step (fun k => by rw [isochroneref01_Small.l0]) ?_
    rw [w64 (x := rd a i * k0) (by omega) (by omega), w64 (x := c + rd a i * k0) (by omega) (by omega), tmod_nn (x := c + rd a i * k0) (by omega), tdiv_nn (x := c + rd a i * k0) (by omega), w64 (x := (c + rd a i * k0) / 10000) (by omega) (by omega), wsucc (i := i) (by omega)]
    exact evp (by omega) (evp (by omega) (evp (by omega) (evp (by omega) h8)))
theorem r_Small_sp {a : List Int} {n k0 c0 : Int} (hn : a.length < 549755813888) (ha : Can RR a n) (hk : 0 ≤ k0 ∧ k0 ≤ 65536) (hc : 0 ≤ c0 ∧ c0 ≤ 65536) : ∃ r, Ev (fun k => isochroneref01_Small.f k a k0 c0) r ∧ Can RR r (n * k0 + c0) ∧ r.length ≤ a.length + 2 := by
  obtain ⟨r, h1, h2⟩ := r_Small_l0 hn ha.1 hk (c0 := c0) a.length 0 [] c0 (by omega) (by omega) rfl (Dg.nil _) hc.1 hc.2 (by simp [vl])
  rw [ha.2.2, Int.add_comm, Int.mul_comm] at h2
  refine ⟨r, ?_, h2, ?_⟩
  · unfold isochroneref01_Small.f
    have e : (a.length : Int) + 2 = ((a.length + 2 : Nat) : Int) := by omega
    rw [e, w64 (by omega) (by omega), Int.toNat_natCast]
    exact evp (by omega) (evp (by omega) h1)
  · refine h2.len_le RR_one ?_
    have h3 := ha.lt RR_pos
    have h4 := ha.nonneg RR_pos
    have h5 : n * k0 ≤ n * 65536 := Int.mul_le_mul_of_nonneg_left hk.2 h4
    have h6 : RR ^ (a.length + 2) = RR ^ a.length * 100000000 := by rw [Int.pow_add]; rfl
    rw [h6]
    omega
theorem r_Int_ev (n : Int) (c : Nat) : ∀ (o : List Int) (cc : Int), cc = (c : Int) → cc < 4611686018427387904 → o.length + c < 17592186044416 → Dg RR o → (c = 0 → Nm o) → vl RR o + cc * RR ^ o.length = n → ∃ r, Ev (fun k => isochroneref01_Int.l0 k cc o) r ∧ Can RR r n := by
  induction c using Nat.strongRecOn with
  | _ c ih =>
    intro o cc hcc hlt hl hd hnm hv
    by_cases h0 : c = 0
    · subst h0
      have e : cc = 0 := by omega
      subst e
      rw [Int.zero_mul, Int.add_zero] at hv
      refine ⟨o, ?_, hd, hnm rfl, hv⟩
      refine Ev.step (fun k => by rw [isochroneref01_Int.l0]) ?_
      exact evn (by omega) (evs _)
    · obtain ⟨r, h1, h2⟩ := ih (c / 10000) (by omega) (o ++ [cc % 10000]) (cc / 10000) (by omega) (by omega) (by simp; omega) (hd.append (Dg.mk (by omega) (by rw [RR_eq]; omega) (Dg.nil _)))
        (by
          intro hz hne
          simp only [List.getLast_append, List.getLast_singleton]
          simp
          omega)
        (by rw [vl_snoc, List.length_append, List.length_singleton, Int.pow_succ, Int.mul_comm (RR ^ o.length) RR]; exact alg_sm hv (by rw [RR_eq]; omega))
      refine ⟨r, ?_, h2⟩
      refine Ev.step (fun k => by rw [isochroneref01_Int.l0]) ?_
      rw [tmod_nn (x := cc) (by omega), tdiv_nn (x := cc) (by omega), w64 (x := cc / 10000) (by omega) (by omega)]
      exact evp (by omega) (evp (by omega) h1)
theorem r_Int_sp {a : Int} (h0 : 0 ≤ a) (h1 : a < 10000000000000) : ∃ r, Ev (fun k => isochroneref01_Int.f k a) r ∧ Can RR r a := by
  obtain ⟨r, h2, h3⟩ := r_Int_ev a a.toNat [] a (by omega) (by omega) (by simp; omega) (Dg.nil _) (fun _ => Nm.nil) (by simp [vl])
  exact ⟨r, Ev.congr (fun k => by rw [isochroneref01_Int.f]) h2, h3⟩
theorem and16 {x : Int} (h0 : 0 ≤ x) (h1 : x < 4294967296) : Go.bits .and .u32 x 65535 = x % 65536 :=
  bits_mask .u32 32 (by decide) (fun n h0 h1 => by rw [IntKind.wrap_u32]; omega) 16 (by decide) x h0 h1
theorem r_Of_ev {a : List Int} (hn : a.length < 137438953472) (ha : Dg WW a) (d : Nat) : ∀ (i : Nat) (o : List Int), i = d → i ≤ a.length → Can RR o (vl WW (a.drop i)) → o.length ≤ 4 * (a.length - i) → ∃ r, Ev (fun k => isochroneref01_Of.l0 k a o ((i : Int) - 1)) r ∧ Can RR r (vl WW a) ∧ r.length ≤ 4 * a.length := by
  induction d with
  | zero =>
    rintro i o rfl h1 h2 h3
    refine ⟨o, ?_, by simpa using h2, by omega⟩
    refine Ev.step (fun k => by rw [isochroneref01_Of.l0]) ?_
    exact evn (by omega) (evs _)
  | succ d ih =>
    rintro i o rfl h1 h2 h3
    have e1 : (((d + 1 : Nat) : Int) - 1) = (d : Int) := by omega
    have hx := dg_rd ha (d : Int) (by omega) (by omega)
    rw [WW_eq] at hx
    obtain ⟨p, h4, h5, h6⟩ := r_Small_sp (k0 := 65536) (c0 := rd a d / 65536) (by omega) h2 (by omega) (by omega)
    obtain ⟨q, h7, h8, h9⟩ := r_Small_sp (k0 := 65536) (c0 := rd a d % 65536) (by omega) h5 (by omega) (by omega)
    have ea : a.drop d = rd a d :: a.drop (d + 1) := by rw [rd_lt a d (by omega)]; exact (List.drop_eq_getElem_cons (by omega))
    have ev : (vl WW (a.drop (d + 1)) * 65536 + rd a d / 65536) * 65536 + rd a d % 65536 = vl WW (a.drop d) := by
      rw [ea, vl, WW_eq]
      omega
    rw [ev] at h8
    obtain ⟨r, h10, h11⟩ := ih d q rfl (by omega) h8 (by omega)
    refine ⟨r, ?_, h11⟩
    refine Ev.step (fun k => by rw [isochroneref01_Of.l0]) ?_
    rw [e1, and16 hx.1 hx.2, w64 (x := rd a d / 65536) (by omega) (by omega), w64 (x := rd a d % 65536) (by omega) (by omega), w64 (x := (d : Int) - 1) (by omega) (by omega)]
    exact evp (by omega) (evp (by omega) (evp (by omega) (Ev.bind h4 (Ev.bind h7 h10))))
theorem r_Of_sp {a : List Int} {n : Int} (hn : a.length < 137438953472) (ha : Can WW a n) : ∃ r, Ev (fun k => isochroneref01_Of.f k a) r ∧ Can RR r n ∧ r.length ≤ 4 * a.length := by
  obtain ⟨r, h1, h2⟩ := r_Of_ev hn ha.1 a.length a.length [] rfl (Nat.le_refl _) (by rw [List.drop_length]; exact Can.zero _) (by simp)
  rw [ha.2.2] at h2
  refine ⟨r, ?_, h2⟩
  unfold isochroneref01_Of.f
  rw [w64 (x := (a.length : Int) - 1) (by omega) (by omega)]
  exact h1
end Go.Proofs.Ytfmobogdnlmdbaa.P
end
section
namespace Go.Proofs.Ytfmobogdnlmdbaa.P
open Go.RowKit Go.Proofs.YtfmobogdnlmdbaaW.PrintWords Go.Proofs.YtfmobogdnlmdbaaW.PrintLast Go.Proofs.YtfmobogdnlmdbaaW.PrintMore
set_option linter.unusedVariables false
theorem nm_of_ge {B : Int} {l : List Int} (hB : 0 < B) (hd : Dg B l) (h : B ^ (l.length - 1) ≤ vl B l) : Nm l := by
  refine nm_of_rd (fun hp hz => ?_)
  have e : (l.length : Int) - 1 = ((l.length - 1 : Nat) : Int) := by omega
  rw [e] at hz
  have h1 := vl_take B l (l.length - 1) (by omega)
  rw [hz, show l.length - 1 + 1 = l.length by omega, List.take_length] at h1
  have h2 := vl_lt hB (hd.take (l.length - 1))
  rw [List.length_take, Nat.min_eq_left (by omega)] at h2
  omega
theorem alg_radd {vo va vb P c c' v x y R : Int} (h : vo + c * P = va + vb) (h2 : v + R * c' = c + x + y) : (vo + v * P) + c' * (R * P) = (va + x * P) + (vb + y * P) := by grind
theorem take_over (l : List Int) (i : Nat) (h : l.length ≤ i) : l.take i = l := List.take_of_length_le h
theorem r_Add_ev {a b : List Int} {n m : Int} (hn : a.length + b.length < 68719476736) (ha : Can RR a n) (hb : Can RR b m) (d : Nat) :
    ∀ (i : Nat) (o : List Int) (c : Int), max a.length b.length + 1 - i = d → i ≤ max a.length b.length + 1 → o.length = i → Dg RR o → 0 ≤ c → c ≤ 1 → (max a.length b.length < i → c = 0 ∧ RR ^ (max a.length b.length) ≤ n + m) →
    vl RR o + c * RR ^ i = vl RR (a.take i) + vl RR (b.take i) → ∃ r, Ev (fun k => isochroneref01_Add.l0 k a b o c (i : Int)) r ∧ Can RR r (n + m) ∧ r.length ≤ max a.length b.length + 1 := by
  induction d with
  | zero =>
    intro i o c h1 h2 h3 h4 h5 h6 h7 h8
    obtain ⟨hc, hge⟩ := h7 (by omega)
    subst hc
    rw [take_over a i (by omega), take_over b i (by omega), ha.2.2, hb.2.2, Int.zero_mul, Int.add_zero] at h8
    refine ⟨o, ?_, ⟨h4, nm_of_ge RR_pos h4 ?_, h8⟩, by omega⟩
    · refine Ev.step (fun k => by rw [isochroneref01_Add.l0]) ?_
      refine evn (by omega) (evn (by omega) ?_)
      refine Ev.step (fun k => by rw [isochroneref01_Add.j1]) ?_
      exact evn (by simp) (evs _)
    · rw [h8, h3, show i - 1 = max a.length b.length by omega]
      exact hge
  | succ d ih =>
    intro i o c h1 h2 h3 h4 h5 h6 h7 h8
    have step : ∀ (x y : Int), 0 ≤ x ∧ x < 10000 → 0 ≤ y ∧ y < 10000 → vl RR (a.take (i + 1)) = vl RR (a.take i) + x * RR ^ i → vl RR (b.take (i + 1)) = vl RR (b.take i) + y * RR ^ i → (max a.length b.length < i + 1 → (c + x + y) / 10000 = 0 ∧ RR ^ (max a.length b.length) ≤ n + m) →
        ∃ r, Ev (fun k => isochroneref01_Add.l0 k a b (o ++ [(c + x + y) % 10000]) ((c + x + y) / 10000) ((i + 1 : Nat) : Int)) r ∧ Can RR r (n + m) ∧ r.length ≤ max a.length b.length + 1 := by
      intro x y hx hy ta tb hg
      refine ih (i + 1) _ _ (by omega) (by omega) (by simp; omega) (h4.append (Dg.mk (by omega) (by rw [RR_eq]; omega) (Dg.nil _))) (by omega) (by omega) hg ?_
      rw [vl_snoc, h3, ta, tb, Int.pow_succ, Int.mul_comm (RR ^ i) RR]
      exact alg_radd h8 (by rw [RR_eq]; omega)
    by_cases hia : i < a.length
    · have hx := dg_rd ha.1 (i : Int) (by omega) (by omega)
      rw [RR_eq] at hx
      by_cases hib : i < b.length
      · have hy := dg_rd hb.1 (i : Int) (by omega) (by omega)
        rw [RR_eq] at hy
        obtain ⟨r, q1, q2⟩ := step _ _ hx hy (vl_take RR a i hia) (vl_take RR b i hib) (fun h => by omega)
        refine ⟨r, ?_, q2⟩
        refine Ev.step (fun k => by rw [isochroneref01_Add.l0]) ?_
        refine evp (by omega) ?_
        refine Ev.step (fun k => by rw [isochroneref01_Add.j1]) ?_
        rw [w64 (x := c + rd a i) (by omega) (by omega), w64 (x := c + rd a i + rd b i) (by omega) (by omega), tmod_nn (x := c + rd a i + rd b i) (by omega), tdiv_nn (x := c + rd a i + rd b i) (by omega), w64 (x := (c + rd a i + rd b i) / 10000) (by omega) (by omega), wsucc (i := i) (by omega)]
        exact evp rfl (evp (by omega) (evp (by omega) (evp (by omega) (evp (by omega) q1))))
      · obtain ⟨r, q1, q2⟩ := step _ 0 hx (by omega) (vl_take RR a i hia) (by rw [take_over b i (by omega), take_over b (i + 1) (by omega)]; omega) (fun h => by omega)
        rw [Int.add_zero] at q1
        refine ⟨r, ?_, q2⟩
        refine Ev.step (fun k => by rw [isochroneref01_Add.l0]) ?_
        refine evp (by omega) ?_
        refine Ev.step (fun k => by rw [isochroneref01_Add.j1]) ?_
        rw [w64 (x := c + rd a i) (by omega) (by omega), tmod_nn (x := c + rd a i) (by omega), tdiv_nn (x := c + rd a i) (by omega), w64 (x := (c + rd a i) / 10000) (by omega) (by omega), wsucc (i := i) (by omega)]
        exact evp rfl (evp (by omega) (evp (by omega) (evn (by omega) (evp (by omega) q1))))
    · by_cases hib : i < b.length
      · have hy := dg_rd hb.1 (i : Int) (by omega) (by omega)
        rw [RR_eq] at hy
        obtain ⟨r, q1, q2⟩ := step 0 _ (by omega) hy (by rw [take_over a i (by omega), take_over a (i + 1) (by omega)]; omega) (vl_take RR b i hib) (fun h => by omega)
        rw [Int.add_zero] at q1
        refine ⟨r, ?_, q2⟩
        refine Ev.step (fun k => by rw [isochroneref01_Add.l0]) ?_
        refine evn (by omega) (evp (by omega) ?_)
        refine Ev.step (fun k => by rw [isochroneref01_Add.j1]) ?_
        rw [w64 (x := c + rd b i) (by omega) (by omega), tmod_nn (x := c + rd b i) (by omega), tdiv_nn (x := c + rd b i) (by omega), w64 (x := (c + rd b i) / 10000) (by omega) (by omega), wsucc (i := i) (by omega)]
        exact evp rfl (evn (by omega) (evp (by omega) (evp (by omega) (evp (by omega) q1))))
      · rw [take_over a i (by omega), take_over b i (by omega), ha.2.2, hb.2.2] at h8
        by_cases hc : c = 0
        · subst hc
          rw [Int.zero_mul, Int.add_zero] at h8
          refine ⟨o, ?_, ⟨h4, ?_, h8⟩, by omega⟩
          · refine Ev.step (fun k => by rw [isochroneref01_Add.l0]) ?_
            refine evn (by omega) (evn (by omega) ?_)
            refine Ev.step (fun k => by rw [isochroneref01_Add.j1]) ?_
            exact evn (by simp) (evs _)
          · by_cases hi0 : i = 0
            · have : o = [] := List.eq_nil_of_length_eq_zero (by omega)
              rw [this]
              exact Nm.nil
            · refine nm_of_ge RR_pos h4 ?_
              rw [h8, h3]
              have hna := ha.nonneg RR_pos
              have hnb := hb.nonneg RR_pos
              by_cases hge : b.length ≤ a.length
              · have := ha.ge RR_pos (by omega)
                have h9 := pow_le (B := RR) (by have := RR_one; omega) (show i - 1 ≤ a.length - 1 by omega)
                omega
              · have := hb.ge RR_pos (by omega)
                have h9 := pow_le (B := RR) (by have := RR_one; omega) (show i - 1 ≤ b.length - 1 by omega)
                omega
        · have hc1 : c = 1 := by omega
          subst hc1
          have him : i ≤ max a.length b.length := by
            rcases Nat.lt_or_ge (max a.length b.length) i with h | h
            · have := (h7 h).1
              omega
            · exact h
          have hvo := vl_nonneg RR_pos h4
          obtain ⟨r, q1, q2⟩ := step 0 0 (by omega) (by omega) (by rw [take_over a i (by omega), take_over a (i + 1) (by omega)]; omega) (by rw [take_over b i (by omega), take_over b (i + 1) (by omega)]; omega)
            (fun h => ⟨by omega, by rw [show max a.length b.length = i by omega]; omega⟩)
          refine ⟨r, ?_, q2⟩
          refine Ev.step (fun k => by rw [isochroneref01_Add.l0]) ?_
          refine evn (by omega) (evn (by omega) ?_)
          refine Ev.step (fun k => by rw [isochroneref01_Add.j1]) ?_
          rw [wsucc (i := i) (by omega), show Int.tmod 1 10000 = (1 + 0 + 0) % 10000 by decide, show wrap64 (Int.tdiv 1 10000) = (1 + 0 + 0) / 10000 by decide +kernel]
          exact evp (by simp) (evn (by omega) (evn (by omega) (evp (by omega) q1)))
theorem r_Add_sp {a b : List Int} {n m : Int} (hn : a.length + b.length < 68719476736) (ha : Can RR a n) (hb : Can RR b m) : ∃ r, Ev (fun k => isochroneref01_Add.f k a b) r ∧ Can RR r (n + m) ∧ r.length ≤ max a.length b.length + 1 := by
  obtain ⟨r, h1, h2⟩ := r_Add_ev hn ha hb (max a.length b.length + 1) 0 [] 0 (by omega) (by omega) rfl (Dg.nil _) (by omega) (by omega) (fun h => by omega) (by simp [vl])
  exact ⟨r, Ev.congr (fun k => by rw [isochroneref01_Add.f]; rfl) h1, h2⟩
end Go.Proofs.Ytfmobogdnlmdbaa.P
end
section
namespace Go.Proofs.Ytfmobogdnlmdbaa.P
open Go.RowKit Go.Proofs.YtfmobogdnlmdbaaW.PrintWords Go.Proofs.YtfmobogdnlmdbaaW.PrintLast Go.Proofs.YtfmobogdnlmdbaaW.PrintMore
set_option linter.unusedVariables false
theorem drop_set_ge (l : List Int) (i : Nat) (v : Int) : (l.set i v).drop (i + 1) = l.drop (i + 1) := by rw [List.drop_set_of_lt (by omega)]
theorem rd_of_drop (a o : List Int) (i : Nat) (h : o.drop i = a.drop i) (hi : i < a.length) (hl : o.length = a.length) : rd o i = rd a i := by
  rw [rd_lt o i (by omega), rd_lt a i hi]
  have h1 : (o.drop i)[0]? = (a.drop i)[0]? := by rw [h]
  rw [List.getElem?_drop, List.getElem?_drop, Nat.add_zero, List.getElem?_eq_getElem (by omega), List.getElem?_eq_getElem hi] at h1
  exact Option.some.inj h1
theorem drop_tail (a o : List Int) (i : Nat) (h : o.drop i = a.drop i) : o.drop (i + 1) = a.drop (i + 1) := by
  rw [← List.drop_drop, ← List.drop_drop, h]
theorem vl_set_all (B : Int) (l : List Int) (p : Nat) (v : Int) (h : p < l.length) : vl B (l.set p v) = vl B l + (v - rd l (p : Int)) * B ^ p := by
  have h1 := vl_set_mid B l p l.length v h (Nat.le_refl _)
  rwa [List.take_of_length_le (by simp), List.take_length] at h1
theorem alg_carry {T c P V old v c' W : Int} (h : T + c * P = V) (h2 : v + W * c' = c + old) : (T + (v - old) * P) + c' * (W * P) = V := by grind
theorem r_Mul_c {a b : List Int} {V : Int} (hn : a.length + b.length < 68719476736) (hV : V < RR ^ (a.length + b.length)) (s : Int) (R : List Int)
    (hout : ∀ o : List Int, o.length = a.length + b.length + 1 → Dg RR o → vl RR o = V → Ev (fun k => isochroneref01_Mul.l0 k b o a (a.length : Int) (wrap64 (s + 1))) R) (d : Nat) :
    ∀ (p : Nat) (o : List Int) (c : Int), a.length + b.length + 1 - p = d → p ≤ a.length + b.length + 1 → o.length = a.length + b.length + 1 → Dg RR o → 0 ≤ c → c < 10000 → vl RR o + c * RR ^ p = V →
    Ev (fun k => isochroneref01_Mul.l2 k b o c (p : Int) a (a.length : Int) s) R := by
  induction d with
  | zero =>
    intro p o c h1 h2 h3 h4 h5 h6 h7
    have hvo := vl_nonneg RR_pos h4
    have hc : c = 0 := by
      rcases Int.lt_or_eq_of_le h5 with h | h
      · have h8 := pow_le (B := RR) (by have := RR_one; omega) (show a.length + b.length ≤ p by omega)
        have h9 : 1 * RR ^ p ≤ c * RR ^ p := Int.mul_le_mul_of_nonneg_right (by omega) (Int.le_of_lt (Int.pow_pos RR_pos))
        omega
      · omega
    subst hc
    rw [Int.zero_mul, Int.add_zero] at h7
    refine Ev.step (fun k => by rw [isochroneref01_Mul.l2]) ?_
    exact evn (by omega) (hout o h3 h4 h7)
  | succ d ih =>
    intro p o c h1 h2 h3 h4 h5 h6 h7
    by_cases hc : c = 0
    · subst hc
      rw [Int.zero_mul, Int.add_zero] at h7
      refine Ev.step (fun k => by rw [isochroneref01_Mul.l2]) ?_
      exact evn (by omega) (hout o h3 h4 h7)
    · have ho := dg_rd h4 (p : Int) (by omega) (by omega)
      rw [RR_eq] at ho
      have h8 := ih (p + 1) (o.set p ((c + rd o p) % 10000)) ((c + rd o p) / 10000) (by omega) (by omega) (by simpa using h3) (h4.set _ (by omega) (by rw [RR_eq]; omega)) (by omega) (by omega)
        (by rw [vl_set_all _ _ _ _ (by omega), Int.pow_succ, Int.mul_comm (RR ^ p) RR]; exact alg_carry h7 (by rw [RR_eq]; omega))
      refine Ev.step (fun k => by rw [isochroneref01_Mul.l2]) ?_
      rw [w64 (x := c + rd o p) (by omega) (by omega), tmod_nn (x := c + rd o p) (by omega), tdiv_nn (x := c + rd o p) (by omega), w64 (x := (c + rd o p) / 10000) (by omega) (by omega), wsucc (i := p) (by omega), Int.toNat_natCast]
      exact evp (by omega) (evp (by omega) (evp (by omega) h8))
theorem mul_bd4 {x y : Int} (hx : 0 ≤ x ∧ x < 10000) (hy : 0 ≤ y ∧ y < 10000) : 0 ≤ x * y ∧ x * y ≤ 99980001 := by
  have h1 : 0 ≤ x * y := Int.mul_nonneg hx.1 hy.1
  have h2 : x * y ≤ 9999 * 9999 := Int.mul_le_mul (by omega) (by omega) hy.1 (by omega)
  omega
theorem alg_rmul {T va vb x y old P c c' v W xb Pi Pj : Int} (h : T + c * P = va * vb + x * Pi * xb) (h2 : v + W * c' = c + (old + x * y)) (hP : P = Pi * Pj) : (T + (v - old) * P) + c' * (W * P) = va * vb + x * Pi * (xb + y * Pj) := by grind
theorem r_Mul_in {a b : List Int} (hn : a.length + b.length < 68719476736) (ha : Dg RR a) (hb : Dg RR b) (i : Nat) (hi : i < a.length) (R : List Int)
    (hout : ∀ o : List Int, o.length = a.length + b.length + 1 → Dg RR o → vl RR o = vl RR (a.take (i + 1)) * vl RR b → Ev (fun k => isochroneref01_Mul.l0 k b o a (a.length : Int) ((i + 1 : Nat) : Int)) R) (d : Nat) :
    ∀ (j : Nat) (o : List Int) (c : Int), b.length - j = d → j ≤ b.length → o.length = a.length + b.length + 1 → Dg RR o → 0 ≤ c → c < 10000 →
    vl RR o + c * RR ^ (i + j) = vl RR (a.take i) * vl RR b + rd a i * RR ^ i * vl RR (b.take j) →
    Ev (fun k => isochroneref01_Mul.l1 k b o (i : Int) (rd a i) c a (a.length : Int) (i : Int) b (b.length : Int) (j : Int)) R := by
  have hx := dg_rd ha (i : Int) (by omega) (by omega)
  rw [RR_eq] at hx
  induction d with
  | zero =>
    intro j o c h1 h2 h3 h4 h5 h6 h7
    have e : j = b.length := by omega
    subst e
    rw [List.take_length] at h7
    have h8 := alg_mul2 h7
    rw [← vl_take RR a i hi] at h8
    have hlt : vl RR (a.take (i + 1)) * vl RR b < RR ^ (a.length + b.length) := by
      rw [Int.pow_add]
      have q1 := vl_lt RR_pos (ha.take (i + 1))
      have q2 := pow_le (B := RR) (by have := RR_one; omega) (show (a.take (i + 1)).length ≤ a.length by rw [List.length_take]; omega)
      exact mul_lt' (by omega) (vl_lt RR_pos hb) (vl_nonneg RR_pos (ha.take _)) (vl_nonneg RR_pos hb)
    have h9 := r_Mul_c (a := a) (b := b) (V := vl RR (a.take (i + 1)) * vl RR b) hn hlt (i : Int) R (fun o' q1 q2 q3 => by rw [wsucc (i := i) (by omega)]; exact hout o' q1 q2 q3) (a.length + b.length + 1 - (i + b.length)) (i + b.length) o c rfl (by omega) h3 h4 h5 h6 h8
    have ei : ((i : Int) + (b.length : Int)) = ((i + b.length : Nat) : Int) := by omega
    refine Ev.step (fun k => by rw [isochroneref01_Mul.l1]) ?_
    rw [ei, w64 (x := ((i + b.length : Nat) : Int)) (by omega) (by omega)]
    exact evn (by omega) h9
  | succ d ih =>
    intro j o c h1 h2 h3 h4 h5 h6 h7
    have hy := dg_rd hb (j : Int) (by omega) (by omega)
    have ho := dg_rd h4 ((i + j : Nat) : Int) (by omega) (by omega)
    rw [RR_eq] at hy ho
    have hm := mul_bd4 hx hy
    have h8 := ih (j + 1) (o.set (i + j) ((c + (rd o ((i + j : Nat) : Int) + rd a i * rd b j)) % 10000)) ((c + (rd o ((i + j : Nat) : Int) + rd a i * rd b j)) / 10000) (by omega) (by omega) (by simpa using h3) (h4.set _ (by omega) (by rw [RR_eq]; omega)) (by omega) (by omega)
      (by
        rw [vl_set_all _ _ _ _ (by omega), vl_take RR b j (by omega), show i + (j + 1) = i + j + 1 by omega, Int.pow_succ, Int.mul_comm (RR ^ (i + j)) RR]
        exact alg_rmul h7 (by rw [RR_eq]; omega) (Int.pow_add _ _ _))
    have ei : ((i : Int) + (j : Int)) = ((i + j : Nat) : Int) := by omega
    refine Ev.step (fun k => by rw [isochroneref01_Mul.l1]) ?_
    rw [ei, w64 (x := ((i + j : Nat) : Int)) (by omega) (by omega), w64 (x := rd a i * rd b j) (by omega) (by omega), w64 (x := rd o ((i + j : Nat) : Int) + rd a i * rd b j) (by omega) (by omega), w64 (x := c + (rd o ((i + j : Nat) : Int) + rd a i * rd b j)) (by omega) (by omega),
      tmod_nn (x := c + (rd o ((i + j : Nat) : Int) + rd a i * rd b j)) (by omega), tdiv_nn (x := c + (rd o ((i + j : Nat) : Int) + rd a i * rd b j)) (by omega), w64 (x := (c + (rd o ((i + j : Nat) : Int) + rd a i * rd b j)) / 10000) (by omega) (by omega), wsucc (i := j) (by omega), Int.toNat_natCast]
    exact evp (by omega) (evp (by omega) (evp (by omega) (evp (by omega) (evp (by omega) h8))))
theorem r_Mul_out {a b : List Int} (hn : a.length + b.length < 68719476736) (ha : Dg RR a) (hb : Dg RR b) : ∃ R, Can RR R (vl RR a * vl RR b) ∧ R.length ≤ a.length + b.length ∧ ∀ (d i : Nat) (o : List Int), a.length - i = d → i ≤ a.length → o.length = a.length + b.length + 1 → Dg RR o → vl RR o = vl RR (a.take i) * vl RR b →
    Ev (fun k => isochroneref01_Mul.l0 k b o a (a.length : Int) (i : Int)) R := by
  have hnn : 0 ≤ vl RR a * vl RR b := Int.mul_nonneg (vl_nonneg RR_pos ha) (vl_nonneg RR_pos hb)
  obtain ⟨R, hR⟩ := can_ex RR_one hnn
  have hRl : R.length ≤ a.length + b.length := by
    refine hR.len_le RR_one ?_
    rw [Int.pow_add]
    exact mul_lt' (vl_lt RR_pos ha) (vl_lt RR_pos hb) (vl_nonneg RR_pos ha) (vl_nonneg RR_pos hb)
  refine ⟨R, hR, hRl, ?_⟩
  intro d
  induction d with
  | zero =>
    intro i o h1 h2 h3 h4 h5
    have e : i = a.length := by omega
    subst e
    rw [List.take_length] at h5
    obtain ⟨r, h8, h9, h10⟩ := r_trim_sp (l := o) (by omega) h4
    rw [h5] at h9
    rw [can_uniq RR_pos hR h9]
    refine Ev.step (fun k => by rw [isochroneref01_Mul.l0]) ?_
    exact evn (by omega) (Ev.bind h8 (evs _))
  | succ d ih =>
    intro i o h1 h2 h3 h4 h5
    have h6 := r_Mul_in hn ha hb i (by omega) R (fun o' q1 q2 q3 => ih (i + 1) o' (by omega) (by omega) q1 q2 q3) b.length 0 o 0 (by omega) (by omega) h3 h4 (by omega) (by omega) (by rw [h5]; simp [vl])
    refine Ev.step (fun k => by rw [isochroneref01_Mul.l0]) ?_
    exact evp (by omega) (evp (by omega) (evp (by omega) h6))
theorem r_Mul_sp {a b : List Int} {n m : Int} (hn : a.length + b.length < 68719476736) (ha : Can RR a n) (hb : Can RR b m) : ∃ r, Ev (fun k => isochroneref01_Mul.f k a b) r ∧ Can RR r (n * m) ∧ r.length ≤ a.length + b.length := by
  obtain ⟨R, h1, h2, h3⟩ := r_Mul_out hn ha.1 hb.1
  rw [ha.2.2, hb.2.2] at h1
  refine ⟨R, ?_, h1, h2⟩
  have h4 := h3 a.length 0 (List.replicate (a.length + b.length + 1) 0) (by omega) (by omega) (by simp) (Dg.rep RR_pos _) (by simp [vl, vl_rep])
  unfold isochroneref01_Mul.f
  have e : (a.length : Int) + (b.length : Int) = ((a.length + b.length : Nat) : Int) := by omega
  rw [e, w64 (x := ((a.length + b.length : Nat) : Int)) (by omega) (by omega), wsucc (i := a.length + b.length) (by omega), Int.toNat_natCast]
  exact evp (by omega) (evp (by omega) h4)
end Go.Proofs.Ytfmobogdnlmdbaa.P
end
section
namespace Go.Proofs.Ytfmobogdnlmdbaa.P
open Go.RowKit Go.Proofs.YtfmobogdnlmdbaaW.PrintWords Go.Proofs.YtfmobogdnlmdbaaW.PrintLast Go.Proofs.YtfmobogdnlmdbaaW.PrintMore
set_option linter.unusedVariables false
theorem drop_set_self (l : List Int) (i : Nat) (v : Int) (h : i < l.length) : (l.set i v).drop i = v :: l.drop (i + 1) := by
  rw [List.drop_eq_getElem_cons (by simpa using h), List.getElem_set_self, drop_set_ge]
theorem drop_rd (l : List Int) (i : Nat) (h : i < l.length) : l.drop i = rd l i :: l.drop (i + 1) := by
  rw [rd_lt l i h]
  exact List.drop_eq_getElem_cons h
theorem valid_sp (l : List Int) (hl : l.length < 4611686018427387904) : ∃ b, isochroneref01_Valid.f l = some b ∧ nat_Valid.f l = some b ∧ (b = true ↔ l.length ≤ 4096 ∧ Nm l) := by
  unfold isochroneref01_Valid.f nat_Valid.f
  by_cases h1 : l.length ≤ 4096
  · by_cases h0 : l.length = 0
    · refine ⟨true, by rw [if_pos (by omega), if_pos (by omega)], by rw [if_pos (by omega), if_pos (by omega)], ?_⟩
      have : l = [] := List.eq_nil_of_length_eq_zero h0
      subst this
      simp
      exact Nm.nil
    · have e : wrap64 ((l.length : Int) - 1) = (l.length : Int) - 1 := w64 (by omega) (by omega)
      rw [e, if_pos (by omega), if_neg (by omega), if_pos (by omega), if_pos (by omega)]
      refine ⟨_, rfl, rfl, ?_⟩
      simp only [bne_iff_ne]
      constructor
      · intro h
        exact ⟨h1, nm_of_rd (fun _ => h)⟩
      · intro h
        exact h.2.rd (by omega)
  · refine ⟨false, by rw [if_neg (by omega)], by rw [if_neg (by omega)], ?_⟩
    simp
    omega
theorem awake_ok : Ev (fun k => isochronelaw01_awake.f k) true := Ev.of (fun k => isochronelaw01_awake.mono k) (k := 60) (by decide +kernel)
end Go.Proofs.Ytfmobogdnlmdbaa.P
end
section
namespace Go.Proofs.Ytfmobogdnlmdbaa.P
open Go.RowKit Go.Proofs.YtfmobogdnlmdbaaW.PrintWords Go.Proofs.YtfmobogdnlmdbaaW.PrintLast Go.Proofs.YtfmobogdnlmdbaaW.PrintMore
set_option linter.unusedVariables false
theorem or_comm' (k : IntKind) (a b : Int) : Go.bits .or k a b = Go.bits .or k b a := by
  simp only [Go.bits]
  rw [BitVec.or_comm]
theorem or64 {h x : Int} (hh : 0 ≤ h ∧ h < 4294967296) (hx : 0 ≤ x ∧ x < 4294967296) : Go.bits .or .u64 (h * 4294967296) x = h * 4294967296 + x :=
  bits_join .u64 64 (by decide) (fun n h0 h1 => by rw [IntKind.wrap_u64]; omega) 32 _ _ (by omega) (by omega) (by omega) hx.1 (by omega) (by omega)
theorem or64' {h x : Int} (hh : 0 ≤ h ∧ h < 4294967296) (hx : 0 ≤ x ∧ x < 4294967296) : Go.bits .or .u64 x (h * 4294967296) = h * 4294967296 + x := by
  rw [or_comm', or64 hh hx]
theorem alg_dw {t r va q rr d R K : Int} (h : t * K + r = va) (h2 : q * K + rr = r * R + d) : (q + R * t) * K + rr = d + R * va := by grind
theorem mag_divWord_ev {a : List Int} (hn : a.length < 68719476736) (ha : Dg WW a) {K : Int} (hK : 1 ≤ K ∧ K < 4294967296) (d : Nat) : ∀ (i : Nat) (o : List Int) (r : Int), i = d → i ≤ a.length → o.length = a.length → Dg WW (o.drop i) → 0 ≤ r → r < K → vl WW (o.drop i) * K + r = vl WW (a.drop i) →
    ∃ q z, Ev (fun k => mag_divWord.l0 k a K o r ((i : Int) - 1)) (q, z) ∧ (∃ m, Can WW q m ∧ m * K + z = vl WW a) ∧ 0 ≤ z ∧ z < K ∧ q.length ≤ a.length := by
  induction d with
  | zero =>
    rintro i o r rfl h1 h2 h3 h4 h5 h6
    rw [List.drop_zero] at h3 h6
    rw [List.drop_zero] at h6
    obtain ⟨q, h7, h8, h9⟩ := mag_Trim_sp (l := o) (by omega) h3
    have er : r % 4294967296 = r := by omega
    refine ⟨q, r, ?_, ⟨_, h8, h6⟩, h4, h5, by omega⟩
    refine Ev.step (fun k => by rw [mag_divWord.l0]) ?_
    rw [er]
    exact evn (by omega) (Ev.bind h7 (evs _))
  | succ d ih =>
    rintro i o r rfl h1 h2 h3 h4 h5 h6
    have e1 : (((d + 1 : Nat) : Int) - 1) = (d : Int) := by omega
    have hx := dg_rd ha (d : Int) (by omega) (by omega)
    rw [WW_eq] at hx
    have hv0 : 0 ≤ r * 4294967296 + rd a d := by omega
    have hq0 : 0 ≤ (r * 4294967296 + rd a d) / K := Int.ediv_nonneg hv0 (by omega)
    have hq1 : (r * 4294967296 + rd a d) / K < 4294967296 := by
      refine Int.ediv_lt_of_lt_mul (by omega) ?_
      have : (r + 1) * 4294967296 ≤ K * 4294967296 := Int.mul_le_mul_of_nonneg_right (by omega) (by omega)
      omega
    have hm0 := Int.emod_nonneg (r * 4294967296 + rd a d) (show K ≠ 0 by omega)
    have hm1 := Int.emod_lt_of_pos (r * 4294967296 + rd a d) (show 0 < K by omega)
    have hdv : (r * 4294967296 + rd a d) / K * K + (r * 4294967296 + rd a d) % K = r * WW + rd a d := by rw [WW_eq]; exact Int.ediv_mul_add_emod _ _
    obtain ⟨q, z, h7, h8⟩ := ih d (o.set d ((r * 4294967296 + rd a d) / K)) ((r * 4294967296 + rd a d) % K) rfl (by omega) (by simpa using h2)
      (by rw [drop_set_self _ _ _ (by omega)]; exact Dg.mk hq0 (by rw [WW_eq]; exact hq1) h3) hm0 hm1
      (by rw [drop_set_self _ _ _ (by omega), drop_rd a d (by omega), vl, vl]; exact alg_dw h6 hdv)
    refine ⟨q, z, ?_, h8⟩
    refine Ev.step (fun k => by rw [mag_divWord.l0]) ?_
    rw [e1, u64 (x := r * 4294967296) (by omega) (by omega), u64 (x := rd a d) (by omega) (by omega), u64 (x := K) (by omega) (by omega), or64 ⟨h4, by omega⟩ hx, tdiv_nn hv0, tmod_nn hv0, u64 (x := (r * 4294967296 + rd a d) / K) (by omega) (by omega), w64 (x := (d : Int) - 1) (by omega) (by omega), Int.toNat_natCast, Int.emod_eq_of_lt hq0 hq1]
    exact evp (by omega) (evp (by omega) (evp (by omega) (evn (by omega) (evp (by omega) h7))))
theorem mag_divWord_sp {a : List Int} {n K : Int} (hn : a.length < 68719476736) (ha : Can WW a n) (hK : 1 ≤ K ∧ K < 4294967296) : ∃ q, Ev (fun k => mag_divWord.f k a K) (q, n % K) ∧ Can WW q (n / K) ∧ q.length ≤ a.length := by
  obtain ⟨q, z, h1, ⟨m, h2, h3⟩, h4, h5, h6⟩ := mag_divWord_ev hn ha.1 hK a.length a.length (List.replicate a.length 0) 0 rfl (Nat.le_refl _) (by simp) (by rw [List.drop_eq_nil_of_le (by simp)]; exact Dg.nil _) (by omega) (by omega) (by rw [List.drop_eq_nil_of_le (by simp), List.drop_length]; simp [vl])
  rw [ha.2.2] at h3
  have e1 : n / K = m := by
    rw [← h3, Int.add_comm, Int.add_mul_ediv_right _ _ (by omega), Int.ediv_eq_zero_of_lt h4 h5]; omega
  have e2 : n % K = z := by
    rw [← h3, Int.add_comm, Int.add_mul_emod_self_right, Int.emod_eq_of_lt h4 h5]
  refine ⟨q, ?_, by rw [e1]; exact h2, h6⟩
  unfold mag_divWord.f
  rw [e2, w64 (x := (a.length : Int) - 1) (by omega) (by omega), Int.toNat_natCast]
  exact evp (by omega) (evp (by omega) h1)
theorem tab_len : ∀ i : Fin 256, ∃ L : Fin 9, bt (⟨#[0, 1, 2, 2, 3, 3, 3, 3, 4, 4, 4, 4, 4, 4, 4, 4, 5, 5, 5, 5, 5, 5, 5, 5, 5, 5, 5, 5, 5, 5, 5, 5, 6, 6, 6, 6, 6, 6, 6, 6, 6, 6, 6, 6, 6, 6, 6, 6, 6, 6, 6, 6, 6, 6, 6, 6, 6, 6, 6, 6, 6, 6, 6, 6, 7, 7, 7, 7, 7, 7, 7, 7, 7, 7, 7, 7, 7, 7, 7, 7, 7, 7, 7, 7, 7, 7, 7, 7, 7, 7, 7, 7, 7, 7, 7, 7, 7, 7, 7, 7, 7, 7, 7, 7, 7, 7, 7, 7, 7, 7, 7, 7, 7, 7, 7, 7, 7, 7, 7, 7, 7, 7, 7, 7, 7, 7, 7, 7, 8, 8, 8, 8, 8, 8, 8, 8, 8, 8, 8, 8, 8, 8, 8, 8, 8, 8, 8, 8, 8, 8, 8, 8, 8, 8, 8, 8, 8, 8, 8, 8, 8, 8, 8, 8, 8, 8, 8, 8, 8, 8, 8, 8, 8, 8, 8, 8, 8, 8, 8, 8, 8, 8, 8, 8, 8, 8, 8, 8, 8, 8, 8, 8, 8, 8, 8, 8, 8, 8, 8, 8, 8, 8, 8, 8, 8, 8, 8, 8, 8, 8, 8, 8, 8, 8, 8, 8, 8, 8, 8, 8, 8, 8, 8, 8, 8, 8, 8, 8, 8, 8, 8, 8, 8, 8, 8, 8, 8, 8, 8, 8, 8, 8, 8, 8, 8, 8, 8, 8, 8, 8, 8, 8, 8, 8, 8, 8]⟩ : ByteArray) ((i.val : Nat) : Int) = (L.val : Int) ∧ i.val < 2 ^ L.val ∧ (i.val ≠ 0 → 2 ^ (L.val - 1) ≤ i.val ∧ 1 ≤ L.val) := by decide +kernel
theorem tab_len' {x : Int} (h0 : 0 ≤ x) (h1 : x < 256) : ∃ L : Nat, bt (⟨#[0, 1, 2, 2, 3, 3, 3, 3, 4, 4, 4, 4, 4, 4, 4, 4, 5, 5, 5, 5, 5, 5, 5, 5, 5, 5, 5, 5, 5, 5, 5, 5, 6, 6, 6, 6, 6, 6, 6, 6, 6, 6, 6, 6, 6, 6, 6, 6, 6, 6, 6, 6, 6, 6, 6, 6, 6, 6, 6, 6, 6, 6, 6, 6, 7, 7, 7, 7, 7, 7, 7, 7, 7, 7, 7, 7, 7, 7, 7, 7, 7, 7, 7, 7, 7, 7, 7, 7, 7, 7, 7, 7, 7, 7, 7, 7, 7, 7, 7, 7, 7, 7, 7, 7, 7, 7, 7, 7, 7, 7, 7, 7, 7, 7, 7, 7, 7, 7, 7, 7, 7, 7, 7, 7, 7, 7, 7, 7, 8, 8, 8, 8, 8, 8, 8, 8, 8, 8, 8, 8, 8, 8, 8, 8, 8, 8, 8, 8, 8, 8, 8, 8, 8, 8, 8, 8, 8, 8, 8, 8, 8, 8, 8, 8, 8, 8, 8, 8, 8, 8, 8, 8, 8, 8, 8, 8, 8, 8, 8, 8, 8, 8, 8, 8, 8, 8, 8, 8, 8, 8, 8, 8, 8, 8, 8, 8, 8, 8, 8, 8, 8, 8, 8, 8, 8, 8, 8, 8, 8, 8, 8, 8, 8, 8, 8, 8, 8, 8, 8, 8, 8, 8, 8, 8, 8, 8, 8, 8, 8, 8, 8, 8, 8, 8, 8, 8, 8, 8, 8, 8, 8, 8, 8, 8, 8, 8, 8, 8, 8, 8, 8, 8, 8, 8, 8, 8]⟩ : ByteArray) x = (L : Int) ∧ L ≤ 8 ∧ x < 2 ^ L ∧ (x ≠ 0 → 2 ^ (L - 1) ≤ x ∧ 1 ≤ L) := by
  obtain ⟨n, rfl⟩ := Int.eq_ofNat_of_zero_le h0
  obtain ⟨L, h2, h3, h4⟩ := tab_len ⟨n, by omega⟩
  refine ⟨L.val, h2, by omega, by exact_mod_cast h3, fun h => ?_⟩
  obtain ⟨h5, h6⟩ := h4 (show n ≠ 0 by omega)
  exact ⟨by exact_mod_cast h5, h6⟩
theorem sh_pow {x y : Int} {L k : Nat} (h0 : 0 ≤ x) (e : y = x / 2 ^ k) (h1 : y < 2 ^ L) (h2 : 2 ^ (L - 1) ≤ y) (h3 : 1 ≤ L) : x < 2 ^ (k + L) ∧ 2 ^ (k + L - 1) ≤ x := by
  have hp : (0 : Int) < 2 ^ k := Int.pow_pos (by decide)
  have d1 := Int.mul_ediv_add_emod x (2 ^ k)
  have d2 := Int.emod_nonneg x (show (2 : Int) ^ k ≠ 0 by omega)
  have d3 := Int.emod_lt_of_pos x hp
  rw [← e] at d1
  have e2 : k + L - 1 = k + (L - 1) := by omega
  rw [e2, Int.pow_add, Int.pow_add]
  have m1 : (2 : Int) ^ k * (y + 1) ≤ 2 ^ k * 2 ^ L := Int.mul_le_mul_of_nonneg_left (by omega) (by omega)
  have m2 : (2 : Int) ^ k * 2 ^ (L - 1) ≤ 2 ^ k * y := Int.mul_le_mul_of_nonneg_left h2 (by omega)
  rw [Int.mul_add] at m1
  omega
theorem len32_sp {x : Int} (h0 : 0 ≤ x) (h1 : x < 4294967296) : ∃ L : Nat, bits_Len32.f x = some (L : Int) ∧ L ≤ 32 ∧ x < 2 ^ L ∧ (x ≠ 0 → 2 ^ (L - 1) ≤ x ∧ 1 ≤ L) := by
  unfold bits_Len32.f
  by_cases c1 : x ≥ 65536
  · by_cases c2 : x / 65536 ≥ 256
    · have e : x / 65536 / 256 % 256 = x / 2 ^ 24 := by omega
      obtain ⟨L, t1, t2, t3, t4⟩ := tab_len' (x := x / 2 ^ 24) (by omega) (by omega)
      obtain ⟨t5, t6⟩ := t4 (by omega)
      obtain ⟨t7, t8⟩ := sh_pow h0 rfl t3 t5 t6
      refine ⟨24 + L, ?_, by omega, t7, fun _ => ⟨t8, by omega⟩⟩
      rw [if_pos c1, if_pos c2, e, if_pos (by omega), if_pos (by omega), t1, w64 (x := (L : Int)) (by omega) (by omega), w64 (by omega) (by omega)]
      exact congrArg some (by omega)
    · have e : x / 65536 % 256 = x / 2 ^ 16 := by omega
      obtain ⟨L, t1, t2, t3, t4⟩ := tab_len' (x := x / 2 ^ 16) (by omega) (by omega)
      obtain ⟨t5, t6⟩ := t4 (by omega)
      obtain ⟨t7, t8⟩ := sh_pow h0 rfl t3 t5 t6
      refine ⟨16 + L, ?_, by omega, t7, fun _ => ⟨t8, by omega⟩⟩
      rw [if_pos c1, if_neg c2, e, if_pos (by omega), if_pos (by omega), t1, w64 (x := (L : Int)) (by omega) (by omega), w64 (by omega) (by omega)]
      exact congrArg some (by omega)
  · by_cases c2 : x ≥ 256
    · have e : x / 256 % 256 = x / 2 ^ 8 := by omega
      obtain ⟨L, t1, t2, t3, t4⟩ := tab_len' (x := x / 2 ^ 8) (by omega) (by omega)
      obtain ⟨t5, t6⟩ := t4 (by omega)
      obtain ⟨t7, t8⟩ := sh_pow h0 rfl t3 t5 t6
      refine ⟨8 + L, ?_, by omega, t7, fun _ => ⟨t8, by omega⟩⟩
      rw [if_neg c1, if_pos c2, e, if_pos (by omega), if_pos (by omega), t1, w64 (x := (L : Int)) (by omega) (by omega), w64 (by omega) (by omega)]
      exact congrArg some (by omega)
    · have e : x % 256 = x := by omega
      obtain ⟨L, t1, t2, t3, t4⟩ := tab_len' (x := x) (by omega) (by omega)
      refine ⟨L, ?_, by omega, t3, t4⟩
      rw [if_neg c1, if_neg c2, e, if_pos (by omega), if_pos (by omega), t1, w64 (x := (L : Int)) (by omega) (by omega), w64 (by omega) (by omega)]
      exact congrArg some (by omega)
theorem lz32_sp {x : Int} (h0 : 0 ≤ x) (h1 : x < 4294967296) : ∃ L : Nat, bits_LeadingZeros32.f x = some ((32 - L : Nat) : Int) ∧ L ≤ 32 ∧ x < 2 ^ L ∧ (x ≠ 0 → 2 ^ (L - 1) ≤ x ∧ 1 ≤ L) := by
  obtain ⟨L, t1, t2, t3⟩ := len32_sp h0 h1
  refine ⟨L, ?_, t2, t3⟩
  unfold bits_LeadingZeros32.f
  rw [t1, Option.bind_some, w64 (by omega) (by omega)]
  exact congrArg some (by omega)
theorem WW_pow (w : Nat) : WW ^ w = 2 ^ (32 * w) := by rw [Int.pow_mul]; rfl
theorem pow_split (s : Nat) : (2 : Int) ^ s = WW ^ (s / 32) * 2 ^ (s % 32) := by
  rw [WW_pow, ← Int.pow_add]; congr 1; omega
theorem last_vl {a : List Int} (h : 0 < a.length) : vl WW a = vl WW (a.take (a.length - 1)) + rd a ((a.length : Int) - 1) * WW ^ (a.length - 1) := by
  have e := vl_take WW a (a.length - 1) (by omega)
  rw [Nat.sub_add_cancel h, List.take_length] at e
  rw [e]
  congr 2
  congr 1
  omega
theorem mag_Bits_sp {a : List Int} {n : Int} (hn : a.length < 68719476736) (ha : Can WW a n) : ∃ b : Nat, mag_Bits.f a = some (b : Int) ∧ b ≤ 32 * a.length ∧ (a.length = 0 → b = 0) ∧ (n ≠ 0 → 2 ^ (b - 1) ≤ n ∧ n < 2 ^ b ∧ 1 ≤ b ∧ 32 * (a.length - 1) < b) := by
  unfold mag_Bits.f
  by_cases c : a.length = 0
  · refine ⟨0, by rw [if_pos (by omega)]; rfl, by omega, fun _ => rfl, fun h => absurd ((ha.len_iff WW_pos).1 c) h⟩
  · have hx := dg_rd ha.1 ((a.length : Int) - 1) (by omega) (by omega)
    have hnz := ha.2.1.rd (by omega)
    rw [WW_eq] at hx
    obtain ⟨L, t1, t2, t3, t4⟩ := lz32_sp hx.1 hx.2
    obtain ⟨t5, t6⟩ := t4 hnz
    refine ⟨32 * a.length - (32 - L), ?_, by omega, fun h => absurd h c, fun _ => ?_⟩
    · rw [if_neg (by omega), w64 (x := (a.length : Int) - 1) (by omega) (by omega), if_pos (by omega), if_pos (by omega), t1, Option.bind_some, w64 (x := 32 * (a.length : Int)) (by omega) (by omega), w64 (by omega) (by omega)]
      congr 1
      omega
    · have lv := last_vl (a := a) (by omega)
      rw [ha.2.2] at lv
      have hd := ha.1.take (a.length - 1)
      have l0 := vl_nonneg WW_pos hd
      have l1 := vl_lt WW_pos hd
      rw [List.length_take, Nat.min_eq_left (by omega)] at l1
      have hP : (0 : Int) < WW ^ (a.length - 1) := pow_pos' WW_pos _
      generalize hr : rd a ((a.length : Int) - 1) = r at *
      have e1 : (2 : Int) ^ (32 * a.length - (32 - L)) = 2 ^ L * WW ^ (a.length - 1) := by rw [WW_pow, ← Int.pow_add]; congr 1; omega
      have e2 : (2 : Int) ^ (32 * a.length - (32 - L) - 1) = 2 ^ (L - 1) * WW ^ (a.length - 1) := by rw [WW_pow, ← Int.pow_add]; congr 1; omega
      have m1 : (r + 1) * WW ^ (a.length - 1) ≤ 2 ^ L * WW ^ (a.length - 1) := Int.mul_le_mul_of_nonneg_right (by omega) (by omega)
      have m2 : 2 ^ (L - 1) * WW ^ (a.length - 1) ≤ r * WW ^ (a.length - 1) := Int.mul_le_mul_of_nonneg_right t5 (by omega)
      rw [Int.add_mul] at m1
      rw [e1, e2]
      exact ⟨by omega, by omega, by omega, by omega⟩
theorem shl_p {x : Int} {p : Nat} (hp : p < 32) (hx : 0 ≤ x ∧ x < 4294967296) : shl .u64 (IntKind.u64.wrap x) (p : Int) = x * 2 ^ p ∧ 0 ≤ x * 2 ^ p ∧ x * 2 ^ p < 4294967296 * 2 ^ p ∧ (2 : Int) ^ p ≤ 2147483648 ∧ (1 : Int) ≤ 2 ^ p := by
  have h1 : (1 : Int) ≤ 2 ^ p := by have : (0 : Int) < 2 ^ p := Int.pow_pos (by decide); omega
  have h2 : (2 : Int) ^ p ≤ 2 ^ 31 := by
    have : 2 ^ p ≤ 2 ^ 31 := Nat.pow_le_pow_right (by decide) (by omega)
    exact_mod_cast this
  have h3 : x * 2 ^ p < 4294967296 * 2 ^ p := Int.mul_lt_mul_of_pos_right hx.2 (by omega)
  have h4 : 0 ≤ x * 2 ^ p := Int.mul_nonneg hx.1 (by omega)
  refine ⟨?_, h4, h3, by omega, h1⟩
  have hm : min p IntKind.u64.bits = p := by
    have : IntKind.u64.bits = 64 := rfl
    omega
  unfold shl
  rw [Int.toNat_natCast, hm, u64 (x := x) (by omega) (by omega), u64 h4 (by omega)]
theorem alg_shl {vo P old lo hi va x M W T Q : Int} (h : vo + old * P = va * M * T) (hy : lo + W * hi = x * M) (hP : P = T * Q) : (vo + (old + lo) * P) + hi * (W * P) = (va + x * Q) * M * T := by grind
theorem or_shl {x old : Int} {p : Nat} (hp : p < 32) (hx : 0 ≤ x ∧ x < 4294967296) (ho : 0 ≤ old ∧ old < 2 ^ p) : Go.bits .or .u32 old (x * 2 ^ p % 4294967296) = old + x * 2 ^ p % 4294967296 := by
  obtain ⟨_, h1, h2, h3, h4⟩ := shl_p hp hx
  have hd : x * 2 ^ p % 4294967296 % 2 ^ p = 0 := by
    have hdv : (2 : Int) ^ p ∣ 4294967296 := by
      have : (4294967296 : Int) = 2 ^ p * 2 ^ (32 - p) := by rw [← Int.pow_add, show p + (32 - p) = 32 by omega]; rfl
      rw [this]; exact Int.dvd_mul_right _ _
    rw [Int.emod_emod_of_dvd _ hdv, Int.mul_emod_left]
  rw [or_comm', bits_join .u32 32 (by decide) (fun n h0 h1 => by rw [IntKind.wrap_u32]; omega) p _ _ (by omega) hd (by omega) ho.1 ho.2 (by omega)]
  omega
theorem or_shl_lt {x old : Int} {p : Nat} (hp : p < 32) (hx : 0 ≤ x ∧ x < 4294967296) (ho : 0 ≤ old ∧ old < 2 ^ p) : old + x * 2 ^ p % 4294967296 < 4294967296 := by
  have h := (bits_within .or .u32 old (x * 2 ^ p % 4294967296)).2
  rw [or_shl hp hx ho] at h
  have e : IntKind.u32.max = 4294967295 := rfl
  rw [e] at h
  exact Int.lt_of_le_of_lt h (by decide)
theorem mag_Shl_ev {a : List Int} {w p : Nat} (hn : a.length + w < 68719476736) (hp : p < 32) (ha : Dg WW a) (d : Nat) : ∀ (i : Nat) (o : List Int), a.length - i = d → i ≤ a.length → o.length = a.length + w + 1 → Dg WW o → vl WW (o.take (i + w + 1)) = vl WW (a.take i) * 2 ^ p * WW ^ w → rd o ((i + w : Nat) : Int) < 2 ^ p →
    ∃ r, Ev (fun k => mag_Shl.l0 k (w : Int) (p : Int) o a (a.length : Int) (i : Int)) r ∧ Can WW r (vl WW a * (WW ^ w * 2 ^ p)) ∧ r.length ≤ a.length + w + 1 := by
  induction d with
  | zero =>
    intro i o h1 h2 h3 h4 h5 h6
    have ei : i = a.length := by omega
    subst ei
    rw [← h3, List.take_length, List.take_length] at h5
    obtain ⟨r, r1, r2, r3⟩ := mag_Trim_sp (l := o) (by omega) h4
    rw [h5] at r2
    refine ⟨r, ?_, by rw [Int.mul_comm (WW ^ w), ← Int.mul_assoc]; exact r2, by omega⟩
    refine Ev.step (fun k => by rw [mag_Shl.l0]) ?_
    exact evn (by omega) (Ev.bind r1 (evs _))
  | succ d ih =>
    intro i o h1 h2 h3 h4 h5 h6
    have hx := dg_rd ha (i : Int) (by omega) (by omega)
    have ho := dg_rd h4 ((i + w : Nat) : Int) (by omega) (by omega)
    rw [WW_eq] at hx ho
    obtain ⟨s2, s3, s4, s5⟩ := (shl_p hp hx).2
    have hy1 : rd a (i : Int) * 2 ^ p % 4294967296 + WW * (rd a (i : Int) * 2 ^ p / 4294967296) = rd a (i : Int) * 2 ^ p := by rw [WW_eq]; exact Int.emod_add_mul_ediv _ _
    have hhi0 : 0 ≤ rd a (i : Int) * 2 ^ p / 4294967296 := by omega
    have hhi1 : rd a (i : Int) * 2 ^ p / 4294967296 < 2 ^ p := Int.ediv_lt_of_lt_mul (by omega) (by omega)
    have hdv := or_shl_lt hp hx ⟨ho.1, h6⟩
    generalize hlo : rd a (i : Int) * 2 ^ p % 4294967296 = lo at *
    generalize hhi : rd a (i : Int) * 2 ^ p / 4294967296 = hi at *
    have hlo0 : 0 ≤ lo := by omega
    have d1 : Dg WW (o.set (i + w) (rd o ((i + w : Nat) : Int) + lo)) := h4.set _ (by omega) (by rw [WW_eq]; omega)
    obtain ⟨r, r1, r2⟩ := ih (i + 1) ((o.set (i + w) (rd o ((i + w : Nat) : Int) + lo)).set (i + w + 1) hi) (by omega) (by omega) (by simpa using h3)
      (d1.set _ hhi0 (by rw [WW_eq]; omega))
      (by
        rw [show i + 1 + w + 1 = i + w + 1 + 1 by omega, vl_set _ _ _ _ (by simp; omega), vl_set _ _ _ _ (by omega), vl_take WW a i (by omega), Int.pow_succ, Int.mul_comm (WW ^ (i + w)) WW]
        rw [vl_take WW o (i + w) (by omega)] at h5
        exact alg_shl h5 hy1 (by rw [Int.pow_add, Int.mul_comm]))
      (by
        rw [show ((i + 1 + w : Nat) : Int) = ((i + w + 1 : Nat) : Int) by omega]
        have := rd_set_eq (o.set (i + w) (rd o ((i + w : Nat) : Int) + lo)) ((i + w + 1 : Nat) : Int) hi (by simp; omega)
        rw [Int.toNat_natCast] at this
        rw [this]
        exact hhi1)
    refine ⟨r, ?_, r2⟩
    refine Ev.step (fun k => by rw [mag_Shl.l0]) ?_
    have e2 : hi % 4294967296 = hi := by omega
    rw [show (i : Int) + (w : Int) = ((i + w : Nat) : Int) by omega, w64 (x := ((i + w : Nat) : Int)) (by omega) (by omega), wsucc (i := i + w) (by omega), wsucc (i := i) (by omega), Int.toNat_natCast, Int.toNat_natCast, (shl_p hp hx).1, hlo, hhi, e2]
    have so := or_shl hp hx ⟨ho.1, h6⟩
    rw [hlo] at so
    rw [so]
    clear so
    exact evp (by omega) (evp (by omega) (evp (by omega) (evp (by omega) (evp (by omega) (evp (by omega) (evp (by omega) (evp (by omega) r1)))))))
theorem mag_Shl_sp {a : List Int} {n : Int} (s : Nat) (hn : a.length + s < 68719476736) (ha : Can WW a n) : ∃ r, Ev (fun k => mag_Shl.f k a (s : Int)) r ∧ Can WW r (n * 2 ^ s) ∧ r.length ≤ a.length + s / 32 + 1 := by
  unfold mag_Shl.f
  by_cases c : a.length = 0
  · refine ⟨[], evp (by omega) (evs _), ?_, by simp⟩
    rw [(ha.len_iff WW_pos).1 c, Int.zero_mul]
    exact Can.zero _
  · obtain ⟨r, r1, r2, r3⟩ := mag_Shl_ev (a := a) (w := s / 32) (p := s % 32) (by omega) (by omega) ha.1 a.length 0 (List.replicate (a.length + s / 32 + 1) 0) (by omega) (by omega) (by simp) (Dg.rep WW_pos _)
      (by rw [List.take_replicate, vl_rep, List.take_zero, vl]; simp)
      (by
        have h1 : (0 : Int) < 2 ^ (s % 32) := Int.pow_pos (by decide)
        have h2 : rd (List.replicate (a.length + s / 32 + 1) (0 : Int)) ((0 + s / 32 : Nat) : Int) = 0 := by
          rw [rd_lt _ _ (by simp; omega)]; simp
        rw [h2]; exact h1)
    rw [← pow_split, ha.2.2] at r2
    refine ⟨r, ?_, r2, r3⟩
    have e1 : wrap64 (Int.tdiv (s : Int) 32) = ((s / 32 : Nat) : Int) := by rw [tdiv_nn (by omega), w64 (by omega) (by omega)]; omega
    have e2 : IntKind.u64.wrap (Int.tmod (s : Int) 32) = ((s % 32 : Nat) : Int) := by rw [tmod_nn (by omega), u64 (by omega) (by omega)]; omega
    have e3 : wrap64 (wrap64 ((a.length : Int) + ((s / 32 : Nat) : Int)) + 1) = ((a.length + s / 32 + 1 : Nat) : Int) := by rw [w64 (x := (a.length : Int) + ((s / 32 : Nat) : Int)) (by omega) (by omega), w64 (by omega) (by omega)]; omega
    rw [e1, e2, e3, Int.toNat_natCast]
    exact evn (by omega) (evp (by omega) (evp (by omega) r1))
end Go.Proofs.Ytfmobogdnlmdbaa.P
end
section
namespace Go.Proofs.Ytfmobogdnlmdbaa.P
open Go.RowKit Go.Proofs.YtfmobogdnlmdbaaW.PrintWords Go.Proofs.YtfmobogdnlmdbaaW.PrintLast Go.Proofs.YtfmobogdnlmdbaaW.PrintMore
set_option linter.unusedVariables false
theorem two_pos (p : Nat) : (0 : Int) < 2 ^ p := Int.pow_pos (by decide)
theorem shr_p {x : Int} {p : Nat} (hp : p < 32) : shr .u64 x (p : Int) = x / 2 ^ p := by
  have hm : min p IntKind.u64.bits = p := by
    have : IntKind.u64.bits = 64 := rfl
    omega
  unfold shr
  rw [Int.toNat_natCast, hm]
theorem WW_split {p : Nat} (hp : p < 32) : WW = 2 ^ p * 2 ^ (32 - p) := by rw [← Int.pow_add, show p + (32 - p) = 32 by omega]; rfl
theorem shr_word {x T t : Int} {p : Nat} (hp : p < 32) (hx : 0 ≤ x ∧ x < WW) (ht : 0 ≤ t ∧ t < WW) (hT : ∃ u, 0 ≤ u ∧ T = t + WW * u) :
    (t * WW + x) / 2 ^ p % WW + WW * (T / 2 ^ p) = (x + WW * T) / 2 ^ p ∧ 0 ≤ (t * WW + x) / 2 ^ p % WW ∧ (t * WW + x) / 2 ^ p % WW < WW := by
  obtain ⟨u, hu, hT⟩ := hT
  have hM := two_pos p
  have hW := WW_split hp
  have hK := two_pos (32 - p)
  have hWp := WW_pos
  have hWe := WW_eq
  generalize hMM : (2 : Int) ^ p = M at *
  generalize hKK : (2 : Int) ^ (32 - p) = K at *
  refine ⟨?_, Int.emod_nonneg _ (by omega), Int.emod_lt_of_pos _ hWp⟩
  have d1 := Int.mul_ediv_add_emod t M
  have r0 := Int.emod_nonneg t (show M ≠ 0 by omega)
  have r1 := Int.emod_lt_of_pos t hM
  generalize hq : t / M = q at *
  generalize hr : t % M = r at *
  clear hq hr
  have a1 : t * WW + x = (x + WW * r) + M * (WW * q) := by rw [← d1]; grind
  have a2 : T = r + M * (q + K * u) := by rw [hT, ← d1, hW]; grind
  have a3 : x + WW * T = (x + WW * r) + M * (WW * (q + K * u)) := by rw [a2]; grind
  have lo : 0 ≤ x + WW * r := by
    have := Int.mul_nonneg (Int.le_of_lt hWp) r0
    omega
  have hi : x + WW * r < M * WW := by
    have m : WW * (r + 1) ≤ WW * M := Int.mul_le_mul_of_nonneg_left (by omega) (by omega)
    rw [Int.mul_add, Int.mul_comm WW M] at m
    omega
  rw [a1, a3, Int.add_mul_ediv_left _ _ (by omega), Int.add_mul_ediv_left _ _ (by omega)]
  have e2 : T / M = q + K * u := by rw [a2, Int.add_mul_ediv_left _ _ (by omega), Int.ediv_eq_zero_of_lt r0 r1]; omega
  rw [e2]
  have b0 : 0 ≤ (x + WW * r) / M := Int.ediv_nonneg lo (by omega)
  have b1 : (x + WW * r) / M < WW := Int.ediv_lt_of_lt_mul hM (by rw [Int.mul_comm WW M]; exact hi)
  rw [Int.add_mul_emod_self_left, Int.emod_eq_of_lt b0 b1]
theorem alg_shr {vo P d T W V T0 : Int} (h : vo + P * T0 = V) (h2 : d + W * T = T0) : (vo + d * P) + (P * W) * T = V := by grind
theorem vl_dropd (a : List Int) (ha : Dg WW a) (i : Nat) : ∃ t, 0 ≤ t ∧ t < WW ∧ (∃ u, 0 ≤ u ∧ vl WW (a.drop i) = t + WW * u) ∧ (i < a.length → t = rd a (i : Int)) ∧ (a.length ≤ i → t = 0) := by
  by_cases c : i < a.length
  · have hx := dg_rd ha (i : Int) (by omega) (by omega)
    refine ⟨rd a (i : Int), hx.1, hx.2, ⟨vl WW (a.drop (i + 1)), vl_nonneg WW_pos (ha.drop _), by rw [drop_rd a i c, vl]⟩, fun _ => rfl, fun h => by omega⟩
  · exact ⟨0, by decide, by decide, ⟨0, by decide, by rw [List.drop_eq_nil_of_le (by omega), vl]; rfl⟩, fun h => absurd h c, fun _ => rfl⟩
theorem mag_Shr_ev {a : List Int} {w p m : Nat} (hn : a.length < 68719476736) (hw : w + m = a.length) (hp : p < 32) (ha : Dg WW a) (d : Nat) : ∀ (i : Nat) (o : List Int), m - i = d → i ≤ m → o.length = m → Dg WW (o.take i) → vl WW (o.take i) + WW ^ i * (vl WW (a.drop (i + w)) / 2 ^ p) = vl WW (a.drop w) / 2 ^ p →
    ∃ r, Ev (fun k => mag_Shr.l0 k a (w : Int) (p : Int) o (m : Int) (i : Int)) r ∧ Can WW r (vl WW (a.drop w) / 2 ^ p) ∧ r.length ≤ m := by
  induction d with
  | zero =>
    intro i o h1 h2 h3 h4 h5
    have ei : i = m := by omega
    subst ei
    rw [List.drop_eq_nil_of_le (by omega), vl, Int.zero_ediv, Int.mul_zero, Int.add_zero, ← h3, List.take_length] at h5
    rw [← h3, List.take_length] at h4
    obtain ⟨r, r1, r2, r3⟩ := mag_Trim_sp (l := o) (by omega) h4
    rw [h5] at r2
    refine ⟨r, ?_, r2, by omega⟩
    refine Ev.step (fun k => by rw [mag_Shr.l0]) ?_
    exact evn (by omega) (Ev.bind r1 (evs _))
  | succ d ih =>
    intro i o h1 h2 h3 h4 h5
    have hx := dg_rd ha ((i + w : Nat) : Int) (by omega) (by omega)
    obtain ⟨t, t0, t1, t2, t3, t4⟩ := vl_dropd a ha (i + w + 1)
    obtain ⟨s1, s2, s3⟩ := shr_word hp hx ⟨t0, t1⟩ t2
    rw [drop_rd a (i + w) (by omega), vl] at h5
    obtain ⟨r, r1, r2⟩ := ih (i + 1) (o.set i ((t * WW + rd a ((i + w : Nat) : Int)) / 2 ^ p % WW)) (by omega) (by omega) (by simpa using h3)
      (Dg.take_set (by omega) h4 s2 s3)
      (by
        rw [vl_set _ _ _ _ (by omega), show i + 1 + w = i + w + 1 by omega, Int.pow_succ]
        exact alg_shr h5 s1)
    refine ⟨r, ?_, r2⟩
    refine Ev.step (fun k => by rw [mag_Shr.l0]) ?_
    rw [WW_eq] at hx t1
    rw [show (i : Int) + (w : Int) = ((i + w : Nat) : Int) by omega, w64 (x := ((i + w : Nat) : Int)) (by omega) (by omega), wsucc (i := i + w) (by omega), wsucc (i := i) (by omega), Int.toNat_natCast]
    refine evp (by omega) (evp (by omega) (evp (by omega) ?_))
    by_cases c : i + w + 1 < a.length
    · have e := t3 c
      rw [← e, u64 (x := t) (by omega) (by omega), u64 (x := rd a ((i + w : Nat) : Int)) (by omega) (by omega), u64 (x := t * 4294967296) (by omega) (by omega), or64' ⟨t0, t1⟩ hx, shr_p (x := t * 4294967296 + rd a ((i + w : Nat) : Int)) hp]
      exact evp (by omega) (evp (by omega) (evp (by omega) (evp (by omega) (evp (by omega) r1))))
    · have e := t4 (by omega)
      subst e
      rw [Int.zero_mul, Int.zero_add] at r1
      rw [u64 (x := rd a ((i + w : Nat) : Int)) (by omega) (by omega), shr_p (x := rd a ((i + w : Nat) : Int)) hp]
      exact evn (by omega) (evp (by omega) (evp (by omega) (evp (by omega) r1)))
theorem can_shr {a : List Int} {n : Int} (ha : Can WW a n) (s : Nat) : (s / 32 < a.length → n / 2 ^ s = vl WW (a.drop (s / 32)) / 2 ^ (s % 32)) ∧ (a.length ≤ s / 32 → n / 2 ^ s = 0) := by
  have hP := pow_pos' WW_pos (s / 32)
  have hM := two_pos (s % 32)
  rw [pow_split s]
  constructor
  · intro h
    have hd := vl_drop WW a (s / 32) (by omega)
    rw [ha.2.2] at hd
    have l0 := vl_nonneg WW_pos (ha.1.take (s / 32))
    have l1 := vl_lt WW_pos (ha.1.take (s / 32))
    rw [List.length_take, Nat.min_eq_left (by omega)] at l1
    rw [hd, ← Int.ediv_ediv_of_nonneg (by omega), Int.add_mul_ediv_left _ _ (by omega), Int.ediv_eq_zero_of_lt l0 l1, Int.zero_add]
  · intro h
    have h1 := ha.lt WW_pos
    have h2 := pow_le (B := WW) (by decide) h
    refine Int.ediv_eq_zero_of_lt (ha.nonneg WW_pos) ?_
    have h3 : WW ^ (s / 32) * 1 ≤ WW ^ (s / 32) * 2 ^ (s % 32) := Int.mul_le_mul_of_nonneg_left (by omega) (by omega)
    omega
theorem mag_Shr_sp {a : List Int} {n : Int} (s : Nat) (hn : a.length < 68719476736) (hs : s < 68719476736) (ha : Can WW a n) : ∃ r, Ev (fun k => mag_Shr.f k a (s : Int)) r ∧ Can WW r (n / 2 ^ s) ∧ r.length ≤ a.length := by
  obtain ⟨c1, c2⟩ := can_shr ha s
  have e1 : wrap64 (Int.tdiv (s : Int) 32) = ((s / 32 : Nat) : Int) := by rw [tdiv_nn (by omega), w64 (by omega) (by omega)]; omega
  have e2 : IntKind.u64.wrap (Int.tmod (s : Int) 32) = ((s % 32 : Nat) : Int) := by rw [tmod_nn (by omega), u64 (by omega) (by omega)]; omega
  unfold mag_Shr.f
  rw [e1, e2]
  clear e1 e2
  by_cases c : a.length ≤ s / 32
  · refine ⟨[], evp (by omega) (evs _), ?_, by simp⟩
    rw [c2 c]
    exact Can.zero _
  · obtain ⟨r, r1, r2, r3⟩ := mag_Shr_ev (a := a) (w := s / 32) (p := s % 32) (m := a.length - s / 32) hn (by omega) (by omega) ha.1 (a.length - s / 32) 0 (List.replicate (a.length - s / 32) 0) (by omega) (by omega) (by simp) (by rw [List.take_zero]; exact Dg.nil _)
      (by rw [List.take_zero, vl, Int.pow_zero, Nat.zero_add]; omega)
    rw [← c1 (by omega)] at r2
    refine ⟨r, ?_, r2, by omega⟩
    rw [show (a.length : Int) - ((s / 32 : Nat) : Int) = ((a.length - s / 32 : Nat) : Int) by omega, w64 (x := ((a.length - s / 32 : Nat) : Int)) (by omega) (by omega), Int.toNat_natCast]
    refine evn (by omega) (evp (by omega) (evp (by omega) (evb rfl ?_)))
    rw [List.length_replicate]
    exact r1
end Go.Proofs.Ytfmobogdnlmdbaa.P
end
section
namespace Go.Proofs.Ytfmobogdnlmdbaa.P
open Go.RowKit Go.Proofs.YtfmobogdnlmdbaaW.PrintWords Go.Proofs.YtfmobogdnlmdbaaW.PrintLast Go.Proofs.YtfmobogdnlmdbaaW.PrintMore
set_option linter.unusedVariables false
theorem sub_step {o c b g x : Int} (ho : 0 ≤ o ∧ o < 4294967296) (hc : 0 ≤ c ∧ c < 4294967296) (hb : 0 ≤ b ∧ b ≤ 1) (hg : 0 ≤ g ∧ g < 4294967296) (hx : 0 ≤ x ∧ x < 4294967296) :
    ∃ v c' b', IntKind.u64.wrap (c + IntKind.u64.wrap (g * IntKind.u64.wrap x)) / 4294967296 = c' ∧ IntKind.u64.wrap (IntKind.u64.wrap (IntKind.u64.wrap o - IntKind.u64.wrap (c + IntKind.u64.wrap (g * IntKind.u64.wrap x)) % 4294967296) - b) % 4294967296 = v ∧ IntKind.u64.wrap (IntKind.u64.wrap (IntKind.u64.wrap o - IntKind.u64.wrap (c + IntKind.u64.wrap (g * IntKind.u64.wrap x)) % 4294967296) - b) / 9223372036854775808 = b' ∧ v - 4294967296 * (c' + b') = o - (c + b) - g * x ∧ 0 ≤ v ∧ v < 4294967296 ∧ 0 ≤ c' ∧ c' < 4294967296 ∧ 0 ≤ b' ∧ b' ≤ 1 := by
  have hm := mul_bd hg hx
  rw [u64 (x := x) (by omega) (by omega), u64 (x := g * x) (by omega) (by omega), u64 (x := c + g * x) (by omega) (by omega), u64 (x := o) (by omega) (by omega), IntKind.wrap_u64, IntKind.wrap_u64]
  generalize g * x = t at *
  refine ⟨_, _, _, rfl, rfl, rfl, ?_, ?_, ?_, ?_, ?_, ?_, ?_⟩ <;> omega
theorem sub_last {o c b : Int} (ho : 0 ≤ o ∧ o < 4294967296) (hc : 0 ≤ c ∧ c < 4294967296) (hb : 0 ≤ b ∧ b ≤ 1) :
    ∃ v f, IntKind.u64.wrap (IntKind.u64.wrap (IntKind.u64.wrap o - c) - b) % 4294967296 = v ∧ (IntKind.u64.wrap (IntKind.u64.wrap (IntKind.u64.wrap o - c) - b) / 9223372036854775808 == 1) = f ∧ 0 ≤ v ∧ v < 4294967296 ∧ v = o - (c + b) + (if f = true then 4294967296 else 0) := by
  rw [u64 (x := o) (by omega) (by omega), IntKind.wrap_u64, IntKind.wrap_u64]
  refine ⟨_, _, rfl, rfl, by omega, by omega, ?_⟩
  simp only [beq_iff_eq]
  split <;> omega
theorem alg_s {vo c b P vu g vv v c' b' o x W : Int} (h : vo - (c + b) * P = vu - g * vv) (h2 : v - W * (c' + b') = o - (c + b) - g * x) : (vo + v * P) - (c' + b') * (W * P) = (vu + o * P) - g * (vv + x * P) := by grind
theorem alg_s2 {vo c b P vu g vv v o e W : Int} (h : vo - (c + b) * P = vu - g * vv) (h2 : v = o - (c + b) + e) : vo + v * P = (vu + o * P) - g * vv + e * P := by grind
theorem mag_subtract_ev {u v : List Int} {g : Int} (hl : u.length = v.length + 1) (hn : v.length < 68719476736) (hu : Dg WW u) (hv : Dg WW v) (hg : 0 ≤ g ∧ g < 4294967296) (d : Nat) : ∀ (i : Nat) (o : List Int) (c b : Int), v.length - i = d → i ≤ v.length → o.length = u.length → Dg WW (o.take i) → o.drop i = u.drop i → 0 ≤ c → c < 4294967296 → 0 ≤ b → b ≤ 1 → vl WW (o.take i) - (c + b) * WW ^ i = vl WW (u.take i) - g * vl WW (v.take i) →
    ∃ f r, Ev (fun k => mag_subtract.l0 k o v g c b v (v.length : Int) (i : Int)) (f, r) ∧ Dg WW r ∧ r.length = u.length ∧ vl WW r = vl WW u - g * vl WW v + (if f = true then WW ^ u.length else 0) := by
  induction d with
  | zero =>
    intro i o c b h1 h2 h3 h4 h5 h6 h7 h8 h9 h10
    have ei : i = v.length := by omega
    subst ei
    have ho := dg_rd hu (v.length : Int) (by omega) (by omega)
    rw [WW_eq] at ho
    obtain ⟨z, f, e1, e2, z0, z1, z2⟩ := sub_last ho ⟨h6, h7⟩ ⟨h8, h9⟩
    have er := rd_of_drop u o v.length h5 (by omega) h3
    refine ⟨f, o.set v.length z, ?_, ?_, by simpa using h3, ?_⟩
    · refine Ev.step (fun k => by rw [mag_subtract.l0]) ?_
      refine evn (by omega) (evp (by omega) (evp (by omega) ?_))
      rw [er, e1, e2, Int.toNat_natCast]
      exact evs _
    · have := Dg.take_set (l := o) (i := v.length) (v := z) (by omega) h4 z0 (by rw [WW_eq]; exact z1)
      rw [List.take_of_length_le (by simp; omega)] at this
      exact this
    · have e3 := vl_set WW o v.length z (by omega)
      rw [List.take_of_length_le (by simp; omega)] at e3
      have e4 := vl_take WW u v.length (by omega)
      rw [List.take_of_length_le (by omega)] at e4
      rw [List.take_length] at h10
      rw [e3, e4, alg_s2 (W := WW) h10 z2, hl, Int.pow_succ, Int.mul_comm (WW ^ v.length) WW]
      congr 1
      cases f
      · simp
      · simp
  | succ d ih =>
    intro i o c b h1 h2 h3 h4 h5 h6 h7 h8 h9 h10
    have ho := dg_rd hu (i : Int) (by omega) (by omega)
    have hx := dg_rd hv (i : Int) (by omega) (by omega)
    rw [WW_eq] at ho hx
    obtain ⟨z, c', b', e1, e2, e3, e4, z0, z1, c0, c1, b0, b1⟩ := sub_step ho ⟨h6, h7⟩ ⟨h8, h9⟩ hg hx
    have er := rd_of_drop u o i h5 (by omega) h3
    obtain ⟨f, r, r1, r2⟩ := ih (i + 1) (o.set i z) c' b' (by omega) (by omega) (by simpa using h3) (Dg.take_set (by omega) h4 z0 (by rw [WW_eq]; exact z1))
      (by rw [drop_set_ge]; exact drop_tail u o i h5) c0 c1 b0 b1
      (by
        rw [vl_set _ _ _ _ (by omega), vl_take WW u i (by omega), vl_take WW v i (by omega), Int.pow_succ, Int.mul_comm (WW ^ i) WW]
        exact alg_s h10 e4)
    refine ⟨f, r, ?_, r2⟩
    refine Ev.step (fun k => by rw [mag_subtract.l0]) ?_
    rw [er, e1, e2, e3, wsucc (i := i) (by omega), Int.toNat_natCast]
    clear e1 e2 e3
    exact evp (by omega) (evp (by omega) (evp (by omega) (evp (by omega) r1)))
theorem mag_subtract_sp {u v : List Int} {g : Int} (hl : u.length = v.length + 1) (hn : v.length < 68719476736) (hu : Dg WW u) (hv : Dg WW v) (hg : 0 ≤ g ∧ g < 4294967296) :
    ∃ f r, Ev (fun k => mag_subtract.f k u v g) (f, r) ∧ Dg WW r ∧ r.length = u.length ∧ vl WW r = vl WW u - g * vl WW v + (if f = true then WW ^ u.length else 0) := by
  obtain ⟨f, r, r1, r2⟩ := mag_subtract_ev hl hn hu hv hg v.length 0 u 0 0 (by omega) (by omega) rfl (by rw [List.take_zero]; exact Dg.nil _) rfl (by omega) (by omega) (by omega) (by omega) (by simp [vl])
  exact ⟨f, r, by unfold mag_subtract.f; exact r1, r2⟩
theorem alg_r {vo c P vu vv v c' o x W : Int} (h : vo + c * P = vu + vv) (h2 : v + W * c' = c + (o + x)) : (vo + v * P) + c' * (W * P) = (vu + o * P) + (vv + x * P) := by grind
theorem alg_r2 {vo c P vu vv v o e W : Int} (h : vo + c * P = vu + vv) (h2 : v + W * e = o + c) : vo + v * P + e * (W * P) = (vu + o * P) + vv := by grind
theorem mag_restore_ev {u v : List Int} (hl : u.length = v.length + 1) (hn : v.length < 68719476736) (hu : Dg WW u) (hv : Dg WW v) (d : Nat) : ∀ (i : Nat) (o : List Int) (c : Int), v.length - i = d → i ≤ v.length → o.length = u.length → Dg WW (o.take i) → o.drop i = u.drop i → 0 ≤ c → c ≤ 1 → vl WW (o.take i) + c * WW ^ i = vl WW (u.take i) + vl WW (v.take i) →
    ∃ r e, Ev (fun k => mag_restore.l0 k o v c v (v.length : Int) (i : Int)) r ∧ Dg WW r ∧ r.length = u.length ∧ vl WW r + e * WW ^ u.length = vl WW u + vl WW v ∧ 0 ≤ e := by
  induction d with
  | zero =>
    intro i o c h1 h2 h3 h4 h5 h6 h7 h8
    have ei : i = v.length := by omega
    subst ei
    have ho := dg_rd hu (v.length : Int) (by omega) (by omega)
    rw [WW_eq] at ho
    have er := rd_of_drop u o v.length h5 (by omega) h3
    have ev : (rd u (v.length : Int) + c) % 4294967296 + WW * ((rd u (v.length : Int) + c) / 4294967296) = rd u (v.length : Int) + c := by rw [WW_eq]; exact Int.emod_add_mul_ediv _ _
    refine ⟨o.set v.length ((rd u (v.length : Int) + c) % 4294967296), (rd u (v.length : Int) + c) / 4294967296, ?_, ?_, by simpa using h3, ?_, by omega⟩
    · have ec : c % 4294967296 = c := by omega
      refine Ev.step (fun k => by rw [mag_restore.l0]) ?_
      refine evn (by omega) (evp (by omega) (evp (by omega) ?_))
      rw [er, ec, Int.toNat_natCast]
      exact evs _
    · have := Dg.take_set (l := o) (i := v.length) (v := (rd u (v.length : Int) + c) % 4294967296) (by omega) h4 (by omega) (by rw [WW_eq]; omega)
      rw [List.take_of_length_le (by simp; omega)] at this
      exact this
    · have e3 := vl_set WW o v.length ((rd u (v.length : Int) + c) % 4294967296) (by omega)
      rw [List.take_of_length_le (by simp; omega)] at e3
      have e4 := vl_take WW u v.length (by omega)
      rw [List.take_of_length_le (by omega)] at e4
      rw [List.take_length] at h8
      rw [e3, e4, hl, Int.pow_succ, Int.mul_comm (WW ^ v.length) WW]
      exact alg_r2 h8 ev
  | succ d ih =>
    intro i o c h1 h2 h3 h4 h5 h6 h7 h8
    have ho := dg_rd hu (i : Int) (by omega) (by omega)
    have hx := dg_rd hv (i : Int) (by omega) (by omega)
    rw [WW_eq] at ho hx
    have er := rd_of_drop u o i h5 (by omega) h3
    have ev : (c + (rd u (i : Int) + rd v (i : Int))) % 4294967296 + WW * ((c + (rd u (i : Int) + rd v (i : Int))) / 4294967296) = c + (rd u (i : Int) + rd v (i : Int)) := by rw [WW_eq]; exact Int.emod_add_mul_ediv _ _
    obtain ⟨r, e, r1, r2⟩ := ih (i + 1) (o.set i ((c + (rd u (i : Int) + rd v (i : Int))) % 4294967296)) ((c + (rd u (i : Int) + rd v (i : Int))) / 4294967296) (by omega) (by omega) (by simpa using h3) (Dg.take_set (by omega) h4 (by omega) (by rw [WW_eq]; omega))
      (by rw [drop_set_ge]; exact drop_tail u o i h5) (by omega) (by omega)
      (by
        rw [vl_set _ _ _ _ (by omega), vl_take WW u i (by omega), vl_take WW v i (by omega), Int.pow_succ, Int.mul_comm (WW ^ i) WW]
        exact alg_r h8 ev)
    refine ⟨r, e, ?_, r2⟩
    refine Ev.step (fun k => by rw [mag_restore.l0]) ?_
    rw [er, u64 (x := rd u (i : Int)) (by omega) (by omega), u64 (x := rd v (i : Int)) (by omega) (by omega), u64 (x := rd u (i : Int) + rd v (i : Int)) (by omega) (by omega), u64 (x := c + (rd u (i : Int) + rd v (i : Int))) (by omega) (by omega), wsucc (i := i) (by omega), Int.toNat_natCast]
    exact evp (by omega) (evp (by omega) (evp (by omega) (evp (by omega) r1)))
theorem mag_restore_sp {u v : List Int} (hl : u.length = v.length + 1) (hn : v.length < 68719476736) (hu : Dg WW u) (hv : Dg WW v) :
    ∃ r e, Ev (fun k => mag_restore.f k u v) r ∧ Dg WW r ∧ r.length = u.length ∧ vl WW r + e * WW ^ u.length = vl WW u + vl WW v ∧ 0 ≤ e := by
  obtain ⟨r, e, r1, r2⟩ := mag_restore_ev hl hn hu hv v.length 0 u 0 (by omega) (by omega) rfl (by rw [List.take_zero]; exact Dg.nil _) rfl (by omega) (by omega) (by simp [vl])
  exact ⟨r, e, by unfold mag_restore.f; exact r1, r2⟩
end Go.Proofs.Ytfmobogdnlmdbaa.P
end
section
namespace Go.Proofs.Ytfmobogdnlmdbaa.P
open Go.RowKit Go.Proofs.YtfmobogdnlmdbaaW.PrintWords Go.Proofs.YtfmobogdnlmdbaaW.PrintLast Go.Proofs.YtfmobogdnlmdbaaW.PrintMore
set_option linter.unusedVariables false
theorem kd_gt {X M P top next x0 high g rest qd W : Int} (hM : (top * W + next) * P ≤ M) (hX : X < (high * W + x0 + 1) * P) (hP : 0 < P) (hq : qd * M ≤ X) (h : g * top + rest = high) (hd : 0 ≤ g) (hM0 : 0 ≤ M) (hne : g * next > rest * W + x0) : qd < g := by
  rcases Int.lt_or_le qd g with h1 | h1
  · exact h1
  · exfalso
    have a1 : g * M ≤ qd * M := Int.mul_le_mul_of_nonneg_right h1 hM0
    have a2 : g * ((top * W + next) * P) ≤ g * M := Int.mul_le_mul_of_nonneg_left hM hd
    have a3 : g * ((top * W + next) * P) = (g * (top * W + next)) * P := by grind
    have a4 : (g * (top * W + next)) * P < (high * W + x0 + 1) * P := by omega
    have a5 := Int.lt_of_mul_lt_mul_right a4 (Int.le_of_lt hP)
    have a6 : g * (top * W + next) = (high - rest) * W + g * next := by rw [← h]; grind
    have a7 : (high - rest) * W = high * W - rest * W := by grind
    omega
theorem kd_le {X M P top next x0 high g rest qd W : Int} (hM : M ≤ (top * W + next + 1) * P) (hM2 : W * P ≤ M) (hX : (high * W + x0) * P ≤ X) (hP : 0 < P) (hq : X < (qd + 1) * M) (h : g * top + rest = high) (hd : 0 ≤ g) (hg : g < W) (hE : g * next ≤ rest * W + x0) : g ≤ qd + 1 := by
  rcases Int.lt_or_le (qd + 1) g with h1 | h1
  · exfalso
    have hM0 : 0 ≤ M := by
      have : 0 ≤ W * P := Int.mul_nonneg (by omega) (by omega)
      omega
    have a1 : (qd + 1) * M ≤ (g - 1) * M := Int.mul_le_mul_of_nonneg_right (by omega) hM0
    have a2 : g * M ≤ g * ((top * W + next + 1) * P) := Int.mul_le_mul_of_nonneg_left hM hd
    have a3 : g * ((top * W + next + 1) * P) = (g * (top * W + next)) * P + g * P := by grind
    have a6 : g * (top * W + next) = (high - rest) * W + g * next := by rw [← h]; grind
    have a7 : (high - rest) * W = high * W - rest * W := by grind
    have a8 : (g * (top * W + next)) * P ≤ (high * W + x0) * P := Int.mul_le_mul_of_nonneg_right (by omega) (by omega)
    have a9 : g * P ≤ W * P := Int.mul_le_mul_of_nonneg_right (by omega) (by omega)
    have a10 : (g - 1) * M = g * M - M := by grind
    omega
  · exact h1
theorem dm_guess {q v u : List Int} {s : Int} {nn j : Nat} {X M P top next x0 high qd : Int} (hn : j + nn < 68719476736) (hnn : 2 ≤ nn) (hju : j + nn < u.length) (hx0 : rd u ((j + nn - 2 : Nat) : Int) = x0)
    (t0 : 0 < top) (t1 : top < 4294967296) (n0 : 0 ≤ next) (n1 : next < 4294967296) (b0 : 0 ≤ x0) (b1 : x0 < 4294967296)
    (hMl : (top * WW + next) * P ≤ M) (hMu : M ≤ (top * WW + next + 1) * P) (hM2 : WW * P ≤ M) (hXl : (high * WW + x0) * P ≤ X) (hXu : X < (high * WW + x0 + 1) * P) (hP : 0 < P) (hq : qd * M ≤ X) (hq2 : X < (qd + 1) * M) (hqW : qd < 4294967296) (hq0 : 0 ≤ qd) (c : Nat) :
    ∀ g rest : Int, (g - qd).toNat = c → g * top + rest = high → 0 ≤ rest → rest < 4294967296 → qd ≤ g → g ≤ 4294967297 → (g = 4294967297 → rest + top < 4294967296) →
    ∃ g', qd ≤ g' ∧ g' ≤ qd + 1 ∧ g' < 4294967296 ∧ ∀ R, Ev (fun k => mag_DivMod.j3 k q s v u (nn : Int) top next (j : Int) g') R → Ev (fun k => mag_DivMod.l1 k q s v u (nn : Int) top next (j : Int) g rest) R := by
  have hM0 : 0 ≤ M := by
    have : 0 ≤ WW * P := Int.mul_nonneg (by decide) (by omega)
    omega
  induction c with
  | zero =>
    intro g rest h1 h2 h3 h4 h5 h6 h7
    have eg : g = qd := by omega
    subst eg
    have hE : ¬ (g * next > rest * WW + x0) := fun hne => by
      have := kd_gt hMl hXu hP hq h2 (by omega) hM0 hne
      omega
    refine ⟨g, by omega, by omega, hqW, fun R hR => ?_⟩
    have hp := mul_bd (x := g) (y := next) ⟨by omega, hqW⟩ ⟨n0, n1⟩
    refine Ev.step (fun k => by rw [mag_DivMod.l1]) ?_
    rw [WW_eq] at hE
    rw [show (j : Int) + (nn : Int) = ((j + nn : Nat) : Int) by omega, w64 (x := ((j + nn : Nat) : Int)) (by omega) (by omega), show ((j + nn : Nat) : Int) - 2 = ((j + nn - 2 : Nat) : Int) by omega, w64 (x := ((j + nn - 2 : Nat) : Int)) (by omega) (by omega), hx0, u64 (x := g * next) (by omega) (by omega), u64 (x := rest * 4294967296) (by omega) (by omega), u64 (x := x0) (by omega) (by omega), or64 ⟨h3, h4⟩ ⟨b0, b1⟩, decide_eq_false hE]
    refine evn (by omega) (evp (by omega) (evp (by omega) ?_))
    refine Ev.step (fun k => by rw [mag_DivMod.j2]) ?_
    exact evn (by simp) hR
  | succ c ih =>
    intro g rest h1 h2 h3 h4 h5 h6 h7
    have hgq : qd < g := by omega
    have down : (g ≥ 4294967296 ∨ g * next > rest * WW + x0) → ∃ g', qd ≤ g' ∧ g' ≤ qd + 1 ∧ g' < 4294967296 ∧ ∀ R, Ev (fun k => mag_DivMod.j3 k q s v u (nn : Int) top next (j : Int) g') R → Ev (fun k => mag_DivMod.j2 k q s v u (nn : Int) top next (j : Int) g rest true) R := by
      intro hc
      by_cases c2 : rest + top ≥ 4294967296
      · have e : (g - 1) * top + (rest + top) = high := by rw [← h2]; grind
        have hp := mul_bd (x := g - 1) (y := next) ⟨by omega, by omega⟩ ⟨n0, n1⟩
        have hE : (g - 1) * next ≤ (rest + top) * WW + x0 := by rw [WW_eq]; omega
        refine ⟨g - 1, by omega, kd_le hMu hM2 hXl hP hq2 e (by omega) (by rw [WW_eq]; omega) hE, by omega, fun R hR => ?_⟩
        refine Ev.step (fun k => by rw [mag_DivMod.j2]) ?_
        rw [u64 (x := rest + top) (by omega) (by omega), u64 (x := g - 1) (by omega) (by omega)]
        exact evp rfl (evp c2 hR)
      · have e : (g - 1) * top + (rest + top) = high := by rw [← h2]; grind
        obtain ⟨g', g1, g2, g3, g4⟩ := ih (g - 1) (rest + top) (by omega) e (by omega) (by omega) (by omega) (by omega) (by omega)
        refine ⟨g', g1, g2, g3, fun R hR => ?_⟩
        refine Ev.step (fun k => by rw [mag_DivMod.j2]) ?_
        rw [u64 (x := rest + top) (by omega) (by omega), u64 (x := g - 1) (by omega) (by omega)]
        exact evp rfl (evn c2 (g4 R hR))
    by_cases c1 : g ≥ 4294967296
    · obtain ⟨g', g1, g2, g3, g4⟩ := down (.inl c1)
      refine ⟨g', g1, g2, g3, fun R hR => ?_⟩
      refine Ev.step (fun k => by rw [mag_DivMod.l1]) ?_
      exact evp c1 (g4 R hR)
    · have hp := mul_bd (x := g) (y := next) ⟨by omega, by omega⟩ ⟨n0, n1⟩
      by_cases c2 : g * next > rest * WW + x0
      · obtain ⟨g', g1, g2, g3, g4⟩ := down (.inr c2)
        refine ⟨g', g1, g2, g3, fun R hR => ?_⟩
        refine Ev.step (fun k => by rw [mag_DivMod.l1]) ?_
        rw [WW_eq] at c2
        rw [show (j : Int) + (nn : Int) = ((j + nn : Nat) : Int) by omega, w64 (x := ((j + nn : Nat) : Int)) (by omega) (by omega), show ((j + nn : Nat) : Int) - 2 = ((j + nn - 2 : Nat) : Int) by omega, w64 (x := ((j + nn - 2 : Nat) : Int)) (by omega) (by omega), hx0, u64 (x := g * next) (by omega) (by omega), u64 (x := rest * 4294967296) (by omega) (by omega), u64 (x := x0) (by omega) (by omega), or64 ⟨h3, h4⟩ ⟨b0, b1⟩, decide_eq_true c2]
        exact evn (by omega) (evp (by omega) (evp (by omega) (g4 R hR)))
      · have hle := kd_le hMu hM2 hXl hP hq2 h2 (by omega) (by rw [WW_eq]; omega) (by omega)
        refine ⟨g, by omega, hle, by omega, fun R hR => ?_⟩
        refine Ev.step (fun k => by rw [mag_DivMod.l1]) ?_
        rw [WW_eq] at c2
        rw [show (j : Int) + (nn : Int) = ((j + nn : Nat) : Int) by omega, w64 (x := ((j + nn : Nat) : Int)) (by omega) (by omega), show ((j + nn : Nat) : Int) - 2 = ((j + nn - 2 : Nat) : Int) by omega, w64 (x := ((j + nn - 2 : Nat) : Int)) (by omega) (by omega), hx0, u64 (x := g * next) (by omega) (by omega), u64 (x := rest * 4294967296) (by omega) (by omega), u64 (x := x0) (by omega) (by omega), or64 ⟨h3, h4⟩ ⟨b0, b1⟩, decide_eq_false c2]
        refine evn (by omega) (evp (by omega) (evp (by omega) ?_))
        refine Ev.step (fun k => by rw [mag_DivMod.j2]) ?_
        exact evn (by simp) hR
end Go.Proofs.Ytfmobogdnlmdbaa.P
end
section
namespace Go.Proofs.Ytfmobogdnlmdbaa.P
open Go.RowKit Go.Proofs.YtfmobogdnlmdbaaW.PrintWords Go.Proofs.YtfmobogdnlmdbaaW.PrintLast Go.Proofs.YtfmobogdnlmdbaaW.PrintMore
set_option linter.unusedVariables false
theorem seg_len (u : List Int) (j n : Nat) (h : j + n ≤ u.length) : ((u.take (j + n)).drop j).length = n := by
  rw [List.length_drop, List.length_take, Nat.min_eq_left h]; omega
theorem seg_put (u r : List Int) (j n : Nat) (h : j + n ≤ u.length) (hr : r.length = n) :
    ((u.take j ++ r ++ u.drop (j + n)).take (j + n)).drop j = r ∧ (u.take j ++ r ++ u.drop (j + n)).take j = u.take j ∧ (u.take j ++ r ++ u.drop (j + n)).drop (j + n) = u.drop (j + n) ∧ (u.take j ++ r ++ u.drop (j + n)).drop j = r ++ u.drop (j + n) ∧ (u.take j ++ r ++ u.drop (j + n)).length = u.length := by
  have l1 : (u.take j).length = j := by rw [List.length_take, Nat.min_eq_left (by omega)]
  have l2 : (u.take j ++ r).length = j + n := by rw [List.length_append, l1, hr]
  refine ⟨?_, ?_, ?_, ?_, ?_⟩
  · rw [List.take_left' l2, List.drop_left' l1]
  · rw [List.append_assoc, List.take_left' l1]
  · rw [List.drop_left' l2]
  · rw [List.append_assoc, List.drop_left' l1]
  · rw [List.length_append, l2, List.length_drop]; omega
theorem seg_vl (u : List Int) (j n : Nat) (h : j + n ≤ u.length) : vl WW (u.drop j) = vl WW ((u.take (j + n)).drop j) + WW ^ n * vl WW (u.drop (j + n)) := by
  have e := vl_drop WW (u.drop j) n (by rw [List.length_drop]; omega)
  rw [List.drop_drop] at e
  rw [e, List.drop_take, Nat.add_sub_cancel_left]
theorem dm_digit {q v u : List Int} {s top next : Int} {nn j : Nat} {X M qd g : Int} (hn : j + nn < 68719476736) (hv : v.length = nn) (dv : Dg WW v) (eM : vl WW v = M) (hju : j + nn + 1 ≤ u.length) (hjq : j < q.length) (du : Dg WW u)
    (eX : vl WW (u.drop j) = X) (hz : vl WW (u.drop (j + (nn + 1))) = 0) (hq : qd * M ≤ X) (hq2 : X < (qd + 1) * M) (hqW : qd < 4294967296) (hq0 : 0 ≤ qd) (g1 : qd ≤ g) (g2 : g ≤ qd + 1) (g3 : g < 4294967296) :
    ∃ u2, u2.length = u.length ∧ Dg WW u2 ∧ u2.take j = u.take j ∧ vl WW (u2.drop j) = X - qd * M ∧ ∀ R, Ev (fun k => mag_DivMod.l0 k (q.set j qd) s v u2 (nn : Int) top next ((j : Int) - 1)) R → Ev (fun k => mag_DivMod.j3 k q s v u (nn : Int) top next (j : Int) g) R := by
  have sl := seg_len u j (nn + 1) hju
  have sv := seg_vl u j (nn + 1) hju
  rw [hz, Int.mul_zero, Int.add_zero, eX] at sv
  have ds : Dg WW ((u.take (j + (nn + 1))).drop j) := (du.take _).drop _
  obtain ⟨f, r, r1, r2, r3, r4⟩ := mag_subtract_sp (u := (u.take (j + (nn + 1))).drop j) (v := v) (g := g) (by omega) (by omega) ds dv ⟨by omega, g3⟩
  rw [sl] at r3 r4
  rw [← sv, eM] at r4
  have b0 := vl_nonneg WW_pos r2
  have b1 := vl_lt WW_pos r2
  rw [r3] at b1
  obtain ⟨p1, p2, p3, p4, p5⟩ := seg_put u r j (nn + 1) hju r3
  have hb2 : ((((j + nn : Nat) : Int) + 1)).toNat = j + (nn + 1) := by omega
  have hsub : Ev (fun k => mag_subtractAt.f k u (j : Int) (((j + nn : Nat) : Int) + 1) v g) (f, u.take j ++ r ++ u.drop (j + (nn + 1))) := by
    unfold mag_subtractAt.f
    rw [hb2, Int.toNat_natCast]
    exact Ev.bind r1 (evs _)
  have eqd : qd % 4294967296 = qd := by omega
  have hM1 : (qd + 1) * M = qd * M + M := by grind
  have dall : ∀ z : List Int, Dg WW z → Dg WW (u.take j ++ z ++ u.drop (j + (nn + 1))) := fun z hz => ((du.take _).append hz).append (du.drop _)
  cases f
  · have eg : g = qd := by
      rcases Int.lt_or_le qd g with c | c
      · exfalso
        have : g = qd + 1 := by omega
        subst this
        simp only [Bool.false_eq_true, if_false] at r4
        omega
      · omega
    subst eg
    simp only [Bool.false_eq_true, if_false, Int.add_zero] at r4
    refine ⟨_, p5, dall r r2, p2, ?_, fun R hR => ?_⟩
    · rw [p4, vl_append, hz, Int.mul_zero, Int.add_zero, r4]
    · refine Ev.step (fun k => by rw [mag_DivMod.j3]) ?_
      rw [show (j : Int) + (nn : Int) = ((j + nn : Nat) : Int) by omega, w64 (x := ((j + nn : Nat) : Int)) (by omega) (by omega), w64 (x := ((j + nn : Nat) : Int) + 1) (by omega) (by omega), w64 (x := (j : Int) - 1) (by omega) (by omega), eqd, Int.toNat_natCast]
      exact evp (by omega) (evp (by omega) (evp (by omega) (Ev.bind hsub (evn (by simp) (evp (by omega) hR)))))
  · simp only [if_true] at r4
    have eg : g = qd + 1 := by
      rcases Int.lt_or_le qd g with c | c
      · omega
      · exfalso
        have : g = qd := by omega
        subst this
        omega
    subst eg
    rw [hM1] at r4
    obtain ⟨z, e, z1, z2, z3, z4, z5⟩ := mag_restore_sp (u := r) (v := v) (by omega) (by omega) r2 dv
    rw [r3, eM, r4] at z4
    rw [r3] at z3
    have c0 := vl_nonneg WW_pos z2
    have c1 := vl_lt WW_pos z2
    rw [z3] at c1
    have hMW : M < WW ^ (nn + 1) := by
      have h1 := vl_lt WW_pos dv
      have h2 := pow_le (B := WW) (by decide) (show nn ≤ nn + 1 by omega)
      rw [hv, eM] at h1
      omega
    have hz3 : vl WW z = X - qd * M := by
      generalize WW ^ (nn + 1) = Q at *
      have he : e = 1 := by
        rcases Int.lt_or_le e 1 with c | c
        · have : e = 0 := by omega
          subst this
          omega
        · rcases Int.lt_or_le 1 e with c' | c'
          · have : 2 * Q ≤ e * Q := Int.mul_le_mul_of_nonneg_right (by omega) (by omega)
            omega
          · omega
      subst he
      omega
    obtain ⟨t1, t2, t3, t4, t5⟩ := seg_put u z j (nn + 1) hju z3
    have hres : Ev (fun k => mag_restoreAt.f k (u.take j ++ r ++ u.drop (j + (nn + 1))) (j : Int) (((j + nn : Nat) : Int) + 1) v) (u.take j ++ z ++ u.drop (j + (nn + 1))) := by
      unfold mag_restoreAt.f
      rw [hb2, Int.toNat_natCast, p1, p2, p3]
      exact Ev.bind z1 (evs _)
    refine ⟨_, t5, dall z z2, t2, ?_, fun R hR => ?_⟩
    · rw [t4, vl_append, hz, Int.mul_zero, Int.add_zero, hz3]
    · refine Ev.step (fun k => by rw [mag_DivMod.j3]) ?_
      rw [show (j : Int) + (nn : Int) = ((j + nn : Nat) : Int) by omega, w64 (x := ((j + nn : Nat) : Int)) (by omega) (by omega), w64 (x := ((j + nn : Nat) : Int) + 1) (by omega) (by omega), w64 (x := (j : Int) - 1) (by omega) (by omega), show qd + 1 - 1 = qd by omega, u64 (x := qd) (by omega) (by omega), eqd, Int.toNat_natCast]
      exact evp (by omega) (evp (by omega) (evp (by omega) (Ev.bind hsub (evp rfl (Ev.bind hres (evp (by omega) hR))))))
theorem three {u : List Int} (du : Dg WW u) (j nn : Nat) (hnn : 2 ≤ nn) (hju : j + nn + 1 ≤ u.length) (hz : vl WW (u.drop (j + (nn + 1))) = 0) :
    ∃ low, 0 ≤ low ∧ low < WW ^ (nn - 2) ∧ vl WW (u.drop j) = low + (((rd u ((j + nn : Nat) : Int)) * WW + rd u ((j + nn - 1 : Nat) : Int)) * WW + rd u ((j + nn - 2 : Nat) : Int)) * WW ^ (nn - 2) := by
  have e := vl_drop WW (u.drop j) (nn - 2) (by rw [List.length_drop]; omega)
  rw [List.drop_drop] at e
  have d1 : Dg WW ((u.drop j).take (nn - 2)) := (du.drop _).take _
  have l1 := vl_lt WW_pos d1
  rw [List.length_take, List.length_drop, Nat.min_eq_left (by omega)] at l1
  refine ⟨_, vl_nonneg WW_pos d1, l1, ?_⟩
  rw [e, drop_rd u (j + (nn - 2)) (by omega), vl, drop_rd u (j + (nn - 2) + 1) (by omega), vl, drop_rd u (j + (nn - 2) + 1 + 1) (by omega), vl]
  rw [show j + (nn - 2) + 1 + 1 + 1 = j + (nn + 1) by omega, hz, show j + (nn - 2) + 1 + 1 = j + nn by omega, show j + (nn - 2) + 1 = j + nn - 1 by omega, show j + (nn - 2) = j + nn - 2 by omega]
  grind
theorem two {v : List Int} (dv : Dg WW v) (nn : Nat) (hnn : 2 ≤ nn) (hv : v.length = nn) :
    ∃ low, 0 ≤ low ∧ low < WW ^ (nn - 2) ∧ vl WW v = low + (rd v ((nn - 1 : Nat) : Int) * WW + rd v ((nn - 2 : Nat) : Int)) * WW ^ (nn - 2) := by
  have e := vl_drop WW v (nn - 2) (by omega)
  have d1 : Dg WW (v.take (nn - 2)) := dv.take _
  have l1 := vl_lt WW_pos d1
  rw [List.length_take, Nat.min_eq_left (by omega)] at l1
  refine ⟨_, vl_nonneg WW_pos d1, l1, ?_⟩
  rw [e, drop_rd v (nn - 2) (by omega), vl, drop_rd v (nn - 2 + 1) (by omega), vl]
  rw [show nn - 2 + 1 + 1 = nn by omega, List.drop_eq_nil_of_le (by omega), vl, show nn - 2 + 1 = nn - 1 by omega]
  grind
end Go.Proofs.Ytfmobogdnlmdbaa.P
end
section
namespace Go.Proofs.Ytfmobogdnlmdbaa.P
open Go.RowKit Go.Proofs.YtfmobogdnlmdbaaW.PrintWords Go.Proofs.YtfmobogdnlmdbaaW.PrintLast Go.Proofs.YtfmobogdnlmdbaaW.PrintMore
set_option linter.unusedVariables false
theorem alg_inv {ut Pj X M W qd vq N vu : Int} (h1 : vu = ut + Pj * X) (h2 : vu + M * ((Pj * W) * vq) = N) : (ut + Pj * (X - qd * M)) + M * (Pj * (qd + W * vq)) = N := by grind
theorem lt_of_mul' {a b P : Int} (h : a * P < b * P) (hP : 0 < P) : a < b := Int.lt_of_mul_lt_mul_right h (Int.le_of_lt hP)
theorem dm_l0 {v : List Int} {s nn : Nat} {M top next N : Int} (hs : s < 32) (hn2 : 2 ≤ nn) (hv : v.length = nn) (dv : Dg WW v) (eM : vl WW v = M) (et : rd v ((nn - 1 : Nat) : Int) = top) (en : rd v ((nn - 2 : Nat) : Int) = next) (ht : 2147483648 ≤ top) (d : Nat) :
    ∀ (i : Nat) (q u : List Int), i = d → i + nn ≤ u.length → u.length < 68719476736 → q.length = u.length - nn → Dg WW u → Dg WW (q.drop i) → vl WW (u.drop i) < M → vl WW u + M * (WW ^ i * vl WW (q.drop i)) = N →
    ∃ q' r', Ev (fun k => mag_DivMod.l0 k q (s : Int) v u (nn : Int) top next ((i : Int) - 1)) (q', r') ∧ Can WW q' (N / M) ∧ Can WW r' (N % M / 2 ^ s) := by
  have w0 : (0 : Int) < WW ^ (nn - 2) := pow_pos' WW_pos _
  have bt := dg_rd dv ((nn - 1 : Nat) : Int) (by omega) (by omega)
  have bn := dg_rd dv ((nn - 2 : Nat) : Int) (by omega) (by omega)
  rw [et, WW_eq] at bt
  rw [en, WW_eq] at bn
  obtain ⟨ml, ml0, ml1, hMe⟩ := two dv nn hn2 hv
  rw [et, en, eM] at hMe
  generalize hP : WW ^ (nn - 2) = P at *
  have hMl : (top * WW + next) * P ≤ M := by omega
  have hMu' : M < (top * WW + next + 1) * P := by rw [Int.add_mul _ 1 P, Int.one_mul]; omega
  have hM2 : WW * P ≤ M := by
    have : WW * P ≤ (top * WW + next) * P := Int.mul_le_mul_of_nonneg_right (by rw [WW_eq]; omega) (by omega)
    omega
  have hMpos : 0 < M := by
    have : 0 < WW * P := Int.mul_pos WW_pos w0
    omega
  induction d with
  | zero =>
    rintro i q u rfl h1 h2 h3 h4 h5 h6 h7
    rw [List.drop_zero] at h5 h6 h7
    rw [Int.pow_zero, Int.one_mul] at h7
    have b0 := vl_nonneg WW_pos h4
    have e1 : N / M = vl WW q := by rw [← h7, Int.add_mul_ediv_left _ _ (by omega), Int.ediv_eq_zero_of_lt b0 h6, Int.zero_add]
    have e2 : N % M = vl WW u := by rw [← h7, Int.add_mul_emod_self_left, Int.emod_eq_of_lt b0 h6]
    obtain ⟨q', q1, q2, q3⟩ := mag_Trim_sp (l := q) (by omega) h5
    obtain ⟨x, x1, x2, x3⟩ := mag_Trim_sp (l := u) (by omega) h4
    obtain ⟨y, y1, y2, y3⟩ := mag_Shr_sp s (by omega) (by omega) x2
    refine ⟨q', y, ?_, by rw [e1]; exact q2, by rw [e2]; exact y2⟩
    refine Ev.step (fun k => by rw [mag_DivMod.l0]) ?_
    exact evn (by omega) (Ev.bind q1 (Ev.bind x1 (Ev.bind y1 (evs _))))
  | succ d ih =>
    rintro i q u rfl h1 h2 h3 h4 h5 h6 h7
    have u0 := dg_rd h4 (d : Int) (by omega) (by omega)
    have eX : vl WW (u.drop d) = rd u (d : Int) + WW * vl WW (u.drop (d + 1)) := by rw [drop_rd u d (by omega), vl]
    have nx := vl_nonneg WW_pos (h4.drop (d + 1))
    have hXM : vl WW (u.drop d) < WW * M := by
      have : WW * (vl WW (u.drop (d + 1)) + 1) ≤ WW * M := Int.mul_le_mul_of_nonneg_left (by omega) (by decide)
      rw [Int.mul_add, Int.mul_one] at this
      omega
    have hX0 := vl_nonneg WW_pos (h4.drop d)
    have hMW : M < WW ^ nn := by
      have := vl_lt WW_pos dv
      rw [hv, eM] at this
      exact this
    have hz : vl WW (u.drop (d + (nn + 1))) = 0 := by
      have sv := seg_vl u d (nn + 1) (by omega)
      have g0 := vl_nonneg WW_pos (h4.drop (d + (nn + 1)))
      have g1 := vl_nonneg WW_pos ((h4.take (d + (nn + 1))).drop d)
      rcases Int.lt_or_le 0 (vl WW (u.drop (d + (nn + 1)))) with c | c
      · exfalso
        have hp : (0 : Int) < WW ^ (nn + 1) := pow_pos' WW_pos _
        have a1 : WW ^ (nn + 1) * 1 ≤ WW ^ (nn + 1) * vl WW (u.drop (d + (nn + 1))) := Int.mul_le_mul_of_nonneg_left (by omega) (by omega)
        have a2 : WW * M < WW * WW ^ nn := Int.mul_lt_mul_of_pos_left hMW WW_pos
        rw [Int.pow_succ, Int.mul_comm (WW ^ nn) WW] at a1 sv
        omega
      · omega
    obtain ⟨lo, lo0, lo1, eZ⟩ := three h4 d nn hn2 (by omega) hz
    rw [hP] at eZ lo1
    have b2 := dg_rd h4 ((d + nn : Nat) : Int) (by omega) (by omega)
    have b1 := dg_rd h4 ((d + nn - 1 : Nat) : Int) (by omega) (by omega)
    have b0 := dg_rd h4 ((d + nn - 2 : Nat) : Int) (by omega) (by omega)
    rw [WW_eq] at b2 b1 b0
    have hut := vl_drop WW u d (by omega)
    generalize hX : vl WW (u.drop d) = X at *
    generalize hx2 : rd u ((d + nn : Nat) : Int) = x2 at *
    generalize hx1 : rd u ((d + nn - 1 : Nat) : Int) = x1 at *
    generalize hx0 : rd u ((d + nn - 2 : Nat) : Int) = x0 at *
    have hXl : ((x2 * WW + x1) * WW + x0) * P ≤ X := by omega
    have hXu : X < ((x2 * WW + x1) * WW + x0 + 1) * P := by rw [Int.add_mul _ 1 P, Int.one_mul]; omega
    have hq0 : 0 ≤ X / M := Int.ediv_nonneg hX0 (by omega)
    have hqd := Int.mul_ediv_add_emod X M
    have hqr := Int.emod_nonneg X (show M ≠ 0 by omega)
    have hqs := Int.emod_lt_of_pos X hMpos
    have hq : X / M * M ≤ X := by rw [Int.mul_comm]; omega
    have hq2 : X < (X / M + 1) * M := by rw [Int.add_mul, Int.one_mul, Int.mul_comm]; omega
    have hqW : X / M < 4294967296 := Int.ediv_lt_of_lt_mul hMpos (by rw [← WW_eq]; exact hXM)
    generalize hQ : X / M = qd at *
    have hhi : x2 * WW + x1 ≤ top * WW + next := by
      have a1 : ((x2 * WW + x1) * WW + x0) * P < (WW * (top * WW + next + 1)) * P := by
        have : WW * M < WW * ((top * WW + next + 1) * P) := Int.mul_lt_mul_of_pos_left hMu' WW_pos
        rw [Int.mul_assoc]
        omega
      have a2 := lt_of_mul' a1 w0
      rw [WW_eq] at a2 ⊢
      omega
    have hh0 : 0 ≤ x2 * WW + x1 := by rw [WW_eq]; omega
    have hor := or64 b2 b1
    rw [← WW_eq] at hor
    generalize hH : x2 * WW + x1 = high at *
    have d1 := Int.mul_ediv_add_emod high top
    have d2 := Int.emod_nonneg high (show top ≠ 0 by omega)
    have d3 := Int.emod_lt_of_pos high (show 0 < top by omega)
    have d0 : 0 ≤ high / top := Int.ediv_nonneg hh0 (by omega)
    have gq : qd ≤ high / top := by
      refine Int.le_ediv_of_mul_le (by omega) ?_
      have a1 : qd * ((top * WW + next) * P) ≤ qd * M := Int.mul_le_mul_of_nonneg_left hMl hq0
      have a2 : (qd * (top * WW + next)) * P < (high * WW + x0 + 1) * P := by rw [Int.mul_assoc]; omega
      have a3 := lt_of_mul' a2 w0
      have a4 : qd * (top * WW + next) = (qd * top) * WW + qd * next := by grind
      have a5 : 0 ≤ qd * next := Int.mul_nonneg hq0 bn.1
      rw [WW_eq] at a3 a4
      omega
    have gW : high / top ≤ 4294967297 ∧ (high / top = 4294967297 → high % top + top < 4294967296) := by
      have a1 : top * (high / top) ≤ top * WW + next := by omega
      constructor
      · rcases Int.lt_or_le 4294967297 (high / top) with c | c
        · exfalso
          have : top * 4294967298 ≤ top * (high / top) := Int.mul_le_mul_of_nonneg_left (by omega) (by omega)
          rw [WW_eq] at a1
          omega
        · exact c
      · intro c
        rw [c] at d1
        rw [WW_eq] at hhi
        omega
    obtain ⟨g, g1, g2, g3, g4⟩ := dm_guess (q := q) (v := v) (u := u) (s := (s : Int)) (nn := nn) (j := d) (X := X) (M := M) (P := P) (top := top) (next := next) (x0 := x0) (high := high) (qd := qd) (by omega) hn2 (by omega) hx0 (by omega) bt.2 bn.1 bn.2 b0.1 b0.2 hMl (by omega) hM2 hXl hXu w0 hq hq2 hqW hq0 _ (high / top) (high % top) rfl (by rw [Int.mul_comm]; exact d1) d2 (by omega) gq gW.1 gW.2
    obtain ⟨u2, v1, v2, v3, v4, v5⟩ := dm_digit (q := q) (v := v) (u := u) (s := (s : Int)) (top := top) (next := next) (nn := nn) (j := d) (X := X) (M := M) (qd := qd) (g := g) (by omega) hv dv eM (by omega) (by omega) h4 hX hz hq hq2 hqW hq0 g1 g2 g3
    have hu2 := vl_drop WW u2 d (by omega)
    rw [v3, v4] at hu2
    obtain ⟨q', r', e1, e2⟩ := ih d (q.set d qd) u2 rfl (by omega) (by omega) (by rw [List.length_set, v1]; exact h3) v2
      (by rw [drop_set_self _ _ _ (by omega)]; exact Dg.mk hq0 (by rw [WW_eq]; exact hqW) h5)
      (by rw [v4]; rw [Int.add_mul, Int.one_mul] at hq2; omega)
      (by
        rw [drop_set_self _ _ _ (by omega), vl, hu2]
        rw [Int.pow_succ] at h7
        exact alg_inv hut h7)
    refine ⟨q', r', ?_, e2⟩
    refine Ev.step (fun k => by rw [mag_DivMod.l0]) ?_
    have hgu : high / top < 18446744073709551616 := by omega
    have fin := g4 _ (v5 _ e1)
    rw [show (((d + 1 : Nat) : Int) - 1) = (d : Int) by omega, show (d : Int) + (nn : Int) = ((d + nn : Nat) : Int) by omega, w64 (x := ((d + nn : Nat) : Int)) (by omega) (by omega), show ((d + nn : Nat) : Int) - 1 = ((d + nn - 1 : Nat) : Int) by omega, w64 (x := ((d + nn - 1 : Nat) : Int)) (by omega) (by omega), hx2, hx1, u64 (x := x2) (by omega) (by omega), u64 (x := x1) (by omega) (by omega), u64 (x := x2 * 4294967296) (by omega) (by omega), ← WW_eq, hor, tdiv_nn hh0, tmod_nn hh0, u64 (x := high / top) d0 hgu]
    clear hor
    exact evp (by omega) (evp (by omega) (evp (by omega) (evp (by omega) (evp (by omega) (evn (by omega) fin)))))
end Go.Proofs.Ytfmobogdnlmdbaa.P
end
section
namespace Go.Proofs.Ytfmobogdnlmdbaa.P
open Go.RowKit Go.Proofs.YtfmobogdnlmdbaaW.PrintWords Go.Proofs.YtfmobogdnlmdbaaW.PrintLast Go.Proofs.YtfmobogdnlmdbaaW.PrintMore
set_option linter.unusedVariables false
theorem cpy_zero {t : List Int} {n : Nat} (h : t.length ≤ n) (dt : Dg WW t) : (cpy (List.replicate n 0) t).length = n ∧ Dg WW (cpy (List.replicate n 0) t) ∧ vl WW (cpy (List.replicate n 0) t) = vl WW t := by
  have e : cpy (List.replicate n 0) t = t ++ List.replicate (n - t.length) 0 := by
    unfold cpy
    rw [List.length_replicate, Nat.min_eq_left h, List.take_length, List.drop_replicate]
  rw [e]
  refine ⟨by simp; omega, dt.append (Dg.rep WW_pos _), ?_⟩
  rw [vl_append, vl_rep, Int.mul_zero, Int.add_zero]
theorem two_le31 {s : Nat} (h : s ≤ 31) : (2 : Int) ^ s ≤ 2147483648 := by
  have h2 : (2 : Int) ^ s ≤ 2 ^ 31 := by
    have : 2 ^ s ≤ 2 ^ 31 := Nat.pow_le_pow_right (by decide) h
    exact_mod_cast this
  exact Int.le_trans h2 (by decide)
theorem normed {b : List Int} {m : Int} {L : Nat} (hb : Can WW b m) (hp : 0 < b.length) (h1 : rd b ((b.length : Int) - 1) < 2 ^ L) (h2 : 2 ^ (L - 1) ≤ rd b ((b.length : Int) - 1)) (hL : 1 ≤ L) (hL2 : L ≤ 32) :
    m * 2 ^ (32 - L) < WW ^ b.length ∧ 2147483648 * WW ^ (b.length - 1) ≤ m * 2 ^ (32 - L) := by
  have lv := last_vl (a := b) hp
  rw [hb.2.2] at lv
  have hd := hb.1.take (b.length - 1)
  have l0 := vl_nonneg WW_pos hd
  have l1 := vl_lt WW_pos hd
  rw [List.length_take, Nat.min_eq_left (by omega)] at l1
  have hP : (0 : Int) < WW ^ (b.length - 1) := pow_pos' WW_pos _
  have hs := two_pos (32 - L)
  have e1 : WW ^ b.length = (2 ^ L * WW ^ (b.length - 1)) * 2 ^ (32 - L) := by
    have : b.length = (b.length - 1) + 1 := by omega
    rw [this, Int.pow_succ, Nat.add_sub_cancel, Int.mul_comm (2 ^ L), Int.mul_assoc, ← Int.pow_add, show L + (32 - L) = 32 by omega]; rfl
  have e2 : 2147483648 * WW ^ (b.length - 1) = (2 ^ (L - 1) * WW ^ (b.length - 1)) * 2 ^ (32 - L) := by
    rw [Int.mul_comm (2 ^ (L - 1)), Int.mul_assoc, ← Int.pow_add, show L - 1 + (32 - L) = 31 by omega, Int.mul_comm]; rfl
  generalize rd b ((b.length : Int) - 1) = x at *
  have m1 : (x + 1) * WW ^ (b.length - 1) ≤ 2 ^ L * WW ^ (b.length - 1) := Int.mul_le_mul_of_nonneg_right (by omega) (by omega)
  have m2 : 2 ^ (L - 1) * WW ^ (b.length - 1) ≤ x * WW ^ (b.length - 1) := Int.mul_le_mul_of_nonneg_right h2 (by omega)
  rw [Int.add_mul] at m1
  rw [e1, e2]
  exact ⟨Int.mul_lt_mul_of_pos_right (by omega) hs, Int.mul_le_mul_of_nonneg_right (by omega) (by omega)⟩
theorem mag_DivMod_sp {a b : List Int} {n m : Int} (hn : a.length < 17179869184) (ha : Can WW a n) (hb : Can WW b m) (hm : 0 < m) :
    ∃ q r, Ev (fun k => mag_DivMod.f k a b) (q, r) ∧ Can WW q (n / m) ∧ Can WW r (n % m) := by
  have n0 := ha.nonneg WW_pos
  have lb : 0 < b.length := by
    rcases Nat.eq_zero_or_pos b.length with c | c
    · have := (hb.len_iff WW_pos).1 c
      omega
    · exact c
  have hc := mag_Cmp_sp (by omega) ha hb
  by_cases c1 : n < m
  · have e : cmpi n m = -1 := by unfold cmpi; rw [if_pos c1]
    rw [e] at hc
    refine ⟨[], a, ?_, ?_, ?_⟩
    · unfold mag_DivMod.f
      refine Ev.bind hc (evp (by omega) (evp (by simp; omega) ?_))
      exact evs _
    · rw [Int.ediv_eq_zero_of_lt n0 c1]; exact Can.zero _
    · rw [Int.emod_eq_of_lt n0 c1]; exact ha
  · have hcm : ¬ cmpi n m < 0 := by unfold cmpi; rw [if_neg c1]; split <;> omega
    have hba : b.length ≤ a.length := can_len_le ha hb (by omega)
    have bx := dg_rd hb.1 ((b.length : Int) - 1) (by omega) (by omega)
    have bz := hb.2.1.rd lb
    rw [WW_eq] at bx
    by_cases c2 : b.length = 1
    · have e1 : m = rd b 0 := by
        have := last_vl (a := b) lb
        rw [hb.2.2, c2] at this
        simpa [vl] using this
      rw [c2] at bx
      have bx' : 0 ≤ m ∧ m < 4294967296 := by rw [e1]; exact bx
      obtain ⟨q, q1, q2, q3⟩ := mag_divWord_sp (by omega) ha (K := m) ⟨by omega, bx'.2⟩
      have r0 := Int.emod_nonneg n (show m ≠ 0 by omega)
      have r1 := Int.emod_lt_of_pos n hm
      obtain ⟨r, r2, r3⟩ := mag_From_sp (a := n % m) r0 (by omega)
      refine ⟨q, r, ?_, q2, r3⟩
      unfold mag_DivMod.f
      refine Ev.bind hc (evn hcm (evp (by omega) (evp (by omega) ?_)))
      rw [← e1]
      refine Ev.bind q1 ?_
      rw [u64 (x := n % m) (by omega) (by omega)]
      exact Ev.bind r2 (evs _)
    · obtain ⟨L, z1, z2, z3, z4⟩ := lz32_sp bx.1 bx.2
      obtain ⟨z5, z6⟩ := z4 bz
      obtain ⟨M1, M2⟩ := normed hb lb z3 z5 z6 z2
      have hs := two_pos (32 - L)
      have hs31 := two_le31 (s := 32 - L) (by omega)
      obtain ⟨v, v1, v2, v3⟩ := mag_Shl_sp (32 - L) (by omega) hb
      obtain ⟨t, t1, t2, t3⟩ := mag_Shl_sp (32 - L) (by omega) ha
      have hvl : v.length = b.length := by
        have h1 := v2.len_le WW_one M1
        have h2 : WW ^ (b.length - 1) ≤ m * 2 ^ (32 - L) := by
          have : (0 : Int) < WW ^ (b.length - 1) := pow_pos' WW_pos _
          omega
        have h3 := v2.len_ge WW_one h2
        omega
      have htop : 2147483648 ≤ rd v ((b.length - 1 : Nat) : Int) := by
        have lv := last_vl (a := v) (by omega)
        rw [v2.2.2, hvl, show (b.length : Int) - 1 = ((b.length - 1 : Nat) : Int) by omega] at lv
        have hd := v2.1.take (b.length - 1)
        have l1 := vl_lt WW_pos hd
        rw [List.length_take, Nat.min_eq_left (by omega)] at l1
        have hP : (0 : Int) < WW ^ (b.length - 1) := pow_pos' WW_pos _
        have h3 : 2147483648 * WW ^ (b.length - 1) < (rd v ((b.length - 1 : Nat) : Int) + 1) * WW ^ (b.length - 1) := by
          rw [Int.add_mul]; omega
        have := lt_of_mul' h3 hP
        omega
      obtain ⟨u1, u2, u3⟩ := cpy_zero (t := t) (n := a.length + 1) (by omega) t2.1
      generalize hu : cpy (List.replicate (a.length + 1) 0) t = u at *
      rw [t2.2.2] at u3
      have htl := dg_rd v2.1 ((b.length - 1 : Nat) : Int) (by omega) (by omega)
      have hnl := dg_rd v2.1 ((b.length - 2 : Nat) : Int) (by omega) (by omega)
      rw [WW_eq] at htl hnl
      have hlow : vl WW (u.drop (a.length + 1 - b.length)) < m * 2 ^ (32 - L) := by
        rcases Int.lt_or_le (vl WW (u.drop (a.length + 1 - b.length))) (m * 2 ^ (32 - L)) with c | c
        · exact c
        · exfalso
          have hd := vl_drop WW u (a.length + 1 - b.length) (by omega)
          rw [u3] at hd
          have l0 := vl_nonneg WW_pos (u2.take (a.length + 1 - b.length))
          have hPi : (0 : Int) < WW ^ (a.length + 1 - b.length) := pow_pos' WW_pos _
          have a1 : WW ^ (a.length + 1 - b.length) * (2147483648 * WW ^ (b.length - 1)) ≤ WW ^ (a.length + 1 - b.length) * vl WW (u.drop (a.length + 1 - b.length)) := Int.mul_le_mul_of_nonneg_left (by omega) (by omega)
          have a2 : WW ^ (a.length + 1 - b.length) * (2147483648 * WW ^ (b.length - 1)) = 2147483648 * WW ^ a.length := by
            rw [Int.mul_left_comm, ← Int.pow_add, show a.length + 1 - b.length + (b.length - 1) = a.length by omega]
          have a3 : n * 2 ^ (32 - L) < WW ^ a.length * 2 ^ (32 - L) := Int.mul_lt_mul_of_pos_right (ha.lt WW_pos) hs
          have hPa : (0 : Int) < WW ^ a.length := pow_pos' WW_pos _
          have a4 : WW ^ a.length * 2 ^ (32 - L) ≤ WW ^ a.length * 2147483648 := Int.mul_le_mul_of_nonneg_left hs31 (by omega)
          omega
      obtain ⟨q, r, r1, r2, r3⟩ := dm_l0 (s := 32 - L) (nn := b.length) (v := v) (N := n * 2 ^ (32 - L)) (by omega) (by omega) hvl v2.1 v2.2.2 rfl rfl htop (a.length + 1 - b.length) (a.length + 1 - b.length) (List.replicate (a.length + 1 - b.length) 0) u rfl (by omega) (by omega) (by rw [List.length_replicate, u1]) u2
        (by rw [List.drop_eq_nil_of_le (by simp)]; exact Dg.nil _) hlow (by rw [List.drop_eq_nil_of_le (by simp), vl, Int.mul_zero, Int.mul_zero, Int.add_zero]; exact u3)
      rw [Int.mul_ediv_mul_of_pos_left _ _ hs] at r2
      rw [Int.mul_comm n, Int.mul_comm m, Int.mul_emod_mul_of_pos _ _ hs, Int.mul_ediv_cancel_left _ (by omega)] at r3
      refine ⟨q, r, ?_, r2, r3⟩
      unfold mag_DivMod.f
      refine Ev.bind hc (evn hcm (evn (by omega) ?_))
      rw [w64 (x := (b.length : Int) - 1) (by omega) (by omega), w64 (x := (a.length : Int) + 1) (by omega) (by omega)]
      refine evp (by omega) (evp (by omega) (evb z1 (Ev.bind v1 (evp (by omega) (evp (by omega) (evb rfl (Ev.bind t1 ?_)))))))
      rw [show ((a.length : Int) + 1).toNat = a.length + 1 by omega, hu, List.length_replicate, hvl, show ((a.length + 1 : Nat) : Int) - (b.length : Int) = ((a.length + 1 - b.length : Nat) : Int) by omega, w64 (x := ((a.length + 1 - b.length : Nat) : Int)) (by omega) (by omega), w64 (x := ((a.length + 1 - b.length : Nat) : Int) - 1) (by omega) (by omega), show (b.length : Int) - 1 = ((b.length - 1 : Nat) : Int) by omega, show (b.length : Int) - 2 = ((b.length - 2 : Nat) : Int) by omega, w64 (x := ((b.length - 1 : Nat) : Int)) (by omega) (by omega), w64 (x := ((b.length - 2 : Nat) : Int)) (by omega) (by omega), u64 (x := rd v ((b.length - 1 : Nat) : Int)) (by omega) (by omega), u64 (x := rd v ((b.length - 2 : Nat) : Int)) (by omega) (by omega), Int.toNat_natCast]
      exact evp (by omega) (evp (by omega) (evp (by omega) (evp (by omega) (evp (by omega) (evp (by omega) r1)))))
end Go.Proofs.Ytfmobogdnlmdbaa.P
end
section
namespace Go.Proofs.Ytfmobogdnlmdbaa.P
open Go.RowKit Go.Proofs.YtfmobogdnlmdbaaW.PrintWords Go.Proofs.YtfmobogdnlmdbaaW.PrintLast Go.Proofs.YtfmobogdnlmdbaaW.PrintMore
set_option linter.unusedVariables false
theorem dg_wf {l : List Int} (h : ∀ x ∈ l, (Lit.int .u32 x).wf = true) : Dg WW l := by
  intro x hx
  have h1 := h x hx
  have h2 : IntKind.u32.min = 0 := rfl
  have h3 : IntKind.u32.max = 4294967295 := rfl
  simp only [Lit.wf, Bool.and_eq_true, decide_eq_true_eq, h2, h3] at h1
  rw [WW_eq]
  omega
theorem can_of {l : List Int} (hd : Dg WW l) (hn : Nm l) : Can WW l (vl WW l) := ⟨hd, hn, rfl⟩
theorem small_sp (a b : List Int) (k : Int) (ha : a.length < 4611686018427387904) (hb : b.length < 4611686018427387904) : ∃ t, isochronelaw01_small.f a b k = some t ∧ (t = true ↔ ((a.length : Int) ≤ k ∧ (b.length : Int) ≤ k ∧ a.length ≤ 4096 ∧ b.length ≤ 4096 ∧ Nm a ∧ Nm b)) := by
  obtain ⟨p, h1, _, h2⟩ := valid_sp a ha
  obtain ⟨q, h3, _, h4⟩ := valid_sp b hb
  unfold isochronelaw01_small.f
  by_cases c1 : (a.length : Int) ≤ k
  · by_cases c2 : (b.length : Int) ≤ k
    · rw [if_pos c1, if_pos c2, h1, h3]
      cases p
      · refine ⟨false, rfl, ?_⟩
        simp only [Bool.false_eq_true, false_iff] at h2 ⊢
        exact fun h => h2 ⟨h.2.2.1, h.2.2.2.2.1⟩
      · cases q
        · refine ⟨false, rfl, ?_⟩
          simp only [Bool.false_eq_true, false_iff] at h4 ⊢
          exact fun h => h4 ⟨h.2.2.2.1, h.2.2.2.2.2⟩
        · refine ⟨true, rfl, ?_⟩
          simp only [true_iff] at h2 h4 ⊢
          exact ⟨c1, c2, h2.1, h4.1, h2.2, h4.2⟩
    · refine ⟨false, by rw [if_pos c1, if_neg c2], ?_⟩
      simp only [Bool.false_eq_true, false_iff]
      exact fun h => c2 h.2.1
  · refine ⟨false, by rw [if_neg c1], ?_⟩
    simp only [Bool.false_eq_true, false_iff]
    exact fun h => c1 h.1
theorem limited_sp {a : List Int} (h : a.length ≤ 4096) : nat_limited.f a = some (a, 0) := by
  unfold nat_limited.f
  rw [if_neg (by omega), if_pos (by simp; omega)]
  rfl
end Go.Proofs.Ytfmobogdnlmdbaa.P
end
section
namespace Go.Proofs.Ytfmobogdnlmdbaa.P
open Go.RowKit Go.Proofs.YtfmobogdnlmdbaaW.PrintWords Go.Proofs.YtfmobogdnlmdbaaW.PrintLast Go.Proofs.YtfmobogdnlmdbaaW.PrintMore
set_option linter.unusedVariables false
theorem sq_nonneg' (a : Int) : 0 ≤ a * a := by
  rcases Int.le_total 0 a with h | h
  · exact Int.mul_nonneg h h
  · have := Int.mul_nonneg_of_nonpos_of_nonpos h h
    exact this
theorem newton_up {n x : Int} (hx : 0 < x) (h : 0 < n) (y : Int) (hy : y = (x + n / x) / 2) : n < (y + 1) * (y + 1) := by
  have d1 := Int.mul_ediv_add_emod n x
  have d2 := Int.emod_lt_of_pos n hx
  generalize n / x = q at *
  have a1 : n < x * (q + 1) := by rw [Int.mul_add]; omega
  have a2 := sq_nonneg' (x - (q + 1))
  have a3 : (x - (q + 1)) * (x - (q + 1)) = (x + (q + 1)) * (x + (q + 1)) - 4 * (x * (q + 1)) := by grind
  have a4 : x + (q + 1) ≤ 2 * (y + 1) := by omega
  have a5 : 0 ≤ x + (q + 1) := by
    rcases Int.lt_or_le (x + (q + 1)) 0 with c | c
    · exfalso
      have : x * (q + 1) ≤ x * 0 := Int.mul_le_mul_of_nonneg_left (by omega) (by omega)
      omega
    · exact c
  have a6 : (x + (q + 1)) * (x + (q + 1)) ≤ (2 * (y + 1)) * (2 * (y + 1)) := Int.mul_le_mul a4 a4 a5 (by omega)
  have a7 : (2 * (y + 1)) * (2 * (y + 1)) = 4 * ((y + 1) * (y + 1)) := by grind
  omega
theorem newton_end {n x : Int} (hx : 0 < x) (hn : 0 ≤ n) (h : x ≤ (x + n / x) / 2) : x * x ≤ n := by
  have a1 : x ≤ n / x := by omega
  have a2 : x * x ≤ x * (n / x) := Int.mul_le_mul_of_nonneg_left a1 (by omega)
  have a3 := Int.mul_ediv_add_emod n x
  have a4 := Int.emod_nonneg n (show x ≠ 0 by omega)
  omega
theorem nat_Root_ev {a : List Int} {n : Int} (hl : a.length ≤ 4096) (ha : Can WW a n) (hn : 0 < n) (c : Nat) : ∀ (x : Int) (l : List Int), x.toNat < c → 0 < x → Can WW l x → l.length ≤ 4096 → n < (x + 1) * (x + 1) →
    ∃ r z, Ev (fun k => nat_Root.l0 k a l) (r, 0) ∧ Can WW r z ∧ r.length ≤ 4096 ∧ z * z ≤ n ∧ n < (z + 1) * (z + 1) := by
  induction c with
  | zero => intro x l h; exact absurd h (Nat.not_lt_zero _)
  | succ c ih =>
    intro x l h1 h2 h3 h4 h5
    obtain ⟨q, r, q1, q2, q3⟩ := mag_DivMod_sp (by omega) ha h3 h2
    have hqn : n / x ≤ n := Int.ediv_le_self _ (by omega)
    have lq := can_len_le ha q2 hqn
    obtain ⟨s, s1, s2, s3⟩ := mag_Add_sp (by omega) (by omega) h3 q2
    obtain ⟨y, y1, y2, y3⟩ := mag_Shr_sp 1 (by omega) (by omega) s2
    rw [show (2 : Int) ^ 1 = 2 from rfl] at y2
    have hc := mag_Cmp_sp (by omega) y2 h3
    have up := newton_up h2 hn _ rfl
    have hb : ∀ f : Nat → Option (List Int × Int), ∀ R, Ev f R → (fun k => f k) = f := fun f R _ => rfl
    by_cases c1 : (x + n / x) / 2 < x
    · have hy0 : 0 < (x + n / x) / 2 := by
        rcases Int.lt_or_le 0 ((x + n / x) / 2) with c | c
        · exact c
        · exfalso
          have q0 : 0 ≤ n / x := Int.ediv_nonneg (by omega) (by omega)
          have e : (x + n / x) / 2 = 0 := by omega
          rw [e] at up
          omega
      obtain ⟨r', z, z1, z2⟩ := ih ((x + n / x) / 2) y (by omega) hy0 y2 (by have := can_len_le h3 y2 (by omega); omega) up
      refine ⟨r', z, ?_, z2⟩
      refine Ev.step (fun k => by rw [nat_Root.l0]) ?_
      refine Ev.bind q1 (Ev.bind s1 (Ev.bind y1 (Ev.bind hc (evn ?_ z1))))
      unfold cmpi
      rw [if_pos c1]
      omega
    · refine ⟨l, x, ?_, h3, h4, newton_end h2 (by omega) (by omega), h5⟩
      refine Ev.step (fun k => by rw [nat_Root.l0]) ?_
      refine Ev.bind q1 (Ev.bind s1 (Ev.bind y1 (Ev.bind hc (evp ?_ (evb (limited_sp h4) (evs _))))))
      unfold cmpi
      rw [if_neg c1]
      split <;> omega
theorem can_one : Can WW [1] 1 := ⟨Dg.mk (by decide) (by decide) (Dg.nil _), fun h => by simp, by decide⟩
theorem nat_valid {a : List Int} (hl : a.length ≤ 4096) (hn : Nm a) : nat_Valid.f a = some true := by
  obtain ⟨p, _, h1, h2⟩ := valid_sp a (by omega)
  rw [h1, h2.2 ⟨hl, hn⟩]
theorem nat_Root_sp {a : List Int} {n : Int} (hl : a.length ≤ 4096) (ha : Can WW a n) : ∃ r z, Ev (fun k => nat_Root.f k a) (r, 0) ∧ Can WW r z ∧ r.length ≤ 4096 ∧ 0 ≤ z ∧ z * z ≤ n ∧ n < (z + 1) * (z + 1) := by
  have n0 := ha.nonneg WW_pos
  by_cases c : a.length = 0
  · have e := (ha.len_iff WW_pos).1 c
    subst e
    refine ⟨[], 0, ?_, Can.zero _, by simp, by omega, by omega, by omega⟩
    unfold nat_Root.f
    exact evb (nat_valid hl ha.2.1) (evp rfl (evp (by omega) (evs _)))
  · have hn : n ≠ 0 := fun h => c ((ha.len_iff WW_pos).2 h)
    obtain ⟨b, b1, b2, b3, b4⟩ := mag_Bits_sp (by omega) ha
    obtain ⟨b5, b6, b7, b8⟩ := b4 hn
    obtain ⟨l, l1, l2, l3⟩ := mag_Shl_sp ((b + 1) / 2) (by simp; omega) can_one
    rw [Int.one_mul] at l2
    have hx := two_pos ((b + 1) / 2)
    have hup : n < ((2 : Int) ^ ((b + 1) / 2) + 1) * (2 ^ ((b + 1) / 2) + 1) := by
      have e1 : (2 : Int) ^ b ≤ 2 ^ ((b + 1) / 2) * 2 ^ ((b + 1) / 2) := by
        rw [← Int.pow_add]
        exact pow_le (by decide) (by omega)
      have e2 : ((2 : Int) ^ ((b + 1) / 2) + 1) * (2 ^ ((b + 1) / 2) + 1) = 2 ^ ((b + 1) / 2) * 2 ^ ((b + 1) / 2) + 2 * 2 ^ ((b + 1) / 2) + 1 := by grind
      omega
    obtain ⟨r, z, r1, r2, r3, r4, r5⟩ := nat_Root_ev hl ha (by omega) _ _ l (Nat.lt_succ_self _) hx l2 (by simp at l3; omega) hup
    refine ⟨r, z, ?_, r2, r3, r2.nonneg WW_pos, r4, r5⟩
    unfold nat_Root.f
    refine evb (nat_valid hl ha.2.1) (evp rfl (evn (by omega) (evb b1 ?_)))
    rw [w64 (x := (b : Int) + 1) (by omega) (by omega), tdiv_nn (by omega), w64 (x := ((b : Int) + 1) / 2) (by omega) (by omega), show ((b : Int) + 1) / 2 = (((b + 1) / 2 : Nat) : Int) by omega]
    exact Ev.bind l1 r1
end Go.Proofs.Ytfmobogdnlmdbaa.P
end
section
namespace Go.Proofs.Ytfmobogdnlmdbaa.P
open Go.RowKit Go.Proofs.YtfmobogdnlmdbaaW.PrintWords Go.Proofs.YtfmobogdnlmdbaaW.PrintLast Go.Proofs.YtfmobogdnlmdbaaW.PrintMore
set_option linter.unusedVariables false
theorem NatRoots : isochronelaw01_NatRoots.Pure := by
  intro a ha1 ha2 ha3
  refine Ev.rounds ?_
  unfold isochronelaw01_NatRoots.f
  refine Ev.bind awake_ok (evp rfl ?_)
  obtain ⟨t, ht, hti⟩ := small_sp a [] 30 (by omega) (by simp)
  refine evb ht ?_
  cases t with
  | false => exact evn (by simp) (evs _)
  | true =>
    obtain ⟨c1, c2, c3, c4, na, nb⟩ := hti.1 rfl
    refine evp rfl ?_
    have ca := can_of (dg_wf ha3) na
    generalize hN : vl WW a = n at ca
    obtain ⟨r, z, r1, r2, r3, r4, r5, r6⟩ := nat_Root_sp c3 ca
    have hlt : z < WW ^ 15 := by
      rcases Int.lt_or_le z (WW ^ 15) with c | c
      · exact c
      · exfalso
        have h1 := ca.lt WW_pos
        have h2 := pow_le (B := WW) (by decide) (show a.length ≤ 30 by omega)
        have h3 : WW ^ 15 * WW ^ 15 ≤ z * z := Int.mul_le_mul c c (by decide) (by omega)
        have h4 : WW ^ 15 * WW ^ 15 = WW ^ 30 := by rw [← Int.pow_add]
        omega
    have hl := r2.len_le WW_one hlt
    obtain ⟨p, p1, _, p3⟩ := valid_sp r (by omega)
    have ep : p = true := p3.2 ⟨r3, r2.2.1⟩
    subst ep
    refine Ev.bind r1 (evp rfl (evb p1 (evp rfl ?_)))
    have hd : decide ((r.length : Int) > 16) = false := decide_eq_false (by omega)
    simp only [hd]
    obtain ⟨x, x1, x2, x3⟩ := r_Of_sp (by omega) ca
    obtain ⟨y, y1, y2, y3⟩ := r_Of_sp (by omega) r2
    obtain ⟨o, o1, o2⟩ := r_Int_sp (a := 1) (by omega) (by omega)
    have lo : o.length ≤ 1 := o2.len_le RR_one (k := 1) (by decide)
    obtain ⟨s, s1, s2, s3⟩ := r_Add_sp (by omega) y2 o2
    obtain ⟨p, q1, q2, q3⟩ := r_Mul_sp (by omega) y2 y2
    obtain ⟨u, u1, u2, u3⟩ := r_Mul_sp (by omega) s2 s2
    have k1 := isochroneref01_Cmp_sp (by omega) q2 x2
    have k2 := isochroneref01_Cmp_sp (by omega) u2 x2
    have e1 : cmpi (z * z) n ≤ 0 := by unfold cmpi; split <;> (try split) <;> omega
    have e2 : cmpi ((z + 1) * (z + 1)) n = 1 := by unfold cmpi; rw [if_neg (by omega), if_neg (by omega)]
    rw [e2] at k2
    refine Ev.step (fun k => by rw [isochronelaw01_NatRoots.j0]) ?_
    refine evn (by simp) (Ev.bind x1 (Ev.bind y1 (Ev.bind o1 (Ev.bind s1 (Ev.bind q1 (Ev.bind k1 (evp e1 (Ev.bind u1 (Ev.bind k2 ?_)))))))))
    exact evs _
end Go.Proofs.Ytfmobogdnlmdbaa.P
namespace Go.Proofs.Ytfmobogdnlmdbaa.Pure
theorem NatRoots : P.isochronelaw01_NatRoots.Pure := P.NatRoots
end Go.Proofs.Ytfmobogdnlmdbaa.Pure
end
section
namespace Go.Proofs.YtfmobogdnlmdbaaW.PrintWords
open Go.ChangeShapes Go.WideShapes
theorem sized_ints {H : Type} {enc : TypeId × Value → H} {P : Program} {W : World} {base : Nat} {spare : Nat → Bool} {held : Bool} {t e : TypeId} {k : IntKind} {a : Option Addr} {len cap : Nat} {d : DataW H} {ps : List MemPlace} {ts : List TypeId} {ds : List (DataW H)} {j : Nat}
    (hsz : (DataW.weightsEach P ts ds).all (· ≤ reachBytes) = true) (ht : ts[j]? = some t) (hd : ds[j]? = some d) (hu : P.underlying t = some (.slice e)) (he : P.underlying e = some (.int k)) (hc : P.cellsOf e = 1) {B : Nat} (hB : P.bytesOf e = B)
    (h : DataW.Trod enc P W base spare held t (.slice a len cap) d ps) : len * B ≤ 140737488351232 := by
  obtain ⟨fuel, hf⟩ := h
  rcases open_ints hu he hc hf with ⟨hcs, _⟩ | ⟨x, l, c, zs, hcs, _, hl, _, hz, hx, _, _⟩
  · simp [Value.cells] at hcs
    obtain ⟨rfl, rfl, rfl⟩ := hcs
    simp
  · simp [Value.cells] at hcs
    obtain ⟨rfl, rfl, rfl⟩ := hcs
    obtain ⟨hx, _⟩ := Prod.mk.inj hx
    subst hx
    have z := sized_slice hsz ht hd hu
    rw [hB] at z
    have hl2 : len ≤ zs.length := by
      rw [hz]
      split
      · exact hl
      · exact Nat.le_refl _
    have h1 : (lits (H := H) k (zs.take len)).length + (lits (H := H) k (zs.drop len)).length = zs.length := by
      simp [lits]
      omega
    rw [h1] at z
    exact Nat.le_trans (Nat.mul_le_mul_right _ hl2) z
end Go.Proofs.YtfmobogdnlmdbaaW.PrintWords
end
section
namespace Go.Proofs.Ytfmobogdnlmdbaa.natRoots
open Go.ChangeShapes Go.WideShapes Go.ChangeAt Go.RowKit
open Go.ChangeMaps (open_string shut_string)
set_option linter.unusedVariables false
theorem own : ownKnob Try.prog.godebug = none := by kernel_rfl
theorem laidOut : laidOutB Try.prog = true := by kernel_rfl
def IsRow (k : IntKind) (w : World) (a : Option Addr) (len cap : Nat) (zs : List Int) : Prop :=
  (a = none ∧ len = 0 ∧ cap = 0 ∧ zs = []) ∨
  ∃ x, a = some x ∧ len ≤ cap ∧ cap ≤ maxLen ∧ zs.length = cap ∧ (∀ i, i < zs.length → w.cell? (x.add i) = some (.int k (zs.getD i 0))) ∧ ∀ n ∈ zs, (Lit.int k n).wf = true
set_option maxRecDepth 100000 in
theorem lifted (os : Os) (started : os.Started) (H : Type) (enc : TypeId × Value → H) :
    ReturnsInHanded {} Try.checked os 3 .any (Rows.natRootsSpec.pre6 enc Try.prog Try.f3 Rows.natRootsRow.domain false) (Rows.natRootsSpec.post enc Try.prog Try.f3 false true false false) := by
  refine returnsInHanded_of_change_sized (C := Try.checked) own started (by kernel_rfl) Try.func3
    (ChangeSpec.witness6 (enc := enc) (C := Try.checked) false ⟨#[], #[.slice none 0 0], []⟩ 8 (by kernel_rfl) (by kernel_rfl) (by kernel_rfl) (by kernel_rfl)) ?_
  intro W base args ds gs before hval0 hW hcnd hsz0 _
  have hsz : (DataW.weightsEach Try.prog (Try.f3.params.toList ++ Rows.natRootsSpec.plain.varTypes Try.prog) (ds ++ gs)).all (· ≤ reachBytes) = true := hsz0
  have hval : ∀ (j : Nat) t v, Try.f3.params[j]? = some t → args[j]? = some v → Value.okWide Try.prog W .any base t v := hval0
  have hW' := hW
  obtain ⟨p, q, hA0, hV, rfl, hfz, hnd⟩ := hW
  have hA : DataW.TrodAll enc Try.prog W 0 (fun _ => true) true Try.f3.params.toList args.toList ds p := hA0
  rw [Try.params3] at hA hval hsz
  obtain ⟨v0, vs0, d0, ds0, p0, q0, hargs, rfl, rfl, h0, r0⟩ := trodAll_cons hA
  obtain ⟨rfl, rfl, rfl⟩ := trodAll_nil r0
  obtain rfl : args = #[v0] := by cases args; simp_all
  obtain ⟨rfl, rfl⟩ := trodVars_none hV
  obtain ⟨a0, len0, cap0, rfl⟩ := okWide_slice Try.underlying22 (hval 0 22 v0 rfl rfl)
  have k0 := h0
  have lt0 : ∀ x ∈ p0, x.block < W.heap.size := by obtain ⟨m, hm⟩ := k0; exact DataW.trod_lt m _ _ _ hm
  obtain ⟨z0, w0⟩ : ∃ zs, IsRow .u32 W a0 len0 cap0 zs := by
    obtain ⟨fuel, hf⟩ := h0
    rcases open_ints Try.underlying22 Try.underlying36 (by kernel_rfl) hf with ⟨hcs, _⟩ | ⟨x, l, c, zs, hcs, _, hl, hm, hz, _, hcell, hwz⟩
    · simp [Value.cells] at hcs
      obtain ⟨rfl, rfl, rfl⟩ := hcs
      exact ⟨[], .inl ⟨rfl, rfl, rfl, rfl⟩⟩
    · simp [Value.cells] at hcs
      obtain ⟨rfl, rfl, rfl⟩ := hcs
      exact ⟨zs, .inr ⟨_, rfl, hl, hm, by simpa using hz, hcell, hwz⟩⟩
  have y0 : len0 * 4 ≤ 140737488351232 := Go.Proofs.YtfmobogdnlmdbaaW.PrintWords.sized_ints hsz (j := 0) (t := 22) rfl rfl Try.underlying22 Try.underlying36 (by kernel_rfl) (by kernel_rfl) h0
  clear hA0 hval0 hsz0 hsz
  refine (P.isochronelaw01_NatRoots.walk Pure.NatRoots a0 len0 cap0 z0 W w0 y0).mono fun e W' ⟨he, bel⟩ => ?_
  subst he
  exact ⟨_, rfl, _, _, _, [], _, [], hW', trodAll_mk1 (shut_bool Try.underlying4 _), (trodAll_cons_mk (Below.trod laidOut (by kernel_rfl) (of_decide_eq_true (by kernel_rfl)) k0 bel lt0) trodAll_mk0), rfl, bel.frame _, fun h => by cases h⟩
theorem over : Rows.natRootsRow.holds Try.pinned (OpenSpec.ofChange Rows.natRootsSpec) :=
  OpenClaim.holds_of_wide 3 Try.f3 rfl rfl rfl rfl rfl rfl rfl ⟨rfl, rfl, rfl, rfl, rfl⟩ rfl rfl rfl rfl rfl (by kernel_rfl) Try.func3 (by kernel_rfl)
    (of_decide_eq_true (by kernel_rfl)) (by unfold Func.isWrapper; first | (rw [if_pos (by decide +kernel)]; kernel_rfl) | (rw [if_neg (by decide +kernel)]; exact ⟨rfl, rfl⟩))
    (fun os started H enc _ => lifted os started H enc)
theorem proved : Rows.NatRootsSaid := over
#print axioms proved
end Go.Proofs.Ytfmobogdnlmdbaa.natRoots
namespace Go.Proofs.Ytfmobogdnlmdbaa
theorem natRoots_holds : Rows.NatRootsSaid := natRoots.proved
end Go.Proofs.Ytfmobogdnlmdbaa
end
