/- NatForms: Valid accepts exactly the valid magnitudes, every function returns ErrForm if an argument is not one, and From returns the magnitude of a number, for every input. No condition. (text 6 of 6) -/
import Derived.SizedLaws
import Derived.ChangeSlices
import Derived.Test.YtfmobogdnlmdbaaRows
import Derived.WalkKit
import Derived.ProofKit
import Derived.OpenShut
import Derived.ShutString
import Derived.ChangeOld
import Derived.Below
import Derived.Test.YtfmobogdnlmdbaaForm5
section
namespace Go.Proofs.Ytfmobogdnlmdbaa.P
open Go.RowKit Go.Proofs.YtfmobogdnlmdbaaW.PrintWords Go.Proofs.YtfmobogdnlmdbaaW.PrintLast Go.Proofs.YtfmobogdnlmdbaaW.PrintMore Go.Proofs.YtfmobogdnlmdbaaW
attribute [local go_sem] max2_int min2_int max_two min_two max_three min_three max_four min_four
set_option linter.unusedVariables false
set_option linter.unusedSimpArgs false
set_option maxHeartbeats 8000000 in
set_option maxRecDepth 100000 in
theorem isochronelaw01_NatForms.calls (k : Nat) (A0 : Option Addr) (c0 : Nat) (l0 : List Int) (A1 : Option Addr) (c1 : Nat) (l1 : List Int) (a2 : Int) (r : Bool) (w : World) (hr0 : Kd.C (Kd.int .u32) w A0 l0.length l0) (hc0 : l0.length ≤ c0) (hr1 : Kd.C (Kd.int .u32) w A1 l1.length l1) (hc1 : l1.length ≤ c1) (h : isochronelaw01_NatForms.f k l0 l1 a2 = some r) :
  Calls Try.prog 10 #[.slice A0 l0.length c0, .slice A1 l1.length c1, .int .u64 a2] w fun e w' => e = .returned (.bool r) ∧ Below w.heap.size w w' := by
 have HR0 := Aside0.mk hr0
 have HC0 := Aside0.mk hc0
 clear hr0 hc0
 have HR1 := Aside0.mk hr1
 have HC1 := Aside0.mk hc1
 clear hr1 hc1
 have HB := Aside0.mk (Below.refl w.heap.size w)
 have H : ((isochronelaw01_awake.f k).bind fun t961 => (if t961 = true then (if (l0.length : Int) > 5000 then (isochronelaw01_NatForms.j0 k l0 l1 a2 true) else (isochronelaw01_NatForms.j0 k l0 l1 a2 (decide ((l1.length : Int) > 5000)))) else (some false))) = some r := h
 clear h
 replace H := Option.bind_eq_some_iff.mp H
 obtain ⟨t961, A40, H⟩ := H
 replace H : (if t961 = true then (if (l0.length : Int) > 5000 then (isochronelaw01_NatForms.j0 k l0 l1 a2 true) else (isochronelaw01_NatForms.j0 k l0 l1 a2 (decide ((l1.length : Int) > 5000)))) else (some false)) = some r := H
 have A4 := Aside0.mk A40
 clear A40
 by_cases c5 : t961 = true
 ·subst c5
  have H1 : (if (l0.length : Int) > 5000 then (isochronelaw01_NatForms.j0 k l0 l1 a2 true) else (isochronelaw01_NatForms.j0 k l0 l1 a2 (decide ((l1.length : Int) > 5000)))) = some r := by rw [if_pos rfl] at H; exact H
  clear H
  have H := H1
  clear H1
  have HC6 := Aside0.mk H
  clear H
  go_enter Try.func10, Try.ntmps10
  go_upto_region 3 with (first | ((with_reducible refine gate_callee (f := 11) rfl ?_); refine goesL_ (some 31) rfl rfl Try.func11 (by kernel_rfl) rfl #[] rfl (by (try simp only [List.map_toArray, List.map_cons, List.map_nil]); first | done | rfl | (simp only [List.length_drop, List.length_take]; rfl)) ?_; (with_reducible refine (isochronelaw01_awake.calls k  true _ A4.out).mono ?_); rintro e w7 ⟨rfl, hb⟩; refine ⟨_, rfl, ?_⟩; have n0_ := Aside0.mk (below_step (bB) hb); clear HB; have HB := n0_; clear n0_; (try clear hb); (try clear hb2); (try clear hk); (try clear hi)))
  (try simp only [Act.put, List.setIfInBounds_toArray, List.set_cons_zero, List.set_cons_succ])
  go_cut [40] (fun v40 wc => ∃ (kq : Nat) (x40_5 : Bool), v40 = .bool x40_5 ∧ Aside0 (isochronelaw01_NatForms.j0 kq l0 l1 a2 x40_5 = some r) ∧ Aside0 (kq ≤ k) ∧ Aside0 (Below w.heap.size w wc))
  case first =>
   have H := HC6.out
   clear HC6
   by_cases c8 : (l0.length : Int) > 5000
   ·rw [if_pos c8] at H
    have c8b0 : decide (5000 < (l0.length : Int)) = true := decide_eq_true c8
    have c8b1 : decide (5000 < l0.length) = true := decide_eq_true (by omega)
    clear c8
    (first | rw [c8b0] | (simp only [i64_w, i32_w]; rw [c8b0]) | rw [c8b1] | skip)
    have H' := Aside0.mk H
    clear H
    go_wp2
    go_meet
    case rel => exact ⟨_, (true), (by first | rfl | (simp; done) | (simp [*]; done)), H', ⟨by first | omega | exact Nat.le_refl _⟩, ⟨by repeat (first | (with_reducible first | exact HB.out | apply below_alloc | apply pw_below_drewN | apply below_drew1) | exact HB.out)⟩⟩
   ·rw [if_neg c8] at H
    have c8b0 : decide (5000 < (l0.length : Int)) = false := decide_eq_false c8
    have c8b1 : decide (5000 < l0.length) = false := decide_eq_false (by omega)
    clear c8
    (first | rw [c8b0] | (simp only [i64_w, i32_w]; rw [c8b0]) | rw [c8b1] | skip)
    have H' := Aside0.mk H
    clear H
    go_wp2
    go_meet
    case rel => exact ⟨_, (decide ((l1.length : Int) > 5000)), (by first | rfl | (simp; done) | (simp [*]; done)), H', ⟨by first | omega | exact Nat.le_refl _⟩, ⟨by repeat (first | (with_reducible first | exact HB.out | apply below_alloc | apply pw_below_drewN | apply below_drew1) | exact HB.out)⟩⟩
  case rest =>
   as_aux_lemma =>
    clear HC6
    try clear c1
    try clear p2
    try clear c5
    try clear c8
    try clear c8b0
    try clear c8b1
    obtain ⟨kq, x40_5, rfl, HA, HJ5, HB⟩ := hcut
    cases kq with
    | zero => exact absurd HA.out (by simp [isochronelaw01_NatForms.j0])
    | succ kj5 =>
     have H := HA.out
     clear HA
     simp only [isochronelaw01_NatForms.j0] at H
     by_cases c9 : x40_5 = true
     ·subst c9
      have H1 : (some true) = some r := by rw [if_pos rfl] at H; exact H
      clear H
      have H := H1
      clear H1
      obtain rfl := Option.some.inj H
      go_wp2
      go_ret
      exact ⟨by first | rfl | (simp [errW_none, errW_some] <;> rfl) | (simp [*, errW_none, errW_some] <;> rfl), by repeat (first | (with_reducible first | exact HB.out | apply below_alloc | apply pw_below_drewN | apply below_drew1) | exact HB.out)⟩
     ·replace c9 := Bool.eq_false_iff.mpr c9
      subst c9
      have H1 : ((isochroneref01_Int.f kj5 (wrap64 (a2 / 281474976710656))).bind fun t962 => ((isochroneref01_Small.f kj5 t962 65536 (wrap64 (Go.bits .and .u64 (a2 / 4294967296) 65535))).bind fun t965 => ((isochroneref01_Small.f kj5 t965 65536 (wrap64 (Go.bits .and .u64 (a2 / 65536) 65535))).bind fun t968 => ((isochroneref01_Small.f kj5 t968 65536 (wrap64 (Go.bits .and .u64 a2 65535))).bind fun t971 => ((isochroneref01_Words.f kj5 t971).bind fun t974 => ((nat_From.f kj5 a2).bind fun t977 => ((slices_Equal_uint32_uint32.f kj5 t977 t974).bind fun t980 => (if t980 = true then ((nat_Valid.f l0).bind fun t981 => ((isochroneref01_Valid.f l0).bind fun t982 => (if (t981 != t982) = true then (isochronelaw01_NatForms.j1 kj5 l0 l1 true) else ((nat_Valid.f l1).bind fun t983 => ((isochroneref01_Valid.f l1).bind fun t984 => (isochronelaw01_NatForms.j1 kj5 l0 l1 (t983 != t984))))))) else (isochronelaw01_NatForms.j1 kj5 l0 l1 true))))))))) = some r := by rw [if_neg (show ¬ (false = true) by decide)] at H; exact H
      clear H
      have H := H1
      clear H1
      replace H := Option.bind_eq_some_iff.mp H
      obtain ⟨t962, A100, H⟩ := H
      replace H : ((isochroneref01_Small.f kj5 t962 65536 (wrap64 (Go.bits .and .u64 (a2 / 4294967296) 65535))).bind fun t965 => ((isochroneref01_Small.f kj5 t965 65536 (wrap64 (Go.bits .and .u64 (a2 / 65536) 65535))).bind fun t968 => ((isochroneref01_Small.f kj5 t968 65536 (wrap64 (Go.bits .and .u64 a2 65535))).bind fun t971 => ((isochroneref01_Words.f kj5 t971).bind fun t974 => ((nat_From.f kj5 a2).bind fun t977 => ((slices_Equal_uint32_uint32.f kj5 t977 t974).bind fun t980 => (if t980 = true then ((nat_Valid.f l0).bind fun t981 => ((isochroneref01_Valid.f l0).bind fun t982 => (if (t981 != t982) = true then (isochronelaw01_NatForms.j1 kj5 l0 l1 true) else ((nat_Valid.f l1).bind fun t983 => ((isochroneref01_Valid.f l1).bind fun t984 => (isochronelaw01_NatForms.j1 kj5 l0 l1 (t983 != t984))))))) else (isochronelaw01_NatForms.j1 kj5 l0 l1 true)))))))) = some r := H
      have A10 := Aside0.mk A100
      clear A100
      replace H := Option.bind_eq_some_iff.mp H
      obtain ⟨t965, A110, H⟩ := H
      replace H : ((isochroneref01_Small.f kj5 t965 65536 (wrap64 (Go.bits .and .u64 (a2 / 65536) 65535))).bind fun t968 => ((isochroneref01_Small.f kj5 t968 65536 (wrap64 (Go.bits .and .u64 a2 65535))).bind fun t971 => ((isochroneref01_Words.f kj5 t971).bind fun t974 => ((nat_From.f kj5 a2).bind fun t977 => ((slices_Equal_uint32_uint32.f kj5 t977 t974).bind fun t980 => (if t980 = true then ((nat_Valid.f l0).bind fun t981 => ((isochroneref01_Valid.f l0).bind fun t982 => (if (t981 != t982) = true then (isochronelaw01_NatForms.j1 kj5 l0 l1 true) else ((nat_Valid.f l1).bind fun t983 => ((isochroneref01_Valid.f l1).bind fun t984 => (isochronelaw01_NatForms.j1 kj5 l0 l1 (t983 != t984))))))) else (isochronelaw01_NatForms.j1 kj5 l0 l1 true))))))) = some r := H
      have A11 := Aside0.mk A110
      clear A110
      replace H := Option.bind_eq_some_iff.mp H
      obtain ⟨t968, A120, H⟩ := H
      replace H : ((isochroneref01_Small.f kj5 t968 65536 (wrap64 (Go.bits .and .u64 a2 65535))).bind fun t971 => ((isochroneref01_Words.f kj5 t971).bind fun t974 => ((nat_From.f kj5 a2).bind fun t977 => ((slices_Equal_uint32_uint32.f kj5 t977 t974).bind fun t980 => (if t980 = true then ((nat_Valid.f l0).bind fun t981 => ((isochroneref01_Valid.f l0).bind fun t982 => (if (t981 != t982) = true then (isochronelaw01_NatForms.j1 kj5 l0 l1 true) else ((nat_Valid.f l1).bind fun t983 => ((isochroneref01_Valid.f l1).bind fun t984 => (isochronelaw01_NatForms.j1 kj5 l0 l1 (t983 != t984))))))) else (isochronelaw01_NatForms.j1 kj5 l0 l1 true)))))) = some r := H
      have A12 := Aside0.mk A120
      clear A120
      replace H := Option.bind_eq_some_iff.mp H
      obtain ⟨t971, A130, H⟩ := H
      replace H : ((isochroneref01_Words.f kj5 t971).bind fun t974 => ((nat_From.f kj5 a2).bind fun t977 => ((slices_Equal_uint32_uint32.f kj5 t977 t974).bind fun t980 => (if t980 = true then ((nat_Valid.f l0).bind fun t981 => ((isochroneref01_Valid.f l0).bind fun t982 => (if (t981 != t982) = true then (isochronelaw01_NatForms.j1 kj5 l0 l1 true) else ((nat_Valid.f l1).bind fun t983 => ((isochroneref01_Valid.f l1).bind fun t984 => (isochronelaw01_NatForms.j1 kj5 l0 l1 (t983 != t984))))))) else (isochronelaw01_NatForms.j1 kj5 l0 l1 true))))) = some r := H
      have A13 := Aside0.mk A130
      clear A130
      replace H := Option.bind_eq_some_iff.mp H
      obtain ⟨t974, A140, H⟩ := H
      replace H : ((nat_From.f kj5 a2).bind fun t977 => ((slices_Equal_uint32_uint32.f kj5 t977 t974).bind fun t980 => (if t980 = true then ((nat_Valid.f l0).bind fun t981 => ((isochroneref01_Valid.f l0).bind fun t982 => (if (t981 != t982) = true then (isochronelaw01_NatForms.j1 kj5 l0 l1 true) else ((nat_Valid.f l1).bind fun t983 => ((isochroneref01_Valid.f l1).bind fun t984 => (isochronelaw01_NatForms.j1 kj5 l0 l1 (t983 != t984))))))) else (isochronelaw01_NatForms.j1 kj5 l0 l1 true)))) = some r := H
      have A14 := Aside0.mk A140
      clear A140
      have HC15 := Aside0.mk H
      clear H
      go_upto_region 6 with (first | ((with_reducible refine gate_callee (f := 17) rfl ?_); refine goesL_ (some 44) rfl rfl Try.func17 (by kernel_rfl) rfl #[.int .i64 (wrap64 (a2 / 281474976710656))] rfl (by (try simp only [List.map_toArray, List.map_cons, List.map_nil]); first | done | rfl | (simp only [List.length_drop, List.length_take]; rfl)) ?_; (with_reducible refine (isochroneref01_Int.calls kj5 (wrap64 (a2 / 281474976710656)) t962 _ A10.out).mono ?_); rintro e w16 ⟨v963, rfl, ho0, hb⟩; refine ⟨_, rfl, ?_⟩; have n0_ := Aside0.mk (Kd.R_lower ho0 (below_size (bB))); have n1_ := Aside0.mk (below_step (bB) hb); clear HB; have HO964 := n0_; have HB := n1_; clear n0_ n1_; (try clear hb); (try clear hb2); (try clear hk); (try clear hi); (try clear ho0); obtain ⟨Ao17, co17, eo17⟩ := Kd.R_slice HO964.out; subst eo17) | ((with_reducible refine gate_callee (f := 43) rfl ?_); refine goesL_ (some 49) rfl rfl Try.func43 (by kernel_rfl) rfl #[.slice Ao17 t962.length co17, .int .i64 65536, .int .i64 (wrap64 (Go.bits .and .u64 (a2 / 4294967296) 65535))] rfl (by (try simp only [List.map_toArray, List.map_cons, List.map_nil]); first | done | rfl | (simp only [List.length_drop, List.length_take]; rfl)) ?_; (with_reducible refine (isochroneref01_Small.calls kj5 _ _ t962 65536 (wrap64 (Go.bits .and .u64 (a2 / 4294967296) 65535)) t965 _ ?side1 ?side2 A11.out).mono ?_); (case side1 => exact dC (Kd.R_reads' HO964.out).2.2); (case side2 => exact (Kd.R_reads' HO964.out).2.1); rintro e w18 ⟨v966, rfl, ho0, hb⟩; refine ⟨_, rfl, ?_⟩; have n0_ := Aside0.mk (Kd.R_elder' (dR HO964.out) (Kd.R_base ho0) hb); have n1_ := Aside0.mk (Kd.R_lower (Kd.R_new' ho0 (Kd.R_lt (dR HO964.out))) (below_size (bB))); have n2_ := Aside0.mk (below_step (bB) hb); clear HO964 HB; have HO964 := n0_; have HO967 := n1_; have HB := n2_; clear n0_ n1_ n2_; (try clear hb); (try clear hb2); (try clear hk); (try clear hi); (try clear ho0); obtain ⟨Ao19, co19, eo19⟩ := Kd.R_slice HO967.out; subst eo19) | ((with_reducible refine gate_callee (f := 43) rfl ?_); refine goesL_ (some 54) rfl rfl Try.func43 (by kernel_rfl) rfl #[.slice Ao19 t965.length co19, .int .i64 65536, .int .i64 (wrap64 (Go.bits .and .u64 (a2 / 65536) 65535))] rfl (by (try simp only [List.map_toArray, List.map_cons, List.map_nil]); first | done | rfl | (simp only [List.length_drop, List.length_take]; rfl)) ?_; (with_reducible refine (isochroneref01_Small.calls kj5 _ _ t965 65536 (wrap64 (Go.bits .and .u64 (a2 / 65536) 65535)) t968 _ ?side1 ?side2 A12.out).mono ?_); (case side1 => exact dC (Kd.R_reads' HO967.out).2.2); (case side2 => exact (Kd.R_reads' HO967.out).2.1); rintro e w20 ⟨v969, rfl, ho0, hb⟩; refine ⟨_, rfl, ?_⟩; have n0_ := Aside0.mk (Kd.R_elder' (dR HO964.out) (Kd.R_base ho0) hb); have n1_ := Aside0.mk (Kd.R_elder' (dR HO967.out) (Kd.R_base ho0) hb); have n2_ := Aside0.mk (Kd.R_lower (Kd.R_new' (Kd.R_new' ho0 (Kd.R_lt (dR HO964.out))) (Kd.R_lt (dR HO967.out))) (below_size (bB))); have n3_ := Aside0.mk (below_step (bB) hb); clear HO964 HO967 HB; have HO964 := n0_; have HO967 := n1_; have HO970 := n2_; have HB := n3_; clear n0_ n1_ n2_ n3_; (try clear hb); (try clear hb2); (try clear hk); (try clear hi); (try clear ho0); obtain ⟨Ao21, co21, eo21⟩ := Kd.R_slice HO970.out; subst eo21) | ((with_reducible refine gate_callee (f := 43) rfl ?_); refine goesL_ (some 58) rfl rfl Try.func43 (by kernel_rfl) rfl #[.slice Ao21 t968.length co21, .int .i64 65536, .int .i64 (wrap64 (Go.bits .and .u64 a2 65535))] rfl (by (try simp only [List.map_toArray, List.map_cons, List.map_nil]); first | done | rfl | (simp only [List.length_drop, List.length_take]; rfl)) ?_; (with_reducible refine (isochroneref01_Small.calls kj5 _ _ t968 65536 (wrap64 (Go.bits .and .u64 a2 65535)) t971 _ ?side1 ?side2 A13.out).mono ?_); (case side1 => exact dC (Kd.R_reads' HO970.out).2.2); (case side2 => exact (Kd.R_reads' HO970.out).2.1); rintro e w22 ⟨v972, rfl, ho0, hb⟩; refine ⟨_, rfl, ?_⟩; have n0_ := Aside0.mk (Kd.R_elder' (dR HO964.out) (Kd.R_base ho0) hb); have n1_ := Aside0.mk (Kd.R_elder' (dR HO967.out) (Kd.R_base ho0) hb); have n2_ := Aside0.mk (Kd.R_elder' (dR HO970.out) (Kd.R_base ho0) hb); have n3_ := Aside0.mk (Kd.R_lower (Kd.R_new' (Kd.R_new' (Kd.R_new' ho0 (Kd.R_lt (dR HO964.out))) (Kd.R_lt (dR HO967.out))) (Kd.R_lt (dR HO970.out))) (below_size (bB))); have n4_ := Aside0.mk (below_step (bB) hb); clear HO964 HO967 HO970 HB; have HO964 := n0_; have HO967 := n1_; have HO970 := n2_; have HO973 := n3_; have HB := n4_; clear n0_ n1_ n2_ n3_ n4_; (try clear hb); (try clear hb2); (try clear hk); (try clear hi); (try clear ho0); obtain ⟨Ao23, co23, eo23⟩ := Kd.R_slice HO973.out; subst eo23) | ((with_reducible refine gate_callee (f := 42) rfl ?_); refine goesL_ (some 59) rfl rfl Try.func42 (by kernel_rfl) rfl #[.slice Ao23 t971.length co23] rfl (by (try simp only [List.map_toArray, List.map_cons, List.map_nil]); first | done | rfl | (simp only [List.length_drop, List.length_take]; rfl)) ?_; (with_reducible refine (isochroneref01_Words.calls kj5 (fun k_ => some k_ = (.slice Ao23 t971.length co23 : Value).ownBlock) _ _ t971 t974 _ ?side1 A14.out).mono ?_); (case side1 => exact Kd.R_V (Kd.R_tight rfl (HO973.out))); rintro e w24 ⟨v975, rfl, ho0, hb⟩; refine ⟨_, rfl, ?_⟩; have n0_ := Aside0.mk (Kd.R_below (dR HO964.out) hb); have n1_ := Aside0.mk (Kd.R_below (dR HO967.out) hb); have n2_ := Aside0.mk (Kd.R_below (dR HO970.out) hb); have n3_ := Aside0.mk (Kd.R_below (dR HO973.out) hb); have n4_ := Aside0.mk (Kd.R_lower (Kd.R_mono (ok' := fun k_ => True) ho0 (fun _ hk_ => trivial)) (below_size (bB))); have n5_ := Aside0.mk (below_step (bB) hb); clear HO964 HO967 HO970 HO973 HB; have HO964 := n0_; have HO967 := n1_; have HO970 := n2_; have HO973 := n3_; have HO976 := n4_; have HB := n5_; clear n0_ n1_ n2_ n3_ n4_ n5_; (try clear hb); (try clear hb2); (try clear hk); (try clear hi); (try clear ho0)))
      (try simp only [Act.put, List.setIfInBounds_toArray, List.set_cons_zero, List.set_cons_succ])
      go_cut [78] (fun v78 wc => ∃ (kq : Nat) (x78_14 : Bool), v78 = .bool x78_14 ∧ Aside0 (isochronelaw01_NatForms.j1 kq l0 l1 x78_14 = some r) ∧ Aside0 (kq ≤ kj5) ∧ Aside0 (Below w.heap.size w wc))
      case first =>
       have H := HC15.out
       clear HC15
       replace H := Option.bind_eq_some_iff.mp H
       obtain ⟨t977, A250, H⟩ := H
       replace H : ((slices_Equal_uint32_uint32.f kj5 t977 t974).bind fun t980 => (if t980 = true then ((nat_Valid.f l0).bind fun t981 => ((isochroneref01_Valid.f l0).bind fun t982 => (if (t981 != t982) = true then (isochronelaw01_NatForms.j1 kj5 l0 l1 true) else ((nat_Valid.f l1).bind fun t983 => ((isochroneref01_Valid.f l1).bind fun t984 => (isochronelaw01_NatForms.j1 kj5 l0 l1 (t983 != t984))))))) else (isochronelaw01_NatForms.j1 kj5 l0 l1 true))) = some r := H
       have A25 := Aside0.mk A250
       clear A250
       replace H := Option.bind_eq_some_iff.mp H
       obtain ⟨t980, A260, H⟩ := H
       replace H : (if t980 = true then ((nat_Valid.f l0).bind fun t981 => ((isochroneref01_Valid.f l0).bind fun t982 => (if (t981 != t982) = true then (isochronelaw01_NatForms.j1 kj5 l0 l1 true) else ((nat_Valid.f l1).bind fun t983 => ((isochroneref01_Valid.f l1).bind fun t984 => (isochronelaw01_NatForms.j1 kj5 l0 l1 (t983 != t984))))))) else (isochronelaw01_NatForms.j1 kj5 l0 l1 true)) = some r := H
       have A26 := Aside0.mk A260
       clear A260
       by_cases c27 : t980 = true
       ·subst c27
        have H1 : ((nat_Valid.f l0).bind fun t981 => ((isochroneref01_Valid.f l0).bind fun t982 => (if (t981 != t982) = true then (isochronelaw01_NatForms.j1 kj5 l0 l1 true) else ((nat_Valid.f l1).bind fun t983 => ((isochroneref01_Valid.f l1).bind fun t984 => (isochronelaw01_NatForms.j1 kj5 l0 l1 (t983 != t984))))))) = some r := by rw [if_pos rfl] at H; exact H
        clear H
        have H := H1
        clear H1
        replace H := Option.bind_eq_some_iff.mp H
        obtain ⟨t981, A280, H⟩ := H
        replace H : ((isochroneref01_Valid.f l0).bind fun t982 => (if (t981 != t982) = true then (isochronelaw01_NatForms.j1 kj5 l0 l1 true) else ((nat_Valid.f l1).bind fun t983 => ((isochroneref01_Valid.f l1).bind fun t984 => (isochronelaw01_NatForms.j1 kj5 l0 l1 (t983 != t984)))))) = some r := H
        have A28 := Aside0.mk A280
        clear A280
        replace H := Option.bind_eq_some_iff.mp H
        obtain ⟨t982, A290, H⟩ := H
        replace H : (if (t981 != t982) = true then (isochronelaw01_NatForms.j1 kj5 l0 l1 true) else ((nat_Valid.f l1).bind fun t983 => ((isochroneref01_Valid.f l1).bind fun t984 => (isochronelaw01_NatForms.j1 kj5 l0 l1 (t983 != t984))))) = some r := H
        have A29 := Aside0.mk A290
        clear A290
        by_cases c30 : (t981 != t982) = true
        ·rw [if_pos c30] at H
         have c30b0 : (t981 != t982) = true := c30
         (try (have c30b1 : decide (t981 = t982) = false := by simpa using c30))
         (try (have c30b2 : (t981 == t982) = false := by simpa using c30))
         (try (have c30b3 : ¬ (t981 = t982) := by simpa using c30))
         clear c30
         (first | rw [c30b0] | (simp only [i64_w, i32_w]; rw [c30b0]) | rw [c30b1] | skip)
         have H' := Aside0.mk H
         clear H
         go_wp2_with (first | ((with_reducible refine gate_callee (f := 44) rfl ?_); refine goesL_ (some 61) rfl rfl Try.func44 (by kernel_rfl) rfl #[.int .u64 a2] rfl (by (try simp only [List.map_toArray, List.map_cons, List.map_nil]); first | done | rfl | (simp only [List.length_drop, List.length_take]; rfl)) ?_; (with_reducible refine (nat_From.calls kj5 a2 t977 _ A25.out).mono ?_); rintro e w31 ⟨v978, rfl, ho0, hb⟩; refine ⟨_, rfl, ?_⟩; have n0_ := Aside0.mk (Kd.R_below (dR HO964.out) hb); have n1_ := Aside0.mk (Kd.R_below (dR HO967.out) hb); have n2_ := Aside0.mk (Kd.R_below (dR HO970.out) hb); have n3_ := Aside0.mk (Kd.R_below (dR HO973.out) hb); have n4_ := Aside0.mk (Kd.R_below (dR HO976.out) hb); have n5_ := Aside0.mk (Kd.V_lower (Kd.V_mono (ok' := fun k_ => some k_ ≠ (.slice Ao17 t962.length co17 : Value).ownBlock ∧ some k_ ≠ (.slice Ao19 t965.length co19 : Value).ownBlock ∧ some k_ ≠ (.slice Ao21 t968.length co21 : Value).ownBlock ∧ some k_ ≠ (.slice Ao23 t971.length co23 : Value).ownBlock ∧ some k_ ≠ (v975 : Value).ownBlock) ho0 (fun k_ hk_ => ⟨(Kd.fresh' (Kd.R_lt (dR HO964.out)) k_ hk_), (Kd.fresh' (Kd.R_lt (dR HO967.out)) k_ hk_), (Kd.fresh' (Kd.R_lt (dR HO970.out)) k_ hk_), (Kd.fresh' (Kd.R_lt (dR HO973.out)) k_ hk_), (Kd.fresh' (Kd.R_lt (dR HO976.out)) k_ hk_)⟩)) (below_size (bB))); have n6_ := Aside0.mk (below_step (bB) hb); clear HO964 HO967 HO970 HO973 HO976 HB; have HO964 := n0_; have HO967 := n1_; have HO970 := n2_; have HO973 := n3_; have HO976 := n4_; have HO979 := n5_; have HB := n6_; clear n0_ n1_ n2_ n3_ n4_ n5_ n6_; (try clear hb); (try clear hb2); (try clear hk); (try clear hi); (try clear ho0); obtain ⟨Ao32, co32, eo32⟩ := Kd.V_slice HO979.out; subst eo32; obtain ⟨Ao33, co33, eo33⟩ := Kd.R_slice HO976.out; subst eo33) | ((with_reducible refine gate_callee (f := 31) rfl ?_); refine goesL_ (some 63) rfl rfl Try.func31 (by kernel_rfl) rfl #[.slice Ao32 t977.length co32, .slice Ao33 t974.length co33] rfl (by (try simp only [List.map_toArray, List.map_cons, List.map_nil]); first | done | rfl | (simp only [List.length_drop, List.length_take]; rfl)) ?_; (with_reducible refine (slices_Equal_uint32_uint32.calls kj5 _ _ t977 _ _ t974 true _ ?side1 ?side2 ?side3 ?side4 A26.out).mono ?_); (case side1 => exact dC (Kd.V_reads' HO979.out).2.2); (case side2 => exact (Kd.V_reads' HO979.out).2.1); (case side3 => exact dC (Kd.R_reads' HO976.out).2.2); (case side4 => exact (Kd.R_reads' HO976.out).2.1); rintro e w' ⟨rfl, ⟨nd, rfl⟩⟩; refine ⟨_, rfl, ?_⟩) | (go_at_call 45; (with_reducible refine (nat_Valid.calls _ _ l0 t981 _ ?side1 ?side2 A28.out).mono ?_); (case side1 => repeat (first | exact (Kd.C_below HR0.out (bB)) | (with_reducible refine Kd.C_alloc ?_ _) | (with_reducible refine Kd.C_drewN ?_ _) | (with_reducible refine Kd.C_drew ?_))); (case side2 => exact HC0.out); rintro e w' ⟨rfl, ⟨nd, rfl⟩⟩) | (go_at_call 14; (with_reducible refine (isochroneref01_Valid.calls _ _ l0 t982 _ ?side1 ?side2 A29.out).mono ?_); (case side1 => repeat (first | exact (Kd.C_below HR0.out (bB)) | (with_reducible refine Kd.C_alloc ?_ _) | (with_reducible refine Kd.C_drewN ?_ _) | (with_reducible refine Kd.C_drew ?_))); (case side2 => exact HC0.out); rintro e w' ⟨rfl, ⟨nd, rfl⟩⟩))
         go_meet
         case rel => exact ⟨_, (true), (by first | rfl | (simp; done) | (simp [*]; done)), H', ⟨by have := HJ5.out; first | omega | exact Nat.le_refl _⟩, ⟨by repeat (first | (with_reducible first | exact HB.out | apply below_alloc | apply pw_below_drewN | apply below_drew1) | exact HB.out)⟩⟩
        ·rw [if_neg c30] at H
         have c30b0 : (t981 != t982) = false := by simpa using c30
         (try (have c30b1 : decide (t981 = t982) = true := by simpa using c30))
         (try (have c30b2 : (t981 == t982) = true := by simpa using c30))
         clear c30
         (first | rw [c30b0] | (simp only [i64_w, i32_w]; rw [c30b0]) | rw [c30b1] | skip)
         replace H := Option.bind_eq_some_iff.mp H
         obtain ⟨t983, A340, H⟩ := H
         replace H : ((isochroneref01_Valid.f l1).bind fun t984 => (isochronelaw01_NatForms.j1 kj5 l0 l1 (t983 != t984))) = some r := H
         have A34 := Aside0.mk A340
         clear A340
         replace H := Option.bind_eq_some_iff.mp H
         obtain ⟨t984, A350, H⟩ := H
         replace H : (isochronelaw01_NatForms.j1 kj5 l0 l1 (t983 != t984)) = some r := H
         have A35 := Aside0.mk A350
         clear A350
         have H' := Aside0.mk H
         clear H
         go_wp2_with (first | ((with_reducible refine gate_callee (f := 44) rfl ?_); refine goesL_ (some 61) rfl rfl Try.func44 (by kernel_rfl) rfl #[.int .u64 a2] rfl (by (try simp only [List.map_toArray, List.map_cons, List.map_nil]); first | done | rfl | (simp only [List.length_drop, List.length_take]; rfl)) ?_; (with_reducible refine (nat_From.calls kj5 a2 t977 _ A25.out).mono ?_); rintro e w36 ⟨v978, rfl, ho0, hb⟩; refine ⟨_, rfl, ?_⟩; have n0_ := Aside0.mk (Kd.R_below (dR HO964.out) hb); have n1_ := Aside0.mk (Kd.R_below (dR HO967.out) hb); have n2_ := Aside0.mk (Kd.R_below (dR HO970.out) hb); have n3_ := Aside0.mk (Kd.R_below (dR HO973.out) hb); have n4_ := Aside0.mk (Kd.R_below (dR HO976.out) hb); have n5_ := Aside0.mk (Kd.V_lower (Kd.V_mono (ok' := fun k_ => some k_ ≠ (.slice Ao17 t962.length co17 : Value).ownBlock ∧ some k_ ≠ (.slice Ao19 t965.length co19 : Value).ownBlock ∧ some k_ ≠ (.slice Ao21 t968.length co21 : Value).ownBlock ∧ some k_ ≠ (.slice Ao23 t971.length co23 : Value).ownBlock ∧ some k_ ≠ (v975 : Value).ownBlock) ho0 (fun k_ hk_ => ⟨(Kd.fresh' (Kd.R_lt (dR HO964.out)) k_ hk_), (Kd.fresh' (Kd.R_lt (dR HO967.out)) k_ hk_), (Kd.fresh' (Kd.R_lt (dR HO970.out)) k_ hk_), (Kd.fresh' (Kd.R_lt (dR HO973.out)) k_ hk_), (Kd.fresh' (Kd.R_lt (dR HO976.out)) k_ hk_)⟩)) (below_size (bB))); have n6_ := Aside0.mk (below_step (bB) hb); clear HO964 HO967 HO970 HO973 HO976 HB; have HO964 := n0_; have HO967 := n1_; have HO970 := n2_; have HO973 := n3_; have HO976 := n4_; have HO979 := n5_; have HB := n6_; clear n0_ n1_ n2_ n3_ n4_ n5_ n6_; (try clear hb); (try clear hb2); (try clear hk); (try clear hi); (try clear ho0); obtain ⟨Ao37, co37, eo37⟩ := Kd.V_slice HO979.out; subst eo37; obtain ⟨Ao38, co38, eo38⟩ := Kd.R_slice HO976.out; subst eo38) | ((with_reducible refine gate_callee (f := 31) rfl ?_); refine goesL_ (some 63) rfl rfl Try.func31 (by kernel_rfl) rfl #[.slice Ao37 t977.length co37, .slice Ao38 t974.length co38] rfl (by (try simp only [List.map_toArray, List.map_cons, List.map_nil]); first | done | rfl | (simp only [List.length_drop, List.length_take]; rfl)) ?_; (with_reducible refine (slices_Equal_uint32_uint32.calls kj5 _ _ t977 _ _ t974 true _ ?side1 ?side2 ?side3 ?side4 A26.out).mono ?_); (case side1 => exact dC (Kd.V_reads' HO979.out).2.2); (case side2 => exact (Kd.V_reads' HO979.out).2.1); (case side3 => exact dC (Kd.R_reads' HO976.out).2.2); (case side4 => exact (Kd.R_reads' HO976.out).2.1); rintro e w' ⟨rfl, ⟨nd, rfl⟩⟩; refine ⟨_, rfl, ?_⟩) | (go_at_call 45; (with_reducible refine (nat_Valid.calls _ _ l0 t981 _ ?side1 ?side2 A28.out).mono ?_); (case side1 => repeat (first | exact (Kd.C_below HR0.out (bB)) | (with_reducible refine Kd.C_alloc ?_ _) | (with_reducible refine Kd.C_drewN ?_ _) | (with_reducible refine Kd.C_drew ?_))); (case side2 => exact HC0.out); rintro e w' ⟨rfl, ⟨nd, rfl⟩⟩) | (go_at_call 14; (with_reducible refine (isochroneref01_Valid.calls _ _ l0 t982 _ ?side1 ?side2 A29.out).mono ?_); (case side1 => repeat (first | exact (Kd.C_below HR0.out (bB)) | (with_reducible refine Kd.C_alloc ?_ _) | (with_reducible refine Kd.C_drewN ?_ _) | (with_reducible refine Kd.C_drew ?_))); (case side2 => exact HC0.out); rintro e w' ⟨rfl, ⟨nd, rfl⟩⟩) | (go_at_call 45; (with_reducible refine (nat_Valid.calls _ _ l1 t983 _ ?side1 ?side2 A34.out).mono ?_); (case side1 => repeat (first | exact (Kd.C_below HR1.out (bB)) | (with_reducible refine Kd.C_alloc ?_ _) | (with_reducible refine Kd.C_drewN ?_ _) | (with_reducible refine Kd.C_drew ?_))); (case side2 => exact HC1.out); rintro e w' ⟨rfl, ⟨nd, rfl⟩⟩) | (go_at_call 14; (with_reducible refine (isochroneref01_Valid.calls _ _ l1 t984 _ ?side1 ?side2 A35.out).mono ?_); (case side1 => repeat (first | exact (Kd.C_below HR1.out (bB)) | (with_reducible refine Kd.C_alloc ?_ _) | (with_reducible refine Kd.C_drewN ?_ _) | (with_reducible refine Kd.C_drew ?_))); (case side2 => exact HC1.out); rintro e w' ⟨rfl, ⟨nd, rfl⟩⟩))
         go_meet
         case rel => exact ⟨_, ((t983 != t984)), (by first | rfl | (simp; done) | (simp [*]; done)), H', ⟨by have := HJ5.out; first | omega | exact Nat.le_refl _⟩, ⟨by repeat (first | (with_reducible first | exact HB.out | apply below_alloc | apply pw_below_drewN | apply below_drew1) | exact HB.out)⟩⟩
       ·replace c27 := Bool.eq_false_iff.mpr c27
        subst c27
        have H1 : (isochronelaw01_NatForms.j1 kj5 l0 l1 true) = some r := by rw [if_neg (show ¬ (false = true) by decide)] at H; exact H
        clear H
        have H := H1
        clear H1
        have H' := Aside0.mk H
        clear H
        go_wp2_with (first | ((with_reducible refine gate_callee (f := 44) rfl ?_); refine goesL_ (some 61) rfl rfl Try.func44 (by kernel_rfl) rfl #[.int .u64 a2] rfl (by (try simp only [List.map_toArray, List.map_cons, List.map_nil]); first | done | rfl | (simp only [List.length_drop, List.length_take]; rfl)) ?_; (with_reducible refine (nat_From.calls kj5 a2 t977 _ A25.out).mono ?_); rintro e w39 ⟨v978, rfl, ho0, hb⟩; refine ⟨_, rfl, ?_⟩; have n0_ := Aside0.mk (Kd.R_below (dR HO964.out) hb); have n1_ := Aside0.mk (Kd.R_below (dR HO967.out) hb); have n2_ := Aside0.mk (Kd.R_below (dR HO970.out) hb); have n3_ := Aside0.mk (Kd.R_below (dR HO973.out) hb); have n4_ := Aside0.mk (Kd.R_below (dR HO976.out) hb); have n5_ := Aside0.mk (Kd.V_lower (Kd.V_mono (ok' := fun k_ => some k_ ≠ (.slice Ao17 t962.length co17 : Value).ownBlock ∧ some k_ ≠ (.slice Ao19 t965.length co19 : Value).ownBlock ∧ some k_ ≠ (.slice Ao21 t968.length co21 : Value).ownBlock ∧ some k_ ≠ (.slice Ao23 t971.length co23 : Value).ownBlock ∧ some k_ ≠ (v975 : Value).ownBlock) ho0 (fun k_ hk_ => ⟨(Kd.fresh' (Kd.R_lt (dR HO964.out)) k_ hk_), (Kd.fresh' (Kd.R_lt (dR HO967.out)) k_ hk_), (Kd.fresh' (Kd.R_lt (dR HO970.out)) k_ hk_), (Kd.fresh' (Kd.R_lt (dR HO973.out)) k_ hk_), (Kd.fresh' (Kd.R_lt (dR HO976.out)) k_ hk_)⟩)) (below_size (bB))); have n6_ := Aside0.mk (below_step (bB) hb); clear HO964 HO967 HO970 HO973 HO976 HB; have HO964 := n0_; have HO967 := n1_; have HO970 := n2_; have HO973 := n3_; have HO976 := n4_; have HO979 := n5_; have HB := n6_; clear n0_ n1_ n2_ n3_ n4_ n5_ n6_; (try clear hb); (try clear hb2); (try clear hk); (try clear hi); (try clear ho0); obtain ⟨Ao40, co40, eo40⟩ := Kd.V_slice HO979.out; subst eo40; obtain ⟨Ao41, co41, eo41⟩ := Kd.R_slice HO976.out; subst eo41) | ((with_reducible refine gate_callee (f := 31) rfl ?_); refine goesL_ (some 63) rfl rfl Try.func31 (by kernel_rfl) rfl #[.slice Ao40 t977.length co40, .slice Ao41 t974.length co41] rfl (by (try simp only [List.map_toArray, List.map_cons, List.map_nil]); first | done | rfl | (simp only [List.length_drop, List.length_take]; rfl)) ?_; (with_reducible refine (slices_Equal_uint32_uint32.calls kj5 _ _ t977 _ _ t974 false _ ?side1 ?side2 ?side3 ?side4 A26.out).mono ?_); (case side1 => exact dC (Kd.V_reads' HO979.out).2.2); (case side2 => exact (Kd.V_reads' HO979.out).2.1); (case side3 => exact dC (Kd.R_reads' HO976.out).2.2); (case side4 => exact (Kd.R_reads' HO976.out).2.1); rintro e w' ⟨rfl, ⟨nd, rfl⟩⟩; refine ⟨_, rfl, ?_⟩))
        go_meet
        case rel => exact ⟨_, (true), (by first | rfl | (simp; done) | (simp [*]; done)), H', ⟨by have := HJ5.out; first | omega | exact Nat.le_refl _⟩, ⟨by repeat (first | (with_reducible first | exact HB.out | apply below_alloc | apply pw_below_drewN | apply below_drew1) | exact HB.out)⟩⟩
      case rest =>
       as_aux_lemma =>
        clear HC15
        try clear c1
        try clear c2
        try clear p2
        try clear c3
        try clear c4
        try clear c5
        try clear p6
        try clear c8
        try clear c8b0
        try clear c8b1
        try clear c9
        try clear c10
        try clear c11
        try clear c17
        try clear c27
        try clear c30
        try clear c30b0
        try clear c30b1
        try clear c30b2
        try clear c31
        try clear p2
        obtain ⟨kq, x78_14, rfl, HA, HJ14, HB⟩ := hcut
        cases kq with
        | zero => exact absurd HA.out (by simp [isochronelaw01_NatForms.j1])
        | succ kj14 =>
         have H := HA.out
         clear HA
         simp only [isochronelaw01_NatForms.j1] at H
         by_cases c42 : x78_14 = true
         ·subst c42
          have H1 : (some false) = some r := by rw [if_pos rfl] at H; exact H
          clear H
          have H := H1
          clear H1
          obtain rfl := Option.some.inj H
          go_wp2
          go_ret
          exact ⟨by first | rfl | (simp [errW_none, errW_some] <;> rfl) | (simp [*, errW_none, errW_some] <;> rfl), by repeat (first | (with_reducible first | exact HB.out | apply below_alloc | apply pw_below_drewN | apply below_drew1) | exact HB.out)⟩
         ·replace c42 := Bool.eq_false_iff.mpr c42
          subst c42
          have H1 : ((isochroneref01_Valid.f l0).bind fun t985 => (if t985 = true then ((isochroneref01_Valid.f l1).bind fun t986 => (isochronelaw01_NatForms.j2 kj14 l0 l1 t986)) else (isochronelaw01_NatForms.j2 kj14 l0 l1 false))) = some r := by rw [if_neg (show ¬ (false = true) by decide)] at H; exact H
          clear H
          have H := H1
          clear H1
          have HC43 := Aside0.mk H
          clear H
          go_upto_region 8 with (fail)
          go_cut [84] (fun v84 wc => ∃ (kq : Nat) (x84_42 : Bool), v84 = .bool x84_42 ∧ Aside0 (isochronelaw01_NatForms.j2 kq l0 l1 x84_42 = some r) ∧ Aside0 (kq ≤ kj14) ∧ Aside0 (Below w.heap.size w wc))
          case first =>
           have H := HC43.out
           clear HC43
           replace H := Option.bind_eq_some_iff.mp H
           obtain ⟨t985, A440, H⟩ := H
           replace H : (if t985 = true then ((isochroneref01_Valid.f l1).bind fun t986 => (isochronelaw01_NatForms.j2 kj14 l0 l1 t986)) else (isochronelaw01_NatForms.j2 kj14 l0 l1 false)) = some r := H
           have A44 := Aside0.mk A440
           clear A440
           by_cases c45 : t985 = true
           ·subst c45
            have H1 : ((isochroneref01_Valid.f l1).bind fun t986 => (isochronelaw01_NatForms.j2 kj14 l0 l1 t986)) = some r := by rw [if_pos rfl] at H; exact H
            clear H
            have H := H1
            clear H1
            replace H := Option.bind_eq_some_iff.mp H
            obtain ⟨t986, A460, H⟩ := H
            replace H : (isochronelaw01_NatForms.j2 kj14 l0 l1 t986) = some r := H
            have A46 := Aside0.mk A460
            clear A460
            have H' := Aside0.mk H
            clear H
            go_wp2_with (first | ((with_reducible refine gate_callee (f := 14) rfl ?_); refine goesL_ (some 80) rfl rfl Try.func14 (by kernel_rfl) rfl #[.slice A0 l0.length c0] rfl (by (try simp only [List.map_toArray, List.map_cons, List.map_nil]); first | done | rfl | (simp only [List.length_drop, List.length_take]; rfl)) ?_; (with_reducible refine (isochroneref01_Valid.calls _ _ l0 true _ ?side1 ?side2 A44.out).mono ?_); (case side1 => repeat (first | exact (Kd.C_below HR0.out HB.out) | (with_reducible refine Kd.C_alloc ?_ _) | (with_reducible refine Kd.C_drewN ?_ _) | (with_reducible refine Kd.C_drew ?_))); (case side2 => exact HC0.out); rintro e w' ⟨rfl, ⟨nd, rfl⟩⟩; refine ⟨_, rfl, ?_⟩) | (go_at_call 14; (with_reducible refine (isochroneref01_Valid.calls _ _ l1 t986 _ ?side1 ?side2 A46.out).mono ?_); (case side1 => repeat (first | exact (Kd.C_below HR1.out (bB)) | (with_reducible refine Kd.C_alloc ?_ _) | (with_reducible refine Kd.C_drewN ?_ _) | (with_reducible refine Kd.C_drew ?_))); (case side2 => exact HC1.out); rintro e w' ⟨rfl, ⟨nd, rfl⟩⟩))
            go_meet
            case rel => exact ⟨_, (t986), (by first | rfl | (simp; done) | (simp [*]; done)), H', ⟨by have := HJ5.out; have := HJ14.out; first | omega | exact Nat.le_refl _⟩, ⟨by repeat (first | (with_reducible first | exact HB.out | apply below_alloc | apply pw_below_drewN | apply below_drew1) | exact HB.out)⟩⟩
           ·replace c45 := Bool.eq_false_iff.mpr c45
            subst c45
            have H1 : (isochronelaw01_NatForms.j2 kj14 l0 l1 false) = some r := by rw [if_neg (show ¬ (false = true) by decide)] at H; exact H
            clear H
            have H := H1
            clear H1
            have H' := Aside0.mk H
            clear H
            go_wp2_with (first | ((with_reducible refine gate_callee (f := 14) rfl ?_); refine goesL_ (some 80) rfl rfl Try.func14 (by kernel_rfl) rfl #[.slice A0 l0.length c0] rfl (by (try simp only [List.map_toArray, List.map_cons, List.map_nil]); first | done | rfl | (simp only [List.length_drop, List.length_take]; rfl)) ?_; (with_reducible refine (isochroneref01_Valid.calls _ _ l0 false _ ?side1 ?side2 A44.out).mono ?_); (case side1 => repeat (first | exact (Kd.C_below HR0.out HB.out) | (with_reducible refine Kd.C_alloc ?_ _) | (with_reducible refine Kd.C_drewN ?_ _) | (with_reducible refine Kd.C_drew ?_))); (case side2 => exact HC0.out); rintro e w' ⟨rfl, ⟨nd, rfl⟩⟩; refine ⟨_, rfl, ?_⟩))
            go_meet
            case rel => exact ⟨_, (false), (by first | rfl | (simp; done) | (simp [*]; done)), H', ⟨by have := HJ5.out; have := HJ14.out; first | omega | exact Nat.le_refl _⟩, ⟨by repeat (first | (with_reducible first | exact HB.out | apply below_alloc | apply pw_below_drewN | apply below_drew1) | exact HB.out)⟩⟩
          case rest =>
           as_aux_lemma =>
            clear HC43
            try clear c1
            try clear c2
            try clear p2
            try clear c3
            try clear c4
            try clear c5
            try clear p6
            try clear c8
            try clear c8b0
            try clear c8b1
            try clear c9
            try clear c10
            try clear c11
            try clear c14
            try clear c17
            try clear c27
            try clear c30
            try clear c30b0
            try clear c30b1
            try clear c30b2
            try clear c31
            try clear c42
            try clear c43
            try clear c44
            try clear c45
            try clear p2
            try clear p6
            obtain ⟨kq, x84_42, rfl, HA, HJ42, HB⟩ := hcut
            cases kq with
            | zero => exact absurd HA.out (by simp [isochronelaw01_NatForms.j2])
            | succ kj42 =>
             have H := HA.out
             clear HA
             simp only [isochronelaw01_NatForms.j2] at H
             by_cases c47 : x84_42 = true
             ·subst c47
              have H1 : (some true) = some r := by rw [if_pos rfl] at H; exact H
              clear H
              have H := H1
              clear H1
              obtain rfl := Option.some.inj H
              go_wp2
              go_ret
              exact ⟨by first | rfl | (simp [errW_none, errW_some] <;> rfl) | (simp [*, errW_none, errW_some] <;> rfl), by repeat (first | (with_reducible first | exact HB.out | apply below_alloc | apply pw_below_drewN | apply below_drew1) | exact HB.out)⟩
             ·replace c47 := Bool.eq_false_iff.mpr c47
              subst c47
              have H1 : ((nat_Cmp.f kj42 l0 l1).bind fun bt987 => ((nat_Add.f kj42 l0 l1).bind fun bt989 => ((nat_Sub.f kj42 l0 l1).bind fun bt993 => ((nat_Mul.f kj42 l0 l1).bind fun bt997 => ((nat_DivMod.f kj42 l0 l1).bind fun bt1001 => ((nat_GCD.f kj42 l0 l1).bind fun bt1008 => (if bt987.2 = 3 then (if bt989.2 = 3 then (if bt993.2 = 3 then (if bt997.2 = 3 then (if bt1001.2.2 = 3 then (if bt1008.2 = 3 then (isochronelaw01_NatForms.j3 kj42 l0 (decide ((wrap64 ((wrap64 ((wrap64 ((wrap64 ((wrap64 ((bt989.1.length : Int) + (bt993.1.length : Int))) + (bt997.1.length : Int))) + (bt1001.1.length : Int))) + (bt1001.2.1.length : Int))) + (bt1008.1.length : Int))) > 0))) else (isochronelaw01_NatForms.j3 kj42 l0 true)) else (isochronelaw01_NatForms.j3 kj42 l0 true)) else (isochronelaw01_NatForms.j3 kj42 l0 true)) else (isochronelaw01_NatForms.j3 kj42 l0 true)) else (isochronelaw01_NatForms.j3 kj42 l0 true)) else (isochronelaw01_NatForms.j3 kj42 l0 true)))))))) = some r := by rw [if_neg (show ¬ (false = true) by decide)] at H; exact H
              clear H
              have H := H1
              clear H1
              replace H := Option.bind_eq_some_iff.mp H
              obtain ⟨⟨t987, t988⟩, A480, H⟩ := H
              replace H : ((nat_Add.f kj42 l0 l1).bind fun bt989 => ((nat_Sub.f kj42 l0 l1).bind fun bt993 => ((nat_Mul.f kj42 l0 l1).bind fun bt997 => ((nat_DivMod.f kj42 l0 l1).bind fun bt1001 => ((nat_GCD.f kj42 l0 l1).bind fun bt1008 => (if t988 = 3 then (if bt989.2 = 3 then (if bt993.2 = 3 then (if bt997.2 = 3 then (if bt1001.2.2 = 3 then (if bt1008.2 = 3 then (isochronelaw01_NatForms.j3 kj42 l0 (decide ((wrap64 ((wrap64 ((wrap64 ((wrap64 ((wrap64 ((bt989.1.length : Int) + (bt993.1.length : Int))) + (bt997.1.length : Int))) + (bt1001.1.length : Int))) + (bt1001.2.1.length : Int))) + (bt1008.1.length : Int))) > 0))) else (isochronelaw01_NatForms.j3 kj42 l0 true)) else (isochronelaw01_NatForms.j3 kj42 l0 true)) else (isochronelaw01_NatForms.j3 kj42 l0 true)) else (isochronelaw01_NatForms.j3 kj42 l0 true)) else (isochronelaw01_NatForms.j3 kj42 l0 true)) else (isochronelaw01_NatForms.j3 kj42 l0 true))))))) = some r := H
              have A48 := Aside0.mk A480
              clear A480
              replace H := Option.bind_eq_some_iff.mp H
              obtain ⟨⟨t989, t990⟩, A490, H⟩ := H
              replace H : ((nat_Sub.f kj42 l0 l1).bind fun bt993 => ((nat_Mul.f kj42 l0 l1).bind fun bt997 => ((nat_DivMod.f kj42 l0 l1).bind fun bt1001 => ((nat_GCD.f kj42 l0 l1).bind fun bt1008 => (if t988 = 3 then (if t990 = 3 then (if bt993.2 = 3 then (if bt997.2 = 3 then (if bt1001.2.2 = 3 then (if bt1008.2 = 3 then (isochronelaw01_NatForms.j3 kj42 l0 (decide ((wrap64 ((wrap64 ((wrap64 ((wrap64 ((wrap64 ((t989.length : Int) + (bt993.1.length : Int))) + (bt997.1.length : Int))) + (bt1001.1.length : Int))) + (bt1001.2.1.length : Int))) + (bt1008.1.length : Int))) > 0))) else (isochronelaw01_NatForms.j3 kj42 l0 true)) else (isochronelaw01_NatForms.j3 kj42 l0 true)) else (isochronelaw01_NatForms.j3 kj42 l0 true)) else (isochronelaw01_NatForms.j3 kj42 l0 true)) else (isochronelaw01_NatForms.j3 kj42 l0 true)) else (isochronelaw01_NatForms.j3 kj42 l0 true)))))) = some r := H
              have A49 := Aside0.mk A490
              clear A490
              replace H := Option.bind_eq_some_iff.mp H
              obtain ⟨⟨t993, t994⟩, A500, H⟩ := H
              replace H : ((nat_Mul.f kj42 l0 l1).bind fun bt997 => ((nat_DivMod.f kj42 l0 l1).bind fun bt1001 => ((nat_GCD.f kj42 l0 l1).bind fun bt1008 => (if t988 = 3 then (if t990 = 3 then (if t994 = 3 then (if bt997.2 = 3 then (if bt1001.2.2 = 3 then (if bt1008.2 = 3 then (isochronelaw01_NatForms.j3 kj42 l0 (decide ((wrap64 ((wrap64 ((wrap64 ((wrap64 ((wrap64 ((t989.length : Int) + (t993.length : Int))) + (bt997.1.length : Int))) + (bt1001.1.length : Int))) + (bt1001.2.1.length : Int))) + (bt1008.1.length : Int))) > 0))) else (isochronelaw01_NatForms.j3 kj42 l0 true)) else (isochronelaw01_NatForms.j3 kj42 l0 true)) else (isochronelaw01_NatForms.j3 kj42 l0 true)) else (isochronelaw01_NatForms.j3 kj42 l0 true)) else (isochronelaw01_NatForms.j3 kj42 l0 true)) else (isochronelaw01_NatForms.j3 kj42 l0 true))))) = some r := H
              have A50 := Aside0.mk A500
              clear A500
              replace H := Option.bind_eq_some_iff.mp H
              obtain ⟨⟨t997, t998⟩, A510, H⟩ := H
              replace H : ((nat_DivMod.f kj42 l0 l1).bind fun bt1001 => ((nat_GCD.f kj42 l0 l1).bind fun bt1008 => (if t988 = 3 then (if t990 = 3 then (if t994 = 3 then (if t998 = 3 then (if bt1001.2.2 = 3 then (if bt1008.2 = 3 then (isochronelaw01_NatForms.j3 kj42 l0 (decide ((wrap64 ((wrap64 ((wrap64 ((wrap64 ((wrap64 ((t989.length : Int) + (t993.length : Int))) + (t997.length : Int))) + (bt1001.1.length : Int))) + (bt1001.2.1.length : Int))) + (bt1008.1.length : Int))) > 0))) else (isochronelaw01_NatForms.j3 kj42 l0 true)) else (isochronelaw01_NatForms.j3 kj42 l0 true)) else (isochronelaw01_NatForms.j3 kj42 l0 true)) else (isochronelaw01_NatForms.j3 kj42 l0 true)) else (isochronelaw01_NatForms.j3 kj42 l0 true)) else (isochronelaw01_NatForms.j3 kj42 l0 true)))) = some r := H
              have A51 := Aside0.mk A510
              clear A510
              replace H := Option.bind_eq_some_iff.mp H
              obtain ⟨⟨t1001, t1004, t1007⟩, A520, H⟩ := H
              replace H : ((nat_GCD.f kj42 l0 l1).bind fun bt1008 => (if t988 = 3 then (if t990 = 3 then (if t994 = 3 then (if t998 = 3 then (if t1007 = 3 then (if bt1008.2 = 3 then (isochronelaw01_NatForms.j3 kj42 l0 (decide ((wrap64 ((wrap64 ((wrap64 ((wrap64 ((wrap64 ((t989.length : Int) + (t993.length : Int))) + (t997.length : Int))) + (t1001.length : Int))) + (t1004.length : Int))) + (bt1008.1.length : Int))) > 0))) else (isochronelaw01_NatForms.j3 kj42 l0 true)) else (isochronelaw01_NatForms.j3 kj42 l0 true)) else (isochronelaw01_NatForms.j3 kj42 l0 true)) else (isochronelaw01_NatForms.j3 kj42 l0 true)) else (isochronelaw01_NatForms.j3 kj42 l0 true)) else (isochronelaw01_NatForms.j3 kj42 l0 true))) = some r := H
              have A52 := Aside0.mk A520
              clear A520
              replace H := Option.bind_eq_some_iff.mp H
              obtain ⟨⟨t1008, t1009⟩, A530, H⟩ := H
              replace H : (if t988 = 3 then (if t990 = 3 then (if t994 = 3 then (if t998 = 3 then (if t1007 = 3 then (if t1009 = 3 then (isochronelaw01_NatForms.j3 kj42 l0 (decide ((wrap64 ((wrap64 ((wrap64 ((wrap64 ((wrap64 ((t989.length : Int) + (t993.length : Int))) + (t997.length : Int))) + (t1001.length : Int))) + (t1004.length : Int))) + (t1008.length : Int))) > 0))) else (isochronelaw01_NatForms.j3 kj42 l0 true)) else (isochronelaw01_NatForms.j3 kj42 l0 true)) else (isochronelaw01_NatForms.j3 kj42 l0 true)) else (isochronelaw01_NatForms.j3 kj42 l0 true)) else (isochronelaw01_NatForms.j3 kj42 l0 true)) else (isochronelaw01_NatForms.j3 kj42 l0 true)) = some r := H
              have A53 := Aside0.mk A530
              clear A530
              have HC54 := Aside0.mk H
              clear H
              go_upto_region 16 with (first | ((with_reducible refine gate_callee (f := 34) rfl ?_); refine goesL_ (some 88) rfl rfl Try.func34 (by kernel_rfl) rfl #[.slice A0 l0.length c0, .slice A1 l1.length c1] rfl (by (try simp only [List.map_toArray, List.map_cons, List.map_nil]); first | done | rfl | (simp only [List.length_drop, List.length_take]; rfl)) ?_; (with_reducible refine (nat_Cmp.calls kj42 _ _ l0 _ _ l1 t987 t988 _ ?side1 ?side2 ?side3 ?side4 A48.out).mono ?_); (case side1 => repeat (first | exact (Kd.C_below HR0.out HB.out) | (with_reducible refine Kd.C_alloc ?_ _) | (with_reducible refine Kd.C_drewN ?_ _) | (with_reducible refine Kd.C_drew ?_))); (case side2 => exact HC0.out); (case side3 => repeat (first | exact (Kd.C_below HR1.out HB.out) | (with_reducible refine Kd.C_alloc ?_ _) | (with_reducible refine Kd.C_drewN ?_ _) | (with_reducible refine Kd.C_drew ?_))); (case side4 => exact HC1.out); rintro e w' ⟨rfl, ⟨nd, rfl⟩⟩; refine ⟨_, rfl, ?_⟩) | ((with_reducible refine gate_callee (f := 20) rfl ?_); refine goesL_ (some 94) rfl rfl Try.func20 (by kernel_rfl) rfl #[.slice A0 l0.length c0, .slice A1 l1.length c1] rfl (by (try simp only [List.map_toArray, List.map_cons, List.map_nil]); first | done | rfl | (simp only [List.length_drop, List.length_take]; rfl)) ?_; (with_reducible refine (nat_Add.calls kj42 _ _ l0 _ _ l1 t989 t990 _ ?side1 ?side2 ?side3 ?side4 A49.out).mono ?_); (case side1 => repeat (first | exact (Kd.C_below HR0.out (bB)) | (with_reducible refine Kd.C_alloc ?_ _) | (with_reducible refine Kd.C_drewN ?_ _) | (with_reducible refine Kd.C_drew ?_))); (case side2 => exact HC0.out); (case side3 => repeat (first | exact (Kd.C_below HR1.out (bB)) | (with_reducible refine Kd.C_alloc ?_ _) | (with_reducible refine Kd.C_drewN ?_ _) | (with_reducible refine Kd.C_drew ?_))); (case side4 => exact HC1.out); rintro e w55 ⟨v991, rfl, ho0, hb⟩; refine ⟨_, rfl, ?_⟩; have n0_ := Aside0.mk (Kd.R_lower ho0 (below_size (bB))); have n1_ := Aside0.mk (below_step (bB) hb); clear HB; have HO992 := n0_; have HB := n1_; clear n0_ n1_; (try clear hb); (try clear hb2); (try clear hk); (try clear hi); (try clear ho0)) | ((with_reducible refine gate_callee (f := 35) rfl ?_); refine goesL_ (some 100) rfl rfl Try.func35 (by kernel_rfl) rfl #[.slice A0 l0.length c0, .slice A1 l1.length c1] rfl (by (try simp only [List.map_toArray, List.map_cons, List.map_nil]); first | done | rfl | (simp only [List.length_drop, List.length_take]; rfl)) ?_; (with_reducible refine (nat_Sub.calls kj42 _ _ l0 _ _ l1 t993 t994 _ ?side1 ?side2 ?side3 ?side4 A50.out).mono ?_); (case side1 => repeat (first | exact (Kd.C_below HR0.out HB.out) | (with_reducible refine Kd.C_alloc ?_ _) | (with_reducible refine Kd.C_drewN ?_ _) | (with_reducible refine Kd.C_drew ?_))); (case side2 => exact HC0.out); (case side3 => repeat (first | exact (Kd.C_below HR1.out HB.out) | (with_reducible refine Kd.C_alloc ?_ _) | (with_reducible refine Kd.C_drewN ?_ _) | (with_reducible refine Kd.C_drew ?_))); (case side4 => exact HC1.out); rintro e w56 ⟨v995, rfl, ho0, hb⟩; refine ⟨_, rfl, ?_⟩; have n0_ := Aside0.mk (Kd.R_elder' (dR HO992.out) (Kd.R_base ho0) hb); have n1_ := Aside0.mk (Kd.R_lower (Kd.R_new' ho0 (Kd.R_lt (dR HO992.out))) (below_size (bB))); have n2_ := Aside0.mk (below_step (bB) hb); clear HO992 HB; have HO992 := n0_; have HO996 := n1_; have HB := n2_; clear n0_ n1_ n2_; (try clear hb); (try clear hb2); (try clear hk); (try clear hi); (try clear ho0)) | ((with_reducible refine gate_callee (f := 21) rfl ?_); refine goesL_ (some 106) rfl rfl Try.func21 (by kernel_rfl) rfl #[.slice A0 l0.length c0, .slice A1 l1.length c1] rfl (by (try simp only [List.map_toArray, List.map_cons, List.map_nil]); first | done | rfl | (simp only [List.length_drop, List.length_take]; rfl)) ?_; (with_reducible refine (nat_Mul.calls kj42 _ _ l0 _ _ l1 t997 t998 _ ?side1 ?side2 ?side3 ?side4 A51.out).mono ?_); (case side1 => repeat (first | exact (Kd.C_below HR0.out HB.out) | (with_reducible refine Kd.C_alloc ?_ _) | (with_reducible refine Kd.C_drewN ?_ _) | (with_reducible refine Kd.C_drew ?_))); (case side2 => exact HC0.out); (case side3 => repeat (first | exact (Kd.C_below HR1.out HB.out) | (with_reducible refine Kd.C_alloc ?_ _) | (with_reducible refine Kd.C_drewN ?_ _) | (with_reducible refine Kd.C_drew ?_))); (case side4 => exact HC1.out); rintro e w57 ⟨v999, rfl, ho0, hb⟩; refine ⟨_, rfl, ?_⟩; have n0_ := Aside0.mk (Kd.R_elder' (dR HO992.out) (Kd.R_base ho0) hb); have n1_ := Aside0.mk (Kd.R_elder' (dR HO996.out) (Kd.R_base ho0) hb); have n2_ := Aside0.mk (Kd.R_lower (Kd.R_new' (Kd.R_new' ho0 (Kd.R_lt (dR HO992.out))) (Kd.R_lt (dR HO996.out))) (below_size (bB))); have n3_ := Aside0.mk (below_step (bB) hb); clear HO992 HO996 HB; have HO992 := n0_; have HO996 := n1_; have HO1000 := n2_; have HB := n3_; clear n0_ n1_ n2_ n3_; (try clear hb); (try clear hb2); (try clear hk); (try clear hi); (try clear ho0)) | ((with_reducible refine gate_callee (f := 39) rfl ?_); refine goesL_ (some 112) rfl rfl Try.func39 (by kernel_rfl) rfl #[.slice A0 l0.length c0, .slice A1 l1.length c1] rfl (by (try simp only [List.map_toArray, List.map_cons, List.map_nil]); first | done | rfl | (simp only [List.length_drop, List.length_take]; rfl)) ?_; (with_reducible refine (nat_DivMod.calls kj42 _ _ l0 _ _ l1 t1001 t1004 t1007 _ ?side1 ?side2 ?side3 ?side4 A52.out).mono ?_); (case side1 => repeat (first | exact (Kd.C_below HR0.out HB.out) | (with_reducible refine Kd.C_alloc ?_ _) | (with_reducible refine Kd.C_drewN ?_ _) | (with_reducible refine Kd.C_drew ?_))); (case side2 => exact HC0.out); (case side3 => repeat (first | exact (Kd.C_below HR1.out HB.out) | (with_reducible refine Kd.C_alloc ?_ _) | (with_reducible refine Kd.C_drewN ?_ _) | (with_reducible refine Kd.C_drew ?_))); (case side4 => exact HC1.out); rintro e w58 ⟨v1002, v1005, rfl, ho0, ho1, hb⟩; refine ⟨_, rfl, ?_⟩; have n0_ := Aside0.mk (Kd.R_below (dR HO992.out) hb); have n1_ := Aside0.mk (Kd.R_below (dR HO996.out) hb); have n2_ := Aside0.mk (Kd.R_below (dR HO1000.out) hb); have n3_ := Aside0.mk (Kd.V_lower (Kd.V_mono (ok' := fun k_ => some k_ ≠ (v991 : Value).ownBlock ∧ some k_ ≠ (v995 : Value).ownBlock ∧ some k_ ≠ (v999 : Value).ownBlock) ho0 (fun k_ hk_ => ⟨(Kd.fresh' (Kd.R_lt (dR HO992.out)) k_ hk_), (Kd.fresh' (Kd.R_lt (dR HO996.out)) k_ hk_), (Kd.fresh' (Kd.R_lt (dR HO1000.out)) k_ hk_)⟩)) (below_size (bB))); have n4_ := Aside0.mk (Kd.V_lower (Kd.V_mono (ok' := fun k_ => some k_ ≠ (v991 : Value).ownBlock ∧ some k_ ≠ (v995 : Value).ownBlock ∧ some k_ ≠ (v999 : Value).ownBlock) ho1 (fun k_ hk_ => ⟨(Kd.fresh' (Kd.R_lt (dR HO992.out)) k_ hk_), (Kd.fresh' (Kd.R_lt (dR HO996.out)) k_ hk_), (Kd.fresh' (Kd.R_lt (dR HO1000.out)) k_ hk_)⟩)) (below_size (bB))); have n5_ := Aside0.mk (below_step (bB) hb); clear HO992 HO996 HO1000 HB; have HO992 := n0_; have HO996 := n1_; have HO1000 := n2_; have HO1003 := n3_; have HO1006 := n4_; have HB := n5_; clear n0_ n1_ n2_ n3_ n4_ n5_; (try clear hb); (try clear hb2); (try clear hk); (try clear hi); (try clear ho0); (try clear ho1)) | ((with_reducible refine gate_callee (f := 40) rfl ?_); refine goesL_ (some 119) rfl rfl Try.func40 (by kernel_rfl) rfl #[.slice A0 l0.length c0, .slice A1 l1.length c1] rfl (by (try simp only [List.map_toArray, List.map_cons, List.map_nil]); first | done | rfl | (simp only [List.length_drop, List.length_take]; rfl)) ?_; (with_reducible refine (nat_GCD.calls kj42 _ _ l0 _ _ l1 t1008 t1009 _ ?side1 ?side2 ?side3 ?side4 A53.out).mono ?_); (case side1 => repeat (first | exact (Kd.C_below HR0.out HB.out) | (with_reducible refine Kd.C_alloc ?_ _) | (with_reducible refine Kd.C_drewN ?_ _) | (with_reducible refine Kd.C_drew ?_))); (case side2 => exact HC0.out); (case side3 => repeat (first | exact (Kd.C_below HR1.out HB.out) | (with_reducible refine Kd.C_alloc ?_ _) | (with_reducible refine Kd.C_drewN ?_ _) | (with_reducible refine Kd.C_drew ?_))); (case side4 => exact HC1.out); rintro e w59 ⟨v1010, rfl, ho0, hb⟩; refine ⟨_, rfl, ?_⟩; have n0_ := Aside0.mk (Kd.R_elder' (dR HO992.out) (Kd.R_base ho0) hb); have n1_ := Aside0.mk (Kd.R_elder' (dR HO996.out) (Kd.R_base ho0) hb); have n2_ := Aside0.mk (Kd.R_elder' (dR HO1000.out) (Kd.R_base ho0) hb); have n3_ := Aside0.mk (Kd.V_elder' (dV HO1003.out) (Kd.R_base ho0) hb); have n4_ := Aside0.mk (Kd.V_elder' (dV HO1006.out) (Kd.R_base ho0) hb); have n5_ := Aside0.mk (Kd.R_lower (Kd.R_new' (Kd.R_new' (Kd.R_new' ho0 (Kd.R_lt (dR HO992.out))) (Kd.R_lt (dR HO996.out))) (Kd.R_lt (dR HO1000.out))) (below_size (bB))); have n6_ := Aside0.mk (below_step (bB) hb); clear HO992 HO996 HO1000 HO1003 HO1006 HB; have HO992 := n0_; have HO996 := n1_; have HO1000 := n2_; have HO1003 := n3_; have HO1006 := n4_; have HO1011 := n5_; have HB := n6_; clear n0_ n1_ n2_ n3_ n4_ n5_ n6_; (try clear hb); (try clear hb2); (try clear hk); (try clear hi); (try clear ho0)))
              (try simp only [Act.put, List.setIfInBounds_toArray, List.set_cons_zero, List.set_cons_succ])
              go_cut [163] (fun v163 wc => ∃ (kq : Nat) (x163_53 : Bool), v163 = .bool x163_53 ∧ Aside0 (isochronelaw01_NatForms.j3 kq l0 x163_53 = some r) ∧ Aside0 (kq ≤ kj42) ∧ Aside0 (Below w.heap.size w wc))
              case first =>
               have H := HC54.out
               clear HC54
               by_cases c60 : t988 = 3
               ·rw [if_pos c60] at H
                have c60b0 : (t988 == 3) = true := beq_iff_eq.mpr c60
                have c60b1 : (t988 != 3) = false := bne_eq_false_iff_eq.mpr c60
                clear c60
                (first | rw [c60b0] | (simp only [i64_w, i32_w]; rw [c60b0]) | rw [c60b1] | skip)
                by_cases c61 : t990 = 3
                ·rw [if_pos c61] at H
                 have c61b0 : (t990 == 3) = true := beq_iff_eq.mpr c61
                 have c61b1 : (t990 != 3) = false := bne_eq_false_iff_eq.mpr c61
                 clear c61
                 by_cases c62 : t994 = 3
                 ·rw [if_pos c62] at H
                  have c62b0 : (t994 == 3) = true := beq_iff_eq.mpr c62
                  have c62b1 : (t994 != 3) = false := bne_eq_false_iff_eq.mpr c62
                  clear c62
                  by_cases c63 : t998 = 3
                  ·rw [if_pos c63] at H
                   have c63b0 : (t998 == 3) = true := beq_iff_eq.mpr c63
                   have c63b1 : (t998 != 3) = false := bne_eq_false_iff_eq.mpr c63
                   clear c63
                   by_cases c64 : t1007 = 3
                   ·rw [if_pos c64] at H
                    have c64b0 : (t1007 == 3) = true := beq_iff_eq.mpr c64
                    have c64b1 : (t1007 != 3) = false := bne_eq_false_iff_eq.mpr c64
                    clear c64
                    by_cases c65 : t1009 = 3
                    ·rw [if_pos c65] at H
                     have c65b0 : (t1009 == 3) = true := beq_iff_eq.mpr c65
                     have c65b1 : (t1009 != 3) = false := bne_eq_false_iff_eq.mpr c65
                     clear c65
                     have H' := Aside0.mk H
                     clear H
                     obtain ⟨Ao66, co66, eo66⟩ := Kd.R_slice HO992.out
                     subst eo66
                     obtain ⟨Ao67, co67, eo67⟩ := Kd.R_slice HO996.out
                     subst eo67
                     obtain ⟨Ao68, co68, eo68⟩ := Kd.R_slice HO1000.out
                     subst eo68
                     obtain ⟨Ao69, co69, eo69⟩ := Kd.V_slice HO1003.out
                     subst eo69
                     obtain ⟨Ao70, co70, eo70⟩ := Kd.V_slice HO1006.out
                     subst eo70
                     obtain ⟨Ao71, co71, eo71⟩ := Kd.R_slice HO1011.out
                     subst eo71
                     go_wp2
                     go_meet
                     case rel => exact ⟨_, (decide ((wrap64 ((wrap64 ((wrap64 ((wrap64 ((wrap64 ((t989.length : Int) + (t993.length : Int))) + (t997.length : Int))) + (t1001.length : Int))) + (t1004.length : Int))) + (t1008.length : Int))) > 0)), (by first | rfl | (simp; done) | (simp [*]; done)), H', ⟨by have := HJ5.out; have := HJ14.out; have := HJ42.out; first | omega | exact Nat.le_refl _⟩, ⟨by repeat (first | (with_reducible first | exact HB.out | apply below_alloc | apply pw_below_drewN | apply below_drew1) | exact HB.out)⟩⟩
                    ·rw [if_neg c65] at H
                     have c65b0 : (t1009 == 3) = false := beq_eq_false_iff_ne.mpr c65
                     have c65b1 : (t1009 != 3) = true := bne_iff_ne.mpr c65
                     have H' := Aside0.mk H
                     clear H
                     go_wp2
                     go_meet
                     case rel => exact ⟨_, (true), (by first | rfl | (simp; done) | (simp [*]; done)), H', ⟨by have := HJ5.out; have := HJ14.out; have := HJ42.out; first | omega | exact Nat.le_refl _⟩, ⟨by repeat (first | (with_reducible first | exact HB.out | apply below_alloc | apply pw_below_drewN | apply below_drew1) | exact HB.out)⟩⟩
                   ·rw [if_neg c64] at H
                    have c64b0 : (t1007 == 3) = false := beq_eq_false_iff_ne.mpr c64
                    have c64b1 : (t1007 != 3) = true := bne_iff_ne.mpr c64
                    have H' := Aside0.mk H
                    clear H
                    go_wp2
                    go_meet
                    case rel => exact ⟨_, (true), (by first | rfl | (simp; done) | (simp [*]; done)), H', ⟨by have := HJ5.out; have := HJ14.out; have := HJ42.out; first | omega | exact Nat.le_refl _⟩, ⟨by repeat (first | (with_reducible first | exact HB.out | apply below_alloc | apply pw_below_drewN | apply below_drew1) | exact HB.out)⟩⟩
                  ·rw [if_neg c63] at H
                   have c63b0 : (t998 == 3) = false := beq_eq_false_iff_ne.mpr c63
                   have c63b1 : (t998 != 3) = true := bne_iff_ne.mpr c63
                   have H' := Aside0.mk H
                   clear H
                   go_wp2
                   go_meet
                   case rel => exact ⟨_, (true), (by first | rfl | (simp; done) | (simp [*]; done)), H', ⟨by have := HJ5.out; have := HJ14.out; have := HJ42.out; first | omega | exact Nat.le_refl _⟩, ⟨by repeat (first | (with_reducible first | exact HB.out | apply below_alloc | apply pw_below_drewN | apply below_drew1) | exact HB.out)⟩⟩
                 ·rw [if_neg c62] at H
                  have c62b0 : (t994 == 3) = false := beq_eq_false_iff_ne.mpr c62
                  have c62b1 : (t994 != 3) = true := bne_iff_ne.mpr c62
                  have H' := Aside0.mk H
                  clear H
                  go_wp2
                  go_meet
                  case rel => exact ⟨_, (true), (by first | rfl | (simp; done) | (simp [*]; done)), H', ⟨by have := HJ5.out; have := HJ14.out; have := HJ42.out; first | omega | exact Nat.le_refl _⟩, ⟨by repeat (first | (with_reducible first | exact HB.out | apply below_alloc | apply pw_below_drewN | apply below_drew1) | exact HB.out)⟩⟩
                ·rw [if_neg c61] at H
                 have c61b0 : (t990 == 3) = false := beq_eq_false_iff_ne.mpr c61
                 have c61b1 : (t990 != 3) = true := bne_iff_ne.mpr c61
                 have H' := Aside0.mk H
                 clear H
                 go_wp2
                 go_meet
                 case rel => exact ⟨_, (true), (by first | rfl | (simp; done) | (simp [*]; done)), H', ⟨by have := HJ5.out; have := HJ14.out; have := HJ42.out; first | omega | exact Nat.le_refl _⟩, ⟨by repeat (first | (with_reducible first | exact HB.out | apply below_alloc | apply pw_below_drewN | apply below_drew1) | exact HB.out)⟩⟩
               ·rw [if_neg c60] at H
                have c60b0 : (t988 == 3) = false := beq_eq_false_iff_ne.mpr c60
                have c60b1 : (t988 != 3) = true := bne_iff_ne.mpr c60
                (first | rw [c60b0] | (simp only [i64_w, i32_w]; rw [c60b0]) | rw [c60b1] | skip)
                have H' := Aside0.mk H
                clear H
                go_wp2
                go_meet
                case rel => exact ⟨_, (true), (by first | rfl | (simp; done) | (simp [*]; done)), H', ⟨by have := HJ5.out; have := HJ14.out; have := HJ42.out; first | omega | exact Nat.le_refl _⟩, ⟨by repeat (first | (with_reducible first | exact HB.out | apply below_alloc | apply pw_below_drewN | apply below_drew1) | exact HB.out)⟩⟩
              case rest =>
               as_aux_lemma =>
                clear HC54
                try clear c1
                try clear c2
                try clear p2
                try clear c3
                try clear c4
                try clear c5
                try clear c6
                try clear p6
                try clear c8
                try clear c8b0
                try clear c8b1
                try clear c9
                try clear c10
                try clear c11
                try clear c14
                try clear c17
                try clear c20
                try clear c21
                try clear c27
                try clear c30
                try clear c30b0
                try clear c30b1
                try clear c30b2
                try clear c31
                try clear c34
                try clear c35
                try clear c39
                try clear c40
                try clear c42
                try clear c43
                try clear c44
                try clear c45
                try clear c47
                try clear c60
                try clear c60b0
                try clear c60b1
                try clear c61
                try clear c61b0
                try clear c61b1
                try clear c62
                try clear c62b0
                try clear c62b1
                try clear c63
                try clear c63b0
                try clear c63b1
                try clear c64
                try clear c64b0
                try clear c64b1
                try clear p64
                try clear c65
                try clear c65b0
                try clear c65b1
                try clear p2
                try clear p6
                obtain ⟨kq, x163_53, rfl, HA, HJ53, HB⟩ := hcut
                cases kq with
                | zero => exact absurd HA.out (by simp [isochronelaw01_NatForms.j3])
                | succ kj53 =>
                 have H := HA.out
                 clear HA
                 simp only [isochronelaw01_NatForms.j3] at H
                 by_cases c72 : x163_53 = true
                 ·subst c72
                  have H1 : (some false) = some r := by rw [if_pos rfl] at H; exact H
                  clear H
                  have H := H1
                  clear H1
                  obtain rfl := Option.some.inj H
                  go_wp2
                  go_ret
                  exact ⟨by first | rfl | (simp [errW_none, errW_some] <;> rfl) | (simp [*, errW_none, errW_some] <;> rfl), by repeat (first | (with_reducible first | exact HB.out | apply below_alloc | apply pw_below_drewN | apply below_drew1) | exact HB.out)⟩
                 ·replace c72 := Bool.eq_false_iff.mpr c72
                  subst c72
                  have H1 : ((isochroneref01_Valid.f l0).bind fun t1012 => (if t1012 = true then (some true) else ((nat_Pow.f kj53 l0 2).bind fun bt1013 => ((nat_Shift.f kj53 l0 1).bind fun bt1017 => ((nat_Bits.f l0).bind fun bt1021 => ((nat_Root.f kj53 l0).bind fun bt1023 => ((nat_Text.f kj53 l0).bind fun bt1027 => (if bt1013.2 = 3 then (if bt1017.2 = 3 then (if bt1021.2 = 3 then (if bt1023.2 = 3 then (if bt1027.2 = 3 then (some ((wrap64 ((wrap64 ((wrap64 ((wrap64 ((bt1013.1.length : Int) + (bt1017.1.length : Int))) + bt1021.1)) + (bt1023.1.length : Int))) + (bt1027.1.size : Int))) == 0)) else (some false)) else (some false)) else (some false)) else (some false)) else (some false))))))))) = some r := by rw [if_neg (show ¬ (false = true) by decide)] at H; exact H
                  clear H
                  have H := H1
                  clear H1
                  replace H := Option.bind_eq_some_iff.mp H
                  obtain ⟨t1012, A730, H⟩ := H
                  replace H : (if t1012 = true then (some true) else ((nat_Pow.f kj53 l0 2).bind fun bt1013 => ((nat_Shift.f kj53 l0 1).bind fun bt1017 => ((nat_Bits.f l0).bind fun bt1021 => ((nat_Root.f kj53 l0).bind fun bt1023 => ((nat_Text.f kj53 l0).bind fun bt1027 => (if bt1013.2 = 3 then (if bt1017.2 = 3 then (if bt1021.2 = 3 then (if bt1023.2 = 3 then (if bt1027.2 = 3 then (some ((wrap64 ((wrap64 ((wrap64 ((wrap64 ((bt1013.1.length : Int) + (bt1017.1.length : Int))) + bt1021.1)) + (bt1023.1.length : Int))) + (bt1027.1.size : Int))) == 0)) else (some false)) else (some false)) else (some false)) else (some false)) else (some false)))))))) = some r := H
                  have A73 := Aside0.mk A730
                  clear A730
                  by_cases c74 : t1012 = true
                  ·subst c74
                   have H1 : (some true) = some r := by rw [if_pos rfl] at H; exact H
                   clear H
                   have H := H1
                   clear H1
                   obtain rfl := Option.some.inj H
                   go_wp2_with (first | ((with_reducible refine gate_callee (f := 14) rfl ?_); refine goesL_ (some 165) rfl rfl Try.func14 (by kernel_rfl) rfl #[.slice A0 l0.length c0] rfl (by (try simp only [List.map_toArray, List.map_cons, List.map_nil]); first | done | rfl | (simp only [List.length_drop, List.length_take]; rfl)) ?_; (with_reducible refine (isochroneref01_Valid.calls _ _ l0 true _ ?side1 ?side2 A73.out).mono ?_); (case side1 => repeat (first | exact (Kd.C_below HR0.out HB.out) | (with_reducible refine Kd.C_alloc ?_ _) | (with_reducible refine Kd.C_drewN ?_ _) | (with_reducible refine Kd.C_drew ?_))); (case side2 => exact HC0.out); rintro e w' ⟨rfl, ⟨nd, rfl⟩⟩; refine ⟨_, rfl, ?_⟩))
                   go_ret
                   exact ⟨by first | rfl | (simp [errW_none, errW_some] <;> rfl) | (simp [*, errW_none, errW_some] <;> rfl), by repeat (first | (with_reducible first | exact HB.out | apply below_alloc | apply pw_below_drewN | apply below_drew1) | exact HB.out)⟩
                  ·replace c74 := Bool.eq_false_iff.mpr c74
                   subst c74
                   have H1 : ((nat_Pow.f kj53 l0 2).bind fun bt1013 => ((nat_Shift.f kj53 l0 1).bind fun bt1017 => ((nat_Bits.f l0).bind fun bt1021 => ((nat_Root.f kj53 l0).bind fun bt1023 => ((nat_Text.f kj53 l0).bind fun bt1027 => (if bt1013.2 = 3 then (if bt1017.2 = 3 then (if bt1021.2 = 3 then (if bt1023.2 = 3 then (if bt1027.2 = 3 then (some ((wrap64 ((wrap64 ((wrap64 ((wrap64 ((bt1013.1.length : Int) + (bt1017.1.length : Int))) + bt1021.1)) + (bt1023.1.length : Int))) + (bt1027.1.size : Int))) == 0)) else (some false)) else (some false)) else (some false)) else (some false)) else (some false))))))) = some r := by rw [if_neg (show ¬ (false = true) by decide)] at H; exact H
                   clear H
                   have H := H1
                   clear H1
                   replace H := Option.bind_eq_some_iff.mp H
                   obtain ⟨⟨t1013, t1014⟩, A750, H⟩ := H
                   replace H : ((nat_Shift.f kj53 l0 1).bind fun bt1017 => ((nat_Bits.f l0).bind fun bt1021 => ((nat_Root.f kj53 l0).bind fun bt1023 => ((nat_Text.f kj53 l0).bind fun bt1027 => (if t1014 = 3 then (if bt1017.2 = 3 then (if bt1021.2 = 3 then (if bt1023.2 = 3 then (if bt1027.2 = 3 then (some ((wrap64 ((wrap64 ((wrap64 ((wrap64 ((t1013.length : Int) + (bt1017.1.length : Int))) + bt1021.1)) + (bt1023.1.length : Int))) + (bt1027.1.size : Int))) == 0)) else (some false)) else (some false)) else (some false)) else (some false)) else (some false)))))) = some r := H
                   have A75 := Aside0.mk A750
                   clear A750
                   replace H := Option.bind_eq_some_iff.mp H
                   obtain ⟨⟨t1017, t1018⟩, A760, H⟩ := H
                   replace H : ((nat_Bits.f l0).bind fun bt1021 => ((nat_Root.f kj53 l0).bind fun bt1023 => ((nat_Text.f kj53 l0).bind fun bt1027 => (if t1014 = 3 then (if t1018 = 3 then (if bt1021.2 = 3 then (if bt1023.2 = 3 then (if bt1027.2 = 3 then (some ((wrap64 ((wrap64 ((wrap64 ((wrap64 ((t1013.length : Int) + (t1017.length : Int))) + bt1021.1)) + (bt1023.1.length : Int))) + (bt1027.1.size : Int))) == 0)) else (some false)) else (some false)) else (some false)) else (some false)) else (some false))))) = some r := H
                   have A76 := Aside0.mk A760
                   clear A760
                   replace H := Option.bind_eq_some_iff.mp H
                   obtain ⟨⟨t1021, t1022⟩, A770, H⟩ := H
                   replace H : ((nat_Root.f kj53 l0).bind fun bt1023 => ((nat_Text.f kj53 l0).bind fun bt1027 => (if t1014 = 3 then (if t1018 = 3 then (if t1022 = 3 then (if bt1023.2 = 3 then (if bt1027.2 = 3 then (some ((wrap64 ((wrap64 ((wrap64 ((wrap64 ((t1013.length : Int) + (t1017.length : Int))) + t1021)) + (bt1023.1.length : Int))) + (bt1027.1.size : Int))) == 0)) else (some false)) else (some false)) else (some false)) else (some false)) else (some false)))) = some r := H
                   have A77 := Aside0.mk A770
                   clear A770
                   replace H := Option.bind_eq_some_iff.mp H
                   obtain ⟨⟨t1023, t1024⟩, A780, H⟩ := H
                   replace H : ((nat_Text.f kj53 l0).bind fun bt1027 => (if t1014 = 3 then (if t1018 = 3 then (if t1022 = 3 then (if t1024 = 3 then (if bt1027.2 = 3 then (some ((wrap64 ((wrap64 ((wrap64 ((wrap64 ((t1013.length : Int) + (t1017.length : Int))) + t1021)) + (t1023.length : Int))) + (bt1027.1.size : Int))) == 0)) else (some false)) else (some false)) else (some false)) else (some false)) else (some false))) = some r := H
                   have A78 := Aside0.mk A780
                   clear A780
                   replace H := Option.bind_eq_some_iff.mp H
                   obtain ⟨⟨t1027, t1028⟩, A790, H⟩ := H
                   replace H : (if t1014 = 3 then (if t1018 = 3 then (if t1022 = 3 then (if t1024 = 3 then (if t1028 = 3 then (some ((wrap64 ((wrap64 ((wrap64 ((wrap64 ((t1013.length : Int) + (t1017.length : Int))) + t1021)) + (t1023.length : Int))) + (t1027.size : Int))) == 0)) else (some false)) else (some false)) else (some false)) else (some false)) else (some false)) = some r := H
                   have A79 := Aside0.mk A790
                   clear A790
                   by_cases c80 : t1014 = 3
                   ·rw [if_pos c80] at H
                    have c80b0 : (t1014 == 3) = true := beq_iff_eq.mpr c80
                    have c80b1 : (t1014 != 3) = false := bne_eq_false_iff_eq.mpr c80
                    clear c80
                    by_cases c81 : t1018 = 3
                    ·rw [if_pos c81] at H
                     have c81b0 : (t1018 == 3) = true := beq_iff_eq.mpr c81
                     have c81b1 : (t1018 != 3) = false := bne_eq_false_iff_eq.mpr c81
                     clear c81
                     by_cases c82 : t1022 = 3
                     ·rw [if_pos c82] at H
                      have c82b0 : (t1022 == 3) = true := beq_iff_eq.mpr c82
                      have c82b1 : (t1022 != 3) = false := bne_eq_false_iff_eq.mpr c82
                      clear c82
                      by_cases c83 : t1024 = 3
                      ·rw [if_pos c83] at H
                       have c83b0 : (t1024 == 3) = true := beq_iff_eq.mpr c83
                       have c83b1 : (t1024 != 3) = false := bne_eq_false_iff_eq.mpr c83
                       clear c83
                       by_cases c84 : t1028 = 3
                       ·rw [if_pos c84] at H
                        have c84b0 : (t1028 == 3) = true := beq_iff_eq.mpr c84
                        have c84b1 : (t1028 != 3) = false := bne_eq_false_iff_eq.mpr c84
                        clear c84
                        obtain rfl := Option.some.inj H
                        go_wp2_with (first | ((with_reducible refine gate_callee (f := 14) rfl ?_); refine goesL_ (some 165) rfl rfl Try.func14 (by kernel_rfl) rfl #[.slice A0 l0.length c0] rfl (by (try simp only [List.map_toArray, List.map_cons, List.map_nil]); first | done | rfl | (simp only [List.length_drop, List.length_take]; rfl)) ?_; (with_reducible refine (isochroneref01_Valid.calls _ _ l0 false _ ?side1 ?side2 A73.out).mono ?_); (case side1 => repeat (first | exact (Kd.C_below HR0.out HB.out) | (with_reducible refine Kd.C_alloc ?_ _) | (with_reducible refine Kd.C_drewN ?_ _) | (with_reducible refine Kd.C_drew ?_))); (case side2 => exact HC0.out); rintro e w' ⟨rfl, ⟨nd, rfl⟩⟩; refine ⟨_, rfl, ?_⟩) | ((with_reducible refine gate_callee (f := 37) rfl ?_); refine goesL_ (some 168) rfl rfl Try.func37 (by kernel_rfl) rfl #[.slice A0 l0.length c0, .int .i64 2] rfl (by (try simp only [List.map_toArray, List.map_cons, List.map_nil]); first | done | rfl | (simp only [List.length_drop, List.length_take]; rfl)) ?_; (with_reducible refine (nat_Pow.calls kj53 _ _ l0 2 t1013 t1014 _ ?side1 ?side2 A75.out).mono ?_); (case side1 => repeat (first | exact (Kd.C_below HR0.out (bB)) | (with_reducible refine Kd.C_alloc ?_ _) | (with_reducible refine Kd.C_drewN ?_ _) | (with_reducible refine Kd.C_drew ?_))); (case side2 => exact HC0.out); rintro e w85 ⟨v1015, rfl, ho0, hb⟩; refine ⟨_, rfl, ?_⟩; have n0_ := Aside0.mk (Kd.R_lower ho0 (below_size (bB))); have n1_ := Aside0.mk (below_step (bB) hb); clear HB; have HO1016 := n0_; have HB := n1_; clear n0_ n1_; (try clear hb); (try clear hb2); (try clear hk); (try clear hi); (try clear ho0)) | ((with_reducible refine gate_callee (f := 22) rfl ?_); refine goesL_ (some 173) rfl rfl Try.func22 (by kernel_rfl) rfl #[.slice A0 l0.length c0, .int .i64 1] rfl (by (try simp only [List.map_toArray, List.map_cons, List.map_nil]); first | done | rfl | (simp only [List.length_drop, List.length_take]; rfl)) ?_; (with_reducible refine (nat_Shift.calls kj53 _ _ l0 1 t1017 t1018 _ ?side1 ?side2 A76.out).mono ?_); (case side1 => repeat (first | exact (Kd.C_below HR0.out HB.out) | (with_reducible refine Kd.C_alloc ?_ _) | (with_reducible refine Kd.C_drewN ?_ _) | (with_reducible refine Kd.C_drew ?_))); (case side2 => exact HC0.out); rintro e w86 ⟨v1019, rfl, ho0, hb⟩; refine ⟨_, rfl, ?_⟩; have n0_ := Aside0.mk (Kd.R_elder' (dR HO1016.out) (Kd.R_base ho0) hb); have n1_ := Aside0.mk (Kd.R_lower (Kd.R_new' ho0 (Kd.R_lt (dR HO1016.out))) (below_size (bB))); have n2_ := Aside0.mk (below_step (bB) hb); clear HO1016 HB; have HO1016 := n0_; have HO1020 := n1_; have HB := n2_; clear n0_ n1_ n2_; (try clear hb); (try clear hb2); (try clear hk); (try clear hi); (try clear ho0)) | ((with_reducible refine gate_callee (f := 23) rfl ?_); refine goesL_ (some 178) rfl rfl Try.func23 (by kernel_rfl) rfl #[.slice A0 l0.length c0] rfl (by (try simp only [List.map_toArray, List.map_cons, List.map_nil]); first | done | rfl | (simp only [List.length_drop, List.length_take]; rfl)) ?_; (with_reducible refine (nat_Bits.calls _ _ l0 t1021 t1022 _ ?side1 ?side2 A77.out).mono ?_); (case side1 => repeat (first | exact (Kd.C_below HR0.out HB.out) | (with_reducible refine Kd.C_alloc ?_ _) | (with_reducible refine Kd.C_drewN ?_ _) | (with_reducible refine Kd.C_drew ?_))); (case side2 => exact HC0.out); rintro e w' ⟨rfl, ⟨nd, rfl⟩⟩; refine ⟨_, rfl, ?_⟩) | ((with_reducible refine gate_callee (f := 13) rfl ?_); refine goesL_ (some 183) rfl rfl Try.func13 (by kernel_rfl) rfl #[.slice A0 l0.length c0] rfl (by (try simp only [List.map_toArray, List.map_cons, List.map_nil]); first | done | rfl | (simp only [List.length_drop, List.length_take]; rfl)) ?_; (with_reducible refine (nat_Root.calls kj53 _ _ l0 t1023 t1024 _ ?side1 ?side2 A78.out).mono ?_); (case side1 => repeat (first | exact (Kd.C_below HR0.out (bB)) | (with_reducible refine Kd.C_alloc ?_ _) | (with_reducible refine Kd.C_drewN ?_ _) | (with_reducible refine Kd.C_drew ?_))); (case side2 => exact HC0.out); rintro e w87 ⟨v1025, rfl, ho0, hb⟩; refine ⟨_, rfl, ?_⟩; have n0_ := Aside0.mk (Kd.R_elder' (dR HO1016.out) (Kd.R_base ho0) hb); have n1_ := Aside0.mk (Kd.R_elder' (dR HO1020.out) (Kd.R_base ho0) hb); have n2_ := Aside0.mk (Kd.R_lower (Kd.R_new' (Kd.R_new' ho0 (Kd.R_lt (dR HO1016.out))) (Kd.R_lt (dR HO1020.out))) (below_size (bB))); have n3_ := Aside0.mk (below_step (bB) hb); clear HO1016 HO1020 HB; have HO1016 := n0_; have HO1020 := n1_; have HO1026 := n2_; have HB := n3_; clear n0_ n1_ n2_ n3_; (try clear hb); (try clear hb2); (try clear hk); (try clear hi); (try clear ho0)) | ((with_reducible refine gate_callee (f := 28) rfl ?_); refine goesL_ (some 188) rfl rfl Try.func28 (by kernel_rfl) rfl #[.slice A0 l0.length c0] rfl (by (try simp only [List.map_toArray, List.map_cons, List.map_nil]); first | done | rfl | (simp only [List.length_drop, List.length_take]; rfl)) ?_; (with_reducible refine (nat_Text.calls kj53 (fun k_ => k_ < w.heap.size) _ _ l0 t1027 t1028 _ ?side1 A79.out).mono ?_); (case side1 => exact Kd.V_mk HC0.out (Kd.F_below (Kd.C_F (Kd.heap_int .u32) HR0.out) (bB))); rintro e w88 ⟨rfl, hb⟩; refine ⟨_, rfl, ?_⟩; have n0_ := Aside0.mk (Kd.R_below (dR HO1016.out) hb); have n1_ := Aside0.mk (Kd.R_below (dR HO1020.out) hb); have n2_ := Aside0.mk (Kd.R_below (dR HO1026.out) hb); have n3_ := Aside0.mk (below_step (bB) hb); clear HO1016 HO1020 HO1026 HB; have HO1016 := n0_; have HO1020 := n1_; have HO1026 := n2_; have HB := n3_; clear n0_ n1_ n2_ n3_; (try clear hb); (try clear hb2); (try clear hk); (try clear hi); obtain ⟨Ao89, co89, eo89⟩ := Kd.R_slice HO1016.out; subst eo89; obtain ⟨Ao90, co90, eo90⟩ := Kd.R_slice HO1020.out; subst eo90; obtain ⟨Ao91, co91, eo91⟩ := Kd.R_slice HO1026.out; subst eo91))
                        go_ret
                        exact ⟨by first | rfl | (simp [errW_none, errW_some] <;> rfl) | (simp [*, errW_none, errW_some] <;> rfl), by repeat (first | (with_reducible first | exact HB.out | apply below_alloc | apply pw_below_drewN | apply below_drew1) | exact HB.out)⟩
                       ·rw [if_neg c84] at H
                        have c84b0 : (t1028 == 3) = false := beq_eq_false_iff_ne.mpr c84
                        have c84b1 : (t1028 != 3) = true := bne_iff_ne.mpr c84
                        obtain rfl := Option.some.inj H
                        go_wp2_with (first | ((with_reducible refine gate_callee (f := 14) rfl ?_); refine goesL_ (some 165) rfl rfl Try.func14 (by kernel_rfl) rfl #[.slice A0 l0.length c0] rfl (by (try simp only [List.map_toArray, List.map_cons, List.map_nil]); first | done | rfl | (simp only [List.length_drop, List.length_take]; rfl)) ?_; (with_reducible refine (isochroneref01_Valid.calls _ _ l0 false _ ?side1 ?side2 A73.out).mono ?_); (case side1 => repeat (first | exact (Kd.C_below HR0.out HB.out) | (with_reducible refine Kd.C_alloc ?_ _) | (with_reducible refine Kd.C_drewN ?_ _) | (with_reducible refine Kd.C_drew ?_))); (case side2 => exact HC0.out); rintro e w' ⟨rfl, ⟨nd, rfl⟩⟩; refine ⟨_, rfl, ?_⟩) | ((with_reducible refine gate_callee (f := 37) rfl ?_); refine goesL_ (some 168) rfl rfl Try.func37 (by kernel_rfl) rfl #[.slice A0 l0.length c0, .int .i64 2] rfl (by (try simp only [List.map_toArray, List.map_cons, List.map_nil]); first | done | rfl | (simp only [List.length_drop, List.length_take]; rfl)) ?_; (with_reducible refine (nat_Pow.calls kj53 _ _ l0 2 t1013 t1014 _ ?side1 ?side2 A75.out).mono ?_); (case side1 => repeat (first | exact (Kd.C_below HR0.out (bB)) | (with_reducible refine Kd.C_alloc ?_ _) | (with_reducible refine Kd.C_drewN ?_ _) | (with_reducible refine Kd.C_drew ?_))); (case side2 => exact HC0.out); rintro e w92 ⟨v1015, rfl, ho0, hb⟩; refine ⟨_, rfl, ?_⟩; have n0_ := Aside0.mk (Kd.R_lower ho0 (below_size (bB))); have n1_ := Aside0.mk (below_step (bB) hb); clear HB; have HO1016 := n0_; have HB := n1_; clear n0_ n1_; (try clear hb); (try clear hb2); (try clear hk); (try clear hi); (try clear ho0)) | ((with_reducible refine gate_callee (f := 22) rfl ?_); refine goesL_ (some 173) rfl rfl Try.func22 (by kernel_rfl) rfl #[.slice A0 l0.length c0, .int .i64 1] rfl (by (try simp only [List.map_toArray, List.map_cons, List.map_nil]); first | done | rfl | (simp only [List.length_drop, List.length_take]; rfl)) ?_; (with_reducible refine (nat_Shift.calls kj53 _ _ l0 1 t1017 t1018 _ ?side1 ?side2 A76.out).mono ?_); (case side1 => repeat (first | exact (Kd.C_below HR0.out HB.out) | (with_reducible refine Kd.C_alloc ?_ _) | (with_reducible refine Kd.C_drewN ?_ _) | (with_reducible refine Kd.C_drew ?_))); (case side2 => exact HC0.out); rintro e w93 ⟨v1019, rfl, ho0, hb⟩; refine ⟨_, rfl, ?_⟩; have n0_ := Aside0.mk (Kd.R_elder' (dR HO1016.out) (Kd.R_base ho0) hb); have n1_ := Aside0.mk (Kd.R_lower (Kd.R_new' ho0 (Kd.R_lt (dR HO1016.out))) (below_size (bB))); have n2_ := Aside0.mk (below_step (bB) hb); clear HO1016 HB; have HO1016 := n0_; have HO1020 := n1_; have HB := n2_; clear n0_ n1_ n2_; (try clear hb); (try clear hb2); (try clear hk); (try clear hi); (try clear ho0)) | ((with_reducible refine gate_callee (f := 23) rfl ?_); refine goesL_ (some 178) rfl rfl Try.func23 (by kernel_rfl) rfl #[.slice A0 l0.length c0] rfl (by (try simp only [List.map_toArray, List.map_cons, List.map_nil]); first | done | rfl | (simp only [List.length_drop, List.length_take]; rfl)) ?_; (with_reducible refine (nat_Bits.calls _ _ l0 t1021 t1022 _ ?side1 ?side2 A77.out).mono ?_); (case side1 => repeat (first | exact (Kd.C_below HR0.out HB.out) | (with_reducible refine Kd.C_alloc ?_ _) | (with_reducible refine Kd.C_drewN ?_ _) | (with_reducible refine Kd.C_drew ?_))); (case side2 => exact HC0.out); rintro e w' ⟨rfl, ⟨nd, rfl⟩⟩; refine ⟨_, rfl, ?_⟩) | ((with_reducible refine gate_callee (f := 13) rfl ?_); refine goesL_ (some 183) rfl rfl Try.func13 (by kernel_rfl) rfl #[.slice A0 l0.length c0] rfl (by (try simp only [List.map_toArray, List.map_cons, List.map_nil]); first | done | rfl | (simp only [List.length_drop, List.length_take]; rfl)) ?_; (with_reducible refine (nat_Root.calls kj53 _ _ l0 t1023 t1024 _ ?side1 ?side2 A78.out).mono ?_); (case side1 => repeat (first | exact (Kd.C_below HR0.out (bB)) | (with_reducible refine Kd.C_alloc ?_ _) | (with_reducible refine Kd.C_drewN ?_ _) | (with_reducible refine Kd.C_drew ?_))); (case side2 => exact HC0.out); rintro e w94 ⟨v1025, rfl, ho0, hb⟩; refine ⟨_, rfl, ?_⟩; have n0_ := Aside0.mk (Kd.R_elder' (dR HO1016.out) (Kd.R_base ho0) hb); have n1_ := Aside0.mk (Kd.R_elder' (dR HO1020.out) (Kd.R_base ho0) hb); have n2_ := Aside0.mk (Kd.R_lower (Kd.R_new' (Kd.R_new' ho0 (Kd.R_lt (dR HO1016.out))) (Kd.R_lt (dR HO1020.out))) (below_size (bB))); have n3_ := Aside0.mk (below_step (bB) hb); clear HO1016 HO1020 HB; have HO1016 := n0_; have HO1020 := n1_; have HO1026 := n2_; have HB := n3_; clear n0_ n1_ n2_ n3_; (try clear hb); (try clear hb2); (try clear hk); (try clear hi); (try clear ho0)) | ((with_reducible refine gate_callee (f := 28) rfl ?_); refine goesL_ (some 188) rfl rfl Try.func28 (by kernel_rfl) rfl #[.slice A0 l0.length c0] rfl (by (try simp only [List.map_toArray, List.map_cons, List.map_nil]); first | done | rfl | (simp only [List.length_drop, List.length_take]; rfl)) ?_; (with_reducible refine (nat_Text.calls kj53 (fun k_ => k_ < w.heap.size) _ _ l0 t1027 t1028 _ ?side1 A79.out).mono ?_); (case side1 => exact Kd.V_mk HC0.out (Kd.F_below (Kd.C_F (Kd.heap_int .u32) HR0.out) (bB))); rintro e w95 ⟨rfl, hb⟩; refine ⟨_, rfl, ?_⟩; have n0_ := Aside0.mk (Kd.R_below (dR HO1016.out) hb); have n1_ := Aside0.mk (Kd.R_below (dR HO1020.out) hb); have n2_ := Aside0.mk (Kd.R_below (dR HO1026.out) hb); have n3_ := Aside0.mk (below_step (bB) hb); clear HO1016 HO1020 HO1026 HB; have HO1016 := n0_; have HO1020 := n1_; have HO1026 := n2_; have HB := n3_; clear n0_ n1_ n2_ n3_; (try clear hb); (try clear hb2); (try clear hk); (try clear hi)))
                        go_ret
                        exact ⟨by first | rfl | (simp [errW_none, errW_some] <;> rfl) | (simp [*, errW_none, errW_some] <;> rfl), by repeat (first | (with_reducible first | exact HB.out | apply below_alloc | apply pw_below_drewN | apply below_drew1) | exact HB.out)⟩
                      ·rw [if_neg c83] at H
                       have c83b0 : (t1024 == 3) = false := beq_eq_false_iff_ne.mpr c83
                       have c83b1 : (t1024 != 3) = true := bne_iff_ne.mpr c83
                       obtain rfl := Option.some.inj H
                       go_wp2_with (first | ((with_reducible refine gate_callee (f := 14) rfl ?_); refine goesL_ (some 165) rfl rfl Try.func14 (by kernel_rfl) rfl #[.slice A0 l0.length c0] rfl (by (try simp only [List.map_toArray, List.map_cons, List.map_nil]); first | done | rfl | (simp only [List.length_drop, List.length_take]; rfl)) ?_; (with_reducible refine (isochroneref01_Valid.calls _ _ l0 false _ ?side1 ?side2 A73.out).mono ?_); (case side1 => repeat (first | exact (Kd.C_below HR0.out HB.out) | (with_reducible refine Kd.C_alloc ?_ _) | (with_reducible refine Kd.C_drewN ?_ _) | (with_reducible refine Kd.C_drew ?_))); (case side2 => exact HC0.out); rintro e w' ⟨rfl, ⟨nd, rfl⟩⟩; refine ⟨_, rfl, ?_⟩) | ((with_reducible refine gate_callee (f := 37) rfl ?_); refine goesL_ (some 168) rfl rfl Try.func37 (by kernel_rfl) rfl #[.slice A0 l0.length c0, .int .i64 2] rfl (by (try simp only [List.map_toArray, List.map_cons, List.map_nil]); first | done | rfl | (simp only [List.length_drop, List.length_take]; rfl)) ?_; (with_reducible refine (nat_Pow.calls kj53 _ _ l0 2 t1013 t1014 _ ?side1 ?side2 A75.out).mono ?_); (case side1 => repeat (first | exact (Kd.C_below HR0.out (bB)) | (with_reducible refine Kd.C_alloc ?_ _) | (with_reducible refine Kd.C_drewN ?_ _) | (with_reducible refine Kd.C_drew ?_))); (case side2 => exact HC0.out); rintro e w96 ⟨v1015, rfl, ho0, hb⟩; refine ⟨_, rfl, ?_⟩; have n0_ := Aside0.mk (Kd.R_lower ho0 (below_size (bB))); have n1_ := Aside0.mk (below_step (bB) hb); clear HB; have HO1016 := n0_; have HB := n1_; clear n0_ n1_; (try clear hb); (try clear hb2); (try clear hk); (try clear hi); (try clear ho0)) | ((with_reducible refine gate_callee (f := 22) rfl ?_); refine goesL_ (some 173) rfl rfl Try.func22 (by kernel_rfl) rfl #[.slice A0 l0.length c0, .int .i64 1] rfl (by (try simp only [List.map_toArray, List.map_cons, List.map_nil]); first | done | rfl | (simp only [List.length_drop, List.length_take]; rfl)) ?_; (with_reducible refine (nat_Shift.calls kj53 _ _ l0 1 t1017 t1018 _ ?side1 ?side2 A76.out).mono ?_); (case side1 => repeat (first | exact (Kd.C_below HR0.out HB.out) | (with_reducible refine Kd.C_alloc ?_ _) | (with_reducible refine Kd.C_drewN ?_ _) | (with_reducible refine Kd.C_drew ?_))); (case side2 => exact HC0.out); rintro e w97 ⟨v1019, rfl, ho0, hb⟩; refine ⟨_, rfl, ?_⟩; have n0_ := Aside0.mk (Kd.R_elder' (dR HO1016.out) (Kd.R_base ho0) hb); have n1_ := Aside0.mk (Kd.R_lower (Kd.R_new' ho0 (Kd.R_lt (dR HO1016.out))) (below_size (bB))); have n2_ := Aside0.mk (below_step (bB) hb); clear HO1016 HB; have HO1016 := n0_; have HO1020 := n1_; have HB := n2_; clear n0_ n1_ n2_; (try clear hb); (try clear hb2); (try clear hk); (try clear hi); (try clear ho0)) | ((with_reducible refine gate_callee (f := 23) rfl ?_); refine goesL_ (some 178) rfl rfl Try.func23 (by kernel_rfl) rfl #[.slice A0 l0.length c0] rfl (by (try simp only [List.map_toArray, List.map_cons, List.map_nil]); first | done | rfl | (simp only [List.length_drop, List.length_take]; rfl)) ?_; (with_reducible refine (nat_Bits.calls _ _ l0 t1021 t1022 _ ?side1 ?side2 A77.out).mono ?_); (case side1 => repeat (first | exact (Kd.C_below HR0.out HB.out) | (with_reducible refine Kd.C_alloc ?_ _) | (with_reducible refine Kd.C_drewN ?_ _) | (with_reducible refine Kd.C_drew ?_))); (case side2 => exact HC0.out); rintro e w' ⟨rfl, ⟨nd, rfl⟩⟩; refine ⟨_, rfl, ?_⟩) | ((with_reducible refine gate_callee (f := 13) rfl ?_); refine goesL_ (some 183) rfl rfl Try.func13 (by kernel_rfl) rfl #[.slice A0 l0.length c0] rfl (by (try simp only [List.map_toArray, List.map_cons, List.map_nil]); first | done | rfl | (simp only [List.length_drop, List.length_take]; rfl)) ?_; (with_reducible refine (nat_Root.calls kj53 _ _ l0 t1023 t1024 _ ?side1 ?side2 A78.out).mono ?_); (case side1 => repeat (first | exact (Kd.C_below HR0.out (bB)) | (with_reducible refine Kd.C_alloc ?_ _) | (with_reducible refine Kd.C_drewN ?_ _) | (with_reducible refine Kd.C_drew ?_))); (case side2 => exact HC0.out); rintro e w98 ⟨v1025, rfl, ho0, hb⟩; refine ⟨_, rfl, ?_⟩; have n0_ := Aside0.mk (Kd.R_elder' (dR HO1016.out) (Kd.R_base ho0) hb); have n1_ := Aside0.mk (Kd.R_elder' (dR HO1020.out) (Kd.R_base ho0) hb); have n2_ := Aside0.mk (Kd.R_lower (Kd.R_new' (Kd.R_new' ho0 (Kd.R_lt (dR HO1016.out))) (Kd.R_lt (dR HO1020.out))) (below_size (bB))); have n3_ := Aside0.mk (below_step (bB) hb); clear HO1016 HO1020 HB; have HO1016 := n0_; have HO1020 := n1_; have HO1026 := n2_; have HB := n3_; clear n0_ n1_ n2_ n3_; (try clear hb); (try clear hb2); (try clear hk); (try clear hi); (try clear ho0)) | ((with_reducible refine gate_callee (f := 28) rfl ?_); refine goesL_ (some 188) rfl rfl Try.func28 (by kernel_rfl) rfl #[.slice A0 l0.length c0] rfl (by (try simp only [List.map_toArray, List.map_cons, List.map_nil]); first | done | rfl | (simp only [List.length_drop, List.length_take]; rfl)) ?_; (with_reducible refine (nat_Text.calls kj53 (fun k_ => k_ < w.heap.size) _ _ l0 t1027 t1028 _ ?side1 A79.out).mono ?_); (case side1 => exact Kd.V_mk HC0.out (Kd.F_below (Kd.C_F (Kd.heap_int .u32) HR0.out) (bB))); rintro e w99 ⟨rfl, hb⟩; refine ⟨_, rfl, ?_⟩; have n0_ := Aside0.mk (Kd.R_below (dR HO1016.out) hb); have n1_ := Aside0.mk (Kd.R_below (dR HO1020.out) hb); have n2_ := Aside0.mk (Kd.R_below (dR HO1026.out) hb); have n3_ := Aside0.mk (below_step (bB) hb); clear HO1016 HO1020 HO1026 HB; have HO1016 := n0_; have HO1020 := n1_; have HO1026 := n2_; have HB := n3_; clear n0_ n1_ n2_ n3_; (try clear hb); (try clear hb2); (try clear hk); (try clear hi)))
                       go_ret
                       exact ⟨by first | rfl | (simp [errW_none, errW_some] <;> rfl) | (simp [*, errW_none, errW_some] <;> rfl), by repeat (first | (with_reducible first | exact HB.out | apply below_alloc | apply pw_below_drewN | apply below_drew1) | exact HB.out)⟩
                     ·rw [if_neg c82] at H
                      have c82b0 : (t1022 == 3) = false := beq_eq_false_iff_ne.mpr c82
                      have c82b1 : (t1022 != 3) = true := bne_iff_ne.mpr c82
                      obtain rfl := Option.some.inj H
                      go_wp2_with (first | ((with_reducible refine gate_callee (f := 14) rfl ?_); refine goesL_ (some 165) rfl rfl Try.func14 (by kernel_rfl) rfl #[.slice A0 l0.length c0] rfl (by (try simp only [List.map_toArray, List.map_cons, List.map_nil]); first | done | rfl | (simp only [List.length_drop, List.length_take]; rfl)) ?_; (with_reducible refine (isochroneref01_Valid.calls _ _ l0 false _ ?side1 ?side2 A73.out).mono ?_); (case side1 => repeat (first | exact (Kd.C_below HR0.out HB.out) | (with_reducible refine Kd.C_alloc ?_ _) | (with_reducible refine Kd.C_drewN ?_ _) | (with_reducible refine Kd.C_drew ?_))); (case side2 => exact HC0.out); rintro e w' ⟨rfl, ⟨nd, rfl⟩⟩; refine ⟨_, rfl, ?_⟩) | ((with_reducible refine gate_callee (f := 37) rfl ?_); refine goesL_ (some 168) rfl rfl Try.func37 (by kernel_rfl) rfl #[.slice A0 l0.length c0, .int .i64 2] rfl (by (try simp only [List.map_toArray, List.map_cons, List.map_nil]); first | done | rfl | (simp only [List.length_drop, List.length_take]; rfl)) ?_; (with_reducible refine (nat_Pow.calls kj53 _ _ l0 2 t1013 t1014 _ ?side1 ?side2 A75.out).mono ?_); (case side1 => repeat (first | exact (Kd.C_below HR0.out (bB)) | (with_reducible refine Kd.C_alloc ?_ _) | (with_reducible refine Kd.C_drewN ?_ _) | (with_reducible refine Kd.C_drew ?_))); (case side2 => exact HC0.out); rintro e w100 ⟨v1015, rfl, ho0, hb⟩; refine ⟨_, rfl, ?_⟩; have n0_ := Aside0.mk (Kd.R_lower ho0 (below_size (bB))); have n1_ := Aside0.mk (below_step (bB) hb); clear HB; have HO1016 := n0_; have HB := n1_; clear n0_ n1_; (try clear hb); (try clear hb2); (try clear hk); (try clear hi); (try clear ho0)) | ((with_reducible refine gate_callee (f := 22) rfl ?_); refine goesL_ (some 173) rfl rfl Try.func22 (by kernel_rfl) rfl #[.slice A0 l0.length c0, .int .i64 1] rfl (by (try simp only [List.map_toArray, List.map_cons, List.map_nil]); first | done | rfl | (simp only [List.length_drop, List.length_take]; rfl)) ?_; (with_reducible refine (nat_Shift.calls kj53 _ _ l0 1 t1017 t1018 _ ?side1 ?side2 A76.out).mono ?_); (case side1 => repeat (first | exact (Kd.C_below HR0.out HB.out) | (with_reducible refine Kd.C_alloc ?_ _) | (with_reducible refine Kd.C_drewN ?_ _) | (with_reducible refine Kd.C_drew ?_))); (case side2 => exact HC0.out); rintro e w101 ⟨v1019, rfl, ho0, hb⟩; refine ⟨_, rfl, ?_⟩; have n0_ := Aside0.mk (Kd.R_elder' (dR HO1016.out) (Kd.R_base ho0) hb); have n1_ := Aside0.mk (Kd.R_lower (Kd.R_new' ho0 (Kd.R_lt (dR HO1016.out))) (below_size (bB))); have n2_ := Aside0.mk (below_step (bB) hb); clear HO1016 HB; have HO1016 := n0_; have HO1020 := n1_; have HB := n2_; clear n0_ n1_ n2_; (try clear hb); (try clear hb2); (try clear hk); (try clear hi); (try clear ho0)) | ((with_reducible refine gate_callee (f := 23) rfl ?_); refine goesL_ (some 178) rfl rfl Try.func23 (by kernel_rfl) rfl #[.slice A0 l0.length c0] rfl (by (try simp only [List.map_toArray, List.map_cons, List.map_nil]); first | done | rfl | (simp only [List.length_drop, List.length_take]; rfl)) ?_; (with_reducible refine (nat_Bits.calls _ _ l0 t1021 t1022 _ ?side1 ?side2 A77.out).mono ?_); (case side1 => repeat (first | exact (Kd.C_below HR0.out HB.out) | (with_reducible refine Kd.C_alloc ?_ _) | (with_reducible refine Kd.C_drewN ?_ _) | (with_reducible refine Kd.C_drew ?_))); (case side2 => exact HC0.out); rintro e w' ⟨rfl, ⟨nd, rfl⟩⟩; refine ⟨_, rfl, ?_⟩) | ((with_reducible refine gate_callee (f := 13) rfl ?_); refine goesL_ (some 183) rfl rfl Try.func13 (by kernel_rfl) rfl #[.slice A0 l0.length c0] rfl (by (try simp only [List.map_toArray, List.map_cons, List.map_nil]); first | done | rfl | (simp only [List.length_drop, List.length_take]; rfl)) ?_; (with_reducible refine (nat_Root.calls kj53 _ _ l0 t1023 t1024 _ ?side1 ?side2 A78.out).mono ?_); (case side1 => repeat (first | exact (Kd.C_below HR0.out (bB)) | (with_reducible refine Kd.C_alloc ?_ _) | (with_reducible refine Kd.C_drewN ?_ _) | (with_reducible refine Kd.C_drew ?_))); (case side2 => exact HC0.out); rintro e w102 ⟨v1025, rfl, ho0, hb⟩; refine ⟨_, rfl, ?_⟩; have n0_ := Aside0.mk (Kd.R_elder' (dR HO1016.out) (Kd.R_base ho0) hb); have n1_ := Aside0.mk (Kd.R_elder' (dR HO1020.out) (Kd.R_base ho0) hb); have n2_ := Aside0.mk (Kd.R_lower (Kd.R_new' (Kd.R_new' ho0 (Kd.R_lt (dR HO1016.out))) (Kd.R_lt (dR HO1020.out))) (below_size (bB))); have n3_ := Aside0.mk (below_step (bB) hb); clear HO1016 HO1020 HB; have HO1016 := n0_; have HO1020 := n1_; have HO1026 := n2_; have HB := n3_; clear n0_ n1_ n2_ n3_; (try clear hb); (try clear hb2); (try clear hk); (try clear hi); (try clear ho0)) | ((with_reducible refine gate_callee (f := 28) rfl ?_); refine goesL_ (some 188) rfl rfl Try.func28 (by kernel_rfl) rfl #[.slice A0 l0.length c0] rfl (by (try simp only [List.map_toArray, List.map_cons, List.map_nil]); first | done | rfl | (simp only [List.length_drop, List.length_take]; rfl)) ?_; (with_reducible refine (nat_Text.calls kj53 (fun k_ => k_ < w.heap.size) _ _ l0 t1027 t1028 _ ?side1 A79.out).mono ?_); (case side1 => exact Kd.V_mk HC0.out (Kd.F_below (Kd.C_F (Kd.heap_int .u32) HR0.out) (bB))); rintro e w103 ⟨rfl, hb⟩; refine ⟨_, rfl, ?_⟩; have n0_ := Aside0.mk (Kd.R_below (dR HO1016.out) hb); have n1_ := Aside0.mk (Kd.R_below (dR HO1020.out) hb); have n2_ := Aside0.mk (Kd.R_below (dR HO1026.out) hb); have n3_ := Aside0.mk (below_step (bB) hb); clear HO1016 HO1020 HO1026 HB; have HO1016 := n0_; have HO1020 := n1_; have HO1026 := n2_; have HB := n3_; clear n0_ n1_ n2_ n3_; (try clear hb); (try clear hb2); (try clear hk); (try clear hi)))
                      go_ret
                      exact ⟨by first | rfl | (simp [errW_none, errW_some] <;> rfl) | (simp [*, errW_none, errW_some] <;> rfl), by repeat (first | (with_reducible first | exact HB.out | apply below_alloc | apply pw_below_drewN | apply below_drew1) | exact HB.out)⟩
                    ·rw [if_neg c81] at H
                     have c81b0 : (t1018 == 3) = false := beq_eq_false_iff_ne.mpr c81
                     have c81b1 : (t1018 != 3) = true := bne_iff_ne.mpr c81
                     obtain rfl := Option.some.inj H
                     go_wp2_with (first | ((with_reducible refine gate_callee (f := 14) rfl ?_); refine goesL_ (some 165) rfl rfl Try.func14 (by kernel_rfl) rfl #[.slice A0 l0.length c0] rfl (by (try simp only [List.map_toArray, List.map_cons, List.map_nil]); first | done | rfl | (simp only [List.length_drop, List.length_take]; rfl)) ?_; (with_reducible refine (isochroneref01_Valid.calls _ _ l0 false _ ?side1 ?side2 A73.out).mono ?_); (case side1 => repeat (first | exact (Kd.C_below HR0.out HB.out) | (with_reducible refine Kd.C_alloc ?_ _) | (with_reducible refine Kd.C_drewN ?_ _) | (with_reducible refine Kd.C_drew ?_))); (case side2 => exact HC0.out); rintro e w' ⟨rfl, ⟨nd, rfl⟩⟩; refine ⟨_, rfl, ?_⟩) | ((with_reducible refine gate_callee (f := 37) rfl ?_); refine goesL_ (some 168) rfl rfl Try.func37 (by kernel_rfl) rfl #[.slice A0 l0.length c0, .int .i64 2] rfl (by (try simp only [List.map_toArray, List.map_cons, List.map_nil]); first | done | rfl | (simp only [List.length_drop, List.length_take]; rfl)) ?_; (with_reducible refine (nat_Pow.calls kj53 _ _ l0 2 t1013 t1014 _ ?side1 ?side2 A75.out).mono ?_); (case side1 => repeat (first | exact (Kd.C_below HR0.out (bB)) | (with_reducible refine Kd.C_alloc ?_ _) | (with_reducible refine Kd.C_drewN ?_ _) | (with_reducible refine Kd.C_drew ?_))); (case side2 => exact HC0.out); rintro e w104 ⟨v1015, rfl, ho0, hb⟩; refine ⟨_, rfl, ?_⟩; have n0_ := Aside0.mk (Kd.R_lower ho0 (below_size (bB))); have n1_ := Aside0.mk (below_step (bB) hb); clear HB; have HO1016 := n0_; have HB := n1_; clear n0_ n1_; (try clear hb); (try clear hb2); (try clear hk); (try clear hi); (try clear ho0)) | ((with_reducible refine gate_callee (f := 22) rfl ?_); refine goesL_ (some 173) rfl rfl Try.func22 (by kernel_rfl) rfl #[.slice A0 l0.length c0, .int .i64 1] rfl (by (try simp only [List.map_toArray, List.map_cons, List.map_nil]); first | done | rfl | (simp only [List.length_drop, List.length_take]; rfl)) ?_; (with_reducible refine (nat_Shift.calls kj53 _ _ l0 1 t1017 t1018 _ ?side1 ?side2 A76.out).mono ?_); (case side1 => repeat (first | exact (Kd.C_below HR0.out HB.out) | (with_reducible refine Kd.C_alloc ?_ _) | (with_reducible refine Kd.C_drewN ?_ _) | (with_reducible refine Kd.C_drew ?_))); (case side2 => exact HC0.out); rintro e w105 ⟨v1019, rfl, ho0, hb⟩; refine ⟨_, rfl, ?_⟩; have n0_ := Aside0.mk (Kd.R_elder' (dR HO1016.out) (Kd.R_base ho0) hb); have n1_ := Aside0.mk (Kd.R_lower (Kd.R_new' ho0 (Kd.R_lt (dR HO1016.out))) (below_size (bB))); have n2_ := Aside0.mk (below_step (bB) hb); clear HO1016 HB; have HO1016 := n0_; have HO1020 := n1_; have HB := n2_; clear n0_ n1_ n2_; (try clear hb); (try clear hb2); (try clear hk); (try clear hi); (try clear ho0)) | ((with_reducible refine gate_callee (f := 23) rfl ?_); refine goesL_ (some 178) rfl rfl Try.func23 (by kernel_rfl) rfl #[.slice A0 l0.length c0] rfl (by (try simp only [List.map_toArray, List.map_cons, List.map_nil]); first | done | rfl | (simp only [List.length_drop, List.length_take]; rfl)) ?_; (with_reducible refine (nat_Bits.calls _ _ l0 t1021 t1022 _ ?side1 ?side2 A77.out).mono ?_); (case side1 => repeat (first | exact (Kd.C_below HR0.out HB.out) | (with_reducible refine Kd.C_alloc ?_ _) | (with_reducible refine Kd.C_drewN ?_ _) | (with_reducible refine Kd.C_drew ?_))); (case side2 => exact HC0.out); rintro e w' ⟨rfl, ⟨nd, rfl⟩⟩; refine ⟨_, rfl, ?_⟩) | ((with_reducible refine gate_callee (f := 13) rfl ?_); refine goesL_ (some 183) rfl rfl Try.func13 (by kernel_rfl) rfl #[.slice A0 l0.length c0] rfl (by (try simp only [List.map_toArray, List.map_cons, List.map_nil]); first | done | rfl | (simp only [List.length_drop, List.length_take]; rfl)) ?_; (with_reducible refine (nat_Root.calls kj53 _ _ l0 t1023 t1024 _ ?side1 ?side2 A78.out).mono ?_); (case side1 => repeat (first | exact (Kd.C_below HR0.out (bB)) | (with_reducible refine Kd.C_alloc ?_ _) | (with_reducible refine Kd.C_drewN ?_ _) | (with_reducible refine Kd.C_drew ?_))); (case side2 => exact HC0.out); rintro e w106 ⟨v1025, rfl, ho0, hb⟩; refine ⟨_, rfl, ?_⟩; have n0_ := Aside0.mk (Kd.R_elder' (dR HO1016.out) (Kd.R_base ho0) hb); have n1_ := Aside0.mk (Kd.R_elder' (dR HO1020.out) (Kd.R_base ho0) hb); have n2_ := Aside0.mk (Kd.R_lower (Kd.R_new' (Kd.R_new' ho0 (Kd.R_lt (dR HO1016.out))) (Kd.R_lt (dR HO1020.out))) (below_size (bB))); have n3_ := Aside0.mk (below_step (bB) hb); clear HO1016 HO1020 HB; have HO1016 := n0_; have HO1020 := n1_; have HO1026 := n2_; have HB := n3_; clear n0_ n1_ n2_ n3_; (try clear hb); (try clear hb2); (try clear hk); (try clear hi); (try clear ho0)) | ((with_reducible refine gate_callee (f := 28) rfl ?_); refine goesL_ (some 188) rfl rfl Try.func28 (by kernel_rfl) rfl #[.slice A0 l0.length c0] rfl (by (try simp only [List.map_toArray, List.map_cons, List.map_nil]); first | done | rfl | (simp only [List.length_drop, List.length_take]; rfl)) ?_; (with_reducible refine (nat_Text.calls kj53 (fun k_ => k_ < w.heap.size) _ _ l0 t1027 t1028 _ ?side1 A79.out).mono ?_); (case side1 => exact Kd.V_mk HC0.out (Kd.F_below (Kd.C_F (Kd.heap_int .u32) HR0.out) (bB))); rintro e w107 ⟨rfl, hb⟩; refine ⟨_, rfl, ?_⟩; have n0_ := Aside0.mk (Kd.R_below (dR HO1016.out) hb); have n1_ := Aside0.mk (Kd.R_below (dR HO1020.out) hb); have n2_ := Aside0.mk (Kd.R_below (dR HO1026.out) hb); have n3_ := Aside0.mk (below_step (bB) hb); clear HO1016 HO1020 HO1026 HB; have HO1016 := n0_; have HO1020 := n1_; have HO1026 := n2_; have HB := n3_; clear n0_ n1_ n2_ n3_; (try clear hb); (try clear hb2); (try clear hk); (try clear hi)))
                     go_ret
                     exact ⟨by first | rfl | (simp [errW_none, errW_some] <;> rfl) | (simp [*, errW_none, errW_some] <;> rfl), by repeat (first | (with_reducible first | exact HB.out | apply below_alloc | apply pw_below_drewN | apply below_drew1) | exact HB.out)⟩
                   ·rw [if_neg c80] at H
                    have c80b0 : (t1014 == 3) = false := beq_eq_false_iff_ne.mpr c80
                    have c80b1 : (t1014 != 3) = true := bne_iff_ne.mpr c80
                    obtain rfl := Option.some.inj H
                    go_wp2_with (first | ((with_reducible refine gate_callee (f := 14) rfl ?_); refine goesL_ (some 165) rfl rfl Try.func14 (by kernel_rfl) rfl #[.slice A0 l0.length c0] rfl (by (try simp only [List.map_toArray, List.map_cons, List.map_nil]); first | done | rfl | (simp only [List.length_drop, List.length_take]; rfl)) ?_; (with_reducible refine (isochroneref01_Valid.calls _ _ l0 false _ ?side1 ?side2 A73.out).mono ?_); (case side1 => repeat (first | exact (Kd.C_below HR0.out HB.out) | (with_reducible refine Kd.C_alloc ?_ _) | (with_reducible refine Kd.C_drewN ?_ _) | (with_reducible refine Kd.C_drew ?_))); (case side2 => exact HC0.out); rintro e w' ⟨rfl, ⟨nd, rfl⟩⟩; refine ⟨_, rfl, ?_⟩) | ((with_reducible refine gate_callee (f := 37) rfl ?_); refine goesL_ (some 168) rfl rfl Try.func37 (by kernel_rfl) rfl #[.slice A0 l0.length c0, .int .i64 2] rfl (by (try simp only [List.map_toArray, List.map_cons, List.map_nil]); first | done | rfl | (simp only [List.length_drop, List.length_take]; rfl)) ?_; (with_reducible refine (nat_Pow.calls kj53 _ _ l0 2 t1013 t1014 _ ?side1 ?side2 A75.out).mono ?_); (case side1 => repeat (first | exact (Kd.C_below HR0.out (bB)) | (with_reducible refine Kd.C_alloc ?_ _) | (with_reducible refine Kd.C_drewN ?_ _) | (with_reducible refine Kd.C_drew ?_))); (case side2 => exact HC0.out); rintro e w108 ⟨v1015, rfl, ho0, hb⟩; refine ⟨_, rfl, ?_⟩; have n0_ := Aside0.mk (Kd.R_lower ho0 (below_size (bB))); have n1_ := Aside0.mk (below_step (bB) hb); clear HB; have HO1016 := n0_; have HB := n1_; clear n0_ n1_; (try clear hb); (try clear hb2); (try clear hk); (try clear hi); (try clear ho0)) | ((with_reducible refine gate_callee (f := 22) rfl ?_); refine goesL_ (some 173) rfl rfl Try.func22 (by kernel_rfl) rfl #[.slice A0 l0.length c0, .int .i64 1] rfl (by (try simp only [List.map_toArray, List.map_cons, List.map_nil]); first | done | rfl | (simp only [List.length_drop, List.length_take]; rfl)) ?_; (with_reducible refine (nat_Shift.calls kj53 _ _ l0 1 t1017 t1018 _ ?side1 ?side2 A76.out).mono ?_); (case side1 => repeat (first | exact (Kd.C_below HR0.out HB.out) | (with_reducible refine Kd.C_alloc ?_ _) | (with_reducible refine Kd.C_drewN ?_ _) | (with_reducible refine Kd.C_drew ?_))); (case side2 => exact HC0.out); rintro e w109 ⟨v1019, rfl, ho0, hb⟩; refine ⟨_, rfl, ?_⟩; have n0_ := Aside0.mk (Kd.R_elder' (dR HO1016.out) (Kd.R_base ho0) hb); have n1_ := Aside0.mk (Kd.R_lower (Kd.R_new' ho0 (Kd.R_lt (dR HO1016.out))) (below_size (bB))); have n2_ := Aside0.mk (below_step (bB) hb); clear HO1016 HB; have HO1016 := n0_; have HO1020 := n1_; have HB := n2_; clear n0_ n1_ n2_; (try clear hb); (try clear hb2); (try clear hk); (try clear hi); (try clear ho0)) | ((with_reducible refine gate_callee (f := 23) rfl ?_); refine goesL_ (some 178) rfl rfl Try.func23 (by kernel_rfl) rfl #[.slice A0 l0.length c0] rfl (by (try simp only [List.map_toArray, List.map_cons, List.map_nil]); first | done | rfl | (simp only [List.length_drop, List.length_take]; rfl)) ?_; (with_reducible refine (nat_Bits.calls _ _ l0 t1021 t1022 _ ?side1 ?side2 A77.out).mono ?_); (case side1 => repeat (first | exact (Kd.C_below HR0.out HB.out) | (with_reducible refine Kd.C_alloc ?_ _) | (with_reducible refine Kd.C_drewN ?_ _) | (with_reducible refine Kd.C_drew ?_))); (case side2 => exact HC0.out); rintro e w' ⟨rfl, ⟨nd, rfl⟩⟩; refine ⟨_, rfl, ?_⟩) | ((with_reducible refine gate_callee (f := 13) rfl ?_); refine goesL_ (some 183) rfl rfl Try.func13 (by kernel_rfl) rfl #[.slice A0 l0.length c0] rfl (by (try simp only [List.map_toArray, List.map_cons, List.map_nil]); first | done | rfl | (simp only [List.length_drop, List.length_take]; rfl)) ?_; (with_reducible refine (nat_Root.calls kj53 _ _ l0 t1023 t1024 _ ?side1 ?side2 A78.out).mono ?_); (case side1 => repeat (first | exact (Kd.C_below HR0.out (bB)) | (with_reducible refine Kd.C_alloc ?_ _) | (with_reducible refine Kd.C_drewN ?_ _) | (with_reducible refine Kd.C_drew ?_))); (case side2 => exact HC0.out); rintro e w110 ⟨v1025, rfl, ho0, hb⟩; refine ⟨_, rfl, ?_⟩; have n0_ := Aside0.mk (Kd.R_elder' (dR HO1016.out) (Kd.R_base ho0) hb); have n1_ := Aside0.mk (Kd.R_elder' (dR HO1020.out) (Kd.R_base ho0) hb); have n2_ := Aside0.mk (Kd.R_lower (Kd.R_new' (Kd.R_new' ho0 (Kd.R_lt (dR HO1016.out))) (Kd.R_lt (dR HO1020.out))) (below_size (bB))); have n3_ := Aside0.mk (below_step (bB) hb); clear HO1016 HO1020 HB; have HO1016 := n0_; have HO1020 := n1_; have HO1026 := n2_; have HB := n3_; clear n0_ n1_ n2_ n3_; (try clear hb); (try clear hb2); (try clear hk); (try clear hi); (try clear ho0)) | ((with_reducible refine gate_callee (f := 28) rfl ?_); refine goesL_ (some 188) rfl rfl Try.func28 (by kernel_rfl) rfl #[.slice A0 l0.length c0] rfl (by (try simp only [List.map_toArray, List.map_cons, List.map_nil]); first | done | rfl | (simp only [List.length_drop, List.length_take]; rfl)) ?_; (with_reducible refine (nat_Text.calls kj53 (fun k_ => k_ < w.heap.size) _ _ l0 t1027 t1028 _ ?side1 A79.out).mono ?_); (case side1 => exact Kd.V_mk HC0.out (Kd.F_below (Kd.C_F (Kd.heap_int .u32) HR0.out) (bB))); rintro e w111 ⟨rfl, hb⟩; refine ⟨_, rfl, ?_⟩; have n0_ := Aside0.mk (Kd.R_below (dR HO1016.out) hb); have n1_ := Aside0.mk (Kd.R_below (dR HO1020.out) hb); have n2_ := Aside0.mk (Kd.R_below (dR HO1026.out) hb); have n3_ := Aside0.mk (below_step (bB) hb); clear HO1016 HO1020 HO1026 HB; have HO1016 := n0_; have HO1020 := n1_; have HO1026 := n2_; have HB := n3_; clear n0_ n1_ n2_ n3_; (try clear hb); (try clear hb2); (try clear hk); (try clear hi)))
                    go_ret
                    exact ⟨by first | rfl | (simp [errW_none, errW_some] <;> rfl) | (simp [*, errW_none, errW_some] <;> rfl), by repeat (first | (with_reducible first | exact HB.out | apply below_alloc | apply pw_below_drewN | apply below_drew1) | exact HB.out)⟩
 ·replace c5 := Bool.eq_false_iff.mpr c5
  subst c5
  have H1 : (some false) = some r := by rw [if_neg (show ¬ (false = true) by decide)] at H; exact H
  clear H
  have H := H1
  clear H1
  obtain rfl := Option.some.inj H
  go_enter Try.func10, Try.ntmps10
  go_wp2_with (first | ((with_reducible refine gate_callee (f := 11) rfl ?_); refine goesL_ (some 31) rfl rfl Try.func11 (by kernel_rfl) rfl #[] rfl (by (try simp only [List.map_toArray, List.map_cons, List.map_nil]); first | done | rfl | (simp only [List.length_drop, List.length_take]; rfl)) ?_; (with_reducible refine (isochronelaw01_awake.calls k  false _ A4.out).mono ?_); rintro e w112 ⟨rfl, hb⟩; refine ⟨_, rfl, ?_⟩; have n0_ := Aside0.mk (below_step (bB) hb); clear HB; have HB := n0_; clear n0_; (try clear hb); (try clear hb2); (try clear hk); (try clear hi)))
  go_ret
  exact ⟨by first | rfl | (simp [errW_none, errW_some] <;> rfl) | (simp [*, errW_none, errW_some] <;> rfl), by repeat (first | (with_reducible first | exact HB.out | apply below_alloc | apply pw_below_drewN | apply below_drew1) | exact HB.out)⟩
def isochronelaw01_NatForms.Pure : Prop := ∀ (l0 : List Int) (l1 : List Int) (a2 : Int), l0.length ≤ maxLen → l0.length * 4 ≤ 140737488351232 → (∀ x ∈ l0, (Lit.int .u32 x).wf = true) → l1.length ≤ maxLen → l1.length * 4 ≤ 140737488351232 → (∀ x ∈ l1, (Lit.int .u32 x).wf = true) → (Lit.int .u64 a2).wf = true → ∃ k, isochronelaw01_NatForms.f k l0 l1 a2 = some true
theorem isochronelaw01_NatForms.walk (P : isochronelaw01_NatForms.Pure) (a0 : Option Addr) (len0 cap0 : Nat) (z0 : List Int) (a1 : Option Addr) (len1 cap1 : Nat) (z1 : List Int) (a2 : Int) (w : World) (w0 : (a0 = none ∧ len0 = 0 ∧ cap0 = 0 ∧ z0 = []) ∨ ∃ x, a0 = some x ∧ len0 ≤ cap0 ∧ cap0 ≤ maxLen ∧ z0.length = cap0 ∧ (∀ i, i < z0.length → w.cell? (x.add i) = some (.int .u32 (z0.getD i 0))) ∧ ∀ n ∈ z0, (Lit.int .u32 n).wf = true) (y0 : len0 * 4 ≤ 140737488351232) (w1 : (a1 = none ∧ len1 = 0 ∧ cap1 = 0 ∧ z1 = []) ∨ ∃ x, a1 = some x ∧ len1 ≤ cap1 ∧ cap1 ≤ maxLen ∧ z1.length = cap1 ∧ (∀ i, i < z1.length → w.cell? (x.add i) = some (.int .u32 (z1.getD i 0))) ∧ ∀ n ∈ z1, (Lit.int .u32 n).wf = true) (y1 : len1 * 4 ≤ 140737488351232) (w2 : (Lit.int .u64 a2).wf = true) :
  Calls Try.prog 10 #[.slice a0 len0 cap0, .slice a1 len1 cap1, .int .u64 a2] w fun e w' => e = .returned (.bool true) ∧ Below w.heap.size w w' := by
 obtain ⟨l0, rfl, hr0, hm0, hw0, hc0⟩ := ReadsInt.ofRowC w0
 obtain ⟨l1, rfl, hr1, hm1, hw1, hc1⟩ := ReadsInt.ofRowC w1
 obtain ⟨k, h⟩ := P l0 l1 a2 hm0 y0 hw0 hm1 y1 hw1 w2
 refine (isochronelaw01_NatForms.calls k _ _ l0 _ _ l1 a2 true w (Kd.C_of_reads (d := (0 : Int)) (h1 := fun _ => rfl) hr0) hc0 (Kd.C_of_reads (d := (0 : Int)) (h1 := fun _ => rfl) hr1) hc1 h).mono ?_
 rintro e w' ⟨rfl, hd⟩
 exact ⟨rfl, hd⟩
end Go.Proofs.Ytfmobogdnlmdbaa.P
end
section
namespace Go.Proofs.Ytfmobogdnlmdbaa.P
open Go.RowKit Go.Proofs.YtfmobogdnlmdbaaW.PrintWords Go.Proofs.YtfmobogdnlmdbaaW.PrintLast Go.Proofs.YtfmobogdnlmdbaaW.PrintMore
set_option linter.unusedVariables false
theorem evp {α : Type} {c : Prop} [Decidable c] {f g : Nat → Option α} {r : α} (hc : c) (h : Ev f r) : Ev (fun k => if c then f k else g k) r := by simpa only [if_pos hc] using h
theorem evn {α : Type} {c : Prop} [Decidable c] {f g : Nat → Option α} {r : α} (hc : ¬ c) (h : Ev g r) : Ev (fun k => if c then f k else g k) r := by simpa only [if_neg hc] using h
theorem evb {α β : Type} {o : Option α} {f : Nat → α → Option β} {a : α} {r : β} (h : o = some a) (k : Ev (fun n => f n a) r) : Ev (fun n => o.bind (f n)) r := by subst h; exact k
theorem evs {α : Type} (r : α) : Ev (fun _ => some r) r := ⟨0, fun _ _ => rfl⟩
theorem evk {α : Type} {o : Option α} {r : α} (h : o = some r) : Ev (fun _ => o) r := ⟨0, fun _ _ => h⟩
theorem w64 {x : Int} (h0 : -9223372036854775808 ≤ x) (h1 : x ≤ 9223372036854775807) : wrap64 x = x := by unfold wrap64; omega
theorem u64 {x : Int} (h0 : 0 ≤ x) (h1 : x < 18446744073709551616) : IntKind.u64.wrap x = x := by rw [IntKind.wrap_u64]; omega
def vl (B : Int) : List Int → Int
  | [] => 0
  | x :: t => x + B * vl B t
def Dg (B : Int) (l : List Int) : Prop := ∀ x ∈ l, 0 ≤ x ∧ x < B
def Nm (l : List Int) : Prop := ∀ h : l ≠ [], l.getLast h ≠ 0
def Can (B : Int) (l : List Int) (n : Int) : Prop := Dg B l ∧ Nm l ∧ vl B l = n
section
variable {B : Int} {l a b : List Int}
theorem vl_append (B : Int) (a b : List Int) : vl B (a ++ b) = vl B a + B ^ a.length * vl B b := by
  induction a with
  | nil => simp [vl]
  | cons x t ih =>
    simp only [List.cons_append, vl, ih, List.length_cons]
    grind
theorem rd_lt (l : List Int) (i : Nat) (h : i < l.length) : rd l (i : Int) = l[i] := by simp [rd, h]
theorem vl_take (B : Int) (l : List Int) (i : Nat) (h : i < l.length) : vl B (l.take (i + 1)) = vl B (l.take i) + rd l (i : Int) * B ^ i := by
  rw [List.take_succ_eq_append_getElem h, vl_append, rd_lt l i h, List.length_take, Nat.min_eq_left (by omega)]
  simp only [vl]
  grind
theorem take_set (l : List Int) (i : Nat) (v : Int) (h : i < l.length) : (l.set i v).take (i + 1) = l.take i ++ [v] := by
  rw [List.take_succ_eq_append_getElem (by simpa using h), List.take_set_of_le (by omega)]
  simp
theorem Dg.nil (B : Int) : Dg B [] := fun x hx => by cases hx
theorem Dg.cons {x : Int} (h : Dg B (x :: l)) : (0 ≤ x ∧ x < B) ∧ Dg B l := ⟨h x (by simp), fun y hy => h y (by simp [hy])⟩
theorem Dg.mk {x : Int} (h0 : 0 ≤ x) (h1 : x < B) (h : Dg B l) : Dg B (x :: l) := by
  intro y hy
  rcases List.mem_cons.1 hy with rfl | hy
  · exact ⟨h0, h1⟩
  · exact h y hy
theorem Dg.append (ha : Dg B a) (hb : Dg B b) : Dg B (a ++ b) := by
  intro y hy
  rcases List.mem_append.1 hy with hy | hy
  · exact ha y hy
  · exact hb y hy
theorem Dg.take (h : Dg B l) (i : Nat) : Dg B (l.take i) := fun x hx => h x (List.mem_of_mem_take hx)
theorem Dg.drop (h : Dg B l) (i : Nat) : Dg B (l.drop i) := fun x hx => h x (List.mem_of_mem_drop hx)
theorem Dg.set (h : Dg B l) (i : Nat) {v : Int} (h0 : 0 ≤ v) (h1 : v < B) : Dg B (l.set i v) := by
  intro x hx
  rcases List.mem_or_eq_of_mem_set hx with hx | rfl
  · exact h x hx
  · exact ⟨h0, h1⟩
theorem Dg.take_set {i : Nat} {v : Int} (hi : i < l.length) (h' : Dg B (l.take i)) (h0 : 0 ≤ v) (h1 : v < B) : Dg B ((l.set i v).take (i + 1)) := by
  rw [P.take_set l i v hi]
  exact h'.append (Dg.mk h0 h1 (Dg.nil B))
theorem dg_rd (h : Dg B l) (i : Int) (h0 : 0 ≤ i) (h1 : i < l.length) : 0 ≤ rd l i ∧ rd l i < B := by
  obtain ⟨n, rfl⟩ := Int.eq_ofNat_of_zero_le h0
  rw [rd_lt l n (by omega)]
  exact h _ (List.getElem_mem _)
theorem vl_nonneg (hB : 0 < B) : ∀ {l : List Int}, Dg B l → 0 ≤ vl B l
  | [], _ => by simp [vl]
  | x :: t, h => by
    have h1 := h.cons
    have h2 := vl_nonneg hB h1.2
    have h3 : 0 ≤ B * vl B t := Int.mul_nonneg (by omega) h2
    simp only [vl]
    omega
theorem vl_lt (hB : 0 < B) : ∀ {l : List Int}, Dg B l → vl B l < B ^ l.length
  | [], _ => by simp [vl]
  | x :: t, h => by
    have h1 := h.cons
    have h2 := vl_lt hB h1.2
    have h3 : B * (vl B t + 1) ≤ B * B ^ t.length := Int.mul_le_mul_of_nonneg_left (by omega) (by omega)
    simp only [vl, List.length_cons]
    rw [Int.mul_add] at h3
    have h4 : B ^ (t.length + 1) = B * B ^ t.length := by grind
    omega
theorem Nm.nil : Nm [] := fun h => absurd rfl h
theorem Nm.tail {x : Int} (h : Nm (x :: l)) : Nm l := by
  intro hl
  have := h (by simp)
  rwa [List.getLast_cons hl] at this
theorem vl_pos (hB : 0 < B) : ∀ {l : List Int}, Dg B l → Nm l → l ≠ [] → 0 < vl B l
  | [], _, _, h => absurd rfl h
  | [x], hd, hn, _ => by
    have h1 := hd.cons
    have h2 := hn (by simp)
    simp at h2
    simp [vl]
    omega
  | x :: y :: t, hd, hn, _ => by
    have h1 := hd.cons
    have h2 := vl_pos hB h1.2 hn.tail (by simp)
    have h3 : 0 < B * vl B (y :: t) := Int.mul_pos hB h2
    rw [vl]
    omega
theorem vl_ge (hB : 0 < B) : ∀ {l : List Int}, Dg B l → Nm l → l ≠ [] → B ^ (l.length - 1) ≤ vl B l
  | [], _, _, h => absurd rfl h
  | [x], hd, hn, _ => by
    have h1 := vl_pos hB hd hn (by simp)
    simp
    omega
  | x :: y :: t, hd, hn, _ => by
    have h1 := hd.cons
    have h2 := vl_ge hB h1.2 hn.tail (by simp)
    have h3 : B * B ^ ((y :: t).length - 1) ≤ B * vl B (y :: t) := Int.mul_le_mul_of_nonneg_left h2 (by omega)
    rw [vl]
    have h4 : B ^ ((x :: y :: t).length - 1) = B * B ^ ((y :: t).length - 1) := by
      simp only [List.length_cons, Nat.add_sub_cancel]
      grind
    omega
theorem can_uniq (hB : 0 < B) : ∀ {a b : List Int} {n : Int}, Can B a n → Can B b n → a = b
  | [], [], _, _, _ => rfl
  | [], y :: t, n, h, h' => by
    have h1 := vl_pos hB h'.1 h'.2.1 (by simp)
    have h2 := h.2.2
    have h3 := h'.2.2
    simp only [vl] at h2
    omega
  | x :: t, [], n, h, h' => by
    have h1 := vl_pos hB h.1 h.2.1 (by simp)
    have h2 := h.2.2
    have h3 := h'.2.2
    simp only [vl] at h3
    omega
  | x :: s, y :: t, n, h, h' => by
    have h1 := h.1.cons
    have h2 := h'.1.cons
    have h3 := h.2.2
    have h4 := h'.2.2
    simp only [vl] at h3 h4
    have e1 : x = n % B := by rw [← h3, Int.add_mul_emod_self_left, Int.emod_eq_of_lt h1.1.1 h1.1.2]
    have e2 : y = n % B := by rw [← h4, Int.add_mul_emod_self_left, Int.emod_eq_of_lt h2.1.1 h2.1.2]
    have e3 : x = y := by omega
    subst e3
    have e4 : vl B s = vl B t := Int.eq_of_mul_eq_mul_left (a := B) (by omega) (by omega)
    rw [can_uniq hB (n := vl B t) ⟨h1.2, h.2.1.tail, e4⟩ ⟨h2.2, h'.2.1.tail, rfl⟩]
theorem Can.nonneg (hB : 0 < B) {n : Int} (h : Can B l n) : 0 ≤ n := by rw [← h.2.2]; exact vl_nonneg hB h.1
theorem Can.zero (B : Int) : Can B [] 0 := ⟨Dg.nil B, Nm.nil, rfl⟩
theorem Can.nil_iff (hB : 0 < B) {n : Int} (h : Can B l n) : l = [] ↔ n = 0 := by
  constructor
  · rintro rfl
    exact h.2.2.symm
  · rintro rfl
    exact can_uniq hB h (Can.zero B)
theorem Can.len_iff (hB : 0 < B) {n : Int} (h : Can B l n) : l.length = 0 ↔ n = 0 := by rw [← h.nil_iff hB]; exact List.length_eq_zero_iff
theorem Can.lt (hB : 0 < B) {n : Int} (h : Can B l n) : n < B ^ l.length := by rw [← h.2.2]; exact vl_lt hB h.1
theorem Can.ge (hB : 0 < B) {n : Int} (h : Can B l n) (h0 : l.length ≠ 0) : B ^ (l.length - 1) ≤ n := by
  rw [← h.2.2]
  exact vl_ge hB h.1 h.2.1 (fun e => h0 (by rw [e]; rfl))
theorem pow_le {B : Int} (hB : 1 ≤ B) {i j : Nat} (h : i ≤ j) : B ^ i ≤ B ^ j := by
  obtain ⟨d, rfl⟩ := Nat.exists_eq_add_of_le h
  rw [Int.pow_add]
  have h1 : 1 ≤ B ^ d := Int.pow_pos (by omega)
  have h2 : B ^ i * 1 ≤ B ^ i * B ^ d := Int.mul_le_mul_of_nonneg_left h1 (Int.le_of_lt (Int.pow_pos (by omega)))
  omega
theorem Can.len_le (hB : 1 < B) {n : Int} (h : Can B l n) {k : Nat} (hn : n < B ^ k) : l.length ≤ k := by
  rcases Nat.lt_or_ge k l.length with hk | hk
  · have h1 := h.ge (by omega) (by omega)
    have h2 := pow_le (B := B) (by omega) (show k ≤ l.length - 1 by omega)
    omega
  · exact hk
theorem rd_take (l : List Int) (j : Int) (i : Nat) (h : j.toNat < i) : rd (l.take i) j = rd l j := by
  simp only [rd, List.getD_eq_getElem?_getD]
  rw [List.getElem?_take_of_lt h]
theorem getLast_rd (l : List Int) (h : l ≠ []) : l.getLast h = rd l ((l.length : Int) - 1) := by
  have hp : 0 < l.length := List.length_pos_iff.2 h
  rw [List.getLast_eq_getElem]
  have e : (l.length : Int) - 1 = ((l.length - 1 : Nat) : Int) := by omega
  rw [e, rd_lt _ _ (by omega)]
theorem nm_of_rd (h : 0 < l.length → rd l ((l.length : Int) - 1) ≠ 0) : Nm l := by
  intro hl
  rw [getLast_rd l hl]
  exact h (List.length_pos_iff.2 hl)
theorem Nm.rd (h : Nm l) (hp : 0 < l.length) : rd l ((l.length : Int) - 1) ≠ 0 := by
  have hl : l ≠ [] := List.ne_nil_of_length_pos hp
  rw [← getLast_rd l hl]
  exact h hl
end
end Go.Proofs.Ytfmobogdnlmdbaa.P
end
section
namespace Go.Proofs.Ytfmobogdnlmdbaa.P
open Go.RowKit Go.Proofs.YtfmobogdnlmdbaaW.PrintWords Go.Proofs.YtfmobogdnlmdbaaW.PrintLast Go.Proofs.YtfmobogdnlmdbaaW.PrintMore
set_option linter.unusedVariables false
abbrev WW : Int := 4294967296
theorem WW_pos : (0 : Int) < WW := by decide
theorem WW_one : (1 : Int) < WW := by decide
theorem WW_eq : WW = 4294967296 := rfl
theorem wsucc {i : Nat} (h : i < 4611686018427387904) : wrap64 ((i : Int) + 1) = ((i + 1 : Nat) : Int) := by rw [w64 (by omega) (by omega)]; omega
theorem mag_Trim_ev (n : Nat) : ∀ (l : List Int), l.length = n → n < 4611686018427387904 → Dg WW l → ∃ r, Ev (fun k => mag_Trim.l0 k l) r ∧ Can WW r (vl WW l) ∧ r.length ≤ l.length := by
  induction n with
  | zero =>
    intro l hl _ hd
    have e : l = [] := List.eq_nil_of_length_eq_zero hl
    subst e
    refine ⟨[], ?_, Can.zero _, Nat.le_refl _⟩
    refine Ev.step (fun k => by rw [mag_Trim.l0]) ?_
    exact evn (by simp) (evs _)
  | succ n ih =>
    intro l hl hn hd
    have ew : wrap64 ((l.length : Int) - 1) = (n : Int) := by rw [w64 (by omega) (by omega)]; omega
    by_cases hz : rd l n = 0
    · obtain ⟨r, h1, h2, h3⟩ := ih (l.take n) (by rw [List.length_take]; omega) (by omega) (hd.take n)
      refine ⟨r, ?_, ?_, ?_⟩
      · refine Ev.step (fun k => by rw [mag_Trim.l0]) ?_
        rw [ew]
        refine evp (by omega) (evp (by omega) (evp (by omega) (evp hz (evp (by omega) ?_))))
        simpa using h1
      · have h4 := vl_take WW l n (by omega)
        rw [hz, show n + 1 = l.length by omega, List.take_length] at h4
        rw [h4]
        simpa using h2
      · rw [List.length_take] at h3
        omega
    · refine ⟨l, ?_, ⟨hd, nm_of_rd (fun _ => ?_), rfl⟩, Nat.le_refl _⟩
      · refine Ev.step (fun k => by rw [mag_Trim.l0]) ?_
        rw [ew]
        exact evp (by omega) (evp (by omega) (evp (by omega) (evn hz (evs _))))
      · rw [hl]
        have e : (((n + 1 : Nat) : Int) - 1) = (n : Int) := by omega
        rw [e]
        exact hz
theorem mag_Trim_sp {l : List Int} (hn : l.length < 4611686018427387904) (hd : Dg WW l) : ∃ r, Ev (fun k => mag_Trim.f k l) r ∧ Can WW r (vl WW l) ∧ r.length ≤ l.length := by
  obtain ⟨r, h1, h2⟩ := mag_Trim_ev l.length l rfl hn hd
  exact ⟨r, Ev.congr (fun k => by rw [mag_Trim.f]) h1, h2⟩
theorem mag_From_sp {a : Int} (h0 : 0 ≤ a) (h1 : a < 18446744073709551616) : ∃ r, Ev (fun k => mag_From.f k a) r ∧ Can WW r a := by
  have hW := WW_eq
  have hd : Dg WW [a % 4294967296, (a / 4294967296) % 4294967296] := Dg.mk (by omega) (by omega) (Dg.mk (by omega) (by omega) (Dg.nil _))
  obtain ⟨r, h2, h3, _⟩ := mag_Trim_sp (by simp) hd
  refine ⟨r, ?_, ?_⟩
  · unfold mag_From.f
    exact Ev.bind h2 (evs _)
  · have e : vl WW [a % 4294967296, (a / 4294967296) % 4294967296] = a := by
      simp only [vl, Int.mul_zero, Int.add_zero, WW_eq]
      omega
    rw [← e]
    exact h3
end Go.Proofs.Ytfmobogdnlmdbaa.P
end
section
namespace Go.Proofs.Ytfmobogdnlmdbaa.P
open Go.RowKit Go.Proofs.YtfmobogdnlmdbaaW.PrintWords Go.Proofs.YtfmobogdnlmdbaaW.PrintLast Go.Proofs.YtfmobogdnlmdbaaW.PrintMore
set_option linter.unusedVariables false
abbrev RR : Int := 10000
theorem RR_pos : (0 : Int) < RR := by decide
theorem RR_one : (1 : Int) < RR := by decide
theorem RR_eq : RR = 10000 := rfl
theorem r_trim_ev {l : List Int} (hn : l.length < 4611686018427387904) (hd : Dg RR l) (d : Nat) : ∀ i : Nat, i = d → i ≤ l.length → ∃ r, Ev (fun k => isochroneref01_trim.l0 k l (i : Int)) r ∧ Can RR r (vl RR (l.take i)) ∧ r.length ≤ i := by
  induction d with
  | zero =>
    rintro i rfl h
    refine ⟨[], ?_, Can.zero _, Nat.le_refl _⟩
    refine Ev.step (fun k => by rw [isochroneref01_trim.l0]) ?_
    exact evn (by omega) (evp (by omega) (evp (by omega) (evs _)))
  | succ d ih =>
    rintro i rfl h
    have hw : ((d + 1 : Nat) : Int) - 1 = (d : Int) := by omega
    by_cases hz : rd l d = 0
    · obtain ⟨r, h1, h2, h3⟩ := ih d rfl (by omega)
      refine ⟨r, ?_, ?_, by omega⟩
      · refine Ev.step (fun k => by rw [isochroneref01_trim.l0]) ?_
        rw [hw, w64 (x := (d : Int)) (by omega) (by omega)]
        exact evp (by omega) (evp (by omega) (evp (by omega) (evp hz h1)))
      · rw [vl_take RR l d (by omega), hz, Int.zero_mul, Int.add_zero]
        exact h2
    · refine ⟨l.take (d + 1), ?_, ⟨hd.take _, nm_of_rd (fun _ => ?_), rfl⟩, by rw [List.length_take]; omega⟩
      · refine Ev.step (fun k => by rw [isochroneref01_trim.l0]) ?_
        rw [hw, w64 (x := (d : Int)) (by omega) (by omega), Int.toNat_natCast]
        exact evp (by omega) (evp (by omega) (evp (by omega) (evn hz (evp (by omega) (evp (by omega) (evs _))))))
      · rw [List.length_take, Nat.min_eq_left (by omega), hw, rd_take _ _ _ (by omega)]
        exact hz
theorem r_trim_sp {l : List Int} (hn : l.length < 4611686018427387904) (hd : Dg RR l) : ∃ r, Ev (fun k => isochroneref01_trim.f k l) r ∧ Can RR r (vl RR l) ∧ r.length ≤ l.length := by
  obtain ⟨r, h1, h2⟩ := r_trim_ev hn hd l.length l.length rfl (Nat.le_refl _)
  rw [List.take_length] at h2
  exact ⟨r, Ev.congr (fun k => by rw [isochroneref01_trim.f]) h1, h2⟩
theorem tmod_nn {x : Int} (h : 0 ≤ x) (m : Int) : Int.tmod x m = x % m := Int.tmod_eq_emod_of_nonneg h
theorem tdiv_nn {x : Int} (h : 0 ≤ x) (m : Int) : Int.tdiv x m = x / m := Int.tdiv_eq_ediv_of_nonneg h
theorem vl_snoc (B : Int) (l : List Int) (x : Int) : vl B (l ++ [x]) = vl B l + x * B ^ l.length := by
  rw [vl_append]
  simp only [vl]
  grind
theorem alg_sm {vo c P n v c' R : Int} (h : vo + c * P = n) (h2 : v + R * c' = c) : vo + v * P + c' * (R * P) = n := by grind
theorem alg_sm2 {vo c P va x k v c' R c0 : Int} (h : vo + c * P = c0 + k * va) (h2 : v + R * c' = c + x * k) : vo + v * P + c' * (R * P) = c0 + k * (va + x * P) := by grind
theorem r_Small_in (o0 : List Int) (n : Int) (c : Nat) : ∀ (o : List Int) (cc : Int), cc = (c : Int) → cc < 4611686018427387904 → o.length + c < 1099511627776 → Dg RR o → vl RR o + cc * RR ^ o.length = n → ∃ r, Ev (fun k => isochroneref01_Small.l1 k cc o) r ∧ Can RR r n := by
  induction c using Nat.strongRecOn with
  | _ c ih =>
    intro o cc hcc hlt hl hd hv
    by_cases h0 : c = 0
    · subst h0
      have e : cc = 0 := by omega
      subst e
      rw [Int.zero_mul, Int.add_zero] at hv
      obtain ⟨r, h1, h2, _⟩ := r_trim_sp (l := o) (by omega) hd
      refine ⟨r, ?_, by rw [← hv]; exact h2⟩
      refine Ev.step (fun k => by rw [isochroneref01_Small.l1]) ?_
      exact evn (by omega) (Ev.bind h1 (evs _))
    · obtain ⟨r, h1, h2⟩ := ih (c / 10000) (by omega) (o ++ [cc % 10000]) (cc / 10000) (by omega) (by omega) (by simp; omega) (hd.append (Dg.mk (by omega) (by rw [RR_eq]; omega) (Dg.nil _)))
        (by rw [vl_snoc, List.length_append, List.length_singleton, Int.pow_succ, Int.mul_comm (RR ^ o.length) RR]; exact alg_sm hv (by rw [RR_eq]; omega))
      refine ⟨r, ?_, h2⟩
      refine Ev.step (fun k => by rw [isochroneref01_Small.l1]) ?_
      rw [tmod_nn (x := cc) (by omega), tdiv_nn (x := cc) (by omega), w64 (x := cc / 10000) (by omega) (by omega)]
      exact evp (by omega) (evp (by omega) h1)
theorem r_Small_l0 {a : List Int} (hn : a.length < 549755813888) (ha : Dg RR a) {k0 c0 : Int} (hk : 0 ≤ k0 ∧ k0 ≤ 65536) (d : Nat) :
    ∀ (i : Nat) (o : List Int) (c : Int), a.length - i = d → i ≤ a.length → o.length = i → Dg RR o → 0 ≤ c → c ≤ 65536 → vl RR o + c * RR ^ i = c0 + k0 * vl RR (a.take i) →
    ∃ r, Ev (fun k => isochroneref01_Small.l0 k k0 c o a (a.length : Int) (i : Int)) r ∧ Can RR r (c0 + k0 * vl RR a) := by
  induction d with
  | zero =>
    intro i o c h1 h2 h3 h4 h5 h6 h7
    have e : i = a.length := by omega
    subst e
    rw [List.take_length] at h7
    obtain ⟨r, h8, h9⟩ := r_Small_in o (c0 + k0 * vl RR a) c.toNat o c (by omega) (by omega) (by omega) h4 (by rw [h3]; exact h7)
    refine ⟨r, ?_, h9⟩
    refine Ev.step (fun k => by rw [isochroneref01_Small.l0]) ?_
    exact evn (by omega) h8
  | succ d ih =>
    intro i o c h1 h2 h3 h4 h5 h6 h7
    have hx := dg_rd ha (i : Int) (by omega) (by omega)
    rw [RR_eq] at hx
    have hm : 0 ≤ rd a i * k0 := Int.mul_nonneg hx.1 hk.1
    have hm2 : rd a i * k0 ≤ 9999 * 65536 := Int.mul_le_mul (by omega) hk.2 hk.1 (by omega)
    obtain ⟨r, h8, h9⟩ := ih (i + 1) (o ++ [(c + rd a i * k0) % 10000]) ((c + rd a i * k0) / 10000) (by omega) (by omega) (by simp; omega) (h4.append (Dg.mk (by omega) (by rw [RR_eq]; omega) (Dg.nil _))) (by omega) (by omega)
      (by rw [vl_snoc, h3, vl_take RR a i (by omega), Int.pow_succ, Int.mul_comm (RR ^ i) RR]; exact alg_sm2 h7 (by rw [RR_eq]; omega))
    refine ⟨r, ?_, h9⟩
    refine Ev.step (fun k => by rw [isochroneref01_Small.l0]) ?_
    rw [w64 (x := rd a i * k0) (by omega) (by omega), w64 (x := c + rd a i * k0) (by omega) (by omega), tmod_nn (x := c + rd a i * k0) (by omega), tdiv_nn (x := c + rd a i * k0) (by omega), w64 (x := (c + rd a i * k0) / 10000) (by omega) (by omega), wsucc (i := i) (by omega)]
    exact evp (by omega) (evp (by omega) (evp (by omega) (evp (by omega) h8)))
theorem r_Small_sp {a : List Int} {n k0 c0 : Int} (hn : a.length < 549755813888) (ha : Can RR a n) (hk : 0 ≤ k0 ∧ k0 ≤ 65536) (hc : 0 ≤ c0 ∧ c0 ≤ 65536) : ∃ r, Ev (fun k => isochroneref01_Small.f k a k0 c0) r ∧ Can RR r (n * k0 + c0) ∧ r.length ≤ a.length + 2 := by
  obtain ⟨r, h1, h2⟩ := r_Small_l0 hn ha.1 hk (c0 := c0) a.length 0 [] c0 (by omega) (by omega) rfl (Dg.nil _) hc.1 hc.2 (by simp [vl])
  rw [ha.2.2, Int.add_comm, Int.mul_comm] at h2
  refine ⟨r, ?_, h2, ?_⟩
  · unfold isochroneref01_Small.f
    have e : (a.length : Int) + 2 = ((a.length + 2 : Nat) : Int) := by omega
    rw [e, w64 (by omega) (by omega), Int.toNat_natCast]
    exact evp (by omega) (evp (by omega) h1)
  · refine h2.len_le RR_one ?_
    have h3 := ha.lt RR_pos
    have h4 := ha.nonneg RR_pos
    have h5 : n * k0 ≤ n * 65536 := Int.mul_le_mul_of_nonneg_left hk.2 h4
    have h6 : RR ^ (a.length + 2) = RR ^ a.length * 100000000 := by rw [Int.pow_add]; rfl
    rw [h6]
    omega
theorem r_Int_ev (n : Int) (c : Nat) : ∀ (o : List Int) (cc : Int), cc = (c : Int) → cc < 4611686018427387904 → o.length + c < 17592186044416 → Dg RR o → (c = 0 → Nm o) → vl RR o + cc * RR ^ o.length = n → ∃ r, Ev (fun k => isochroneref01_Int.l0 k cc o) r ∧ Can RR r n := by
  induction c using Nat.strongRecOn with
  | _ c ih =>
    intro o cc hcc hlt hl hd hnm hv
    by_cases h0 : c = 0
    · subst h0
      have e : cc = 0 := by omega
      subst e
      rw [Int.zero_mul, Int.add_zero] at hv
      refine ⟨o, ?_, hd, hnm rfl, hv⟩
      refine Ev.step (fun k => by rw [isochroneref01_Int.l0]) ?_
      exact evn (by omega) (evs _)
    · obtain ⟨r, h1, h2⟩ := ih (c / 10000) (by omega) (o ++ [cc % 10000]) (cc / 10000) (by omega) (by omega) (by simp; omega) (hd.append (Dg.mk (by omega) (by rw [RR_eq]; omega) (Dg.nil _)))
        (by
          intro hz hne
          simp only [List.getLast_append, List.getLast_singleton]
          simp
          omega)
        (by rw [vl_snoc, List.length_append, List.length_singleton, Int.pow_succ, Int.mul_comm (RR ^ o.length) RR]; exact alg_sm hv (by rw [RR_eq]; omega))
      refine ⟨r, ?_, h2⟩
      refine Ev.step (fun k => by rw [isochroneref01_Int.l0]) ?_
      rw [tmod_nn (x := cc) (by omega), tdiv_nn (x := cc) (by omega), w64 (x := cc / 10000) (by omega) (by omega)]
      exact evp (by omega) (evp (by omega) h1)
theorem r_Int_sp {a : Int} (h0 : 0 ≤ a) (h1 : a < 10000000000000) : ∃ r, Ev (fun k => isochroneref01_Int.f k a) r ∧ Can RR r a := by
  obtain ⟨r, h2, h3⟩ := r_Int_ev a a.toNat [] a (by omega) (by omega) (by simp; omega) (Dg.nil _) (fun _ => Nm.nil) (by simp [vl])
  exact ⟨r, Ev.congr (fun k => by rw [isochroneref01_Int.f]) h2, h3⟩
end Go.Proofs.Ytfmobogdnlmdbaa.P
end
section
namespace Go.Proofs.Ytfmobogdnlmdbaa.P
open Go.RowKit Go.Proofs.YtfmobogdnlmdbaaW.PrintWords Go.Proofs.YtfmobogdnlmdbaaW.PrintLast Go.Proofs.YtfmobogdnlmdbaaW.PrintMore
set_option linter.unusedVariables false
theorem drop_set_ge (l : List Int) (i : Nat) (v : Int) : (l.set i v).drop (i + 1) = l.drop (i + 1) := by rw [List.drop_set_of_lt (by omega)]
end Go.Proofs.Ytfmobogdnlmdbaa.P
end
section
namespace Go.Proofs.Ytfmobogdnlmdbaa.P
open Go.RowKit Go.Proofs.YtfmobogdnlmdbaaW.PrintWords Go.Proofs.YtfmobogdnlmdbaaW.PrintLast Go.Proofs.YtfmobogdnlmdbaaW.PrintMore
set_option linter.unusedVariables false
theorem getLast_snoc (l : List Int) (x : Int) (h : l ++ [x] ≠ []) : (l ++ [x]).getLast h = x := by simp
theorem drop_set_self (l : List Int) (i : Nat) (v : Int) (h : i < l.length) : (l.set i v).drop i = v :: l.drop (i + 1) := by
  rw [List.drop_eq_getElem_cons (by simpa using h), List.getElem_set_self, drop_set_ge]
theorem drop_rd (l : List Int) (i : Nat) (h : i < l.length) : l.drop i = rd l i :: l.drop (i + 1) := by
  rw [rd_lt l i h]
  exact List.drop_eq_getElem_cons h
theorem alg_split {t r va q rr d R K : Int} (h : t * K + r = va) (h2 : q * K + rr = r * R + d) : (q + R * t) * K + rr = d + R * va := by grind
theorem r_Split_ev {a : List Int} (hn : a.length < 68719476736) (ha : Dg RR a) {K : Int} (hK : 1 ≤ K ∧ K ≤ 65536) (d : Nat) : ∀ (i : Nat) (o : List Int) (r : Int), i = d → i ≤ a.length → o.length = a.length → Dg RR (o.drop i) → 0 ≤ r → r < K → vl RR (o.drop i) * K + r = vl RR (a.drop i) →
    ∃ q z, Ev (fun k => isochroneref01_Split.l0 k a K o r ((i : Int) - 1)) (q, z) ∧ (∃ m, Can RR q m ∧ m * K + z = vl RR a) ∧ 0 ≤ z ∧ z < K ∧ q.length ≤ a.length := by
  induction d with
  | zero =>
    rintro i o r rfl h1 h2 h3 h4 h5 h6
    rw [List.drop_zero] at h3 h6
    rw [List.drop_zero] at h6
    obtain ⟨q, h7, h8, h9⟩ := r_trim_sp (l := o) (by omega) h3
    refine ⟨q, r, ?_, ⟨_, h8, h6⟩, h4, h5, by omega⟩
    refine Ev.step (fun k => by rw [isochroneref01_Split.l0]) ?_
    exact evn (by omega) (Ev.bind h7 (evs _))
  | succ d ih =>
    rintro i o r rfl h1 h2 h3 h4 h5 h6
    have e1 : (((d + 1 : Nat) : Int) - 1) = (d : Int) := by omega
    have hx := dg_rd ha (d : Int) (by omega) (by omega)
    rw [RR_eq] at hx
    have hv0 : 0 ≤ r * 10000 + rd a d := by omega
    have hq0 : 0 ≤ (r * 10000 + rd a d) / K := Int.ediv_nonneg hv0 (by omega)
    have hq1 : (r * 10000 + rd a d) / K < 10000 := by
      refine Int.ediv_lt_of_lt_mul (by omega) ?_
      have : (r + 1) * 10000 ≤ K * 10000 := Int.mul_le_mul_of_nonneg_right (by omega) (by omega)
      omega
    have hm0 := Int.emod_nonneg (r * 10000 + rd a d) (show K ≠ 0 by omega)
    have hm1 := Int.emod_lt_of_pos (r * 10000 + rd a d) (show 0 < K by omega)
    have hdv : (r * 10000 + rd a d) / K * K + (r * 10000 + rd a d) % K = r * RR + rd a d := by rw [RR_eq]; exact Int.ediv_mul_add_emod _ _
    obtain ⟨q, z, h7, h8⟩ := ih d (o.set d ((r * 10000 + rd a d) / K)) ((r * 10000 + rd a d) % K) rfl (by omega) (by simpa using h2)
      (by rw [drop_set_self _ _ _ (by omega)]; exact Dg.mk hq0 (by rw [RR_eq]; exact hq1) h3) hm0 hm1
      (by rw [drop_set_self _ _ _ (by omega), drop_rd a d (by omega), vl, vl]; exact alg_split h6 hdv)
    refine ⟨q, z, ?_, h8⟩
    refine Ev.step (fun k => by rw [isochroneref01_Split.l0]) ?_
    rw [e1, w64 (x := r * 10000) (by omega) (by omega), w64 (x := r * 10000 + rd a d) (by omega) (by omega), tdiv_nn hv0, tmod_nn hv0, w64 (x := (r * 10000 + rd a d) / K) (by omega) (by omega), w64 (x := (d : Int) - 1) (by omega) (by omega), Int.toNat_natCast]
    exact evp (by omega) (evp (by omega) (evp (by omega) (evn (by omega) (evp (by omega) h7))))
theorem r_Split_sp {a : List Int} {n K : Int} (hn : a.length < 68719476736) (ha : Can RR a n) (hK : 1 ≤ K ∧ K ≤ 65536) : ∃ q, Ev (fun k => isochroneref01_Split.f k a K) (q, n % K) ∧ Can RR q (n / K) ∧ q.length ≤ a.length := by
  obtain ⟨q, z, h1, ⟨m, h2, h3⟩, h4, h5, h6⟩ := r_Split_ev hn ha.1 hK a.length a.length (List.replicate a.length 0) 0 rfl (Nat.le_refl _) (by simp) (by rw [List.drop_of_length_le (by simp)]; exact Dg.nil _) (by omega) (by omega) (by rw [List.drop_of_length_le (by simp), List.drop_of_length_le (by simp)]; simp [vl])
  rw [ha.2.2] at h3
  have e1 : n % K = z := by rw [← h3, Int.add_comm, Int.add_mul_emod_self_right, Int.emod_eq_of_lt h4 h5]
  have e2 : n / K = m := by
    have h7 := Int.ediv_mul_add_emod n K
    rw [e1] at h7
    exact Int.eq_of_mul_eq_mul_right (a := K) (by omega) (by omega)
  rw [e1, e2]
  refine ⟨q, ?_, h2, h6⟩
  unfold isochroneref01_Split.f
  rw [Int.toNat_natCast, w64 (by omega) (by omega)]
  exact evp (by omega) (evp (by omega) h1)
abbrev HH : Int := 65536
theorem HH_eq : HH = 65536 := rfl
theorem vl2 (h : List Int) (i : Nat) (hi : i + 1 < h.length) : vl HH (h.drop i) = rd h i + 65536 * rd h ((i + 1 : Nat) : Int) + WW * vl HH (h.drop (i + 2)) := by
  rw [drop_rd h i (by omega), vl, drop_rd h (i + 1) hi, vl, WW_eq, HH_eq, show i + 1 + 1 = i + 2 from rfl]
  omega
theorem vl1 (h : List Int) (i : Nat) (hi : i + 1 = h.length) : vl HH (h.drop i) = rd h i := by
  rw [drop_rd h i (by omega), vl, List.drop_of_length_le (by omega)]
  simp [vl]
theorem alg_w {vo P x w V W T : Int} (h : vo + P * T = V) (h2 : T = w + W * x) : (vo + w * P) + (W * P) * x = V := by grind
theorem r_Words_out {h : List Int} (hn : h.length < 68719476736) (hd : Dg HH h) (hnm : Nm h) (n : Int) (d : Nat) : ∀ (i : Nat) (o : List Int), h.length - i = d → i = 2 * o.length → Dg WW o → (h.length ≤ i → Nm o) → vl WW o + WW ^ o.length * vl HH (h.drop i) = n →
    ∃ r, Ev (fun k => isochroneref01_Words.l1 k h o (i : Int)) r ∧ Can WW r n := by
  induction d using Nat.strongRecOn with
  | _ d ih =>
    intro i o h1 h2 h3 h4 h5
    by_cases hi : i < h.length
    · have hx := dg_rd hd (i : Int) (by omega) (by omega)
      rw [HH_eq] at hx
      have ei2 : (i : Int) + 2 = ((i + 2 : Nat) : Int) := by omega
      by_cases hi1 : i + 1 < h.length
      · have hy := dg_rd hd ((i + 1 : Nat) : Int) (by omega) (by omega)
        rw [HH_eq] at hy
        have hl : i + 2 = h.length → rd h ((i + 1 : Nat) : Int) ≠ 0 := by
          intro he
          have h6 := hnm.rd (by omega)
          rw [show (h.length : Int) - 1 = ((i + 1 : Nat) : Int) by omega] at h6
          exact h6
        obtain ⟨r, h7, h8⟩ := ih (h.length - (i + 2)) (by omega) (i + 2) (o ++ [rd h i + 65536 * rd h ((i + 1 : Nat) : Int)]) rfl (by simp; omega) (h3.append (Dg.mk (by omega) (by rw [WW_eq]; omega) (Dg.nil _)))
          (by
            intro hle hne
            rw [getLast_snoc]
            have := hl (by omega)
            omega)
          (by rw [vl_snoc, List.length_append, List.length_singleton, Int.pow_succ, Int.mul_comm (WW ^ o.length) WW]; exact alg_w h5 (vl2 h i hi1))
        refine ⟨r, ?_, h8⟩
        refine Ev.step (fun k => by rw [isochroneref01_Words.l1]) ?_
        have ew : (rd h i % 4294967296 + rd h ((i + 1 : Nat) : Int) % 4294967296 * 65536 % 4294967296) % 4294967296 = rd h i + 65536 * rd h ((i + 1 : Nat) : Int) := by omega
        rw [wsucc (i := i) (by omega), ew, ei2, w64 (x := ((i + 2 : Nat) : Int)) (by omega) (by omega)]
        exact evp (by omega) (evp (by omega) (evp (by omega) (evp (by omega) (evp (by omega) h7))))
      · have hl : rd h (i : Int) ≠ 0 := by
          have h6 := hnm.rd (by omega)
          rw [show (h.length : Int) - 1 = (i : Int) by omega] at h6
          exact h6
        obtain ⟨r, h7, h8⟩ := ih (h.length - (i + 2)) (by omega) (i + 2) (o ++ [rd h i]) rfl (by simp; omega) (h3.append (Dg.mk (by omega) (by rw [WW_eq]; omega) (Dg.nil _)))
          (by
            intro hle hne
            rw [getLast_snoc]
            exact hl)
          (by
            rw [vl_snoc, List.length_append, List.length_singleton, Int.pow_succ, Int.mul_comm (WW ^ o.length) WW]
            refine alg_w (T := vl HH (h.drop i)) h5 ?_
            rw [vl1 h i (by omega), List.drop_of_length_le (by omega)]
            simp [vl])
        refine ⟨r, ?_, h8⟩
        refine Ev.step (fun k => by rw [isochroneref01_Words.l1]) ?_
        have ew : rd h i % 4294967296 = rd h i := by omega
        rw [wsucc (i := i) (by omega), ew, ei2, w64 (x := ((i + 2 : Nat) : Int)) (by omega) (by omega)]
        exact evp (by omega) (evp (by omega) (evn (by omega) (evp (by omega) h7)))
    · rw [List.drop_of_length_le (by omega)] at h5
      refine ⟨o, ?_, h3, h4 (by omega), by simpa [vl] using h5⟩
      refine Ev.step (fun k => by rw [isochroneref01_Words.l1]) ?_
      exact evn (by omega) (evs _)
theorem alg_h {vh P m q r K n : Int} (h : vh + m * P = n) (h2 : q * K + r = m) : (vh + r * P) + q * (K * P) = n := by grind
theorem r_Words_in (n : Int) (c : Nat) : ∀ (a h : List Int) (m : Int), m.toNat = c → Can RR a m → a.length + h.length < 17179869184 → h.length + 4 * a.length < 17179869184 → Dg HH h → (m = 0 → Nm h) → vl HH h + m * HH ^ h.length = n → (∀ a' : List Int, a'.length ≤ a.length → True) →
    ∃ r, Ev (fun k => isochroneref01_Words.l0 k a h) r ∧ Can WW r n := by
  induction c using Nat.strongRecOn with
  | _ c ih =>
    intro a h m hm ha hl hl2 hd hnm hv _
    have hm0 := ha.nonneg RR_pos
    by_cases hz : m = 0
    · have e : a = [] := (ha.nil_iff RR_pos).2 hz
      subst hz
      subst e
      rw [Int.zero_mul, Int.add_zero] at hv
      obtain ⟨r, h1, h2⟩ := r_Words_out (by omega) hd (hnm rfl) n h.length 0 [] (by omega) rfl (Dg.nil _) (fun _ => Nm.nil) (by simpa [vl] using hv)
      refine ⟨r, ?_, h2⟩
      refine Ev.step (fun k => by rw [isochroneref01_Words.l0]) ?_
      exact evn (by simp) h1
    · have hal : a.length ≠ 0 := fun h0 => hz ((ha.len_iff RR_pos).1 h0)
      obtain ⟨q, h1, h2, h3⟩ := r_Split_sp (K := 65536) (by omega) ha (by omega)
      have hq : q.length + 1 ≤ a.length := by
        have h4 := ha.lt RR_pos
        have h5 : m / 65536 < RR ^ (a.length - 1) := by
          have h6 : RR ^ a.length = RR ^ (a.length - 1) * RR := by
            conv => lhs; rw [show a.length = a.length - 1 + 1 by omega, Int.pow_succ]
          rw [h6, RR_eq] at h4
          rw [RR_eq]
          omega
        have := h2.len_le RR_one h5
        omega
      obtain ⟨r, h7, h8⟩ := ih (m / 65536).toNat (by omega) q (h ++ [m % 65536]) (m / 65536) rfl h2 (by simp; omega) (by simp; omega) (hd.append (Dg.mk (by omega) (by rw [HH_eq]; omega) (Dg.nil _)))
        (by
          intro hz2 hne
          rw [getLast_snoc]
          omega)
        (by rw [vl_snoc, List.length_append, List.length_singleton, Int.pow_succ, Int.mul_comm (HH ^ h.length) HH]; exact alg_h hv (by rw [HH_eq]; omega)) (fun _ _ => trivial)
      refine ⟨r, ?_, h8⟩
      refine Ev.step (fun k => by rw [isochroneref01_Words.l0]) ?_
      exact evp (by omega) (Ev.bind h1 (evp (by omega) h7))
theorem r_Words_sp {a : List Int} {n : Int} (hn : a.length < 1073741824) (ha : Can RR a n) : ∃ r, Ev (fun k => isochroneref01_Words.f k a) r ∧ Can WW r n := by
  obtain ⟨r, h1, h2⟩ := r_Words_in n n.toNat a [] n rfl ha (by simp; omega) (by simp; omega) (Dg.nil _) (fun _ => Nm.nil) (by simp [vl]) (fun _ _ => trivial)
  exact ⟨r, Ev.congr (fun k => by rw [isochroneref01_Words.f]) h1, h2⟩
theorem eq_ev {a b : List Int} (hl : a.length = b.length) (hn : a.length < 4611686018427387904) (d : Nat) : ∀ i : Nat, a.length - i = d → i ≤ a.length → a.take i = b.take i → ∃ r, Ev (fun k => slices_Equal_uint32_uint32.l0 k a b (a.length : Int) (i : Int)) r ∧ (r = true ↔ a = b) := by
  induction d with
  | zero =>
    intro i h1 h2 h3
    have e : i = a.length := by omega
    subst e
    rw [List.take_length, List.take_of_length_le (by omega)] at h3
    refine ⟨true, ?_, by simp [h3]⟩
    refine Ev.step (fun k => by rw [slices_Equal_uint32_uint32.l0]) ?_
    exact evn (by omega) (evs _)
  | succ d ih =>
    intro i h1 h2 h3
    by_cases he : rd a i = rd b i
    · obtain ⟨r, h4, h5⟩ := ih (i + 1) (by omega) (by omega) (by
        rw [List.take_succ_eq_append_getElem (by omega), List.take_succ_eq_append_getElem (by omega), h3, ← rd_lt a i (by omega), ← rd_lt b i (by omega), he])
      refine ⟨r, ?_, h5⟩
      refine Ev.step (fun k => by rw [slices_Equal_uint32_uint32.l0]) ?_
      rw [wsucc (i := i) (by omega)]
      exact evp (by omega) (evp (by omega) (evp (by omega) (evp (by omega) (evp he h4))))
    · refine ⟨false, ?_, by
        simp only [Bool.false_eq_true, false_iff]
        rintro rfl
        exact he rfl⟩
      refine Ev.step (fun k => by rw [slices_Equal_uint32_uint32.l0]) ?_
      exact evp (by omega) (evp (by omega) (evp (by omega) (evp (by omega) (evn he (evs _)))))
theorem eq_sp (a b : List Int) (hn : a.length < 4611686018427387904) : ∃ r, Ev (fun k => slices_Equal_uint32_uint32.f k a b) r ∧ (r = true ↔ a = b) := by
  unfold slices_Equal_uint32_uint32.f
  by_cases hl : a.length = b.length
  · obtain ⟨r, h1, h2⟩ := eq_ev hl hn a.length 0 (by omega) (by omega) (by simp)
    exact ⟨r, evp (by omega) h1, h2⟩
  · refine ⟨false, evn (by omega) (evs _), ?_⟩
    simp only [Bool.false_eq_true, false_iff]
    rintro rfl
    exact hl rfl
theorem valid_sp (l : List Int) (hl : l.length < 4611686018427387904) : ∃ b, isochroneref01_Valid.f l = some b ∧ nat_Valid.f l = some b ∧ (b = true ↔ l.length ≤ 4096 ∧ Nm l) := by
  unfold isochroneref01_Valid.f nat_Valid.f
  by_cases h1 : l.length ≤ 4096
  · by_cases h0 : l.length = 0
    · refine ⟨true, by rw [if_pos (by omega), if_pos (by omega)], by rw [if_pos (by omega), if_pos (by omega)], ?_⟩
      have : l = [] := List.eq_nil_of_length_eq_zero h0
      subst this
      simp
      exact Nm.nil
    · have e : wrap64 ((l.length : Int) - 1) = (l.length : Int) - 1 := w64 (by omega) (by omega)
      rw [e, if_pos (by omega), if_neg (by omega), if_pos (by omega), if_pos (by omega)]
      refine ⟨_, rfl, rfl, ?_⟩
      simp only [bne_iff_ne]
      constructor
      · intro h
        exact ⟨h1, nm_of_rd (fun _ => h)⟩
      · intro h
        exact h.2.rd (by omega)
  · refine ⟨false, by rw [if_neg (by omega)], by rw [if_neg (by omega)], ?_⟩
    simp
    omega
theorem awake_ok : Ev (fun k => isochronelaw01_awake.f k) true := Ev.of (fun k => isochronelaw01_awake.mono k) (k := 60) (by decide +kernel)
end Go.Proofs.Ytfmobogdnlmdbaa.P
end
section
namespace Go.Proofs.Ytfmobogdnlmdbaa.P
open Go.RowKit Go.Proofs.YtfmobogdnlmdbaaW.PrintWords Go.Proofs.YtfmobogdnlmdbaaW.PrintLast Go.Proofs.YtfmobogdnlmdbaaW.PrintMore
set_option linter.unusedVariables false
theorem and64_16 {x : Int} (h0 : 0 ≤ x) (h1 : x < 18446744073709551616) : Go.bits .and .u64 x 65535 = x % 65536 :=
  bits_mask .u64 64 (by decide) (fun n h0 h1 => by rw [IntKind.wrap_u64]; omega) 16 (by decide) x h0 h1
theorem forms_want {n : Int} (h0 : 0 ≤ n) (h1 : n < 18446744073709551616) {f : Nat → List Int → Option Bool} (h : ∀ t, Can WW t n → Ev (fun k => f k t) true) :
    Ev (fun k => (isochroneref01_Int.f k (wrap64 (n / 281474976710656))).bind fun t962 => ((isochroneref01_Small.f k t962 65536 (wrap64 (Go.bits .and .u64 (n / 4294967296) 65535))).bind fun t965 => ((isochroneref01_Small.f k t965 65536 (wrap64 (Go.bits .and .u64 (n / 65536) 65535))).bind fun t968 => ((isochroneref01_Small.f k t968 65536 (wrap64 (Go.bits .and .u64 n 65535))).bind fun t971 => ((isochroneref01_Words.f k t971).bind fun t974 => f k t974))))) true := by
  rw [and64_16 (x := n) (by omega) (by omega), and64_16 (x := n / 65536) (by omega) (by omega), and64_16 (x := n / 4294967296) (by omega) (by omega), w64 (x := n / 281474976710656) (by omega) (by omega), w64 (x := n / 4294967296 % 65536) (by omega) (by omega), w64 (x := n / 65536 % 65536) (by omega) (by omega), w64 (x := n % 65536) (by omega) (by omega)]
  obtain ⟨a, a1, a2⟩ := r_Int_sp (a := n / 281474976710656) (by omega) (by omega)
  have l1 := a2.len_le (k := 2) RR_one (by rw [show RR ^ 2 = 100000000 by decide]; omega)
  obtain ⟨b, b1, b2, b3⟩ := r_Small_sp (k0 := 65536) (c0 := n / 4294967296 % 65536) (by omega) a2 (by omega) (by omega)
  obtain ⟨c, c1, c2, c3⟩ := r_Small_sp (k0 := 65536) (c0 := n / 65536 % 65536) (by omega) b2 (by omega) (by omega)
  obtain ⟨d, d1, d2, d3⟩ := r_Small_sp (k0 := 65536) (c0 := n % 65536) (by omega) c2 (by omega) (by omega)
  obtain ⟨w, w1, w2⟩ := r_Words_sp (by omega) d2
  have e : ((n / 281474976710656 * 65536 + n / 4294967296 % 65536) * 65536 + n / 65536 % 65536) * 65536 + n % 65536 = n := by omega
  rw [e] at w2
  exact Ev.bind a1 (Ev.bind b1 (Ev.bind c1 (Ev.bind d1 (Ev.bind w1 (h w w2)))))
theorem both_any (a b : List Int) (la : a.length < 4611686018427387904) (lb : b.length < 4611686018427387904) {p q : Bool} (hp : nat_Valid.f a = some p) (hq : nat_Valid.f b = some q) : nat_both.f a b = some (p && q) := by
  unfold nat_both.f
  rw [hp, hq]
  cases p <;> rfl
theorem forms_j3 {a : List Int} {p : Bool} (h1 : isochroneref01_Valid.f a = some p) (h2 : nat_Valid.f a = some p) : Ev (fun k => isochronelaw01_NatForms.j3 k a false) true := by
  refine Ev.step (fun k => by rw [isochronelaw01_NatForms.j3]) ?_
  refine evn (by simp) (evb h1 ?_)
  cases p with
  | true => exact evp rfl (evs _)
  | false =>
    refine evn (by simp) ?_
    have f1 : Ev (fun k => nat_Pow.f k a 2) (([] : List Int), 3) := by
      unfold nat_Pow.f
      exact evb h2 (evn (by simp) (evs _))
    have f2 : Ev (fun k => nat_Shift.f k a 1) (([] : List Int), 3) := by
      unfold nat_Shift.f
      exact evb h2 (evn (by simp) (evs _))
    have f3 : nat_Bits.f a = some (0, 3) := by
      unfold nat_Bits.f
      rw [h2]
      rfl
    have f4 : Ev (fun k => nat_Root.f k a) (([] : List Int), 3) := by
      unfold nat_Root.f
      exact evb h2 (evn (by simp) (evs _))
    have f5 : Ev (fun k => nat_Text.f k a) ((⟨#[]⟩ : ByteArray), 3) := by
      unfold nat_Text.f
      exact evb h2 (evn (by simp) (evs _))
    refine Ev.bind f1 (Ev.bind f2 (evb f3 (Ev.bind f4 (Ev.bind f5 (evp rfl (evp rfl (evp rfl (evp rfl (evp rfl ?_)))))))))
    exact evk (by decide +kernel)
theorem forms_j2 {a b : List Int} {p q : Bool} (la : a.length < 4611686018427387904) (lb : b.length < 4611686018427387904) (h1 : isochroneref01_Valid.f a = some p) (h2 : nat_Valid.f a = some p) (h4 : nat_Valid.f b = some q) (hpq : (p && q) = false) :
    Ev (fun k => isochronelaw01_NatForms.j2 k a b false) true := by
  have bo := both_any a b la lb h2 h4
  rw [hpq] at bo
  have f1 : Ev (fun k => nat_Cmp.f k a b) (0, 3) := by
    unfold nat_Cmp.f
    exact evb bo (evn (by simp) (evs _))
  have f2 : Ev (fun k => nat_Add.f k a b) (([] : List Int), 3) := by
    unfold nat_Add.f
    exact evb bo (evn (by simp) (evs _))
  have f3 : Ev (fun k => nat_Sub.f k a b) (([] : List Int), 3) := by
    unfold nat_Sub.f
    exact evb bo (evn (by simp) (evs _))
  have f4 : Ev (fun k => nat_Mul.f k a b) (([] : List Int), 3) := by
    unfold nat_Mul.f
    exact evb bo (evn (by simp) (evs _))
  have f5 : Ev (fun k => nat_DivMod.f k a b) (([] : List Int), ([] : List Int), 3) := by
    unfold nat_DivMod.f
    exact evb bo (evn (by simp) (evs _))
  have f6 : Ev (fun k => nat_GCD.f k a b) (([] : List Int), 3) := by
    unfold nat_GCD.f
    exact evb bo (evn (by simp) (evs _))
  refine Ev.step (fun k => by rw [isochronelaw01_NatForms.j2]) ?_
  refine evn (by simp) (Ev.bind f1 (Ev.bind f2 (Ev.bind f3 (Ev.bind f4 (Ev.bind f5 (Ev.bind f6 (evp rfl (evp rfl (evp rfl (evp rfl (evp rfl (evp rfl ?_))))))))))))
  exact Ev.congr (fun k => congrArg (isochronelaw01_NatForms.j3 k a) (by decide +kernel)) (forms_j3 h1 h2)
theorem forms_j1 {a b : List Int} {p q : Bool} (la : a.length < 4611686018427387904) (lb : b.length < 4611686018427387904) (h1 : isochroneref01_Valid.f a = some p) (h2 : nat_Valid.f a = some p) (h3 : isochroneref01_Valid.f b = some q) (h4 : nat_Valid.f b = some q) :
    Ev (fun k => isochronelaw01_NatForms.j1 k a b false) true := by
  refine Ev.step (fun k => by rw [isochronelaw01_NatForms.j1]) ?_
  refine evn (by simp) (evb h1 ?_)
  cases p with
  | false => exact evn (by simp) (forms_j2 la lb h1 h2 h4 rfl)
  | true =>
    refine evp rfl (evb h3 ?_)
    cases q with
    | false => exact forms_j2 la lb h1 h2 h4 rfl
    | true =>
      refine Ev.step (fun k => by rw [isochronelaw01_NatForms.j2]) ?_
      exact evp rfl (evs _)
theorem NatForms : isochronelaw01_NatForms.Pure := by
  intro a b n ha1 ha2 ha3 hb1 hb2 hb3 hn
  refine Ev.rounds ?_
  unfold isochronelaw01_NatForms.f
  refine Ev.bind awake_ok (evp rfl ?_)
  have hn' : 0 ≤ n ∧ n < 18446744073709551616 := by
    have h2 : IntKind.u64.min = 0 := rfl
    have h3 : IntKind.u64.max = 18446744073709551615 := rfl
    simp only [Lit.wf, Bool.and_eq_true, decide_eq_true_eq, h2, h3] at hn
    omega
  obtain ⟨p, p1, p2, p3⟩ := valid_sp a (by omega)
  obtain ⟨q, q1, q2, q3⟩ := valid_sp b (by omega)
  have main : ∀ f : Bool, Ev (fun k => isochronelaw01_NatForms.j0 k a b n f) true := by
    intro f
    refine Ev.step (fun k => by rw [isochronelaw01_NatForms.j0]) ?_
    cases f with
    | true => exact evp rfl (evs _)
    | false =>
      refine evn (by simp) (forms_want hn'.1 hn'.2 fun t ht => ?_)
      obtain ⟨r, r1, r2⟩ := mag_From_sp hn'.1 hn'.2
      have e := can_uniq WW_pos r2 ht
      subst e
      have hW2 : WW ^ 2 = 18446744073709551616 := by decide
      have l := r2.len_le (k := 2) WW_one (by omega)
      have hF : Ev (fun k => nat_From.f k n) r := by
        unfold nat_From.f
        exact Ev.bind r1 (evs _)
      obtain ⟨e, e1, e2⟩ := eq_sp r r (by omega)
      have : e = true := e2.2 rfl
      subst this
      refine Ev.bind hF (Ev.bind e1 (evp rfl (evb p2 (evb p1 (evn (by simp) (evb q2 (evb q1 ?_)))))))
      have : (q != q) = false := by simp
      simp only [this]
      exact forms_j1 (by omega) (by omega) p1 p2 q1 q2
  by_cases c : (a.length : Int) > 5000
  · exact evp c (main _)
  · exact evn c (main _)
end Go.Proofs.Ytfmobogdnlmdbaa.P
namespace Go.Proofs.Ytfmobogdnlmdbaa.Pure
theorem NatForms : P.isochronelaw01_NatForms.Pure := P.NatForms
end Go.Proofs.Ytfmobogdnlmdbaa.Pure
end
section
namespace Go.Proofs.YtfmobogdnlmdbaaW.PrintWords
open Go.ChangeShapes Go.WideShapes
theorem sized_ints {H : Type} {enc : TypeId × Value → H} {P : Program} {W : World} {base : Nat} {spare : Nat → Bool} {held : Bool} {t e : TypeId} {k : IntKind} {a : Option Addr} {len cap : Nat} {d : DataW H} {ps : List MemPlace} {ts : List TypeId} {ds : List (DataW H)} {j : Nat}
    (hsz : (DataW.weightsEach P ts ds).all (· ≤ reachBytes) = true) (ht : ts[j]? = some t) (hd : ds[j]? = some d) (hu : P.underlying t = some (.slice e)) (he : P.underlying e = some (.int k)) (hc : P.cellsOf e = 1) {B : Nat} (hB : P.bytesOf e = B)
    (h : DataW.Trod enc P W base spare held t (.slice a len cap) d ps) : len * B ≤ 140737488351232 := by
  obtain ⟨fuel, hf⟩ := h
  rcases open_ints hu he hc hf with ⟨hcs, _⟩ | ⟨x, l, c, zs, hcs, _, hl, _, hz, hx, _, _⟩
  · simp [Value.cells] at hcs
    obtain ⟨rfl, rfl, rfl⟩ := hcs
    simp
  · simp [Value.cells] at hcs
    obtain ⟨rfl, rfl, rfl⟩ := hcs
    obtain ⟨hx, _⟩ := Prod.mk.inj hx
    subst hx
    have z := sized_slice hsz ht hd hu
    rw [hB] at z
    have hl2 : len ≤ zs.length := by
      rw [hz]
      split
      · exact hl
      · exact Nat.le_refl _
    have h1 : (lits (H := H) k (zs.take len)).length + (lits (H := H) k (zs.drop len)).length = zs.length := by
      simp [lits]
      omega
    rw [h1] at z
    exact Nat.le_trans (Nat.mul_le_mul_right _ hl2) z
end Go.Proofs.YtfmobogdnlmdbaaW.PrintWords
end
section
namespace Go.Proofs.Ytfmobogdnlmdbaa.natForms
open Go.ChangeShapes Go.WideShapes Go.ChangeAt Go.RowKit
open Go.ChangeMaps (open_string shut_string)
set_option linter.unusedVariables false
theorem own : ownKnob Try.prog.godebug = none := by kernel_rfl
theorem laidOut : laidOutB Try.prog = true := by kernel_rfl
def IsRow (k : IntKind) (w : World) (a : Option Addr) (len cap : Nat) (zs : List Int) : Prop :=
  (a = none ∧ len = 0 ∧ cap = 0 ∧ zs = []) ∨
  ∃ x, a = some x ∧ len ≤ cap ∧ cap ≤ maxLen ∧ zs.length = cap ∧ (∀ i, i < zs.length → w.cell? (x.add i) = some (.int k (zs.getD i 0))) ∧ ∀ n ∈ zs, (Lit.int k n).wf = true
set_option maxRecDepth 100000 in
theorem lifted (os : Os) (started : os.Started) (H : Type) (enc : TypeId × Value → H) :
    ReturnsInHanded {} Try.checked os 10 .any (Rows.natFormsSpec.pre6 enc Try.prog Try.f10 Rows.natFormsRow.domain false) (Rows.natFormsSpec.post enc Try.prog Try.f10 false true false false) := by
  refine returnsInHanded_of_change_sized (C := Try.checked) own started (by kernel_rfl) Try.func10
    (ChangeSpec.witness6 (enc := enc) (C := Try.checked) false ⟨#[], #[.slice none 0 0, .slice none 0 0, .int .u64 0], []⟩ 8 (by kernel_rfl) (by kernel_rfl) (by kernel_rfl) (by kernel_rfl)) ?_
  intro W base args ds gs before hval0 hW hcnd hsz0 _
  have hsz : (DataW.weightsEach Try.prog (Try.f10.params.toList ++ Rows.natFormsSpec.plain.varTypes Try.prog) (ds ++ gs)).all (· ≤ reachBytes) = true := hsz0
  have hval : ∀ (j : Nat) t v, Try.f10.params[j]? = some t → args[j]? = some v → Value.okWide Try.prog W .any base t v := hval0
  have hW' := hW
  obtain ⟨p, q, hA0, hV, rfl, hfz, hnd⟩ := hW
  have hA : DataW.TrodAll enc Try.prog W 0 (fun _ => true) true Try.f10.params.toList args.toList ds p := hA0
  rw [Try.params10] at hA hval hsz
  obtain ⟨v0, vs0, d0, ds0, p0, q0, hargs, rfl, rfl, h0, r0⟩ := trodAll_cons hA
  obtain ⟨v1, vs1, d1, ds1, p1, q1, rfl, rfl, rfl, h1, r1⟩ := trodAll_cons r0
  obtain ⟨v2, vs2, d2, ds2, p2, q2, rfl, rfl, rfl, h2, r2⟩ := trodAll_cons r1
  obtain ⟨rfl, rfl, rfl⟩ := trodAll_nil r2
  obtain rfl : args = #[v0, v1, v2] := by cases args; simp_all
  obtain ⟨rfl, rfl⟩ := trodVars_none hV
  obtain ⟨a0, len0, cap0, rfl⟩ := okWide_slice Try.underlying22 (hval 0 22 v0 rfl rfl)
  have k0 := h0
  have lt0 : ∀ x ∈ p0, x.block < W.heap.size := by obtain ⟨m, hm⟩ := k0; exact DataW.trod_lt m _ _ _ hm
  obtain ⟨z0, w0⟩ : ∃ zs, IsRow .u32 W a0 len0 cap0 zs := by
    obtain ⟨fuel, hf⟩ := h0
    rcases open_ints Try.underlying22 Try.underlying36 (by kernel_rfl) hf with ⟨hcs, _⟩ | ⟨x, l, c, zs, hcs, _, hl, hm, hz, _, hcell, hwz⟩
    · simp [Value.cells] at hcs
      obtain ⟨rfl, rfl, rfl⟩ := hcs
      exact ⟨[], .inl ⟨rfl, rfl, rfl, rfl⟩⟩
    · simp [Value.cells] at hcs
      obtain ⟨rfl, rfl, rfl⟩ := hcs
      exact ⟨zs, .inr ⟨_, rfl, hl, hm, by simpa using hz, hcell, hwz⟩⟩
  have y0 : len0 * 4 ≤ 140737488351232 := Go.Proofs.YtfmobogdnlmdbaaW.PrintWords.sized_ints hsz (j := 0) (t := 22) rfl rfl Try.underlying22 Try.underlying36 (by kernel_rfl) (by kernel_rfl) h0
  obtain ⟨a1, len1, cap1, rfl⟩ := okWide_slice Try.underlying22 (hval 1 22 v1 rfl rfl)
  have k1 := h1
  have lt1 : ∀ x ∈ p1, x.block < W.heap.size := by obtain ⟨m, hm⟩ := k1; exact DataW.trod_lt m _ _ _ hm
  obtain ⟨z1, w1⟩ : ∃ zs, IsRow .u32 W a1 len1 cap1 zs := by
    obtain ⟨fuel, hf⟩ := h1
    rcases open_ints Try.underlying22 Try.underlying36 (by kernel_rfl) hf with ⟨hcs, _⟩ | ⟨x, l, c, zs, hcs, _, hl, hm, hz, _, hcell, hwz⟩
    · simp [Value.cells] at hcs
      obtain ⟨rfl, rfl, rfl⟩ := hcs
      exact ⟨[], .inl ⟨rfl, rfl, rfl, rfl⟩⟩
    · simp [Value.cells] at hcs
      obtain ⟨rfl, rfl, rfl⟩ := hcs
      exact ⟨zs, .inr ⟨_, rfl, hl, hm, by simpa using hz, hcell, hwz⟩⟩
  have y1 : len1 * 4 ≤ 140737488351232 := Go.Proofs.YtfmobogdnlmdbaaW.PrintWords.sized_ints hsz (j := 1) (t := 22) rfl rfl Try.underlying22 Try.underlying36 (by kernel_rfl) (by kernel_rfl) h1
  obtain ⟨a2, rfl, rfl, rfl, w2⟩ := open_int Try.underlying59 (hval 2 59 v2 rfl rfl) h2
  clear hA0 hval0 hsz0 hsz
  refine (P.isochronelaw01_NatForms.walk Pure.NatForms a0 len0 cap0 z0 a1 len1 cap1 z1 a2 W w0 y0 w1 y1 w2).mono fun e W' ⟨he, bel⟩ => ?_
  subst he
  exact ⟨_, rfl, _, _, _, [], _, [], hW', trodAll_mk1 (shut_bool Try.underlying4 _), (trodAll_cons_mk (Below.trod laidOut (by kernel_rfl) (of_decide_eq_true (by kernel_rfl)) k0 bel lt0) (trodAll_cons_mk (Below.trod laidOut (by kernel_rfl) (of_decide_eq_true (by kernel_rfl)) k1 bel lt1) (trodAll_cons_mk (shut_int Try.underlying59 w2) trodAll_mk0))), rfl, bel.frame _, fun h => by cases h⟩
theorem over : Rows.natFormsRow.holds Try.pinned (OpenSpec.ofChange Rows.natFormsSpec) :=
  OpenClaim.holds_of_wide 10 Try.f10 rfl rfl rfl rfl rfl rfl rfl ⟨rfl, rfl, rfl, rfl, rfl⟩ rfl rfl rfl rfl rfl (by kernel_rfl) Try.func10 (by kernel_rfl)
    (of_decide_eq_true (by kernel_rfl)) (by unfold Func.isWrapper; first | (rw [if_pos (by decide +kernel)]; kernel_rfl) | (rw [if_neg (by decide +kernel)]; exact ⟨rfl, rfl⟩))
    (fun os started H enc _ => lifted os started H enc)
theorem proved : Rows.NatFormsSaid := over
#print axioms proved
end Go.Proofs.Ytfmobogdnlmdbaa.natForms
namespace Go.Proofs.Ytfmobogdnlmdbaa
theorem natForms_holds : Rows.NatFormsSaid := natForms.proved
end Go.Proofs.Ytfmobogdnlmdbaa
end
