/- An evaluator of the program's code, what its functions come to, and what they mean: text 3. No condition. -/
import Derived.Test.YtfpolhoabfadnaaProg
import Derived.Test.YtfpolhoabfadnaaMakes2
set_option linter.unusedSimpArgs false
section
namespace Go.Proofs.Ytfpolhoabfadnaa.E
open Go.RowKit Go.Proofs.YtfpolhoabfadnaaW.PrintWords Go.Proofs.YtfpolhoabfadnaaW.PrintMore Go.Proofs.Ytfpolhoabfadnaa.V
set_option linter.unusedVariables false
variable {T : Tab}
def orc1 (c0 ct : Ty) (f : Nat → c0.den → Option ct.den) : Orc T := ⟨ct, fun _ k vs => match vs with
  | [x0] => match coe c0 x0 with
    | some a0 => f k a0
    | none => none
  | _ => none⟩
def orc2 (c0 c1 ct : Ty) (f : Nat → c0.den → c1.den → Option ct.den) : Orc T := ⟨ct, fun _ k vs => match vs with
  | [x0, x1] => match coe c0 x0, coe c1 x1 with
    | some a0, some a1 => f k a0 a1
    | _, _ => none
  | _ => none⟩
def orc3 (c0 c1 c2 ct : Ty) (f : Nat → c0.den → c1.den → c2.den → Option ct.den) : Orc T := ⟨ct, fun _ k vs => match vs with
  | [x0, x1, x2] => match coe c0 x0, coe c1 x1, coe c2 x2 with
    | some a0, some a1, some a2 => f k a0 a1 a2
    | _, _, _ => none
  | _ => none⟩
structure OrcGood (T : Tab) (x : Nat × Orc T) : Prop where
  lent : find T.lent_ x.1 = none
  callee : CalleeOk T.P x.1
  fn : ∀ call k vs r, CallOk T call → x.2.g call k vs = some r → ∃ p, (resV (T.several x.1) x.2.t r).pv = some p ∧ V.Fn T.P x.1 (vs.map argPV) p
theorem orcOk_of {orc : List (Nat × Orc T)} (h : ∀ x ∈ orc, OrcGood T x) : OrcOk T orc :=
  ⟨fun g o call k vs r h1 h2 h3 h4 => ⟨(h _ (find_mem h1)).callee, (h _ (find_mem h1)).fn call k vs r h3 h4⟩,
   fun g j e h1 => by
    cases h2 : find orc g with
    | none => rfl
    | some o =>
      have := (h _ (find_mem h2)).lent
      rw [h1] at this
      cases this⟩
theorem argPV_coe {c : Ty} {v : Val} {x : c.den} (h : coe c v = some x) : argPV v = c.pv x := by simp only [argPV, coe_pv h, Option.getD_some]
theorem orc1_good {g : Nat} {c0 ct : Ty} {f : Nat → c0.den → Option ct.den} (hl : find T.lent_ g = none) (hc : CalleeOk T.P g) (hf : ∀ k a0 r, f k a0 = some r → ∃ p, (resV (T.several g) ct r).pv = some p ∧ V.Fn T.P g [c0.pv a0] p) : OrcGood T (g, orc1 c0 ct f) :=
  ⟨hl, hc, fun call k vs r _ h => by
    simp only [orc1] at h
    split at h
    · split at h
      · rename_i x0 a0 h0
        simp only [List.map_cons, List.map_nil, argPV_coe h0]
        exact hf k a0 r h
      · cases h
    · cases h⟩
theorem orc2_good {g : Nat} {c0 c1 ct : Ty} {f : Nat → c0.den → c1.den → Option ct.den} (hl : find T.lent_ g = none) (hc : CalleeOk T.P g) (hf : ∀ k a0 a1 r, f k a0 a1 = some r → ∃ p, (resV (T.several g) ct r).pv = some p ∧ V.Fn T.P g [c0.pv a0, c1.pv a1] p) : OrcGood T (g, orc2 c0 c1 ct f) :=
  ⟨hl, hc, fun call k vs r _ h => by
    simp only [orc2] at h
    split at h
    · split at h
      · rename_i x0 x1 _ _ a0 a1 h0 h1
        simp only [List.map_cons, List.map_nil, argPV_coe h0, argPV_coe h1]
        exact hf k a0 a1 r h
      · cases h
    · cases h⟩
theorem orc3_good {g : Nat} {c0 c1 c2 ct : Ty} {f : Nat → c0.den → c1.den → c2.den → Option ct.den} (hl : find T.lent_ g = none) (hc : CalleeOk T.P g) (hf : ∀ k a0 a1 a2 r, f k a0 a1 a2 = some r → ∃ p, (resV (T.several g) ct r).pv = some p ∧ V.Fn T.P g [c0.pv a0, c1.pv a1, c2.pv a2] p) : OrcGood T (g, orc3 c0 c1 c2 ct f) :=
  ⟨hl, hc, fun call k vs r _ h => by
    simp only [orc3] at h
    split at h
    · split at h
      · rename_i x0 x1 x2 _ _ _ a0 a1 a2 h0 h1 h2
        simp only [List.map_cons, List.map_nil, argPV_coe h0, argPV_coe h1, argPV_coe h2]
        exact hf k a0 a1 a2 r h
      · cases h
    · cases h⟩
theorem ints_enc (k : IntKind) (l : List Int) : l.flatMap (Ty.enc (.int k)) = V.ints k l := by
  induction l with
  | nil => rfl
  | cons x l ih => rw [List.flatMap_cons, ih]; rfl
theorem ints_pv (k : IntKind) (l : List Int) : PV.ints k l = (Ty.list (.int k)).pv l := congrArg (fun z => PV.cv (.row l.length z)) (ints_enc k l).symm
end Go.Proofs.Ytfpolhoabfadnaa.E
end
section
namespace Go.Proofs.Ytfpolhoabfadnaa.E
open Go.RowKit
abbrev c_runtime_errorAddressString : Ty := (.pair .str (.pair (.int .u64) .unit))
abbrev c_isochroneref02_Rat : Ty := (.pair .bool (.pair (.list (.int .i64)) (.pair (.list (.int .i64)) .unit)))
abbrev c_api_Rat : Ty := (.pair .bool (.pair (.list (.int .u32)) (.pair (.list (.int .u32)) .unit)))
abbrev c_runtime_boundsError : Ty := (.pair (.int .i64) (.pair (.int .i64) (.pair .bool (.pair (.int .u8) .unit))))
abbrev c_rat_convergent : Ty := (.pair c_api_Rat (.pair c_api_Rat (.pair c_api_Rat (.pair c_api_Rat .unit))))
def tyTab : List (Nat × Ty) := [(1, .fn), (2, (.int .i64)), (3, (.int .i64)), (4, .bool), (5, (.int .u8)), (6, (.int .u8)), (7, c_runtime_boundsError), (8, c_runtime_boundsError), (9, .str), (10, .str), (11, .str), (12, (.int .u64)), (13, c_runtime_errorAddressString), (14, c_runtime_errorAddressString), (21, (.int .i32)), (22, (.list (.int .u32))), (23, .fn), (24, c_api_Rat), (25, c_api_Rat), (26, (.int .i64)), (28, .fn), (29, .fn), (30, (.list (.int .i64))), (31, (.list (.int .i64))), (32, .fn), (33, (.int .u64)), (34, (.int .u64)), (35, .fn), (36, .fn), (37, c_isochroneref02_Rat), (38, c_isochroneref02_Rat), (39, .fn), (40, .fn), (41, .fn), (42, .fn), (43, .fn), (44, .fn), (45, .fn), (46, .fn), (47, .fn), (48, .fn), (49, .fn), (50, .fn), (51, .fn), (52, .fn), (53, .fn), (54, .fn), (56, .fn), (57, .fn), (58, .fn), (59, .fn), (60, (.int .u16)), (61, .fn), (62, .fn), (63, .fn), (65, .fn), (66, .fn), (67, .fn), (69, .fn), (70, .fn), (71, (.int .u32)), (72, .fn), (73, .fn), (74, .fn), (75, .fn), (77, .fn), (78, .fn), (79, .fn), (80, .fn), (81, .fn), (82, .fn), (83, .fn), (84, .fn), (85, .fn), (86, .fn), (87, .fn), (88, .fn), (89, c_rat_convergent), (90, c_rat_convergent), (91, .fn), (92, .fn), (94, (.list (.int .u8))), (99, .fn), (100, .fn), (102, .fn), (103, .fn), (104, .fn), (106, .fn), (108, .fn), (109, .fn), (110, .fn), (111, .fn), (112, .fn), (113, .fn), (114, .fn), (116, .fn), (117, .fn), (119, .fn), (121, .fn), (122, .fn), (123, .fn), (124, .fn), (125, .fn), (127, .fn), (128, (.list (.int .u64))), (130, .fn), (131, .fn), (133, .fn), (134, .fn), (136, .fn), (138, .fn), (139, .fn), (140, .fn), (142, .fn), (143, .fn), (144, .fn), (145, .fn), (146, .fn), (147, .fn), (149, .fn), (155, .fn), (156, (.int .u8)), (157, (.int .u8)), (158, .fn), (159, (.int .i32)), (160, (.int .i32))]
def elTab : List (Nat × Nat) := [(22, 71), (30, 3), (31, 3), (94, 5), (128, 33)]
def byTab : List (Nat × Nat) := [(3, 8), (5, 1), (33, 8), (71, 4)]
def parTab : List (Nat × List Ty) := [(3, [.bool, (.list (.int .u32)), (.list (.int .u32)), (.int .i64)]), (4, [c_api_Rat, (.int .i64)]), (5, [c_api_Rat, (.int .i64)]), (6, [c_api_Rat, c_api_Rat]), (7, [(.int .i32), (.int .i32), (.int .u16), (.int .u16)]), (8, [c_api_Rat, c_api_Rat]), (9, [c_api_Rat, .str]), (10, []), (11, [.bool, (.list (.int .u32)), (.list (.int .u32))]), (12, [(.int .i64)]), (13, [(.int .i64)]), (14, [(.list (.int .i64)), (.list (.int .i64))]), (15, [(.list (.int .i64)), (.list (.int .i64))]), (16, [(.int .i64)]), (17, [(.list (.int .i64)), (.list (.int .i64))]), (18, [c_api_Rat, c_isochroneref02_Rat]), (19, [.bool, (.list (.int .i64)), (.list (.int .i64))]), (20, [(.list (.int .u32))]), (21, [c_api_Rat]), (22, [(.list (.int .u32))]), (23, [c_api_Rat, c_api_Rat, (.int .i64)]), (24, [c_api_Rat]), (25, [c_api_Rat]), (26, [c_api_Rat, (.int .i64)]), (27, [c_api_Rat, (.int .i64)]), (28, [c_isochroneref02_Rat]), (29, [c_isochroneref02_Rat, c_isochroneref02_Rat]), (30, [c_isochroneref02_Rat]), (31, [c_isochroneref02_Rat, c_isochroneref02_Rat]), (32, [c_api_Rat, (.int .i64)]), (33, [c_isochroneref02_Rat]), (34, []), (35, [c_isochroneref02_Rat, (.int .i64)]), (36, [c_api_Rat, c_api_Rat]), (37, [c_api_Rat, c_api_Rat]), (38, [c_api_Rat, c_api_Rat]), (39, [c_api_Rat, c_api_Rat]), (40, [c_api_Rat]), (41, [c_api_Rat, c_api_Rat]), (42, [c_api_Rat, c_api_Rat]), (43, [c_api_Rat]), (44, [c_isochroneref02_Rat, c_isochroneref02_Rat]), (45, [c_isochroneref02_Rat, c_isochroneref02_Rat]), (46, [c_isochroneref02_Rat, c_isochroneref02_Rat]), (47, [c_isochroneref02_Rat, c_isochroneref02_Rat]), (48, [(.int .i64)]), (49, [c_api_Rat, c_api_Rat]), (50, [c_isochroneref02_Rat]), (51, [c_api_Rat, (.int .i64)]), (52, [c_api_Rat]), (53, []), (54, [c_api_Rat]), (55, [c_api_Rat]), (56, [.str]), (57, [c_isochroneref02_Rat]), (58, [c_api_Rat, c_api_Rat]), (59, [.str]), (60, [(.list (.int .u32))]), (61, [.bool, (.list (.int .u32)), (.list (.int .u32))]), (62, [(.int .u64)]), (63, [(.list (.int .i64))]), (64, [(.list (.int .i64)), (.int .i64), (.int .i64)]), (65, [(.list (.int .i64))]), (66, [(.list (.int .i64)), (.list (.int .i64))]), (67, [(.list (.int .i64)), (.list (.int .i64))]), (68, [c_api_Rat]), (69, [c_api_Rat]), (70, [c_api_Rat, (.int .i64), .fn]), (71, [c_api_Rat]), (72, [c_api_Rat]), (73, [c_api_Rat]), (74, [c_api_Rat]), (75, [(.list (.int .u32))]), (76, [c_api_Rat, (.int .i64)]), (77, [(.list (.int .i64)), (.int .i64)]), (78, [c_api_Rat, c_api_Rat, .fn]), (79, [c_api_Rat, c_api_Rat]), (80, [c_api_Rat, c_api_Rat]), (81, [c_api_Rat, c_api_Rat]), (82, [c_api_Rat, c_api_Rat]), (83, [c_api_Rat, c_api_Rat]), (84, [c_api_Rat, c_api_Rat]), (85, [(.list (.int .i64)), (.list (.int .i64))]), (86, []), (87, []), (88, [c_api_Rat, c_api_Rat]), (89, [c_rat_convergent, c_api_Rat]), (90, [(.list (.int .i64))]), (91, [c_api_Rat, (.int .i64)]), (93, [(.list (.int .u32))]), (95, [c_api_Rat]), (97, [.str, .str]), (98, [.str, .str]), (99, [.str]), (100, [(.list (.int .u32)), (.int .i64)]), (101, [(.list (.int .u32)), (.list (.int .u32))]), (102, [(.list (.int .u32)), (.list (.int .u32))]), (103, [(.list (.int .i64))]), (104, [(.list (.int .u32)), (.list (.int .u32))]), (105, [.str]), (106, [.str]), (107, [(.list (.int .u32)), (.list (.int .u32))]), (108, [(.list (.int .u32)), (.list (.int .u32))]), (109, [(.list (.int .u32))]), (110, [(.list (.int .i64))]), (111, [(.list (.int .i64)), (.int .i64)]), (112, [(.list (.int .i64)), (.list (.int .i64))]), (113, [c_api_Rat, (.int .i64)]), (114, [(.list (.int .u32)), (.int .i64)]), (115, [c_api_Rat]), (116, [(.int .u32)]), (117, [(.list (.int .u32)), (.list (.int .u32))]), (118, [(.list (.int .u32)), (.list (.int .u32))]), (119, [(.int .i64)]), (120, [(.list (.int .u32)), (.int .i64)]), (122, [(.list (.int .u32))]), (123, [(.int .u64), (.int .i64)]), (124, [c_api_Rat]), (125, [.str, .str]), (126, [.str, .str]), (127, [(.list (.int .u32))]), (128, [(.int .u64)]), (129, [(.list (.int .u32)), (.list (.int .u32))]), (130, [(.list (.int .u32)), (.int .u32)]), (131, [(.list (.int .u32)), (.list (.int .u32)), (.int .u64)]), (132, [(.list (.int .u32)), (.list (.int .u32))]), (133, [(.list (.int .u32)), (.int .i64)]), (134, [(.int .u32)]), (136, [.str, .str]), (137, [(.int .u64)]), (138, [(.list (.int .u32)), (.list (.int .u32)), (.int .i64), (.int .i64)]), (139, [.str, (.int .u8)]), (140, [.str, .str]), (141, [(.int .i64)]), (142, [.str, .str]), (143, [.str, (.int .u8)]), (144, [.str])]
def outTab : List (Nat × (Bool × Ty)) := [(3, (false, .bool)), (4, (false, .bool)), (5, (false, .bool)), (6, (false, .bool)), (7, (false, .bool)), (8, (false, .bool)), (9, (false, .bool)), (10, (false, .bool)), (11, (true, (.pair c_api_Rat (.pair (.int .i64) .unit)))), (12, (false, c_api_Rat)), (13, (false, (.list (.int .i64)))), (14, (false, (.list (.int .i64)))), (15, (false, (.list (.int .i64)))), (16, (false, (.list (.int .i64)))), (17, (false, (.list (.int .i64)))), (18, (false, .bool)), (19, (false, c_isochroneref02_Rat)), (20, (false, .bool)), (21, (false, .bool)), (22, (false, (.list (.int .i64)))), (23, (false, .bool)), (24, (false, c_isochroneref02_Rat)), (25, (true, (.pair c_api_Rat (.pair (.int .i64) .unit)))), (26, (true, (.pair c_api_Rat (.pair (.int .i64) .unit)))), (27, (true, (.pair c_api_Rat (.pair (.int .i64) .unit)))), (28, (false, c_isochroneref02_Rat)), (29, (false, c_isochroneref02_Rat)), (30, (false, c_isochroneref02_Rat)), (31, (false, c_isochroneref02_Rat)), (32, (true, (.pair c_api_Rat (.pair (.int .i64) .unit)))), (33, (false, (.int .i64))), (34, (false, c_isochroneref02_Rat)), (35, (false, c_isochroneref02_Rat)), (36, (true, (.pair c_api_Rat (.pair (.int .i64) .unit)))), (37, (true, (.pair c_api_Rat (.pair (.int .i64) .unit)))), (38, (true, (.pair c_api_Rat (.pair (.int .i64) .unit)))), (39, (true, (.pair c_api_Rat (.pair (.int .i64) .unit)))), (40, (true, (.pair c_api_Rat (.pair (.int .i64) .unit)))), (41, (true, (.pair c_api_Rat (.pair (.int .i64) .unit)))), (42, (true, (.pair (.int .i64) (.pair (.int .i64) .unit)))), (43, (true, (.pair (.int .i64) (.pair (.int .i64) .unit)))), (44, (false, c_isochroneref02_Rat)), (45, (false, c_isochroneref02_Rat)), (46, (false, c_isochroneref02_Rat)), (47, (false, (.int .i64))), (48, (false, c_isochroneref02_Rat)), (49, (true, (.pair c_api_Rat (.pair (.int .i64) .unit)))), (50, (false, c_api_Rat)), (51, (false, .bool)), (52, (false, .bool)), (53, (false, c_isochroneref02_Rat)), (54, (false, .bool)), (55, (true, (.pair .str (.pair (.int .i64) .unit)))), (56, (true, (.pair c_api_Rat (.pair (.int .i64) .unit)))), (57, (false, .str)), (58, (false, .bool)), (59, (true, (.pair c_isochroneref02_Rat (.pair (.int .i64) .unit)))), (60, (false, .bool)), (61, (false, c_api_Rat)), (62, (false, (.list (.int .u32)))), (63, (false, (.list (.int .i64)))), (64, (false, (.list (.int .i64)))), (65, (false, (.list (.int .i64)))), (66, (false, (.list (.int .i64)))), (67, (true, (.pair (.list (.int .i64)) (.pair (.list (.int .i64)) .unit)))), (68, (true, (.pair c_api_Rat (.pair (.int .i64) .unit)))), (69, (false, c_api_Rat)), (70, (true, (.pair c_api_Rat (.pair (.int .i64) .unit)))), (71, (false, c_api_Rat)), (72, (false, c_api_Rat)), (73, (false, (.int .i64))), (74, (false, c_api_Rat)), (75, (false, (.int .i64))), (76, (false, c_api_Rat)), (77, (false, (.list (.int .i64)))), (78, (true, (.pair c_api_Rat (.pair (.int .i64) .unit)))), (79, (false, c_api_Rat)), (80, (false, c_api_Rat)), (81, (false, c_api_Rat)), (82, (false, c_api_Rat)), (83, (false, c_api_Rat)), (84, (false, (.int .i64))), (85, (false, (.int .i64))), (86, (false, c_api_Rat)), (87, (false, c_api_Rat)), (88, (false, .bool)), (89, (true, (.pair .unit c_rat_convergent))), (90, (false, (.list (.int .u32)))), (91, (false, .bool)), (93, (true, (.pair .str (.pair (.int .i64) .unit)))), (95, (false, .bool)), (97, (false, .bool)), (98, (true, (.pair .str (.pair .str (.pair .bool .unit))))), (99, (true, (.pair (.list (.int .u32)) (.pair (.int .i64) .unit)))), (100, (true, (.pair (.list (.int .u32)) (.pair (.int .i64) .unit)))), (101, (false, (.list (.int .u32)))), (102, (false, (.list (.int .u32)))), (103, (false, .str)), (104, (false, .bool)), (105, (false, .bool)), (106, (false, (.list (.int .i64)))), (107, (false, (.list (.int .u32)))), (108, (true, (.pair (.list (.int .u32)) (.pair (.list (.int .u32)) .unit)))), (109, (false, (.list (.int .u32)))), (110, (true, (.pair (.int .i64) (.pair .bool .unit)))), (111, (true, (.pair (.list (.int .i64)) (.pair (.int .i64) .unit)))), (112, (false, (.int .i64))), (113, (false, .bool)), (114, (false, (.list (.int .u32)))), (115, (false, c_api_Rat)), (116, (false, (.int .i64))), (117, (false, (.int .i64))), (118, (false, (.list (.int .u32)))), (119, (false, c_api_Rat)), (120, (false, .bool)), (122, (true, (.pair (.int .u64) (.pair .bool .unit)))), (123, (false, (.list (.int .u8)))), (124, (false, .bool)), (125, (false, .bool)), (126, (true, (.pair .str (.pair .str (.pair .bool .unit))))), (127, (true, (.pair (.list (.int .u32)) (.pair (.int .i64) .unit)))), (128, (false, (.int .i64))), (129, (true, (.pair (.list (.int .u32)) (.pair (.list (.int .u32)) (.pair .bool .unit))))), (130, (true, (.pair (.list (.int .u32)) (.pair (.int .u32) .unit)))), (131, (false, .bool)), (132, (true, .unit)), (133, (false, (.list (.int .u32)))), (134, (false, (.int .i64))), (136, (false, (.int .i64))), (137, (false, (.int .i64))), (138, (false, (.list (.int .u32)))), (139, (false, (.int .i64))), (140, (false, (.int .i64))), (141, (false, (.int .i64))), (142, (false, (.int .i64))), (143, (false, (.int .i64))), (144, (true, (.pair (.int .u32) (.pair (.int .u32) .unit))))]
def ownTab : List (Nat × List Nat) := [(13, [3, 4, 7, 11]), (14, [5, 44, 48]), (15, [5, 18, 45, 69]), (17, [5, 10, 36]), (64, [7, 13, 25, 29, 35, 39]), (65, [5]), (67, [12, 56, 75]), (90, [3, 6, 17, 20, 47, 50]), (93, [4, 10, 12, 34, 37, 45, 53, 54, 61, 63]), (101, [5, 19, 42, 50]), (102, [5, 24, 54, 64]), (103, [3, 35, 40]), (106, [3, 7, 30, 33]), (108, [4, 6, 10, 33, 35, 52, 53, 64, 156, 162]), (111, [6, 11, 26]), (114, [7, 24, 36, 46]), (118, [5, 12, 35]), (123, [5, 16, 22, 35, 37]), (130, [6, 11, 27]), (131, [0, 37, 57]), (132, [0, 24, 32]), (133, [7, 23, 54])]
def liveTab : List (Nat × List (Nat × List (Nat × Bool × TypeId))) := [(3, [(11, [(0, false, 4), (1, false, 22), (2, false, 22), (3, false, 2), (9, false, 0), (10, false, 26), (11, false, 0), (14, false, 31)])]), (7, [(12, [(9, false, 0), (10, false, 0), (13, false, 0), (14, false, 3)]), (22, [(13, false, 0), (14, false, 3), (17, false, 0)])]), (13, [(2, [(0, false, 3), (3, true, 31)])]), (14, [(4, [(0, false, 31), (1, false, 31), (5, true, 31), (6, false, 3), (7, false, 3)]), (8, [(0, false, 31), (1, false, 31), (5, true, 31), (6, false, 3), (7, false, 3)]), (10, [(0, false, 31), (1, false, 31), (5, true, 31), (6, false, 3), (7, false, 3)])]), (15, [(3, [(1, false, 31), (5, true, 31), (19, false, 31), (20, false, 3), (21, false, 3)]), (7, [(1, false, 31), (5, true, 31), (6, false, 3), (7, false, 3), (8, false, 3), (19, false, 31), (20, false, 3), (21, false, 3), (26, false, 31), (27, false, 3), (28, false, 3)]), (14, [(1, false, 31), (5, true, 31), (8, false, 3), (11, false, 3), (19, false, 31), (20, false, 3), (21, false, 3)])]), (16, [(2, [(0, false, 3), (3, false, 31)])]), (17, [(4, [(1, false, 31), (5, true, 31), (6, false, 3), (12, false, 3), (13, false, 3)]), (9, [(1, false, 31), (5, true, 31), (7, false, 3), (8, false, 3), (12, false, 3), (13, false, 3)]), (13, [(1, false, 31), (5, true, 31), (6, false, 3), (7, false, 3), (8, false, 3), (12, false, 3), (13, false, 3)])]), (22, [(3, [(0, false, 22), (3, false, 31), (4, false, 3)])]), (28, [(4, [(1, false, 0), (2, false, 0), (3, false, 31)])]), (32, [(9, [(1, false, 3), (2, false, 0), (4, false, 0)])]), (49, [(13, [(2, false, 0), (3, false, 0), (4, false, 0), (8, false, 0)]), (21, [(4, false, 0), (8, false, 0)])]), (55, [(6, [(1, false, 0), (4, false, 0)]), (11, [(4, false, 0)])]), (56, [(6, [(0, false, 9), (2, false, 0), (4, false, 4)]), (10, [(2, false, 0), (4, false, 4), (5, false, 9), (6, false, 9), (7, false, 4), (8, false, 4)]), (26, [(2, false, 0), (4, false, 4), (9, false, 22), (11, false, 22)])]), (57, [(4, [(1, false, 0), (3, false, 9)]), (6, [(3, false, 9)])]), (59, [(4, [(0, false, 9), (2, false, 0), (4, false, 4)]), (6, [(0, false, 9), (2, false, 0), (4, false, 4), (5, false, 3), (6, false, 5), (22, false, 3), (23, false, 3)]), (11, [(0, false, 9), (2, false, 0), (4, false, 4), (5, false, 3), (6, false, 5)]), (18, [(0, false, 9), (2, false, 0), (4, false, 4), (5, false, 3), (6, false, 5), (8, false, 31), (9, false, 31)]), (21, [(2, false, 0), (4, false, 4), (8, false, 31), (9, false, 31)])]), (61, [(7, [(0, false, 4), (1, false, 22), (2, false, 22), (6, false, 0)])]), (63, [(2, [(0, false, 31), (3, false, 3)])]), (64, [(3, [(1, false, 3), (2, false, 3), (7, true, 31), (14, false, 31), (15, false, 3), (16, false, 3)]), (9, [(2, false, 3), (7, true, 31)])]), (66, [(1, [(0, false, 31), (1, false, 31)]), (5, [(5, false, 3), (7, false, 3)])]), (67, [(13, [(0, false, 31), (1, false, 31), (12, true, 31), (13, false, 31), (14, false, 3)]), (14, [(0, false, 31), (1, false, 31), (12, true, 31), (13, false, 31), (14, false, 3)])]), (69, [(4, [(1, false, 0), (2, false, 0), (3, false, 22)])]), (76, [(2, [(1, false, 3), (2, false, 0), (4, false, 0), (5, false, 0)]), (3, [(1, false, 3), (2, false, 0), (4, false, 0), (5, false, 0)]), (6, [(1, false, 3), (2, false, 0), (4, false, 0), (5, false, 0)])]), (77, [(3, [(0, false, 31), (5, false, 31), (7, false, 3), (8, false, 3)])]), (79, [(4, [(2, false, 0), (3, false, 0), (4, false, 0), (5, false, 22), (6, false, 22), (7, false, 22)])]), (85, [(6, [(0, false, 31), (1, false, 31), (5, false, 3)])]), (90, [(2, [(0, false, 31), (3, true, 30)]), (8, [(3, true, 30), (6, true, 22), (7, false, 3)]), (13, [(3, true, 30), (6, true, 22), (7, false, 3), (8, false, 71)])]), (93, [(7, [(0, false, 22), (4, true, 128), (5, false, 22)]), (14, [(4, true, 128), (10, true, 94), (11, false, 3)])]), (99, [(9, [(0, false, 9), (4, false, 22), (5, false, 33), (6, false, 33), (7, false, 3)]), (16, [(0, false, 9), (4, false, 22), (5, false, 33), (6, false, 33), (7, false, 3)])]), (100, [(13, [(0, false, 22), (1, false, 3), (6, false, 22), (7, false, 3)]), (14, [(0, false, 22), (1, false, 3), (6, false, 22), (7, false, 3)])]), (101, [(3, [(0, false, 22), (1, false, 22)]), (6, [(0, false, 22), (1, false, 22), (5, true, 22), (6, false, 33), (20, false, 22), (21, false, 3), (22, false, 3)]), (11, [(0, false, 22), (1, false, 22), (5, true, 22), (6, false, 33), (7, false, 3), (20, false, 22), (21, false, 3), (22, false, 3)])]), (102, [(5, [(1, false, 22), (5, true, 22), (25, false, 22), (26, false, 3), (27, false, 3)]), (9, [(1, false, 22), (5, true, 22), (6, false, 3), (7, false, 71), (8, false, 33), (25, false, 22), (26, false, 3), (27, false, 3), (32, false, 22), (33, false, 3), (34, false, 3)])]), (103, [(5, [(0, false, 31), (3, true, 94), (4, false, 3)]), (8, [(0, false, 31), (3, true, 94), (4, false, 3), (5, false, 3)]), (9, [(0, false, 31), (3, true, 94), (4, false, 3), (5, false, 3)])]), (104, [(4, [(0, false, 22), (1, false, 22), (12, false, 3), (13, false, 3)])]), (105, [(2, [(0, false, 9), (5, false, 3), (6, false, 3)])]), (106, [(3, [(0, false, 9), (3, true, 31), (4, false, 3)]), (7, [(0, false, 9), (3, true, 31), (4, false, 3), (5, false, 3), (6, false, 3)])]), (107, [(3, [(0, false, 22), (1, false, 22)]), (14, [(12, false, 33), (14, false, 33)])]), (108, [(14, [(4, true, 22), (8, false, 3), (9, false, 22), (10, true, 22), (11, false, 3), (12, false, 33), (13, false, 33), (14, false, 3)]), (18, [(4, true, 22), (8, false, 3), (9, false, 22), (10, true, 22), (11, false, 3), (12, false, 33), (13, false, 33), (14, false, 3), (16, false, 33), (17, false, 33)]), (22, [(4, true, 22), (8, false, 3), (9, false, 22), (10, true, 22), (11, false, 3), (12, false, 33), (13, false, 33), (14, false, 3), (16, false, 33)]), (25, [(4, true, 22), (8, false, 3), (9, false, 22), (10, true, 22), (11, false, 3), (12, false, 33), (13, false, 33), (14, false, 3), (16, false, 33)])]), (109, [(1, [(0, false, 22)])]), (110, [(5, [(0, false, 31), (4, false, 3), (5, false, 3)])]), (111, [(4, [(0, false, 31), (1, false, 3), (6, true, 31), (7, false, 3), (8, false, 3)])]), (112, [(4, [(0, false, 31), (1, false, 31), (5, false, 3), (6, false, 3), (7, false, 3), (8, false, 3)]), (5, [(0, false, 31), (1, false, 31), (5, false, 3), (6, false, 3), (7, false, 3), (8, false, 3)]), (10, [(0, false, 31), (1, false, 31), (5, false, 3), (6, false, 3), (7, false, 3), (9, false, 3)]), (15, [(0, false, 31), (1, false, 31), (6, false, 3), (7, false, 3)]), (16, [(0, false, 31), (1, false, 31), (10, false, 3)]), (18, [(0, false, 31), (1, false, 31), (10, false, 3)])]), (114, [(6, [(5, false, 3), (6, false, 34), (7, true, 22), (25, false, 22), (26, false, 3), (27, false, 3)])]), (117, [(6, [(0, false, 22), (1, false, 22), (5, false, 3)])]), (118, [(4, [(1, false, 22), (5, true, 22), (6, false, 33), (13, false, 22), (14, false, 3), (15, false, 3)]), (9, [(1, false, 22), (5, true, 22), (7, false, 3), (9, false, 33), (13, false, 22), (14, false, 3), (15, false, 3)])]), (123, [(2, [(0, false, 33), (1, false, 3), (5, true, 94)]), (6, [(5, true, 94), (6, false, 3), (7, false, 3)])]), (129, [(8, [(0, false, 22), (1, false, 22), (12, false, 2), (13, false, 2), (14, false, 2), (15, false, 2), (16, false, 2), (17, false, 2)]), (14, [(0, false, 22), (1, false, 22), (12, false, 2), (13, false, 2), (14, false, 2), (15, false, 2)])]), (130, [(4, [(0, false, 22), (1, false, 71), (6, true, 22), (7, false, 33), (8, false, 3)])]), (131, [(3, [(0, true, 22), (1, false, 22), (2, false, 33), (7, false, 33), (8, false, 33), (13, false, 22), (14, false, 3), (15, false, 3)])]), (132, [(2, [(0, true, 22), (1, false, 22), (4, false, 33), (7, false, 22), (8, false, 3), (9, false, 3)])]), (133, [(6, [(0, false, 22), (5, false, 3), (6, false, 34), (7, true, 22), (25, false, 3), (26, false, 3)]), (11, [(0, false, 22), (5, false, 3), (6, false, 34), (7, true, 22), (8, false, 3), (9, false, 33), (25, false, 3), (26, false, 3)])]), (134, [(4, [(0, false, 71), (2, false, 3)]), (7, [(0, false, 71), (2, false, 3)])]), (136, [(15, [(0, false, 9), (1, false, 9), (5, false, 3), (6, false, 5), (7, false, 5), (8, false, 3), (9, false, 3), (10, false, 3)]), (21, [(0, false, 9), (1, false, 9), (5, false, 3), (6, false, 5), (7, false, 5), (8, false, 3), (9, false, 3), (10, false, 3)])]), (137, [(4, [(0, false, 33), (2, false, 3)]), (7, [(0, false, 33), (2, false, 3)]), (10, [(0, false, 33), (2, false, 3)])]), (142, [(5, [(0, false, 9), (1, false, 9), (5, false, 71), (6, false, 71), (7, false, 3), (8, false, 71), (9, false, 3)]), (11, [(0, false, 9), (1, false, 9), (5, false, 71), (6, false, 71), (7, false, 3), (8, false, 71), (10, false, 3)])]), (144, [(3, [(0, false, 9), (4, false, 71), (5, false, 3)]), (8, [(4, false, 71), (6, false, 71), (7, false, 71), (8, false, 3)]), (12, [(4, false, 71), (6, false, 71), (7, false, 71), (8, false, 3)])])]
def lentTab : List (Nat × (Nat × TypeId)) := [(89, (0, 90))]
noncomputable def T : Tab := { P := Try.prog, ty := tyTab, el := elTab, by_ := byTab, par := parTab, out_ := outTab, lent_ := lentTab, own := ownTab, live := liveTab }
end Go.Proofs.Ytfpolhoabfadnaa.E
end
section
namespace Go.Proofs.YtfpolhoabfadnaaW.PrintWords
theorem Reps.one {α : Type} {R : α → List Value → Prop} {ps : List α} {cs : List Value} {p : α} {v : Value} (hp : R p [v]) (h : Reps R 1 ps cs) : Reps R 1 (p :: ps) (v :: cs) := by
  refine ⟨by simp [h.1], fun j q hq => ?_⟩
  cases j with
  | zero =>
    simp only [List.getElem?_cons_zero, Option.some.injEq] at hq
    subst hq
    simpa using hp
  | succ j =>
    simp only [List.getElem?_cons_succ] at hq
    have h1 := h.2 j q hq
    simpa [Nat.mul_one] using h1
theorem Reps.front {α : Type} {R : α → List Value → Prop} {size : Nat} {ps : List α} {cs c all : List Value} {p : α} (hp : R p c) (hc : c.length = size) (h : Reps R size ps cs) (ha : c ++ cs = all) : Reps R size (p :: ps) all := by
  subst ha
  refine ⟨by rw [List.length_append, hc, h.1, List.length_cons, Nat.succ_mul, Nat.add_comm], fun j q hq => ?_⟩
  cases j with
  | zero =>
    simp only [List.getElem?_cons_zero, Option.some.injEq] at hq
    subst hq
    rw [Nat.zero_mul, List.drop_zero, List.take_append_of_le_length (by omega), List.take_of_length_le (by omega)]
    exact hp
  | succ j =>
    simp only [List.getElem?_cons_succ] at hq
    have h1 := h.2 j q hq
    rw [Nat.succ_mul, List.drop_append, List.drop_of_length_le (by rw [hc]; exact Nat.le_add_left _ _), List.nil_append, hc, Nat.add_sub_cancel]
    exact h1
theorem Reps.c2 {α : Type} {R : α → List Value → Prop} {ps : List α} {cs : List Value} {p : α} {va vb : Value} (hp : R p [va, vb]) (h : Reps R 2 ps cs) : Reps R 2 (p :: ps) (va :: vb :: cs) := Reps.front hp rfl h rfl
theorem Reps.c3 {α : Type} {R : α → List Value → Prop} {ps : List α} {cs : List Value} {p : α} {va vb vc : Value} (hp : R p [va, vb, vc]) (h : Reps R 3 ps cs) : Reps R 3 (p :: ps) (va :: vb :: vc :: cs) := Reps.front hp rfl h rfl
theorem Reps.c4 {α : Type} {R : α → List Value → Prop} {ps : List α} {cs : List Value} {p : α} {va vb vc vd : Value} (hp : R p [va, vb, vc, vd]) (h : Reps R 4 ps cs) : Reps R 4 (p :: ps) (va :: vb :: vc :: vd :: cs) := Reps.front hp rfl h rfl
theorem Reps.c5 {α : Type} {R : α → List Value → Prop} {ps : List α} {cs : List Value} {p : α} {va vb vc vd ve : Value} (hp : R p [va, vb, vc, vd, ve]) (h : Reps R 5 ps cs) : Reps R 5 (p :: ps) (va :: vb :: vc :: vd :: ve :: cs) := Reps.front hp rfl h rfl
theorem Reps.c6 {α : Type} {R : α → List Value → Prop} {ps : List α} {cs : List Value} {p : α} {va vb vc vd ve vf : Value} (hp : R p [va, vb, vc, vd, ve, vf]) (h : Reps R 6 ps cs) : Reps R 6 (p :: ps) (va :: vb :: vc :: vd :: ve :: vf :: cs) := Reps.front hp rfl h rfl
theorem Reps.c7 {α : Type} {R : α → List Value → Prop} {ps : List α} {cs : List Value} {p : α} {va vb vc vd ve vf vg : Value} (hp : R p [va, vb, vc, vd, ve, vf, vg]) (h : Reps R 7 ps cs) : Reps R 7 (p :: ps) (va :: vb :: vc :: vd :: ve :: vf :: vg :: cs) := Reps.front hp rfl h rfl
theorem Reps.c8 {α : Type} {R : α → List Value → Prop} {ps : List α} {cs : List Value} {p : α} {va vb vc vd ve vf vg vh : Value} (hp : R p [va, vb, vc, vd, ve, vf, vg, vh]) (h : Reps R 8 ps cs) : Reps R 8 (p :: ps) (va :: vb :: vc :: vd :: ve :: vf :: vg :: vh :: cs) := Reps.front hp rfl h rfl
theorem Reps.c9 {α : Type} {R : α → List Value → Prop} {ps : List α} {cs : List Value} {p : α} {va vb vc vd ve vf vg vh vi : Value} (hp : R p [va, vb, vc, vd, ve, vf, vg, vh, vi]) (h : Reps R 9 ps cs) : Reps R 9 (p :: ps) (va :: vb :: vc :: vd :: ve :: vf :: vg :: vh :: vi :: cs) := Reps.front hp rfl h rfl
theorem Reps.c10 {α : Type} {R : α → List Value → Prop} {ps : List α} {cs : List Value} {p : α} {va vb vc vd ve vf vg vh vi vj : Value} (hp : R p [va, vb, vc, vd, ve, vf, vg, vh, vi, vj]) (h : Reps R 10 ps cs) : Reps R 10 (p :: ps) (va :: vb :: vc :: vd :: ve :: vf :: vg :: vh :: vi :: vj :: cs) := Reps.front hp rfl h rfl
end Go.Proofs.YtfpolhoabfadnaaW.PrintWords
end
section
namespace Go.Proofs.Ytfpolhoabfadnaa.P
open Go.RowKit Go.Proofs.YtfpolhoabfadnaaW.PrintWords Go.Proofs.YtfpolhoabfadnaaW.PrintLast Go.Proofs.YtfpolhoabfadnaaW.PrintMore Go.Proofs.YtfpolhoabfadnaaW
attribute [local go_sem] max2_int min2_int max_two min_two max_three min_three max_four min_four
set_option linter.unusedVariables false
set_option linter.unusedSimpArgs false
def mag_Trim.l0 : Nat → List Int → Option (List Int)
 | 0, _ => none
 | k + 1, x0 => if (x0.length : Int) > 0 then (if 0 ≤ (wrap64 ((x0.length : Int) - 1)) then (if (wrap64 ((x0.length : Int) - 1)) < (x0.length : Int) then (if (rd x0 (wrap64 ((x0.length : Int) - 1))) = 0 then (if (wrap64 ((x0.length : Int) - 1)) ≤ (x0.length : Int) then (mag_Trim.l0 k (x0.take ((wrap64 ((x0.length : Int) - 1)) : Int).toNat)) else (none)) else (some x0)) else (none)) else (none)) else (some x0)
def mag_Trim.f (k : Nat) (l0 : List Int) : Option (List Int) := mag_Trim.l0 k l0
theorem mag_Trim.mono_l : ∀ k, (∀ y0, LeO (mag_Trim.l0 k y0) (mag_Trim.l0 (k + 1) y0))
 | 0 => fun _ r h => by simp [mag_Trim.l0] at h
 | k + 1 => by
  have ih0 := mag_Trim.mono_l k
  ·intro y0
   unfold mag_Trim.l0
   repeat' first
   | (with_reducible first | exact ih0 _ | exact LeO.refl _ | exact LeO.none _ | refine LeO.ite ?_ ?_ | refine LeO.bind ?_ (fun _ => ?_))
   | exact ih0 _
   | exact LeO.none _
   | refine LeO.ite ?_ ?_
   | refine LeO.bind ?_ (fun _ => ?_)
theorem mag_Trim.mono : ∀ a0 k, LeO (mag_Trim.f k a0) (mag_Trim.f (k + 1) a0) := by
 intro a0 k
 have ih0 := mag_Trim.mono_l k
 unfold mag_Trim.f
 repeat' first
   | (with_reducible first | exact ih0 _ | exact LeO.refl _ | exact LeO.none _ | refine LeO.ite ?_ ?_ | refine LeO.bind ?_ (fun _ => ?_))
   | exact ih0 _
   | exact LeO.none _
   | refine LeO.ite ?_ ?_
   | refine LeO.bind ?_ (fun _ => ?_)
def mag_From.f (k : Nat) (a0 : Int) : Option (List Int) := (mag_Trim.f k (([(a0) % 4294967296, (a0 / 4294967296) % 4294967296] : List Int))).bind fun t110 => (some t110)
theorem mag_From.mono : ∀ a0 k, LeO (mag_From.f k a0) (mag_From.f (k + 1) a0) := by
 intro a0 k
 unfold mag_From.f
 repeat' first
   | (with_reducible first | exact mag_Trim.mono _ _ | exact LeO.refl _ | exact LeO.none _ | refine LeO.ite ?_ ?_ | refine LeO.bind ?_ (fun _ => ?_))
   | exact mag_Trim.mono _ _
   | exact LeO.none _
   | refine LeO.ite ?_ ?_
   | refine LeO.bind ?_ (fun _ => ?_)
def mag_Shl.l0 : Nat → Int → Int → List Int → List Int → Int → Int → Option (List Int)
 | 0, _, _, _, _, _, _ => none
 | k + 1, x5, x6, x7, x25, x26, x27 => if x27 < x26 then (if 0 ≤ x27 then (if x27 < (x25.length : Int) then (if 0 ≤ x6 then (if 0 ≤ (wrap64 (x27 + x5)) then (if (wrap64 (x27 + x5)) < (x7.length : Int) then (if 0 ≤ (wrap64 ((wrap64 (x27 + x5)) + 1)) then (if (wrap64 ((wrap64 (x27 + x5)) + 1)) < (x7.length : Int) then (mag_Shl.l0 k x5 x6 ((x7.set ((wrap64 (x27 + x5)) : Int).toNat (Go.bits .or .u32 (rd x7 (wrap64 (x27 + x5))) ((shl .u64 (IntKind.u64.wrap (rd x25 x27)) x6) % 4294967296))).set ((wrap64 ((wrap64 (x27 + x5)) + 1)) : Int).toNat (((shl .u64 (IntKind.u64.wrap (rd x25 x27)) x6) / 4294967296) % 4294967296)) x25 x26 (wrap64 (x27 + 1))) else (none)) else (none)) else (none)) else (none)) else (none)) else (none)) else (none)) else ((mag_Trim.f k x7).bind fun t120 => (some t120))
def mag_Shl.f (k : Nat) (l0 : List Int) (a1 : Int) : Option (List Int) := if (l0.length : Int) = 0 then (some ([] : List Int)) else (if 0 ≤ (wrap64 ((wrap64 ((l0.length : Int) + (wrap64 (Int.tdiv a1 32)))) + 1)) then (if (wrap64 ((wrap64 ((l0.length : Int) + (wrap64 (Int.tdiv a1 32)))) + 1) : Int).toNat ≤ 70368744177664 then (mag_Shl.l0 k (wrap64 (Int.tdiv a1 32)) (IntKind.u64.wrap (Int.tmod a1 32)) (List.replicate (wrap64 ((wrap64 ((l0.length : Int) + (wrap64 (Int.tdiv a1 32)))) + 1) : Int).toNat 0) l0 (l0.length : Int) 0) else (none)) else (none))
theorem mag_Shl.mono_l : ∀ k, (∀ y0 y1 y2 y3 y4 y5, LeO (mag_Shl.l0 k y0 y1 y2 y3 y4 y5) (mag_Shl.l0 (k + 1) y0 y1 y2 y3 y4 y5))
 | 0 => fun _ _ _ _ _ _ r h => by simp [mag_Shl.l0] at h
 | k + 1 => by
  have ih0 := mag_Shl.mono_l k
  ·intro y0 y1 y2 y3 y4 y5
   unfold mag_Shl.l0
   repeat' first
   | (with_reducible first | exact ih0 _ _ _ _ _ _ | exact mag_Trim.mono _ _ | exact LeO.refl _ | exact LeO.none _ | refine LeO.ite ?_ ?_ | refine LeO.bind ?_ (fun _ => ?_))
   | exact ih0 _ _ _ _ _ _
   | exact mag_Trim.mono _ _
   | exact LeO.none _
   | refine LeO.ite ?_ ?_
   | refine LeO.bind ?_ (fun _ => ?_)
theorem mag_Shl.mono : ∀ a0 a1 k, LeO (mag_Shl.f k a0 a1) (mag_Shl.f (k + 1) a0 a1) := by
 intro a0 a1 k
 have ih0 := mag_Shl.mono_l k
 unfold mag_Shl.f
 repeat' first
   | (with_reducible first | exact ih0 _ _ _ _ _ _ | exact mag_Trim.mono _ _ | exact LeO.refl _ | exact LeO.none _ | refine LeO.ite ?_ ?_ | refine LeO.bind ?_ (fun _ => ?_))
   | exact ih0 _ _ _ _ _ _
   | exact mag_Trim.mono _ _
   | exact LeO.none _
   | refine LeO.ite ?_ ?_
   | refine LeO.bind ?_ (fun _ => ?_)
def bits_Len32.f (a0 : Int) : Option (Int) := if a0 ≥ 65536 then (if (a0 / 65536) ≥ 256 then (if 0 ≤ (((a0 / 65536) / 256) % 256) then (if (((a0 / 65536) / 256) % 256) < 256 then (some (wrap64 ((16 + 8) + (wrap64 (bt (⟨#[0, 1, 2, 2, 3, 3, 3, 3, 4, 4, 4, 4, 4, 4, 4, 4, 5, 5, 5, 5, 5, 5, 5, 5, 5, 5, 5, 5, 5, 5, 5, 5, 6, 6, 6, 6, 6, 6, 6, 6, 6, 6, 6, 6, 6, 6, 6, 6, 6, 6, 6, 6, 6, 6, 6, 6, 6, 6, 6, 6, 6, 6, 6, 6, 7, 7, 7, 7, 7, 7, 7, 7, 7, 7, 7, 7, 7, 7, 7, 7, 7, 7, 7, 7, 7, 7, 7, 7, 7, 7, 7, 7, 7, 7, 7, 7, 7, 7, 7, 7, 7, 7, 7, 7, 7, 7, 7, 7, 7, 7, 7, 7, 7, 7, 7, 7, 7, 7, 7, 7, 7, 7, 7, 7, 7, 7, 7, 7, 8, 8, 8, 8, 8, 8, 8, 8, 8, 8, 8, 8, 8, 8, 8, 8, 8, 8, 8, 8, 8, 8, 8, 8, 8, 8, 8, 8, 8, 8, 8, 8, 8, 8, 8, 8, 8, 8, 8, 8, 8, 8, 8, 8, 8, 8, 8, 8, 8, 8, 8, 8, 8, 8, 8, 8, 8, 8, 8, 8, 8, 8, 8, 8, 8, 8, 8, 8, 8, 8, 8, 8, 8, 8, 8, 8, 8, 8, 8, 8, 8, 8, 8, 8, 8, 8, 8, 8, 8, 8, 8, 8, 8, 8, 8, 8, 8, 8, 8, 8, 8, 8, 8, 8, 8, 8, 8, 8, 8, 8, 8, 8, 8, 8, 8, 8, 8, 8, 8, 8, 8, 8, 8, 8, 8, 8, 8, 8]⟩ : ByteArray) (((a0 / 65536) / 256) % 256)))))) else (none)) else (none)) else (if 0 ≤ ((a0 / 65536) % 256) then (if ((a0 / 65536) % 256) < 256 then (some (wrap64 (16 + (wrap64 (bt (⟨#[0, 1, 2, 2, 3, 3, 3, 3, 4, 4, 4, 4, 4, 4, 4, 4, 5, 5, 5, 5, 5, 5, 5, 5, 5, 5, 5, 5, 5, 5, 5, 5, 6, 6, 6, 6, 6, 6, 6, 6, 6, 6, 6, 6, 6, 6, 6, 6, 6, 6, 6, 6, 6, 6, 6, 6, 6, 6, 6, 6, 6, 6, 6, 6, 7, 7, 7, 7, 7, 7, 7, 7, 7, 7, 7, 7, 7, 7, 7, 7, 7, 7, 7, 7, 7, 7, 7, 7, 7, 7, 7, 7, 7, 7, 7, 7, 7, 7, 7, 7, 7, 7, 7, 7, 7, 7, 7, 7, 7, 7, 7, 7, 7, 7, 7, 7, 7, 7, 7, 7, 7, 7, 7, 7, 7, 7, 7, 7, 8, 8, 8, 8, 8, 8, 8, 8, 8, 8, 8, 8, 8, 8, 8, 8, 8, 8, 8, 8, 8, 8, 8, 8, 8, 8, 8, 8, 8, 8, 8, 8, 8, 8, 8, 8, 8, 8, 8, 8, 8, 8, 8, 8, 8, 8, 8, 8, 8, 8, 8, 8, 8, 8, 8, 8, 8, 8, 8, 8, 8, 8, 8, 8, 8, 8, 8, 8, 8, 8, 8, 8, 8, 8, 8, 8, 8, 8, 8, 8, 8, 8, 8, 8, 8, 8, 8, 8, 8, 8, 8, 8, 8, 8, 8, 8, 8, 8, 8, 8, 8, 8, 8, 8, 8, 8, 8, 8, 8, 8, 8, 8, 8, 8, 8, 8, 8, 8, 8, 8, 8, 8, 8, 8, 8, 8, 8, 8]⟩ : ByteArray) ((a0 / 65536) % 256)))))) else (none)) else (none))) else (if a0 ≥ 256 then (if 0 ≤ ((a0 / 256) % 256) then (if ((a0 / 256) % 256) < 256 then (some (wrap64 ((0 + 8) + (wrap64 (bt (⟨#[0, 1, 2, 2, 3, 3, 3, 3, 4, 4, 4, 4, 4, 4, 4, 4, 5, 5, 5, 5, 5, 5, 5, 5, 5, 5, 5, 5, 5, 5, 5, 5, 6, 6, 6, 6, 6, 6, 6, 6, 6, 6, 6, 6, 6, 6, 6, 6, 6, 6, 6, 6, 6, 6, 6, 6, 6, 6, 6, 6, 6, 6, 6, 6, 7, 7, 7, 7, 7, 7, 7, 7, 7, 7, 7, 7, 7, 7, 7, 7, 7, 7, 7, 7, 7, 7, 7, 7, 7, 7, 7, 7, 7, 7, 7, 7, 7, 7, 7, 7, 7, 7, 7, 7, 7, 7, 7, 7, 7, 7, 7, 7, 7, 7, 7, 7, 7, 7, 7, 7, 7, 7, 7, 7, 7, 7, 7, 7, 8, 8, 8, 8, 8, 8, 8, 8, 8, 8, 8, 8, 8, 8, 8, 8, 8, 8, 8, 8, 8, 8, 8, 8, 8, 8, 8, 8, 8, 8, 8, 8, 8, 8, 8, 8, 8, 8, 8, 8, 8, 8, 8, 8, 8, 8, 8, 8, 8, 8, 8, 8, 8, 8, 8, 8, 8, 8, 8, 8, 8, 8, 8, 8, 8, 8, 8, 8, 8, 8, 8, 8, 8, 8, 8, 8, 8, 8, 8, 8, 8, 8, 8, 8, 8, 8, 8, 8, 8, 8, 8, 8, 8, 8, 8, 8, 8, 8, 8, 8, 8, 8, 8, 8, 8, 8, 8, 8, 8, 8, 8, 8, 8, 8, 8, 8, 8, 8, 8, 8, 8, 8, 8, 8, 8, 8, 8, 8]⟩ : ByteArray) ((a0 / 256) % 256)))))) else (none)) else (none)) else (if 0 ≤ ((a0) % 256) then (if ((a0) % 256) < 256 then (some (wrap64 (0 + (wrap64 (bt (⟨#[0, 1, 2, 2, 3, 3, 3, 3, 4, 4, 4, 4, 4, 4, 4, 4, 5, 5, 5, 5, 5, 5, 5, 5, 5, 5, 5, 5, 5, 5, 5, 5, 6, 6, 6, 6, 6, 6, 6, 6, 6, 6, 6, 6, 6, 6, 6, 6, 6, 6, 6, 6, 6, 6, 6, 6, 6, 6, 6, 6, 6, 6, 6, 6, 7, 7, 7, 7, 7, 7, 7, 7, 7, 7, 7, 7, 7, 7, 7, 7, 7, 7, 7, 7, 7, 7, 7, 7, 7, 7, 7, 7, 7, 7, 7, 7, 7, 7, 7, 7, 7, 7, 7, 7, 7, 7, 7, 7, 7, 7, 7, 7, 7, 7, 7, 7, 7, 7, 7, 7, 7, 7, 7, 7, 7, 7, 7, 7, 8, 8, 8, 8, 8, 8, 8, 8, 8, 8, 8, 8, 8, 8, 8, 8, 8, 8, 8, 8, 8, 8, 8, 8, 8, 8, 8, 8, 8, 8, 8, 8, 8, 8, 8, 8, 8, 8, 8, 8, 8, 8, 8, 8, 8, 8, 8, 8, 8, 8, 8, 8, 8, 8, 8, 8, 8, 8, 8, 8, 8, 8, 8, 8, 8, 8, 8, 8, 8, 8, 8, 8, 8, 8, 8, 8, 8, 8, 8, 8, 8, 8, 8, 8, 8, 8, 8, 8, 8, 8, 8, 8, 8, 8, 8, 8, 8, 8, 8, 8, 8, 8, 8, 8, 8, 8, 8, 8, 8, 8, 8, 8, 8, 8, 8, 8, 8, 8, 8, 8, 8, 8, 8, 8, 8, 8, 8, 8]⟩ : ByteArray) ((a0) % 256)))))) else (none)) else (none)))
def bits_LeadingZeros32.f (a0 : Int) : Option (Int) := (bits_Len32.f a0).bind fun t123 => (some (wrap64 (32 - t123)))
def mag_Cmp.l0 : Nat → List Int → List Int → Int → Option (Int)
 | 0, _, _, _ => none
 | k + 1, x0, x1, x5 => if x5 ≥ 0 then (if 0 ≤ x5 then (if x5 < (x0.length : Int) then (if x5 < (x1.length : Int) then (if (rd x0 x5) = (rd x1 x5) then (mag_Cmp.l0 k x0 x1 (wrap64 (x5 - 1))) else (if (rd x0 x5) < (rd x1 x5) then (some (-1)) else (some 1))) else (none)) else (none)) else (none)) else (some 0)
def mag_Cmp.f (k : Nat) (l0 : List Int) (l1 : List Int) : Option (Int) := if (l0.length : Int) = (l1.length : Int) then (mag_Cmp.l0 k l0 l1 (wrap64 ((l0.length : Int) - 1))) else (if (l0.length : Int) < (l1.length : Int) then (some (-1)) else (some 1))
theorem mag_Cmp.mono_l : ∀ k, (∀ y0 y1 y2, LeO (mag_Cmp.l0 k y0 y1 y2) (mag_Cmp.l0 (k + 1) y0 y1 y2))
 | 0 => fun _ _ _ r h => by simp [mag_Cmp.l0] at h
 | k + 1 => by
  have ih0 := mag_Cmp.mono_l k
  ·intro y0 y1 y2
   unfold mag_Cmp.l0
   repeat' first
   | (with_reducible first | exact ih0 _ _ _ | exact LeO.refl _ | exact LeO.none _ | refine LeO.ite ?_ ?_ | refine LeO.bind ?_ (fun _ => ?_))
   | exact ih0 _ _ _
   | exact LeO.none _
   | refine LeO.ite ?_ ?_
   | refine LeO.bind ?_ (fun _ => ?_)
theorem mag_Cmp.mono : ∀ a0 a1 k, LeO (mag_Cmp.f k a0 a1) (mag_Cmp.f (k + 1) a0 a1) := by
 intro a0 a1 k
 have ih0 := mag_Cmp.mono_l k
 unfold mag_Cmp.f
 repeat' first
   | (with_reducible first | exact ih0 _ _ _ | exact LeO.refl _ | exact LeO.none _ | refine LeO.ite ?_ ?_ | refine LeO.bind ?_ (fun _ => ?_))
   | exact ih0 _ _ _
   | exact LeO.none _
   | refine LeO.ite ?_ ?_
   | refine LeO.bind ?_ (fun _ => ?_)
def mag_divWord.l0 : Nat → List Int → Int → List Int → Int → Int → Option (List Int × Int)
 | 0, _, _, _, _, _ => none
 | k + 1, x0, x1, x6, x7, x8 => if x8 ≥ 0 then (if 0 ≤ x8 then (if x8 < (x0.length : Int) then (if (IntKind.u64.wrap (x1)) = 0 then (none) else (if x8 < (x6.length : Int) then (mag_divWord.l0 k x0 x1 (x6.set (x8 : Int).toNat ((IntKind.u64.wrap (Int.tdiv (Go.bits .or .u64 (IntKind.u64.wrap (x7 * 4294967296)) (IntKind.u64.wrap (rd x0 x8))) (IntKind.u64.wrap (x1)))) % 4294967296)) (Int.tmod (Go.bits .or .u64 (IntKind.u64.wrap (x7 * 4294967296)) (IntKind.u64.wrap (rd x0 x8))) (IntKind.u64.wrap (x1))) (wrap64 (x8 - 1))) else (none))) else (none)) else (none)) else ((mag_Trim.f k x6).bind fun t133 => (some (t133, (x7) % 4294967296)))
def mag_divWord.f (k : Nat) (l0 : List Int) (a1 : Int) : Option (List Int × Int) := if 0 ≤ (l0.length : Int) then (if ((l0.length : Int) : Int).toNat ≤ 70368744177664 then (mag_divWord.l0 k l0 a1 (List.replicate ((l0.length : Int) : Int).toNat 0) 0 (wrap64 ((l0.length : Int) - 1))) else (none)) else (none)
theorem mag_divWord.mono_l : ∀ k, (∀ y0 y1 y2 y3 y4, LeO (mag_divWord.l0 k y0 y1 y2 y3 y4) (mag_divWord.l0 (k + 1) y0 y1 y2 y3 y4))
 | 0 => fun _ _ _ _ _ r h => by simp [mag_divWord.l0] at h
 | k + 1 => by
  have ih0 := mag_divWord.mono_l k
  ·intro y0 y1 y2 y3 y4
   unfold mag_divWord.l0
   repeat' first
   | (with_reducible first | exact ih0 _ _ _ _ _ | exact mag_Trim.mono _ _ | exact LeO.refl _ | exact LeO.none _ | refine LeO.ite ?_ ?_ | refine LeO.bind ?_ (fun _ => ?_))
   | exact ih0 _ _ _ _ _
   | exact mag_Trim.mono _ _
   | exact LeO.none _
   | refine LeO.ite ?_ ?_
   | refine LeO.bind ?_ (fun _ => ?_)
theorem mag_divWord.mono : ∀ a0 a1 k, LeO (mag_divWord.f k a0 a1) (mag_divWord.f (k + 1) a0 a1) := by
 intro a0 a1 k
 have ih0 := mag_divWord.mono_l k
 unfold mag_divWord.f
 repeat' first
   | (with_reducible first | exact ih0 _ _ _ _ _ | exact mag_Trim.mono _ _ | exact LeO.refl _ | exact LeO.none _ | refine LeO.ite ?_ ?_ | refine LeO.bind ?_ (fun _ => ?_))
   | exact ih0 _ _ _ _ _
   | exact mag_Trim.mono _ _
   | exact LeO.none _
   | refine LeO.ite ?_ ?_
   | refine LeO.bind ?_ (fun _ => ?_)
def mag_subtract.l0 : Nat → List Int → List Int → Int → Int → Int → List Int → Int → Int → Option (Bool × List Int)
 | 0, _, _, _, _, _, _, _, _ => none
 | k + 1, x0, x1, x2, x7, x8, x13, x14, x15 => if x15 < x14 then (if 0 ≤ x15 then (if x15 < (x13.length : Int) then (if x15 < (x0.length : Int) then (mag_subtract.l0 k (x0.set (x15 : Int).toNat ((IntKind.u64.wrap ((IntKind.u64.wrap ((IntKind.u64.wrap (rd x0 x15)) - ((IntKind.u64.wrap (x7 + (IntKind.u64.wrap (x2 * (IntKind.u64.wrap (rd x13 x15)))))) % 4294967296))) - x8)) % 4294967296)) x1 x2 ((IntKind.u64.wrap (x7 + (IntKind.u64.wrap (x2 * (IntKind.u64.wrap (rd x13 x15)))))) / 4294967296) ((IntKind.u64.wrap ((IntKind.u64.wrap ((IntKind.u64.wrap (rd x0 x15)) - ((IntKind.u64.wrap (x7 + (IntKind.u64.wrap (x2 * (IntKind.u64.wrap (rd x13 x15)))))) % 4294967296))) - x8)) / 9223372036854775808) x13 x14 (wrap64 (x15 + 1))) else (none)) else (none)) else (none)) else (if 0 ≤ (x1.length : Int) then (if (x1.length : Int) < (x0.length : Int) then (some ((((IntKind.u64.wrap ((IntKind.u64.wrap ((IntKind.u64.wrap (rd x0 (x1.length : Int))) - x7)) - x8)) / 9223372036854775808) == 1), (x0.set ((x1.length : Int) : Int).toNat ((IntKind.u64.wrap ((IntKind.u64.wrap ((IntKind.u64.wrap (rd x0 (x1.length : Int))) - x7)) - x8)) % 4294967296)))) else (none)) else (none))
def mag_subtract.f (k : Nat) (l0 : List Int) (l1 : List Int) (a2 : Int) : Option (Bool × List Int) := mag_subtract.l0 k l0 l1 a2 0 0 l1 (l1.length : Int) 0
theorem mag_subtract.mono_l : ∀ k, (∀ y0 y1 y2 y3 y4 y5 y6 y7, LeO (mag_subtract.l0 k y0 y1 y2 y3 y4 y5 y6 y7) (mag_subtract.l0 (k + 1) y0 y1 y2 y3 y4 y5 y6 y7))
 | 0 => fun _ _ _ _ _ _ _ _ r h => by simp [mag_subtract.l0] at h
 | k + 1 => by
  have ih0 := mag_subtract.mono_l k
  ·intro y0 y1 y2 y3 y4 y5 y6 y7
   unfold mag_subtract.l0
   repeat' first
   | (with_reducible first | exact ih0 _ _ _ _ _ _ _ _ | exact LeO.refl _ | exact LeO.none _ | refine LeO.ite ?_ ?_ | refine LeO.bind ?_ (fun _ => ?_))
   | exact ih0 _ _ _ _ _ _ _ _
   | exact LeO.none _
   | refine LeO.ite ?_ ?_
   | refine LeO.bind ?_ (fun _ => ?_)
theorem mag_subtract.mono : ∀ a0 a1 a2 k, LeO (mag_subtract.f k a0 a1 a2) (mag_subtract.f (k + 1) a0 a1 a2) := by
 intro a0 a1 a2 k
 have ih0 := mag_subtract.mono_l k
 unfold mag_subtract.f
 repeat' first
   | (with_reducible first | exact ih0 _ _ _ _ _ _ _ _ | exact LeO.refl _ | exact LeO.none _ | refine LeO.ite ?_ ?_ | refine LeO.bind ?_ (fun _ => ?_))
   | exact ih0 _ _ _ _ _ _ _ _
   | exact LeO.none _
   | refine LeO.ite ?_ ?_
   | refine LeO.bind ?_ (fun _ => ?_)
def mag_subtractAt.f (k : Nat) (l0 : List Int) (b1_ b2_ : Int) (l1 : List Int) (a2 : Int) : Option (Bool × List Int) := (mag_subtract.f k ((l0.take b2_.toNat).drop b1_.toNat) l1 a2).bind fun p => some (p.1, l0.take b1_.toNat ++ p.2 ++ l0.drop b2_.toNat)
theorem mag_subtractAt.mono : ∀ (l0 : List Int) (b1_ b2_ : Int) (l1 : List Int) (a2 : Int) k, LeO (mag_subtractAt.f k l0 b1_ b2_ l1 a2) (mag_subtractAt.f (k + 1) l0 b1_ b2_ l1 a2) := by
 intro l0 b1_ b2_ l1 a2 k
 unfold mag_subtractAt.f
 exact LeO.bind (mag_subtract.mono _ _ _ _) (fun _ => LeO.refl _)
def mag_restore.l0 : Nat → List Int → List Int → Int → List Int → Int → Int → Option (List Int)
 | 0, _, _, _, _, _, _ => none
 | k + 1, x0, x1, x4, x7, x8, x9 => if x9 < x8 then (if 0 ≤ x9 then (if x9 < (x7.length : Int) then (if x9 < (x0.length : Int) then (mag_restore.l0 k (x0.set (x9 : Int).toNat ((IntKind.u64.wrap (x4 + (IntKind.u64.wrap ((IntKind.u64.wrap (rd x0 x9)) + (IntKind.u64.wrap (rd x7 x9)))))) % 4294967296)) x1 ((IntKind.u64.wrap (x4 + (IntKind.u64.wrap ((IntKind.u64.wrap (rd x0 x9)) + (IntKind.u64.wrap (rd x7 x9)))))) / 4294967296) x7 x8 (wrap64 (x9 + 1))) else (none)) else (none)) else (none)) else (if 0 ≤ (x1.length : Int) then (if (x1.length : Int) < (x0.length : Int) then (some (x0.set ((x1.length : Int) : Int).toNat (((rd x0 (x1.length : Int)) + ((x4) % 4294967296)) % 4294967296))) else (none)) else (none))
def mag_restore.f (k : Nat) (l0 : List Int) (l1 : List Int) : Option (List Int) := mag_restore.l0 k l0 l1 0 l1 (l1.length : Int) 0
theorem mag_restore.mono_l : ∀ k, (∀ y0 y1 y2 y3 y4 y5, LeO (mag_restore.l0 k y0 y1 y2 y3 y4 y5) (mag_restore.l0 (k + 1) y0 y1 y2 y3 y4 y5))
 | 0 => fun _ _ _ _ _ _ r h => by simp [mag_restore.l0] at h
 | k + 1 => by
  have ih0 := mag_restore.mono_l k
  ·intro y0 y1 y2 y3 y4 y5
   unfold mag_restore.l0
   repeat' first
   | (with_reducible first | exact ih0 _ _ _ _ _ _ | exact LeO.refl _ | exact LeO.none _ | refine LeO.ite ?_ ?_ | refine LeO.bind ?_ (fun _ => ?_))
   | exact ih0 _ _ _ _ _ _
   | exact LeO.none _
   | refine LeO.ite ?_ ?_
   | refine LeO.bind ?_ (fun _ => ?_)
theorem mag_restore.mono : ∀ a0 a1 k, LeO (mag_restore.f k a0 a1) (mag_restore.f (k + 1) a0 a1) := by
 intro a0 a1 k
 have ih0 := mag_restore.mono_l k
 unfold mag_restore.f
 repeat' first
   | (with_reducible first | exact ih0 _ _ _ _ _ _ | exact LeO.refl _ | exact LeO.none _ | refine LeO.ite ?_ ?_ | refine LeO.bind ?_ (fun _ => ?_))
   | exact ih0 _ _ _ _ _ _
   | exact LeO.none _
   | refine LeO.ite ?_ ?_
   | refine LeO.bind ?_ (fun _ => ?_)
def mag_restoreAt.f (k : Nat) (l0 : List Int) (b1_ b2_ : Int) (l1 : List Int) : Option (List Int) := (mag_restore.f k ((l0.take b2_.toNat).drop b1_.toNat) l1).bind fun p => some (l0.take b1_.toNat ++ p ++ l0.drop b2_.toNat)
theorem mag_restoreAt.mono : ∀ (l0 : List Int) (b1_ b2_ : Int) (l1 : List Int) k, LeO (mag_restoreAt.f k l0 b1_ b2_ l1) (mag_restoreAt.f (k + 1) l0 b1_ b2_ l1) := by
 intro l0 b1_ b2_ l1 k
 unfold mag_restoreAt.f
 exact LeO.bind (mag_restore.mono _ _ _) (fun _ => LeO.refl _)
def mag_Shr.l0 : Nat → List Int → Int → Int → List Int → Int → Int → Option (List Int)
 | 0, _, _, _, _, _, _ => none
 | k + 1, x0, x5, x6, x7, x25, x26 => if x26 < x25 then (if 0 ≤ (wrap64 (x26 + x5)) then (if (wrap64 (x26 + x5)) < (x0.length : Int) then (if (wrap64 ((wrap64 (x26 + x5)) + 1)) < (x0.length : Int) then (if 0 ≤ (wrap64 ((wrap64 (x26 + x5)) + 1)) then (if 0 ≤ x6 then (if 0 ≤ x26 then (if x26 < (x7.length : Int) then (mag_Shr.l0 k x0 x5 x6 (x7.set (x26 : Int).toNat ((shr .u64 (Go.bits .or .u64 (IntKind.u64.wrap (rd x0 (wrap64 (x26 + x5)))) (IntKind.u64.wrap ((IntKind.u64.wrap (rd x0 (wrap64 ((wrap64 (x26 + x5)) + 1)))) * 4294967296))) x6) % 4294967296)) x25 (wrap64 (x26 + 1))) else (none)) else (none)) else (none)) else (none)) else (if 0 ≤ x6 then (if 0 ≤ x26 then (if x26 < (x7.length : Int) then (mag_Shr.l0 k x0 x5 x6 (x7.set (x26 : Int).toNat ((shr .u64 (IntKind.u64.wrap (rd x0 (wrap64 (x26 + x5)))) x6) % 4294967296)) x25 (wrap64 (x26 + 1))) else (none)) else (none)) else (none))) else (none)) else (none)) else ((mag_Trim.f k x7).bind fun t153 => (some t153))
def mag_Shr.f (k : Nat) (l0 : List Int) (a1 : Int) : Option (List Int) := if (wrap64 (Int.tdiv a1 32)) ≥ (l0.length : Int) then (some ([] : List Int)) else (if 0 ≤ (wrap64 ((l0.length : Int) - (wrap64 (Int.tdiv a1 32)))) then (if (wrap64 ((l0.length : Int) - (wrap64 (Int.tdiv a1 32))) : Int).toNat ≤ 70368744177664 then ((some (List.replicate (wrap64 ((l0.length : Int) - (wrap64 (Int.tdiv a1 32))) : Int).toNat 0 : List Int)).bind fun y146 => (mag_Shr.l0 k l0 (wrap64 (Int.tdiv a1 32)) (IntKind.u64.wrap (Int.tmod a1 32)) y146 (y146.length : Int) 0)) else (none)) else (none))
theorem mag_Shr.mono_l : ∀ k, (∀ y0 y1 y2 y3 y4 y5, LeO (mag_Shr.l0 k y0 y1 y2 y3 y4 y5) (mag_Shr.l0 (k + 1) y0 y1 y2 y3 y4 y5))
 | 0 => fun _ _ _ _ _ _ r h => by simp [mag_Shr.l0] at h
 | k + 1 => by
  have ih0 := mag_Shr.mono_l k
  ·intro y0 y1 y2 y3 y4 y5
   unfold mag_Shr.l0
   repeat' first
   | (with_reducible first | exact ih0 _ _ _ _ _ _ | exact mag_Trim.mono _ _ | exact LeO.refl _ | exact LeO.none _ | refine LeO.ite ?_ ?_ | refine LeO.bind ?_ (fun _ => ?_))
   | exact ih0 _ _ _ _ _ _
   | exact mag_Trim.mono _ _
   | exact LeO.none _
   | refine LeO.ite ?_ ?_
   | refine LeO.bind ?_ (fun _ => ?_)
theorem mag_Shr.mono : ∀ a0 a1 k, LeO (mag_Shr.f k a0 a1) (mag_Shr.f (k + 1) a0 a1) := by
 intro a0 a1 k
 have ih0 := mag_Shr.mono_l k
 unfold mag_Shr.f
 repeat' first
   | (with_reducible first | exact ih0 _ _ _ _ _ _ | exact mag_Trim.mono _ _ | exact LeO.refl _ | exact LeO.none _ | refine LeO.ite ?_ ?_ | refine LeO.bind ?_ (fun _ => ?_))
   | exact ih0 _ _ _ _ _ _
   | exact mag_Trim.mono _ _
   | exact LeO.none _
   | refine LeO.ite ?_ ?_
   | refine LeO.bind ?_ (fun _ => ?_)
mutual
def mag_DivMod.l0 : Nat → List Int → Int → List Int → List Int → Int → Int → Int → Int → Option (List Int × List Int)
 | 0, _, _, _, _, _, _, _, _ => none
 | k + 1, x4, x8, x9, x10, x11, x12, x13, x14 => if x14 ≥ 0 then (if 0 ≤ (wrap64 (x14 + x11)) then (if (wrap64 (x14 + x11)) < (x10.length : Int) then (if 0 ≤ (wrap64 ((wrap64 (x14 + x11)) - 1)) then (if (wrap64 ((wrap64 (x14 + x11)) - 1)) < (x10.length : Int) then (if x12 = 0 then (none) else (mag_DivMod.l1 k x4 x8 x9 x10 x11 x12 x13 x14 (IntKind.u64.wrap (Int.tdiv (Go.bits .or .u64 (IntKind.u64.wrap ((IntKind.u64.wrap (rd x10 (wrap64 (x14 + x11)))) * 4294967296)) (IntKind.u64.wrap (rd x10 (wrap64 ((wrap64 (x14 + x11)) - 1))))) x12)) (Int.tmod (Go.bits .or .u64 (IntKind.u64.wrap ((IntKind.u64.wrap (rd x10 (wrap64 (x14 + x11)))) * 4294967296)) (IntKind.u64.wrap (rd x10 (wrap64 ((wrap64 (x14 + x11)) - 1))))) x12))) else (none)) else (none)) else (none)) else (none)) else ((mag_Trim.f k x4).bind fun t185 => ((mag_Trim.f k x10).bind fun t188 => ((mag_Shr.f k t188 x8).bind fun t191 => (some (t185, t191)))))
def mag_DivMod.j3 : Nat → List Int → Int → List Int → List Int → Int → Int → Int → Int → Int → Option (List Int × List Int)
 | 0, _, _, _, _, _, _, _, _, _ => none
 | k + 1, x4, x8, x9, x10, x11, x12, x13, x14, x16 => if 0 ≤ x14 then (if x14 < (wrap64 ((wrap64 (x14 + x11)) + 1)) then (if (wrap64 ((wrap64 (x14 + x11)) + 1)) ≤ (x10.length : Int) then ((mag_subtractAt.f k x10 x14 (wrap64 ((wrap64 (x14 + x11)) + 1)) x9 x16).bind fun bt198 => (if bt198.1 = true then ((mag_restoreAt.f k bt198.2 x14 (wrap64 ((wrap64 (x14 + x11)) + 1)) x9).bind fun t201 => (if x14 < (x4.length : Int) then (mag_DivMod.l0 k (x4.set (x14 : Int).toNat ((IntKind.u64.wrap (x16 - 1)) % 4294967296)) x8 x9 t201 x11 x12 x13 (wrap64 (x14 - 1))) else (none))) else (if x14 < (x4.length : Int) then (mag_DivMod.l0 k (x4.set (x14 : Int).toNat ((x16) % 4294967296)) x8 x9 bt198.2 x11 x12 x13 (wrap64 (x14 - 1))) else (none)))) else (none)) else (none)) else (none)
def mag_DivMod.l1 : Nat → List Int → Int → List Int → List Int → Int → Int → Int → Int → Int → Int → Option (List Int × List Int)
 | 0, _, _, _, _, _, _, _, _, _, _ => none
 | k + 1, x4, x8, x9, x10, x11, x12, x13, x14, x16, x17 => if x16 ≥ 4294967296 then (mag_DivMod.j2 k x4 x8 x9 x10 x11 x12 x13 x14 x16 x17 true) else (if 0 ≤ (wrap64 ((wrap64 (x14 + x11)) - 2)) then (if (wrap64 ((wrap64 (x14 + x11)) - 2)) < (x10.length : Int) then (mag_DivMod.j2 k x4 x8 x9 x10 x11 x12 x13 x14 x16 x17 (decide ((IntKind.u64.wrap (x16 * x13)) > (Go.bits .or .u64 (IntKind.u64.wrap (x17 * 4294967296)) (IntKind.u64.wrap (rd x10 (wrap64 ((wrap64 (x14 + x11)) - 2)))))))) else (none)) else (none))
def mag_DivMod.j2 : Nat → List Int → Int → List Int → List Int → Int → Int → Int → Int → Int → Int → Bool → Option (List Int × List Int)
 | 0, _, _, _, _, _, _, _, _, _, _, _ => none
 | k + 1, x4, x8, x9, x10, x11, x12, x13, x14, x16, x17, x127 => if x127 = true then (if (IntKind.u64.wrap (x17 + x12)) ≥ 4294967296 then (mag_DivMod.j3 k x4 x8 x9 x10 x11 x12 x13 x14 (IntKind.u64.wrap (x16 - 1))) else (mag_DivMod.l1 k x4 x8 x9 x10 x11 x12 x13 x14 (IntKind.u64.wrap (x16 - 1)) (IntKind.u64.wrap (x17 + x12)))) else (mag_DivMod.j3 k x4 x8 x9 x10 x11 x12 x13 x14 x16)
end
def mag_DivMod.f (k : Nat) (l0 : List Int) (l1 : List Int) : Option (List Int × List Int) := (mag_Cmp.f k l0 l1).bind fun t156 => (if t156 < 0 then (if ([] : List Int).length + l0.length < 35184372088832 then (some (([] : List Int), (([] : List Int) ++ l0))) else (none)) else (if (l1.length : Int) = 1 then (if 0 < (l1.length : Int) then ((mag_divWord.f k l0 (rd l1 0)).bind fun bt161 => ((mag_From.f k (IntKind.u64.wrap (bt161.2))).bind fun t165 => (some (bt161.1, t165)))) else (none)) else (if 0 ≤ (wrap64 ((l1.length : Int) - 1)) then (if (wrap64 ((l1.length : Int) - 1)) < (l1.length : Int) then ((bits_LeadingZeros32.f (rd l1 (wrap64 ((l1.length : Int) - 1)))).bind fun t169 => ((mag_Shl.f k l1 t169).bind fun t170 => (if 0 ≤ (wrap64 ((l0.length : Int) + 1)) then (if (wrap64 ((l0.length : Int) + 1) : Int).toNat ≤ 70368744177664 then ((some (List.replicate (wrap64 ((l0.length : Int) + 1) : Int).toNat 0 : List Int)).bind fun y173 => ((mag_Shl.f k l0 t169).bind fun t176 => (if 0 ≤ (wrap64 ((y173.length : Int) - (t170.length : Int))) then (if (wrap64 ((y173.length : Int) - (t170.length : Int)) : Int).toNat ≤ 70368744177664 then (if 0 ≤ (wrap64 ((t170.length : Int) - 1)) then (if (wrap64 ((t170.length : Int) - 1)) < (t170.length : Int) then (if 0 ≤ (wrap64 ((t170.length : Int) - 2)) then (if (wrap64 ((t170.length : Int) - 2)) < (t170.length : Int) then (mag_DivMod.l0 k (List.replicate (wrap64 ((y173.length : Int) - (t170.length : Int)) : Int).toNat 0) t169 t170 (cpy y173 t176) (t170.length : Int) (IntKind.u64.wrap (rd t170 (wrap64 ((t170.length : Int) - 1)))) (IntKind.u64.wrap (rd t170 (wrap64 ((t170.length : Int) - 2)))) (wrap64 ((wrap64 ((y173.length : Int) - (t170.length : Int))) - 1))) else (none)) else (none)) else (none)) else (none)) else (none)) else (none)))) else (none)) else (none)))) else (none)) else (none))))
theorem mag_DivMod.mono_l : ∀ k, (∀ y0 y1 y2 y3 y4 y5 y6 y7, LeO (mag_DivMod.l0 k y0 y1 y2 y3 y4 y5 y6 y7) (mag_DivMod.l0 (k + 1) y0 y1 y2 y3 y4 y5 y6 y7)) ∧ (∀ y0 y1 y2 y3 y4 y5 y6 y7 y8, LeO (mag_DivMod.j3 k y0 y1 y2 y3 y4 y5 y6 y7 y8) (mag_DivMod.j3 (k + 1) y0 y1 y2 y3 y4 y5 y6 y7 y8)) ∧ (∀ y0 y1 y2 y3 y4 y5 y6 y7 y8 y9, LeO (mag_DivMod.l1 k y0 y1 y2 y3 y4 y5 y6 y7 y8 y9) (mag_DivMod.l1 (k + 1) y0 y1 y2 y3 y4 y5 y6 y7 y8 y9)) ∧ (∀ y0 y1 y2 y3 y4 y5 y6 y7 y8 y9 y10, LeO (mag_DivMod.j2 k y0 y1 y2 y3 y4 y5 y6 y7 y8 y9 y10) (mag_DivMod.j2 (k + 1) y0 y1 y2 y3 y4 y5 y6 y7 y8 y9 y10))
 | 0 => ⟨fun _ _ _ _ _ _ _ _ r h => by simp [mag_DivMod.l0] at h, fun _ _ _ _ _ _ _ _ _ r h => by simp [mag_DivMod.j3] at h, fun _ _ _ _ _ _ _ _ _ _ r h => by simp [mag_DivMod.l1] at h, fun _ _ _ _ _ _ _ _ _ _ _ r h => by simp [mag_DivMod.j2] at h⟩
 | k + 1 => by
  obtain ⟨ih0, ih1, ih2, ih3⟩ := mag_DivMod.mono_l k
  refine ⟨?_, ?_, ?_, ?_⟩
  ·intro y0 y1 y2 y3 y4 y5 y6 y7
   unfold mag_DivMod.l0
   repeat' first
   | (with_reducible first | exact ih0 _ _ _ _ _ _ _ _ | exact ih1 _ _ _ _ _ _ _ _ _ | exact ih2 _ _ _ _ _ _ _ _ _ _ | exact ih3 _ _ _ _ _ _ _ _ _ _ _ | exact mag_Cmp.mono _ _ _ | exact mag_From.mono _ _ | exact mag_Shl.mono _ _ _ | exact mag_Shr.mono _ _ _ | exact mag_Trim.mono _ _ | exact mag_divWord.mono _ _ _ | exact mag_restoreAt.mono _ _ _ _ _ | exact mag_subtractAt.mono _ _ _ _ _ _ | exact LeO.refl _ | exact LeO.none _ | refine LeO.ite ?_ ?_ | refine LeO.bind ?_ (fun _ => ?_))
   | exact ih0 _ _ _ _ _ _ _ _
   | exact ih1 _ _ _ _ _ _ _ _ _
   | exact ih2 _ _ _ _ _ _ _ _ _ _
   | exact ih3 _ _ _ _ _ _ _ _ _ _ _
   | exact mag_Cmp.mono _ _ _
   | exact mag_From.mono _ _
   | exact mag_Shl.mono _ _ _
   | exact mag_Shr.mono _ _ _
   | exact mag_Trim.mono _ _
   | exact mag_divWord.mono _ _ _
   | exact mag_restoreAt.mono _ _ _ _ _
   | exact mag_subtractAt.mono _ _ _ _ _ _
   | exact LeO.none _
   | refine LeO.ite ?_ ?_
   | refine LeO.bind ?_ (fun _ => ?_)
  ·intro y0 y1 y2 y3 y4 y5 y6 y7 y8
   unfold mag_DivMod.j3
   repeat' first
   | (with_reducible first | exact ih0 _ _ _ _ _ _ _ _ | exact ih1 _ _ _ _ _ _ _ _ _ | exact ih2 _ _ _ _ _ _ _ _ _ _ | exact ih3 _ _ _ _ _ _ _ _ _ _ _ | exact mag_Cmp.mono _ _ _ | exact mag_From.mono _ _ | exact mag_Shl.mono _ _ _ | exact mag_Shr.mono _ _ _ | exact mag_Trim.mono _ _ | exact mag_divWord.mono _ _ _ | exact mag_restoreAt.mono _ _ _ _ _ | exact mag_subtractAt.mono _ _ _ _ _ _ | exact LeO.refl _ | exact LeO.none _ | refine LeO.ite ?_ ?_ | refine LeO.bind ?_ (fun _ => ?_))
   | exact ih0 _ _ _ _ _ _ _ _
   | exact ih1 _ _ _ _ _ _ _ _ _
   | exact ih2 _ _ _ _ _ _ _ _ _ _
   | exact ih3 _ _ _ _ _ _ _ _ _ _ _
   | exact mag_Cmp.mono _ _ _
   | exact mag_From.mono _ _
   | exact mag_Shl.mono _ _ _
   | exact mag_Shr.mono _ _ _
   | exact mag_Trim.mono _ _
   | exact mag_divWord.mono _ _ _
   | exact mag_restoreAt.mono _ _ _ _ _
   | exact mag_subtractAt.mono _ _ _ _ _ _
   | exact LeO.none _
   | refine LeO.ite ?_ ?_
   | refine LeO.bind ?_ (fun _ => ?_)
  ·intro y0 y1 y2 y3 y4 y5 y6 y7 y8 y9
   unfold mag_DivMod.l1
   repeat' first
   | (with_reducible first | exact ih0 _ _ _ _ _ _ _ _ | exact ih1 _ _ _ _ _ _ _ _ _ | exact ih2 _ _ _ _ _ _ _ _ _ _ | exact ih3 _ _ _ _ _ _ _ _ _ _ _ | exact mag_Cmp.mono _ _ _ | exact mag_From.mono _ _ | exact mag_Shl.mono _ _ _ | exact mag_Shr.mono _ _ _ | exact mag_Trim.mono _ _ | exact mag_divWord.mono _ _ _ | exact mag_restoreAt.mono _ _ _ _ _ | exact mag_subtractAt.mono _ _ _ _ _ _ | exact LeO.refl _ | exact LeO.none _ | refine LeO.ite ?_ ?_ | refine LeO.bind ?_ (fun _ => ?_))
   | exact ih0 _ _ _ _ _ _ _ _
   | exact ih1 _ _ _ _ _ _ _ _ _
   | exact ih2 _ _ _ _ _ _ _ _ _ _
   | exact ih3 _ _ _ _ _ _ _ _ _ _ _
   | exact mag_Cmp.mono _ _ _
   | exact mag_From.mono _ _
   | exact mag_Shl.mono _ _ _
   | exact mag_Shr.mono _ _ _
   | exact mag_Trim.mono _ _
   | exact mag_divWord.mono _ _ _
   | exact mag_restoreAt.mono _ _ _ _ _
   | exact mag_subtractAt.mono _ _ _ _ _ _
   | exact LeO.none _
   | refine LeO.ite ?_ ?_
   | refine LeO.bind ?_ (fun _ => ?_)
  ·intro y0 y1 y2 y3 y4 y5 y6 y7 y8 y9 y10
   unfold mag_DivMod.j2
   repeat' first
   | (with_reducible first | exact ih0 _ _ _ _ _ _ _ _ | exact ih1 _ _ _ _ _ _ _ _ _ | exact ih2 _ _ _ _ _ _ _ _ _ _ | exact ih3 _ _ _ _ _ _ _ _ _ _ _ | exact mag_Cmp.mono _ _ _ | exact mag_From.mono _ _ | exact mag_Shl.mono _ _ _ | exact mag_Shr.mono _ _ _ | exact mag_Trim.mono _ _ | exact mag_divWord.mono _ _ _ | exact mag_restoreAt.mono _ _ _ _ _ | exact mag_subtractAt.mono _ _ _ _ _ _ | exact LeO.refl _ | exact LeO.none _ | refine LeO.ite ?_ ?_ | refine LeO.bind ?_ (fun _ => ?_))
   | exact ih0 _ _ _ _ _ _ _ _
   | exact ih1 _ _ _ _ _ _ _ _ _
   | exact ih2 _ _ _ _ _ _ _ _ _ _
   | exact ih3 _ _ _ _ _ _ _ _ _ _ _
   | exact mag_Cmp.mono _ _ _
   | exact mag_From.mono _ _
   | exact mag_Shl.mono _ _ _
   | exact mag_Shr.mono _ _ _
   | exact mag_Trim.mono _ _
   | exact mag_divWord.mono _ _ _
   | exact mag_restoreAt.mono _ _ _ _ _
   | exact mag_subtractAt.mono _ _ _ _ _ _
   | exact LeO.none _
   | refine LeO.ite ?_ ?_
   | refine LeO.bind ?_ (fun _ => ?_)
theorem mag_DivMod.mono : ∀ a0 a1 k, LeO (mag_DivMod.f k a0 a1) (mag_DivMod.f (k + 1) a0 a1) := by
 intro a0 a1 k
 obtain ⟨ih0, ih1, ih2, ih3⟩ := mag_DivMod.mono_l k
 unfold mag_DivMod.f
 repeat' first
   | (with_reducible first | exact ih0 _ _ _ _ _ _ _ _ | exact ih1 _ _ _ _ _ _ _ _ _ | exact ih2 _ _ _ _ _ _ _ _ _ _ | exact ih3 _ _ _ _ _ _ _ _ _ _ _ | exact mag_Cmp.mono _ _ _ | exact mag_From.mono _ _ | exact mag_Shl.mono _ _ _ | exact mag_Shr.mono _ _ _ | exact mag_Trim.mono _ _ | exact mag_divWord.mono _ _ _ | exact mag_restoreAt.mono _ _ _ _ _ | exact mag_subtractAt.mono _ _ _ _ _ _ | exact LeO.refl _ | exact LeO.none _ | refine LeO.ite ?_ ?_ | refine LeO.bind ?_ (fun _ => ?_))
   | exact ih0 _ _ _ _ _ _ _ _
   | exact ih1 _ _ _ _ _ _ _ _ _
   | exact ih2 _ _ _ _ _ _ _ _ _ _
   | exact ih3 _ _ _ _ _ _ _ _ _ _ _
   | exact mag_Cmp.mono _ _ _
   | exact mag_From.mono _ _
   | exact mag_Shl.mono _ _ _
   | exact mag_Shr.mono _ _ _
   | exact mag_Trim.mono _ _
   | exact mag_divWord.mono _ _ _
   | exact mag_restoreAt.mono _ _ _ _ _
   | exact mag_subtractAt.mono _ _ _ _ _ _
   | exact LeO.none _
   | refine LeO.ite ?_ ?_
   | refine LeO.bind ?_ (fun _ => ?_)
def mag_Small.f (l0 : List Int) : Option (Int × Bool) := if (l0.length : Int) = 0 then (some (0, true)) else (if (l0.length : Int) = 1 then (if 0 < (l0.length : Int) then (some (IntKind.u64.wrap (rd l0 0), true)) else (none)) else (if (l0.length : Int) = 2 then (if 1 < (l0.length : Int) then (if 0 < (l0.length : Int) then (some (Go.bits .or .u64 (IntKind.u64.wrap ((IntKind.u64.wrap (rd l0 1)) * 4294967296)) (IntKind.u64.wrap (rd l0 0)), true)) else (none)) else (none)) else (some (0, false))))
def mag_Bits.f (l0 : List Int) : Option (Int) := if (l0.length : Int) = 0 then (some 0) else (if 0 ≤ (wrap64 ((l0.length : Int) - 1)) then (if (wrap64 ((l0.length : Int) - 1)) < (l0.length : Int) then ((bits_LeadingZeros32.f (rd l0 (wrap64 ((l0.length : Int) - 1)))).bind fun t208 => (some (wrap64 ((wrap64 (32 * (l0.length : Int))) - t208)))) else (none)) else (none))
mutual
def mag_Mul.j0 : Nat → List Int → List Int → Bool → Option (List Int)
 | 0, _, _, _ => none
 | k + 1, x0, x1, x18 => if x18 = true then (some ([] : List Int)) else (if 0 ≤ (wrap64 ((x0.length : Int) + (x1.length : Int))) then (if (wrap64 ((x0.length : Int) + (x1.length : Int)) : Int).toNat ≤ 70368744177664 then (mag_Mul.l0 k x1 (List.replicate (wrap64 ((x0.length : Int) + (x1.length : Int)) : Int).toNat 0) x0 (x0.length : Int) 0) else (none)) else (none))
def mag_Mul.l0 : Nat → List Int → List Int → List Int → Int → Int → Option (List Int)
 | 0, _, _, _, _, _ => none
 | k + 1, x1, x5, x25, x26, x27 => if x27 < x26 then (if 0 ≤ x27 then (if x27 < (x25.length : Int) then (mag_Mul.l1 k x1 x5 x27 (rd x25 x27) 0 x25 x26 x27 x1 (x1.length : Int) 0) else (none)) else (none)) else ((mag_Trim.f k x5).bind fun t212 => (some t212))
def mag_Mul.l1 : Nat → List Int → List Int → Int → Int → Int → List Int → Int → Int → List Int → Int → Int → Option (List Int)
 | 0, _, _, _, _, _, _, _, _, _, _, _ => none
 | k + 1, x1, x5, x6, x7, x8, x25, x26, x27, x32, x33, x34 => if x34 < x33 then (if 0 ≤ x34 then (if x34 < (x32.length : Int) then (if 0 ≤ (wrap64 (x6 + x34)) then (if (wrap64 (x6 + x34)) < (x5.length : Int) then (mag_Mul.l1 k x1 (x5.set ((wrap64 (x6 + x34)) : Int).toNat ((IntKind.u64.wrap (x8 + (IntKind.u64.wrap ((IntKind.u64.wrap ((IntKind.u64.wrap (x7)) * (IntKind.u64.wrap (rd x32 x34)))) + (IntKind.u64.wrap (rd x5 (wrap64 (x6 + x34)))))))) % 4294967296)) x6 x7 ((IntKind.u64.wrap (x8 + (IntKind.u64.wrap ((IntKind.u64.wrap ((IntKind.u64.wrap (x7)) * (IntKind.u64.wrap (rd x32 x34)))) + (IntKind.u64.wrap (rd x5 (wrap64 (x6 + x34)))))))) / 4294967296) x25 x26 x27 x32 x33 (wrap64 (x34 + 1))) else (none)) else (none)) else (none)) else (none)) else (if 0 ≤ (wrap64 (x6 + (x1.length : Int))) then (if (wrap64 (x6 + (x1.length : Int))) < (x5.length : Int) then (mag_Mul.l0 k x1 (x5.set ((wrap64 (x6 + (x1.length : Int))) : Int).toNat ((x8) % 4294967296)) x25 x26 (wrap64 (x27 + 1))) else (none)) else (none))
end
def mag_Mul.f (k : Nat) (l0 : List Int) (l1 : List Int) : Option (List Int) := if (l0.length : Int) = 0 then (mag_Mul.j0 k l0 l1 true) else (mag_Mul.j0 k l0 l1 ((l1.length : Int) == 0))
theorem mag_Mul.mono_l : ∀ k, (∀ y0 y1 y2, LeO (mag_Mul.j0 k y0 y1 y2) (mag_Mul.j0 (k + 1) y0 y1 y2)) ∧ (∀ y0 y1 y2 y3 y4, LeO (mag_Mul.l0 k y0 y1 y2 y3 y4) (mag_Mul.l0 (k + 1) y0 y1 y2 y3 y4)) ∧ (∀ y0 y1 y2 y3 y4 y5 y6 y7 y8 y9 y10, LeO (mag_Mul.l1 k y0 y1 y2 y3 y4 y5 y6 y7 y8 y9 y10) (mag_Mul.l1 (k + 1) y0 y1 y2 y3 y4 y5 y6 y7 y8 y9 y10))
 | 0 => ⟨fun _ _ _ r h => by simp [mag_Mul.j0] at h, fun _ _ _ _ _ r h => by simp [mag_Mul.l0] at h, fun _ _ _ _ _ _ _ _ _ _ _ r h => by simp [mag_Mul.l1] at h⟩
 | k + 1 => by
  obtain ⟨ih0, ih1, ih2⟩ := mag_Mul.mono_l k
  refine ⟨?_, ?_, ?_⟩
  ·intro y0 y1 y2
   unfold mag_Mul.j0
   repeat' first
   | (with_reducible first | exact ih0 _ _ _ | exact ih1 _ _ _ _ _ | exact ih2 _ _ _ _ _ _ _ _ _ _ _ | exact mag_Trim.mono _ _ | exact LeO.refl _ | exact LeO.none _ | refine LeO.ite ?_ ?_ | refine LeO.bind ?_ (fun _ => ?_))
   | exact ih0 _ _ _
   | exact ih1 _ _ _ _ _
   | exact ih2 _ _ _ _ _ _ _ _ _ _ _
   | exact mag_Trim.mono _ _
   | exact LeO.none _
   | refine LeO.ite ?_ ?_
   | refine LeO.bind ?_ (fun _ => ?_)
  ·intro y0 y1 y2 y3 y4
   unfold mag_Mul.l0
   repeat' first
   | (with_reducible first | exact ih0 _ _ _ | exact ih1 _ _ _ _ _ | exact ih2 _ _ _ _ _ _ _ _ _ _ _ | exact mag_Trim.mono _ _ | exact LeO.refl _ | exact LeO.none _ | refine LeO.ite ?_ ?_ | refine LeO.bind ?_ (fun _ => ?_))
   | exact ih0 _ _ _
   | exact ih1 _ _ _ _ _
   | exact ih2 _ _ _ _ _ _ _ _ _ _ _
   | exact mag_Trim.mono _ _
   | exact LeO.none _
   | refine LeO.ite ?_ ?_
   | refine LeO.bind ?_ (fun _ => ?_)
  ·intro y0 y1 y2 y3 y4 y5 y6 y7 y8 y9 y10
   unfold mag_Mul.l1
   repeat' first
   | (with_reducible first | exact ih0 _ _ _ | exact ih1 _ _ _ _ _ | exact ih2 _ _ _ _ _ _ _ _ _ _ _ | exact mag_Trim.mono _ _ | exact LeO.refl _ | exact LeO.none _ | refine LeO.ite ?_ ?_ | refine LeO.bind ?_ (fun _ => ?_))
   | exact ih0 _ _ _
   | exact ih1 _ _ _ _ _
   | exact ih2 _ _ _ _ _ _ _ _ _ _ _
   | exact mag_Trim.mono _ _
   | exact LeO.none _
   | refine LeO.ite ?_ ?_
   | refine LeO.bind ?_ (fun _ => ?_)
theorem mag_Mul.mono : ∀ a0 a1 k, LeO (mag_Mul.f k a0 a1) (mag_Mul.f (k + 1) a0 a1) := by
 intro a0 a1 k
 obtain ⟨ih0, ih1, ih2⟩ := mag_Mul.mono_l k
 unfold mag_Mul.f
 repeat' first
   | (with_reducible first | exact ih0 _ _ _ | exact ih1 _ _ _ _ _ | exact ih2 _ _ _ _ _ _ _ _ _ _ _ | exact mag_Trim.mono _ _ | exact LeO.refl _ | exact LeO.none _ | refine LeO.ite ?_ ?_ | refine LeO.bind ?_ (fun _ => ?_))
   | exact ih0 _ _ _
   | exact ih1 _ _ _ _ _
   | exact ih2 _ _ _ _ _ _ _ _ _ _ _
   | exact mag_Trim.mono _ _
   | exact LeO.none _
   | refine LeO.ite ?_ ?_
   | refine LeO.bind ?_ (fun _ => ?_)
def mag_Sub.l0 : Nat → List Int → List Int → Int → List Int → Int → Int → Option (List Int)
 | 0, _, _, _, _, _, _ => none
 | k + 1, x1, x5, x6, x13, x14, x15 => if x15 < x14 then (if 0 ≤ x15 then (if x15 < (x13.length : Int) then (if x15 < (x1.length : Int) then (if x15 < (x5.length : Int) then (mag_Sub.l0 k x1 (x5.set (x15 : Int).toNat ((IntKind.u64.wrap ((IntKind.u64.wrap ((IntKind.u64.wrap (rd x13 x15)) - x6)) - (IntKind.u64.wrap (rd x1 x15)))) % 4294967296)) ((IntKind.u64.wrap ((IntKind.u64.wrap ((IntKind.u64.wrap (rd x13 x15)) - x6)) - (IntKind.u64.wrap (rd x1 x15)))) / 9223372036854775808) x13 x14 (wrap64 (x15 + 1))) else (none)) else (if x15 < (x5.length : Int) then (mag_Sub.l0 k x1 (x5.set (x15 : Int).toNat ((IntKind.u64.wrap ((IntKind.u64.wrap (rd x13 x15)) - x6)) % 4294967296)) ((IntKind.u64.wrap ((IntKind.u64.wrap (rd x13 x15)) - x6)) / 9223372036854775808) x13 x14 (wrap64 (x15 + 1))) else (none))) else (none)) else (none)) else ((mag_Trim.f k x5).bind fun t227 => (some t227))
def mag_Sub.f (k : Nat) (l0 : List Int) (l1 : List Int) : Option (List Int) := if 0 ≤ (l0.length : Int) then (if ((l0.length : Int) : Int).toNat ≤ 70368744177664 then (mag_Sub.l0 k l1 (List.replicate ((l0.length : Int) : Int).toNat 0) 0 l0 (l0.length : Int) 0) else (none)) else (none)
theorem mag_Sub.mono_l : ∀ k, (∀ y0 y1 y2 y3 y4 y5, LeO (mag_Sub.l0 k y0 y1 y2 y3 y4 y5) (mag_Sub.l0 (k + 1) y0 y1 y2 y3 y4 y5))
 | 0 => fun _ _ _ _ _ _ r h => by simp [mag_Sub.l0] at h
 | k + 1 => by
  have ih0 := mag_Sub.mono_l k
  ·intro y0 y1 y2 y3 y4 y5
   unfold mag_Sub.l0
   repeat' first
   | (with_reducible first | exact ih0 _ _ _ _ _ _ | exact mag_Trim.mono _ _ | exact LeO.refl _ | exact LeO.none _ | refine LeO.ite ?_ ?_ | refine LeO.bind ?_ (fun _ => ?_))
   | exact ih0 _ _ _ _ _ _
   | exact mag_Trim.mono _ _
   | exact LeO.none _
   | refine LeO.ite ?_ ?_
   | refine LeO.bind ?_ (fun _ => ?_)
theorem mag_Sub.mono : ∀ a0 a1 k, LeO (mag_Sub.f k a0 a1) (mag_Sub.f (k + 1) a0 a1) := by
 intro a0 a1 k
 have ih0 := mag_Sub.mono_l k
 unfold mag_Sub.f
 repeat' first
   | (with_reducible first | exact ih0 _ _ _ _ _ _ | exact mag_Trim.mono _ _ | exact LeO.refl _ | exact LeO.none _ | refine LeO.ite ?_ ?_ | refine LeO.bind ?_ (fun _ => ?_))
   | exact ih0 _ _ _ _ _ _
   | exact mag_Trim.mono _ _
   | exact LeO.none _
   | refine LeO.ite ?_ ?_
   | refine LeO.bind ?_ (fun _ => ?_)
def mag_combine.j0 : Nat → List Int → List Int → Int → Int → Bool → Option (List Int)
 | 0, _, _, _, _, _ => none
 | k + 1, x0, x1, x2, x3, x14 => if x14 = true then ((mag_From.f k (IntKind.u64.wrap (x3))).bind fun t230 => ((mag_Mul.f k x1 t230).bind fun t233 => ((mag_From.f k (IntKind.u64.wrap (wrap64 (-x2)))).bind fun t236 => ((mag_Mul.f k x0 t236).bind fun t239 => ((mag_Sub.f k t233 t239).bind fun t242 => (some t242)))))) else ((mag_From.f k (IntKind.u64.wrap (x2))).bind fun t245 => ((mag_Mul.f k x0 t245).bind fun t248 => ((mag_From.f k (IntKind.u64.wrap (wrap64 (-x3)))).bind fun t251 => ((mag_Mul.f k x1 t251).bind fun t254 => ((mag_Sub.f k t248 t254).bind fun t257 => (some t257))))))
def mag_combine.f (k : Nat) (l0 : List Int) (l1 : List Int) (a2 : Int) (a3 : Int) : Option (List Int) := if a2 < 0 then (mag_combine.j0 k l0 l1 a2 a3 true) else (mag_combine.j0 k l0 l1 a2 a3 (decide (a3 > 0)))
theorem mag_combine.mono_l : ∀ k, (∀ y0 y1 y2 y3 y4, LeO (mag_combine.j0 k y0 y1 y2 y3 y4) (mag_combine.j0 (k + 1) y0 y1 y2 y3 y4))
 | 0 => fun _ _ _ _ _ r h => by simp [mag_combine.j0] at h
 | k + 1 => by
  have ih0 := mag_combine.mono_l k
  ·intro y0 y1 y2 y3 y4
   unfold mag_combine.j0
   repeat' first
   | (with_reducible first | exact ih0 _ _ _ _ _ | exact mag_From.mono _ _ | exact mag_Mul.mono _ _ _ | exact mag_Sub.mono _ _ _ | exact LeO.refl _ | exact LeO.none _ | refine LeO.ite ?_ ?_ | refine LeO.bind ?_ (fun _ => ?_))
   | exact ih0 _ _ _ _ _
   | exact mag_From.mono _ _
   | exact mag_Mul.mono _ _ _
   | exact mag_Sub.mono _ _ _
   | exact LeO.none _
   | refine LeO.ite ?_ ?_
   | refine LeO.bind ?_ (fun _ => ?_)
theorem mag_combine.mono : ∀ a0 a1 a2 a3 k, LeO (mag_combine.f k a0 a1 a2 a3) (mag_combine.f (k + 1) a0 a1 a2 a3) := by
 intro a0 a1 a2 a3 k
 have ih0 := mag_combine.mono_l k
 unfold mag_combine.f
 repeat' first
   | (with_reducible first | exact ih0 _ _ _ _ _ | exact mag_From.mono _ _ | exact mag_Mul.mono _ _ _ | exact mag_Sub.mono _ _ _ | exact LeO.refl _ | exact LeO.none _ | refine LeO.ite ?_ ?_ | refine LeO.bind ?_ (fun _ => ?_))
   | exact ih0 _ _ _ _ _
   | exact mag_From.mono _ _
   | exact mag_Mul.mono _ _ _
   | exact mag_Sub.mono _ _ _
   | exact LeO.none _
   | refine LeO.ite ?_ ?_
   | refine LeO.bind ?_ (fun _ => ?_)
mutual
def mag_lehmer.j2 : Nat → List Int → List Int → Int → Int → Int → Int → Option (List Int × List Int × Bool)
 | 0, _, _, _, _, _, _ => none
 | k + 1, x0, x1, x12, x13, x14, x15 => if x13 = 0 then (some (([] : List Int), ([] : List Int), false)) else ((mag_combine.f k x0 x1 x12 x13).bind fun t272 => ((mag_combine.f k x0 x1 x14 x15).bind fun t275 => (some (t272, t275, true))))
def mag_lehmer.l0 : Nat → List Int → List Int → Int → Int → Int → Int → Int → Int → Option (List Int × List Int × Bool)
 | 0, _, _, _, _, _, _, _, _ => none
 | k + 1, x0, x1, x12, x13, x14, x15, x16, x17 => if (wrap64 (x17 + x14)) = 0 then (mag_lehmer.j1 k x0 x1 x12 x13 x14 x15 x16 x17 false) else (mag_lehmer.j1 k x0 x1 x12 x13 x14 x15 x16 x17 ((wrap64 (x17 + x15)) != 0))
def mag_lehmer.j1 : Nat → List Int → List Int → Int → Int → Int → Int → Int → Int → Bool → Option (List Int × List Int × Bool)
 | 0, _, _, _, _, _, _, _, _, _ => none
 | k + 1, x0, x1, x12, x13, x14, x15, x16, x17, x55 => if x55 = true then (if (wrap64 (x17 + x14)) = 0 then (none) else (if (wrap64 (x17 + x15)) = 0 then (none) else (if (wrap64 (Int.tdiv (wrap64 (x16 + x12)) (wrap64 (x17 + x14)))) = (wrap64 (Int.tdiv (wrap64 (x16 + x13)) (wrap64 (x17 + x15)))) then (mag_lehmer.l0 k x0 x1 x14 x15 (wrap64 (x12 - (wrap64 ((wrap64 (Int.tdiv (wrap64 (x16 + x12)) (wrap64 (x17 + x14)))) * x14)))) (wrap64 (x13 - (wrap64 ((wrap64 (Int.tdiv (wrap64 (x16 + x12)) (wrap64 (x17 + x14)))) * x15)))) x17 (wrap64 (x16 - (wrap64 ((wrap64 (Int.tdiv (wrap64 (x16 + x12)) (wrap64 (x17 + x14)))) * x17))))) else (mag_lehmer.j2 k x0 x1 x12 x13 x14 x15)))) else (mag_lehmer.j2 k x0 x1 x12 x13 x14 x15)
end
def mag_lehmer.f (k : Nat) (l0 : List Int) (l1 : List Int) : Option (List Int × List Int × Bool) := (mag_Bits.f l0).bind fun t260 => ((mag_Bits.f l1).bind fun t261 => (if t261 < (wrap64 (t260 - 20)) then (some (([] : List Int), ([] : List Int), false)) else ((mag_Shr.f k l0 (wrap64 (t260 - 31))).bind fun t262 => ((mag_Small.f t262).bind fun bt265 => ((mag_Shr.f k l1 (wrap64 (t260 - 31))).bind fun t267 => ((mag_Small.f t267).bind fun bt270 => (mag_lehmer.l0 k l0 l1 1 0 0 1 (wrap64 (bt265.1)) (wrap64 (bt270.1)))))))))
theorem mag_lehmer.mono_l : ∀ k, (∀ y0 y1 y2 y3 y4 y5, LeO (mag_lehmer.j2 k y0 y1 y2 y3 y4 y5) (mag_lehmer.j2 (k + 1) y0 y1 y2 y3 y4 y5)) ∧ (∀ y0 y1 y2 y3 y4 y5 y6 y7, LeO (mag_lehmer.l0 k y0 y1 y2 y3 y4 y5 y6 y7) (mag_lehmer.l0 (k + 1) y0 y1 y2 y3 y4 y5 y6 y7)) ∧ (∀ y0 y1 y2 y3 y4 y5 y6 y7 y8, LeO (mag_lehmer.j1 k y0 y1 y2 y3 y4 y5 y6 y7 y8) (mag_lehmer.j1 (k + 1) y0 y1 y2 y3 y4 y5 y6 y7 y8))
 | 0 => ⟨fun _ _ _ _ _ _ r h => by simp [mag_lehmer.j2] at h, fun _ _ _ _ _ _ _ _ r h => by simp [mag_lehmer.l0] at h, fun _ _ _ _ _ _ _ _ _ r h => by simp [mag_lehmer.j1] at h⟩
 | k + 1 => by
  obtain ⟨ih0, ih1, ih2⟩ := mag_lehmer.mono_l k
  refine ⟨?_, ?_, ?_⟩
  ·intro y0 y1 y2 y3 y4 y5
   unfold mag_lehmer.j2
   repeat' first
   | (with_reducible first | exact ih0 _ _ _ _ _ _ | exact ih1 _ _ _ _ _ _ _ _ | exact ih2 _ _ _ _ _ _ _ _ _ | exact mag_Shr.mono _ _ _ | exact mag_combine.mono _ _ _ _ _ | exact LeO.refl _ | exact LeO.none _ | refine LeO.ite ?_ ?_ | refine LeO.bind ?_ (fun _ => ?_))
   | exact ih0 _ _ _ _ _ _
   | exact ih1 _ _ _ _ _ _ _ _
   | exact ih2 _ _ _ _ _ _ _ _ _
   | exact mag_Shr.mono _ _ _
   | exact mag_combine.mono _ _ _ _ _
   | exact LeO.none _
   | refine LeO.ite ?_ ?_
   | refine LeO.bind ?_ (fun _ => ?_)
  ·intro y0 y1 y2 y3 y4 y5 y6 y7
   unfold mag_lehmer.l0
   repeat' first
   | (with_reducible first | exact ih0 _ _ _ _ _ _ | exact ih1 _ _ _ _ _ _ _ _ | exact ih2 _ _ _ _ _ _ _ _ _ | exact mag_Shr.mono _ _ _ | exact mag_combine.mono _ _ _ _ _ | exact LeO.refl _ | exact LeO.none _ | refine LeO.ite ?_ ?_ | refine LeO.bind ?_ (fun _ => ?_))
   | exact ih0 _ _ _ _ _ _
   | exact ih1 _ _ _ _ _ _ _ _
   | exact ih2 _ _ _ _ _ _ _ _ _
   | exact mag_Shr.mono _ _ _
   | exact mag_combine.mono _ _ _ _ _
   | exact LeO.none _
   | refine LeO.ite ?_ ?_
   | refine LeO.bind ?_ (fun _ => ?_)
  ·intro y0 y1 y2 y3 y4 y5 y6 y7 y8
   unfold mag_lehmer.j1
   repeat' first
   | (with_reducible first | exact ih0 _ _ _ _ _ _ | exact ih1 _ _ _ _ _ _ _ _ | exact ih2 _ _ _ _ _ _ _ _ _ | exact mag_Shr.mono _ _ _ | exact mag_combine.mono _ _ _ _ _ | exact LeO.refl _ | exact LeO.none _ | refine LeO.ite ?_ ?_ | refine LeO.bind ?_ (fun _ => ?_))
   | exact ih0 _ _ _ _ _ _
   | exact ih1 _ _ _ _ _ _ _ _
   | exact ih2 _ _ _ _ _ _ _ _ _
   | exact mag_Shr.mono _ _ _
   | exact mag_combine.mono _ _ _ _ _
   | exact LeO.none _
   | refine LeO.ite ?_ ?_
   | refine LeO.bind ?_ (fun _ => ?_)
theorem mag_lehmer.mono : ∀ a0 a1 k, LeO (mag_lehmer.f k a0 a1) (mag_lehmer.f (k + 1) a0 a1) := by
 intro a0 a1 k
 obtain ⟨ih0, ih1, ih2⟩ := mag_lehmer.mono_l k
 unfold mag_lehmer.f
 repeat' first
   | (with_reducible first | exact ih0 _ _ _ _ _ _ | exact ih1 _ _ _ _ _ _ _ _ | exact ih2 _ _ _ _ _ _ _ _ _ | exact mag_Shr.mono _ _ _ | exact mag_combine.mono _ _ _ _ _ | exact LeO.refl _ | exact LeO.none _ | refine LeO.ite ?_ ?_ | refine LeO.bind ?_ (fun _ => ?_))
   | exact ih0 _ _ _ _ _ _
   | exact ih1 _ _ _ _ _ _ _ _
   | exact ih2 _ _ _ _ _ _ _ _ _
   | exact mag_Shr.mono _ _ _
   | exact mag_combine.mono _ _ _ _ _
   | exact LeO.none _
   | refine LeO.ite ?_ ?_
   | refine LeO.bind ?_ (fun _ => ?_)
mutual
def mag_GCD.j0 : Nat → List Int → List Int → Option (List Int)
 | 0, _, _ => none
 | k + 1, x0, x1 => mag_GCD.l0 k x0 x1
def mag_GCD.l0 : Nat → List Int → List Int → Option (List Int)
 | 0, _, _ => none
 | k + 1, x0, x1 => if (x1.length : Int) > 2 then ((mag_lehmer.f k x0 x1).bind fun bt279 => (if bt279.2.2 = true then (mag_GCD.l0 k bt279.1 bt279.2.1) else ((mag_DivMod.f k x0 x1).bind fun bt286 => (mag_GCD.l0 k x1 bt286.2)))) else (if (x1.length : Int) = 0 then (if ([] : List Int).length + x0.length < 35184372088832 then (some (([] : List Int) ++ x0)) else (none)) else ((mag_DivMod.f k x0 x1).bind fun bt295 => ((mag_Small.f x1).bind fun bt301 => ((mag_Small.f bt295.2).bind fun bt303 => (mag_GCD.l1 k bt301.1 bt303.1)))))
def mag_GCD.l1 : Nat → Int → Int → Option (List Int)
 | 0, _, _ => none
 | k + 1, x12, x14 => if x14 = 0 then ((mag_From.f k x12).bind fun t305 => (some t305)) else (mag_GCD.l1 k x14 (Int.tmod x12 x14))
end
def mag_GCD.f (k : Nat) (l0 : List Int) (l1 : List Int) : Option (List Int) := (mag_Cmp.f k l0 l1).bind fun t278 => (if t278 < 0 then (mag_GCD.j0 k l1 l0) else (mag_GCD.j0 k l0 l1))
theorem mag_GCD.mono_l : ∀ k, (∀ y0 y1, LeO (mag_GCD.j0 k y0 y1) (mag_GCD.j0 (k + 1) y0 y1)) ∧ (∀ y0 y1, LeO (mag_GCD.l0 k y0 y1) (mag_GCD.l0 (k + 1) y0 y1)) ∧ (∀ y0 y1, LeO (mag_GCD.l1 k y0 y1) (mag_GCD.l1 (k + 1) y0 y1))
 | 0 => ⟨fun _ _ r h => by simp [mag_GCD.j0] at h, fun _ _ r h => by simp [mag_GCD.l0] at h, fun _ _ r h => by simp [mag_GCD.l1] at h⟩
 | k + 1 => by
  obtain ⟨ih0, ih1, ih2⟩ := mag_GCD.mono_l k
  refine ⟨?_, ?_, ?_⟩
  ·intro y0 y1
   unfold mag_GCD.j0
   repeat' first
   | (with_reducible first | exact ih0 _ _ | exact ih1 _ _ | exact ih2 _ _ | exact mag_Cmp.mono _ _ _ | exact mag_DivMod.mono _ _ _ | exact mag_From.mono _ _ | exact mag_lehmer.mono _ _ _ | exact LeO.refl _ | exact LeO.none _ | refine LeO.ite ?_ ?_ | refine LeO.bind ?_ (fun _ => ?_))
   | exact ih0 _ _
   | exact ih1 _ _
   | exact ih2 _ _
   | exact mag_Cmp.mono _ _ _
   | exact mag_DivMod.mono _ _ _
   | exact mag_From.mono _ _
   | exact mag_lehmer.mono _ _ _
   | exact LeO.none _
   | refine LeO.ite ?_ ?_
   | refine LeO.bind ?_ (fun _ => ?_)
  ·intro y0 y1
   unfold mag_GCD.l0
   repeat' first
   | (with_reducible first | exact ih0 _ _ | exact ih1 _ _ | exact ih2 _ _ | exact mag_Cmp.mono _ _ _ | exact mag_DivMod.mono _ _ _ | exact mag_From.mono _ _ | exact mag_lehmer.mono _ _ _ | exact LeO.refl _ | exact LeO.none _ | refine LeO.ite ?_ ?_ | refine LeO.bind ?_ (fun _ => ?_))
   | exact ih0 _ _
   | exact ih1 _ _
   | exact ih2 _ _
   | exact mag_Cmp.mono _ _ _
   | exact mag_DivMod.mono _ _ _
   | exact mag_From.mono _ _
   | exact mag_lehmer.mono _ _ _
   | exact LeO.none _
   | refine LeO.ite ?_ ?_
   | refine LeO.bind ?_ (fun _ => ?_)
  ·intro y0 y1
   unfold mag_GCD.l1
   repeat' first
   | (with_reducible first | exact ih0 _ _ | exact ih1 _ _ | exact ih2 _ _ | exact mag_Cmp.mono _ _ _ | exact mag_DivMod.mono _ _ _ | exact mag_From.mono _ _ | exact mag_lehmer.mono _ _ _ | exact LeO.refl _ | exact LeO.none _ | refine LeO.ite ?_ ?_ | refine LeO.bind ?_ (fun _ => ?_))
   | exact ih0 _ _
   | exact ih1 _ _
   | exact ih2 _ _
   | exact mag_Cmp.mono _ _ _
   | exact mag_DivMod.mono _ _ _
   | exact mag_From.mono _ _
   | exact mag_lehmer.mono _ _ _
   | exact LeO.none _
   | refine LeO.ite ?_ ?_
   | refine LeO.bind ?_ (fun _ => ?_)
theorem mag_GCD.mono : ∀ a0 a1 k, LeO (mag_GCD.f k a0 a1) (mag_GCD.f (k + 1) a0 a1) := by
 intro a0 a1 k
 obtain ⟨ih0, ih1, ih2⟩ := mag_GCD.mono_l k
 unfold mag_GCD.f
 repeat' first
   | (with_reducible first | exact ih0 _ _ | exact ih1 _ _ | exact ih2 _ _ | exact mag_Cmp.mono _ _ _ | exact mag_DivMod.mono _ _ _ | exact mag_From.mono _ _ | exact mag_lehmer.mono _ _ _ | exact LeO.refl _ | exact LeO.none _ | refine LeO.ite ?_ ?_ | refine LeO.bind ?_ (fun _ => ?_))
   | exact ih0 _ _
   | exact ih1 _ _
   | exact ih2 _ _
   | exact mag_Cmp.mono _ _ _
   | exact mag_DivMod.mono _ _ _
   | exact mag_From.mono _ _
   | exact mag_lehmer.mono _ _ _
   | exact LeO.none _
   | refine LeO.ite ?_ ?_
   | refine LeO.bind ?_ (fun _ => ?_)
def num_valid.f (l0 : List Int) (a1 : Int) : Option (Bool) := if (l0.length : Int) ≤ a1 then (if (l0.length : Int) = 0 then (some true) else (if 0 ≤ (wrap64 ((l0.length : Int) - 1)) then (if (wrap64 ((l0.length : Int) - 1)) < (l0.length : Int) then (some ((rd l0 (wrap64 ((l0.length : Int) - 1))) != 0)) else (none)) else (none))) else (some false)
def num_Valid.j0 : Nat → Bool → Bool → List Int → List Int → Option (Bool)
 | 0, _, _, _, _ => none
 | k + 1, x23, x310000, x310001, x310002 => if x23 = true then (some false) else (if (x310001.length : Int) = 0 then (if x310000 = true then (some false) else (if (x310002.length : Int) = 1 then (if 0 < (x310002.length : Int) then (some ((rd x310002 0) == 1)) else (none)) else (some false))) else (if (x310002.length : Int) = 1 then (if 0 < (x310002.length : Int) then (if (rd x310002 0) = 1 then (some true) else ((mag_GCD.f k x310001 x310002).bind fun t314 => (if (t314.length : Int) = 1 then (if 0 < (t314.length : Int) then (some ((rd t314 0) == 1)) else (none)) else (some false)))) else (none)) else ((mag_GCD.f k x310001 x310002).bind fun t318 => (if (t318.length : Int) = 1 then (if 0 < (t318.length : Int) then (some ((rd t318 0) == 1)) else (none)) else (some false)))))
def num_Valid.f (k : Nat) (a0_0 : Bool) (l0_1 : List Int) (l0_2 : List Int) (a1 : Int) : Option (Bool) := (num_valid.f l0_1 a1).bind fun t310 => (if t310 = true then ((num_valid.f l0_2 a1).bind fun t311 => (if t311 = true then (num_Valid.j0 k ((l0_2.length : Int) == 0) a0_0 l0_1 l0_2) else (num_Valid.j0 k true a0_0 l0_1 l0_2))) else (num_Valid.j0 k true a0_0 l0_1 l0_2))
theorem num_Valid.mono_l : ∀ k, (∀ y0 y1 y2 y3, LeO (num_Valid.j0 k y0 y1 y2 y3) (num_Valid.j0 (k + 1) y0 y1 y2 y3))
 | 0 => fun _ _ _ _ r h => by simp [num_Valid.j0] at h
 | k + 1 => by
  have ih0 := num_Valid.mono_l k
  ·intro y0 y1 y2 y3
   unfold num_Valid.j0
   repeat' first
   | (with_reducible first | exact ih0 _ _ _ _ | exact mag_GCD.mono _ _ _ | exact LeO.refl _ | exact LeO.none _ | refine LeO.ite ?_ ?_ | refine LeO.bind ?_ (fun _ => ?_))
   | exact ih0 _ _ _ _
   | exact mag_GCD.mono _ _ _
   | exact LeO.none _
   | refine LeO.ite ?_ ?_
   | refine LeO.bind ?_ (fun _ => ?_)
theorem num_Valid.mono : ∀ a0 a1 a2 a3 k, LeO (num_Valid.f k a0 a1 a2 a3) (num_Valid.f (k + 1) a0 a1 a2 a3) := by
 intro a0 a1 a2 a3 k
 have ih0 := num_Valid.mono_l k
 unfold num_Valid.f
 repeat' first
   | (with_reducible first | exact ih0 _ _ _ _ | exact mag_GCD.mono _ _ _ | exact LeO.refl _ | exact LeO.none _ | refine LeO.ite ?_ ?_ | refine LeO.bind ?_ (fun _ => ?_))
   | exact ih0 _ _ _ _
   | exact mag_GCD.mono _ _ _
   | exact LeO.none _
   | refine LeO.ite ?_ ?_
   | refine LeO.bind ?_ (fun _ => ?_)
def rat_Valid.f (k : Nat) (a0_0 : Bool) (l0_1 : List Int) (l0_2 : List Int) : Option (Bool) := (num_Valid.f k a0_0 l0_1 l0_2 4096).bind fun t323 => (some t323)
theorem rat_Valid.mono : ∀ a0 a1 a2 k, LeO (rat_Valid.f k a0 a1 a2) (rat_Valid.f (k + 1) a0 a1 a2) := by
 intro a0 a1 a2 k
 unfold rat_Valid.f
 repeat' first
   | (with_reducible first | exact num_Valid.mono _ _ _ _ _ | exact LeO.refl _ | exact LeO.none _ | refine LeO.ite ?_ ?_ | refine LeO.bind ?_ (fun _ => ?_))
   | exact num_Valid.mono _ _ _ _ _
   | exact LeO.none _
   | refine LeO.ite ?_ ?_
   | refine LeO.bind ?_ (fun _ => ?_)
def num_Fits.f (a0_0 : Bool) (l0_1 : List Int) (l0_2 : List Int) (a1 : Int) : Option (Bool) := if (l0_1.length : Int) ≤ a1 then (some (decide ((l0_2.length : Int) ≤ a1))) else (some false)
def rat_limited.f (a0_0 : Bool) (l0_1 : List Int) (l0_2 : List Int) : Option (Bool × List Int × List Int × Int) := (num_Fits.f a0_0 l0_1 l0_2 4096).bind fun t327 => (if t327 = true then (some (a0_0, l0_1, l0_2, 0)) else (some (false, ([] : List Int), ([] : List Int), 2)))
def num_Zero.f  : Option (Bool × List Int × List Int) := some (false, ([] : List Int), (([1] : List Int)))
def num_Make.j0 : Nat → Bool → List Int → List Int → List Int → Bool → Option (Bool × List Int × List Int)
 | 0, _, _, _, _, _ => none
 | k + 1, x0, x1, x2, x7, x23 => if x23 = true then ((mag_DivMod.f k x1 x7).bind fun bt344 => ((mag_DivMod.f k x2 x7).bind fun bt350 => (if ([] : List Int).length + bt344.1.length < 35184372088832 then (if ([] : List Int).length + bt350.1.length < 35184372088832 then (some (x0, (([] : List Int) ++ bt344.1), (([] : List Int) ++ bt350.1))) else (none)) else (none)))) else (if ([] : List Int).length + x1.length < 35184372088832 then (if ([] : List Int).length + x2.length < 35184372088832 then (some (x0, (([] : List Int) ++ x1), (([] : List Int) ++ x2))) else (none)) else (none))
def num_Make.f (k : Nat) (a0 : Bool) (l1 : List Int) (l2 : List Int) : Option (Bool × List Int × List Int) := if (l1.length : Int) = 0 then ((num_Zero.f).bind fun bt333 => (some (bt333.1, bt333.2.1, bt333.2.2))) else ((mag_GCD.f k l1 l2).bind fun t340 => (if (t340.length : Int) = 1 then (if 0 < (t340.length : Int) then (num_Make.j0 k a0 l1 l2 t340 ((rd t340 0) != 1)) else (none)) else (num_Make.j0 k a0 l1 l2 t340 true)))
theorem num_Make.mono_l : ∀ k, (∀ y0 y1 y2 y3 y4, LeO (num_Make.j0 k y0 y1 y2 y3 y4) (num_Make.j0 (k + 1) y0 y1 y2 y3 y4))
 | 0 => fun _ _ _ _ _ r h => by simp [num_Make.j0] at h
 | k + 1 => by
  have ih0 := num_Make.mono_l k
  ·intro y0 y1 y2 y3 y4
   unfold num_Make.j0
   repeat' first
   | (with_reducible first | exact ih0 _ _ _ _ _ | exact mag_DivMod.mono _ _ _ | exact mag_GCD.mono _ _ _ | exact LeO.refl _ | exact LeO.none _ | refine LeO.ite ?_ ?_ | refine LeO.bind ?_ (fun _ => ?_))
   | exact ih0 _ _ _ _ _
   | exact mag_DivMod.mono _ _ _
   | exact mag_GCD.mono _ _ _
   | exact LeO.none _
   | refine LeO.ite ?_ ?_
   | refine LeO.bind ?_ (fun _ => ?_)
theorem num_Make.mono : ∀ a0 a1 a2 k, LeO (num_Make.f k a0 a1 a2) (num_Make.f (k + 1) a0 a1 a2) := by
 intro a0 a1 a2 k
 have ih0 := num_Make.mono_l k
 unfold num_Make.f
 repeat' first
   | (with_reducible first | exact ih0 _ _ _ _ _ | exact mag_DivMod.mono _ _ _ | exact mag_GCD.mono _ _ _ | exact LeO.refl _ | exact LeO.none _ | refine LeO.ite ?_ ?_ | refine LeO.bind ?_ (fun _ => ?_))
   | exact ih0 _ _ _ _ _
   | exact mag_DivMod.mono _ _ _
   | exact mag_GCD.mono _ _ _
   | exact LeO.none _
   | refine LeO.ite ?_ ?_
   | refine LeO.bind ?_ (fun _ => ?_)
mutual
def mag_Add.j0 : Nat → List Int → List Int → Option (List Int)
 | 0, _, _ => none
 | k + 1, x0, x1 => if 0 ≤ (wrap64 ((x0.length : Int) + 1)) then (if (wrap64 ((x0.length : Int) + 1) : Int).toNat ≤ 70368744177664 then (mag_Add.l0 k x0 x1 (List.replicate (wrap64 ((x0.length : Int) + 1) : Int).toNat 0) 0 x0 (x0.length : Int) 0) else (none)) else (none)
def mag_Add.l0 : Nat → List Int → List Int → List Int → Int → List Int → Int → Int → Option (List Int)
 | 0, _, _, _, _, _, _, _ => none
 | k + 1, x0, x1, x5, x6, x20, x21, x22 => if x22 < x21 then (if 0 ≤ x22 then (if x22 < (x20.length : Int) then (if x22 < (x1.length : Int) then (if x22 < (x5.length : Int) then (mag_Add.l0 k x0 x1 (x5.set (x22 : Int).toNat ((IntKind.u64.wrap ((IntKind.u64.wrap (x6 + (IntKind.u64.wrap (rd x20 x22)))) + (IntKind.u64.wrap (rd x1 x22)))) % 4294967296)) ((IntKind.u64.wrap ((IntKind.u64.wrap (x6 + (IntKind.u64.wrap (rd x20 x22)))) + (IntKind.u64.wrap (rd x1 x22)))) / 4294967296) x20 x21 (wrap64 (x22 + 1))) else (none)) else (if x22 < (x5.length : Int) then (mag_Add.l0 k x0 x1 (x5.set (x22 : Int).toNat ((IntKind.u64.wrap (x6 + (IntKind.u64.wrap (rd x20 x22)))) % 4294967296)) ((IntKind.u64.wrap (x6 + (IntKind.u64.wrap (rd x20 x22)))) / 4294967296) x20 x21 (wrap64 (x22 + 1))) else (none))) else (none)) else (none)) else (if 0 ≤ (x0.length : Int) then (if (x0.length : Int) < (x5.length : Int) then ((mag_Trim.f k (x5.set ((x0.length : Int) : Int).toNat ((x6) % 4294967296))).bind fun t376 => (some t376)) else (none)) else (none))
end
def mag_Add.f (k : Nat) (l0 : List Int) (l1 : List Int) : Option (List Int) := if (l0.length : Int) < (l1.length : Int) then (mag_Add.j0 k l1 l0) else (mag_Add.j0 k l0 l1)
theorem mag_Add.mono_l : ∀ k, (∀ y0 y1, LeO (mag_Add.j0 k y0 y1) (mag_Add.j0 (k + 1) y0 y1)) ∧ (∀ y0 y1 y2 y3 y4 y5 y6, LeO (mag_Add.l0 k y0 y1 y2 y3 y4 y5 y6) (mag_Add.l0 (k + 1) y0 y1 y2 y3 y4 y5 y6))
 | 0 => ⟨fun _ _ r h => by simp [mag_Add.j0] at h, fun _ _ _ _ _ _ _ r h => by simp [mag_Add.l0] at h⟩
 | k + 1 => by
  obtain ⟨ih0, ih1⟩ := mag_Add.mono_l k
  refine ⟨?_, ?_⟩
  ·intro y0 y1
   unfold mag_Add.j0
   repeat' first
   | (with_reducible first | exact ih0 _ _ | exact ih1 _ _ _ _ _ _ _ | exact mag_Trim.mono _ _ | exact LeO.refl _ | exact LeO.none _ | refine LeO.ite ?_ ?_ | refine LeO.bind ?_ (fun _ => ?_))
   | exact ih0 _ _
   | exact ih1 _ _ _ _ _ _ _
   | exact mag_Trim.mono _ _
   | exact LeO.none _
   | refine LeO.ite ?_ ?_
   | refine LeO.bind ?_ (fun _ => ?_)
  ·intro y0 y1 y2 y3 y4 y5 y6
   unfold mag_Add.l0
   repeat' first
   | (with_reducible first | exact ih0 _ _ | exact ih1 _ _ _ _ _ _ _ | exact mag_Trim.mono _ _ | exact LeO.refl _ | exact LeO.none _ | refine LeO.ite ?_ ?_ | refine LeO.bind ?_ (fun _ => ?_))
   | exact ih0 _ _
   | exact ih1 _ _ _ _ _ _ _
   | exact mag_Trim.mono _ _
   | exact LeO.none _
   | refine LeO.ite ?_ ?_
   | refine LeO.bind ?_ (fun _ => ?_)
theorem mag_Add.mono : ∀ a0 a1 k, LeO (mag_Add.f k a0 a1) (mag_Add.f (k + 1) a0 a1) := by
 intro a0 a1 k
 obtain ⟨ih0, ih1⟩ := mag_Add.mono_l k
 unfold mag_Add.f
 repeat' first
   | (with_reducible first | exact ih0 _ _ | exact ih1 _ _ _ _ _ _ _ | exact mag_Trim.mono _ _ | exact LeO.refl _ | exact LeO.none _ | refine LeO.ite ?_ ?_ | refine LeO.bind ?_ (fun _ => ?_))
   | exact ih0 _ _
   | exact ih1 _ _ _ _ _ _ _
   | exact mag_Trim.mono _ _
   | exact LeO.none _
   | refine LeO.ite ?_ ?_
   | refine LeO.bind ?_ (fun _ => ?_)
def num_Add.j0 : Nat → List Int → List Int → List Int → Bool → List Int → List Int → Bool → List Int → List Int → Option (Bool × List Int × List Int)
 | 0, _, _, _, _, _, _, _, _, _ => none
 | k + 1, x5, x6, x7, x380000, x380001, x380002, x381000, x381001, x381002 => if (x380000 == x381000) = true then ((mag_Add.f k x5 x6).bind fun t392 => ((num_Make.f k x380000 t392 x7).bind fun bt395 => (some (bt395.1, bt395.2.1, bt395.2.2)))) else ((mag_Cmp.f k x5 x6).bind fun t402 => (if t402 ≥ 0 then ((mag_Sub.f k x5 x6).bind fun t403 => ((num_Make.f k x380000 t403 x7).bind fun bt406 => (some (bt406.1, bt406.2.1, bt406.2.2)))) else ((mag_Sub.f k x6 x5).bind fun t413 => ((num_Make.f k x381000 t413 x7).bind fun bt416 => (some (bt416.1, bt416.2.1, bt416.2.2))))))
def num_Add.f (k : Nat) (a0_0 : Bool) (l0_1 : List Int) (l0_2 : List Int) (a1_0 : Bool) (l1_1 : List Int) (l1_2 : List Int) : Option (Bool × List Int × List Int) := (mag_Cmp.f k l0_2 l1_2).bind fun t382 => (if t382 = 0 then (num_Add.j0 k l0_1 l1_1 l0_2 a0_0 l0_1 l0_2 a1_0 l1_1 l1_2) else ((mag_Mul.f k l0_1 l1_2).bind fun t383 => ((mag_Mul.f k l1_1 l0_2).bind fun t386 => ((mag_Mul.f k l0_2 l1_2).bind fun t389 => (num_Add.j0 k t383 t386 t389 a0_0 l0_1 l0_2 a1_0 l1_1 l1_2)))))
theorem num_Add.mono_l : ∀ k, (∀ y0 y1 y2 y3 y4 y5 y6 y7 y8, LeO (num_Add.j0 k y0 y1 y2 y3 y4 y5 y6 y7 y8) (num_Add.j0 (k + 1) y0 y1 y2 y3 y4 y5 y6 y7 y8))
 | 0 => fun _ _ _ _ _ _ _ _ _ r h => by simp [num_Add.j0] at h
 | k + 1 => by
  have ih0 := num_Add.mono_l k
  ·intro y0 y1 y2 y3 y4 y5 y6 y7 y8
   unfold num_Add.j0
   repeat' first
   | (with_reducible first | exact ih0 _ _ _ _ _ _ _ _ _ | exact mag_Add.mono _ _ _ | exact mag_Cmp.mono _ _ _ | exact mag_Mul.mono _ _ _ | exact mag_Sub.mono _ _ _ | exact num_Make.mono _ _ _ _ | exact LeO.refl _ | exact LeO.none _ | refine LeO.ite ?_ ?_ | refine LeO.bind ?_ (fun _ => ?_))
   | exact ih0 _ _ _ _ _ _ _ _ _
   | exact mag_Add.mono _ _ _
   | exact mag_Cmp.mono _ _ _
   | exact mag_Mul.mono _ _ _
   | exact mag_Sub.mono _ _ _
   | exact num_Make.mono _ _ _ _
   | exact LeO.none _
   | refine LeO.ite ?_ ?_
   | refine LeO.bind ?_ (fun _ => ?_)
theorem num_Add.mono : ∀ a0 a1 a2 a3 a4 a5 k, LeO (num_Add.f k a0 a1 a2 a3 a4 a5) (num_Add.f (k + 1) a0 a1 a2 a3 a4 a5) := by
 intro a0 a1 a2 a3 a4 a5 k
 have ih0 := num_Add.mono_l k
 unfold num_Add.f
 repeat' first
   | (with_reducible first | exact ih0 _ _ _ _ _ _ _ _ _ | exact mag_Add.mono _ _ _ | exact mag_Cmp.mono _ _ _ | exact mag_Mul.mono _ _ _ | exact mag_Sub.mono _ _ _ | exact num_Make.mono _ _ _ _ | exact LeO.refl _ | exact LeO.none _ | refine LeO.ite ?_ ?_ | refine LeO.bind ?_ (fun _ => ?_))
   | exact ih0 _ _ _ _ _ _ _ _ _
   | exact mag_Add.mono _ _ _
   | exact mag_Cmp.mono _ _ _
   | exact mag_Mul.mono _ _ _
   | exact mag_Sub.mono _ _ _
   | exact num_Make.mono _ _ _ _
   | exact LeO.none _
   | refine LeO.ite ?_ ?_
   | refine LeO.bind ?_ (fun _ => ?_)
def num_Add.B1 : List Nat := [0, 1, 0, 4, 0, 16, 3, 79, 255]
def num_Add.B3 : List Nat := [0, 1, 0, 4, 15, 0, 32, 0, 128, 511, 0, 1024, 0, 4096, 16383, 32767, 65535, 131071]
def nat_Valid.f (l0 : List Int) : Option (Bool) := if (l0.length : Int) ≤ 4096 then (if (l0.length : Int) = 0 then (some true) else (if 0 ≤ (wrap64 ((l0.length : Int) - 1)) then (if (wrap64 ((l0.length : Int) - 1)) < (l0.length : Int) then (some ((rd l0 (wrap64 ((l0.length : Int) - 1))) != 0)) else (none)) else (none))) else (some false)
mutual
def nat_digits.l0 : Nat → Int → Int → List Int → Option (List Int)
 | 0, _, _, _ => none
 | k + 1, x0, x1, x5 => if x0 > 0 then (if x5.length < 140737488355328 then (nat_digits.l0 k (IntKind.u64.wrap (Int.tdiv x0 10)) x1 (x5 ++ [(IntKind.u64.wrap (48 + (Int.tmod x0 10))) % 256])) else (none)) else (if (x5.length : Int) < x1 then (if x5.length < 140737488355328 then (nat_digits.l0 k (IntKind.u64.wrap (Int.tdiv x0 10)) x1 (x5 ++ [(IntKind.u64.wrap (48 + (Int.tmod x0 10))) % 256])) else (none)) else (nat_digits.l1 k x5 0 (wrap64 ((x5.length : Int) - 1))))
def nat_digits.l1 : Nat → List Int → Int → Int → Option (List Int)
 | 0, _, _, _ => none
 | k + 1, x5, x6, x7 => if x6 < x7 then (if 0 ≤ x7 then (if x7 < (x5.length : Int) then (if 0 ≤ x6 then (if x6 < (x5.length : Int) then (nat_digits.l1 k ((x5.set (x6 : Int).toNat (rd x5 x7)).set (x7 : Int).toNat (rd x5 x6)) (wrap64 (x6 + 1)) (wrap64 (x7 - 1))) else (none)) else (none)) else (none)) else (none)) else (some x5)
end
def nat_digits.f (k : Nat) (a0 : Int) (a1 : Int) : Option (List Int) := nat_digits.l0 k a0 a1 ([] : List Int)
theorem nat_digits.mono_l : ∀ k, (∀ y0 y1 y2, LeO (nat_digits.l0 k y0 y1 y2) (nat_digits.l0 (k + 1) y0 y1 y2)) ∧ (∀ y0 y1 y2, LeO (nat_digits.l1 k y0 y1 y2) (nat_digits.l1 (k + 1) y0 y1 y2))
 | 0 => ⟨fun _ _ _ r h => by simp [nat_digits.l0] at h, fun _ _ _ r h => by simp [nat_digits.l1] at h⟩
 | k + 1 => by
  obtain ⟨ih0, ih1⟩ := nat_digits.mono_l k
  refine ⟨?_, ?_⟩
  ·intro y0 y1 y2
   unfold nat_digits.l0
   repeat' first
   | (with_reducible first | exact ih0 _ _ _ | exact ih1 _ _ _ | exact LeO.refl _ | exact LeO.none _ | refine LeO.ite ?_ ?_ | refine LeO.bind ?_ (fun _ => ?_))
   | exact ih0 _ _ _
   | exact ih1 _ _ _
   | exact LeO.none _
   | refine LeO.ite ?_ ?_
   | refine LeO.bind ?_ (fun _ => ?_)
  ·intro y0 y1 y2
   unfold nat_digits.l1
   repeat' first
   | (with_reducible first | exact ih0 _ _ _ | exact ih1 _ _ _ | exact LeO.refl _ | exact LeO.none _ | refine LeO.ite ?_ ?_ | refine LeO.bind ?_ (fun _ => ?_))
   | exact ih0 _ _ _
   | exact ih1 _ _ _
   | exact LeO.none _
   | refine LeO.ite ?_ ?_
   | refine LeO.bind ?_ (fun _ => ?_)
theorem nat_digits.mono : ∀ a0 a1 k, LeO (nat_digits.f k a0 a1) (nat_digits.f (k + 1) a0 a1) := by
 intro a0 a1 k
 obtain ⟨ih0, ih1⟩ := nat_digits.mono_l k
 unfold nat_digits.f
 repeat' first
   | (with_reducible first | exact ih0 _ _ _ | exact ih1 _ _ _ | exact LeO.refl _ | exact LeO.none _ | refine LeO.ite ?_ ?_ | refine LeO.bind ?_ (fun _ => ?_))
   | exact ih0 _ _ _
   | exact ih1 _ _ _
   | exact LeO.none _
   | refine LeO.ite ?_ ?_
   | refine LeO.bind ?_ (fun _ => ?_)
mutual
def nat_Text.l0 : Nat → List Int → List Int → List Int → Option (ByteArray × Int)
 | 0, _, _, _ => none
 | k + 1, x0, x4, x5 => if (x0.length : Int) > 0 then ((mag_DivMod.f k x0 x5).bind fun bt441 => ((mag_Small.f bt441.2).bind fun bt447 => (if x4.length < 17592186044416 then (nat_Text.l0 k bt441.1 (x4 ++ [bt447.1]) x5) else (none)))) else (if 0 ≤ (wrap64 ((x4.length : Int) - 1)) then (if (wrap64 ((x4.length : Int) - 1)) < (x4.length : Int) then ((nat_digits.f k (rd x4 (wrap64 ((x4.length : Int) - 1))) 0).bind fun t453 => (nat_Text.l1 k x4 t453 (wrap64 ((x4.length : Int) - 2)))) else (none)) else (none))
def nat_Text.l1 : Nat → List Int → List Int → Int → Option (ByteArray × Int)
 | 0, _, _, _ => none
 | k + 1, x4, x10, x11 => if x11 ≥ 0 then (if 9 ≤ 281474976710656 then (if 0 ≤ x11 then (if x11 < (x4.length : Int) then ((nat_digits.f k (rd x4 x11) 9).bind fun t460 => ((some (cpy (List.replicate 9 0) t460 : List Int)).bind fun y463 => (if x10.length + y463.length < 140737488355328 then (nat_Text.l1 k x4 (x10 ++ y463) (wrap64 (x11 - 1))) else (none)))) else (none)) else (none)) else (none)) else (some (strOfNums x10, 0))
end
def nat_Text.f (k : Nat) (l0 : List Int) : Option (ByteArray × Int) := (nat_Valid.f l0).bind fun t437 => (if t437 = true then (if (l0.length : Int) = 0 then (some ((⟨#[48]⟩ : ByteArray), 0)) else ((mag_From.f k 1000000000).bind fun t438 => (nat_Text.l0 k l0 ([] : List Int) t438))) else (some ((⟨#[]⟩ : ByteArray), 3)))
theorem nat_Text.mono_l : ∀ k, (∀ y0 y1 y2, LeO (nat_Text.l0 k y0 y1 y2) (nat_Text.l0 (k + 1) y0 y1 y2)) ∧ (∀ y0 y1 y2, LeO (nat_Text.l1 k y0 y1 y2) (nat_Text.l1 (k + 1) y0 y1 y2))
 | 0 => ⟨fun _ _ _ r h => by simp [nat_Text.l0] at h, fun _ _ _ r h => by simp [nat_Text.l1] at h⟩
 | k + 1 => by
  obtain ⟨ih0, ih1⟩ := nat_Text.mono_l k
  refine ⟨?_, ?_⟩
  ·intro y0 y1 y2
   unfold nat_Text.l0
   repeat' first
   | (with_reducible first | exact ih0 _ _ _ | exact ih1 _ _ _ | exact mag_DivMod.mono _ _ _ | exact mag_From.mono _ _ | exact nat_digits.mono _ _ _ | exact LeO.refl _ | exact LeO.none _ | refine LeO.ite ?_ ?_ | refine LeO.bind ?_ (fun _ => ?_))
   | exact ih0 _ _ _
   | exact ih1 _ _ _
   | exact mag_DivMod.mono _ _ _
   | exact mag_From.mono _ _
   | exact nat_digits.mono _ _ _
   | exact LeO.none _
   | refine LeO.ite ?_ ?_
   | refine LeO.bind ?_ (fun _ => ?_)
  ·intro y0 y1 y2
   unfold nat_Text.l1
   repeat' first
   | (with_reducible first | exact ih0 _ _ _ | exact ih1 _ _ _ | exact mag_DivMod.mono _ _ _ | exact mag_From.mono _ _ | exact nat_digits.mono _ _ _ | exact LeO.refl _ | exact LeO.none _ | refine LeO.ite ?_ ?_ | refine LeO.bind ?_ (fun _ => ?_))
   | exact ih0 _ _ _
   | exact ih1 _ _ _
   | exact mag_DivMod.mono _ _ _
   | exact mag_From.mono _ _
   | exact nat_digits.mono _ _ _
   | exact LeO.none _
   | refine LeO.ite ?_ ?_
   | refine LeO.bind ?_ (fun _ => ?_)
theorem nat_Text.mono : ∀ a0 k, LeO (nat_Text.f k a0) (nat_Text.f (k + 1) a0) := by
 intro a0 k
 obtain ⟨ih0, ih1⟩ := nat_Text.mono_l k
 unfold nat_Text.f
 repeat' first
   | (with_reducible first | exact ih0 _ _ _ | exact ih1 _ _ _ | exact mag_DivMod.mono _ _ _ | exact mag_From.mono _ _ | exact nat_digits.mono _ _ _ | exact LeO.refl _ | exact LeO.none _ | refine LeO.ite ?_ ?_ | refine LeO.bind ?_ (fun _ => ?_))
   | exact ih0 _ _ _
   | exact ih1 _ _ _
   | exact mag_DivMod.mono _ _ _
   | exact mag_From.mono _ _
   | exact nat_digits.mono _ _ _
   | exact LeO.none _
   | refine LeO.ite ?_ ?_
   | refine LeO.bind ?_ (fun _ => ?_)
def num_whole.f (a0_0 : Bool) (l0_1 : List Int) (l0_2 : List Int) : Option (Bool) := if (l0_2.length : Int) = 1 then (if 0 < (l0_2.length : Int) then (some ((rd l0_2 0) == 1)) else (none)) else (some false)
def num_Whole.f (a0_0 : Bool) (l0_1 : List Int) (l0_2 : List Int) : Option (Bool) := (num_whole.f a0_0 l0_1 l0_2).bind fun t470 => (some t470)
def rat_Make.j0 : Nat → Bool → List Int → List Int → Bool → Option (Bool × List Int × List Int × Int)
 | 0, _, _, _, _ => none
 | k + 1, x0, x1, x2, x8 => if x8 = true then (some (false, ([] : List Int), ([] : List Int), 3)) else (if (x2.length : Int) = 0 then (some (false, ([] : List Int), ([] : List Int), 20)) else ((num_Make.f k x0 x1 x2).bind fun bt490 => (some (bt490.1, bt490.2.1, bt490.2.2, 0))))
def rat_Make.f (k : Nat) (a0 : Bool) (l1 : List Int) (l2 : List Int) : Option (Bool × List Int × List Int × Int) := (nat_Valid.f l1).bind fun t488 => (if t488 = true then ((nat_Valid.f l2).bind fun t489 => (rat_Make.j0 k a0 l1 l2 (!t489))) else (rat_Make.j0 k a0 l1 l2 true))
theorem rat_Make.mono_l : ∀ k, (∀ y0 y1 y2 y3, LeO (rat_Make.j0 k y0 y1 y2 y3) (rat_Make.j0 (k + 1) y0 y1 y2 y3))
 | 0 => fun _ _ _ _ r h => by simp [rat_Make.j0] at h
 | k + 1 => by
  have ih0 := rat_Make.mono_l k
  ·intro y0 y1 y2 y3
   unfold rat_Make.j0
   repeat' first
   | (with_reducible first | exact ih0 _ _ _ _ | exact num_Make.mono _ _ _ _ | exact LeO.refl _ | exact LeO.none _ | refine LeO.ite ?_ ?_ | refine LeO.bind ?_ (fun _ => ?_))
   | exact ih0 _ _ _ _
   | exact num_Make.mono _ _ _ _
   | exact LeO.none _
   | refine LeO.ite ?_ ?_
   | refine LeO.bind ?_ (fun _ => ?_)
theorem rat_Make.mono : ∀ a0 a1 a2 k, LeO (rat_Make.f k a0 a1 a2) (rat_Make.f (k + 1) a0 a1 a2) := by
 intro a0 a1 a2 k
 have ih0 := rat_Make.mono_l k
 unfold rat_Make.f
 repeat' first
   | (with_reducible first | exact ih0 _ _ _ _ | exact num_Make.mono _ _ _ _ | exact LeO.refl _ | exact LeO.none _ | refine LeO.ite ?_ ?_ | refine LeO.bind ?_ (fun _ => ?_))
   | exact ih0 _ _ _ _
   | exact num_Make.mono _ _ _ _
   | exact LeO.none _
   | refine LeO.ite ?_ ?_
   | refine LeO.bind ?_ (fun _ => ?_)
def rat_From.f (k : Nat) (a0 : Int) : Option (Bool × List Int × List Int) := if a0 < 0 then ((mag_From.f k (IntKind.u64.wrap ((IntKind.u64.wrap (wrap64 (-(wrap64 (a0 + 1))))) + 1))).bind fun t498 => ((num_Make.f k true t498 (([1] : List Int))).bind fun bt504 => (some (bt504.1, bt504.2.1, bt504.2.2)))) else ((mag_From.f k (IntKind.u64.wrap (a0))).bind fun t511 => ((num_Make.f k false t511 (([1] : List Int))).bind fun bt517 => (some (bt517.1, bt517.2.1, bt517.2.2))))
theorem rat_From.mono : ∀ a0 k, LeO (rat_From.f k a0) (rat_From.f (k + 1) a0) := by
 intro a0 k
 unfold rat_From.f
 repeat' first
   | (with_reducible first | exact mag_From.mono _ _ | exact num_Make.mono _ _ _ _ | exact LeO.refl _ | exact LeO.none _ | refine LeO.ite ?_ ?_ | refine LeO.bind ?_ (fun _ => ?_))
   | exact mag_From.mono _ _
   | exact num_Make.mono _ _ _ _
   | exact LeO.none _
   | refine LeO.ite ?_ ?_
   | refine LeO.bind ?_ (fun _ => ?_)
def isochroneref01_Int.l0 : Nat → Int → List Int → Option (List Int)
 | 0, _, _ => none
 | k + 1, x0, x3 => if x0 > 0 then (if x3.length < 17592186044416 then (isochroneref01_Int.l0 k (wrap64 (Int.tdiv x0 10000)) (x3 ++ [Int.tmod x0 10000])) else (none)) else (some x3)
def isochroneref01_Int.f (k : Nat) (a0 : Int) : Option (List Int) := isochroneref01_Int.l0 k a0 (([] : List Int))
theorem isochroneref01_Int.mono_l : ∀ k, (∀ y0 y1, LeO (isochroneref01_Int.l0 k y0 y1) (isochroneref01_Int.l0 (k + 1) y0 y1))
 | 0 => fun _ _ r h => by simp [isochroneref01_Int.l0] at h
 | k + 1 => by
  have ih0 := isochroneref01_Int.mono_l k
  ·intro y0 y1
   unfold isochroneref01_Int.l0
   repeat' first
   | (with_reducible first | exact ih0 _ _ | exact LeO.refl _ | exact LeO.none _ | refine LeO.ite ?_ ?_ | refine LeO.bind ?_ (fun _ => ?_))
   | exact ih0 _ _
   | exact LeO.none _
   | refine LeO.ite ?_ ?_
   | refine LeO.bind ?_ (fun _ => ?_)
theorem isochroneref01_Int.mono : ∀ a0 k, LeO (isochroneref01_Int.f k a0) (isochroneref01_Int.f (k + 1) a0) := by
 intro a0 k
 have ih0 := isochroneref01_Int.mono_l k
 unfold isochroneref01_Int.f
 repeat' first
   | (with_reducible first | exact ih0 _ _ | exact LeO.refl _ | exact LeO.none _ | refine LeO.ite ?_ ?_ | refine LeO.bind ?_ (fun _ => ?_))
   | exact ih0 _ _
   | exact LeO.none _
   | refine LeO.ite ?_ ?_
   | refine LeO.bind ?_ (fun _ => ?_)
mutual
def isochroneref01_Add.l0 : Nat → List Int → List Int → List Int → Int → Int → Option (List Int)
 | 0, _, _, _, _, _ => none
 | k + 1, x0, x1, x5, x6, x7 => if x7 < (x0.length : Int) then (isochroneref01_Add.j1 k x0 x1 x5 x6 x7 true) else (if x7 < (x1.length : Int) then (isochroneref01_Add.j1 k x0 x1 x5 x6 x7 true) else (isochroneref01_Add.j1 k x0 x1 x5 x6 x7 (decide (x6 > 0))))
def isochroneref01_Add.j1 : Nat → List Int → List Int → List Int → Int → Int → Bool → Option (List Int)
 | 0, _, _, _, _, _, _ => none
 | k + 1, x0, x1, x5, x6, x7, x21 => if x21 = true then (if x7 < (x0.length : Int) then (if 0 ≤ x7 then (if x7 < (x1.length : Int) then (if x5.length < 17592186044416 then (isochroneref01_Add.l0 k x0 x1 (x5 ++ [Int.tmod (wrap64 ((wrap64 (x6 + (rd x0 x7))) + (rd x1 x7))) 10000]) (wrap64 (Int.tdiv (wrap64 ((wrap64 (x6 + (rd x0 x7))) + (rd x1 x7))) 10000)) (wrap64 (x7 + 1))) else (none)) else (if x5.length < 17592186044416 then (isochroneref01_Add.l0 k x0 x1 (x5 ++ [Int.tmod (wrap64 (x6 + (rd x0 x7))) 10000]) (wrap64 (Int.tdiv (wrap64 (x6 + (rd x0 x7))) 10000)) (wrap64 (x7 + 1))) else (none))) else (none)) else (if x7 < (x1.length : Int) then (if 0 ≤ x7 then (if x5.length < 17592186044416 then (isochroneref01_Add.l0 k x0 x1 (x5 ++ [Int.tmod (wrap64 (x6 + (rd x1 x7))) 10000]) (wrap64 (Int.tdiv (wrap64 (x6 + (rd x1 x7))) 10000)) (wrap64 (x7 + 1))) else (none)) else (none)) else (if x5.length < 17592186044416 then (isochroneref01_Add.l0 k x0 x1 (x5 ++ [Int.tmod x6 10000]) (wrap64 (Int.tdiv x6 10000)) (wrap64 (x7 + 1))) else (none)))) else (some x5)
end
def isochroneref01_Add.f (k : Nat) (l0 : List Int) (l1 : List Int) : Option (List Int) := isochroneref01_Add.l0 k l0 l1 ([] : List Int) 0 0
theorem isochroneref01_Add.mono_l : ∀ k, (∀ y0 y1 y2 y3 y4, LeO (isochroneref01_Add.l0 k y0 y1 y2 y3 y4) (isochroneref01_Add.l0 (k + 1) y0 y1 y2 y3 y4)) ∧ (∀ y0 y1 y2 y3 y4 y5, LeO (isochroneref01_Add.j1 k y0 y1 y2 y3 y4 y5) (isochroneref01_Add.j1 (k + 1) y0 y1 y2 y3 y4 y5))
 | 0 => ⟨fun _ _ _ _ _ r h => by simp [isochroneref01_Add.l0] at h, fun _ _ _ _ _ _ r h => by simp [isochroneref01_Add.j1] at h⟩
 | k + 1 => by
  obtain ⟨ih0, ih1⟩ := isochroneref01_Add.mono_l k
  refine ⟨?_, ?_⟩
  ·intro y0 y1 y2 y3 y4
   unfold isochroneref01_Add.l0
   repeat' first
   | (with_reducible first | exact ih0 _ _ _ _ _ | exact ih1 _ _ _ _ _ _ | exact LeO.refl _ | exact LeO.none _ | refine LeO.ite ?_ ?_ | refine LeO.bind ?_ (fun _ => ?_))
   | exact ih0 _ _ _ _ _
   | exact ih1 _ _ _ _ _ _
   | exact LeO.none _
   | refine LeO.ite ?_ ?_
   | refine LeO.bind ?_ (fun _ => ?_)
  ·intro y0 y1 y2 y3 y4 y5
   unfold isochroneref01_Add.j1
   repeat' first
   | (with_reducible first | exact ih0 _ _ _ _ _ | exact ih1 _ _ _ _ _ _ | exact LeO.refl _ | exact LeO.none _ | refine LeO.ite ?_ ?_ | refine LeO.bind ?_ (fun _ => ?_))
   | exact ih0 _ _ _ _ _
   | exact ih1 _ _ _ _ _ _
   | exact LeO.none _
   | refine LeO.ite ?_ ?_
   | refine LeO.bind ?_ (fun _ => ?_)
theorem isochroneref01_Add.mono : ∀ a0 a1 k, LeO (isochroneref01_Add.f k a0 a1) (isochroneref01_Add.f (k + 1) a0 a1) := by
 intro a0 a1 k
 obtain ⟨ih0, ih1⟩ := isochroneref01_Add.mono_l k
 unfold isochroneref01_Add.f
 repeat' first
   | (with_reducible first | exact ih0 _ _ _ _ _ | exact ih1 _ _ _ _ _ _ | exact LeO.refl _ | exact LeO.none _ | refine LeO.ite ?_ ?_ | refine LeO.bind ?_ (fun _ => ?_))
   | exact ih0 _ _ _ _ _
   | exact ih1 _ _ _ _ _ _
   | exact LeO.none _
   | refine LeO.ite ?_ ?_
   | refine LeO.bind ?_ (fun _ => ?_)
def isochroneref01_trim.l0 : Nat → List Int → Int → Option (List Int)
 | 0, _, _ => none
 | k + 1, x0, x3 => if x3 > 0 then (if 0 ≤ (wrap64 (x3 - 1)) then (if (wrap64 (x3 - 1)) < (x0.length : Int) then (if (rd x0 (wrap64 (x3 - 1))) = 0 then (isochroneref01_trim.l0 k x0 (wrap64 (x3 - 1))) else (if 0 ≤ x3 then (if x3 ≤ (x0.length : Int) then (some (x0.take (x3 : Int).toNat)) else (none)) else (none))) else (none)) else (none)) else (if 0 ≤ x3 then (if x3 ≤ (x0.length : Int) then (some (x0.take (x3 : Int).toNat)) else (none)) else (none))
def isochroneref01_trim.f (k : Nat) (l0 : List Int) : Option (List Int) := isochroneref01_trim.l0 k l0 (l0.length : Int)
theorem isochroneref01_trim.mono_l : ∀ k, (∀ y0 y1, LeO (isochroneref01_trim.l0 k y0 y1) (isochroneref01_trim.l0 (k + 1) y0 y1))
 | 0 => fun _ _ r h => by simp [isochroneref01_trim.l0] at h
 | k + 1 => by
  have ih0 := isochroneref01_trim.mono_l k
  ·intro y0 y1
   unfold isochroneref01_trim.l0
   repeat' first
   | (with_reducible first | exact ih0 _ _ | exact LeO.refl _ | exact LeO.none _ | refine LeO.ite ?_ ?_ | refine LeO.bind ?_ (fun _ => ?_))
   | exact ih0 _ _
   | exact LeO.none _
   | refine LeO.ite ?_ ?_
   | refine LeO.bind ?_ (fun _ => ?_)
theorem isochroneref01_trim.mono : ∀ a0 k, LeO (isochroneref01_trim.f k a0) (isochroneref01_trim.f (k + 1) a0) := by
 intro a0 k
 have ih0 := isochroneref01_trim.mono_l k
 unfold isochroneref01_trim.f
 repeat' first
   | (with_reducible first | exact ih0 _ _ | exact LeO.refl _ | exact LeO.none _ | refine LeO.ite ?_ ?_ | refine LeO.bind ?_ (fun _ => ?_))
   | exact ih0 _ _
   | exact LeO.none _
   | refine LeO.ite ?_ ?_
   | refine LeO.bind ?_ (fun _ => ?_)
mutual
def isochroneref01_Mul.l0 : Nat → List Int → List Int → List Int → Int → Int → Option (List Int)
 | 0, _, _, _, _, _ => none
 | k + 1, x1, x5, x19, x20, x21 => if x21 < x20 then (if 0 ≤ x21 then (if x21 < (x19.length : Int) then (isochroneref01_Mul.l1 k x1 x5 x21 (rd x19 x21) 0 x19 x20 x21 x1 (x1.length : Int) 0) else (none)) else (none)) else ((isochroneref01_trim.f k x5).bind fun t555 => (some t555))
def isochroneref01_Mul.l1 : Nat → List Int → List Int → Int → Int → Int → List Int → Int → Int → List Int → Int → Int → Option (List Int)
 | 0, _, _, _, _, _, _, _, _, _, _, _ => none
 | k + 1, x1, x5, x6, x7, x8, x19, x20, x21, x26, x27, x28 => if x28 < x27 then (if 0 ≤ x28 then (if x28 < (x26.length : Int) then (if 0 ≤ (wrap64 (x6 + x28)) then (if (wrap64 (x6 + x28)) < (x5.length : Int) then (isochroneref01_Mul.l1 k x1 (x5.set ((wrap64 (x6 + x28)) : Int).toNat (Int.tmod (wrap64 (x8 + (wrap64 ((rd x5 (wrap64 (x6 + x28))) + (wrap64 (x7 * (rd x26 x28))))))) 10000)) x6 x7 (wrap64 (Int.tdiv (wrap64 (x8 + (wrap64 ((rd x5 (wrap64 (x6 + x28))) + (wrap64 (x7 * (rd x26 x28))))))) 10000)) x19 x20 x21 x26 x27 (wrap64 (x28 + 1))) else (none)) else (none)) else (none)) else (none)) else (isochroneref01_Mul.l2 k x1 x5 x8 (wrap64 (x6 + (x1.length : Int))) x19 x20 x21)
def isochroneref01_Mul.l2 : Nat → List Int → List Int → Int → Int → List Int → Int → Int → Option (List Int)
 | 0, _, _, _, _, _, _, _ => none
 | k + 1, x1, x5, x8, x11, x19, x20, x21 => if x8 > 0 then (if 0 ≤ x11 then (if x11 < (x5.length : Int) then (isochroneref01_Mul.l2 k x1 (x5.set (x11 : Int).toNat (Int.tmod (wrap64 (x8 + (rd x5 x11))) 10000)) (wrap64 (Int.tdiv (wrap64 (x8 + (rd x5 x11))) 10000)) (wrap64 (x11 + 1)) x19 x20 x21) else (none)) else (none)) else (isochroneref01_Mul.l0 k x1 x5 x19 x20 (wrap64 (x21 + 1)))
end
def isochroneref01_Mul.f (k : Nat) (l0 : List Int) (l1 : List Int) : Option (List Int) := if 0 ≤ (wrap64 ((wrap64 ((l0.length : Int) + (l1.length : Int))) + 1)) then (if (wrap64 ((wrap64 ((l0.length : Int) + (l1.length : Int))) + 1) : Int).toNat ≤ 35184372088832 then (isochroneref01_Mul.l0 k l1 (List.replicate (wrap64 ((wrap64 ((l0.length : Int) + (l1.length : Int))) + 1) : Int).toNat 0) l0 (l0.length : Int) 0) else (none)) else (none)
theorem isochroneref01_Mul.mono_l : ∀ k, (∀ y0 y1 y2 y3 y4, LeO (isochroneref01_Mul.l0 k y0 y1 y2 y3 y4) (isochroneref01_Mul.l0 (k + 1) y0 y1 y2 y3 y4)) ∧ (∀ y0 y1 y2 y3 y4 y5 y6 y7 y8 y9 y10, LeO (isochroneref01_Mul.l1 k y0 y1 y2 y3 y4 y5 y6 y7 y8 y9 y10) (isochroneref01_Mul.l1 (k + 1) y0 y1 y2 y3 y4 y5 y6 y7 y8 y9 y10)) ∧ (∀ y0 y1 y2 y3 y4 y5 y6, LeO (isochroneref01_Mul.l2 k y0 y1 y2 y3 y4 y5 y6) (isochroneref01_Mul.l2 (k + 1) y0 y1 y2 y3 y4 y5 y6))
 | 0 => ⟨fun _ _ _ _ _ r h => by simp [isochroneref01_Mul.l0] at h, fun _ _ _ _ _ _ _ _ _ _ _ r h => by simp [isochroneref01_Mul.l1] at h, fun _ _ _ _ _ _ _ r h => by simp [isochroneref01_Mul.l2] at h⟩
 | k + 1 => by
  obtain ⟨ih0, ih1, ih2⟩ := isochroneref01_Mul.mono_l k
  refine ⟨?_, ?_, ?_⟩
  ·intro y0 y1 y2 y3 y4
   unfold isochroneref01_Mul.l0
   repeat' first
   | (with_reducible first | exact ih0 _ _ _ _ _ | exact ih1 _ _ _ _ _ _ _ _ _ _ _ | exact ih2 _ _ _ _ _ _ _ | exact isochroneref01_trim.mono _ _ | exact LeO.refl _ | exact LeO.none _ | refine LeO.ite ?_ ?_ | refine LeO.bind ?_ (fun _ => ?_))
   | exact ih0 _ _ _ _ _
   | exact ih1 _ _ _ _ _ _ _ _ _ _ _
   | exact ih2 _ _ _ _ _ _ _
   | exact isochroneref01_trim.mono _ _
   | exact LeO.none _
   | refine LeO.ite ?_ ?_
   | refine LeO.bind ?_ (fun _ => ?_)
  ·intro y0 y1 y2 y3 y4 y5 y6 y7 y8 y9 y10
   unfold isochroneref01_Mul.l1
   repeat' first
   | (with_reducible first | exact ih0 _ _ _ _ _ | exact ih1 _ _ _ _ _ _ _ _ _ _ _ | exact ih2 _ _ _ _ _ _ _ | exact isochroneref01_trim.mono _ _ | exact LeO.refl _ | exact LeO.none _ | refine LeO.ite ?_ ?_ | refine LeO.bind ?_ (fun _ => ?_))
   | exact ih0 _ _ _ _ _
   | exact ih1 _ _ _ _ _ _ _ _ _ _ _
   | exact ih2 _ _ _ _ _ _ _
   | exact isochroneref01_trim.mono _ _
   | exact LeO.none _
   | refine LeO.ite ?_ ?_
   | refine LeO.bind ?_ (fun _ => ?_)
  ·intro y0 y1 y2 y3 y4 y5 y6
   unfold isochroneref01_Mul.l2
   repeat' first
   | (with_reducible first | exact ih0 _ _ _ _ _ | exact ih1 _ _ _ _ _ _ _ _ _ _ _ | exact ih2 _ _ _ _ _ _ _ | exact isochroneref01_trim.mono _ _ | exact LeO.refl _ | exact LeO.none _ | refine LeO.ite ?_ ?_ | refine LeO.bind ?_ (fun _ => ?_))
   | exact ih0 _ _ _ _ _
   | exact ih1 _ _ _ _ _ _ _ _ _ _ _
   | exact ih2 _ _ _ _ _ _ _
   | exact isochroneref01_trim.mono _ _
   | exact LeO.none _
   | refine LeO.ite ?_ ?_
   | refine LeO.bind ?_ (fun _ => ?_)
theorem isochroneref01_Mul.mono : ∀ a0 a1 k, LeO (isochroneref01_Mul.f k a0 a1) (isochroneref01_Mul.f (k + 1) a0 a1) := by
 intro a0 a1 k
 obtain ⟨ih0, ih1, ih2⟩ := isochroneref01_Mul.mono_l k
 unfold isochroneref01_Mul.f
 repeat' first
   | (with_reducible first | exact ih0 _ _ _ _ _ | exact ih1 _ _ _ _ _ _ _ _ _ _ _ | exact ih2 _ _ _ _ _ _ _ | exact isochroneref01_trim.mono _ _ | exact LeO.refl _ | exact LeO.none _ | refine LeO.ite ?_ ?_ | refine LeO.bind ?_ (fun _ => ?_))
   | exact ih0 _ _ _ _ _
   | exact ih1 _ _ _ _ _ _ _ _ _ _ _
   | exact ih2 _ _ _ _ _ _ _
   | exact isochroneref01_trim.mono _ _
   | exact LeO.none _
   | refine LeO.ite ?_ ?_
   | refine LeO.bind ?_ (fun _ => ?_)
mutual
def isochroneref01_Small.l0 : Nat → Int → Int → List Int → List Int → Int → Int → Option (List Int)
 | 0, _, _, _, _, _, _ => none
 | k + 1, x1, x2, x7, x14, x15, x16 => if x16 < x15 then (if 0 ≤ x16 then (if x16 < (x14.length : Int) then (if x7.length < 17592186044416 then (isochroneref01_Small.l0 k x1 (wrap64 (Int.tdiv (wrap64 (x2 + (wrap64 ((rd x14 x16) * x1)))) 10000)) (x7 ++ [Int.tmod (wrap64 (x2 + (wrap64 ((rd x14 x16) * x1)))) 10000]) x14 x15 (wrap64 (x16 + 1))) else (none)) else (none)) else (none)) else (isochroneref01_Small.l1 k x2 x7)
def isochroneref01_Small.l1 : Nat → Int → List Int → Option (List Int)
 | 0, _, _ => none
 | k + 1, x2, x7 => if x2 > 0 then (if x7.length < 17592186044416 then (isochroneref01_Small.l1 k (wrap64 (Int.tdiv x2 10000)) (x7 ++ [Int.tmod x2 10000])) else (none)) else ((isochroneref01_trim.f k x7).bind fun t574 => (some t574))
end
def isochroneref01_Small.f (k : Nat) (l0 : List Int) (a1 : Int) (a2 : Int) : Option (List Int) := if 0 ≤ (wrap64 ((l0.length : Int) + 2)) then (if (wrap64 ((l0.length : Int) + 2) : Int).toNat ≤ 35184372088832 then (isochroneref01_Small.l0 k a1 a2 (([] : List Int)) l0 (l0.length : Int) 0) else (none)) else (none)
theorem isochroneref01_Small.mono_l : ∀ k, (∀ y0 y1 y2 y3 y4 y5, LeO (isochroneref01_Small.l0 k y0 y1 y2 y3 y4 y5) (isochroneref01_Small.l0 (k + 1) y0 y1 y2 y3 y4 y5)) ∧ (∀ y0 y1, LeO (isochroneref01_Small.l1 k y0 y1) (isochroneref01_Small.l1 (k + 1) y0 y1))
 | 0 => ⟨fun _ _ _ _ _ _ r h => by simp [isochroneref01_Small.l0] at h, fun _ _ r h => by simp [isochroneref01_Small.l1] at h⟩
 | k + 1 => by
  obtain ⟨ih0, ih1⟩ := isochroneref01_Small.mono_l k
  refine ⟨?_, ?_⟩
  ·intro y0 y1 y2 y3 y4 y5
   unfold isochroneref01_Small.l0
   repeat' first
   | (with_reducible first | exact ih0 _ _ _ _ _ _ | exact ih1 _ _ | exact isochroneref01_trim.mono _ _ | exact LeO.refl _ | exact LeO.none _ | refine LeO.ite ?_ ?_ | refine LeO.bind ?_ (fun _ => ?_))
   | exact ih0 _ _ _ _ _ _
   | exact ih1 _ _
   | exact isochroneref01_trim.mono _ _
   | exact LeO.none _
   | refine LeO.ite ?_ ?_
   | refine LeO.bind ?_ (fun _ => ?_)
  ·intro y0 y1
   unfold isochroneref01_Small.l1
   repeat' first
   | (with_reducible first | exact ih0 _ _ _ _ _ _ | exact ih1 _ _ | exact isochroneref01_trim.mono _ _ | exact LeO.refl _ | exact LeO.none _ | refine LeO.ite ?_ ?_ | refine LeO.bind ?_ (fun _ => ?_))
   | exact ih0 _ _ _ _ _ _
   | exact ih1 _ _
   | exact isochroneref01_trim.mono _ _
   | exact LeO.none _
   | refine LeO.ite ?_ ?_
   | refine LeO.bind ?_ (fun _ => ?_)
theorem isochroneref01_Small.mono : ∀ a0 a1 a2 k, LeO (isochroneref01_Small.f k a0 a1 a2) (isochroneref01_Small.f (k + 1) a0 a1 a2) := by
 intro a0 a1 a2 k
 obtain ⟨ih0, ih1⟩ := isochroneref01_Small.mono_l k
 unfold isochroneref01_Small.f
 repeat' first
   | (with_reducible first | exact ih0 _ _ _ _ _ _ | exact ih1 _ _ | exact isochroneref01_trim.mono _ _ | exact LeO.refl _ | exact LeO.none _ | refine LeO.ite ?_ ?_ | refine LeO.bind ?_ (fun _ => ?_))
   | exact ih0 _ _ _ _ _ _
   | exact ih1 _ _
   | exact isochroneref01_trim.mono _ _
   | exact LeO.none _
   | refine LeO.ite ?_ ?_
   | refine LeO.bind ?_ (fun _ => ?_)
def isochroneref01_Two.l0 : Nat → Int → List Int → Option (List Int)
 | 0, _, _ => none
 | k + 1, x0, x3 => if x0 ≥ 16 then ((isochroneref01_Small.f k x3 65536 0).bind fun t580 => (isochroneref01_Two.l0 k (wrap64 (x0 - 16)) t580)) else (if 0 ≤ x0 then ((isochroneref01_Small.f k x3 (shl .i64 1 x0) 0).bind fun t583 => (some t583)) else (none))
def isochroneref01_Two.f (k : Nat) (a0 : Int) : Option (List Int) := isochroneref01_Two.l0 k a0 (([1] : List Int))
theorem isochroneref01_Two.mono_l : ∀ k, (∀ y0 y1, LeO (isochroneref01_Two.l0 k y0 y1) (isochroneref01_Two.l0 (k + 1) y0 y1))
 | 0 => fun _ _ r h => by simp [isochroneref01_Two.l0] at h
 | k + 1 => by
  have ih0 := isochroneref01_Two.mono_l k
  ·intro y0 y1
   unfold isochroneref01_Two.l0
   repeat' first
   | (with_reducible first | exact ih0 _ _ | exact isochroneref01_Small.mono _ _ _ _ | exact LeO.refl _ | exact LeO.none _ | refine LeO.ite ?_ ?_ | refine LeO.bind ?_ (fun _ => ?_))
   | exact ih0 _ _
   | exact isochroneref01_Small.mono _ _ _ _
   | exact LeO.none _
   | refine LeO.ite ?_ ?_
   | refine LeO.bind ?_ (fun _ => ?_)
theorem isochroneref01_Two.mono : ∀ a0 k, LeO (isochroneref01_Two.f k a0) (isochroneref01_Two.f (k + 1) a0) := by
 intro a0 k
 have ih0 := isochroneref01_Two.mono_l k
 unfold isochroneref01_Two.f
 repeat' first
   | (with_reducible first | exact ih0 _ _ | exact isochroneref01_Small.mono _ _ _ _ | exact LeO.refl _ | exact LeO.none _ | refine LeO.ite ?_ ?_ | refine LeO.bind ?_ (fun _ => ?_))
   | exact ih0 _ _
   | exact isochroneref01_Small.mono _ _ _ _
   | exact LeO.none _
   | refine LeO.ite ?_ ?_
   | refine LeO.bind ?_ (fun _ => ?_)
def isochroneref01_Nat_int.f (l0 : List Int) : Option (List Int) := (some (([] : List Int) : List Int)).bind fun y586 => (if y586.length + l0.length < 17592186044416 then (some (y586 ++ l0)) else (none))
def isochroneref01_Sub.l0 : Nat → List Int → List Int → Int → Int → Int → Option (List Int)
 | 0, _, _, _, _, _ => none
 | k + 1, x1, x5, x6, x12, x13 => if x13 < x12 then (if 0 ≤ x13 then (if x13 < (x5.length : Int) then (if x13 < (x1.length : Int) then (if (wrap64 ((wrap64 ((rd x5 x13) - x6)) - (rd x1 x13))) < 0 then (isochroneref01_Sub.l0 k x1 (x5.set (x13 : Int).toNat (wrap64 ((wrap64 ((wrap64 ((rd x5 x13) - x6)) - (rd x1 x13))) + 10000))) 1 x12 (wrap64 (x13 + 1))) else (isochroneref01_Sub.l0 k x1 (x5.set (x13 : Int).toNat (wrap64 ((wrap64 ((rd x5 x13) - x6)) - (rd x1 x13)))) 0 x12 (wrap64 (x13 + 1)))) else (if (wrap64 ((rd x5 x13) - x6)) < 0 then (isochroneref01_Sub.l0 k x1 (x5.set (x13 : Int).toNat (wrap64 ((wrap64 ((rd x5 x13) - x6)) + 10000))) 1 x12 (wrap64 (x13 + 1))) else (isochroneref01_Sub.l0 k x1 (x5.set (x13 : Int).toNat (wrap64 ((rd x5 x13) - x6))) 0 x12 (wrap64 (x13 + 1))))) else (none)) else (none)) else ((isochroneref01_trim.f k x5).bind fun t595 => (some t595))
def isochroneref01_Sub.f (k : Nat) (l0 : List Int) (l1 : List Int) : Option (List Int) := (isochroneref01_Nat_int.f l0).bind fun t592 => (isochroneref01_Sub.l0 k l1 t592 0 (t592.length : Int) 0)
theorem isochroneref01_Sub.mono_l : ∀ k, (∀ y0 y1 y2 y3 y4, LeO (isochroneref01_Sub.l0 k y0 y1 y2 y3 y4) (isochroneref01_Sub.l0 (k + 1) y0 y1 y2 y3 y4))
 | 0 => fun _ _ _ _ _ r h => by simp [isochroneref01_Sub.l0] at h
 | k + 1 => by
  have ih0 := isochroneref01_Sub.mono_l k
  ·intro y0 y1 y2 y3 y4
   unfold isochroneref01_Sub.l0
   repeat' first
   | (with_reducible first | exact ih0 _ _ _ _ _ | exact isochroneref01_trim.mono _ _ | exact LeO.refl _ | exact LeO.none _ | refine LeO.ite ?_ ?_ | refine LeO.bind ?_ (fun _ => ?_))
   | exact ih0 _ _ _ _ _
   | exact isochroneref01_trim.mono _ _
   | exact LeO.none _
   | refine LeO.ite ?_ ?_
   | refine LeO.bind ?_ (fun _ => ?_)
theorem isochroneref01_Sub.mono : ∀ a0 a1 k, LeO (isochroneref01_Sub.f k a0 a1) (isochroneref01_Sub.f (k + 1) a0 a1) := by
 intro a0 a1 k
 have ih0 := isochroneref01_Sub.mono_l k
 unfold isochroneref01_Sub.f
 repeat' first
   | (with_reducible first | exact ih0 _ _ _ _ _ | exact isochroneref01_trim.mono _ _ | exact LeO.refl _ | exact LeO.none _ | refine LeO.ite ?_ ?_ | refine LeO.bind ?_ (fun _ => ?_))
   | exact ih0 _ _ _ _ _
   | exact isochroneref01_trim.mono _ _
   | exact LeO.none _
   | refine LeO.ite ?_ ?_
   | refine LeO.bind ?_ (fun _ => ?_)
def isochroneref01_Split.l0 : Nat → List Int → Int → List Int → Int → Int → Option (List Int × Int)
 | 0, _, _, _, _, _ => none
 | k + 1, x0, x1, x6, x7, x8 => if x8 ≥ 0 then (if 0 ≤ x8 then (if x8 < (x0.length : Int) then (if x1 = 0 then (none) else (if x8 < (x6.length : Int) then (isochroneref01_Split.l0 k x0 x1 (x6.set (x8 : Int).toNat (wrap64 (Int.tdiv (wrap64 ((wrap64 (x7 * 10000)) + (rd x0 x8))) x1))) (Int.tmod (wrap64 ((wrap64 (x7 * 10000)) + (rd x0 x8))) x1) (wrap64 (x8 - 1))) else (none))) else (none)) else (none)) else ((isochroneref01_trim.f k x6).bind fun t609 => (some (t609, x7)))
def isochroneref01_Split.f (k : Nat) (l0 : List Int) (a1 : Int) : Option (List Int × Int) := if 0 ≤ (l0.length : Int) then (if ((l0.length : Int) : Int).toNat ≤ 35184372088832 then (isochroneref01_Split.l0 k l0 a1 (List.replicate ((l0.length : Int) : Int).toNat 0) 0 (wrap64 ((l0.length : Int) - 1))) else (none)) else (none)
theorem isochroneref01_Split.mono_l : ∀ k, (∀ y0 y1 y2 y3 y4, LeO (isochroneref01_Split.l0 k y0 y1 y2 y3 y4) (isochroneref01_Split.l0 (k + 1) y0 y1 y2 y3 y4))
 | 0 => fun _ _ _ _ _ r h => by simp [isochroneref01_Split.l0] at h
 | k + 1 => by
  have ih0 := isochroneref01_Split.mono_l k
  ·intro y0 y1 y2 y3 y4
   unfold isochroneref01_Split.l0
   repeat' first
   | (with_reducible first | exact ih0 _ _ _ _ _ | exact isochroneref01_trim.mono _ _ | exact LeO.refl _ | exact LeO.none _ | refine LeO.ite ?_ ?_ | refine LeO.bind ?_ (fun _ => ?_))
   | exact ih0 _ _ _ _ _
   | exact isochroneref01_trim.mono _ _
   | exact LeO.none _
   | refine LeO.ite ?_ ?_
   | refine LeO.bind ?_ (fun _ => ?_)
theorem isochroneref01_Split.mono : ∀ a0 a1 k, LeO (isochroneref01_Split.f k a0 a1) (isochroneref01_Split.f (k + 1) a0 a1) := by
 intro a0 a1 k
 have ih0 := isochroneref01_Split.mono_l k
 unfold isochroneref01_Split.f
 repeat' first
   | (with_reducible first | exact ih0 _ _ _ _ _ | exact isochroneref01_trim.mono _ _ | exact LeO.refl _ | exact LeO.none _ | refine LeO.ite ?_ ?_ | refine LeO.bind ?_ (fun _ => ?_))
   | exact ih0 _ _ _ _ _
   | exact isochroneref01_trim.mono _ _
   | exact LeO.none _
   | refine LeO.ite ?_ ?_
   | refine LeO.bind ?_ (fun _ => ?_)
mutual
def isochroneref01_Words.l0 : Nat → List Int → List Int → Option (List Int)
 | 0, _, _ => none
 | k + 1, x0, x3 => if (x0.length : Int) > 0 then ((isochroneref01_Split.f k x0 65536).bind fun bt612 => (if x3.length < 17592186044416 then (isochroneref01_Words.l0 k bt612.1 (x3 ++ [bt612.2])) else (none))) else (isochroneref01_Words.l1 k x3 ([] : List Int) 0)
def isochroneref01_Words.l1 : Nat → List Int → List Int → Int → Option (List Int)
 | 0, _, _, _ => none
 | k + 1, x3, x6, x7 => if x7 < (x3.length : Int) then (if 0 ≤ x7 then (if (wrap64 (x7 + 1)) < (x3.length : Int) then (if 0 ≤ (wrap64 (x7 + 1)) then (if x6.length < 35184372088832 then (isochroneref01_Words.l1 k x3 (x6 ++ [(((rd x3 x7) % 4294967296) + ((((rd x3 (wrap64 (x7 + 1))) % 4294967296) * 65536) % 4294967296)) % 4294967296]) (wrap64 (x7 + 2))) else (none)) else (none)) else (if x6.length < 35184372088832 then (isochroneref01_Words.l1 k x3 (x6 ++ [(rd x3 x7) % 4294967296]) (wrap64 (x7 + 2))) else (none))) else (none)) else (some x6)
end
def isochroneref01_Words.f (k : Nat) (l0 : List Int) : Option (List Int) := isochroneref01_Words.l0 k l0 ([] : List Int)
theorem isochroneref01_Words.mono_l : ∀ k, (∀ y0 y1, LeO (isochroneref01_Words.l0 k y0 y1) (isochroneref01_Words.l0 (k + 1) y0 y1)) ∧ (∀ y0 y1 y2, LeO (isochroneref01_Words.l1 k y0 y1 y2) (isochroneref01_Words.l1 (k + 1) y0 y1 y2))
 | 0 => ⟨fun _ _ r h => by simp [isochroneref01_Words.l0] at h, fun _ _ _ r h => by simp [isochroneref01_Words.l1] at h⟩
 | k + 1 => by
  obtain ⟨ih0, ih1⟩ := isochroneref01_Words.mono_l k
  refine ⟨?_, ?_⟩
  ·intro y0 y1
   unfold isochroneref01_Words.l0
   repeat' first
   | (with_reducible first | exact ih0 _ _ | exact ih1 _ _ _ | exact isochroneref01_Split.mono _ _ _ | exact LeO.refl _ | exact LeO.none _ | refine LeO.ite ?_ ?_ | refine LeO.bind ?_ (fun _ => ?_))
   | exact ih0 _ _
   | exact ih1 _ _ _
   | exact isochroneref01_Split.mono _ _ _
   | exact LeO.none _
   | refine LeO.ite ?_ ?_
   | refine LeO.bind ?_ (fun _ => ?_)
  ·intro y0 y1 y2
   unfold isochroneref01_Words.l1
   repeat' first
   | (with_reducible first | exact ih0 _ _ | exact ih1 _ _ _ | exact isochroneref01_Split.mono _ _ _ | exact LeO.refl _ | exact LeO.none _ | refine LeO.ite ?_ ?_ | refine LeO.bind ?_ (fun _ => ?_))
   | exact ih0 _ _
   | exact ih1 _ _ _
   | exact isochroneref01_Split.mono _ _ _
   | exact LeO.none _
   | refine LeO.ite ?_ ?_
   | refine LeO.bind ?_ (fun _ => ?_)
theorem isochroneref01_Words.mono : ∀ a0 k, LeO (isochroneref01_Words.f k a0) (isochroneref01_Words.f (k + 1) a0) := by
 intro a0 k
 obtain ⟨ih0, ih1⟩ := isochroneref01_Words.mono_l k
 unfold isochroneref01_Words.f
 repeat' first
   | (with_reducible first | exact ih0 _ _ | exact ih1 _ _ _ | exact isochroneref01_Split.mono _ _ _ | exact LeO.refl _ | exact LeO.none _ | refine LeO.ite ?_ ?_ | refine LeO.bind ?_ (fun _ => ?_))
   | exact ih0 _ _
   | exact ih1 _ _ _
   | exact isochroneref01_Split.mono _ _ _
   | exact LeO.none _
   | refine LeO.ite ?_ ?_
   | refine LeO.bind ?_ (fun _ => ?_)
def isochroneref02_To.f (k : Nat) (a0_0 : Bool) (l0_1 : List Int) (l0_2 : List Int) : Option (Bool × List Int × List Int) := (isochroneref01_Words.f k l0_1).bind fun t629 => ((isochroneref01_Words.f k l0_2).bind fun t632 => (some (a0_0, t629, t632)))
theorem isochroneref02_To.mono : ∀ a0 a1 a2 k, LeO (isochroneref02_To.f k a0 a1 a2) (isochroneref02_To.f (k + 1) a0 a1 a2) := by
 intro a0 a1 a2 k
 unfold isochroneref02_To.f
 repeat' first
   | (with_reducible first | exact isochroneref01_Words.mono _ _ | exact LeO.refl _ | exact LeO.none _ | refine LeO.ite ?_ ?_ | refine LeO.bind ?_ (fun _ => ?_))
   | exact isochroneref01_Words.mono _ _
   | exact LeO.none _
   | refine LeO.ite ?_ ?_
   | refine LeO.bind ?_ (fun _ => ?_)
def isochroneref02_To.B1 : List Nat := [0, 1, 0, 4, 12, 0, 32, 124, 255, 511]
def slices_Equal_uint32_uint32.l0 : Nat → List Int → List Int → Int → Int → Option (Bool)
 | 0, _, _, _, _ => none
 | k + 1, x0, x1, x12, x13 => if x13 < x12 then (if 0 ≤ x13 then (if x13 < (x0.length : Int) then (if x13 < (x1.length : Int) then (if (rd x0 x13) = (rd x1 x13) then (slices_Equal_uint32_uint32.l0 k x0 x1 x12 (wrap64 (x13 + 1))) else (some false)) else (none)) else (none)) else (none)) else (some true)
def slices_Equal_uint32_uint32.f (k : Nat) (l0 : List Int) (l1 : List Int) : Option (Bool) := if (l0.length : Int) = (l1.length : Int) then (slices_Equal_uint32_uint32.l0 k l0 l1 (l0.length : Int) 0) else (some false)
theorem slices_Equal_uint32_uint32.mono_l : ∀ k, (∀ y0 y1 y2 y3, LeO (slices_Equal_uint32_uint32.l0 k y0 y1 y2 y3) (slices_Equal_uint32_uint32.l0 (k + 1) y0 y1 y2 y3))
 | 0 => fun _ _ _ _ r h => by simp [slices_Equal_uint32_uint32.l0] at h
 | k + 1 => by
  have ih0 := slices_Equal_uint32_uint32.mono_l k
  ·intro y0 y1 y2 y3
   unfold slices_Equal_uint32_uint32.l0
   repeat' first
   | (with_reducible first | exact ih0 _ _ _ _ | exact LeO.refl _ | exact LeO.none _ | refine LeO.ite ?_ ?_ | refine LeO.bind ?_ (fun _ => ?_))
   | exact ih0 _ _ _ _
   | exact LeO.none _
   | refine LeO.ite ?_ ?_
   | refine LeO.bind ?_ (fun _ => ?_)
theorem slices_Equal_uint32_uint32.mono : ∀ a0 a1 k, LeO (slices_Equal_uint32_uint32.f k a0 a1) (slices_Equal_uint32_uint32.f (k + 1) a0 a1) := by
 intro a0 a1 k
 have ih0 := slices_Equal_uint32_uint32.mono_l k
 unfold slices_Equal_uint32_uint32.f
 repeat' first
   | (with_reducible first | exact ih0 _ _ _ _ | exact LeO.refl _ | exact LeO.none _ | refine LeO.ite ?_ ?_ | refine LeO.bind ?_ (fun _ => ?_))
   | exact ih0 _ _ _ _
   | exact LeO.none _
   | refine LeO.ite ?_ ?_
   | refine LeO.bind ?_ (fun _ => ?_)
def isochroneref02_Same.f (k : Nat) (a0_0 : Bool) (l0_1 : List Int) (l0_2 : List Int) (a1_0 : Bool) (l1_1 : List Int) (l1_2 : List Int) : Option (Bool) := if (a0_0 == a1_0) = true then ((slices_Equal_uint32_uint32.f k l0_1 l1_1).bind fun t639 => (if t639 = true then ((slices_Equal_uint32_uint32.f k l0_2 l1_2).bind fun t640 => (some t640)) else (some false))) else (some false)
theorem isochroneref02_Same.mono : ∀ a0 a1 a2 a3 a4 a5 k, LeO (isochroneref02_Same.f k a0 a1 a2 a3 a4 a5) (isochroneref02_Same.f (k + 1) a0 a1 a2 a3 a4 a5) := by
 intro a0 a1 a2 a3 a4 a5 k
 unfold isochroneref02_Same.f
 repeat' first
   | (with_reducible first | exact slices_Equal_uint32_uint32.mono _ _ _ | exact LeO.refl _ | exact LeO.none _ | refine LeO.ite ?_ ?_ | refine LeO.bind ?_ (fun _ => ?_))
   | exact slices_Equal_uint32_uint32.mono _ _ _
   | exact LeO.none _
   | refine LeO.ite ?_ ?_
   | refine LeO.bind ?_ (fun _ => ?_)
def isochroneref02_Is.f (k : Nat) (a0_0 : Bool) (l0_1 : List Int) (l0_2 : List Int) (a1_0 : Bool) (l1_1 : List Int) (l1_2 : List Int) : Option (Bool) := (isochroneref02_To.f k a1_0 l1_1 l1_2).bind fun bt643 => ((isochroneref02_Same.f k a0_0 l0_1 l0_2 bt643.1 bt643.2.1 bt643.2.2).bind fun t650 => (some t650))
theorem isochroneref02_Is.mono : ∀ a0 a1 a2 a3 a4 a5 k, LeO (isochroneref02_Is.f k a0 a1 a2 a3 a4 a5) (isochroneref02_Is.f (k + 1) a0 a1 a2 a3 a4 a5) := by
 intro a0 a1 a2 a3 a4 a5 k
 unfold isochroneref02_Is.f
 repeat' first
   | (with_reducible first | exact isochroneref02_Same.mono _ _ _ _ _ _ _ | exact isochroneref02_To.mono _ _ _ _ | exact LeO.refl _ | exact LeO.none _ | refine LeO.ite ?_ ?_ | refine LeO.bind ?_ (fun _ => ?_))
   | exact isochroneref02_Same.mono _ _ _ _ _ _ _
   | exact isochroneref02_To.mono _ _ _ _
   | exact LeO.none _
   | refine LeO.ite ?_ ?_
   | refine LeO.bind ?_ (fun _ => ?_)
def isochroneref02_Zero.f  : Option (Bool × List Int × List Int) := some (false, (([] : List Int)), (([1] : List Int)))
def isochroneref01_Cmp.l0 : Nat → List Int → List Int → Int → Option (Int)
 | 0, _, _, _ => none
 | k + 1, x0, x1, x5 => if x5 ≥ 0 then (if 0 ≤ x5 then (if x5 < (x0.length : Int) then (if x5 < (x1.length : Int) then (if (rd x0 x5) = (rd x1 x5) then (isochroneref01_Cmp.l0 k x0 x1 (wrap64 (x5 - 1))) else (if (rd x0 x5) < (rd x1 x5) then (some (-1)) else (some 1))) else (none)) else (none)) else (none)) else (some 0)
def isochroneref01_Cmp.f (k : Nat) (l0 : List Int) (l1 : List Int) : Option (Int) := if (l0.length : Int) = (l1.length : Int) then (isochroneref01_Cmp.l0 k l0 l1 (wrap64 ((l0.length : Int) - 1))) else (if (l0.length : Int) < (l1.length : Int) then (some (-1)) else (some 1))
theorem isochroneref01_Cmp.mono_l : ∀ k, (∀ y0 y1 y2, LeO (isochroneref01_Cmp.l0 k y0 y1 y2) (isochroneref01_Cmp.l0 (k + 1) y0 y1 y2))
 | 0 => fun _ _ _ r h => by simp [isochroneref01_Cmp.l0] at h
 | k + 1 => by
  have ih0 := isochroneref01_Cmp.mono_l k
  ·intro y0 y1 y2
   unfold isochroneref01_Cmp.l0
   repeat' first
   | (with_reducible first | exact ih0 _ _ _ | exact LeO.refl _ | exact LeO.none _ | refine LeO.ite ?_ ?_ | refine LeO.bind ?_ (fun _ => ?_))
   | exact ih0 _ _ _
   | exact LeO.none _
   | refine LeO.ite ?_ ?_
   | refine LeO.bind ?_ (fun _ => ?_)
theorem isochroneref01_Cmp.mono : ∀ a0 a1 k, LeO (isochroneref01_Cmp.f k a0 a1) (isochroneref01_Cmp.f (k + 1) a0 a1) := by
 intro a0 a1 k
 have ih0 := isochroneref01_Cmp.mono_l k
 unfold isochroneref01_Cmp.f
 repeat' first
   | (with_reducible first | exact ih0 _ _ _ | exact LeO.refl _ | exact LeO.none _ | refine LeO.ite ?_ ?_ | refine LeO.bind ?_ (fun _ => ?_))
   | exact ih0 _ _ _
   | exact LeO.none _
   | refine LeO.ite ?_ ?_
   | refine LeO.bind ?_ (fun _ => ?_)
def isochroneref01_little.l0 : Nat → List Int → Int → Int → Option (Int × Bool)
 | 0, _, _, _ => none
 | k + 1, x0, x4, x5 => if x5 ≥ 0 then (if 0 ≤ x5 then (if x5 < (x0.length : Int) then (isochroneref01_little.l0 k x0 (wrap64 ((wrap64 (x4 * 10000)) + (rd x0 x5))) (wrap64 (x5 - 1))) else (none)) else (none)) else (some (x4, true))
def isochroneref01_little.f (k : Nat) (l0 : List Int) : Option (Int × Bool) := if (l0.length : Int) > 4 then (some (0, false)) else (isochroneref01_little.l0 k l0 0 (wrap64 ((l0.length : Int) - 1)))
theorem isochroneref01_little.mono_l : ∀ k, (∀ y0 y1 y2, LeO (isochroneref01_little.l0 k y0 y1 y2) (isochroneref01_little.l0 (k + 1) y0 y1 y2))
 | 0 => fun _ _ _ r h => by simp [isochroneref01_little.l0] at h
 | k + 1 => by
  have ih0 := isochroneref01_little.mono_l k
  ·intro y0 y1 y2
   unfold isochroneref01_little.l0
   repeat' first
   | (with_reducible first | exact ih0 _ _ _ | exact LeO.refl _ | exact LeO.none _ | refine LeO.ite ?_ ?_ | refine LeO.bind ?_ (fun _ => ?_))
   | exact ih0 _ _ _
   | exact LeO.none _
   | refine LeO.ite ?_ ?_
   | refine LeO.bind ?_ (fun _ => ?_)
theorem isochroneref01_little.mono : ∀ a0 k, LeO (isochroneref01_little.f k a0) (isochroneref01_little.f (k + 1) a0) := by
 intro a0 k
 have ih0 := isochroneref01_little.mono_l k
 unfold isochroneref01_little.f
 repeat' first
   | (with_reducible first | exact ih0 _ _ _ | exact LeO.refl _ | exact LeO.none _ | refine LeO.ite ?_ ?_ | refine LeO.bind ?_ (fun _ => ?_))
   | exact ih0 _ _ _
   | exact LeO.none _
   | refine LeO.ite ?_ ?_
   | refine LeO.bind ?_ (fun _ => ?_)
mutual
def isochroneref01_digit.l0 : Nat → List Int → List Int → Int → Int → Int → Int → Option (Int)
 | 0, _, _, _, _, _, _ => none
 | k + 1, x0, x1, x5, x6, x7, x8 => if x8 ≥ (mx 0 (wrap64 (x5 - 2))) then (if x8 < (x0.length : Int) then (if 0 ≤ x8 then (isochroneref01_digit.l0 k x0 x1 x5 (wrap64 ((wrap64 (x6 * 10000)) + (rd x0 x8))) x7 (wrap64 (x8 - 1))) else (none)) else (isochroneref01_digit.l0 k x0 x1 x5 (wrap64 (x6 * 10000)) x7 (wrap64 (x8 - 1)))) else (isochroneref01_digit.l1 k x0 x1 x5 x6 x7 (wrap64 (x5 - 1)))
def isochroneref01_digit.l1 : Nat → List Int → List Int → Int → Int → Int → Int → Option (Int)
 | 0, _, _, _, _, _, _ => none
 | k + 1, x0, x1, x5, x6, x7, x9 => if x9 ≥ (mx 0 (wrap64 (x5 - 2))) then (if 0 ≤ x9 then (if x9 < (x1.length : Int) then (isochroneref01_digit.l1 k x0 x1 x5 x6 (wrap64 ((wrap64 (x7 * 10000)) + (rd x1 x9))) (wrap64 (x9 - 1))) else (none)) else (none)) else (if x5 = 1 then (if 0 < (x1.length : Int) then (isochroneref01_digit.j2 k x0 x1 x6 (rd x1 0)) else (none)) else (isochroneref01_digit.j2 k x0 x1 x6 x7))
def isochroneref01_digit.j2 : Nat → List Int → List Int → Int → Int → Option (Int)
 | 0, _, _, _, _ => none
 | k + 1, x0, x1, x6, x7 => if x7 = 0 then (none) else (isochroneref01_digit.l2 k x0 x1 (mn (wrap64 (Int.tdiv x6 x7)) 9999))
def isochroneref01_digit.l2 : Nat → List Int → List Int → Int → Option (Int)
 | 0, _, _, _ => none
 | k + 1, x0, x1, x10 => (isochroneref01_Small.f k x1 x10 0).bind fun t666 => ((isochroneref01_Cmp.f k t666 x0).bind fun t669 => (if t669 > 0 then (isochroneref01_digit.l2 k x0 x1 (wrap64 (x10 - 1))) else (isochroneref01_digit.l3 k x0 x1 x10)))
def isochroneref01_digit.l3 : Nat → List Int → List Int → Int → Option (Int)
 | 0, _, _, _ => none
 | k + 1, x0, x1, x10 => if (wrap64 (x10 + 1)) < 10000 then ((isochroneref01_Small.f k x1 (wrap64 (x10 + 1)) 0).bind fun t670 => ((isochroneref01_Cmp.f k t670 x0).bind fun t673 => (if t673 ≤ 0 then (isochroneref01_digit.l3 k x0 x1 (wrap64 (x10 + 1))) else (some x10)))) else (some x10)
end
def isochroneref01_digit.f (k : Nat) (l0 : List Int) (l1 : List Int) : Option (Int) := isochroneref01_digit.l0 k l0 l1 (l1.length : Int) 0 0 (l1.length : Int)
theorem isochroneref01_digit.mono_l : ∀ k, (∀ y0 y1 y2 y3 y4 y5, LeO (isochroneref01_digit.l0 k y0 y1 y2 y3 y4 y5) (isochroneref01_digit.l0 (k + 1) y0 y1 y2 y3 y4 y5)) ∧ (∀ y0 y1 y2 y3 y4 y5, LeO (isochroneref01_digit.l1 k y0 y1 y2 y3 y4 y5) (isochroneref01_digit.l1 (k + 1) y0 y1 y2 y3 y4 y5)) ∧ (∀ y0 y1 y2 y3, LeO (isochroneref01_digit.j2 k y0 y1 y2 y3) (isochroneref01_digit.j2 (k + 1) y0 y1 y2 y3)) ∧ (∀ y0 y1 y2, LeO (isochroneref01_digit.l2 k y0 y1 y2) (isochroneref01_digit.l2 (k + 1) y0 y1 y2)) ∧ (∀ y0 y1 y2, LeO (isochroneref01_digit.l3 k y0 y1 y2) (isochroneref01_digit.l3 (k + 1) y0 y1 y2))
 | 0 => ⟨fun _ _ _ _ _ _ r h => by simp [isochroneref01_digit.l0] at h, fun _ _ _ _ _ _ r h => by simp [isochroneref01_digit.l1] at h, fun _ _ _ _ r h => by simp [isochroneref01_digit.j2] at h, fun _ _ _ r h => by simp [isochroneref01_digit.l2] at h, fun _ _ _ r h => by simp [isochroneref01_digit.l3] at h⟩
 | k + 1 => by
  obtain ⟨ih0, ih1, ih2, ih3, ih4⟩ := isochroneref01_digit.mono_l k
  refine ⟨?_, ?_, ?_, ?_, ?_⟩
  ·intro y0 y1 y2 y3 y4 y5
   unfold isochroneref01_digit.l0
   repeat' first
   | (with_reducible first | exact ih0 _ _ _ _ _ _ | exact ih1 _ _ _ _ _ _ | exact ih2 _ _ _ _ | exact ih3 _ _ _ | exact ih4 _ _ _ | exact isochroneref01_Cmp.mono _ _ _ | exact isochroneref01_Small.mono _ _ _ _ | exact LeO.refl _ | exact LeO.none _ | refine LeO.ite ?_ ?_ | refine LeO.bind ?_ (fun _ => ?_))
   | exact ih0 _ _ _ _ _ _
   | exact ih1 _ _ _ _ _ _
   | exact ih2 _ _ _ _
   | exact ih3 _ _ _
   | exact ih4 _ _ _
   | exact isochroneref01_Cmp.mono _ _ _
   | exact isochroneref01_Small.mono _ _ _ _
   | exact LeO.none _
   | refine LeO.ite ?_ ?_
   | refine LeO.bind ?_ (fun _ => ?_)
  ·intro y0 y1 y2 y3 y4 y5
   unfold isochroneref01_digit.l1
   repeat' first
   | (with_reducible first | exact ih0 _ _ _ _ _ _ | exact ih1 _ _ _ _ _ _ | exact ih2 _ _ _ _ | exact ih3 _ _ _ | exact ih4 _ _ _ | exact isochroneref01_Cmp.mono _ _ _ | exact isochroneref01_Small.mono _ _ _ _ | exact LeO.refl _ | exact LeO.none _ | refine LeO.ite ?_ ?_ | refine LeO.bind ?_ (fun _ => ?_))
   | exact ih0 _ _ _ _ _ _
   | exact ih1 _ _ _ _ _ _
   | exact ih2 _ _ _ _
   | exact ih3 _ _ _
   | exact ih4 _ _ _
   | exact isochroneref01_Cmp.mono _ _ _
   | exact isochroneref01_Small.mono _ _ _ _
   | exact LeO.none _
   | refine LeO.ite ?_ ?_
   | refine LeO.bind ?_ (fun _ => ?_)
  ·intro y0 y1 y2 y3
   unfold isochroneref01_digit.j2
   repeat' first
   | (with_reducible first | exact ih0 _ _ _ _ _ _ | exact ih1 _ _ _ _ _ _ | exact ih2 _ _ _ _ | exact ih3 _ _ _ | exact ih4 _ _ _ | exact isochroneref01_Cmp.mono _ _ _ | exact isochroneref01_Small.mono _ _ _ _ | exact LeO.refl _ | exact LeO.none _ | refine LeO.ite ?_ ?_ | refine LeO.bind ?_ (fun _ => ?_))
   | exact ih0 _ _ _ _ _ _
   | exact ih1 _ _ _ _ _ _
   | exact ih2 _ _ _ _
   | exact ih3 _ _ _
   | exact ih4 _ _ _
   | exact isochroneref01_Cmp.mono _ _ _
   | exact isochroneref01_Small.mono _ _ _ _
   | exact LeO.none _
   | refine LeO.ite ?_ ?_
   | refine LeO.bind ?_ (fun _ => ?_)
  ·intro y0 y1 y2
   unfold isochroneref01_digit.l2
   repeat' first
   | (with_reducible first | exact ih0 _ _ _ _ _ _ | exact ih1 _ _ _ _ _ _ | exact ih2 _ _ _ _ | exact ih3 _ _ _ | exact ih4 _ _ _ | exact isochroneref01_Cmp.mono _ _ _ | exact isochroneref01_Small.mono _ _ _ _ | exact LeO.refl _ | exact LeO.none _ | refine LeO.ite ?_ ?_ | refine LeO.bind ?_ (fun _ => ?_))
   | exact ih0 _ _ _ _ _ _
   | exact ih1 _ _ _ _ _ _
   | exact ih2 _ _ _ _
   | exact ih3 _ _ _
   | exact ih4 _ _ _
   | exact isochroneref01_Cmp.mono _ _ _
   | exact isochroneref01_Small.mono _ _ _ _
   | exact LeO.none _
   | refine LeO.ite ?_ ?_
   | refine LeO.bind ?_ (fun _ => ?_)
  ·intro y0 y1 y2
   unfold isochroneref01_digit.l3
   repeat' first
   | (with_reducible first | exact ih0 _ _ _ _ _ _ | exact ih1 _ _ _ _ _ _ | exact ih2 _ _ _ _ | exact ih3 _ _ _ | exact ih4 _ _ _ | exact isochroneref01_Cmp.mono _ _ _ | exact isochroneref01_Small.mono _ _ _ _ | exact LeO.refl _ | exact LeO.none _ | refine LeO.ite ?_ ?_ | refine LeO.bind ?_ (fun _ => ?_))
   | exact ih0 _ _ _ _ _ _
   | exact ih1 _ _ _ _ _ _
   | exact ih2 _ _ _ _
   | exact ih3 _ _ _
   | exact ih4 _ _ _
   | exact isochroneref01_Cmp.mono _ _ _
   | exact isochroneref01_Small.mono _ _ _ _
   | exact LeO.none _
   | refine LeO.ite ?_ ?_
   | refine LeO.bind ?_ (fun _ => ?_)
theorem isochroneref01_digit.mono : ∀ a0 a1 k, LeO (isochroneref01_digit.f k a0 a1) (isochroneref01_digit.f (k + 1) a0 a1) := by
 intro a0 a1 k
 obtain ⟨ih0, ih1, ih2, ih3, ih4⟩ := isochroneref01_digit.mono_l k
 unfold isochroneref01_digit.f
 repeat' first
   | (with_reducible first | exact ih0 _ _ _ _ _ _ | exact ih1 _ _ _ _ _ _ | exact ih2 _ _ _ _ | exact ih3 _ _ _ | exact ih4 _ _ _ | exact isochroneref01_Cmp.mono _ _ _ | exact isochroneref01_Small.mono _ _ _ _ | exact LeO.refl _ | exact LeO.none _ | refine LeO.ite ?_ ?_ | refine LeO.bind ?_ (fun _ => ?_))
   | exact ih0 _ _ _ _ _ _
   | exact ih1 _ _ _ _ _ _
   | exact ih2 _ _ _ _
   | exact ih3 _ _ _
   | exact ih4 _ _ _
   | exact isochroneref01_Cmp.mono _ _ _
   | exact isochroneref01_Small.mono _ _ _ _
   | exact LeO.none _
   | refine LeO.ite ?_ ?_
   | refine LeO.bind ?_ (fun _ => ?_)
def isochroneref01_DivMod.l0 : Nat → List Int → List Int → List Int → List Int → Int → Option (List Int × List Int)
 | 0, _, _, _, _, _ => none
 | k + 1, x0, x1, x12, x13, x14 => if x14 ≥ 0 then (if 0 ≤ x14 then (if x14 < (x0.length : Int) then ((isochroneref01_Small.f k x13 10000 (rd x0 x14)).bind fun t706 => ((isochroneref01_Cmp.f k t706 x1).bind fun t709 => (if t709 < 0 then (isochroneref01_DivMod.l0 k x0 x1 x12 t706 (wrap64 (x14 - 1))) else ((isochroneref01_digit.f k t706 x1).bind fun t710 => (if x14 < (x12.length : Int) then ((some (x12.set (x14 : Int).toNat t710 : List Int)).bind fun y711 => ((isochroneref01_Small.f k x1 (rd y711 x14) 0).bind fun t713 => ((isochroneref01_Sub.f k t706 t713).bind fun t716 => (isochroneref01_DivMod.l0 k x0 x1 y711 t716 (wrap64 (x14 - 1)))))) else (none)))))) else (none)) else (none)) else ((isochroneref01_trim.f k x12).bind fun t702 => (some (t702, x13)))
def isochroneref01_DivMod.f (k : Nat) (l0 : List Int) (l1 : List Int) : Option (List Int × List Int) := (isochroneref01_Cmp.f k l0 l1).bind fun t674 => (if t674 < 0 then (some ((([] : List Int)), l0)) else ((isochroneref01_little.f k l0).bind fun bt678 => (if bt678.2 = true then ((isochroneref01_little.f k l1).bind fun bt680 => (if bt680.1 = 0 then (none) else ((isochroneref01_Int.f k (wrap64 (Int.tdiv bt678.1 bt680.1))).bind fun t682 => ((isochroneref01_Int.f k (Int.tmod bt678.1 bt680.1)).bind fun t685 => (some (t682, t685)))))) else (if (l1.length : Int) = 1 then (if 0 < (l1.length : Int) then ((isochroneref01_Split.f k l0 (rd l1 0)).bind fun bt689 => ((isochroneref01_Int.f k bt689.2).bind fun t693 => (some (bt689.1, t693)))) else (none)) else (if 0 ≤ (l0.length : Int) then (if ((l0.length : Int) : Int).toNat ≤ 35184372088832 then (isochroneref01_DivMod.l0 k l0 l1 (List.replicate ((l0.length : Int) : Int).toNat 0) (([] : List Int)) (wrap64 ((l0.length : Int) - 1))) else (none)) else (none))))))
theorem isochroneref01_DivMod.mono_l : ∀ k, (∀ y0 y1 y2 y3 y4, LeO (isochroneref01_DivMod.l0 k y0 y1 y2 y3 y4) (isochroneref01_DivMod.l0 (k + 1) y0 y1 y2 y3 y4))
 | 0 => fun _ _ _ _ _ r h => by simp [isochroneref01_DivMod.l0] at h
 | k + 1 => by
  have ih0 := isochroneref01_DivMod.mono_l k
  ·intro y0 y1 y2 y3 y4
   unfold isochroneref01_DivMod.l0
   repeat' first
   | (with_reducible first | exact ih0 _ _ _ _ _ | exact isochroneref01_Cmp.mono _ _ _ | exact isochroneref01_Int.mono _ _ | exact isochroneref01_Small.mono _ _ _ _ | exact isochroneref01_Split.mono _ _ _ | exact isochroneref01_Sub.mono _ _ _ | exact isochroneref01_digit.mono _ _ _ | exact isochroneref01_little.mono _ _ | exact isochroneref01_trim.mono _ _ | exact LeO.refl _ | exact LeO.none _ | refine LeO.ite ?_ ?_ | refine LeO.bind ?_ (fun _ => ?_))
   | exact ih0 _ _ _ _ _
   | exact isochroneref01_Cmp.mono _ _ _
   | exact isochroneref01_Int.mono _ _
   | exact isochroneref01_Small.mono _ _ _ _
   | exact isochroneref01_Split.mono _ _ _
   | exact isochroneref01_Sub.mono _ _ _
   | exact isochroneref01_digit.mono _ _ _
   | exact isochroneref01_little.mono _ _
   | exact isochroneref01_trim.mono _ _
   | exact LeO.none _
   | refine LeO.ite ?_ ?_
   | refine LeO.bind ?_ (fun _ => ?_)
theorem isochroneref01_DivMod.mono : ∀ a0 a1 k, LeO (isochroneref01_DivMod.f k a0 a1) (isochroneref01_DivMod.f (k + 1) a0 a1) := by
 intro a0 a1 k
 have ih0 := isochroneref01_DivMod.mono_l k
 unfold isochroneref01_DivMod.f
 repeat' first
   | (with_reducible first | exact ih0 _ _ _ _ _ | exact isochroneref01_Cmp.mono _ _ _ | exact isochroneref01_Int.mono _ _ | exact isochroneref01_Small.mono _ _ _ _ | exact isochroneref01_Split.mono _ _ _ | exact isochroneref01_Sub.mono _ _ _ | exact isochroneref01_digit.mono _ _ _ | exact isochroneref01_little.mono _ _ | exact isochroneref01_trim.mono _ _ | exact LeO.refl _ | exact LeO.none _ | refine LeO.ite ?_ ?_ | refine LeO.bind ?_ (fun _ => ?_))
   | exact ih0 _ _ _ _ _
   | exact isochroneref01_Cmp.mono _ _ _
   | exact isochroneref01_Int.mono _ _
   | exact isochroneref01_Small.mono _ _ _ _
   | exact isochroneref01_Split.mono _ _ _
   | exact isochroneref01_Sub.mono _ _ _
   | exact isochroneref01_digit.mono _ _ _
   | exact isochroneref01_little.mono _ _
   | exact isochroneref01_trim.mono _ _
   | exact LeO.none _
   | refine LeO.ite ?_ ?_
   | refine LeO.bind ?_ (fun _ => ?_)
mutual
def isochroneref01_GCD.l0 : Nat → List Int → List Int → Option (List Int)
 | 0, _, _ => none
 | k + 1, x0, x1 => if (x1.length : Int) > 0 then ((isochroneref01_little.f k x0).bind fun bt719 => ((isochroneref01_little.f k x1).bind fun bt721 => (if bt719.2 = true then (isochroneref01_GCD.j1 k x0 x1 bt719.1 bt721.1 bt721.2) else (isochroneref01_GCD.j1 k x0 x1 bt719.1 bt721.1 false)))) else (some x0)
def isochroneref01_GCD.j1 : Nat → List Int → List Int → Int → Int → Bool → Option (List Int)
 | 0, _, _, _, _, _ => none
 | k + 1, x0, x1, x5, x7, x27 => if x27 = true then (isochroneref01_GCD.l1 k x5 x7) else ((isochroneref01_DivMod.f k x0 x1).bind fun bt726 => (isochroneref01_GCD.l0 k x1 bt726.2))
def isochroneref01_GCD.l1 : Nat → Int → Int → Option (List Int)
 | 0, _, _ => none
 | k + 1, x5, x7 => if x7 > 0 then (if x7 = 0 then (none) else (isochroneref01_GCD.l1 k x7 (Int.tmod x5 x7))) else ((isochroneref01_Int.f k x5).bind fun t723 => (some t723))
end
def isochroneref01_GCD.f (k : Nat) (l0 : List Int) (l1 : List Int) : Option (List Int) := isochroneref01_GCD.l0 k l0 l1
theorem isochroneref01_GCD.mono_l : ∀ k, (∀ y0 y1, LeO (isochroneref01_GCD.l0 k y0 y1) (isochroneref01_GCD.l0 (k + 1) y0 y1)) ∧ (∀ y0 y1 y2 y3 y4, LeO (isochroneref01_GCD.j1 k y0 y1 y2 y3 y4) (isochroneref01_GCD.j1 (k + 1) y0 y1 y2 y3 y4)) ∧ (∀ y0 y1, LeO (isochroneref01_GCD.l1 k y0 y1) (isochroneref01_GCD.l1 (k + 1) y0 y1))
 | 0 => ⟨fun _ _ r h => by simp [isochroneref01_GCD.l0] at h, fun _ _ _ _ _ r h => by simp [isochroneref01_GCD.j1] at h, fun _ _ r h => by simp [isochroneref01_GCD.l1] at h⟩
 | k + 1 => by
  obtain ⟨ih0, ih1, ih2⟩ := isochroneref01_GCD.mono_l k
  refine ⟨?_, ?_, ?_⟩
  ·intro y0 y1
   unfold isochroneref01_GCD.l0
   repeat' first
   | (with_reducible first | exact ih0 _ _ | exact ih1 _ _ _ _ _ | exact ih2 _ _ | exact isochroneref01_DivMod.mono _ _ _ | exact isochroneref01_Int.mono _ _ | exact isochroneref01_little.mono _ _ | exact LeO.refl _ | exact LeO.none _ | refine LeO.ite ?_ ?_ | refine LeO.bind ?_ (fun _ => ?_))
   | exact ih0 _ _
   | exact ih1 _ _ _ _ _
   | exact ih2 _ _
   | exact isochroneref01_DivMod.mono _ _ _
   | exact isochroneref01_Int.mono _ _
   | exact isochroneref01_little.mono _ _
   | exact LeO.none _
   | refine LeO.ite ?_ ?_
   | refine LeO.bind ?_ (fun _ => ?_)
  ·intro y0 y1 y2 y3 y4
   unfold isochroneref01_GCD.j1
   repeat' first
   | (with_reducible first | exact ih0 _ _ | exact ih1 _ _ _ _ _ | exact ih2 _ _ | exact isochroneref01_DivMod.mono _ _ _ | exact isochroneref01_Int.mono _ _ | exact isochroneref01_little.mono _ _ | exact LeO.refl _ | exact LeO.none _ | refine LeO.ite ?_ ?_ | refine LeO.bind ?_ (fun _ => ?_))
   | exact ih0 _ _
   | exact ih1 _ _ _ _ _
   | exact ih2 _ _
   | exact isochroneref01_DivMod.mono _ _ _
   | exact isochroneref01_Int.mono _ _
   | exact isochroneref01_little.mono _ _
   | exact LeO.none _
   | refine LeO.ite ?_ ?_
   | refine LeO.bind ?_ (fun _ => ?_)
  ·intro y0 y1
   unfold isochroneref01_GCD.l1
   repeat' first
   | (with_reducible first | exact ih0 _ _ | exact ih1 _ _ _ _ _ | exact ih2 _ _ | exact isochroneref01_DivMod.mono _ _ _ | exact isochroneref01_Int.mono _ _ | exact isochroneref01_little.mono _ _ | exact LeO.refl _ | exact LeO.none _ | refine LeO.ite ?_ ?_ | refine LeO.bind ?_ (fun _ => ?_))
   | exact ih0 _ _
   | exact ih1 _ _ _ _ _
   | exact ih2 _ _
   | exact isochroneref01_DivMod.mono _ _ _
   | exact isochroneref01_Int.mono _ _
   | exact isochroneref01_little.mono _ _
   | exact LeO.none _
   | refine LeO.ite ?_ ?_
   | refine LeO.bind ?_ (fun _ => ?_)
theorem isochroneref01_GCD.mono : ∀ a0 a1 k, LeO (isochroneref01_GCD.f k a0 a1) (isochroneref01_GCD.f (k + 1) a0 a1) := by
 intro a0 a1 k
 obtain ⟨ih0, ih1, ih2⟩ := isochroneref01_GCD.mono_l k
 unfold isochroneref01_GCD.f
 repeat' first
   | (with_reducible first | exact ih0 _ _ | exact ih1 _ _ _ _ _ | exact ih2 _ _ | exact isochroneref01_DivMod.mono _ _ _ | exact isochroneref01_Int.mono _ _ | exact isochroneref01_little.mono _ _ | exact LeO.refl _ | exact LeO.none _ | refine LeO.ite ?_ ?_ | refine LeO.bind ?_ (fun _ => ?_))
   | exact ih0 _ _
   | exact ih1 _ _ _ _ _
   | exact ih2 _ _
   | exact isochroneref01_DivMod.mono _ _ _
   | exact isochroneref01_Int.mono _ _
   | exact isochroneref01_little.mono _ _
   | exact LeO.none _
   | refine LeO.ite ?_ ?_
   | refine LeO.bind ?_ (fun _ => ?_)
mutual
def isochroneref02_Make.j0 : Nat → Bool → List Int → List Int → Bool → Option (Bool × List Int × List Int)
 | 0, _, _, _, _ => none
 | k + 1, x0, x1, x2, x24 => if x24 = true then (some (x0, x1, x2)) else ((isochroneref01_GCD.f k x1 x2).bind fun t741 => (if (t741.length : Int) = 1 then (if 0 < (t741.length : Int) then (isochroneref02_Make.j1 k x0 x1 x2 t741 ((rd t741 0) == 1)) else (none)) else (isochroneref02_Make.j1 k x0 x1 x2 t741 false)))
def isochroneref02_Make.j1 : Nat → Bool → List Int → List Int → List Int → Bool → Option (Bool × List Int × List Int)
 | 0, _, _, _, _, _ => none
 | k + 1, x0, x1, x2, x7, x40 => if x40 = true then (some (x0, x1, x2)) else ((isochroneref01_DivMod.f k x1 x7).bind fun bt745 => ((isochroneref01_DivMod.f k x2 x7).bind fun bt751 => (some (x0, bt745.1, bt751.1))))
end
def isochroneref02_Make.f (k : Nat) (a0 : Bool) (l1 : List Int) (l2 : List Int) : Option (Bool × List Int × List Int) := if (l1.length : Int) = 0 then ((isochroneref02_Zero.f).bind fun bt733 => (some (bt733.1, bt733.2.1, bt733.2.2))) else (if (l2.length : Int) = 1 then (if 0 < (l2.length : Int) then (isochroneref02_Make.j0 k a0 l1 l2 ((rd l2 0) == 1)) else (none)) else (isochroneref02_Make.j0 k a0 l1 l2 false))
theorem isochroneref02_Make.mono_l : ∀ k, (∀ y0 y1 y2 y3, LeO (isochroneref02_Make.j0 k y0 y1 y2 y3) (isochroneref02_Make.j0 (k + 1) y0 y1 y2 y3)) ∧ (∀ y0 y1 y2 y3 y4, LeO (isochroneref02_Make.j1 k y0 y1 y2 y3 y4) (isochroneref02_Make.j1 (k + 1) y0 y1 y2 y3 y4))
 | 0 => ⟨fun _ _ _ _ r h => by simp [isochroneref02_Make.j0] at h, fun _ _ _ _ _ r h => by simp [isochroneref02_Make.j1] at h⟩
 | k + 1 => by
  obtain ⟨ih0, ih1⟩ := isochroneref02_Make.mono_l k
  refine ⟨?_, ?_⟩
  ·intro y0 y1 y2 y3
   unfold isochroneref02_Make.j0
   repeat' first
   | (with_reducible first | exact ih0 _ _ _ _ | exact ih1 _ _ _ _ _ | exact isochroneref01_DivMod.mono _ _ _ | exact isochroneref01_GCD.mono _ _ _ | exact LeO.refl _ | exact LeO.none _ | refine LeO.ite ?_ ?_ | refine LeO.bind ?_ (fun _ => ?_))
   | exact ih0 _ _ _ _
   | exact ih1 _ _ _ _ _
   | exact isochroneref01_DivMod.mono _ _ _
   | exact isochroneref01_GCD.mono _ _ _
   | exact LeO.none _
   | refine LeO.ite ?_ ?_
   | refine LeO.bind ?_ (fun _ => ?_)
  ·intro y0 y1 y2 y3 y4
   unfold isochroneref02_Make.j1
   repeat' first
   | (with_reducible first | exact ih0 _ _ _ _ | exact ih1 _ _ _ _ _ | exact isochroneref01_DivMod.mono _ _ _ | exact isochroneref01_GCD.mono _ _ _ | exact LeO.refl _ | exact LeO.none _ | refine LeO.ite ?_ ?_ | refine LeO.bind ?_ (fun _ => ?_))
   | exact ih0 _ _ _ _
   | exact ih1 _ _ _ _ _
   | exact isochroneref01_DivMod.mono _ _ _
   | exact isochroneref01_GCD.mono _ _ _
   | exact LeO.none _
   | refine LeO.ite ?_ ?_
   | refine LeO.bind ?_ (fun _ => ?_)
theorem isochroneref02_Make.mono : ∀ a0 a1 a2 k, LeO (isochroneref02_Make.f k a0 a1 a2) (isochroneref02_Make.f (k + 1) a0 a1 a2) := by
 intro a0 a1 a2 k
 obtain ⟨ih0, ih1⟩ := isochroneref02_Make.mono_l k
 unfold isochroneref02_Make.f
 repeat' first
   | (with_reducible first | exact ih0 _ _ _ _ | exact ih1 _ _ _ _ _ | exact isochroneref01_DivMod.mono _ _ _ | exact isochroneref01_GCD.mono _ _ _ | exact LeO.refl _ | exact LeO.none _ | refine LeO.ite ?_ ?_ | refine LeO.bind ?_ (fun _ => ?_))
   | exact ih0 _ _ _ _
   | exact ih1 _ _ _ _ _
   | exact isochroneref01_DivMod.mono _ _ _
   | exact isochroneref01_GCD.mono _ _ _
   | exact LeO.none _
   | refine LeO.ite ?_ ?_
   | refine LeO.bind ?_ (fun _ => ?_)
def isochroneref01_Valid.f (l0 : List Int) : Option (Bool) := if (l0.length : Int) ≤ 4096 then (if (l0.length : Int) = 0 then (some true) else (if 0 ≤ (wrap64 ((l0.length : Int) - 1)) then (if (wrap64 ((l0.length : Int) - 1)) < (l0.length : Int) then (some ((rd l0 (wrap64 ((l0.length : Int) - 1))) != 0)) else (none)) else (none))) else (some false)
def isochroneref02_None.f (a0_0 : Bool) (l0_1 : List Int) (l0_2 : List Int) : Option (Bool) := if a0_0 = true then (some false) else (if (l0_1.length : Int) = 0 then (some ((l0_2.length : Int) == 0)) else (some false))
def isochroneref01_Of.l0 : Nat → List Int → List Int → Int → Option (List Int)
 | 0, _, _, _ => none
 | k + 1, x0, x3, x4 => if x4 ≥ 0 then (if 0 ≤ x4 then (if x4 < (x0.length : Int) then ((isochroneref01_Small.f k x3 65536 (wrap64 ((rd x0 x4) / 65536))).bind fun t763 => ((isochroneref01_Small.f k t763 65536 (wrap64 (Go.bits .and .u32 (rd x0 x4) 65535))).bind fun t767 => (isochroneref01_Of.l0 k x0 t767 (wrap64 (x4 - 1))))) else (none)) else (none)) else (some x3)
def isochroneref01_Of.f (k : Nat) (l0 : List Int) : Option (List Int) := isochroneref01_Of.l0 k l0 (([] : List Int)) (wrap64 ((l0.length : Int) - 1))
theorem isochroneref01_Of.mono_l : ∀ k, (∀ y0 y1 y2, LeO (isochroneref01_Of.l0 k y0 y1 y2) (isochroneref01_Of.l0 (k + 1) y0 y1 y2))
 | 0 => fun _ _ _ r h => by simp [isochroneref01_Of.l0] at h
 | k + 1 => by
  have ih0 := isochroneref01_Of.mono_l k
  ·intro y0 y1 y2
   unfold isochroneref01_Of.l0
   repeat' first
   | (with_reducible first | exact ih0 _ _ _ | exact isochroneref01_Small.mono _ _ _ _ | exact LeO.refl _ | exact LeO.none _ | refine LeO.ite ?_ ?_ | refine LeO.bind ?_ (fun _ => ?_))
   | exact ih0 _ _ _
   | exact isochroneref01_Small.mono _ _ _ _
   | exact LeO.none _
   | refine LeO.ite ?_ ?_
   | refine LeO.bind ?_ (fun _ => ?_)
theorem isochroneref01_Of.mono : ∀ a0 k, LeO (isochroneref01_Of.f k a0) (isochroneref01_Of.f (k + 1) a0) := by
 intro a0 k
 have ih0 := isochroneref01_Of.mono_l k
 unfold isochroneref01_Of.f
 repeat' first
   | (with_reducible first | exact ih0 _ _ _ | exact isochroneref01_Small.mono _ _ _ _ | exact LeO.refl _ | exact LeO.none _ | refine LeO.ite ?_ ?_ | refine LeO.bind ?_ (fun _ => ?_))
   | exact ih0 _ _ _
   | exact isochroneref01_Small.mono _ _ _ _
   | exact LeO.none _
   | refine LeO.ite ?_ ?_
   | refine LeO.bind ?_ (fun _ => ?_)
def isochroneref02_Short.f (a0_0 : Bool) (l0_1 : List Int) (l0_2 : List Int) (a1 : Int) : Option (Bool) := if (l0_1.length : Int) ≤ a1 then (some (decide ((l0_2.length : Int) ≤ a1))) else (some false)
def isochroneref02_Valid.j0 : Nat → Bool → Bool → List Int → List Int → Option (Bool)
 | 0, _, _, _, _ => none
 | k + 1, x18, x772000, x772001, x772002 => if x18 = true then (some false) else (if (x772001.length : Int) = 0 then (if x772000 = true then (some false) else (if (x772002.length : Int) = 1 then (if 0 < (x772002.length : Int) then (some ((rd x772002 0) == 1)) else (none)) else (some false))) else ((isochroneref01_Of.f k x772001).bind fun t775 => ((isochroneref01_Of.f k x772002).bind fun t778 => ((isochroneref01_GCD.f k t775 t778).bind fun t781 => ((isochroneref01_Cmp.f k t781 (([1] : List Int))).bind fun t787 => (some (t787 == 0)))))))
def isochroneref02_Valid.f (k : Nat) (a0_0 : Bool) (l0_1 : List Int) (l0_2 : List Int) : Option (Bool) := (isochroneref01_Valid.f l0_1).bind fun t772 => (if t772 = true then ((isochroneref01_Valid.f l0_2).bind fun t773 => (if t773 = true then (isochroneref02_Valid.j0 k ((l0_2.length : Int) == 0) a0_0 l0_1 l0_2) else (isochroneref02_Valid.j0 k true a0_0 l0_1 l0_2))) else (isochroneref02_Valid.j0 k true a0_0 l0_1 l0_2))
theorem isochroneref02_Valid.mono_l : ∀ k, (∀ y0 y1 y2 y3, LeO (isochroneref02_Valid.j0 k y0 y1 y2 y3) (isochroneref02_Valid.j0 (k + 1) y0 y1 y2 y3))
 | 0 => fun _ _ _ _ r h => by simp [isochroneref02_Valid.j0] at h
 | k + 1 => by
  have ih0 := isochroneref02_Valid.mono_l k
  ·intro y0 y1 y2 y3
   unfold isochroneref02_Valid.j0
   repeat' first
   | (with_reducible first | exact ih0 _ _ _ _ | exact isochroneref01_Cmp.mono _ _ _ | exact isochroneref01_GCD.mono _ _ _ | exact isochroneref01_Of.mono _ _ | exact LeO.refl _ | exact LeO.none _ | refine LeO.ite ?_ ?_ | refine LeO.bind ?_ (fun _ => ?_))
   | exact ih0 _ _ _ _
   | exact isochroneref01_Cmp.mono _ _ _
   | exact isochroneref01_GCD.mono _ _ _
   | exact isochroneref01_Of.mono _ _
   | exact LeO.none _
   | refine LeO.ite ?_ ?_
   | refine LeO.bind ?_ (fun _ => ?_)
theorem isochroneref02_Valid.mono : ∀ a0 a1 a2 k, LeO (isochroneref02_Valid.f k a0 a1 a2) (isochroneref02_Valid.f (k + 1) a0 a1 a2) := by
 intro a0 a1 a2 k
 have ih0 := isochroneref02_Valid.mono_l k
 unfold isochroneref02_Valid.f
 repeat' first
   | (with_reducible first | exact ih0 _ _ _ _ | exact isochroneref01_Cmp.mono _ _ _ | exact isochroneref01_GCD.mono _ _ _ | exact isochroneref01_Of.mono _ _ | exact LeO.refl _ | exact LeO.none _ | refine LeO.ite ?_ ?_ | refine LeO.bind ?_ (fun _ => ?_))
   | exact ih0 _ _ _ _
   | exact isochroneref01_Cmp.mono _ _ _
   | exact isochroneref01_GCD.mono _ _ _
   | exact isochroneref01_Of.mono _ _
   | exact LeO.none _
   | refine LeO.ite ?_ ?_
   | refine LeO.bind ?_ (fun _ => ?_)
def isochronelaw02_small.f (k : Nat) (a0_0 : Bool) (l0_1 : List Int) (l0_2 : List Int) (a1_0 : Bool) (l1_1 : List Int) (l1_2 : List Int) (a2 : Int) : Option (Bool) := (isochroneref02_Short.f a0_0 l0_1 l0_2 a2).bind fun t790 => (if t790 = true then ((isochroneref02_Short.f a1_0 l1_1 l1_2 a2).bind fun t791 => (if t791 = true then ((isochroneref02_Valid.f k a0_0 l0_1 l0_2).bind fun t792 => (if t792 = true then ((isochroneref02_Valid.f k a1_0 l1_1 l1_2).bind fun t793 => (some t793)) else (some false))) else (some false))) else (some false))
theorem isochronelaw02_small.mono : ∀ a0 a1 a2 a3 a4 a5 a6 k, LeO (isochronelaw02_small.f k a0 a1 a2 a3 a4 a5 a6) (isochronelaw02_small.f (k + 1) a0 a1 a2 a3 a4 a5 a6) := by
 intro a0 a1 a2 a3 a4 a5 a6 k
 unfold isochronelaw02_small.f
 repeat' first
   | (with_reducible first | exact isochroneref02_Valid.mono _ _ _ _ | exact LeO.refl _ | exact LeO.none _ | refine LeO.ite ?_ ?_ | refine LeO.bind ?_ (fun _ => ?_))
   | exact isochroneref02_Valid.mono _ _ _ _
   | exact LeO.none _
   | refine LeO.ite ?_ ?_
   | refine LeO.bind ?_ (fun _ => ?_)
def isochroneref02_Of.f (k : Nat) (a0_0 : Bool) (l0_1 : List Int) (l0_2 : List Int) : Option (Bool × List Int × List Int) := (isochroneref01_Of.f k l0_1).bind fun t796 => ((isochroneref01_Of.f k l0_2).bind fun t799 => (some (a0_0, t796, t799)))
theorem isochroneref02_Of.mono : ∀ a0 a1 a2 k, LeO (isochroneref02_Of.f k a0 a1 a2) (isochroneref02_Of.f (k + 1) a0 a1 a2) := by
 intro a0 a1 a2 k
 unfold isochroneref02_Of.f
 repeat' first
   | (with_reducible first | exact isochroneref01_Of.mono _ _ | exact LeO.refl _ | exact LeO.none _ | refine LeO.ite ?_ ?_ | refine LeO.bind ?_ (fun _ => ?_))
   | exact isochroneref01_Of.mono _ _
   | exact LeO.none _
   | refine LeO.ite ?_ ?_
   | refine LeO.bind ?_ (fun _ => ?_)
def isochroneref02_Of.B1 : List Nat := [0, 1, 0, 4, 12, 0, 32, 124, 255, 511]
def num_Floor.j0 : Nat → List Int → Bool → Bool → List Int → List Int → Option (Bool × List Int × List Int)
 | 0, _, _, _, _, _ => none
 | k + 1, x3, x19, x803000, x803001, x803002 => if x19 = true then ((mag_Add.f k x3 (([1] : List Int))).bind fun t813 => ((num_Make.f k x803000 t813 (([1] : List Int))).bind fun bt819 => (some (bt819.1, bt819.2.1, bt819.2.2)))) else ((num_Make.f k x803000 x3 (([1] : List Int))).bind fun bt829 => (some (bt829.1, bt829.2.1, bt829.2.2)))
def num_Floor.f (k : Nat) (a0_0 : Bool) (l0_1 : List Int) (l0_2 : List Int) : Option (Bool × List Int × List Int) := (mag_DivMod.f k l0_1 l0_2).bind fun bt804 => (if a0_0 = true then (num_Floor.j0 k bt804.1 (decide ((bt804.2.length : Int) > 0)) a0_0 l0_1 l0_2) else (num_Floor.j0 k bt804.1 false a0_0 l0_1 l0_2))
theorem num_Floor.mono_l : ∀ k, (∀ y0 y1 y2 y3 y4, LeO (num_Floor.j0 k y0 y1 y2 y3 y4) (num_Floor.j0 (k + 1) y0 y1 y2 y3 y4))
 | 0 => fun _ _ _ _ _ r h => by simp [num_Floor.j0] at h
 | k + 1 => by
  have ih0 := num_Floor.mono_l k
  ·intro y0 y1 y2 y3 y4
   unfold num_Floor.j0
   repeat' first
   | (with_reducible first | exact ih0 _ _ _ _ _ | exact mag_Add.mono _ _ _ | exact mag_DivMod.mono _ _ _ | exact num_Make.mono _ _ _ _ | exact LeO.refl _ | exact LeO.none _ | refine LeO.ite ?_ ?_ | refine LeO.bind ?_ (fun _ => ?_))
   | exact ih0 _ _ _ _ _
   | exact mag_Add.mono _ _ _
   | exact mag_DivMod.mono _ _ _
   | exact num_Make.mono _ _ _ _
   | exact LeO.none _
   | refine LeO.ite ?_ ?_
   | refine LeO.bind ?_ (fun _ => ?_)
theorem num_Floor.mono : ∀ a0 a1 a2 k, LeO (num_Floor.f k a0 a1 a2) (num_Floor.f (k + 1) a0 a1 a2) := by
 intro a0 a1 a2 k
 have ih0 := num_Floor.mono_l k
 unfold num_Floor.f
 repeat' first
   | (with_reducible first | exact ih0 _ _ _ _ _ | exact mag_Add.mono _ _ _ | exact mag_DivMod.mono _ _ _ | exact num_Make.mono _ _ _ _ | exact LeO.refl _ | exact LeO.none _ | refine LeO.ite ?_ ?_ | refine LeO.bind ?_ (fun _ => ?_))
   | exact ih0 _ _ _ _ _
   | exact mag_Add.mono _ _ _
   | exact mag_DivMod.mono _ _ _
   | exact num_Make.mono _ _ _ _
   | exact LeO.none _
   | refine LeO.ite ?_ ?_
   | refine LeO.bind ?_ (fun _ => ?_)
def rat_Floor.f (k : Nat) (a0_0 : Bool) (l0_1 : List Int) (l0_2 : List Int) : Option (Bool × List Int × List Int × Int) := (rat_Valid.f k a0_0 l0_1 l0_2).bind fun t838 => (if t838 = true then ((num_Floor.f k a0_0 l0_1 l0_2).bind fun bt839 => ((rat_limited.f bt839.1 bt839.2.1 bt839.2.2).bind fun bt846 => (some (bt846.1, bt846.2.1, bt846.2.2.1, bt846.2.2.2)))) else (some (false, ([] : List Int), ([] : List Int), 3)))
theorem rat_Floor.mono : ∀ a0 a1 a2 k, LeO (rat_Floor.f k a0 a1 a2) (rat_Floor.f (k + 1) a0 a1 a2) := by
 intro a0 a1 a2 k
 unfold rat_Floor.f
 repeat' first
   | (with_reducible first | exact num_Floor.mono _ _ _ _ | exact rat_Valid.mono _ _ _ _ | exact LeO.refl _ | exact LeO.none _ | refine LeO.ite ?_ ?_ | refine LeO.bind ?_ (fun _ => ?_))
   | exact num_Floor.mono _ _ _ _
   | exact rat_Valid.mono _ _ _ _
   | exact LeO.none _
   | refine LeO.ite ?_ ?_
   | refine LeO.bind ?_ (fun _ => ?_)
def num_Mul.f (k : Nat) (a0_0 : Bool) (l0_1 : List Int) (l0_2 : List Int) (a1_0 : Bool) (l1_1 : List Int) (l1_2 : List Int) : Option (Bool × List Int × List Int) := (mag_Mul.f k l0_1 l1_1).bind fun t857 => ((mag_Mul.f k l0_2 l1_2).bind fun t860 => ((num_Make.f k (a0_0 != a1_0) t857 t860).bind fun bt863 => (some (bt863.1, bt863.2.1, bt863.2.2))))
theorem num_Mul.mono : ∀ a0 a1 a2 a3 a4 a5 k, LeO (num_Mul.f k a0 a1 a2 a3 a4 a5) (num_Mul.f (k + 1) a0 a1 a2 a3 a4 a5) := by
 intro a0 a1 a2 a3 a4 a5 k
 unfold num_Mul.f
 repeat' first
   | (with_reducible first | exact mag_Mul.mono _ _ _ | exact num_Make.mono _ _ _ _ | exact LeO.refl _ | exact LeO.none _ | refine LeO.ite ?_ ?_ | refine LeO.bind ?_ (fun _ => ?_))
   | exact mag_Mul.mono _ _ _
   | exact num_Make.mono _ _ _ _
   | exact LeO.none _
   | refine LeO.ite ?_ ?_
   | refine LeO.bind ?_ (fun _ => ?_)
def num_Mul.B1 : List Nat := [0, 1, 0, 4, 15, 0, 32, 0, 128, 480, 0, 1024, 0, 4096, 16352, 32767, 65535]
def num_Inv.f (a0_0 : Bool) (l0_1 : List Int) (l0_2 : List Int) : Option (Bool × List Int × List Int) := if ([] : List Int).length + l0_2.length < 35184372088832 then (if ([] : List Int).length + l0_1.length < 35184372088832 then (some (a0_0, (([] : List Int) ++ l0_2), (([] : List Int) ++ l0_1))) else (none)) else (none)
def num_Inv.B1 : List Nat := [0, 1, 0, 4, 12, 0, 32, 124, 255, 511]
def num_Div.f (k : Nat) (a0_0 : Bool) (l0_1 : List Int) (l0_2 : List Int) (a1_0 : Bool) (l1_1 : List Int) (l1_2 : List Int) : Option (Bool × List Int × List Int) := (num_Inv.f a1_0 l1_1 l1_2).bind fun bt881 => ((num_Mul.f k a0_0 l0_1 l0_2 bt881.1 bt881.2.1 bt881.2.2).bind fun bt888 => (some (bt888.1, bt888.2.1, bt888.2.2)))
theorem num_Div.mono : ∀ a0 a1 a2 a3 a4 a5 k, LeO (num_Div.f k a0 a1 a2 a3 a4 a5) (num_Div.f (k + 1) a0 a1 a2 a3 a4 a5) := by
 intro a0 a1 a2 a3 a4 a5 k
 unfold num_Div.f
 repeat' first
   | (with_reducible first | exact num_Mul.mono _ _ _ _ _ _ _ | exact LeO.refl _ | exact LeO.none _ | refine LeO.ite ?_ ?_ | refine LeO.bind ?_ (fun _ => ?_))
   | exact num_Mul.mono _ _ _ _ _ _ _
   | exact LeO.none _
   | refine LeO.ite ?_ ?_
   | refine LeO.bind ?_ (fun _ => ?_)
def isochroneref02_Floor.f (k : Nat) (a0_0 : Bool) (l0_1 : List Int) (l0_2 : List Int) : Option (Bool × List Int × List Int) := (isochroneref01_DivMod.f k l0_1 l0_2).bind fun bt901 => (if a0_0 = true then (if (bt901.2.length : Int) > 0 then ((isochroneref01_Add.f k bt901.1 (([1] : List Int))).bind fun t910 => (some (decide ((t910.length : Int) > 0), t910, (([1] : List Int))))) else (some (decide ((bt901.1.length : Int) > 0), bt901.1, (([1] : List Int))))) else (some (false, bt901.1, (([1] : List Int)))))
theorem isochroneref02_Floor.mono : ∀ a0 a1 a2 k, LeO (isochroneref02_Floor.f k a0 a1 a2) (isochroneref02_Floor.f (k + 1) a0 a1 a2) := by
 intro a0 a1 a2 k
 unfold isochroneref02_Floor.f
 repeat' first
   | (with_reducible first | exact isochroneref01_Add.mono _ _ _ | exact isochroneref01_DivMod.mono _ _ _ | exact LeO.refl _ | exact LeO.none _ | refine LeO.ite ?_ ?_ | refine LeO.bind ?_ (fun _ => ?_))
   | exact isochroneref01_Add.mono _ _ _
   | exact isochroneref01_DivMod.mono _ _ _
   | exact LeO.none _
   | refine LeO.ite ?_ ?_
   | refine LeO.bind ?_ (fun _ => ?_)
def isochroneref02_Mul.f (k : Nat) (a0_0 : Bool) (l0_1 : List Int) (l0_2 : List Int) (a1_0 : Bool) (l1_1 : List Int) (l1_2 : List Int) : Option (Bool × List Int × List Int) := (isochroneref01_Mul.f k l0_1 l1_1).bind fun t925 => ((isochroneref01_Mul.f k l0_2 l1_2).bind fun t928 => ((isochroneref02_Make.f k (a0_0 != a1_0) t925 t928).bind fun bt931 => (some (bt931.1, bt931.2.1, bt931.2.2))))
theorem isochroneref02_Mul.mono : ∀ a0 a1 a2 a3 a4 a5 k, LeO (isochroneref02_Mul.f k a0 a1 a2 a3 a4 a5) (isochroneref02_Mul.f (k + 1) a0 a1 a2 a3 a4 a5) := by
 intro a0 a1 a2 a3 a4 a5 k
 unfold isochroneref02_Mul.f
 repeat' first
   | (with_reducible first | exact isochroneref01_Mul.mono _ _ _ | exact isochroneref02_Make.mono _ _ _ _ | exact LeO.refl _ | exact LeO.none _ | refine LeO.ite ?_ ?_ | refine LeO.bind ?_ (fun _ => ?_))
   | exact isochroneref01_Mul.mono _ _ _
   | exact isochroneref02_Make.mono _ _ _ _
   | exact LeO.none _
   | refine LeO.ite ?_ ?_
   | refine LeO.bind ?_ (fun _ => ?_)
def isochroneref02_Mul.B1 : List Nat := [0, 1, 0, 4, 15, 0, 32, 0, 128, 480, 0, 1024, 0, 4096, 16352, 32767, 65535]
def isochroneref02_Neg.f (a0_0 : Bool) (l0_1 : List Int) (l0_2 : List Int) : Option (Bool × List Int × List Int) := if (l0_1.length : Int) = 0 then (some (a0_0, l0_1, l0_2)) else (some (!a0_0, l0_1, l0_2))
def isochroneref02_Div.f (k : Nat) (a0_0 : Bool) (l0_1 : List Int) (l0_2 : List Int) (a1_0 : Bool) (l1_1 : List Int) (l1_2 : List Int) : Option (Bool × List Int × List Int) := (isochroneref02_Mul.f k a0_0 l0_1 l0_2 a1_0 l1_2 l1_1).bind fun bt943 => (some (bt943.1, bt943.2.1, bt943.2.2))
theorem isochroneref02_Div.mono : ∀ a0 a1 a2 a3 a4 a5 k, LeO (isochroneref02_Div.f k a0 a1 a2 a3 a4 a5) (isochroneref02_Div.f (k + 1) a0 a1 a2 a3 a4 a5) := by
 intro a0 a1 a2 a3 a4 a5 k
 unfold isochroneref02_Div.f
 repeat' first
   | (with_reducible first | exact isochroneref02_Mul.mono _ _ _ _ _ _ _ | exact LeO.refl _ | exact LeO.none _ | refine LeO.ite ?_ ?_ | refine LeO.bind ?_ (fun _ => ?_))
   | exact isochroneref02_Mul.mono _ _ _ _ _ _ _
   | exact LeO.none _
   | refine LeO.ite ?_ ?_
   | refine LeO.bind ?_ (fun _ => ?_)
def num_Sign.f (a0_0 : Bool) (l0_1 : List Int) (l0_2 : List Int) : Option (Int) := if (l0_1.length : Int) = 0 then (some 0) else (if a0_0 = true then (some (-1)) else (some 1))
def num_Int.f (k : Nat) (a0 : Int) : Option (Bool × List Int × List Int) := if a0 < 0 then ((mag_From.f k (IntKind.u64.wrap ((IntKind.u64.wrap (wrap64 (-(wrap64 (a0 + 1))))) + 1))).bind fun t953 => ((num_Make.f k true t953 (([1] : List Int))).bind fun bt959 => (some (bt959.1, bt959.2.1, bt959.2.2)))) else ((mag_From.f k (IntKind.u64.wrap (a0))).bind fun t966 => ((num_Make.f k false t966 (([1] : List Int))).bind fun bt972 => (some (bt972.1, bt972.2.1, bt972.2.2))))
theorem num_Int.mono : ∀ a0 k, LeO (num_Int.f k a0) (num_Int.f (k + 1) a0) := by
 intro a0 k
 unfold num_Int.f
 repeat' first
   | (with_reducible first | exact mag_From.mono _ _ | exact num_Make.mono _ _ _ _ | exact LeO.refl _ | exact LeO.none _ | refine LeO.ite ?_ ?_ | refine LeO.bind ?_ (fun _ => ?_))
   | exact mag_From.mono _ _
   | exact num_Make.mono _ _ _ _
   | exact LeO.none _
   | refine LeO.ite ?_ ?_
   | refine LeO.bind ?_ (fun _ => ?_)
def num_One.f (k : Nat)  : Option (Bool × List Int × List Int) := (num_Int.f k 1).bind fun bt980 => (some (bt980.1, bt980.2.1, bt980.2.2))
theorem num_One.mono : ∀ k, LeO (num_One.f k ) (num_One.f (k + 1) ) := by
 intro  k
 unfold num_One.f
 repeat' first
   | (with_reducible first | exact num_Int.mono _ _ | exact LeO.refl _ | exact LeO.none _ | refine LeO.ite ?_ ?_ | refine LeO.bind ?_ (fun _ => ?_))
   | exact num_Int.mono _ _
   | exact LeO.none _
   | refine LeO.ite ?_ ?_
   | refine LeO.bind ?_ (fun _ => ?_)
def num_Pow.l0 : Nat → Int → Bool → List Int → List Int → Bool → List Int → List Int → Option (Bool × List Int × List Int)
 | 0, _, _, _, _, _, _, _ => none
 | k + 1, x1, x988000, x988001, x988002, x997000, x997001, x997002 => if x1 > 0 then (if (Go.bits .and .i64 x1 1) = 1 then ((num_Mul.f k x997000 x997001 x997002 x988000 x988001 x988002).bind fun bt997 => (if x1 > 1 then ((num_Mul.f k x988000 x988001 x988002 x988000 x988001 x988002).bind fun bt1004 => (num_Pow.l0 k (x1 / 2) bt1004.1 bt1004.2.1 bt1004.2.2 bt997.1 bt997.2.1 bt997.2.2)) else (num_Pow.l0 k (x1 / 2) x988000 x988001 x988002 bt997.1 bt997.2.1 bt997.2.2))) else (if x1 > 1 then ((num_Mul.f k x988000 x988001 x988002 x988000 x988001 x988002).bind fun bt1011 => (num_Pow.l0 k (x1 / 2) bt1011.1 bt1011.2.1 bt1011.2.2 x997000 x997001 x997002)) else (num_Pow.l0 k (x1 / 2) x988000 x988001 x988002 x997000 x997001 x997002))) else (some (x997000, x997001, x997002))
def num_Pow.f (k : Nat) (a0_0 : Bool) (l0_1 : List Int) (l0_2 : List Int) (a1 : Int) : Option (Bool × List Int × List Int) := (num_One.f k).bind fun bt989 => (num_Pow.l0 k a1 a0_0 l0_1 l0_2 bt989.1 bt989.2.1 bt989.2.2)
theorem num_Pow.mono_l : ∀ k, (∀ y0 y1 y2 y3 y4 y5 y6, LeO (num_Pow.l0 k y0 y1 y2 y3 y4 y5 y6) (num_Pow.l0 (k + 1) y0 y1 y2 y3 y4 y5 y6))
 | 0 => fun _ _ _ _ _ _ _ r h => by simp [num_Pow.l0] at h
 | k + 1 => by
  have ih0 := num_Pow.mono_l k
  ·intro y0 y1 y2 y3 y4 y5 y6
   unfold num_Pow.l0
   repeat' first
   | (with_reducible first | exact ih0 _ _ _ _ _ _ _ | exact num_Mul.mono _ _ _ _ _ _ _ | exact num_One.mono _ | exact LeO.refl _ | exact LeO.none _ | refine LeO.ite ?_ ?_ | refine LeO.bind ?_ (fun _ => ?_))
   | exact ih0 _ _ _ _ _ _ _
   | exact num_Mul.mono _ _ _ _ _ _ _
   | exact num_One.mono _
   | exact LeO.none _
   | refine LeO.ite ?_ ?_
   | refine LeO.bind ?_ (fun _ => ?_)
theorem num_Pow.mono : ∀ a0 a1 a2 a3 k, LeO (num_Pow.f k a0 a1 a2 a3) (num_Pow.f (k + 1) a0 a1 a2 a3) := by
 intro a0 a1 a2 a3 k
 have ih0 := num_Pow.mono_l k
 unfold num_Pow.f
 repeat' first
   | (with_reducible first | exact ih0 _ _ _ _ _ _ _ | exact num_Mul.mono _ _ _ _ _ _ _ | exact num_One.mono _ | exact LeO.refl _ | exact LeO.none _ | refine LeO.ite ?_ ?_ | refine LeO.bind ?_ (fun _ => ?_))
   | exact ih0 _ _ _ _ _ _ _
   | exact num_Mul.mono _ _ _ _ _ _ _
   | exact num_One.mono _
   | exact LeO.none _
   | refine LeO.ite ?_ ?_
   | refine LeO.bind ?_ (fun _ => ?_)
def isochroneref02_Sign.f (a0_0 : Bool) (l0_1 : List Int) (l0_2 : List Int) : Option (Int) := if (l0_1.length : Int) = 0 then (some 0) else (if a0_0 = true then (some (-1)) else (some 1))
def isochroneref02_One.f  : Option (Bool × List Int × List Int) := some (false, (([1] : List Int)), (([1] : List Int)))
def isochroneref01_Pow.l0 : Nat → List Int → List Int → Int → Int → Option (List Int)
 | 0, _, _, _, _ => none
 | k + 1, x0, x5, x7, x8 => if x8 < x7 then ((isochroneref01_Mul.f k x5 x0).bind fun t1040 => (isochroneref01_Pow.l0 k x0 t1040 x7 (wrap64 (x8 + 1)))) else (some x5)
def isochroneref01_Pow.f (k : Nat) (l0 : List Int) (a1 : Int) : Option (List Int) := isochroneref01_Pow.l0 k l0 (([1] : List Int)) a1 0
theorem isochroneref01_Pow.mono_l : ∀ k, (∀ y0 y1 y2 y3, LeO (isochroneref01_Pow.l0 k y0 y1 y2 y3) (isochroneref01_Pow.l0 (k + 1) y0 y1 y2 y3))
 | 0 => fun _ _ _ _ r h => by simp [isochroneref01_Pow.l0] at h
 | k + 1 => by
  have ih0 := isochroneref01_Pow.mono_l k
  ·intro y0 y1 y2 y3
   unfold isochroneref01_Pow.l0
   repeat' first
   | (with_reducible first | exact ih0 _ _ _ _ | exact isochroneref01_Mul.mono _ _ _ | exact LeO.refl _ | exact LeO.none _ | refine LeO.ite ?_ ?_ | refine LeO.bind ?_ (fun _ => ?_))
   | exact ih0 _ _ _ _
   | exact isochroneref01_Mul.mono _ _ _
   | exact LeO.none _
   | refine LeO.ite ?_ ?_
   | refine LeO.bind ?_ (fun _ => ?_)
theorem isochroneref01_Pow.mono : ∀ a0 a1 k, LeO (isochroneref01_Pow.f k a0 a1) (isochroneref01_Pow.f (k + 1) a0 a1) := by
 intro a0 a1 k
 have ih0 := isochroneref01_Pow.mono_l k
 unfold isochroneref01_Pow.f
 repeat' first
   | (with_reducible first | exact ih0 _ _ _ _ | exact isochroneref01_Mul.mono _ _ _ | exact LeO.refl _ | exact LeO.none _ | refine LeO.ite ?_ ?_ | refine LeO.bind ?_ (fun _ => ?_))
   | exact ih0 _ _ _ _
   | exact isochroneref01_Mul.mono _ _ _
   | exact LeO.none _
   | refine LeO.ite ?_ ?_
   | refine LeO.bind ?_ (fun _ => ?_)
def isochroneref02_Pow.f (k : Nat) (a0_0 : Bool) (l0_1 : List Int) (l0_2 : List Int) (a1 : Int) : Option (Bool × List Int × List Int) := if a0_0 = true then ((isochroneref01_Pow.f k l0_1 a1).bind fun t1045 => ((isochroneref01_Pow.f k l0_2 a1).bind fun t1048 => (some (((Int.tmod a1 2) == 1), t1045, t1048)))) else ((isochroneref01_Pow.f k l0_1 a1).bind fun t1051 => ((isochroneref01_Pow.f k l0_2 a1).bind fun t1054 => (some (false, t1051, t1054))))
theorem isochroneref02_Pow.mono : ∀ a0 a1 a2 a3 k, LeO (isochroneref02_Pow.f k a0 a1 a2 a3) (isochroneref02_Pow.f (k + 1) a0 a1 a2 a3) := by
 intro a0 a1 a2 a3 k
 unfold isochroneref02_Pow.f
 repeat' first
   | (with_reducible first | exact isochroneref01_Pow.mono _ _ _ | exact LeO.refl _ | exact LeO.none _ | refine LeO.ite ?_ ?_ | refine LeO.bind ?_ (fun _ => ?_))
   | exact isochroneref01_Pow.mono _ _ _
   | exact LeO.none _
   | refine LeO.ite ?_ ?_
   | refine LeO.bind ?_ (fun _ => ?_)
def isochroneref02_Pow.B1 : List Nat := [0, 1, 3, 7, 15, 31, 63, 0, 128, 0, 903, 0, 2048, 0, 16263, 32767, 65535]
def num_Copy.f (a0_0 : Bool) (l0_1 : List Int) (l0_2 : List Int) : Option (Bool × List Int × List Int) := if ([] : List Int).length + l0_1.length < 35184372088832 then (if ([] : List Int).length + l0_2.length < 35184372088832 then (some (a0_0, (([] : List Int) ++ l0_1), (([] : List Int) ++ l0_2))) else (none)) else (none)
def num_Copy.B1 : List Nat := [0, 1, 0, 4, 12, 0, 32, 124, 255, 511]
def num_Neg.f (a0_0 : Bool) (l0_1 : List Int) (l0_2 : List Int) : Option (Bool × List Int × List Int) := (num_Copy.f a0_0 l0_1 l0_2).bind fun bt1068 => (if bt1068.1 = true then (some (false, bt1068.2.1, bt1068.2.2)) else (some (decide ((bt1068.2.1.length : Int) > 0), bt1068.2.1, bt1068.2.2)))
def num_Sub.f (k : Nat) (a0_0 : Bool) (l0_1 : List Int) (l0_2 : List Int) (a1_0 : Bool) (l1_1 : List Int) (l1_2 : List Int) : Option (Bool × List Int × List Int) := (num_Neg.f a1_0 l1_1 l1_2).bind fun bt1078 => ((num_Add.f k a0_0 l0_1 l0_2 bt1078.1 bt1078.2.1 bt1078.2.2).bind fun bt1085 => (some (bt1085.1, bt1085.2.1, bt1085.2.2)))
theorem num_Sub.mono : ∀ a0 a1 a2 a3 a4 a5 k, LeO (num_Sub.f k a0 a1 a2 a3 a4 a5) (num_Sub.f (k + 1) a0 a1 a2 a3 a4 a5) := by
 intro a0 a1 a2 a3 a4 a5 k
 unfold num_Sub.f
 repeat' first
   | (with_reducible first | exact num_Add.mono _ _ _ _ _ _ _ | exact LeO.refl _ | exact LeO.none _ | refine LeO.ite ?_ ?_ | refine LeO.bind ?_ (fun _ => ?_))
   | exact num_Add.mono _ _ _ _ _ _ _
   | exact LeO.none _
   | refine LeO.ite ?_ ?_
   | refine LeO.bind ?_ (fun _ => ?_)
def rat_Neg.f (k : Nat) (a0_0 : Bool) (l0_1 : List Int) (l0_2 : List Int) : Option (Bool × List Int × List Int × Int) := (rat_Valid.f k a0_0 l0_1 l0_2).bind fun t1106 => (if t1106 = true then ((num_Neg.f a0_0 l0_1 l0_2).bind fun bt1107 => (some (bt1107.1, bt1107.2.1, bt1107.2.2, 0))) else (some (false, ([] : List Int), ([] : List Int), 3)))
theorem rat_Neg.mono : ∀ a0 a1 a2 k, LeO (rat_Neg.f k a0 a1 a2) (rat_Neg.f (k + 1) a0 a1 a2) := by
 intro a0 a1 a2 k
 unfold rat_Neg.f
 repeat' first
   | (with_reducible first | exact rat_Valid.mono _ _ _ _ | exact LeO.refl _ | exact LeO.none _ | refine LeO.ite ?_ ?_ | refine LeO.bind ?_ (fun _ => ?_))
   | exact rat_Valid.mono _ _ _ _
   | exact LeO.none _
   | refine LeO.ite ?_ ?_
   | refine LeO.bind ?_ (fun _ => ?_)
def num_Mid.f (k : Nat) (a0_0 : Bool) (l0_1 : List Int) (l0_2 : List Int) (a1_0 : Bool) (l1_1 : List Int) (l1_2 : List Int) : Option (Bool × List Int × List Int) := (num_Add.f k a0_0 l0_1 l0_2 a1_0 l1_1 l1_2).bind fun bt1117 => ((num_Mul.f k bt1117.1 bt1117.2.1 bt1117.2.2 false (([1] : List Int)) (([2] : List Int))).bind fun bt1130 => (some (bt1130.1, bt1130.2.1, bt1130.2.2)))
theorem num_Mid.mono : ∀ a0 a1 a2 a3 a4 a5 k, LeO (num_Mid.f k a0 a1 a2 a3 a4 a5) (num_Mid.f (k + 1) a0 a1 a2 a3 a4 a5) := by
 intro a0 a1 a2 a3 a4 a5 k
 unfold num_Mid.f
 repeat' first
   | (with_reducible first | exact num_Add.mono _ _ _ _ _ _ _ | exact num_Mul.mono _ _ _ _ _ _ _ | exact LeO.refl _ | exact LeO.none _ | refine LeO.ite ?_ ?_ | refine LeO.bind ?_ (fun _ => ?_))
   | exact num_Add.mono _ _ _ _ _ _ _
   | exact num_Mul.mono _ _ _ _ _ _ _
   | exact LeO.none _
   | refine LeO.ite ?_ ?_
   | refine LeO.bind ?_ (fun _ => ?_)
def num_Cmp.f (k : Nat) (a0_0 : Bool) (l0_1 : List Int) (l0_2 : List Int) (a1_0 : Bool) (l1_1 : List Int) (l1_2 : List Int) : Option (Int) := (num_Sign.f a0_0 l0_1 l0_2).bind fun t1142 => ((num_Sign.f a1_0 l1_1 l1_2).bind fun t1143 => (if t1142 = t1143 then ((mag_Mul.f k l0_1 l1_2).bind fun t1144 => ((mag_Mul.f k l1_1 l0_2).bind fun t1147 => ((mag_Cmp.f k t1144 t1147).bind fun t1150 => (if a0_0 = true then (some (wrap64 (-t1150))) else (some t1150))))) else (if t1142 < t1143 then (some (-1)) else (some 1))))
theorem num_Cmp.mono : ∀ a0 a1 a2 a3 a4 a5 k, LeO (num_Cmp.f k a0 a1 a2 a3 a4 a5) (num_Cmp.f (k + 1) a0 a1 a2 a3 a4 a5) := by
 intro a0 a1 a2 a3 a4 a5 k
 unfold num_Cmp.f
 repeat' first
   | (with_reducible first | exact mag_Cmp.mono _ _ _ | exact mag_Mul.mono _ _ _ | exact LeO.refl _ | exact LeO.none _ | refine LeO.ite ?_ ?_ | refine LeO.bind ?_ (fun _ => ?_))
   | exact mag_Cmp.mono _ _ _
   | exact mag_Mul.mono _ _ _
   | exact LeO.none _
   | refine LeO.ite ?_ ?_
   | refine LeO.bind ?_ (fun _ => ?_)
def rat_Cmp.f (k : Nat) (a0_0 : Bool) (l0_1 : List Int) (l0_2 : List Int) (a1_0 : Bool) (l1_1 : List Int) (l1_2 : List Int) : Option (Int × Int) := (rat_Valid.f k a0_0 l0_1 l0_2).bind fun t1153 => (if t1153 = true then ((rat_Valid.f k a1_0 l1_1 l1_2).bind fun t1154 => (if t1154 = true then ((num_Cmp.f k a0_0 l0_1 l0_2 a1_0 l1_1 l1_2).bind fun t1155 => (some (t1155, 0))) else (some (0, 3)))) else (some (0, 3)))
theorem rat_Cmp.mono : ∀ a0 a1 a2 a3 a4 a5 k, LeO (rat_Cmp.f k a0 a1 a2 a3 a4 a5) (rat_Cmp.f (k + 1) a0 a1 a2 a3 a4 a5) := by
 intro a0 a1 a2 a3 a4 a5 k
 unfold rat_Cmp.f
 repeat' first
   | (with_reducible first | exact num_Cmp.mono _ _ _ _ _ _ _ | exact rat_Valid.mono _ _ _ _ | exact LeO.refl _ | exact LeO.none _ | refine LeO.ite ?_ ?_ | refine LeO.bind ?_ (fun _ => ?_))
   | exact num_Cmp.mono _ _ _ _ _ _ _
   | exact rat_Valid.mono _ _ _ _
   | exact LeO.none _
   | refine LeO.ite ?_ ?_
   | refine LeO.bind ?_ (fun _ => ?_)
def rat_Sign.f (k : Nat) (a0_0 : Bool) (l0_1 : List Int) (l0_2 : List Int) : Option (Int × Int) := (rat_Valid.f k a0_0 l0_1 l0_2).bind fun t1157 => (if t1157 = true then ((num_Sign.f a0_0 l0_1 l0_2).bind fun t1158 => (some (t1158, 0))) else (some (0, 3)))
theorem rat_Sign.mono : ∀ a0 a1 a2 k, LeO (rat_Sign.f k a0 a1 a2) (rat_Sign.f (k + 1) a0 a1 a2) := by
 intro a0 a1 a2 k
 unfold rat_Sign.f
 repeat' first
   | (with_reducible first | exact rat_Valid.mono _ _ _ _ | exact LeO.refl _ | exact LeO.none _ | refine LeO.ite ?_ ?_ | refine LeO.bind ?_ (fun _ => ?_))
   | exact rat_Valid.mono _ _ _ _
   | exact LeO.none _
   | refine LeO.ite ?_ ?_
   | refine LeO.bind ?_ (fun _ => ?_)
def isochroneref02_Add.f (k : Nat) (a0_0 : Bool) (l0_1 : List Int) (l0_2 : List Int) (a1_0 : Bool) (l1_1 : List Int) (l1_2 : List Int) : Option (Bool × List Int × List Int) := (isochroneref01_Mul.f k l0_1 l1_2).bind fun t1162 => ((isochroneref01_Mul.f k l1_1 l0_2).bind fun t1165 => ((isochroneref01_Mul.f k l0_2 l1_2).bind fun t1168 => (if (a0_0 == a1_0) = true then ((isochroneref01_Add.f k t1162 t1165).bind fun t1171 => ((isochroneref02_Make.f k a0_0 t1171 t1168).bind fun bt1174 => (some (bt1174.1, bt1174.2.1, bt1174.2.2)))) else ((isochroneref01_Cmp.f k t1162 t1165).bind fun t1181 => (if t1181 ≥ 0 then ((isochroneref01_Sub.f k t1162 t1165).bind fun t1182 => ((isochroneref02_Make.f k a0_0 t1182 t1168).bind fun bt1185 => (some (bt1185.1, bt1185.2.1, bt1185.2.2)))) else ((isochroneref01_Sub.f k t1165 t1162).bind fun t1192 => ((isochroneref02_Make.f k a1_0 t1192 t1168).bind fun bt1195 => (some (bt1195.1, bt1195.2.1, bt1195.2.2)))))))))
theorem isochroneref02_Add.mono : ∀ a0 a1 a2 a3 a4 a5 k, LeO (isochroneref02_Add.f k a0 a1 a2 a3 a4 a5) (isochroneref02_Add.f (k + 1) a0 a1 a2 a3 a4 a5) := by
 intro a0 a1 a2 a3 a4 a5 k
 unfold isochroneref02_Add.f
 repeat' first
   | (with_reducible first | exact isochroneref01_Add.mono _ _ _ | exact isochroneref01_Cmp.mono _ _ _ | exact isochroneref01_Mul.mono _ _ _ | exact isochroneref01_Sub.mono _ _ _ | exact isochroneref02_Make.mono _ _ _ _ | exact LeO.refl _ | exact LeO.none _ | refine LeO.ite ?_ ?_ | refine LeO.bind ?_ (fun _ => ?_))
   | exact isochroneref01_Add.mono _ _ _
   | exact isochroneref01_Cmp.mono _ _ _
   | exact isochroneref01_Mul.mono _ _ _
   | exact isochroneref01_Sub.mono _ _ _
   | exact isochroneref02_Make.mono _ _ _ _
   | exact LeO.none _
   | refine LeO.ite ?_ ?_
   | refine LeO.bind ?_ (fun _ => ?_)
def isochroneref02_Add.B1 : List Nat := [0, 1, 0, 4, 15, 0, 32, 0, 128, 511, 1023, 2047]
def isochroneref02_Add.B4 : List Nat := [0, 1, 0, 0, 12, 0, 63, 127]
def isochroneref02_Sub.f (k : Nat) (a0_0 : Bool) (l0_1 : List Int) (l0_2 : List Int) (a1_0 : Bool) (l1_1 : List Int) (l1_2 : List Int) : Option (Bool × List Int × List Int) := (isochroneref02_Neg.f a1_0 l1_1 l1_2).bind fun bt1205 => ((isochroneref02_Add.f k a0_0 l0_1 l0_2 bt1205.1 bt1205.2.1 bt1205.2.2).bind fun bt1212 => (some (bt1212.1, bt1212.2.1, bt1212.2.2)))
theorem isochroneref02_Sub.mono : ∀ a0 a1 a2 a3 a4 a5 k, LeO (isochroneref02_Sub.f k a0 a1 a2 a3 a4 a5) (isochroneref02_Sub.f (k + 1) a0 a1 a2 a3 a4 a5) := by
 intro a0 a1 a2 a3 a4 a5 k
 unfold isochroneref02_Sub.f
 repeat' first
   | (with_reducible first | exact isochroneref02_Add.mono _ _ _ _ _ _ _ | exact LeO.refl _ | exact LeO.none _ | refine LeO.ite ?_ ?_ | refine LeO.bind ?_ (fun _ => ?_))
   | exact isochroneref02_Add.mono _ _ _ _ _ _ _
   | exact LeO.none _
   | refine LeO.ite ?_ ?_
   | refine LeO.bind ?_ (fun _ => ?_)
def isochroneref02_Int.f (k : Nat) (a0 : Int) : Option (Bool × List Int × List Int) := if a0 < 0 then ((isochroneref01_Int.f k (wrap64 (-a0))).bind fun t1220 => (some (true, t1220, (([1] : List Int))))) else ((isochroneref01_Int.f k a0).bind fun t1226 => (some (false, t1226, (([1] : List Int)))))
theorem isochroneref02_Int.mono : ∀ a0 k, LeO (isochroneref02_Int.f k a0) (isochroneref02_Int.f (k + 1) a0) := by
 intro a0 k
 unfold isochroneref02_Int.f
 repeat' first
   | (with_reducible first | exact isochroneref01_Int.mono _ _ | exact LeO.refl _ | exact LeO.none _ | refine LeO.ite ?_ ?_ | refine LeO.bind ?_ (fun _ => ?_))
   | exact isochroneref01_Int.mono _ _
   | exact LeO.none _
   | refine LeO.ite ?_ ?_
   | refine LeO.bind ?_ (fun _ => ?_)
def isochroneref02_Mid.f (k : Nat) (a0_0 : Bool) (l0_1 : List Int) (l0_2 : List Int) (a1_0 : Bool) (l1_1 : List Int) (l1_2 : List Int) : Option (Bool × List Int × List Int) := (isochroneref02_Add.f k a0_0 l0_1 l0_2 a1_0 l1_1 l1_2).bind fun bt1235 => ((isochroneref02_Int.f k 2).bind fun bt1242 => ((isochroneref02_Div.f k bt1235.1 bt1235.2.1 bt1235.2.2 bt1242.1 bt1242.2.1 bt1242.2.2).bind fun bt1249 => (some (bt1249.1, bt1249.2.1, bt1249.2.2))))
theorem isochroneref02_Mid.mono : ∀ a0 a1 a2 a3 a4 a5 k, LeO (isochroneref02_Mid.f k a0 a1 a2 a3 a4 a5) (isochroneref02_Mid.f (k + 1) a0 a1 a2 a3 a4 a5) := by
 intro a0 a1 a2 a3 a4 a5 k
 unfold isochroneref02_Mid.f
 repeat' first
   | (with_reducible first | exact isochroneref02_Add.mono _ _ _ _ _ _ _ | exact isochroneref02_Div.mono _ _ _ _ _ _ _ | exact isochroneref02_Int.mono _ _ | exact LeO.refl _ | exact LeO.none _ | refine LeO.ite ?_ ?_ | refine LeO.bind ?_ (fun _ => ?_))
   | exact isochroneref02_Add.mono _ _ _ _ _ _ _
   | exact isochroneref02_Div.mono _ _ _ _ _ _ _
   | exact isochroneref02_Int.mono _ _
   | exact LeO.none _
   | refine LeO.ite ?_ ?_
   | refine LeO.bind ?_ (fun _ => ?_)
def isochroneref02_Cmp.f (k : Nat) (a0_0 : Bool) (l0_1 : List Int) (l0_2 : List Int) (a1_0 : Bool) (l1_1 : List Int) (l1_2 : List Int) : Option (Int) := (isochroneref02_Sub.f k a0_0 l0_1 l0_2 a1_0 l1_1 l1_2).bind fun bt1258 => ((isochroneref02_Sign.f bt1258.1 bt1258.2.1 bt1258.2.2).bind fun t1265 => (some t1265))
theorem isochroneref02_Cmp.mono : ∀ a0 a1 a2 a3 a4 a5 k, LeO (isochroneref02_Cmp.f k a0 a1 a2 a3 a4 a5) (isochroneref02_Cmp.f (k + 1) a0 a1 a2 a3 a4 a5) := by
 intro a0 a1 a2 a3 a4 a5 k
 unfold isochroneref02_Cmp.f
 repeat' first
   | (with_reducible first | exact isochroneref02_Sub.mono _ _ _ _ _ _ _ | exact LeO.refl _ | exact LeO.none _ | refine LeO.ite ?_ ?_ | refine LeO.bind ?_ (fun _ => ?_))
   | exact isochroneref02_Sub.mono _ _ _ _ _ _ _
   | exact LeO.none _
   | refine LeO.ite ?_ ?_
   | refine LeO.bind ?_ (fun _ => ?_)
def num_Equal.f (k : Nat) (a0_0 : Bool) (l0_1 : List Int) (l0_2 : List Int) (a1_0 : Bool) (l1_1 : List Int) (l1_2 : List Int) : Option (Bool) := if (a0_0 == a1_0) = true then ((mag_Cmp.f k l0_1 l1_1).bind fun t1270 => (if t1270 = 0 then ((mag_Cmp.f k l0_2 l1_2).bind fun t1271 => (some (t1271 == 0))) else (some false))) else (some false)
theorem num_Equal.mono : ∀ a0 a1 a2 a3 a4 a5 k, LeO (num_Equal.f k a0 a1 a2 a3 a4 a5) (num_Equal.f (k + 1) a0 a1 a2 a3 a4 a5) := by
 intro a0 a1 a2 a3 a4 a5 k
 unfold num_Equal.f
 repeat' first
   | (with_reducible first | exact mag_Cmp.mono _ _ _ | exact LeO.refl _ | exact LeO.none _ | refine LeO.ite ?_ ?_ | refine LeO.bind ?_ (fun _ => ?_))
   | exact mag_Cmp.mono _ _ _
   | exact LeO.none _
   | refine LeO.ite ?_ ?_
   | refine LeO.bind ?_ (fun _ => ?_)
def stringslite_HasPrefix.f (a0 : ByteArray) (a1 : ByteArray) : Option (Bool) := if (a0.size : Int) ≥ (a1.size : Int) then (if 0 ≤ (a1.size : Int) then (if (a1.size : Int) ≤ (a0.size : Int) then (some ((a0.extract 0 ((a1.size : Int) : Int).toNat).toList == a1.toList)) else (none)) else (none)) else (some false)
def strings_HasPrefix.f (a0 : ByteArray) (a1 : ByteArray) : Option (Bool) := (stringslite_HasPrefix.f a0 a1).bind fun t1389 => (some t1389)
def bytealg_Cutover.f (a0 : Int) : Option (Int) := some (wrap64 (Int.tdiv (wrap64 (a0 + 16)) 8))
mutual
def bytealg_hashStr_string.l0 : Nat → ByteArray → Int → Int → Option (Int × Int)
 | 0, _, _, _ => none
 | k + 1, x0, x4, x5 => if x5 < (x0.size : Int) then (if 0 ≤ x5 then (bytealg_hashStr_string.l0 k x0 ((((x4 * 16777619) % 4294967296) + ((bt x0 x5) % 4294967296)) % 4294967296) (wrap64 (x5 + 1))) else (none)) else (bytealg_hashStr_string.l1 k x4 1 16777619 (x0.size : Int))
def bytealg_hashStr_string.l1 : Nat → Int → Int → Int → Int → Option (Int × Int)
 | 0, _, _, _, _ => none
 | k + 1, x4, x6, x7, x8 => if x8 > 0 then (if (Go.bits .and .i64 x8 1) = 0 then (bytealg_hashStr_string.l1 k x4 x6 ((x7 * x7) % 4294967296) (x8 / 2)) else (bytealg_hashStr_string.l1 k x4 ((x6 * x7) % 4294967296) ((x7 * x7) % 4294967296) (x8 / 2))) else (some (x4, x6))
end
def bytealg_hashStr_string.f (k : Nat) (a0 : ByteArray) : Option (Int × Int) := bytealg_hashStr_string.l0 k a0 0 0
theorem bytealg_hashStr_string.mono_l : ∀ k, (∀ y0 y1 y2, LeO (bytealg_hashStr_string.l0 k y0 y1 y2) (bytealg_hashStr_string.l0 (k + 1) y0 y1 y2)) ∧ (∀ y0 y1 y2 y3, LeO (bytealg_hashStr_string.l1 k y0 y1 y2 y3) (bytealg_hashStr_string.l1 (k + 1) y0 y1 y2 y3))
 | 0 => ⟨fun _ _ _ r h => by simp [bytealg_hashStr_string.l0] at h, fun _ _ _ _ r h => by simp [bytealg_hashStr_string.l1] at h⟩
 | k + 1 => by
  obtain ⟨ih0, ih1⟩ := bytealg_hashStr_string.mono_l k
  refine ⟨?_, ?_⟩
  ·intro y0 y1 y2
   unfold bytealg_hashStr_string.l0
   repeat' first
   | (with_reducible first | exact ih0 _ _ _ | exact ih1 _ _ _ _ | exact LeO.refl _ | exact LeO.none _ | refine LeO.ite ?_ ?_ | refine LeO.bind ?_ (fun _ => ?_))
   | exact ih0 _ _ _
   | exact ih1 _ _ _ _
   | exact LeO.none _
   | refine LeO.ite ?_ ?_
   | refine LeO.bind ?_ (fun _ => ?_)
  ·intro y0 y1 y2 y3
   unfold bytealg_hashStr_string.l1
   repeat' first
   | (with_reducible first | exact ih0 _ _ _ | exact ih1 _ _ _ _ | exact LeO.refl _ | exact LeO.none _ | refine LeO.ite ?_ ?_ | refine LeO.bind ?_ (fun _ => ?_))
   | exact ih0 _ _ _
   | exact ih1 _ _ _ _
   | exact LeO.none _
   | refine LeO.ite ?_ ?_
   | refine LeO.bind ?_ (fun _ => ?_)
theorem bytealg_hashStr_string.mono : ∀ a0 k, LeO (bytealg_hashStr_string.f k a0) (bytealg_hashStr_string.f (k + 1) a0) := by
 intro a0 k
 obtain ⟨ih0, ih1⟩ := bytealg_hashStr_string.mono_l k
 unfold bytealg_hashStr_string.f
 repeat' first
   | (with_reducible first | exact ih0 _ _ _ | exact ih1 _ _ _ _ | exact LeO.refl _ | exact LeO.none _ | refine LeO.ite ?_ ?_ | refine LeO.bind ?_ (fun _ => ?_))
   | exact ih0 _ _ _
   | exact ih1 _ _ _ _
   | exact LeO.none _
   | refine LeO.ite ?_ ?_
   | refine LeO.bind ?_ (fun _ => ?_)
mutual
def bytealg_IndexRabinKarp_string.l0 : Nat → ByteArray → ByteArray → Int → Int → Int → Int → Int → Option (Int)
 | 0, _, _, _, _, _, _, _ => none
 | k + 1, x0, x1, x5, x6, x7, x8, x9 => if x9 < x7 then (if 0 ≤ x9 then (if x9 < (x0.size : Int) then (bytealg_IndexRabinKarp_string.l0 k x0 x1 x5 x6 x7 ((((x8 * 16777619) % 4294967296) + ((bt x0 x9) % 4294967296)) % 4294967296) (wrap64 (x9 + 1))) else (none)) else (none)) else (if x8 = x5 then (if 0 ≤ x7 then (if x7 ≤ (x0.size : Int) then (bytealg_IndexRabinKarp_string.j1 k x0 x1 x5 x6 x7 x8 ((x0.extract 0 (x7 : Int).toNat).toList == x1.toList)) else (none)) else (none)) else (bytealg_IndexRabinKarp_string.j1 k x0 x1 x5 x6 x7 x8 false))
def bytealg_IndexRabinKarp_string.j1 : Nat → ByteArray → ByteArray → Int → Int → Int → Int → Bool → Option (Int)
 | 0, _, _, _, _, _, _, _ => none
 | k + 1, x0, x1, x5, x6, x7, x8, x39 => if x39 = true then (some 0) else (bytealg_IndexRabinKarp_string.l1 k x0 x1 x5 x6 x7 x8 x7)
def bytealg_IndexRabinKarp_string.l1 : Nat → ByteArray → ByteArray → Int → Int → Int → Int → Int → Option (Int)
 | 0, _, _, _, _, _, _, _ => none
 | k + 1, x0, x1, x5, x6, x7, x8, x10 => if x10 < (x0.size : Int) then (if 0 ≤ x10 then (if 0 ≤ (wrap64 (x10 - x7)) then (if (wrap64 (x10 - x7)) < (x0.size : Int) then (if ((((((x8 * 16777619) % 4294967296) + ((bt x0 x10) % 4294967296)) % 4294967296) - ((x6 * ((bt x0 (wrap64 (x10 - x7))) % 4294967296)) % 4294967296)) % 4294967296) = x5 then (if 0 ≤ (wrap64 ((wrap64 (x10 + 1)) - x7)) then (if (wrap64 ((wrap64 (x10 + 1)) - x7)) ≤ (wrap64 (x10 + 1)) then (if (wrap64 (x10 + 1)) ≤ (x0.size : Int) then (if (x0.extract ((wrap64 ((wrap64 (x10 + 1)) - x7)) : Int).toNat ((wrap64 (x10 + 1)) : Int).toNat).toList = x1.toList then (some (wrap64 ((wrap64 (x10 + 1)) - x7))) else (bytealg_IndexRabinKarp_string.l1 k x0 x1 x5 x6 x7 ((((((x8 * 16777619) % 4294967296) + ((bt x0 x10) % 4294967296)) % 4294967296) - ((x6 * ((bt x0 (wrap64 (x10 - x7))) % 4294967296)) % 4294967296)) % 4294967296) (wrap64 (x10 + 1)))) else (none)) else (none)) else (none)) else (bytealg_IndexRabinKarp_string.l1 k x0 x1 x5 x6 x7 ((((((x8 * 16777619) % 4294967296) + ((bt x0 x10) % 4294967296)) % 4294967296) - ((x6 * ((bt x0 (wrap64 (x10 - x7))) % 4294967296)) % 4294967296)) % 4294967296) (wrap64 (x10 + 1)))) else (none)) else (none)) else (none)) else (some (-1))
end
def bytealg_IndexRabinKarp_string.f (k : Nat) (a0 : ByteArray) (a1 : ByteArray) : Option (Int) := (bytealg_hashStr_string.f k a1).bind fun bt1390 => (bytealg_IndexRabinKarp_string.l0 k a0 a1 bt1390.1 bt1390.2 (a1.size : Int) 0 0)
theorem bytealg_IndexRabinKarp_string.mono_l : ∀ k, (∀ y0 y1 y2 y3 y4 y5 y6, LeO (bytealg_IndexRabinKarp_string.l0 k y0 y1 y2 y3 y4 y5 y6) (bytealg_IndexRabinKarp_string.l0 (k + 1) y0 y1 y2 y3 y4 y5 y6)) ∧ (∀ y0 y1 y2 y3 y4 y5 y6, LeO (bytealg_IndexRabinKarp_string.j1 k y0 y1 y2 y3 y4 y5 y6) (bytealg_IndexRabinKarp_string.j1 (k + 1) y0 y1 y2 y3 y4 y5 y6)) ∧ (∀ y0 y1 y2 y3 y4 y5 y6, LeO (bytealg_IndexRabinKarp_string.l1 k y0 y1 y2 y3 y4 y5 y6) (bytealg_IndexRabinKarp_string.l1 (k + 1) y0 y1 y2 y3 y4 y5 y6))
 | 0 => ⟨fun _ _ _ _ _ _ _ r h => by simp [bytealg_IndexRabinKarp_string.l0] at h, fun _ _ _ _ _ _ _ r h => by simp [bytealg_IndexRabinKarp_string.j1] at h, fun _ _ _ _ _ _ _ r h => by simp [bytealg_IndexRabinKarp_string.l1] at h⟩
 | k + 1 => by
  obtain ⟨ih0, ih1, ih2⟩ := bytealg_IndexRabinKarp_string.mono_l k
  refine ⟨?_, ?_, ?_⟩
  ·intro y0 y1 y2 y3 y4 y5 y6
   unfold bytealg_IndexRabinKarp_string.l0
   repeat' first
   | (with_reducible first | exact ih0 _ _ _ _ _ _ _ | exact ih1 _ _ _ _ _ _ _ | exact ih2 _ _ _ _ _ _ _ | exact bytealg_hashStr_string.mono _ _ | exact LeO.refl _ | exact LeO.none _ | refine LeO.ite ?_ ?_ | refine LeO.bind ?_ (fun _ => ?_))
   | exact ih0 _ _ _ _ _ _ _
   | exact ih1 _ _ _ _ _ _ _
   | exact ih2 _ _ _ _ _ _ _
   | exact bytealg_hashStr_string.mono _ _
   | exact LeO.none _
   | refine LeO.ite ?_ ?_
   | refine LeO.bind ?_ (fun _ => ?_)
  ·intro y0 y1 y2 y3 y4 y5 y6
   unfold bytealg_IndexRabinKarp_string.j1
   repeat' first
   | (with_reducible first | exact ih0 _ _ _ _ _ _ _ | exact ih1 _ _ _ _ _ _ _ | exact ih2 _ _ _ _ _ _ _ | exact bytealg_hashStr_string.mono _ _ | exact LeO.refl _ | exact LeO.none _ | refine LeO.ite ?_ ?_ | refine LeO.bind ?_ (fun _ => ?_))
   | exact ih0 _ _ _ _ _ _ _
   | exact ih1 _ _ _ _ _ _ _
   | exact ih2 _ _ _ _ _ _ _
   | exact bytealg_hashStr_string.mono _ _
   | exact LeO.none _
   | refine LeO.ite ?_ ?_
   | refine LeO.bind ?_ (fun _ => ?_)
  ·intro y0 y1 y2 y3 y4 y5 y6
   unfold bytealg_IndexRabinKarp_string.l1
   repeat' first
   | (with_reducible first | exact ih0 _ _ _ _ _ _ _ | exact ih1 _ _ _ _ _ _ _ | exact ih2 _ _ _ _ _ _ _ | exact bytealg_hashStr_string.mono _ _ | exact LeO.refl _ | exact LeO.none _ | refine LeO.ite ?_ ?_ | refine LeO.bind ?_ (fun _ => ?_))
   | exact ih0 _ _ _ _ _ _ _
   | exact ih1 _ _ _ _ _ _ _
   | exact ih2 _ _ _ _ _ _ _
   | exact bytealg_hashStr_string.mono _ _
   | exact LeO.none _
   | refine LeO.ite ?_ ?_
   | refine LeO.bind ?_ (fun _ => ?_)
theorem bytealg_IndexRabinKarp_string.mono : ∀ a0 a1 k, LeO (bytealg_IndexRabinKarp_string.f k a0 a1) (bytealg_IndexRabinKarp_string.f (k + 1) a0 a1) := by
 intro a0 a1 k
 obtain ⟨ih0, ih1, ih2⟩ := bytealg_IndexRabinKarp_string.mono_l k
 unfold bytealg_IndexRabinKarp_string.f
 repeat' first
   | (with_reducible first | exact ih0 _ _ _ _ _ _ _ | exact ih1 _ _ _ _ _ _ _ | exact ih2 _ _ _ _ _ _ _ | exact bytealg_hashStr_string.mono _ _ | exact LeO.refl _ | exact LeO.none _ | refine LeO.ite ?_ ?_ | refine LeO.bind ?_ (fun _ => ?_))
   | exact ih0 _ _ _ _ _ _ _
   | exact ih1 _ _ _ _ _ _ _
   | exact ih2 _ _ _ _ _ _ _
   | exact bytealg_hashStr_string.mono _ _
   | exact LeO.none _
   | refine LeO.ite ?_ ?_
   | refine LeO.bind ?_ (fun _ => ?_)
def nat_limited.f (l0 : List Int) : Option (List Int × Int) := if (l0.length : Int) > 4096 then (some (([] : List Int), 2)) else (if ([] : List Int).length + l0.length < 35184372088832 then (some ((([] : List Int) ++ l0), 0)) else (none))
mutual
def nat_Parse.l0 : Nat → ByteArray → List Int → Int → Int → Int → Option (List Int × Int)
 | 0, _, _, _, _, _ => none
 | k + 1, x0, x4, x5, x6, x7 => if x7 = (x0.size : Int) then ((mag_From.f k x6).bind fun t1395 => ((mag_Mul.f k x4 t1395).bind fun t1398 => ((mag_From.f k x5).bind fun t1401 => ((mag_Add.f k t1398 t1401).bind fun t1404 => ((nat_limited.f t1404).bind fun bt1407 => (some (bt1407.1, bt1407.2))))))) else (if 0 ≤ x7 then (if x7 < (x0.size : Int) then (if (bt x0 x7) < 48 then (nat_Parse.j1 k x0 x4 x5 x6 x7 true) else (nat_Parse.j1 k x0 x4 x5 x6 x7 (decide ((bt x0 x7) > 57)))) else (none)) else (none))
def nat_Parse.j1 : Nat → ByteArray → List Int → Int → Int → Int → Bool → Option (List Int × Int)
 | 0, _, _, _, _, _, _ => none
 | k + 1, x0, x4, x5, x6, x7, x27 => if x27 = true then (some (([] : List Int), 90)) else (if x6 = 1000000000 then ((mag_From.f k x6).bind fun t1411 => ((mag_Mul.f k x4 t1411).bind fun t1414 => ((mag_From.f k x5).bind fun t1417 => ((mag_Add.f k t1414 t1417).bind fun t1420 => (if 0 ≤ x7 then (if x7 < (x0.size : Int) then (nat_Parse.l0 k x0 t1420 ((0 * 10) + (((bt x0 x7) - 48) % 256)) (1 * 10) (wrap64 (x7 + 1))) else (none)) else (none)))))) else (if 0 ≤ x7 then (if x7 < (x0.size : Int) then (nat_Parse.l0 k x0 x4 (IntKind.u64.wrap ((IntKind.u64.wrap (x5 * 10)) + (((bt x0 x7) - 48) % 256))) (IntKind.u64.wrap (x6 * 10)) (wrap64 (x7 + 1))) else (none)) else (none)))
end
def nat_Parse.f (k : Nat) (a0 : ByteArray) : Option (List Int × Int) := if (a0.size : Int) > 20000 then (some (([] : List Int), 2)) else (if a0.toList = ([] : List UInt8) then (some (([] : List Int), 90)) else (nat_Parse.l0 k a0 ([] : List Int) 0 1 0))
theorem nat_Parse.mono_l : ∀ k, (∀ y0 y1 y2 y3 y4, LeO (nat_Parse.l0 k y0 y1 y2 y3 y4) (nat_Parse.l0 (k + 1) y0 y1 y2 y3 y4)) ∧ (∀ y0 y1 y2 y3 y4 y5, LeO (nat_Parse.j1 k y0 y1 y2 y3 y4 y5) (nat_Parse.j1 (k + 1) y0 y1 y2 y3 y4 y5))
 | 0 => ⟨fun _ _ _ _ _ r h => by simp [nat_Parse.l0] at h, fun _ _ _ _ _ _ r h => by simp [nat_Parse.j1] at h⟩
 | k + 1 => by
  obtain ⟨ih0, ih1⟩ := nat_Parse.mono_l k
  refine ⟨?_, ?_⟩
  ·intro y0 y1 y2 y3 y4
   unfold nat_Parse.l0
   repeat' first
   | (with_reducible first | exact ih0 _ _ _ _ _ | exact ih1 _ _ _ _ _ _ | exact mag_Add.mono _ _ _ | exact mag_From.mono _ _ | exact mag_Mul.mono _ _ _ | exact LeO.refl _ | exact LeO.none _ | refine LeO.ite ?_ ?_ | refine LeO.bind ?_ (fun _ => ?_))
   | exact ih0 _ _ _ _ _
   | exact ih1 _ _ _ _ _ _
   | exact mag_Add.mono _ _ _
   | exact mag_From.mono _ _
   | exact mag_Mul.mono _ _ _
   | exact LeO.none _
   | refine LeO.ite ?_ ?_
   | refine LeO.bind ?_ (fun _ => ?_)
  ·intro y0 y1 y2 y3 y4 y5
   unfold nat_Parse.j1
   repeat' first
   | (with_reducible first | exact ih0 _ _ _ _ _ | exact ih1 _ _ _ _ _ _ | exact mag_Add.mono _ _ _ | exact mag_From.mono _ _ | exact mag_Mul.mono _ _ _ | exact LeO.refl _ | exact LeO.none _ | refine LeO.ite ?_ ?_ | refine LeO.bind ?_ (fun _ => ?_))
   | exact ih0 _ _ _ _ _
   | exact ih1 _ _ _ _ _ _
   | exact mag_Add.mono _ _ _
   | exact mag_From.mono _ _
   | exact mag_Mul.mono _ _ _
   | exact LeO.none _
   | refine LeO.ite ?_ ?_
   | refine LeO.bind ?_ (fun _ => ?_)
theorem nat_Parse.mono : ∀ a0 k, LeO (nat_Parse.f k a0) (nat_Parse.f (k + 1) a0) := by
 intro a0 k
 obtain ⟨ih0, ih1⟩ := nat_Parse.mono_l k
 unfold nat_Parse.f
 repeat' first
   | (with_reducible first | exact ih0 _ _ _ _ _ | exact ih1 _ _ _ _ _ _ | exact mag_Add.mono _ _ _ | exact mag_From.mono _ _ | exact mag_Mul.mono _ _ _ | exact LeO.refl _ | exact LeO.none _ | refine LeO.ite ?_ ?_ | refine LeO.bind ?_ (fun _ => ?_))
   | exact ih0 _ _ _ _ _
   | exact ih1 _ _ _ _ _ _
   | exact mag_Add.mono _ _ _
   | exact mag_From.mono _ _
   | exact mag_Mul.mono _ _ _
   | exact LeO.none _
   | refine LeO.ite ?_ ?_
   | refine LeO.bind ?_ (fun _ => ?_)
def bits_Len64.j0 : Nat → Int → Int → Option (Int)
 | 0, _, _ => none
 | k + 1, x0, x2 => if x0 ≥ 65536 then (if (x0 / 65536) ≥ 256 then (if 0 ≤ (((x0 / 65536) / 256) % 256) then (if (((x0 / 65536) / 256) % 256) < 256 then (some (wrap64 ((wrap64 ((wrap64 (x2 + 16)) + 8)) + (wrap64 (bt (⟨#[0, 1, 2, 2, 3, 3, 3, 3, 4, 4, 4, 4, 4, 4, 4, 4, 5, 5, 5, 5, 5, 5, 5, 5, 5, 5, 5, 5, 5, 5, 5, 5, 6, 6, 6, 6, 6, 6, 6, 6, 6, 6, 6, 6, 6, 6, 6, 6, 6, 6, 6, 6, 6, 6, 6, 6, 6, 6, 6, 6, 6, 6, 6, 6, 7, 7, 7, 7, 7, 7, 7, 7, 7, 7, 7, 7, 7, 7, 7, 7, 7, 7, 7, 7, 7, 7, 7, 7, 7, 7, 7, 7, 7, 7, 7, 7, 7, 7, 7, 7, 7, 7, 7, 7, 7, 7, 7, 7, 7, 7, 7, 7, 7, 7, 7, 7, 7, 7, 7, 7, 7, 7, 7, 7, 7, 7, 7, 7, 8, 8, 8, 8, 8, 8, 8, 8, 8, 8, 8, 8, 8, 8, 8, 8, 8, 8, 8, 8, 8, 8, 8, 8, 8, 8, 8, 8, 8, 8, 8, 8, 8, 8, 8, 8, 8, 8, 8, 8, 8, 8, 8, 8, 8, 8, 8, 8, 8, 8, 8, 8, 8, 8, 8, 8, 8, 8, 8, 8, 8, 8, 8, 8, 8, 8, 8, 8, 8, 8, 8, 8, 8, 8, 8, 8, 8, 8, 8, 8, 8, 8, 8, 8, 8, 8, 8, 8, 8, 8, 8, 8, 8, 8, 8, 8, 8, 8, 8, 8, 8, 8, 8, 8, 8, 8, 8, 8, 8, 8, 8, 8, 8, 8, 8, 8, 8, 8, 8, 8, 8, 8, 8, 8, 8, 8, 8, 8]⟩ : ByteArray) (((x0 / 65536) / 256) % 256)))))) else (none)) else (none)) else (if 0 ≤ ((x0 / 65536) % 256) then (if ((x0 / 65536) % 256) < 256 then (some (wrap64 ((wrap64 (x2 + 16)) + (wrap64 (bt (⟨#[0, 1, 2, 2, 3, 3, 3, 3, 4, 4, 4, 4, 4, 4, 4, 4, 5, 5, 5, 5, 5, 5, 5, 5, 5, 5, 5, 5, 5, 5, 5, 5, 6, 6, 6, 6, 6, 6, 6, 6, 6, 6, 6, 6, 6, 6, 6, 6, 6, 6, 6, 6, 6, 6, 6, 6, 6, 6, 6, 6, 6, 6, 6, 6, 7, 7, 7, 7, 7, 7, 7, 7, 7, 7, 7, 7, 7, 7, 7, 7, 7, 7, 7, 7, 7, 7, 7, 7, 7, 7, 7, 7, 7, 7, 7, 7, 7, 7, 7, 7, 7, 7, 7, 7, 7, 7, 7, 7, 7, 7, 7, 7, 7, 7, 7, 7, 7, 7, 7, 7, 7, 7, 7, 7, 7, 7, 7, 7, 8, 8, 8, 8, 8, 8, 8, 8, 8, 8, 8, 8, 8, 8, 8, 8, 8, 8, 8, 8, 8, 8, 8, 8, 8, 8, 8, 8, 8, 8, 8, 8, 8, 8, 8, 8, 8, 8, 8, 8, 8, 8, 8, 8, 8, 8, 8, 8, 8, 8, 8, 8, 8, 8, 8, 8, 8, 8, 8, 8, 8, 8, 8, 8, 8, 8, 8, 8, 8, 8, 8, 8, 8, 8, 8, 8, 8, 8, 8, 8, 8, 8, 8, 8, 8, 8, 8, 8, 8, 8, 8, 8, 8, 8, 8, 8, 8, 8, 8, 8, 8, 8, 8, 8, 8, 8, 8, 8, 8, 8, 8, 8, 8, 8, 8, 8, 8, 8, 8, 8, 8, 8, 8, 8, 8, 8, 8, 8]⟩ : ByteArray) ((x0 / 65536) % 256)))))) else (none)) else (none))) else (if x0 ≥ 256 then (if 0 ≤ ((x0 / 256) % 256) then (if ((x0 / 256) % 256) < 256 then (some (wrap64 ((wrap64 (x2 + 8)) + (wrap64 (bt (⟨#[0, 1, 2, 2, 3, 3, 3, 3, 4, 4, 4, 4, 4, 4, 4, 4, 5, 5, 5, 5, 5, 5, 5, 5, 5, 5, 5, 5, 5, 5, 5, 5, 6, 6, 6, 6, 6, 6, 6, 6, 6, 6, 6, 6, 6, 6, 6, 6, 6, 6, 6, 6, 6, 6, 6, 6, 6, 6, 6, 6, 6, 6, 6, 6, 7, 7, 7, 7, 7, 7, 7, 7, 7, 7, 7, 7, 7, 7, 7, 7, 7, 7, 7, 7, 7, 7, 7, 7, 7, 7, 7, 7, 7, 7, 7, 7, 7, 7, 7, 7, 7, 7, 7, 7, 7, 7, 7, 7, 7, 7, 7, 7, 7, 7, 7, 7, 7, 7, 7, 7, 7, 7, 7, 7, 7, 7, 7, 7, 8, 8, 8, 8, 8, 8, 8, 8, 8, 8, 8, 8, 8, 8, 8, 8, 8, 8, 8, 8, 8, 8, 8, 8, 8, 8, 8, 8, 8, 8, 8, 8, 8, 8, 8, 8, 8, 8, 8, 8, 8, 8, 8, 8, 8, 8, 8, 8, 8, 8, 8, 8, 8, 8, 8, 8, 8, 8, 8, 8, 8, 8, 8, 8, 8, 8, 8, 8, 8, 8, 8, 8, 8, 8, 8, 8, 8, 8, 8, 8, 8, 8, 8, 8, 8, 8, 8, 8, 8, 8, 8, 8, 8, 8, 8, 8, 8, 8, 8, 8, 8, 8, 8, 8, 8, 8, 8, 8, 8, 8, 8, 8, 8, 8, 8, 8, 8, 8, 8, 8, 8, 8, 8, 8, 8, 8, 8, 8]⟩ : ByteArray) ((x0 / 256) % 256)))))) else (none)) else (none)) else (if 0 ≤ ((x0) % 256) then (if ((x0) % 256) < 256 then (some (wrap64 (x2 + (wrap64 (bt (⟨#[0, 1, 2, 2, 3, 3, 3, 3, 4, 4, 4, 4, 4, 4, 4, 4, 5, 5, 5, 5, 5, 5, 5, 5, 5, 5, 5, 5, 5, 5, 5, 5, 6, 6, 6, 6, 6, 6, 6, 6, 6, 6, 6, 6, 6, 6, 6, 6, 6, 6, 6, 6, 6, 6, 6, 6, 6, 6, 6, 6, 6, 6, 6, 6, 7, 7, 7, 7, 7, 7, 7, 7, 7, 7, 7, 7, 7, 7, 7, 7, 7, 7, 7, 7, 7, 7, 7, 7, 7, 7, 7, 7, 7, 7, 7, 7, 7, 7, 7, 7, 7, 7, 7, 7, 7, 7, 7, 7, 7, 7, 7, 7, 7, 7, 7, 7, 7, 7, 7, 7, 7, 7, 7, 7, 7, 7, 7, 7, 8, 8, 8, 8, 8, 8, 8, 8, 8, 8, 8, 8, 8, 8, 8, 8, 8, 8, 8, 8, 8, 8, 8, 8, 8, 8, 8, 8, 8, 8, 8, 8, 8, 8, 8, 8, 8, 8, 8, 8, 8, 8, 8, 8, 8, 8, 8, 8, 8, 8, 8, 8, 8, 8, 8, 8, 8, 8, 8, 8, 8, 8, 8, 8, 8, 8, 8, 8, 8, 8, 8, 8, 8, 8, 8, 8, 8, 8, 8, 8, 8, 8, 8, 8, 8, 8, 8, 8, 8, 8, 8, 8, 8, 8, 8, 8, 8, 8, 8, 8, 8, 8, 8, 8, 8, 8, 8, 8, 8, 8, 8, 8, 8, 8, 8, 8, 8, 8, 8, 8, 8, 8, 8, 8, 8, 8, 8, 8]⟩ : ByteArray) ((x0) % 256)))))) else (none)) else (none)))
def bits_Len64.f (k : Nat) (a0 : Int) : Option (Int) := if a0 ≥ 4294967296 then (bits_Len64.j0 k (a0 / 4294967296) 32) else (bits_Len64.j0 k a0 0)
theorem bits_Len64.mono_l : ∀ k, (∀ y0 y1, LeO (bits_Len64.j0 k y0 y1) (bits_Len64.j0 (k + 1) y0 y1))
 | 0 => fun _ _ r h => by simp [bits_Len64.j0] at h
 | k + 1 => by
  have ih0 := bits_Len64.mono_l k
  ·intro y0 y1
   unfold bits_Len64.j0
   repeat' first
   | (with_reducible first | exact ih0 _ _ | exact LeO.refl _ | exact LeO.none _ | refine LeO.ite ?_ ?_ | refine LeO.bind ?_ (fun _ => ?_))
   | exact ih0 _ _
   | exact LeO.none _
   | refine LeO.ite ?_ ?_
   | refine LeO.bind ?_ (fun _ => ?_)
theorem bits_Len64.mono : ∀ a0 k, LeO (bits_Len64.f k a0) (bits_Len64.f (k + 1) a0) := by
 intro a0 k
 have ih0 := bits_Len64.mono_l k
 unfold bits_Len64.f
 repeat' first
   | (with_reducible first | exact ih0 _ _ | exact LeO.refl _ | exact LeO.none _ | refine LeO.ite ?_ ?_ | refine LeO.bind ?_ (fun _ => ?_))
   | exact ih0 _ _
   | exact LeO.none _
   | refine LeO.ite ?_ ?_
   | refine LeO.bind ?_ (fun _ => ?_)
def bits_Len.f (k : Nat) (a0 : Int) : Option (Int) := (bits_Len64.f k a0).bind fun t1423 => (some t1423)
theorem bits_Len.mono : ∀ a0 k, LeO (bits_Len.f k a0) (bits_Len.f (k + 1) a0) := by
 intro a0 k
 unfold bits_Len.f
 repeat' first
   | (with_reducible first | exact bits_Len64.mono _ _ | exact LeO.refl _ | exact LeO.none _ | refine LeO.ite ?_ ?_ | refine LeO.bind ?_ (fun _ => ?_))
   | exact bits_Len64.mono _ _
   | exact LeO.none _
   | refine LeO.ite ?_ ?_
   | refine LeO.bind ?_ (fun _ => ?_)
mutual
def nat_Pow.j0 : Nat → List Int → Int → Bool → Option (List Int × Int)
 | 0, _, _, _ => none
 | k + 1, x0, x1, x19 => if x19 = true then ((nat_limited.f x0).bind fun bt1429 => (some (bt1429.1, bt1429.2))) else (if x1 > 131072 then (some (([] : List Int), 2)) else ((mag_Bits.f x0).bind fun t1433 => (if (wrap64 ((wrap64 (t1433 - 1)) * x1)) ≥ 131072 then (some (([] : List Int), 2)) else ((bits_Len.f k (IntKind.u64.wrap (x1))).bind fun t1437 => (nat_Pow.l0 k x0 x1 (([1] : List Int)) (wrap64 (t1437 - 1)))))))
def nat_Pow.l0 : Nat → List Int → Int → List Int → Int → Option (List Int × Int)
 | 0, _, _, _, _ => none
 | k + 1, x0, x1, x6, x7 => if x7 ≥ 0 then ((mag_Mul.f k x6 x6).bind fun t1442 => (if 0 ≤ x7 then (if (Go.bits .and .i64 (shr .i64 x1 x7) 1) = 1 then ((mag_Mul.f k t1442 x0).bind fun t1445 => (nat_Pow.l0 k x0 x1 t1445 (wrap64 (x7 - 1)))) else (nat_Pow.l0 k x0 x1 t1442 (wrap64 (x7 - 1)))) else (none))) else ((nat_limited.f x6).bind fun bt1438 => (some (bt1438.1, bt1438.2)))
end
def nat_Pow.f (k : Nat) (l0 : List Int) (a1 : Int) : Option (List Int × Int) := (nat_Valid.f l0).bind fun t1424 => (if t1424 = true then (if a1 < 0 then (some (([] : List Int), 1)) else (if a1 = 0 then (some ((([1] : List Int)), 0)) else (if (l0.length : Int) = 0 then (nat_Pow.j0 k l0 a1 true) else (if (l0.length : Int) = 1 then (if 0 < (l0.length : Int) then (nat_Pow.j0 k l0 a1 ((rd l0 0) == 1)) else (none)) else (nat_Pow.j0 k l0 a1 false))))) else (some (([] : List Int), 3)))
theorem nat_Pow.mono_l : ∀ k, (∀ y0 y1 y2, LeO (nat_Pow.j0 k y0 y1 y2) (nat_Pow.j0 (k + 1) y0 y1 y2)) ∧ (∀ y0 y1 y2 y3, LeO (nat_Pow.l0 k y0 y1 y2 y3) (nat_Pow.l0 (k + 1) y0 y1 y2 y3))
 | 0 => ⟨fun _ _ _ r h => by simp [nat_Pow.j0] at h, fun _ _ _ _ r h => by simp [nat_Pow.l0] at h⟩
 | k + 1 => by
  obtain ⟨ih0, ih1⟩ := nat_Pow.mono_l k
  refine ⟨?_, ?_⟩
  ·intro y0 y1 y2
   unfold nat_Pow.j0
   repeat' first
   | (with_reducible first | exact ih0 _ _ _ | exact ih1 _ _ _ _ | exact bits_Len.mono _ _ | exact mag_Mul.mono _ _ _ | exact LeO.refl _ | exact LeO.none _ | refine LeO.ite ?_ ?_ | refine LeO.bind ?_ (fun _ => ?_))
   | exact ih0 _ _ _
   | exact ih1 _ _ _ _
   | exact bits_Len.mono _ _
   | exact mag_Mul.mono _ _ _
   | exact LeO.none _
   | refine LeO.ite ?_ ?_
   | refine LeO.bind ?_ (fun _ => ?_)
  ·intro y0 y1 y2 y3
   unfold nat_Pow.l0
   repeat' first
   | (with_reducible first | exact ih0 _ _ _ | exact ih1 _ _ _ _ | exact bits_Len.mono _ _ | exact mag_Mul.mono _ _ _ | exact LeO.refl _ | exact LeO.none _ | refine LeO.ite ?_ ?_ | refine LeO.bind ?_ (fun _ => ?_))
   | exact ih0 _ _ _
   | exact ih1 _ _ _ _
   | exact bits_Len.mono _ _
   | exact mag_Mul.mono _ _ _
   | exact LeO.none _
   | refine LeO.ite ?_ ?_
   | refine LeO.bind ?_ (fun _ => ?_)
theorem nat_Pow.mono : ∀ a0 a1 k, LeO (nat_Pow.f k a0 a1) (nat_Pow.f (k + 1) a0 a1) := by
 intro a0 a1 k
 obtain ⟨ih0, ih1⟩ := nat_Pow.mono_l k
 unfold nat_Pow.f
 repeat' first
   | (with_reducible first | exact ih0 _ _ _ | exact ih1 _ _ _ _ | exact bits_Len.mono _ _ | exact mag_Mul.mono _ _ _ | exact LeO.refl _ | exact LeO.none _ | refine LeO.ite ?_ ?_ | refine LeO.bind ?_ (fun _ => ?_))
   | exact ih0 _ _ _
   | exact ih1 _ _ _ _
   | exact bits_Len.mono _ _
   | exact mag_Mul.mono _ _ _
   | exact LeO.none _
   | refine LeO.ite ?_ ?_
   | refine LeO.bind ?_ (fun _ => ?_)
mutual
def isochroneref01_Text.l0 : Nat → List Int → List Int → Int → Option (ByteArray)
 | 0, _, _, _ => none
 | k + 1, x0, x3, x4 => if x4 ≥ 0 then (isochroneref01_Text.l1 k x0 x3 x4 1000) else (some (strOfNums x3))
def isochroneref01_Text.l1 : Nat → List Int → List Int → Int → Int → Option (ByteArray)
 | 0, _, _, _, _ => none
 | k + 1, x0, x3, x4, x5 => if x5 > 0 then (if 0 ≤ x4 then (if x4 < (x0.length : Int) then (if x5 = 0 then (none) else (if (x3.length : Int) > 0 then (if x3.length < 140737488355328 then (isochroneref01_Text.l1 k x0 (x3 ++ [(wrap64 (48 + (Int.tmod (wrap64 (Int.tdiv (rd x0 x4) x5)) 10))) % 256]) x4 (wrap64 (Int.tdiv x5 10))) else (none)) else (if (Int.tmod (wrap64 (Int.tdiv (rd x0 x4) x5)) 10) > 0 then (if x3.length < 140737488355328 then (isochroneref01_Text.l1 k x0 (x3 ++ [(wrap64 (48 + (Int.tmod (wrap64 (Int.tdiv (rd x0 x4) x5)) 10))) % 256]) x4 (wrap64 (Int.tdiv x5 10))) else (none)) else (isochroneref01_Text.l1 k x0 x3 x4 (wrap64 (Int.tdiv x5 10)))))) else (none)) else (none)) else (isochroneref01_Text.l0 k x0 x3 (wrap64 (x4 - 1)))
end
def isochroneref01_Text.f (k : Nat) (l0 : List Int) : Option (ByteArray) := if (l0.length : Int) = 0 then (some (⟨#[48]⟩ : ByteArray)) else (isochroneref01_Text.l0 k l0 ([] : List Int) (wrap64 ((l0.length : Int) - 1)))
theorem isochroneref01_Text.mono_l : ∀ k, (∀ y0 y1 y2, LeO (isochroneref01_Text.l0 k y0 y1 y2) (isochroneref01_Text.l0 (k + 1) y0 y1 y2)) ∧ (∀ y0 y1 y2 y3, LeO (isochroneref01_Text.l1 k y0 y1 y2 y3) (isochroneref01_Text.l1 (k + 1) y0 y1 y2 y3))
 | 0 => ⟨fun _ _ _ r h => by simp [isochroneref01_Text.l0] at h, fun _ _ _ _ r h => by simp [isochroneref01_Text.l1] at h⟩
 | k + 1 => by
  obtain ⟨ih0, ih1⟩ := isochroneref01_Text.mono_l k
  refine ⟨?_, ?_⟩
  ·intro y0 y1 y2
   unfold isochroneref01_Text.l0
   repeat' first
   | (with_reducible first | exact ih0 _ _ _ | exact ih1 _ _ _ _ | exact LeO.refl _ | exact LeO.none _ | refine LeO.ite ?_ ?_ | refine LeO.bind ?_ (fun _ => ?_))
   | exact ih0 _ _ _
   | exact ih1 _ _ _ _
   | exact LeO.none _
   | refine LeO.ite ?_ ?_
   | refine LeO.bind ?_ (fun _ => ?_)
  ·intro y0 y1 y2 y3
   unfold isochroneref01_Text.l1
   repeat' first
   | (with_reducible first | exact ih0 _ _ _ | exact ih1 _ _ _ _ | exact LeO.refl _ | exact LeO.none _ | refine LeO.ite ?_ ?_ | refine LeO.bind ?_ (fun _ => ?_))
   | exact ih0 _ _ _
   | exact ih1 _ _ _ _
   | exact LeO.none _
   | refine LeO.ite ?_ ?_
   | refine LeO.bind ?_ (fun _ => ?_)
theorem isochroneref01_Text.mono : ∀ a0 k, LeO (isochroneref01_Text.f k a0) (isochroneref01_Text.f (k + 1) a0) := by
 intro a0 k
 obtain ⟨ih0, ih1⟩ := isochroneref01_Text.mono_l k
 unfold isochroneref01_Text.f
 repeat' first
   | (with_reducible first | exact ih0 _ _ _ | exact ih1 _ _ _ _ | exact LeO.refl _ | exact LeO.none _ | refine LeO.ite ?_ ?_ | refine LeO.bind ?_ (fun _ => ?_))
   | exact ih0 _ _ _
   | exact ih1 _ _ _ _
   | exact LeO.none _
   | refine LeO.ite ?_ ?_
   | refine LeO.bind ?_ (fun _ => ?_)
def isochroneref02_Text.j0 : Nat → ByteArray → Bool → List Int → List Int → Option (ByteArray)
 | 0, _, _, _, _ => none
 | k + 1, x3, x1458000, x1458001, x1458002 => (isochroneref01_Cmp.f k x1458002 (([1] : List Int))).bind fun t1462 => (if t1462 = 0 then (some x3) else ((isochroneref01_Text.f k x1458002).bind fun t1463 => (if 1 + t1463.size ≤ 9223372036854775807 then (if x3.size + ((⟨#[47]⟩ : ByteArray) ++ t1463).size ≤ 9223372036854775807 then (some (x3 ++ ((⟨#[47]⟩ : ByteArray) ++ t1463))) else (none)) else (none))))
def isochroneref02_Text.f (k : Nat) (a0_0 : Bool) (l0_1 : List Int) (l0_2 : List Int) : Option (ByteArray) := (isochroneref01_Text.f k l0_1).bind fun t1458 => (if a0_0 = true then (if 1 + t1458.size ≤ 9223372036854775807 then (isochroneref02_Text.j0 k ((⟨#[45]⟩ : ByteArray) ++ t1458) a0_0 l0_1 l0_2) else (none)) else (isochroneref02_Text.j0 k t1458 a0_0 l0_1 l0_2))
theorem isochroneref02_Text.mono_l : ∀ k, (∀ y0 y1 y2 y3, LeO (isochroneref02_Text.j0 k y0 y1 y2 y3) (isochroneref02_Text.j0 (k + 1) y0 y1 y2 y3))
 | 0 => fun _ _ _ _ r h => by simp [isochroneref02_Text.j0] at h
 | k + 1 => by
  have ih0 := isochroneref02_Text.mono_l k
  ·intro y0 y1 y2 y3
   unfold isochroneref02_Text.j0
   repeat' first
   | (with_reducible first | exact ih0 _ _ _ _ | exact isochroneref01_Cmp.mono _ _ _ | exact isochroneref01_Text.mono _ _ | exact LeO.refl _ | exact LeO.none _ | refine LeO.ite ?_ ?_ | refine LeO.bind ?_ (fun _ => ?_))
   | exact ih0 _ _ _ _
   | exact isochroneref01_Cmp.mono _ _ _
   | exact isochroneref01_Text.mono _ _
   | exact LeO.none _
   | refine LeO.ite ?_ ?_
   | refine LeO.bind ?_ (fun _ => ?_)
theorem isochroneref02_Text.mono : ∀ a0 a1 a2 k, LeO (isochroneref02_Text.f k a0 a1 a2) (isochroneref02_Text.f (k + 1) a0 a1 a2) := by
 intro a0 a1 a2 k
 have ih0 := isochroneref02_Text.mono_l k
 unfold isochroneref02_Text.f
 repeat' first
   | (with_reducible first | exact ih0 _ _ _ _ | exact isochroneref01_Cmp.mono _ _ _ | exact isochroneref01_Text.mono _ _ | exact LeO.refl _ | exact LeO.none _ | refine LeO.ite ?_ ?_ | refine LeO.bind ?_ (fun _ => ?_))
   | exact ih0 _ _ _ _
   | exact isochroneref01_Cmp.mono _ _ _
   | exact isochroneref01_Text.mono _ _
   | exact LeO.none _
   | refine LeO.ite ?_ ?_
   | refine LeO.bind ?_ (fun _ => ?_)
def isochroneref01_Decimal.l0 : Nat → ByteArray → Int → Int → Option (Bool)
 | 0, _, _, _ => none
 | k + 1, x0, x5, x6 => if x6 < x5 then (if 0 ≤ x6 then (if x6 < (x0.size : Int) then (if (bt x0 x6) < 48 then (some false) else (if (bt x0 x6) > 57 then (some false) else (isochroneref01_Decimal.l0 k x0 x5 (wrap64 (x6 + 1))))) else (none)) else (none)) else (some (x0.toList != ([] : List UInt8)))
def isochroneref01_Decimal.f (k : Nat) (a0 : ByteArray) : Option (Bool) := isochroneref01_Decimal.l0 k a0 (a0.size : Int) 0
theorem isochroneref01_Decimal.mono_l : ∀ k, (∀ y0 y1 y2, LeO (isochroneref01_Decimal.l0 k y0 y1 y2) (isochroneref01_Decimal.l0 (k + 1) y0 y1 y2))
 | 0 => fun _ _ _ r h => by simp [isochroneref01_Decimal.l0] at h
 | k + 1 => by
  have ih0 := isochroneref01_Decimal.mono_l k
  ·intro y0 y1 y2
   unfold isochroneref01_Decimal.l0
   repeat' first
   | (with_reducible first | exact ih0 _ _ _ | exact LeO.refl _ | exact LeO.none _ | refine LeO.ite ?_ ?_ | refine LeO.bind ?_ (fun _ => ?_))
   | exact ih0 _ _ _
   | exact LeO.none _
   | refine LeO.ite ?_ ?_
   | refine LeO.bind ?_ (fun _ => ?_)
theorem isochroneref01_Decimal.mono : ∀ a0 k, LeO (isochroneref01_Decimal.f k a0) (isochroneref01_Decimal.f (k + 1) a0) := by
 intro a0 k
 have ih0 := isochroneref01_Decimal.mono_l k
 unfold isochroneref01_Decimal.f
 repeat' first
   | (with_reducible first | exact ih0 _ _ _ | exact LeO.refl _ | exact LeO.none _ | refine LeO.ite ?_ ?_ | refine LeO.bind ?_ (fun _ => ?_))
   | exact ih0 _ _ _
   | exact LeO.none _
   | refine LeO.ite ?_ ?_
   | refine LeO.bind ?_ (fun _ => ?_)
mutual
def isochroneref01_Digits.l0 : Nat → ByteArray → List Int → Int → Option (List Int)
 | 0, _, _, _ => none
 | k + 1, x0, x3, x4 => if x4 > 0 then (isochroneref01_Digits.l1 k x0 x3 x4 0 (mx 0 (wrap64 (x4 - 4)))) else ((isochroneref01_trim.f k x3).bind fun t1467 => (some t1467))
def isochroneref01_Digits.l1 : Nat → ByteArray → List Int → Int → Int → Int → Option (List Int)
 | 0, _, _, _, _, _ => none
 | k + 1, x0, x3, x4, x5, x6 => if x6 < x4 then (if 0 ≤ x6 then (if x6 < (x0.size : Int) then (isochroneref01_Digits.l1 k x0 x3 x4 (wrap64 ((wrap64 (x5 * 10)) + (((bt x0 x6) - 48) % 256))) (wrap64 (x6 + 1))) else (none)) else (none)) else (if x3.length < 17592186044416 then (isochroneref01_Digits.l0 k x0 (x3 ++ [x5]) (wrap64 (x4 - 4))) else (none))
end
def isochroneref01_Digits.f (k : Nat) (a0 : ByteArray) : Option (List Int) := isochroneref01_Digits.l0 k a0 (([] : List Int)) (a0.size : Int)
theorem isochroneref01_Digits.mono_l : ∀ k, (∀ y0 y1 y2, LeO (isochroneref01_Digits.l0 k y0 y1 y2) (isochroneref01_Digits.l0 (k + 1) y0 y1 y2)) ∧ (∀ y0 y1 y2 y3 y4, LeO (isochroneref01_Digits.l1 k y0 y1 y2 y3 y4) (isochroneref01_Digits.l1 (k + 1) y0 y1 y2 y3 y4))
 | 0 => ⟨fun _ _ _ r h => by simp [isochroneref01_Digits.l0] at h, fun _ _ _ _ _ r h => by simp [isochroneref01_Digits.l1] at h⟩
 | k + 1 => by
  obtain ⟨ih0, ih1⟩ := isochroneref01_Digits.mono_l k
  refine ⟨?_, ?_⟩
  ·intro y0 y1 y2
   unfold isochroneref01_Digits.l0
   repeat' first
   | (with_reducible first | exact ih0 _ _ _ | exact ih1 _ _ _ _ _ | exact isochroneref01_trim.mono _ _ | exact LeO.refl _ | exact LeO.none _ | refine LeO.ite ?_ ?_ | refine LeO.bind ?_ (fun _ => ?_))
   | exact ih0 _ _ _
   | exact ih1 _ _ _ _ _
   | exact isochroneref01_trim.mono _ _
   | exact LeO.none _
   | refine LeO.ite ?_ ?_
   | refine LeO.bind ?_ (fun _ => ?_)
  ·intro y0 y1 y2 y3 y4
   unfold isochroneref01_Digits.l1
   repeat' first
   | (with_reducible first | exact ih0 _ _ _ | exact ih1 _ _ _ _ _ | exact isochroneref01_trim.mono _ _ | exact LeO.refl _ | exact LeO.none _ | refine LeO.ite ?_ ?_ | refine LeO.bind ?_ (fun _ => ?_))
   | exact ih0 _ _ _
   | exact ih1 _ _ _ _ _
   | exact isochroneref01_trim.mono _ _
   | exact LeO.none _
   | refine LeO.ite ?_ ?_
   | refine LeO.bind ?_ (fun _ => ?_)
theorem isochroneref01_Digits.mono : ∀ a0 k, LeO (isochroneref01_Digits.f k a0) (isochroneref01_Digits.f (k + 1) a0) := by
 intro a0 k
 obtain ⟨ih0, ih1⟩ := isochroneref01_Digits.mono_l k
 unfold isochroneref01_Digits.f
 repeat' first
   | (with_reducible first | exact ih0 _ _ _ | exact ih1 _ _ _ _ _ | exact isochroneref01_trim.mono _ _ | exact LeO.refl _ | exact LeO.none _ | refine LeO.ite ?_ ?_ | refine LeO.bind ?_ (fun _ => ?_))
   | exact ih0 _ _ _
   | exact ih1 _ _ _ _ _
   | exact isochroneref01_trim.mono _ _
   | exact LeO.none _
   | refine LeO.ite ?_ ?_
   | refine LeO.bind ?_ (fun _ => ?_)
mutual
def isochroneref02_Parse.j0 : Nat → ByteArray → Bool → Bool → Option (Bool × List Int × List Int × Int)
 | 0, _, _, _ => none
 | k + 1, x0, x4, x16 => if x16 = true then (if 1 ≤ (x0.size : Int) then (isochroneref02_Parse.j1 k (x0.extract 1 x0.size) true) else (none)) else (isochroneref02_Parse.j1 k x0 x4)
def isochroneref02_Parse.j1 : Nat → ByteArray → Bool → Option (Bool × List Int × List Int × Int)
 | 0, _, _ => none
 | k + 1, x0, x4 => isochroneref02_Parse.l0 k x0 x4 (x0.size : Int) 0 (x0.size : Int) 0
def isochroneref02_Parse.j3 : Nat → ByteArray → Bool → Int → Int → Option (Bool × List Int × List Int × Int)
 | 0, _, _, _, _ => none
 | k + 1, x0, x4, x5, x6 => if 0 ≤ x5 then (if x5 ≤ (x0.size : Int) then ((isochroneref01_Decimal.f k (x0.extract 0 (x5 : Int).toNat)).bind fun t1474 => (if t1474 = true then (if x6 = 0 then (isochroneref02_Parse.j4 k x0 x4 x5 x6 false) else (if 0 ≤ (wrap64 (x5 + 1)) then (if (wrap64 (x5 + 1)) ≤ (x0.size : Int) then ((isochroneref01_Decimal.f k (x0.extract ((wrap64 (x5 + 1)) : Int).toNat x0.size)).bind fun t1475 => (isochroneref02_Parse.j4 k x0 x4 x5 x6 (!t1475))) else (none)) else (none))) else (isochroneref02_Parse.j4 k x0 x4 x5 x6 true))) else (none)) else (none)
def isochroneref02_Parse.j4 : Nat → ByteArray → Bool → Int → Int → Bool → Option (Bool × List Int × List Int × Int)
 | 0, _, _, _, _, _ => none
 | k + 1, x0, x4, x5, x6, x57 => if x57 = true then (some (false, ([] : List Int), ([] : List Int), 90)) else (if 0 ≤ x5 then (if x5 ≤ (x0.size : Int) then ((isochroneref01_Digits.f k (x0.extract 0 (x5 : Int).toNat)).bind fun t1476 => (if x6 = 47 then (if 0 ≤ (wrap64 (x5 + 1)) then (if (wrap64 (x5 + 1)) ≤ (x0.size : Int) then ((isochroneref01_Digits.f k (x0.extract ((wrap64 (x5 + 1)) : Int).toNat x0.size)).bind fun t1482 => (if (t1482.length : Int) = 0 then (some (false, ([] : List Int), ([] : List Int), 20)) else (isochroneref02_Parse.j5 k x0 x4 x5 x6 t1476 t1482))) else (none)) else (none)) else (isochroneref02_Parse.j5 k x0 x4 x5 x6 t1476 (([1] : List Int))))) else (none)) else (none))
def isochroneref02_Parse.j5 : Nat → ByteArray → Bool → Int → Int → List Int → List Int → Option (Bool × List Int × List Int × Int)
 | 0, _, _, _, _, _, _ => none
 | k + 1, x0, x4, x5, x6, x8, x9 => if x6 = 46 then (if 0 ≤ x5 then (if x5 ≤ (x0.size : Int) then (if 0 ≤ (wrap64 (x5 + 1)) then (if (wrap64 (x5 + 1)) ≤ (x0.size : Int) then (if (x0.extract 0 (x5 : Int).toNat).size + (x0.extract ((wrap64 (x5 + 1)) : Int).toNat x0.size).size ≤ 9223372036854775807 then ((isochroneref01_Digits.f k ((x0.extract 0 (x5 : Int).toNat) ++ (x0.extract ((wrap64 (x5 + 1)) : Int).toNat x0.size))).bind fun t1485 => ((isochroneref01_Pow.f k (([10] : List Int)) (wrap64 ((wrap64 ((x0.size : Int) - x5)) - 1))).bind fun t1491 => ((isochroneref02_Make.f k x4 t1485 t1491).bind fun bt1494 => (some (bt1494.1, bt1494.2.1, bt1494.2.2, 0))))) else (none)) else (none)) else (none)) else (none)) else (none)) else ((isochroneref02_Make.f k x4 x8 x9).bind fun bt1501 => (some (bt1501.1, bt1501.2.1, bt1501.2.2, 0)))
def isochroneref02_Parse.l0 : Nat → ByteArray → Bool → Int → Int → Int → Int → Option (Bool × List Int × List Int × Int)
 | 0, _, _, _, _, _, _ => none
 | k + 1, x0, x4, x5, x6, x22, x23 => if x23 < x22 then (if 0 ≤ x23 then (if x23 < (x0.size : Int) then (if (bt x0 x23) = 47 then (isochroneref02_Parse.j3 k x0 x4 x23 (bt x0 x23)) else (if (bt x0 x23) = 46 then (isochroneref02_Parse.j3 k x0 x4 x23 (bt x0 x23)) else (isochroneref02_Parse.l0 k x0 x4 x5 x6 x22 (wrap64 (x23 + 1))))) else (none)) else (none)) else (isochroneref02_Parse.j3 k x0 x4 x5 x6)
end
def isochroneref02_Parse.f (k : Nat) (a0 : ByteArray) : Option (Bool × List Int × List Int × Int) := if a0.toList = ([] : List UInt8) then (isochroneref02_Parse.j0 k a0 false false) else (if 0 < (a0.size : Int) then (isochroneref02_Parse.j0 k a0 false ((bt a0 0) == 45)) else (none))
theorem isochroneref02_Parse.mono_l : ∀ k, (∀ y0 y1 y2, LeO (isochroneref02_Parse.j0 k y0 y1 y2) (isochroneref02_Parse.j0 (k + 1) y0 y1 y2)) ∧ (∀ y0 y1, LeO (isochroneref02_Parse.j1 k y0 y1) (isochroneref02_Parse.j1 (k + 1) y0 y1)) ∧ (∀ y0 y1 y2 y3, LeO (isochroneref02_Parse.j3 k y0 y1 y2 y3) (isochroneref02_Parse.j3 (k + 1) y0 y1 y2 y3)) ∧ (∀ y0 y1 y2 y3 y4, LeO (isochroneref02_Parse.j4 k y0 y1 y2 y3 y4) (isochroneref02_Parse.j4 (k + 1) y0 y1 y2 y3 y4)) ∧ (∀ y0 y1 y2 y3 y4 y5, LeO (isochroneref02_Parse.j5 k y0 y1 y2 y3 y4 y5) (isochroneref02_Parse.j5 (k + 1) y0 y1 y2 y3 y4 y5)) ∧ (∀ y0 y1 y2 y3 y4 y5, LeO (isochroneref02_Parse.l0 k y0 y1 y2 y3 y4 y5) (isochroneref02_Parse.l0 (k + 1) y0 y1 y2 y3 y4 y5))
 | 0 => ⟨fun _ _ _ r h => by simp [isochroneref02_Parse.j0] at h, fun _ _ r h => by simp [isochroneref02_Parse.j1] at h, fun _ _ _ _ r h => by simp [isochroneref02_Parse.j3] at h, fun _ _ _ _ _ r h => by simp [isochroneref02_Parse.j4] at h, fun _ _ _ _ _ _ r h => by simp [isochroneref02_Parse.j5] at h, fun _ _ _ _ _ _ r h => by simp [isochroneref02_Parse.l0] at h⟩
 | k + 1 => by
  obtain ⟨ih0, ih1, ih2, ih3, ih4, ih5⟩ := isochroneref02_Parse.mono_l k
  refine ⟨?_, ?_, ?_, ?_, ?_, ?_⟩
  ·intro y0 y1 y2
   unfold isochroneref02_Parse.j0
   repeat' first
   | (with_reducible first | exact ih0 _ _ _ | exact ih1 _ _ | exact ih2 _ _ _ _ | exact ih3 _ _ _ _ _ | exact ih4 _ _ _ _ _ _ | exact ih5 _ _ _ _ _ _ | exact isochroneref01_Decimal.mono _ _ | exact isochroneref01_Digits.mono _ _ | exact isochroneref01_Pow.mono _ _ _ | exact isochroneref02_Make.mono _ _ _ _ | exact LeO.refl _ | exact LeO.none _ | refine LeO.ite ?_ ?_ | refine LeO.bind ?_ (fun _ => ?_))
   | exact ih0 _ _ _
   | exact ih1 _ _
   | exact ih2 _ _ _ _
   | exact ih3 _ _ _ _ _
   | exact ih4 _ _ _ _ _ _
   | exact ih5 _ _ _ _ _ _
   | exact isochroneref01_Decimal.mono _ _
   | exact isochroneref01_Digits.mono _ _
   | exact isochroneref01_Pow.mono _ _ _
   | exact isochroneref02_Make.mono _ _ _ _
   | exact LeO.none _
   | refine LeO.ite ?_ ?_
   | refine LeO.bind ?_ (fun _ => ?_)
  ·intro y0 y1
   unfold isochroneref02_Parse.j1
   repeat' first
   | (with_reducible first | exact ih0 _ _ _ | exact ih1 _ _ | exact ih2 _ _ _ _ | exact ih3 _ _ _ _ _ | exact ih4 _ _ _ _ _ _ | exact ih5 _ _ _ _ _ _ | exact isochroneref01_Decimal.mono _ _ | exact isochroneref01_Digits.mono _ _ | exact isochroneref01_Pow.mono _ _ _ | exact isochroneref02_Make.mono _ _ _ _ | exact LeO.refl _ | exact LeO.none _ | refine LeO.ite ?_ ?_ | refine LeO.bind ?_ (fun _ => ?_))
   | exact ih0 _ _ _
   | exact ih1 _ _
   | exact ih2 _ _ _ _
   | exact ih3 _ _ _ _ _
   | exact ih4 _ _ _ _ _ _
   | exact ih5 _ _ _ _ _ _
   | exact isochroneref01_Decimal.mono _ _
   | exact isochroneref01_Digits.mono _ _
   | exact isochroneref01_Pow.mono _ _ _
   | exact isochroneref02_Make.mono _ _ _ _
   | exact LeO.none _
   | refine LeO.ite ?_ ?_
   | refine LeO.bind ?_ (fun _ => ?_)
  ·intro y0 y1 y2 y3
   unfold isochroneref02_Parse.j3
   repeat' first
   | (with_reducible first | exact ih0 _ _ _ | exact ih1 _ _ | exact ih2 _ _ _ _ | exact ih3 _ _ _ _ _ | exact ih4 _ _ _ _ _ _ | exact ih5 _ _ _ _ _ _ | exact isochroneref01_Decimal.mono _ _ | exact isochroneref01_Digits.mono _ _ | exact isochroneref01_Pow.mono _ _ _ | exact isochroneref02_Make.mono _ _ _ _ | exact LeO.refl _ | exact LeO.none _ | refine LeO.ite ?_ ?_ | refine LeO.bind ?_ (fun _ => ?_))
   | exact ih0 _ _ _
   | exact ih1 _ _
   | exact ih2 _ _ _ _
   | exact ih3 _ _ _ _ _
   | exact ih4 _ _ _ _ _ _
   | exact ih5 _ _ _ _ _ _
   | exact isochroneref01_Decimal.mono _ _
   | exact isochroneref01_Digits.mono _ _
   | exact isochroneref01_Pow.mono _ _ _
   | exact isochroneref02_Make.mono _ _ _ _
   | exact LeO.none _
   | refine LeO.ite ?_ ?_
   | refine LeO.bind ?_ (fun _ => ?_)
  ·intro y0 y1 y2 y3 y4
   unfold isochroneref02_Parse.j4
   repeat' first
   | (with_reducible first | exact ih0 _ _ _ | exact ih1 _ _ | exact ih2 _ _ _ _ | exact ih3 _ _ _ _ _ | exact ih4 _ _ _ _ _ _ | exact ih5 _ _ _ _ _ _ | exact isochroneref01_Decimal.mono _ _ | exact isochroneref01_Digits.mono _ _ | exact isochroneref01_Pow.mono _ _ _ | exact isochroneref02_Make.mono _ _ _ _ | exact LeO.refl _ | exact LeO.none _ | refine LeO.ite ?_ ?_ | refine LeO.bind ?_ (fun _ => ?_))
   | exact ih0 _ _ _
   | exact ih1 _ _
   | exact ih2 _ _ _ _
   | exact ih3 _ _ _ _ _
   | exact ih4 _ _ _ _ _ _
   | exact ih5 _ _ _ _ _ _
   | exact isochroneref01_Decimal.mono _ _
   | exact isochroneref01_Digits.mono _ _
   | exact isochroneref01_Pow.mono _ _ _
   | exact isochroneref02_Make.mono _ _ _ _
   | exact LeO.none _
   | refine LeO.ite ?_ ?_
   | refine LeO.bind ?_ (fun _ => ?_)
  ·intro y0 y1 y2 y3 y4 y5
   unfold isochroneref02_Parse.j5
   repeat' first
   | (with_reducible first | exact ih0 _ _ _ | exact ih1 _ _ | exact ih2 _ _ _ _ | exact ih3 _ _ _ _ _ | exact ih4 _ _ _ _ _ _ | exact ih5 _ _ _ _ _ _ | exact isochroneref01_Decimal.mono _ _ | exact isochroneref01_Digits.mono _ _ | exact isochroneref01_Pow.mono _ _ _ | exact isochroneref02_Make.mono _ _ _ _ | exact LeO.refl _ | exact LeO.none _ | refine LeO.ite ?_ ?_ | refine LeO.bind ?_ (fun _ => ?_))
   | exact ih0 _ _ _
   | exact ih1 _ _
   | exact ih2 _ _ _ _
   | exact ih3 _ _ _ _ _
   | exact ih4 _ _ _ _ _ _
   | exact ih5 _ _ _ _ _ _
   | exact isochroneref01_Decimal.mono _ _
   | exact isochroneref01_Digits.mono _ _
   | exact isochroneref01_Pow.mono _ _ _
   | exact isochroneref02_Make.mono _ _ _ _
   | exact LeO.none _
   | refine LeO.ite ?_ ?_
   | refine LeO.bind ?_ (fun _ => ?_)
  ·intro y0 y1 y2 y3 y4 y5
   unfold isochroneref02_Parse.l0
   repeat' first
   | (with_reducible first | exact ih0 _ _ _ | exact ih1 _ _ | exact ih2 _ _ _ _ | exact ih3 _ _ _ _ _ | exact ih4 _ _ _ _ _ _ | exact ih5 _ _ _ _ _ _ | exact isochroneref01_Decimal.mono _ _ | exact isochroneref01_Digits.mono _ _ | exact isochroneref01_Pow.mono _ _ _ | exact isochroneref02_Make.mono _ _ _ _ | exact LeO.refl _ | exact LeO.none _ | refine LeO.ite ?_ ?_ | refine LeO.bind ?_ (fun _ => ?_))
   | exact ih0 _ _ _
   | exact ih1 _ _
   | exact ih2 _ _ _ _
   | exact ih3 _ _ _ _ _
   | exact ih4 _ _ _ _ _ _
   | exact ih5 _ _ _ _ _ _
   | exact isochroneref01_Decimal.mono _ _
   | exact isochroneref01_Digits.mono _ _
   | exact isochroneref01_Pow.mono _ _ _
   | exact isochroneref02_Make.mono _ _ _ _
   | exact LeO.none _
   | refine LeO.ite ?_ ?_
   | refine LeO.bind ?_ (fun _ => ?_)
theorem isochroneref02_Parse.mono : ∀ a0 k, LeO (isochroneref02_Parse.f k a0) (isochroneref02_Parse.f (k + 1) a0) := by
 intro a0 k
 obtain ⟨ih0, ih1, ih2, ih3, ih4, ih5⟩ := isochroneref02_Parse.mono_l k
 unfold isochroneref02_Parse.f
 repeat' first
   | (with_reducible first | exact ih0 _ _ _ | exact ih1 _ _ | exact ih2 _ _ _ _ | exact ih3 _ _ _ _ _ | exact ih4 _ _ _ _ _ _ | exact ih5 _ _ _ _ _ _ | exact isochroneref01_Decimal.mono _ _ | exact isochroneref01_Digits.mono _ _ | exact isochroneref01_Pow.mono _ _ _ | exact isochroneref02_Make.mono _ _ _ _ | exact LeO.refl _ | exact LeO.none _ | refine LeO.ite ?_ ?_ | refine LeO.bind ?_ (fun _ => ?_))
   | exact ih0 _ _ _
   | exact ih1 _ _
   | exact ih2 _ _ _ _
   | exact ih3 _ _ _ _ _
   | exact ih4 _ _ _ _ _ _
   | exact ih5 _ _ _ _ _ _
   | exact isochroneref01_Decimal.mono _ _
   | exact isochroneref01_Digits.mono _ _
   | exact isochroneref01_Pow.mono _ _ _
   | exact isochroneref02_Make.mono _ _ _ _
   | exact LeO.none _
   | refine LeO.ite ?_ ?_
   | refine LeO.bind ?_ (fun _ => ?_)
end Go.Proofs.Ytfpolhoabfadnaa.P
end
