/- An evaluator of the program's code, what its functions come to, and what they mean: text 3. No condition. -/
import Derived.Scope
import Derived.ChangeArms
import Derived.WideShapes
import Derived.KernelRfl
import Derived.Test.YtjimdhlmeebjeaaGreatProg
import Derived.Below
import Derived.Deep.Draws
import Derived.Deep.AppendLies
import Derived.Maps.AppendAt
import Derived.OwnWalk
import Derived.Laws.BytesArg
import Derived.Laws.MakeOwn
import Derived.Laws.OwnMore
import Derived.Deep.OwnRows
import Derived.Tactics
import Derived.Lib.ConvBytes
import Derived.Laws.Slices
import Derived.WalkKit
import Derived.RowKit3
import Derived.Deep.LoopGhost
import Derived.Deep.QuietTactic
import Derived.BigQuiet
import Derived.WideLaws
import Derived.Deep.DeepCutAuto
import Derived.Deep.CutBlock
import Derived.Deep.RegionHeld3
import Derived.Laws.Rows
import Derived.Lib.AppendStr
import Derived.ArgAppend
import Derived.Laws.IdiomCopy
import Derived.OrdersHeld
import Derived.Laws.BitsLemmas
import Derived.RowKit
import Derived.Test.YtjimdhlmeebjeaaGreatWitnesses2
set_option linter.unusedSimpArgs false
set_option linter.unusedSectionVars false
section
namespace Go.Proofs.YtjimdhlmeebjeaaGreat.E
open Go.RowKit Go.Proofs.YtjimdhlmeebjeaaGreatW.PrintWords Go.Proofs.YtjimdhlmeebjeaaGreatW.PrintMore Go.Proofs.YtjimdhlmeebjeaaGreat.V
set_option linter.unusedVariables false
structure Sub (S : ES) (W : St) : Prop where
  env : ∀ t v p, find S.env t = some v → v.pv = some p → W.env t = some p
  rows : ∀ k, W.rows k = (find S.rows k).map ERow.row
theorem sub_st (S : ES) : Sub S S.st := ⟨fun t v p h h' => by simp only [ES.st, h, Option.bind_some, h'], fun k => rfl⟩
section
variable {T : Tab} {X : Ctx} {S : ES} {W W' : St} {o : Oper} {ops : List Oper} {lim : Option (List Meta)} {i : Nat} {l : List Oper} {q : St → Prop}
theorem rdL_some {t : Nat} {v : Val} (h : rdL lim i S t = some v) : find S.env t = some v := by
  cases lim with
  | none => exact h
  | some ms =>
    cases hm : ms[i]? with
    | none => simp only [rdL, hm] at h; cases h
    | some m =>
      simp only [rdL, hm] at h
      split at h
      · split at h
        · rename_i v' hv
          split at h
          · cases h; exact hv
          · cases h
        · cases h
      · cases h
theorem rrL_some {k : Nat} {x : Option ERow} (h : rrL lim i S k = some x) : ∃ rf, x = (find S.rows k).map (blurR rf) := by
  cases lim with
  | none =>
    cases h
    refine ⟨none, ?_⟩
    cases find S.rows k <;> rfl
  | some ms =>
    cases hm : ms[i]? with
    | none => simp only [rrL, hm] at h; cases h
    | some m =>
      cases hb : mem m.rr k with
      | true => simp only [rrL, hm, hb] at h; cases h; exact ⟨m.rf, rfl⟩
      | false => simp only [rrL, hm, hb] at h; cases h
def blurC (l : List Nat) : CV → CV
  | .own k => match mem l k with
    | true => .own k
    | false => .any
  | c => c
theorem map_noref {m : CV → CV} (hm : ∀ c, shutC c = true → m c = c) {cs : List CV} (h : cs.all shutC = true) : cs.map m = cs := by
  conv => rhs; rw [← List.map_id cs]
  exact List.map_congr_left (fun c hc => hm c (List.all_eq_true.1 h c hc))
theorem blurF_enc (l : List Nat) (f : Fld) : (blurF l f).enc = f.enc.map (blurC l) := by
  cases f with
  | v t x => exact (map_noref (fun c hc => by cases c <;> first | rfl | cases hc) (enc_shut t x)).symm
  | own k =>
    simp only [blurF, Fld.enc, List.map_cons, List.map_nil, blurC]
    cases mem l k <;> rfl
  | hole => rfl
theorem blurF_sz (l : List Nat) (f : Fld) : (blurF l f).sz = f.sz := by
  cases f with
  | v t x => rfl
  | own k => simp only [blurF]; cases mem l k <;> rfl
  | hole => rfl
theorem blurC_le (l : List Nat) (c : CV) : cellLe (blurC l c) c := by
  cases c with
  | own k =>
    simp only [blurC]
    cases mem l k with
    | true => exact cellLe_refl _
    | false => exact .inr ⟨k, rfl⟩
  | _ => exact cellLe_refl _
theorem blur_le (rf : Option (List Nat)) (r : ERow) : RowLe (blurR rf r).row r.row := by
  cases rf with
  | none => exact .refl _
  | some l =>
    cases r with
    | obox e fs =>
      refine ⟨rfl, ?_, rfl, ?_, fun i h1 h2 => ?_⟩
      · exact (mapF_sz (blurF_sz l) fs).symm
      · show (fenc fs).length = (fenc (mapF (blurF l) fs)).length
        rw [fenc_len, fenc_len, mapF_sz (blurF_sz l) fs]
      · have e1 : fenc (mapF (blurF l) fs) = (fenc fs).map (blurC l) := mapF_enc (blurF_enc l) fs
        have h1' : i < (fenc (mapF (blurF l) fs)).length := h1
        show cellLe ((fenc (mapF (blurF l) fs))[i]'h1') ((fenc fs)[i]'h2)
        simp only [e1, List.getElem_map]
        exact blurC_le l _
    | _ => exact .refl _
theorem rowAg_blur (rf : Option (List Nat)) (q : Option ERow) : rowAg (q.map ERow.row) (q.map (blurR rf)) := by
  cases q with
  | none => rfl
  | some r =>
    have h := blur_le rf r
    cases r with
    | obox e fs =>
      cases rf with
      | none => exact ⟨_, rfl, .refl _⟩
      | some l => exact ⟨_, rfl, h⟩
    | arr e t l => cases rf <;> exact rfl
    | box e t x => cases rf <;> exact rfl
theorem Sub.agree (h : Sub S W) : Agree W (rdL lim i S) (rrL lim i S) := ⟨fun t v p h1 h2 => h.env t v p (rdL_some h1) h2, fun k x h1 => by
  obtain ⟨rf, rfl⟩ := rrL_some h1
  rw [h.rows k]
  exact rowAg_blur rf _⟩
theorem Sub.put {d : Nat} {v : Val} (h : Sub S W) : Sub (S.put d v) (putO W (some d) v) := by
  refine ⟨fun t u p h1 h2 => ?_, fun k => ?_⟩
  · simp only [ES.put, find] at h1
    split at h1
    · rename_i hb
      cases h1
      have := beq_true hb
      subst this
      simp only [putO, h2, V.put]
      rw [if_pos trivial]
    · rename_i hb
      have := beq_false hb
      have h3 := h.env t u p h1 h2
      cases hv : v.pv with
      | some p' => simp only [putO, hv, V.put]; rw [if_neg this]; exact h3
      | none => simp only [putO, hv, V.drop]; rw [if_neg this]; exact h3
  · have : (putO W (some d) v).rows = W.rows := by cases hv : v.pv <;> simp only [putO, hv] <;> rfl
    rw [this]
    exact h.rows k
theorem Sub.set {k : Nat} {r : ERow} (h : Sub S W) : Sub (S.set k r) (setRow W k r.row) := by
  refine ⟨fun t u p h1 h2 => h.env t u p h1 h2, fun j => ?_⟩
  simp only [setRow, ES.set, find]
  by_cases c : j = k
  · subst c
    rw [if_pos rfl, Nat.beq_refl]
    rfl
  · rw [if_neg c]
    have : Nat.beq j k = false := by
      cases hb : Nat.beq j k with
      | false => rfl
      | true => exact absurd (beq_true hb) c
    rw [this]
    exact h.rows j
theorem Sub.res {d : Option Nat} {v : Val} {r : Option (Nat × ERow)} (h : Sub S W) : Sub (S.res d v r) (putO (setO W r) d v) := by
  have h1 : Sub (match r with | some x => S.set x.1 x.2 | none => S) (setO W r) := by
    cases r with
    | none => exact h
    | some x => exact h.set
  unfold ES.res
  cases d with
  | none => exact h1
  | some d => exact h1.put
theorem rel_sub (h : Sub S W) : ∀ a w, Rel X W a w → Rel X S.st a w := by
  intro a w hr
  have e : W.rows = S.st.rows := funext h.rows
  refine hr.less (fun t p h1 => ?_) (fun k r h1 => by rw [e]; exact h1) (fun t p _ w F L v hv => by rw [e] at hv; exact hv) (fun j r h1 => .inl ⟨r, by rw [← e]; exact h1⟩)
  simp only [ES.st] at h1
  obtain ⟨v, h2, h3⟩ := Option.bind_eq_some_iff.1 h1
  exact h.env t v p h2 h3
def DrS (P : Program) (X : Ctx) (ops : Array Oper) (ms : List Meta) : Nat → List Oper → St → (St → Prop) → Prop
  | _, [], W, q => q W
  | i, o :: l, W, q => ∃ m s, ms[i]? = some m ∧ keysIn s m = true ∧ KeysIn s m ∧ s.fits W ∧ (∀ S0, s.fits S0 → StepOK P X ops i S0 (s.go S0)) ∧ DrS P X ops ms (i + 1) l (s.go W) q
def GT (ops : List Oper) (o : Oper) (W : St) : Prop := o.guard = none ∨ ∃ j w oj t, o.guard = some (j, w) ∧ ops[j]? = some oj ∧ oj.dst = some t ∧ W.env t = some (.bool w)
def GF (ops : List Oper) (o : Oper) (W : St) : Prop := ∃ j w oj t, o.guard = some (j, w) ∧ ops[j]? = some oj ∧ oj.dst = some t ∧ (W.env t = some (.bool (!w)) ∨ W.env t = some (.cv (.lit undef)))
inductive PlS (P : Program) (X : Ctx) (ops : List Oper) : List Oper → St → (St → Prop) → Prop where
  | nil {W : St} {q : St → Prop} (h : q W) : PlS P X ops [] W q
  | step {o : Oper} {l : List Oper} {W W' : St} {q : St → Prop} (hg : GT ops o W) (h : OpTo P X o W W') (hd : inb X o.dst) (hl : PlS P X ops l W' q) : PlS P X ops (o :: l) W q
  | skip {o : Oper} {l : List Oper} {W : St} {q : St → Prop} (hg : GF ops o W) (hd : inb X o.dst) (hl : PlS P X ops l (put W o.dst (.cv (.lit undef))) q) : PlS P X ops (o :: l) W q
  | weak {l : List Oper} {W W' : St} {q : St → Prop} (h : ∀ a w, Rel X W a w → Rel X W' a w) (hl : PlS P X ops l W' q) : PlS P X ops l W q
theorem pls_app {P : Program} {l l' : List Oper} {W : St} {q : St → Prop} (h : PlS P X ops l W (fun W' => PlS P X ops l' W' q)) : PlS P X ops (l ++ l') W q := by
  generalize hq : (fun W' => PlS P X ops l' W' q) = q' at h
  induction h with
  | nil h => subst hq; exact h
  | step hg h hd hl ih => exact .step hg h hd (ih hq)
  | skip hg hd hl ih => exact .skip hg hd (ih hq)
  | weak h hl ih => exact .weak h (ih hq)
theorem pls_sim {P : Program} {l : List Oper} {W : St} {q : St → Prop} (h : PlS P X ops l W q) : SimOps P X ops.toArray l W q := by
  induction h with
  | nil h => exact sim_ops_nil h
  | step hg h hd hl ih =>
    rcases hg with hg | ⟨j, w, oj, t, h1, h2, h3, h4⟩
    · exact sim_ops_cons hg h ih
    · exact sim_ops_guard h1 (by simpa using h2) h3 h4 hd (fun _ => ⟨h, ih⟩) (fun h => absurd rfl h)
  | skip hg hd hl ih =>
    obtain ⟨j, w, oj, t, h1, h2, h3, h4⟩ := hg
    rcases h4 with h4 | h4
    · rename_i o l W q
      exact sim_ops_guard (S' := W) h1 (by simpa using h2) h3 h4 hd (fun h => by cases w <;> cases h) (fun _ => ih)
    · exact sim_ops_unmade h1 (by simpa using h2) h3 h4 hd ih
  | weak h hl ih => exact fun a w r => ih a w (h a w r)
def Wk (P : Program) (X : Ctx) (ops : List Oper) (lim : Option (List Meta)) (i : Nat) (l : List Oper) (W : St) (q : St → Prop) : Prop := match lim with
  | none => PlS P X ops l W q
  | some ms => DrS P X ops.toArray ms i l W q
theorem wk_nil {P : Program} (h : q W) : Wk P X ops lim i [] W q := by
  cases lim with
  | none => exact .nil h
  | some ms => exact h
theorem drs_app {P : Program} {ops : Array Oper} {ms : List Meta} : ∀ (l l' : List Oper) (i : Nat) (W : St), DrS P X ops ms i l W (fun W' => DrS P X ops ms (i + l.length) l' W' q) → DrS P X ops ms i (l ++ l') W q
  | [], l', i, W, h => h
  | o :: l, l', i, W, ⟨m, s, h1, h2, h2', h3, h4, h5⟩ => ⟨m, s, h1, h2, h2', h3, h4, drs_app l l' (i + 1) _ (by
      have e : i + (o :: l).length = i + 1 + l.length := by simp; omega
      rw [e] at h5
      exact h5)⟩
theorem wk_app {P : Program} {l' : List Oper} (h : Wk P X ops lim i l W (fun W' => Wk P X ops lim (i + l.length) l' W' q)) : Wk P X ops lim i (l ++ l') W q := by
  cases lim with
  | none => exact pls_app h
  | some ms => exact drs_app l l' i W h
theorem drs_dr {P : Program} {ms : List Meta} (hlen : ms.length = ops.length) : ∀ (l : List Oper) (i : Nat) (W : St), i + l.length = ops.length → DrS P X ops.toArray ms i l W q → DrOps P X ops.toArray i (ms.drop i) W q
  | [], i, W, hi, h => by
    rw [List.drop_eq_nil_of_le (by simp at hi; omega)]
    exact ⟨by simpa using hi, h⟩
  | o :: l, i, W, hi, ⟨m, s, h1, h2, h2', h3, h4, h5⟩ => by
    simp only [List.length_cons] at hi
    obtain ⟨hlt, rfl⟩ := List.getElem?_eq_some_iff.1 h1
    rw [List.drop_eq_getElem_cons hlt]
    exact ⟨s, h2, h2', h3, h4, drs_dr hlen l (i + 1) _ (by omega) h5⟩
def MetaAt (ops : List Oper) (lim : Option (List Meta)) (i : Nat) (o : Oper) : Prop := match lim with
  | none => True
  | some ms => ∃ m, ms[i]? = some m ∧ (∀ j w, o.guard = some (j, w) → ∀ t, (ops[j]?).bind (·.dst) = some t → t ∈ m.rt) ∧ (∀ d, o.dst = some d → d ∈ m.wt) ∧ (m.kl = none ∨ (o.guard = none ∧ ∃ t, growsT o = some t))
theorem metas_at : ∀ (l : List Oper) (ms : List Meta), metasOk ops l ms = true → l.length = ms.length ∧ ∀ i o, l[i]? = some o → MetaAt ops (some ms) i o
  | [], [], h => ⟨rfl, fun i o h => by simp at h⟩
  | o :: l, m :: ms, h => by
    simp only [metasOk, Bool.and_eq_true] at h
    obtain ⟨⟨⟨h1, h2⟩, h2'⟩, h3⟩ := h
    obtain ⟨g1, g2⟩ := metas_at l ms h3
    refine ⟨by simp [g1], fun i o' hi => ?_⟩
    cases i with
    | zero =>
      cases hi
      refine ⟨m, rfl, fun j w hg t ht => ?_, fun d hd => ?_, ?_⟩
      · simp only [hg, ht] at h1
        exact mem_iff.1 h1
      · simp only [hd] at h2
        exact mem_iff.1 h2
      · cases hk : m.kl with
        | none => exact .inl rfl
        | some k =>
          simp only [hk] at h2'
          split at h2'
          · rename_i t hg hgd
            exact .inr ⟨hgd, t, hg⟩
          · cases h2'
    | succ i =>
      obtain ⟨m', k1, k2⟩ := g2 i o' (by simpa using hi)
      exact ⟨m', by simpa using k1, k2⟩
  | [], _ :: _, h => by cases h
  | _ :: _, [], h => by cases h
theorem putO_upd (W : St) (d : Option Nat) (v : Val) (r : Option (Nat × ERow)) : upd (d.toList.map fun d => (d, v.pv)) (r.toList.map fun x => (x.1, some x.2.row)) W = putO (setO W r) d v := by
  have e1 : ∀ W : St, upd [] (r.toList.map fun x => (x.1, some x.2.row)) W = setO W r := by
    intro W
    cases r <;> rfl
  rw [← e1]
  cases d with
  | none => rfl
  | some d => cases hv : v.pv <;> simp only [putO, hv] <;> rfl
theorem fits_map {α : Type} (e : Nat → α) : ∀ l : List Nat, fitsF (l.map fun t => (t, e t)) e
  | [] => trivial
  | t :: l => ⟨rfl, fits_map e l⟩
theorem sub_map {α : Type} (e : Nat → α) (l : List Nat) : subK (l.map fun t => (t, e t)) l = true := by
  simp only [subK, List.all_eq_true, List.mem_map]
  rintro x ⟨t, ht, rfl⟩
  simpa using ht
theorem fitsF_mem {α : Type} {e : Nat → α} : ∀ {l : List (Nat × α)}, fitsF l e ↔ ∀ x ∈ l, e x.1 = x.2
  | [] => by simp [fitsF]
  | x :: l => by simp [fitsF, fitsF_mem (l := l)]
theorem subK_mem {α : Type} {l : List (Nat × α)} {m : List Nat} (h : ∀ x ∈ l, x.1 ∈ m) : subK l m = true := by
  simp only [subK, List.all_eq_true]
  exact fun x hx => by simpa using h x hx
theorem vis_uses {l : List Nat} {v : Val} {p : PV} (h : visV l v = true) (hp : v.pv = some p) (k : Nat) (hu : uses k p = true) : k ∈ l := by
  cases v with
  | v t x => cases hp; rw [uses_pv] at hu; cases hu
  | tup t x => cases h
  | nilS => cases hp; cases hu
  | undef => cases hp; cases hu
  | any => cases hp
  | own j => cases hp; simp only [uses, beq_iff_eq] at hu; subst hu; exact mem_iff.1 h
  | po j off q => cases hp; simp only [uses, beq_iff_eq] at hu; subst hu; exact mem_iff.1 h
  | pe j i sz off q => cases hp; simp only [uses, beq_iff_eq] at hu; subst hu; exact mem_iff.1 h
  | pr t x => cases hp; cases hu
  | st fs =>
    cases hp
    simp only [visV, List.all_eq_true] at h
    exact mem_iff.1 (h k ((ownsF_refs fs k).1 hu))
theorem row_owns {l : List Nat} {r : ERow} (h : rowVis (some l) r = true) : ownsC r.row.data l := by
  intro k hk
  cases r with
  | arr e t x => rw [show (ERow.arr e t x).row.data = x.flatMap t.enc from rfl, shut_noref (flat_shut x)] at hk; cases hk
  | box e t x => rw [show (ERow.box e t x).row.data = t.enc x from rfl, enc_noref] at hk; cases hk
  | obox e fs =>
    simp only [rowVis, List.all_eq_true] at h
    exact mem_iff.1 (h k ((ownsF_refs fs k).1 hk))
theorem blur_owns (l : List Nat) (r : ERow) : ownsC (blurR (some l) r).row.data l := by
  intro k hk
  cases r with
  | arr e t x => rw [show (blurR (some l) (ERow.arr e t x)).row.data = x.flatMap t.enc from rfl, shut_noref (flat_shut x)] at hk; cases hk
  | box e t x => rw [show (blurR (some l) (ERow.box e t x)).row.data = t.enc x from rfl, enc_noref] at hk; cases hk
  | obox e fs =>
    have h2 := (ownsF_refs (mapF (blurF l) fs) k).1 hk
    have key : ∀ fs : List Fld, k ∈ ownsF (mapF (blurF l) fs) → k ∈ l := by
      intro fs
      induction fs with
      | nil => intro h; cases h
      | cons f fs ih =>
        intro h
        cases f with
        | v t x => exact ih h
        | hole => exact ih h
        | own j =>
          simp only [mapF, blurF] at h
          cases hb : mem l j with
          | true =>
            simp only [hb, ownsF, List.mem_cons] at h
            rcases h with h | h
            · rw [h]; exact mem_iff.1 hb
            · exact ih h
          | false => simp only [hb, ownsF] at h; exact ih h
    exact key fs h2
theorem le_exact {d d' : Row} (h : RowLe d d') (hc : ∀ c ∈ d.data, c ≠ .any) : d' = d := by
  have e1 : d'.data = d.data := by
    apply List.ext_getElem h.len
    intro i h1 h2
    exact cellLe_eq (h.le i h2 h1) (hc _ (List.getElem_mem h2))
  cases d
  cases d'
  obtain ⟨e, sz, n, len, le⟩ := h
  cases e
  cases sz
  cases n
  cases e1
  rfl
theorem row_noany {r : ERow} (h : ∀ e fs, r ≠ .obox e fs) : ∀ c ∈ r.row.data, c ≠ .any := by
  cases r with
  | arr e t l =>
    intro c hc
    obtain ⟨x, _, hx⟩ := List.mem_flatMap.1 (show c ∈ l.flatMap t.enc from hc)
    exact enc_noany t x c hx
  | box e t x => exact enc_noany t x
  | obox e fs => exact absurd rfl (h e fs)
theorem reads {ms : List Meta} {m : Meta} {l : List Nat} (h1 : ms[i]? = some m) (hrf : m.rf = some l) (hs : Sub S W) (g : List (Nat × Option PV)) (hg : ∀ x ∈ g, x.1 ∈ m.rt ∧ ∃ p, x.2 = some p ∧ (∀ k, uses k p = false) ∧ W.env x.1 = some p) :
    ∃ (rT : List (Nat × Option PV)) (rR : List (Nat × Option Row)) (rS : List (Nat × Row)), subK rT m.rt = true ∧ subK rR m.rr = true ∧ (∀ x ∈ rS, x.1 ∈ m.rr) ∧ (∀ x ∈ rT, ∃ p, x.2 = some p ∧ ∀ k, uses k p = true → k ∈ l) ∧ (∀ x ∈ rR, Nat.ble opened x.1 = true → x.2 = none) ∧ (∀ x ∈ rS, ownsC x.2.data l) ∧
      fitsF rT W.env ∧ fitsF rR W.rows ∧ (∀ x ∈ rS, ∃ d, W.rows x.1 = some d ∧ RowLe x.2 d) ∧
      ∀ S0 : St, fitsF rT S0.env → fitsF rR S0.rows → (∀ x ∈ rS, ∃ d, S0.rows x.1 = some d ∧ RowLe x.2 d) → Agree S0 (rdL (some ms) i S) (rrL (some ms) i S) ∧ ∀ x ∈ g, S0.env x.1 = x.2 := by
  refine ⟨g ++ m.rt.filterMap (fun t => ((rdL (some ms) i S t).bind Val.pv).map fun p => (t, some p)), m.rr.filterMap (fun k => match Nat.ble opened k && (find S.rows k).isSome with | true => none | false => some (k, W.rows k)), m.rr.filterMap (fun k => match Nat.ble opened k with | true => (find S.rows k).map fun r => (k, (blurR (some l) r).row) | false => none), ?_, ?_, ?_, ?_, ?_, ?_, ?_, ?_, ?_, ?_⟩
  · refine subK_mem (fun x hx => ?_)
    rcases List.mem_append.1 hx with hx | hx
    · exact (hg x hx).1
    · obtain ⟨t, ht, h2⟩ := List.mem_filterMap.1 hx
      obtain ⟨p, _, rfl⟩ := Option.map_eq_some_iff.1 h2
      exact ht
  · refine subK_mem (fun x hx => ?_)
    obtain ⟨k, hk, h2⟩ := List.mem_filterMap.1 hx
    split at h2
    · cases h2
    · cases h2; exact hk
  · intro x hx
    obtain ⟨k, hk, h2⟩ := List.mem_filterMap.1 hx
    split at h2
    · obtain ⟨r, _, rfl⟩ := Option.map_eq_some_iff.1 h2
      exact hk
    · cases h2
  · intro x hx
    rcases List.mem_append.1 hx with hx | hx
    · obtain ⟨_, p, h2, h3, _⟩ := hg x hx
      exact ⟨p, h2, fun k hk => by rw [h3 k] at hk; cases hk⟩
    · obtain ⟨t, ht, h2⟩ := List.mem_filterMap.1 hx
      obtain ⟨p, h3, rfl⟩ := Option.map_eq_some_iff.1 h2
      obtain ⟨v, h4, h5⟩ := Option.bind_eq_some_iff.1 h3
      refine ⟨p, rfl, fun k hk => ?_⟩
      have hv : visV l v = true := by
        simp only [rdL, h1] at h4
        split at h4
        · split at h4
          · rename_i v' hv'
            split at h4
            · rename_i hvis
              cases h4
              rw [hrf] at hvis
              exact hvis
            · cases h4
          · cases h4
        · cases h4
      exact vis_uses hv h5 k hk
  · intro x hx ho
    obtain ⟨k, hk, h2⟩ := List.mem_filterMap.1 hx
    split at h2
    · cases h2
    · rename_i hb
      cases h2
      rw [ho, Bool.true_and] at hb
      show W.rows k = none
      rw [hs.rows]
      cases hf : find S.rows k with
      | none => rfl
      | some r => rw [hf] at hb; cases hb
  · intro x hx
    obtain ⟨k, hk, h2⟩ := List.mem_filterMap.1 hx
    split at h2
    · obtain ⟨r, _, rfl⟩ := Option.map_eq_some_iff.1 h2
      exact blur_owns l r
    · cases h2
  · refine fitsF_mem.2 (fun x hx => ?_)
    rcases List.mem_append.1 hx with hx | hx
    · obtain ⟨_, p, h2, _, h4⟩ := hg x hx
      rw [h2]; exact h4
    · obtain ⟨t, ht, h2⟩ := List.mem_filterMap.1 hx
      obtain ⟨p, h3, rfl⟩ := Option.map_eq_some_iff.1 h2
      obtain ⟨v, h4, h5⟩ := Option.bind_eq_some_iff.1 h3
      exact hs.env t v p (rdL_some h4) h5
  · refine fitsF_mem.2 (fun x hx => ?_)
    obtain ⟨k, hk, h2⟩ := List.mem_filterMap.1 hx
    split at h2
    · cases h2
    · cases h2; rfl
  · intro x hx
    obtain ⟨k, hk, h2⟩ := List.mem_filterMap.1 hx
    split at h2
    · obtain ⟨r, hr, rfl⟩ := Option.map_eq_some_iff.1 h2
      exact ⟨r.row, by rw [hs.rows, hr]; rfl, blur_le (some l) r⟩
    · cases h2
  · intro S0 f1 f2 f3
    have f1 := fitsF_mem.1 f1
    have f2 := fitsF_mem.1 f2
    refine ⟨⟨fun t v p hv hp => ?_, fun k x hx => ?_⟩, fun x hx => f1 x (List.mem_append_left _ hx)⟩
    · have hmem : t ∈ m.rt := by
        simp only [rdL, h1] at hv
        split at hv
        · rename_i hb; exact mem_iff.1 hb
        · cases hv
      exact f1 (t, some p) (List.mem_append_right _ (List.mem_filterMap.2 ⟨t, hmem, by rw [hv]; simp only [Option.bind_some, hp, Option.map_some]⟩))
    · have hmem : k ∈ m.rr := by
        simp only [rrL, h1] at hx
        split at hx
        · rename_i hb; exact mem_iff.1 hb
        · cases hx
      have hx' : x = (find S.rows k).map (blurR (some l)) := by
        simp only [rrL, h1, hrf] at hx
        split at hx
        · cases hx; rfl
        · cases hx
      subst hx'
      cases hf : find S.rows k with
      | none =>
        have := f2 (k, W.rows k) (List.mem_filterMap.2 ⟨k, hmem, by rw [hf]; simp only [Option.isSome_none, Bool.and_false]⟩)
        show S0.rows k = none
        rw [show S0.rows k = W.rows k from this, hs.rows, hf]
        rfl
      | some r =>
        cases ho : Nat.ble opened k with
        | true =>
          obtain ⟨d, g1, g2⟩ := f3 (k, (blurR (some l) r).row) (List.mem_filterMap.2 ⟨k, hmem, by rw [ho, hf]; rfl⟩)
          have g1 : S0.rows k = some d := g1
          rw [g1]
          cases r with
          | obox e fs => exact ⟨d, rfl, g2⟩
          | arr e t x => exact congrArg some (le_exact g2 (row_noany (r := .arr e t x) (fun _ _ h => by cases h)))
          | box e t x => exact congrArg some (le_exact g2 (row_noany (r := .box e t x) (fun _ _ h => by cases h)))
        | false =>
          have := f2 (k, W.rows k) (List.mem_filterMap.2 ⟨k, hmem, by rw [ho]; rfl⟩)
          rw [show S0.rows k = W.rows k from this, hs.rows, hf]
          exact rowAg_blur (some l) (some r)
theorem wk_step {P : Program} {v : Val} {r : Option (Nat × ERow)} (hi : ops[i]? = some o) (hm : MetaAt ops lim i o) (hs : Sub S W) (hg : GT ops o W) (hd : inb X o.dst) (hr : rowOk lim none i r = true) (hv : valOk lim i v = true)
    (h : ∀ W0, Agree W0 (rdL lim i S) (rrL lim i S) → OpTo P X o W0 (putO (setO W0 r) o.dst v)) (hl : Wk P X ops lim (i + 1) l (putO (setO W r) o.dst v) q) : Wk P X ops lim i (o :: l) W q := by
  cases lim with
  | none => exact .step hg (h W hs.agree) hd hl
  | some ms =>
    obtain ⟨m, h1, h2, h3, _⟩ := hm
    simp only [valOk, h1] at hv
    split at hv
    case h_2 => cases hv
    rename_i hkl
    have kW : subK (o.dst.toList.map fun d => (d, v.pv)) m.wt = true := by
      cases hdd : o.dst with
      | none => rfl
      | some d => simpa [subK] using h3 d hdd
    have kR : subK (r.toList.map fun x => (x.1, some x.2.row)) m.wr = true ∧ ∀ x, r = some x → rowVis m.rf x.2 = true := by
      cases r with
      | none => exact ⟨rfl, fun x h => by cases h⟩
      | some x =>
        simp only [rowOk, h1, Bool.and_eq_true] at hr
        exact ⟨by simpa [subK] using mem_iff.1 hr.1, fun y hy => by cases hy; exact hr.2⟩
    cases hrf : m.rf with
    | none =>
      refine ⟨m, ⟨m.rt.map fun t => (t, W.env t), m.rr.map fun k => (k, W.rows k), o.dst.toList.map fun d => (d, v.pv), r.toList.map fun x => (x.1, some x.2.row), [], none⟩, h1, ?_, ⟨hkl.symm, (fun x hx => by cases hx), (fun l hl => by rw [hrf] at hl; cases hl)⟩, ⟨fits_map _ _, fits_map _ _, (fun x hx => by cases hx)⟩, fun S0 hf => ?_, ?_⟩
      · simp only [keysIn, sub_map, Bool.true_and, Bool.and_eq_true]
        exact ⟨kW, kR.1⟩
      · have f1 := fitsF_mem.1 hf.rT
        have f2 := fitsF_mem.1 hf.rR
        have e1 : ∀ t ∈ m.rt, S0.env t = W.env t := fun t ht => f1 (t, W.env t) (List.mem_map.2 ⟨t, ht, rfl⟩)
        have e2 : ∀ k ∈ m.rr, S0.rows k = W.rows k := fun k hk => f2 (k, W.rows k) (List.mem_map.2 ⟨k, hk, rfl⟩)
        have hA : Agree S0 (rdL (some ms) i S) (rrL (some ms) i S) := by
          refine ⟨fun t u p g1 g2 => ?_, fun k x g1 => ?_⟩
          · have hmem : t ∈ m.rt := by
              simp only [rdL, h1] at g1
              split at g1
              · rename_i hb; exact mem_iff.1 hb
              · cases g1
            rw [e1 t hmem]
            exact hs.env t u p (rdL_some g1) g2
          · have hmem : k ∈ m.rr := by
              simp only [rrL, h1] at g1
              split at g1
              · rename_i hb; exact mem_iff.1 hb
              · cases g1
            obtain ⟨rf, rfl⟩ := rrL_some g1
            rw [e2 k hmem, hs.rows]
            exact rowAg_blur rf _
        have hop := h S0 hA
        have e : putO (setO S0 r) o.dst v = Stp.go ⟨m.rt.map fun t => (t, W.env t), m.rr.map fun k => (k, W.rows k), o.dst.toList.map fun d => (d, v.pv), r.toList.map fun x => (x.1, some x.2.row), [], none⟩ S0 := (putO_upd _ _ _ _).symm
        rcases hg with hg | ⟨j, w, oj, t, g1, g2, g3, g4⟩
        · exact stepOK_plain (by simpa using hi) hg hop e
        · have hmem : t ∈ m.rt := h2 j w g1 t (by rw [g2]; exact g3)
          exact stepOK_true (by simpa using hi) g1 (by simpa using g2) g3 (b' := w) (by rw [e1 t hmem]; exact g4) rfl hop e
      · have e : Stp.go ⟨m.rt.map fun t => (t, W.env t), m.rr.map fun k => (k, W.rows k), o.dst.toList.map fun d => (d, v.pv), r.toList.map fun x => (x.1, some x.2.row), [], none⟩ W = putO (setO W r) o.dst v := putO_upd _ _ _ _
        rw [e]
        exact hl
    | some l0 =>
      rw [hrf] at hv kR
      obtain ⟨g, hg1, hg2⟩ : ∃ g : List (Nat × Option PV), (∀ x ∈ g, x.1 ∈ m.rt ∧ ∃ p, x.2 = some p ∧ (∀ k, uses k p = false) ∧ W.env x.1 = some p) ∧ (o.guard = none ∨ ∃ j w oj t, o.guard = some (j, w) ∧ ops[j]? = some oj ∧ oj.dst = some t ∧ (t, some (PV.bool w)) ∈ g) := by
        rcases hg with hg | ⟨j, w, oj, t, g1, g2, g3, g4⟩
        · exact ⟨[], (fun x hx => by cases hx), .inl hg⟩
        · refine ⟨[(t, some (PV.bool w))], fun x hx => ?_, .inr ⟨j, w, oj, t, g1, g2, g3, List.mem_singleton.2 rfl⟩⟩
          rw [List.mem_singleton.1 hx]
          exact ⟨h2 j w g1 t (by rw [g2]; exact g3), _, rfl, fun _ => rfl, g4⟩
      obtain ⟨rT, rR, rS, q1, q2, q3, q4, q5, q6, q7, q8, q9, q10⟩ := reads h1 hrf hs g hg1
      refine ⟨m, ⟨rT, rR, o.dst.toList.map fun d => (d, v.pv), r.toList.map fun x => (x.1, some x.2.row), rS, none⟩, h1, ?_, ⟨hkl.symm, q3, fun l hl => ?_⟩, ⟨q7, q8, q9⟩, fun S0 hf => ?_, ?_⟩
      · simp only [keysIn, q1, q2, Bool.true_and, Bool.and_eq_true]
        exact ⟨kW, kR.1⟩
      · rw [hrf] at hl
        cases hl
        refine ⟨q4, q5, q6, fun x hx p hp k hk => ?_, fun x hx d hd' ho => ?_⟩
        · obtain ⟨dd, _, rfl⟩ := List.mem_map.1 hx
          exact vis_uses hv hp k hk
        · obtain ⟨y, hy, rfl⟩ := List.mem_map.1 hx
          cases hd'
          cases r with
          | none => cases hy
          | some z =>
            simp only [Option.toList_some, List.mem_singleton] at hy
            subst hy
            exact row_owns (kR.2 _ rfl)
      · obtain ⟨hA, hgs⟩ := q10 S0 hf.rT hf.rR hf.rS
        have hop := h S0 hA
        have e : putO (setO S0 r) o.dst v = Stp.go ⟨rT, rR, o.dst.toList.map fun d => (d, v.pv), r.toList.map fun x => (x.1, some x.2.row), rS, none⟩ S0 := (putO_upd _ _ _ _).symm
        rcases hg2 with hg | ⟨j, w, oj, t, g1, g2, g3, g4⟩
        · exact stepOK_plain (by simpa using hi) hg hop e
        · exact stepOK_true (by simpa using hi) g1 (by simpa using g2) g3 (b' := w) (hgs _ g4) rfl hop e
      · have e : Stp.go ⟨rT, rR, o.dst.toList.map fun d => (d, v.pv), r.toList.map fun x => (x.1, some x.2.row), rS, none⟩ W = putO (setO W r) o.dst v := putO_upd _ _ _ _
        rw [e]
        exact hl
theorem wk_grow {P : Program} {j d : Nat} {R : Row} (hi : ops[i]? = some o) (hm : MetaAt ops lim i o) (hs : Sub S W) (hg : o.guard = none) (hd : inb X o.dst) (hdd : o.dst = some d) (ha : appOk lim i j = true) (hj : Nat.ble opened j = false)
    (h : ∀ W0, Agree W0 (rdL lim i S) (rrL lim i S) → OpTo P X o W0 (put (setRow (kill W0 j) j R) o.dst (.own j))) (hl : Wk P X ops lim (i + 1) l (put (setRow (kill W j) j R) o.dst (.own j)) q) : Wk P X ops lim i (o :: l) W q := by
  cases lim with
  | none => exact .step (.inl hg) (h W hs.agree) hd hl
  | some ms =>
    obtain ⟨m, h1, h2, h3, _⟩ := hm
    simp only [appOk, h1] at ha
    split at ha
    case h_2 => cases ha
    rename_i k l0 hkl hrf
    simp only [Bool.and_eq_true] at ha
    obtain ⟨⟨a1, a2⟩, a3⟩ := ha
    have a1 := beq_true a1
    subst a1
    obtain ⟨rT, rR, rS, q1, q2, q3, q4, q5, q6, q7, q8, q9, q10⟩ := reads h1 hrf hs [] (fun x hx => by cases hx)
    have e : ∀ S0, Stp.go ⟨rT, rR, [(d, some (.own k))], [(k, some R)], rS, some k⟩ S0 = put (setRow (kill S0 k) k R) o.dst (.own k) := by
      intro S0
      rw [hdd]
      refine st_ext (funext fun t => rfl) (funext fun t => rfl)
    refine ⟨m, ⟨rT, rR, [(d, some (.own k))], [(k, some R)], rS, some k⟩, h1, ?_, ⟨hkl.symm, q3, fun l hl => ?_⟩, ⟨q7, q8, q9⟩, fun S0 hf => ?_, ?_⟩
    · simp only [keysIn, q1, q2, Bool.true_and, Bool.and_eq_true]
      exact ⟨by simpa [subK] using h3 d hdd, by simpa [subK] using mem_iff.1 a2⟩
    · rw [hrf] at hl
      cases hl
      refine ⟨q4, q5, q6, fun x hx p hp u hu => ?_, fun x hx d' hd' ho => ?_⟩
      · rw [List.mem_singleton.1 hx] at hp
        cases hp
        simp only [uses, beq_iff_eq] at hu
        rw [← hu]
        exact mem_iff.1 a3
      · rw [List.mem_singleton.1 hx] at ho
        rw [hj] at ho
        cases ho
    · obtain ⟨hA, _⟩ := q10 S0 hf.rT hf.rR hf.rS
      exact stepOK_plain (by simpa using hi) hg (h S0 hA) (e S0).symm
    · rw [e]
      exact hl
theorem wk_give {P : Program} {j d : Nat} {c : CV} (hc : shutC c = true) (hi : ops[i]? = some o) (hm : MetaAt ops lim i o) (hs : Sub S W) (hg : o.guard = none) (hd : inb X o.dst) (hdd : o.dst = some d) (ha : appOk lim i j = true)
    (h : ∀ W0, Agree W0 (rdL lim i S) (rrL lim i S) → OpTo P X o W0 (put (dropK W0 j) o.dst (.cv c))) (hl : Wk P X ops lim (i + 1) l (put (dropK W j) o.dst (.cv c)) q) : Wk P X ops lim i (o :: l) W q := by
  cases lim with
  | none => exact .step (.inl hg) (h W hs.agree) hd hl
  | some ms =>
    obtain ⟨m, h1, h2, h3, _⟩ := hm
    simp only [appOk, h1] at ha
    split at ha
    case h_2 => cases ha
    rename_i k l0 hkl hrf
    simp only [Bool.and_eq_true] at ha
    obtain ⟨⟨a1, a2⟩, a3⟩ := ha
    have a1 := beq_true a1
    subst a1
    obtain ⟨rT, rR, rS, q1, q2, q3, q4, q5, q6, q7, q8, q9, q10⟩ := reads h1 hrf hs [] (fun x hx => by cases hx)
    have e : ∀ S0, Stp.go ⟨rT, rR, [(d, some (.cv c))], [(k, none)], rS, some k⟩ S0 = put (dropK S0 k) o.dst (.cv c) := by
      intro S0
      rw [hdd]
      refine st_ext (funext fun t => rfl) (funext fun t => rfl)
    refine ⟨m, ⟨rT, rR, [(d, some (.cv c))], [(k, none)], rS, some k⟩, h1, ?_, ⟨hkl.symm, q3, fun l hl => ?_⟩, ⟨q7, q8, q9⟩, fun S0 hf => ?_, ?_⟩
    · simp only [keysIn, q1, q2, Bool.true_and, Bool.and_eq_true]
      exact ⟨by simpa [subK] using h3 d hdd, by simpa [subK] using mem_iff.1 a2⟩
    · rw [hrf] at hl
      cases hl
      refine ⟨q4, q5, q6, fun x hx p hp u hu => ?_, fun x hx d' hd' ho => ?_⟩
      · rw [List.mem_singleton.1 hx] at hp
        cases hp
        cases c with
        | own q => cases hc
        | _ => cases hu
      · rw [List.mem_singleton.1 hx] at hd'
        cases hd'
    · obtain ⟨hA, _⟩ := q10 S0 hf.rT hf.rR hf.rS
      exact stepOK_plain (by simpa using hi) hg (h S0 hA) (e S0).symm
    · rw [e]
      exact hl
theorem wk_skip {P : Program} (hi : ops[i]? = some o) (hm : MetaAt ops lim i o) (hg : GF ops o W) (hd : inb X o.dst) (hl : Wk P X ops lim (i + 1) l (put W o.dst (.cv (.lit undef))) q) : Wk P X ops lim i (o :: l) W q := by
  cases lim with
  | none => exact .skip hg hd hl
  | some ms =>
    obtain ⟨m, h1, h2, h3, h4⟩ := hm
    obtain ⟨j, w, oj, t, g1, g2, g3, g4⟩ := hg
    have hmem : t ∈ m.rt := h2 j w g1 t (by rw [g2]; exact g3)
    have hkl : m.kl = none := h4.resolve_right (fun h => by rw [g1] at h; cases h.1)
    have e : ∀ W0 : St, Stp.go ⟨[(t, W.env t)], [], o.dst.toList.map fun d => (d, Val.undef.pv), [], [], none⟩ W0 = put W0 o.dst (.cv (.lit undef)) := by
      intro W0
      cases hdd : o.dst <;> rfl
    refine ⟨m, ⟨[(t, W.env t)], [], o.dst.toList.map fun d => (d, Val.undef.pv), [], [], none⟩, h1, ?_, ⟨hkl.symm, (fun x hx => by cases hx), fun l0 _ => ⟨fun x hx => ?_, (fun x hx => by cases hx), (fun x hx => by cases hx), fun x hx p hp k hk => ?_, (fun x hx => by cases hx)⟩⟩, ⟨⟨rfl, trivial⟩, trivial, (fun x hx => by cases hx)⟩, fun S0 hf => ?_, by rw [e]; exact hl⟩
    · simp only [keysIn, Bool.and_eq_true]
      refine ⟨⟨⟨by simpa [subK] using hmem, rfl⟩, ?_⟩, rfl⟩
      cases hdd : o.dst with
      | none => rfl
      | some d => simpa [subK] using h3 d hdd
    · rw [List.mem_singleton.1 hx]
      rcases g4 with g4 | g4
      · exact ⟨_, g4, fun k hk => by cases hk⟩
      · exact ⟨_, g4, fun k hk => by cases hk⟩
    · obtain ⟨dd, _, rfl⟩ := List.mem_map.1 hx
      cases hp
      cases hk
    · have he : S0.env t = W.env t := hf.rT.1
      rcases g4 with g4 | g4
      · exact stepOK_false (by simpa using hi) g1 (by simpa using g2) g3 (by rw [he]; exact g4) rfl hd (e _).symm
      · exact stepOK_undef (by simpa using hi) g1 (by simpa using g2) g3 (by rw [he]; exact g4) hd (e _).symm
end
end Go.Proofs.YtjimdhlmeebjeaaGreat.E
end
section
namespace Go.Proofs.YtjimdhlmeebjeaaGreat.E
open Go.RowKit Go.Proofs.YtjimdhlmeebjeaaGreatW.PrintWords Go.Proofs.YtjimdhlmeebjeaaGreatW.PrintMore Go.Proofs.YtjimdhlmeebjeaaGreat.V
set_option linter.unusedVariables false
section
variable {T : Tab} {X : Ctx} {S : ES} {W W' : St} {o : Oper}
theorem find_mapS {α : Type} (f : α → α) : ∀ (l : List (Nat × α)) (t : Nat), find (mapS f l) t = (find l t).map f
  | [], t => rfl
  | x :: l, t => by
    simp only [mapS, find]
    split
    · rfl
    · exact find_mapS f l t
theorem find_erase {α : Type} (k : Nat) : ∀ (l : List (Nat × α)) (t : Nat), find (eraseK k l) t = if t = k then none else find l t
  | [], t => by simp [eraseK, find]
  | x :: l, t => by
    simp only [eraseK]
    split
    · rename_i h
      have h := beq_true h
      rw [find_erase k l t]
      simp only [find]
      by_cases c : t = k
      · rw [if_pos c, if_pos c]
      · rw [if_neg c, if_neg c]
        split
        · rename_i h2
          exact absurd ((beq_true h2).trans h) c
        · rfl
    · rename_i h
      have h := beq_false h
      simp only [find]
      split
      · rename_i h2
        have h2 := beq_true h2
        rw [if_neg (by omega)]
      · exact find_erase k l t
theorem find_mapE (g : Fld → Fld) : ∀ (l : List (Nat × ERow)) (t : Nat), find (mapE g l) t = (find l t).map (onOpen g t)
  | [], t => rfl
  | x :: l, t => by
    simp only [mapE, find]
    split
    · rename_i h
      rw [beq_true h]
      rfl
    · exact find_mapE g l t
theorem conv_frz {k : Nat} {e : TypeId} {t : Ty} {l : List t.den} (v : Val) : (frzV k t l v).pv = v.pv.bind (conv k (ERow.arr e t l).row) := by
  cases v with
  | own j =>
    cases hb : Nat.beq j k with
    | true => simp only [frzV, hb, Val.pv, Option.bind_some, conv]; rw [if_pos (beq_true hb)]; rfl
    | false => simp only [frzV, hb, Val.pv, Option.bind_some, conv]; rw [if_neg (beq_false hb)]
  | po j off p =>
    cases hb : Nat.beq j k with
    | true => simp only [frzV, hb, Val.pv, Option.bind_some, conv]; rw [if_pos (beq_true hb)]
    | false => simp only [frzV, hb, Val.pv, Option.bind_some, conv]; rw [if_neg (beq_false hb)]
  | pe j i sz off p =>
    cases hb : Nat.beq j k with
    | true => simp only [frzV, hb, Val.pv, Option.bind_some, conv]; rw [if_pos (beq_true hb)]
    | false => simp only [frzV, hb, Val.pv, Option.bind_some, conv]; rw [if_neg (beq_false hb)]
  | v c x =>
    show some (c.pv x) = conv k _ (c.pv x)
    have hu := uses_pv c x k
    cases c with
    | pair a b =>
      have hu : (Ty.enc (.pair a b) x).any (refC k) = false := hu
      show some (PV.ag (Ty.enc (.pair a b) x)) = (bif (Ty.enc (.pair a b) x).any (refC k) then none else some (PV.ag (Ty.enc (.pair a b) x)))
      rw [hu]
      rfl
    | _ => rfl
  | st fs =>
    cases hb : mem (ownsF fs) k with
    | true =>
      have : (fenc fs).any (refC k) = true := (ownsF_refs fs k).2 (mem_iff.1 hb)
      simp only [frzV, hb, Val.pv, Option.bind_some, conv, this, cond_true]
    | false => simp only [frzV, hb, Val.pv, Option.bind_some, conv, ownsF_not hb, cond_false]
  | _ => rfl
theorem onOpen_bake {k : Nat} {e : TypeId} {t : Ty} {l : List t.den} (j : Nat) (r : ERow) : (onOpen (frzF k t l) j r).row = bakeR k (ERow.arr e t l).row j r.row := by
  have same : ∀ (d : Row), d.data.all shutC = true → bakeR k (ERow.arr e t l).row j d = d := by
    intro d hd
    unfold bakeR
    cases Nat.ble opened j with
    | false => rfl
    | true =>
      simp only [cond_true]
      rw [map_noref (fun c hc => by cases c <;> first | rfl | cases hc) hd]
  cases r with
  | arr e2 t2 l2 => exact (same _ (flat_shut l2)).symm
  | box e2 t2 x2 => exact (same _ (enc_shut t2 x2)).symm
  | obox e2 fs =>
    cases ho : Nat.ble opened j with
    | false => simp only [onOpen, bakeR, ho, cond_false]
    | true =>
      simp only [onOpen, bakeR, ho, cond_true, ERow.row]
      have h1 : ∀ f : Fld, (frzF k t l f).enc = f.enc.map (bakeC k (ERow.arr e t l).row) := by
        intro f
        cases f with
        | v c x => exact (map_noref (fun c hc => by cases c <;> first | rfl | cases hc) (enc_shut c x)).symm
        | own q =>
          simp only [frzF, Fld.enc, List.map_cons, List.map_nil, bakeC]
          cases Nat.beq q k <;> rfl
        | hole => rfl
      have h2 : ∀ f : Fld, (frzF k t l f).sz = f.sz := by
        intro f
        cases f with
        | own q => simp only [frzF]; cases Nat.beq q k <;> rfl
        | _ => rfl
      rw [mapF_sz h2, mapF_enc h1]
      rfl
theorem frz_rel (k : Nat) : ∀ a w, Rel X S.st a w → Rel X (S.frz k).st a w := by
  intro a w h
  unfold ES.frz
  split
  · rename_i e t l hk
    split
    · exact h
    · rename_i hb
      rw [Bool.or_eq_false_iff] at hb
      have h2 := rel_freeze (S := S.st) (k := k) (d := (ERow.arr e t l).row) (by simp only [ES.st, hk, Option.map_some]) (beq_false hb.1) hb.2 a w h
      have e1 : (⟨mapS (frzV k t l) S.env, mapE (frzF k t l) (eraseK k S.rows)⟩ : ES).st = V.freeze S.st k (ERow.arr e t l).row := by
        unfold ES.st V.freeze
        congr 1
        · funext u
          simp only [find_mapS]
          cases hf : find S.env u with
          | none => rfl
          | some v => simp only [Option.map_some, Option.bind_some]; exact conv_frz v
        · funext j
          simp only [find_mapE, find_erase]
          by_cases c : j = k
          · rw [if_pos c, if_pos c]; rfl
          · rw [if_neg c, if_neg c]
            cases find S.rows j with
            | none => rfl
            | some r => simp only [Option.map_some]; rw [onOpen_bake]
      rw [e1]
      exact h2
  · exact h
theorem giveAll_rel : ∀ (xs : List Nat) (S : ES), ∀ a w, Rel X S.st a w → Rel X (S.giveAll xs).st a w
  | [], S, a, w, h => h
  | x :: xs, S, a, w, h => giveAll_rel xs (S.frz x) a w (frz_rel x a w h)
theorem kill_pv (k : Nat) (v : Val) (p : PV) (h : (killV k v).pv = some p) : v.pv = some p ∧ uses k p = false := by
  cases v with
  | own j =>
    cases hb : Nat.beq j k with
    | true => simp only [killV, hb, Val.pv] at h; cases h
    | false => simp only [killV, hb, Val.pv] at h; cases h; exact ⟨rfl, by simp only [uses, beq_eq_false_iff_ne]; exact beq_false hb⟩
  | po j off q =>
    cases hb : Nat.beq j k with
    | true => simp only [killV, hb, Val.pv] at h; cases h
    | false => simp only [killV, hb, Val.pv] at h; cases h; exact ⟨rfl, by simp only [uses, beq_eq_false_iff_ne]; exact beq_false hb⟩
  | pe j i sz off q =>
    cases hb : Nat.beq j k with
    | true => simp only [killV, hb, Val.pv] at h; cases h
    | false => simp only [killV, hb, Val.pv] at h; cases h; exact ⟨rfl, by simp only [uses, beq_eq_false_iff_ne]; exact beq_false hb⟩
  | v c x => simp only [killV, Val.pv] at h; cases h; exact ⟨rfl, uses_pv c x k⟩
  | st fs =>
    cases hb : mem (ownsF fs) k with
    | true => simp only [killV, hb, Val.pv] at h; cases h
    | false => simp only [killV, hb, Val.pv] at h; cases h; exact ⟨rfl, ownsF_not hb⟩
  | tup c x => simp only [killV, Val.pv] at h; cases h
  | any => cases h
  | _ => simp only [killV, Val.pv] at h; cases h; exact ⟨rfl, rfl⟩
theorem onOpen_kill {k : Nat} (j : Nat) (r : ERow) : (onOpen (killF k) j r).row = killR k j r.row := by
  have same : ∀ (d : Row), d.data.all shutC = true → killR k j d = d := by
    intro d hd
    unfold killR
    cases Nat.ble opened j with
    | false => rfl
    | true =>
      simp only [cond_true]
      rw [map_noref (fun c hc => by cases c <;> first | rfl | cases hc) hd]
  cases r with
  | arr e2 t2 l2 => exact (same _ (flat_shut l2)).symm
  | box e2 t2 x2 => exact (same _ (enc_shut t2 x2)).symm
  | obox e2 fs =>
    cases ho : Nat.ble opened j with
    | false => simp only [onOpen, killR, ho, cond_false]
    | true =>
      simp only [onOpen, killR, ho, cond_true, ERow.row]
      have h1 : ∀ f : Fld, (killF k f).enc = f.enc.map (killC k) := by
        intro f
        cases f with
        | v c x => exact (map_noref (fun c hc => by cases c <;> first | rfl | cases hc) (enc_shut c x)).symm
        | own q =>
          simp only [killF, Fld.enc, List.map_cons, List.map_nil, killC]
          cases Nat.beq q k <;> rfl
        | hole => rfl
      have h2 : ∀ f : Fld, (killF k f).sz = f.sz := by
        intro f
        cases f with
        | own q => simp only [killF]; cases Nat.beq q k <;> rfl
        | _ => rfl
      rw [mapF_sz h2, mapF_enc h1]
theorem sub_kill {k : Nat} {E : List (Nat × Val)} {R : List (Nat × ERow)} {W : St} (hs : Sub ⟨E, R⟩ W) : Sub ⟨mapS (killV k) E, mapE (killF k) R⟩ (kill W k) := by
  refine ⟨fun u v p f1 f2 => ?_, fun j => ?_⟩
  · rw [find_mapS] at f1
    obtain ⟨v0, f3, rfl⟩ := Option.map_eq_some_iff.1 f1
    obtain ⟨f4, f5⟩ := kill_pv k v0 p f2
    have f6 := hs.env u v0 p f3 f4
    simp only [kill, f6, f5]
    rfl
  · show (W.rows j).map (killR k j) = (find (mapE (killF k) R) j).map ERow.row
    rw [find_mapE, show W.rows j = (find R j).map ERow.row from hs.rows j]
    cases find R j with
    | none => rfl
    | some r => simp only [Option.map_some]; rw [onOpen_kill]
theorem sub_drop {k : Nat} {E : List (Nat × Val)} {R : List (Nat × ERow)} {W : St} (hs : Sub ⟨E, R⟩ W) : Sub ⟨mapS (killV k) E, mapE (killF k) (eraseK k R)⟩ (dropK W k) := by
  refine ⟨fun u v p f1 f2 => (sub_kill (k := k) hs).env u v p f1 f2, fun j => ?_⟩
  show (if j = k then none else (W.rows j).map (killR k j)) = (find (mapE (killF k) (eraseK k R)) j).map ERow.row
  rw [find_mapE, find_erase]
  by_cases c : j = k
  · rw [if_pos c, if_pos c]; rfl
  · rw [if_neg c, if_neg c, show W.rows j = (find R j).map ERow.row from hs.rows j]
    cases find R j with
    | none => rfl
    | some r => simp only [Option.map_some]; rw [onOpen_kill]
theorem fresh1_rel (d : Nat) : ∀ a w, Rel X S.st a w → Rel X (S.fresh1 d).st a w := by
  intro a w h
  unfold ES.fresh1
  split
  · have h2 := rel_dropK (X := X) (S := S.st) d a w h
    exact rel_sub (sub_drop (k := d) (E := S.env) (R := S.rows) (W := S.st) (sub_st S)) a w h2
  · exact h
theorem fresh_rel (own : List Nat) (o : Oper) : ∀ a w, Rel X S.st a w → Rel X (S.fresh own o).st a w := by
  intro a w h
  unfold ES.fresh
  split
  · split
    · split
      · exact fresh1_rel _ a w h
      · exact fresh1_rel _ a w h
    · exact fresh1_rel _ a w h
  · exact h
theorem giveOps_rel (own : List Nat) : ∀ (os : List Oper) (S : ES), ∀ a w, Rel X S.st a w → Rel X (S.giveOps T own os).st a w
  | [], S, a, w, h => h
  | o :: os, S, a, w, h => giveOps_rel own os _ a w (fresh_rel own o a w (giveAll_rel _ _ a w h))
def argPV (v : Val) : PV := v.pv.getD (.tup [])
def CalleeOk (P : Program) (g : Nat) : Prop := ∃ fn, P.funcs[g]? = some fn ∧ fn.name ≠ "runtime.NumGoroutine" ∧ fn.body ≠ none
def lpv : Option Val → PV
  | some (.v (.list _) _) => .own lent
  | _ => .po lent 0
theorem lval_pv (c : Ty) (y : c.den) : (lval c).pv = some (lpv (some (.v c y))) := by cases c <;> rfl
theorem lpv_lend (v : Option Val) : lendable (lpv v) = true := by
  unfold lpv
  split <;> rfl
theorem lrow_sz (e : TypeId) (c : Ty) (x y : c.den) : (lrow e c x).row.sz = (lrow e c y).row.sz := by cases c <;> rfl
theorem lcont_row {e : TypeId} {c : Ty} {r : ERow} {z : c.den} (h : lcont e c r = some z) : r = lrow e c z := by
  cases r with
  | obox e' fs => cases h
  | arr e' t l =>
    simp only [lcont] at h
    split at h
    · rename_i hb
      obtain ⟨rfl, rfl⟩ := cast_some h
      rw [beq_true hb]
      rfl
    · cases h
  | box e' t y =>
    simp only [lcont] at h
    split at h
    · rename_i hb hl
      obtain ⟨rfl, rfl⟩ := cast_some h
      rw [beq_true hb]
      cases t <;> first | rfl | cases hl
    · cases h
def lentArgs (j : Nat) (vs : List Val) : List PV := (vs.map argPV).set j (lpv vs[j]?)
structure CallOk (T : Tab) (call : (g : Nat) → List Val → Option (T.out g).den) : Prop where
  fn : ∀ g vs r, find T.lent_ g = none → call g vs = some r → CalleeOk T.P g ∧ ∃ p, (resV (T.several g) (T.out g) r).pv = some p ∧ V.Fn T.P g (vs.map argPV) p
  lent : ∀ g j e vs r v c2 y2, find T.lent_ g = some (j, e) → call g vs = some r → outV (T.several g) (T.out g) r = some (v, .v c2 y2) → CalleeOk T.P g ∧ ∃ p, v.pv = some p ∧ ∃ y, vs[j]? = some (.v c2 y) ∧ FnW T.P g (lentArgs j vs) (lrow e c2 y).row p (lrow e c2 y2).row
def plainPV (p : PV) : Prop := ∃ (t : Ty) (y : t.den), p = t.pv y
theorem plain_ren {p : PV} (h : plainPV p) (k : Nat) : ren k p = p ∧ lendable p = true ∧ closed p = true := by
  obtain ⟨t, y, rfl⟩ := h
  cases t with
  | pair a b => exact ⟨rfl, enc_shut (.pair a b) y, enc_shut (.pair a b) y⟩
  | _ => exact ⟨rfl, rfl, rfl⟩
theorem args_plain {rd : Nat → Option Val} {rr : Nat → Option (Option ERow)} (hA : Agree W rd rr) {ln : Option Nat} : ∀ (xs : List Operand) (ts : List Ty) (i : Nat) (vs : List Val), (∀ j, ln = some j → j < i) → argsOf rd rr ln i xs ts = some vs → evs W xs = some (vs.map argPV) ∧ ∀ p ∈ vs.map argPV, plainPV p
  | [], [], i, vs, _, h => by simp only [argsOf, Option.some.injEq] at h; subst h; exact ⟨rfl, fun p hp => by simp at hp⟩
  | x :: xs, t :: ts, i, vs, hl, h => by
    simp only [argsOf] at h
    split at h
    · rename_i v hv
      have hb : isLent ln i = false := by
        cases ln with
        | none => rfl
        | some j =>
          have := hl j rfl
          cases hb : Nat.beq i j with
          | false => exact hb
          | true => have := beq_true hb; omega
      simp only [hb] at h
      split at h
      · rename_i y hy
        split at h
        · rename_i l hl'
          cases h
          obtain ⟨g1, g2⟩ := args_plain hA xs ts (i + 1) l (fun j hj => by have := hl j hj; omega) hl'
          have hx := hA.ev hv (coe_pv hy)
          refine ⟨?_, ?_⟩
          · simp only [evs, hx, g1, List.map_cons]
            rfl
          · intro p hp
            rw [List.map_cons] at hp
            rcases List.mem_cons.1 hp with rfl | hp
            · exact ⟨t, y, rfl⟩
            · exact g2 p hp
        · cases h
      · cases h
    · cases h
  | [], _ :: _, _, _, _, h => by cases h
  | _ :: _, [], _, _, _, h => by cases h
theorem ren_all {l : List PV} (h : ∀ p ∈ l, plainPV p) (k : Nat) : l.map (ren k) = l ∧ l.all lendable = true ∧ l.all closed = true := by
  refine ⟨?_, List.all_eq_true.2 (fun p hp => (plain_ren (h p hp) k).2.1), List.all_eq_true.2 (fun p hp => (plain_ren (h p hp) k).2.2)⟩
  conv => rhs; rw [← List.map_id l]
  exact List.map_congr_left (fun p hp => (plain_ren (h p hp) k).1)
theorem args_lent {rd rd' : Nat → Option Val} {rr : Nat → Option (Option ERow)} (hA : Agree W rd rr) {j k : Nat} (hrd : ∀ t v, rd t = some v → rd' t = some v) : ∀ (xs : List Operand) (ts : List Ty) (i : Nat) (vs : List Val), i ≤ j → argsOf rd rr (some j) i xs ts = some vs → lentOf rd' (j - i) xs = some k →
    evs W xs = some ((lentArgs (j - i) vs).map (ren k)) ∧ (lentArgs (j - i) vs).all lendable = true ∧ ∃ e t y, rr k = some (some (lrow e t y)) ∧ vs[j - i]? = some (.v t y)
  | [], _, i, vs, _, _, hl => by simp [lentOf] at hl
  | x :: xs, [], i, vs, _, h, _ => by cases h
  | x :: xs, t :: ts, i, vs, hi, h, hl => by
    simp only [argsOf] at h
    split at h
    · rename_i v hv
      by_cases c : i = j
      · subst c
        simp only [Nat.sub_self] at hl ⊢
        simp only [isLent, Nat.beq_refl] at h
        split at h
        · rename_i y' hy
          split at h
          · rename_i l hl'
            cases h
            have key : ∀ k' : Nat, (v = .po k' 0 [] ∨ v = .own k') → k' = k := by
              intro k' hk
              cases x with
              | tmp u =>
                simp only [evo] at hv
                have := hrd u _ hv
                rcases hk with rfl | rfl
                · simp only [lentOf, evo, this] at hl
                  cases hl; rfl
                · simp only [lentOf, evo, this] at hl
                  cases hl; rfl
              | const cv =>
                simp only [evo, Option.some.injEq] at hv
                subst hv
                unfold cval at hk
                split at hk <;> rcases hk with hk | hk <;> cases hk
              | func f =>
                simp only [evo, Option.some.injEq] at hv
                subst hv
                rcases hk with hk | hk <;> cases hk
              | global g => cases hv
            obtain ⟨g1, g2⟩ := args_plain hA xs ts (i + 1) l (fun j hj => by cases hj; omega) hl'
            obtain ⟨g3, g4, _⟩ := ren_all g2 k
            have fin : ∀ (e : TypeId) (p : PV), v.pv = some (ren k p) → p = lpv (some (.v t y')) → rr k = some (some (lrow e t y')) → evs W (x :: xs) = some ((lentArgs 0 (.v t y' :: l)).map (ren k)) ∧ (lentArgs 0 (.v t y' :: l)).all lendable = true ∧ ∃ e t2 y, rr k = some (some (lrow e t2 y)) ∧ (Val.v t y' :: l)[0]? = some (.v t2 y) := by
              intro e p hp1 hp2 hk
              have hx := hA.ev hv hp1
              subst hp2
              refine ⟨?_, ?_, e, t, y', hk, rfl⟩
              · simp only [evs, hx, g1, lentArgs, List.map_cons, List.set_cons_zero, g3, List.getElem?_cons_zero]
              · simp only [lentArgs, List.map_cons, List.set_cons_zero, List.all_cons, g4, Bool.and_true, List.getElem?_cons_zero]
                exact lpv_lend _
            split at hy
            · rename_i k'
              have hk' := key k' (.inl rfl)
              subst hk'
              split at hy
              · rename_i e cc y hk
                split at hy
                · rename_i hnl
                  obtain ⟨rfl, rfl⟩ := cast_some hy
                  have e1 : lrow e cc y' = .box e cc y' := by cases cc <;> first | rfl | cases hnl
                  refine fin e (.po lent 0) rfl ?_ (by rw [e1]; exact hk)
                  cases cc <;> first | rfl | cases hnl
                · cases hy
              · cases hy
            · rename_i k'
              have hk' := key k' (.inr rfl)
              subst hk'
              split at hy
              · rename_i e cc y hk
                obtain ⟨rfl, rfl⟩ := cast_some hy
                exact fin e (.own lent) rfl rfl hk
              · cases hy
            · cases hy
          · cases h
        · cases h
      · have hb : Nat.beq i j = false := by
          cases hb : Nat.beq i j with
          | false => rfl
          | true => exact absurd (beq_true hb) c
        simp only [isLent, hb] at h
        split at h
        · rename_i y hy
          split at h
          · rename_i l hl'
            cases h
            have e1 : j - i = (j - (i + 1)) + 1 := by omega
            rw [e1] at hl ⊢
            obtain ⟨g1, g2, g3⟩ := args_lent hA hrd xs ts (i + 1) l (by omega) hl' hl
            have hx := hA.ev hv (coe_pv hy)
            obtain ⟨p1, p2, _⟩ := plain_ren (p := t.pv y) ⟨t, y, rfl⟩ k
            refine ⟨?_, ?_, g3⟩
            · simp only [evs, hx, g1, lentArgs, List.map_cons, List.set_cons_succ, List.getElem?_cons_succ]
              show some (t.pv y :: _) = some (ren k (t.pv y) :: _)
              rw [p1]
            · simp only [lentArgs, List.map_cons, List.set_cons_succ, List.all_cons, Bool.and_eq_true, List.getElem?_cons_succ]
              exact ⟨p2, g2⟩
          · cases h
        · cases h
    · cases h
theorem to_clone_own {P : Program} {c : Call} {y : Operand} {t e : TypeId} {inf : TypeInfo} {z : Value} {m : Nat} {ncs : List CV} {k : Nat} (ho : o.op = .call c) (hc : c.callee = .builtin .append) (ha : c.args = #[.const (.slice none 0 0), y]) (ht : c.argTypes = #[t, t]) (hu : P.underlying t = some (.slice e)) (hi : P.info? e = some inf) (hz : inf.zero = some z) (hzs : z.cells.size = inf.size) (hsz : 0 < inf.size)
    (hy : ev W y = some (.cv (.row m ncs))) (hm : ncs.length = m * inf.size) (h1 : ncs.all one = true) (h63 : m ≤ maxLen) (hb : m * inf.bytes ≤ 140737488355328) (hk : W.rows k = none) (hkl : k ≠ lent) (hd : inb X o.dst) :
    OpTo P X o W (put (setRow W k ⟨e, inf.size, m, ncs⟩) o.dst (.own k)) := by
  intro a w ⟨L, r⟩
  have hy' := r.ev hy
  generalize hvy : a.eval y = vy at hy'
  have hx : a.eval (.const (.slice none 0 0)) = .slice none 0 0 := rfl
  have q1 : w.ownsRow w.heap.size e inf.size (.slice none 0 0) 0 [] := World.ownsRow_nil w _ _ _
  have fin : ∀ (v' : Value) (w' : World) (news : List Value), (Builtin.append_ #[t, t] o.type #[.slice none 0 0, vy]).run P w = .ok v' w' → w'.ownsRow w.heap.size e inf.size v' m news → Below w.heap.size w w' → news.length = ncs.length → (∀ i (h : i < ncs.length), Den w (Still X W.rows L w).shut (news.getD i undef) ncs[i]) →
      o.wp P a w (fun a' w' => Rel X (put (setRow W k ⟨e, inf.size, m, ncs⟩) o.dst (.own k)) a' w') (fun _ _ _ => False) := by
    intro v' w' news hrun hown hbw hnl hnd
    have keep : ∀ j d, W.rows j = some d → (setRow W k ⟨e, inf.size, m, ncs⟩).rows j = some d ∧ setLay L k v' j = L j := by
      intro j d h
      have : j ≠ k := fun e => by subst e; rw [hk] at h; cases h
      exact ⟨by simp only [setRow]; rw [if_neg this]; exact h, by simp only [setLay]; rw [if_neg this]⟩
    have only : ∀ j d, (setRow W k ⟨e, inf.size, m, ncs⟩).rows j = some d → W.rows j = none → j = k ∧ d = ⟨e, inf.size, m, ncs⟩ := by
      intro j d h h0
      simp only [setRow] at h
      by_cases c : j = k
      · rw [if_pos c] at h; cases h; exact ⟨c, rfl⟩
      · rw [if_neg c, h0] at h; cases h
    have hL : setLay L k v' k = v' := by simp [setLay]
    have hn : ∀ j d b, (setRow W k ⟨e, inf.size, m, ncs⟩).rows j = some d → W.rows j = none → (setLay L k v' j).ownBlock = some b → w.heap.size ≤ b := by
      intro j d b h h0 hb
      obtain ⟨rfl, rfl⟩ := only j d h h0
      rw [hL] at hb
      exact (hown.lt b hb).1
    have st := still_grow (S' := setRow W k ⟨e, inf.size, m, ncs⟩) (L' := setLay L k v') (w' := w') r hbw.size (fun j d h => (keep j d h).2) hn
    have r2 : RelL X (setRow W k ⟨e, inf.size, m, ncs⟩) (setLay L k v') a w' := by
      refine r.grow hbw rfl keep (fun j d h h0 => ?_) (fun j j' d d' b h h' h0 h0' _ _ => by rw [(only j d h h0).1, (only j' d' h' h0').1]) (fun h => by simp only [setRow]; rw [if_neg (Ne.symm hkl)]; exact h)
      obtain ⟨rfl, rfl⟩ := only j d h h0
      refine ⟨⟨news, by rw [hL]; exact owns_base hown (Nat.le_trans X.hlo r.below.size), hnl, fun i hi => ((hnd i hi).mono (Fo.shut_of st) (fun b hb => hbw.block b (Still.lt r.below hb))).mono (Fo.shut_at _ _) (fun _ _ => rfl)⟩, fun b hb => by rw [hL] at hb; exact (hown.lt b hb).1⟩
    refine alloc_wp (run_append_call ho hc ha ht (by rw [hx, hvy]; exact hrun)) ⟨_, r2.put hd ?_⟩
    conv => arg 5; rw [← hL]
    exact .own (r := ⟨e, inf.size, m, ncs⟩) (by simp [setRow])
  have go : ∀ (ad : Addr) (c' : Nat) (news : List Value), vy = .slice (some ad) m c' → news.length = ncs.length → (∀ i (h : i < ncs.length), Den w (Still X W.rows L w).shut (news.getD i undef) ncs[i]) → (∀ j u, news[j]? = some u → w.cell? (ad.add j) = some u) →
      o.wp P a w (fun a' w' => Rel X (put (setRow W k ⟨e, inf.size, m, ncs⟩) o.dst (.own k)) a' w') (fun _ _ _ => False) := by
    intro ad c' news hvy' hnl hnd hcell
    have hone : ∀ u ∈ news, u.oneCell' = true := by
      have := den_all_one (vs := news.toArray) (cs := ncs) (by simpa using hnl) (fun i hi => by simpa [Array.getD_eq_getD_getElem?, List.getD_eq_getElem?_getD] using hnd i hi) h1
      simpa using this
    obtain ⟨v', w', g1, g2, g3, g4⟩ := run_append_own (P := P) w w.heap.size t o.type e inf z inf.size inf.bytes hu hi hz rfl rfl hzs hsz (.slice none 0 0) 0 [] q1 ad m c' news (by rw [hnl, hm]) hcell hone (by omega) (by simpa using hb) (Nat.le_refl _)
    rw [Nat.zero_add, List.nil_append] at g2
    exact fin v' w' news (by rw [hvy']; exact g1) g2 (below_of_grown (w' := w') g3) hnl hnd
  cases hy' with
  | cv hden =>
    cases hden with
    | nil b c' hb' =>
      cases b with
      | none =>
        have : c' = 0 := hb' rfl
        subst this
        have g1 := run_append_owned_none (P := P) w w.heap.size t o.type e inf inf.size hu hi (.slice none 0 0) 0 [] q1
        exact fin _ w [] g1 q1 (Below.refl _ _) rfl (fun i h => by simp at h)
      | some ad => exact go ad c' [] rfl rfl (fun i h => by simp at h) (fun j u h => by simp at h)
    | row ad n c' cs vs hs hF hn hcc hdd =>
      refine go ad c' ((List.range ncs.length).map vs) rfl (by simp) (fun i hi => ?_) (fun j u hj => ?_)
      · simpa [List.getD_eq_getElem?_getD, hi] using hdd i hi
      · simp only [List.getElem?_map, Option.map_eq_some_iff] at hj
        obtain ⟨i, h1', h2'⟩ := hj
        obtain ⟨h3, rfl⟩ := List.getElem?_eq_some_iff.1 h1'
        simp at h3 h2'
        subst h2'
        exact hcc j h3
end
end Go.Proofs.YtjimdhlmeebjeaaGreat.E
end
section
namespace Go.Proofs.YtjimdhlmeebjeaaGreat.E
open Go.RowKit Go.Proofs.YtjimdhlmeebjeaaGreatW.PrintWords Go.Proofs.YtjimdhlmeebjeaaGreatW.PrintMore Go.Proofs.YtjimdhlmeebjeaaGreat.V
set_option linter.unusedVariables false
section
variable {T : Tab} {X : Ctx} {S : ES} {W W' : St} {o : Oper} {ops : List Oper} {lim : Option (List Meta)} {i : Nat} {l : List Oper} {q : St → Prop} {F : Nat}
def CtxOk (ops : List Oper) (ctx : Option (Nat × Bool)) (prot : List Nat) (W : St) : Prop := match ctx with
  | none => True
  | some (j, w) => ∃ oj t, ops[j]? = some oj ∧ oj.dst = some t ∧ t ∈ prot ∧ W.env t = some (.bool w)
def Frame (l : List Oper) (W W' : St) : Prop := W'.rows = W.rows ∧ ∀ t, (∀ o ∈ l, o.dst ≠ some t) → W'.env t = W.env t
theorem frame_refl (l : List Oper) (W : St) : Frame l W W := ⟨rfl, fun _ _ => rfl⟩
theorem putO_env {W : St} {d : Option Nat} {v : Val} {t : Nat} (h : d ≠ some t) : (putO W d v).env t = W.env t := by
  cases d with
  | none => rfl
  | some d =>
    have h' : t ≠ d := fun e => h (by rw [e])
    cases hv : v.pv <;> simp only [putO, hv, V.put, V.drop] <;> rw [if_neg h']
theorem putO_rows {W : St} {d : Option Nat} {v : Val} : (putO W d v).rows = W.rows := by
  cases d with
  | none => rfl
  | some d => cases hv : v.pv <;> simp only [putO, hv] <;> rfl
theorem frame_put {l : List Oper} {o : Oper} {v : Val} (h : Frame l (putO W o.dst v) W') : Frame (o :: l) W W' :=
  ⟨by rw [h.1, putO_rows], fun t ht => by rw [h.2 t (fun o' ho' => ht o' (List.mem_cons_of_mem _ ho')), putO_env (ht o List.mem_cons_self)]⟩
theorem ctx_put {ctx : Option (Nat × Bool)} {prot : List Nat} {d : Option Nat} {v : Val} (h : CtxOk ops ctx prot W) (hn : notIn prot d = true) : CtxOk ops ctx prot (putO W d v) := by
  cases ctx with
  | none => trivial
  | some x =>
    obtain ⟨oj, t, h1, h2, h3, h4⟩ := h
    refine ⟨oj, t, h1, h2, h3, ?_⟩
    rw [putO_env (fun e => ?_)]
    · exact h4
    · subst e
      simp only [notIn, Bool.not_eq_true'] at hn
      rw [mem_iff.2 h3] at hn
      cases hn
theorem ctx_frame {ctx : Option (Nat × Bool)} {prot : List Nat} (h : CtxOk ops ctx prot W) (hf : Frame l W W') (hn : ∀ o ∈ l, notIn prot o.dst = true) : CtxOk ops ctx prot W' := by
  cases ctx with
  | none => trivial
  | some x =>
    obtain ⟨oj, t, h1, h2, h3, h4⟩ := h
    refine ⟨oj, t, h1, h2, h3, ?_⟩
    rw [hf.2 t (fun o ho e => ?_)]
    · exact h4
    · have := hn o ho
      rw [e] at this
      simp only [notIn, Bool.not_eq_true'] at this
      rw [mem_iff.2 h3] at this
      cases this
theorem gEq_eq : ∀ {a b : Option (Nat × Bool)}, gEq a b = true → a = b
  | none, none, _ => rfl
  | some x, some y, h => by
    simp only [gEq, Bool.and_eq_true, beq_iff_eq] at h
    obtain ⟨a, b⟩ := x
    obtain ⟨c, d⟩ := y
    have h1 : a = c := beq_true h.1
    have h2 : b = d := h.2
    rw [h1, h2]
  | none, some _, h => by cases h
  | some _, none, h => by cases h
theorem gt_of {ctx : Option (Nat × Bool)} {prot : List Nat} (h : CtxOk ops ctx prot W) (hg : gEq o.guard ctx = true) : GT ops o W := by
  have e := gEq_eq hg
  cases ctx with
  | none => exact .inl e
  | some x =>
    obtain ⟨oj, t, h1, h2, h3, h4⟩ := h
    exact .inr ⟨x.1, x.2, oj, t, e, h1, h2, h4⟩
theorem cutP_eq {t : Nat} : ∀ (l G : List Oper) (pk : Oper) (rest : List Oper), cutP t l = some (G, pk, rest) → l = G ++ pk :: rest ∧ ∃ x y, pk.op = .pick (.tmp t) x y
  | [], G, pk, rest, h => by cases h
  | o :: l, G, pk, rest, h => by
    simp only [cutP] at h
    split at h
    · rename_i hb
      cases h
      refine ⟨rfl, ?_⟩
      split at hb
      · rename_i c x y ho
        have := beq_true hb
        subst this
        exact ⟨x, y, ho⟩
      · cases hb
    · split at h
      · rename_i x hx
        obtain ⟨G', pk', rest'⟩ := x
        cases h
        obtain ⟨h1, h2⟩ := cutP_eq l G' pk' rest' hx
        exact ⟨by rw [h1]; rfl, h2⟩
      · cases h
theorem inner_at {j : Nat} {w : Bool} {prot : List Nat} : ∀ (G : List Oper) (n : Nat), inner ops j w prot i G n = true → ∀ (m : Nat) (o : Oper), G[m]? = some o → notIn prot o.dst = true ∧ ∃ g, o.guard = some g ∧ (∃ og tg, ops[g.1]? = some og ∧ og.dst = some tg) ∧ ((g.1 = j ∧ g.2 = w) ∨ (i ≤ g.1 ∧ g.1 < n + m))
  | [], n, h, m, o', hm => by simp at hm
  | o :: G, n, h, m, o', hm => by
    simp only [inner, Bool.and_eq_true] at h
    obtain ⟨⟨h1, h2⟩, h3⟩ := h
    cases m with
    | zero =>
      cases hm
      refine ⟨?_, ?_⟩
      · cases hd : o.dst with
        | none => rfl
        | some d => simp only [hd] at h2; exact h2
      · cases hg : o.guard with
        | none => simp only [hg] at h1; cases h1
        | some g =>
          simp only [hg, Bool.and_eq_true, Bool.or_eq_true] at h1
          obtain ⟨h4, h5⟩ := h1
          refine ⟨g, rfl, ?_, ?_⟩
          · cases hb : (ops[g.1]?).bind (·.dst) with
            | none => simp only [hb] at h5; cases h5
            | some tg =>
              obtain ⟨og, k1, k2⟩ := Option.bind_eq_some_iff.1 hb
              exact ⟨og, tg, k1, k2⟩
          · rcases h4 with h4 | h4
            · exact .inl ⟨beq_true h4.1, by simpa using h4.2⟩
            · have e1 := Nat.le_of_ble_eq_true h4.1
              have e2 : g.1 < n := Nat.le_of_ble_eq_true h4.2
              exact .inr ⟨e1, by omega⟩
    | succ m =>
      obtain ⟨k1, g, k2, k3, k4⟩ := inner_at G (n + 1) h3 m o' (by simpa using hm)
      exact ⟨k1, g, k2, k3, k4.imp id (fun h => ⟨h.1, by omega⟩)⟩
theorem skip_all {P : Program} {j t : Nat} {oj : Oper} {w : Bool} {prot : List Nat} (hdst : ∀ (n : Nat) (o : Oper), ops[n]? = some o → DstIn X o) (hmeta : ∀ (n : Nat) (o : Oper), ops[n]? = some o → MetaAt ops lim n o) (hj : ops[j]? = some oj) (hjd : oj.dst = some t) (ht : t ∈ prot) :
    ∀ (G : List Oper) (n : Nat) (W : St), (∀ (m : Nat) (o : Oper), G[m]? = some o → ops[n + m]? = some o) → i ≤ n → (∀ (m : Nat) (o : Oper), G[m]? = some o → notIn prot o.dst = true ∧ ∃ g, o.guard = some g ∧ (∃ og tg, ops[g.1]? = some og ∧ og.dst = some tg) ∧ ((g.1 = j ∧ g.2 = w) ∨ (i ≤ g.1 ∧ g.1 < n + m))) →
      W.env t = some (.bool (!w)) → (∀ m, i ≤ m → m < n → ∀ om, ops[m]? = some om → ∀ d, om.dst = some d → W.env d = some (.cv (.lit undef))) → (∀ W', Frame G W W' → W'.env t = some (.bool (!w)) → q W') → Wk P X ops lim n G W q
  | [], n, W, hG, hi, hin, ht', hun, hq => wk_nil (hq W (frame_refl _ _) ht')
  | o :: G, n, W, hG, hi, hin, ht', hun, hq => by
    have ho := hG 0 o rfl
    rw [Nat.add_zero] at ho
    obtain ⟨h1, g, h2, ⟨og, tg, h3, h4⟩, h5⟩ := hin 0 o rfl
    have hgf : GF ops o W := by
      refine ⟨g.1, g.2, og, tg, h2, h3, h4, ?_⟩
      rcases h5 with ⟨e1, e2⟩ | ⟨e1, e2⟩
      · rw [e1, hj] at h3
        cases h3
        rw [hjd] at h4
        cases h4
        left; rw [e2]; exact ht'
      · exact .inr (hun g.1 e1 (by omega) og h3 tg h4)
    have hne : o.dst ≠ some t := by
      intro e
      rw [e] at h1
      simp only [notIn, Bool.not_eq_true'] at h1
      rw [mem_iff.2 ht] at h1
      cases h1
    refine wk_skip ho (hmeta n o ho) hgf (hdst n o ho).inb ?_
    have eP : put W o.dst (.cv (.lit undef)) = putO W o.dst .undef := by cases hd : o.dst <;> rfl
    rw [eP]
    refine skip_all hdst hmeta hj hjd ht G (n + 1) _ (fun m o' hm => by have := hG (m + 1) o' (by simpa using hm); rw [show n + 1 + m = n + (m + 1) by omega]; exact this) (by omega) (fun m o' hm => ?_) (by rw [putO_env hne]; exact ht') (fun m hm1 hm2 om hom d hd => ?_) (fun W' hf ht2 => hq W' (frame_put hf) ht2)
    · obtain ⟨k1, g', k2, k3, k4⟩ := hin (m + 1) o' (by simpa using hm)
      exact ⟨k1, g', k2, k3, k4.imp id (fun h => ⟨h.1, by omega⟩)⟩
    · by_cases c : o.dst = some d
      · rw [c]
        simp [putO, Val.pv, V.put]
      · rw [putO_env c]
        by_cases c2 : m = n
        · subst c2
          rw [ho] at hom
          cases hom
          exact absurd hd c
        · exact hun m hm1 (by omega) om hom d hd
theorem find_forget : ∀ (G : List Oper) (S : ES) (t : Nat) (v : Val) (p : PV), find (S.forget G).env t = some v → v.pv = some p → (∀ o ∈ G, o.dst ≠ some t) ∧ find S.env t = some v
  | [], S, t, v, p, h, hp => ⟨fun o ho => by simp at ho, h⟩
  | o :: G, S, t, v, p, h, hp => by
    simp only [ES.forget] at h
    cases hd : o.dst with
    | none =>
      simp only [hd] at h
      obtain ⟨h1, h2⟩ := find_forget G S t v p h hp
      exact ⟨fun o' ho' => by rcases List.mem_cons.1 ho' with rfl | ho'; · rw [hd]; simp
                              · exact h1 o' ho', h2⟩
    | some d =>
      simp only [hd] at h
      obtain ⟨h1, h2⟩ := find_forget G (S.put d .any) t v p h hp
      simp only [ES.put, find] at h2
      split at h2
      · cases h2; cases hp
      · rename_i hb
        exact ⟨fun o' ho' => by rcases List.mem_cons.1 ho' with rfl | ho'; · rw [hd]; intro e; exact beq_false hb (Option.some.inj e).symm
                                · exact h1 o' ho', h2⟩
theorem forget_rows : ∀ (G : List Oper) (S : ES), (S.forget G).rows = S.rows
  | [], S => rfl
  | o :: G, S => by
    simp only [ES.forget]
    cases o.dst <;> simp only [forget_rows G] <;> rfl
theorem find_forget_out : ∀ (G : List Oper) (S : ES) (t : Nat), (∀ o ∈ G, o.dst ≠ some t) → find (S.forget G).env t = find S.env t
  | [], S, t, h => rfl
  | o :: G, S, t, h => by
    simp only [ES.forget]
    cases hd : o.dst with
    | none => exact find_forget_out G S t (fun o' ho' => h o' (List.mem_cons_of_mem _ ho'))
    | some d =>
      simp only
      rw [find_forget_out G _ t (fun o' ho' => h o' (List.mem_cons_of_mem _ ho'))]
      have : o.dst ≠ some t := h o List.mem_cons_self
      rw [hd] at this
      simp only [ES.put, find]
      split
      · rename_i hb; exact absurd (by rw [beq_true hb]) this
      · rfl
theorem sub_forget {G : List Oper} (hs : Sub S W) (hf : Frame G W W') : Sub (S.forget G) W' := by
  refine ⟨fun t v p h1 h2 => ?_, fun k => ?_⟩
  · obtain ⟨h3, h4⟩ := find_forget G S t v p h1 h2
    rw [hf.2 t h3]
    exact hs.env t v p h4 h2
  · rw [hf.1, forget_rows]
    exact hs.rows k
theorem boolR_ev {rd : Nat → Option Val} {rr : Nat → Option (Option ERow)} (hA : Agree W rd rr) {x : Operand} {b : Bool} (h : boolR rd x = some b) : ev W x = some (.bool b) := by
  unfold boolR at h
  split at h
  · rename_i b' hb
    cases h
    exact hA.evT hb
  · cases h
theorem pick_op {P : Program} {x y : Operand} {t : Nat} {b u : Bool} {pk : Oper} {d : Nat} (hd : DstIn X pk) (hpd : pk.dst = some d) (ho : pk.op = .pick (.tmp t) x y) (hc : ev W (.tmp t) = some (.bool b)) (hx : b = true → ev W x = some (.bool u)) (hy : b = false → ev W y = some (.bool u)) : OpTo P X pk W (putO (setO W none) pk.dst (.v .bool u)) :=
  pure_res (pure_pick ho hc hx hy) rfl hd.inb
end
end Go.Proofs.YtjimdhlmeebjeaaGreat.E
end
section
namespace Go.Proofs.YtjimdhlmeebjeaaGreat.E
open Go.RowKit Go.Proofs.YtjimdhlmeebjeaaGreatW.PrintWords Go.Proofs.YtjimdhlmeebjeaaGreatW.PrintMore Go.Proofs.YtjimdhlmeebjeaaGreat.V
set_option linter.unusedVariables false
section
variable {T : Tab} {X : Ctx} {S : ES} {W W' : St} {o : Oper} {ops : List Oper} {lim : Option (List Meta)} {ctx : Option (Nat × Bool)} {prot : List Nat} {i : Nat} {l : List Oper} {q : St → Prop} {F : Nat} {call : (g : Nat) → List Val → Option (T.out g).den} {β : Type}
theorem iteO_some {c : Option Cond} {x : Option β} {r : β} (h : iteO c x = some r) : (∀ c', c = some c' → c'.p) ∧ x = some r := by
  cases c with
  | none => exact ⟨fun c' h => (by cases h), h⟩
  | some c =>
    simp only [iteO] at h
    by_cases hp : c.p
    · rw [if_pos hp] at h
      exact ⟨fun c' hc => by cases hc; exact hp, h⟩
    · rw [if_neg hp] at h; cases h
theorem start_sub {A : ES} (hA : ∀ a w, Rel X S.st a w → Rel X A.st a w) (hs : Sub S W) (hc : CtxOk ops ctx prot W) : ∃ W1, Sub (startS ctx lim A S) W1 ∧ CtxOk ops ctx prot W1 ∧ (ctx.isSome = true → W1 = W) ∧ ∀ l q, Wk T.P X ops lim i l W1 q → Wk T.P X ops lim i l W q := by
  cases ctx with
  | some x => exact ⟨W, hs, hc, fun _ => rfl, fun _ _ h => h⟩
  | none =>
    cases lim with
    | some ms => exact ⟨W, hs, hc, fun _ => rfl, fun _ _ h => h⟩
    | none => exact ⟨A.st, sub_st A, trivial, fun h => (by cases h), fun l q h => .weak (fun a w hr => hA a w (rel_sub hs a w hr)) h⟩
def Goes (T : Tab) (X : Ctx) (ops : List Oper) (lim : Option (List Meta)) (ctx : Option (Nat × Bool)) (prot : List Nat) (i : Nat) (o : Oper) (l : List Oper) (W : St) (q : St → Prop) (k : ES → Option β) (r : β) : Prop :=
  ∀ S' W', Sub S' W' → CtxOk ops ctx prot W' → k S' = some r → (ctx.isSome = true → ∃ v, W' = putO W o.dst v) → Wk T.P X ops lim (i + 1) l W' q
theorem plain_sound (hT : tabOk T = true) {k : ES → Option β} {r : β} (ho : ops[i]? = some o) (hm : MetaAt ops lim i o) (hd : DstIn X o) (hg : gEq o.guard ctx = true) (hn : notIn prot o.dst = true) (hs : Sub S W) (hc : CtxOk ops ctx prot W) (h : plainE T F lim ctx i o S k = some r) (hk : Goes T X ops lim ctx prot i o l W q k r) : Wk T.P X ops lim i (o :: l) W q := by
  unfold plainE at h
  split at h
  · rename_i R hR
    split at h
    · rename_i hrv
      rw [Bool.and_eq_true] at hrv
      obtain ⟨hrow, hval⟩ := hrv
      obtain ⟨hcond, h2⟩ := iteO_some h
      have hrow2 : rowOk lim none i R.r = true ∧ (ctx.isSome = true → R.r = none) := by
        cases hr : R.r with
        | none => exact ⟨rfl, fun _ => rfl⟩
        | some x =>
          cases ctx with
          | none => rw [hr] at hrow; exact ⟨hrow, fun h => by cases h⟩
          | some c => rw [hr] at hrow; cases hrow
      refine wk_step (v := R.v) (r := R.r) ho hm hs (gt_of hc hg) hd.inb hrow2.1 hval (fun W0 hA => stepA_sound hT hA hd hR hcond) (hk _ _ hs.res ?_ h2 (fun hx => ⟨R.v, by rw [hrow2.2 hx]; rfl⟩))
      cases ctx with
      | none => trivial
      | some c =>
        rw [hrow2.2 rfl]
        exact ctx_put hc hn
    · cases h
  · cases h
theorem pick_sound {k : ES → Option β} {r : β} {c x y : Operand} (hop : o.op = .pick c x y) (ho : ops[i]? = some o) (hm : MetaAt ops lim i o) (hd : DstIn X o) (hg : gEq o.guard ctx = true) (hn : notIn prot o.dst = true) (hs : Sub S W) (hc : CtxOk ops ctx prot W) (h : pickE lim i o c x y S k = some r) (hk : Goes T X ops lim ctx prot i o l W q k r) : Wk T.P X ops lim i (o :: l) W q := by
  unfold pickE at h
  split at h
  · rename_i b u v d hcv hx hy hdd
    split at h
    case h_2 => cases h
    rename_i hval0
    have hval : ∀ z : Bool, valOk lim i (.v .bool z) = true := by
      intro z
      cases lim with
      | none => rfl
      | some ms =>
        cases hm' : ms[i]? with
        | none => simp only [valOk, hm'] at hval0; cases hval0
        | some m =>
          cases hk' : m.kl with
          | some j => simp only [valOk, hm', hk'] at hval0; cases hval0
          | none =>
            simp only [valOk, hm', hk']
            cases m.rf <;> rfl
    have key : ∀ z : Bool, (b = true → u = z) → (b = false → v = z) → ∀ W0, Agree W0 (rdL lim i S) (rrL lim i S) → OpTo T.P X o W0 (putO (setO W0 none) o.dst (.v .bool z)) := by
      intro z h1 h2 W0 hA
      exact pure_res (pure_pick hop (hA.evT hcv) (fun e => by rw [← h1 e]; exact hA.evT hx) (fun e => by rw [← h2 e]; exact hA.evT hy)) rfl hd.inb
    have fin : ∀ z : Bool, (b = true → u = z) → (b = false → v = z) → k (S.put d (.v .bool z)) = some r → Wk T.P X ops lim i (o :: l) W q := by
      intro z h1 h2 h3
      refine wk_step (v := .v .bool z) (r := none) ho hm hs (gt_of hc hg) hd.inb rfl (hval z) (key z h1 h2) (hk (S.put d (.v .bool z)) _ ?_ (ctx_put hc hn) h3 (fun _ => ⟨_, rfl⟩))
      rw [hdd]
      exact hs.put
    split at h
    · simp only [evo, cval, Option.some.injEq] at hx
      cases hx
      exact fin _ (fun e => by rw [e]; rfl) (fun e => by rw [e]; rfl) h
    · simp only [evo, cval, Option.some.injEq] at hy
      cases hy
      exact fin _ (fun e => by rw [e]; rfl) (fun e => by rw [e]; rfl) h
    · exact fin _ (fun e => by rw [e]; rfl) (fun e => by rw [e]; rfl) h
  · cases h
theorem resV_pv (b : Bool) (t : Ty) (r : t.den) : ∃ p, (resV b t r).pv = some p := by cases b <;> exact ⟨_, rfl⟩
theorem call_sound (hC : CallOk T call) {k : ES → Option β} {r : β} {c : Call} {x : Operand} (hop : o.op = .call c) (hcl : c.callee = .value x) (ho : ops[i]? = some o) (hm : MetaAt ops lim i o) (hd : DstIn X o) (hg : gEq o.guard ctx = true) (hn : notIn prot o.dst = true) (hs : Sub S W) (hc : CtxOk ops ctx prot W) (h : callE T call lim ctx i o c x S k = some r) (hk : Goes T X ops lim ctx prot i o l W q k r) : Wk T.P X ops lim i (o :: l) W q := by
  unfold callE at h
  split at h
  · rename_i g d hx hdd
    split at h
    · rename_i ts hts hl
      split at h
      · rename_i vs hvs
        obtain ⟨rr, h1, h2⟩ := Option.bind_eq_some_iff.1 h
        split at h2
        case h_2 => cases h2
        rename_i hval
        obtain ⟨⟨fn, f1, f2, f3⟩, p, hp, hF⟩ := hC.fn g vs rr hl h1
        refine wk_step (v := resV (T.several g) (T.out g) rr) (r := none) ho hm hs (gt_of hc hg) hd.inb rfl hval (fun W0 hA => ?_) (hk _ _ ?_ (ctx_put hc hn) h2 (fun _ => ⟨_, rfl⟩))
        · obtain ⟨a1, a2⟩ := args_plain hA _ _ _ _ (fun j hj => by cases hj) hvs
          have := to_call (X := X) (S := W0) hop hcl (.inr (hA.evT hx)) f1 f2 f3 a1 (ren_all a2 0).2.2 hF hd.inb
          show OpTo T.P X o W0 (putO W0 o.dst _)
          rw [hdd] at this ⊢
          simp only [putO, hp]
          exact this
        · rw [hdd]
          exact hs.put
      · cases h
    · rename_i ts j e hts hl
      split at h
      · rename_i kk hlent hfun
        split at h
        · rename_i r0 vs hko hrow hvs
          split at h
          · rename_i tj htj
            split at h
            · rename_i z0 hlc
              obtain ⟨rr, h1, h2⟩ := Option.bind_eq_some_iff.1 h
              split at h2
              · rename_i v c2 y2 hout
                split at h2
                · rename_i qe hqe hrv
                  rw [Bool.and_eq_true] at hrv
                  obtain ⟨⟨fn, f1, f2, f3⟩, p, hp, yy, hv, hF⟩ := hC.lent g j e vs rr v c2 y2 hl h1 hout
                  have q2 := qe.down
                  subst q2
                  have hfn : x = .func g := by
                    cases x with
                    | func f =>
                      simp only [evo, Option.some.injEq] at hx
                      cases hx
                      rfl
                    | _ => simp at hfun
                  refine wk_step (v := v) (r := some (kk, lrow e tj y2)) ho hm hs (gt_of hc hg) hd.inb hrv.1 hrv.2 (fun W0 hA => ?_) (hk _ _ ?_ trivial h2 (fun hx => by cases hx))
                  · obtain ⟨a1, a2, e3, t3, y5, hr3, hvs3⟩ := args_lent hA (j := j) (k := kk) (rd' := rdL lim i S) (fun t v h => h) _ _ 0 vs (Nat.zero_le _) hvs hlent
                    rw [Nat.sub_zero] at a1 a2 hvs3
                    rw [hvs3] at hv
                    cases hv
                    rw [hrow] at hr3
                    cases hr3
                    have hlr := lcont_row hlc
                    have he : e3 = e := by
                      cases tj <;> (cases hlr; rfl)
                    subst he
                    have hk0 : W0.rows kk = some (lrow e3 tj yy).row := by
                      have := hA.rows kk _ hrow
                      cases tj <;> exact this
                    have := to_callW (X := X) (S := W0) (k := kk) hop (by rw [hcl, hfn]) f1 f2 f3 hF hk0 rfl a1 rfl a2 hd.inb (by simpa using hko)
                    rw [hdd] at this ⊢
                    simp only [putO, hp, setO]
                    exact this
                  · rw [hdd]
                    exact (hs.set (k := kk) (r := lrow e tj y2)).put (d := d) (v := v)
                · cases h2
              · cases h2
            · cases h
          · cases h
        · cases h
      · cases h
    · cases h
  · cases h
theorem append_sound (hT : tabOk T = true) {k : ES → Option β} {r : β} {c : Call} (hop : o.op = .call c) (hcl : c.callee = .builtin .append) (ho : ops[i]? = some o) (hm : MetaAt ops lim i o) (hd : DstIn X o) (hg : o.guard = none) (hs : Sub S W) (h : appendE T F lim i o c S k = some r)
    (hk : ∀ S' W', Sub S' W' → k S' = some r → Wk T.P X ops lim (i + 1) l W' q) : Wk T.P X ops lim i (o :: l) W q := by
  unfold appendE at h
  split at h
  · rename_i x y t t' d ha ht hdd
    split at h
    · rename_i e q' vx vy he hx hy
      split at h
      · rename_i b mm hb hmm htt
        rw [Bool.and_eq_true] at htt
        have e0 := beq_true htt.1
        subst e0
        obtain ⟨hu, hM, _⟩ := elc_m hT he
        obtain ⟨⟨inf, g1, g2⟩, hb1⟩ := by_m hT hb
        obtain ⟨inf', z, k1, k2, k3, k4, k5⟩ := made_cells hM htt.2
        rw [g1] at k1
        cases k1
        have hsz := (solid_m htt.2).2
        split at h
        · rename_i t1 j
          split at h
          · rename_i e' q2 l0 hrow hao
            split at h
            · rename_i l2 hl2 hee hkl
              rw [Bool.or_eq_false_iff] at hkl
              have hcond : (l2.length + mm.length) * b ≤ 140737488355328 := by
                split at h
                · exact (iteO_some h).1 _ rfl
                · exact (iteO_some h).1 _ rfl
              obtain ⟨eq2, hl3⟩ := cast_some hl2
              cases eq2
              have hl4 : l2 = l0 := hl3
              subst hl4
              have e1 := beq_true hee
              subst e1
              have hlen : (l2.length + mm.length) * 1 ≤ (l2.length + mm.length) * b := Nat.mul_le_mul_left _ hb1
              have e4 : (⟨e, inf.size, l2.length + mm.length, l2.flatMap q'.enc ++ mm.flatMap q'.enc⟩ : Row) = (ERow.arr e q' (l2 ++ mm)).row := by
                simp only [ERow.row, List.length_append, List.flatMap_append, k3]
              split at h
              case h_2 =>
                obtain ⟨_, h2⟩ := iteO_some h
                have e5 : (Ty.pv (.list q') (l2 ++ mm)) = .cv (.row (l2.length + mm.length) (l2.flatMap q'.enc ++ mm.flatMap q'.enc)) := by
                  show PV.cv (.row (l2 ++ mm).length ((l2 ++ mm).flatMap q'.enc)) = _
                  rw [List.length_append, List.flatMap_append]
                refine wk_give (j := j) (d := d) (c := .row (l2.length + mm.length) (l2.flatMap q'.enc ++ mm.flatMap q'.enc)) rfl ho hm hs hg hd.inb hdd hao (fun W0 hA => ?_) (hk _ _ ?_ h2)
                · have hx' : ev W0 (.tmp t1) = some (.own j) := hA.ev hx rfl
                  have hy' := hA.ev hy (coe_pv hmm)
                  have hk0 : W0.rows j = some ⟨e, q'.sz, l2.length, l2.flatMap q'.enc⟩ := hA.rows j _ hrow
                  exact to_append_give (X := X) (S := W0) hop hcl (arr_eq ha) (arr_eq ht) hu g1 k2 (by rw [k4, k3]) (by rw [k3]; exact hsz) hx' hk0 rfl k3.symm hy' (by rw [k3, flat_len]) (flat_one mm) (by
                    show l2.length + mm.length ≤ maxLen
                    simp only [maxLen]; omega) (by rw [g2]; exact hcond) (beq_false hkl.1) hkl.2 hd.inb
                · rw [hdd]
                  have h5 := (sub_drop (k := j) (E := S.env) (R := S.rows) (W := W) hs).put (d := d) (v := .v (.list q') (l2 ++ mm))
                  simp only [putO, Val.pv, e5] at h5
                  exact h5
              obtain ⟨_, h2⟩ := iteO_some h
              refine wk_grow (j := j) (d := d) (R := (ERow.arr e q' (l2 ++ mm)).row) ho hm hs hg hd.inb hdd hao hkl.2 (fun W0 hA => ?_) (hk _ _ ?_ h2)
              · have hx' : ev W0 (.tmp t1) = some (.own j) := hA.ev hx rfl
                have hy' := hA.ev hy (coe_pv hmm)
                have hk0 : W0.rows j = some ⟨e, q'.sz, l2.length, l2.flatMap q'.enc⟩ := hA.rows j _ hrow
                have := to_append (X := X) (S := W0) hop hcl (arr_eq ha) (arr_eq ht) hu g1 k2 (by rw [k4, k3]) (by rw [k3]; exact hsz) hx' hk0 rfl k3.symm hy' (by rw [k3, flat_len]) (flat_one mm) (by
                  show l2.length + mm.length ≤ maxLen
                  simp only [maxLen]; omega) (by rw [g2]; exact hcond) (beq_false hkl.1) hkl.2 hd.inb
                rw [← e4]
                exact this
              · rw [hdd]
                exact ((sub_kill (k := j) (E := S.env) (R := S.rows) (W := W) hs).set (k := j) (r := .arr e q' (l2 ++ mm))).put (d := d) (v := .own j)
            · cases h
          · cases h
        · split at h
          · rename_i hrow hval hro
            obtain ⟨hcond, h2⟩ := iteO_some h
            have hcond := hcond _ rfl
            have hlen : mm.length * 1 ≤ mm.length * b := Nat.mul_le_mul_left _ hb1
            refine wk_step (v := .own d) (r := some (d, .arr e q' mm)) ho hm hs (.inl hg) hd.inb hro hval (fun W0 hA => ?_) (hk _ _ ?_ h2)
            · have hy' := hA.ev hy (coe_pv hmm)
              have hk0 : W0.rows d = none := hA.rows d _ hrow
              have := to_clone_own (X := X) (W := W0) (k := d) hop hcl (arr_eq ha) (arr_eq ht) hu g1 k2 (by rw [k4, k3]) (by rw [k3]; exact hsz) hy' (by rw [k3, flat_len]) (flat_one mm) (by simp only [maxLen]; omega) (by rw [g2]; exact hcond) hk0 (hd d hdd).2 hd.inb
              rw [k3] at this
              rw [hdd] at this ⊢
              exact this
            · rw [hdd]
              have h5 : Sub (S.set d (.arr e q' mm)) (setRow W d (ERow.arr e q' mm).row) := hs.set
              exact h5.put (d := d) (v := .own d)
          · cases h
        · cases h
      · cases h
    · cases h
  · cases h
end
end Go.Proofs.YtjimdhlmeebjeaaGreat.E
end
section
namespace Go.Proofs.YtjimdhlmeebjeaaGreat.E
open Go.RowKit Go.Proofs.YtjimdhlmeebjeaaGreatW.PrintWords Go.Proofs.YtjimdhlmeebjeaaGreatW.PrintMore Go.Proofs.YtjimdhlmeebjeaaGreat.V
set_option linter.unusedVariables false
section
variable {T : Tab} {X : Ctx} {ops : List Oper} {lim : Option (List Meta)} {F : Nat} {call : (g : Nat) → List Val → Option (T.out g).den}
theorem valOk_v {i : Nat} {o : Oper} {t : Ty} {y : t.den} (hm : MetaAt ops lim i o) (hg : growsT o = none) : valOk lim i (.v t y) = true := by
  cases lim with
  | none => rfl
  | some ms =>
    obtain ⟨m, h1, _, _, h4⟩ := hm
    have hk : m.kl = none := h4.resolve_right (fun h => by obtain ⟨_, t, ht⟩ := h; rw [hg] at ht; cases ht)
    simp only [valOk, h1, hk]
    cases m.rf <;> rfl
theorem rdL_put {i : Nat} {S S' : ES} {t : Nat} {v : Val} (h : rdL lim i S t = some v) {t' : Nat} {u : Val} {c : Ty} {y : c.den} (hv : u = .v c y) (hf : find S'.env t' = some u) (ht : t' = t) : rdL lim i S' t' = some u := by
  subst ht
  subst hv
  cases lim with
  | none => exact hf
  | some ms =>
    cases hm : ms[i]? with
    | none => simp only [rdL, hm] at h; cases h
    | some m =>
      cases hb : mem m.rt t' with
      | false => simp only [rdL, hm, hb] at h; cases h
      | true =>
        simp only [rdL, hm, hb, hf]
        cases m.rf <;> rfl
theorem op_sound (hT : tabOk T = true) (hC : CallOk T call) {β : Type} {S : ES} {W : St} {o : Oper} {ctx : Option (Nat × Bool)} {prot : List Nat} {i : Nat} {l : List Oper} {q : St → Prop} {k : ES → Option β} {r : β} (ho : ops[i]? = some o) (hm : MetaAt ops lim i o) (hd : DstIn X o) (hg : gEq o.guard ctx = true) (hn : notIn prot o.dst = true) (hs : Sub S W) (hc : CtxOk ops ctx prot W) (h : opE T F call lim ctx i o S k = some r) (hk : Goes T X ops lim ctx prot i o l W q k r) : Wk T.P X ops lim i (o :: l) W q := by
  have plain : ∀ (k' : ES → Option β), plainE T F lim ctx i o (startS ctx lim ((S.giveAll (handed T ((find T.own F).getD []) S o)).fresh ((find T.own F).getD []) o) S) k = some r → Wk T.P X ops lim i (o :: l) W q := by
    intro _ h
    obtain ⟨W1, h1, h2, h3, h4⟩ := start_sub (T := T) (X := X) (lim := lim) (i := i) (ctx := ctx) (A := (S.giveAll (handed T ((find T.own F).getD []) S o)).fresh ((find T.own F).getD []) o) (fun a w hr => fresh_rel _ o a w (giveAll_rel _ _ a w hr)) hs hc
    refine h4 _ _ (plain_sound hT ho hm hd hg hn h1 h2 h (fun S' W' g1 g2 g3 g4 => hk S' W' g1 g2 g3 (fun hx => ?_)))
    rw [← h3 hx]
    exact g4 hx
  unfold opE at h
  split at h
  · rename_i c hop
    split at h
    · rename_i x hcl
      obtain ⟨W1, h1, h2, h3, h4⟩ := start_sub (T := T) (X := X) (lim := lim) (i := i) (ctx := ctx) (A := S.giveAll (ownsVs S (kept T x c.args.toList))) (giveAll_rel _ _) hs hc
      refine h4 _ _ (call_sound hC hop hcl ho hm hd hg hn h1 h2 h (fun S' W' g1 g2 g3 g4 => hk S' W' g1 g2 g3 (fun hx => ?_)))
      rw [← h3 hx]
      exact g4 hx
    · rename_i b hcl
      split at h
      · exact plain k h
      · rename_i hb
        split at h
        · have hcl' : c.callee = .builtin .append := by
            rw [hcl]
            cases b <;> first | rfl | (cases hb; done)
          have hgt : o.guard = none := gEq_eq hg
          obtain ⟨W1, h1, h2, h3, h4⟩ := start_sub (T := T) (X := X) (lim := lim) (i := i) (ctx := none) (prot := prot) (ops := ops) (A := (S.giveAll (ownsVs S (c.args.toList.drop 1))).fresh ((find T.own F).getD []) o) (fun a w hr => fresh_rel _ o a w (giveAll_rel _ _ a w hr)) hs trivial
          exact h4 _ _ (append_sound hT hop hcl' ho hm hd hgt h1 h (fun S' W' g1 g2 => hk S' W' g1 trivial g2 (fun hx => by cases hx)))
        · cases h
    · cases h
  · rename_i c x y hop
    exact pick_sound hop ho hm hd hg hn hs hc h hk
  · exact plain k h
theorem run_sound (hT : tabOk T = true) (hC : CallOk T call) (hdst : ∀ (n : Nat) (o : Oper), ops[n]? = some o → DstIn X o) (hmeta : ∀ (n : Nat) (o : Oper), ops[n]? = some o → MetaAt ops lim n o) :
    ∀ (n : Nat) (β : Type) (ctx : Option (Nat × Bool)) (prot : List Nat) (i : Nat) (l : List Oper) (S : ES) (K : ES → Option β) (r : β), run T F call ops lim n β ctx prot i l S K = some r → ∀ (W : St) (q : St → Prop), (∀ (m : Nat) (o : Oper), l[m]? = some o → ops[i + m]? = some o) → Sub S W → CtxOk ops ctx prot W →
      (∀ S' W', Sub S' W' → K S' = some r → (ctx.isSome = true → Frame l W W') → q W') → Wk T.P X ops lim i l W q := by
  intro n
  induction n with
  | zero => intro β ctx prot i l S K r h; cases h
  | succ n ih =>
    intro β ctx prot i l S K r h W q hl hs hc hK
    cases l with
    | nil => exact wk_nil (hK S W hs h (fun _ => frame_refl _ _))
    | cons o l' =>
      have ho := hl 0 o rfl
      rw [Nat.add_zero] at ho
      simp only [run] at h
      split at h
      · rename_i hg
        split at h
        · cases h
        · rename_i hn
          refine op_sound hT hC ho (hmeta i o ho) (hdst i o ho) hg hn hs hc h (fun S' W' g1 g2 g3 g4 => ih β ctx prot (i + 1) l' S' K r g3 W' q (fun m o' hm => ?_) g1 g2 (fun S2 W2 k1 k2 k3 => hK S2 W2 k1 k2 (fun hx => ?_)))
          · have := hl (m + 1) o' (by simpa using hm)
            rw [show i + 1 + m = i + (m + 1) by omega]
            exact this
          · obtain ⟨v, hv⟩ := g4 hx
            exact frame_put (v := v) (by rw [← hv]; exact k3 hx)
      · rename_i hg
        split at h
        · cases h
        · rename_i j w hgd
          split at h
          · cases h
          · rename_i t htj
            obtain ⟨oj, hj, hjd⟩ := Option.bind_eq_some_iff.1 htj
            split at h
            · cases h
            · rename_i G pk rest hcut
              obtain ⟨hle, px, py, hpop⟩ := cutP_eq _ _ _ _ hcut
              obtain ⟨W1, h1, h2, h3, h4⟩ := start_sub (T := T) (X := X) (lim := lim) (i := i) (ctx := ctx) (A := S.giveOps T ((find T.own F).getD []) G) (giveOps_rel _ _ _) hs hc
              generalize startS ctx lim (S.giveOps T ((find T.own F).getD []) G) S = S1 at h h1
              split at h
              · rename_i b c0 x y d hft hin hpg hpn hpo hpd
                rw [hpop] at hpo
                cases hpo
                split at h
                · rename_i other b1 hoth htst
                  obtain ⟨y', e1, e2⟩ := Option.bind_eq_some_iff.1 h
                  refine h4 _ _ ?_
                  rw [hle]
                  have hlen : ∀ (m : Nat) (o' : Oper), (G ++ pk :: rest)[m]? = some o' → ops[i + m]? = some o' := by rw [← hle]; exact hl
                  have hG : ∀ (m : Nat) (o' : Oper), G[m]? = some o' → ops[i + m]? = some o' := fun m o' hm => hlen m o' (by rw [List.getElem?_append_left (List.getElem?_eq_some_iff.1 hm).1]; exact hm)
                  have hpk : ops[i + G.length]? = some pk := hlen G.length pk (by rw [List.getElem?_append_right (Nat.le_refl _), Nat.sub_self]; rfl)
                  have hrest : ∀ (m : Nat) (o' : Oper), rest[m]? = some o' → ops[i + G.length + 1 + m]? = some o' := fun m o' hm => by
                    have := hlen (G.length + 1 + m) o' (by rw [List.getElem?_append_right (by omega), show G.length + 1 + m - G.length = m + 1 by omega]; simpa using hm)
                    rw [show i + G.length + 1 + m = i + (G.length + 1 + m) by omega]
                    exact this
                  have hia := inner_at G i hin
                  have hnotp : ∀ o' ∈ G, notIn (t :: prot) o'.dst = true := fun o' ho' => by
                    obtain ⟨m, hm⟩ := List.getElem?_of_mem ho'
                    exact (hia m o' hm).1
                  have hnott : ∀ o' ∈ G, o'.dst ≠ some t := fun o' ho' e => by
                    have := hnotp o' ho'
                    rw [e] at this
                    simp [notIn, mem, Nat.beq_refl] at this
                  have hnotp2 : ∀ o' ∈ G, notIn prot o'.dst = true := fun o' ho' => by
                    have := hnotp o' ho'
                    cases hd : o'.dst with
                    | none => rfl
                    | some d' =>
                      rw [hd] at this
                      simp only [notIn, Bool.not_eq_true'] at this ⊢
                      cases hb : mem prot d' with
                      | false => rfl
                      | true =>
                        have : mem (t :: prot) d' = true := mem_iff.2 (List.mem_cons_of_mem _ (mem_iff.1 hb))
                        simp_all
                  have ht1 : W1.env t = some (.bool b) := h1.env t _ _ hft rfl
                  have behind : ∀ W', Frame G W1 W' → ∀ (Sp : ES), Sub Sp W' → (∀ W0, Agree W0 (rdL lim (i + G.length) Sp) (rrL lim (i + G.length) Sp) → OpTo T.P X pk W0 (putO (setO W0 none) pk.dst (.v .bool y'))) → Wk T.P X ops lim (i + G.length) (pk :: rest) W' q := by
                    intro W' hf Sp hsp hop
                    have hc' := ctx_frame h2 hf hnotp2
                    refine wk_step (v := .v .bool y') (r := none) hpk (hmeta _ _ hpk) hsp (gt_of hc' hpg) (hdst _ _ hpk).inb rfl (valOk_v (hmeta _ _ hpk) (by rw [growsT, hpop])) hop ?_
                    refine ih β ctx prot (i + G.length + 1) rest _ K r e2 _ q hrest ?_ (ctx_put hc' hpn) (fun S2 W2 k1 k2 k3 => hK S2 W2 k1 k2 (fun hx => ?_))
                    · rw [hpd]
                      exact (sub_forget h1 hf).put
                    · have hf2 := frame_put (v := .v .bool y') (k3 hx)
                      rw [h3 hx] at hf
                      rw [hle]
                      exact ⟨hf2.1.trans hf.1, fun u hu => (hf2.2 u (fun o' ho' => hu o' (List.mem_append_right _ ho'))).trans (hf.2 u (fun o' ho' => hu o' (List.mem_append_left _ ho')))⟩
                  have htm : ∀ (Sx : ES), find Sx.env t = some (.v .bool b) → rdL lim (i + G.length) Sx t = some (.v .bool b) := by
                    intro Sx hx
                    unfold boolR at htst
                    split at htst
                    · rename_i b' hb'
                      exact rdL_put (v := .v .bool b') (t := t) hb' rfl hx rfl
                    · cases htst
                  have hft2 : find (S1.forget G).env t = some (.v .bool b) := by rw [find_forget_out G S1 t hnott]; exact hft
                  refine wk_app ?_
                  have taken : b = w → run T F call ops lim n Bool (some (j, w)) (t :: prot) i G S1 (fun S' => boolR (rdL lim (i + G.length) S') (match w with | true => px | false => py)) = some y' → Wk T.P X ops lim i G W1 (fun W' => Wk T.P X ops lim (i + G.length) (pk :: rest) W' q) := by
                    intro hbw hrun
                    refine ih Bool (some (j, w)) (t :: prot) i G S1 _ y' hrun W1 _ hG h1 ⟨oj, t, hj, hjd, List.mem_cons_self, by rw [ht1, hbw]⟩ (fun S' W' k1 k2 k3 => ?_)
                    have hf := k3 rfl
                    have ht' : W'.env t = some (.bool b) := by rw [hf.2 t hnott]; exact ht1
                    have hsp : Sub (S'.put t (.v .bool b)) W' := by
                      refine ⟨fun u v p f1 f2 => ?_, k1.rows⟩
                      simp only [ES.put, find] at f1
                      split at f1
                      · rename_i hb
                        cases f1
                        have := beq_true hb
                        subst this
                        cases f2
                        exact ht'
                      · exact k1.env u v p f1 f2
                    refine behind W' hf (S'.put t (.v .bool b)) hsp (fun W0 hA => ?_)
                    have hc0 : ev W0 (.tmp t) = some (.bool b) := hA.evT (x := .tmp t) (htm _ (by simp [ES.put, find, Nat.beq_refl]))
                    have hop : ∀ z : Operand, boolR (rdL lim (i + G.length) S') z = some y' → ev W0 z = some (.bool y') := by
                      intro z hz
                      unfold boolR at hz
                      split at hz
                      · rename_i b' hb'
                        cases hz
                        cases z with
                        | tmp u =>
                          have hb2 : rdL lim (i + G.length) S' u = some (.v .bool y') := hb'
                          by_cases cu : u = t
                          · subst cu
                            have := k1.env u _ _ (rdL_some hb2) rfl
                            rw [ht'] at this
                            cases this
                            exact hc0
                          · refine hA.evT (x := .tmp u) (t := .bool) (y := y') ?_
                            have hfu : find (S'.put t (.v .bool b)).env u = find S'.env u := by
                              simp only [ES.put, find]
                              have : Nat.beq u t = false := by
                                cases hb : Nat.beq u t with
                                | false => rfl
                                | true => exact absurd (beq_true hb) cu
                              rw [this]
                            exact rdL_put (t := u) hb2 rfl (by rw [hfu]; exact rdL_some hb2) rfl
                        | const cc => exact hA.evT (x := .const cc) hb'
                        | func f => cases hb'
                        | global g => cases hb'
                      · cases hz
                    have hz := hop _ k2
                    refine pick_op (hdst _ _ hpk) hpd hpop hc0 (fun hb => ?_) (fun hb => ?_)
                    · rw [hbw] at hb; subst hb; exact hz
                    · rw [hbw] at hb; subst hb; exact hz
                  have left : b = !w → other = y' → Wk T.P X ops lim i G W1 (fun W' => Wk T.P X ops lim (i + G.length) (pk :: rest) W' q) := by
                    intro hbw hy'
                    subst hy'
                    refine skip_all (i := i) hdst hmeta hj hjd (List.mem_cons_self (l := prot)) G i W1 hG (Nat.le_refl _) hia (by rw [ht1, hbw]) (fun m hm1 hm2 => by omega) (fun W' hf ht' => ?_)
                    refine behind W' hf (S1.forget G) (sub_forget h1 hf) (fun W0 hA => ?_)
                    have hc0 : ev W0 (.tmp t) = some (.bool b) := hA.evT (x := .tmp t) (htm _ hft2)
                    have hz := boolR_ev hA hoth
                    refine pick_op (hdst _ _ hpk) hpd hpop hc0 (fun hb => ?_) (fun hb => ?_)
                    · have : w = false := by rw [hb] at hbw; cases w with
                        | false => rfl
                        | true => cases hbw
                      subst this; exact hz
                    · have : w = true := by rw [hb] at hbw; cases w with
                        | false => cases hbw
                        | true => rfl
                      subst this; exact hz
                  cases w with
                  | true =>
                    cases b with
                    | true => exact taken rfl e1
                    | false => exact left rfl (Option.some.inj e1)
                  | false =>
                    cases b with
                    | true => exact left rfl (Option.some.inj e1)
                    | false => exact taken rfl e1
                · cases h
              · cases h
end
end Go.Proofs.YtjimdhlmeebjeaaGreat.E
end
section
namespace Go.Proofs.YtjimdhlmeebjeaaGreat.E
open Go.RowKit Go.Proofs.YtjimdhlmeebjeaaGreatW.PrintWords Go.Proofs.YtjimdhlmeebjeaaGreatW.PrintMore Go.Proofs.YtjimdhlmeebjeaaGreat.V
set_option linter.unusedVariables false
section
variable {T : Tab} {X : Ctx} {F nt : Nat} {call : (g : Nat) → List Val → Option (T.out g).den} {β : Type}
theorem dsts_in : ∀ (ops : List Oper), dstsOk nt ops = true → X.nt = nt → nt ≤ lent → ∀ (n : Nat) (o : Oper), ops[n]? = some o → DstIn X o
  | o :: ops, h, hX, hl, n, o', hn, d, hd => by
    simp only [dstsOk, Bool.and_eq_true] at h
    cases n with
    | zero =>
      cases hn
      have h1 := h.1
      simp only [hd] at h1
      have h2 : d < nt := Nat.le_of_ble_eq_true h1
      exact ⟨by rw [hX]; exact h2, Nat.ne_of_lt (Nat.lt_of_lt_of_le h2 hl)⟩
    | succ n => exact dsts_in ops h.2 hX hl n o' (by simpa using hn) d hd
  | [], _, _, _, n, o', hn, _, _ => by simp at hn
theorem region_sound (hT : tabOk T = true) (hC : CallOk T call) (hmix : T.P.follows .mixedOrders = true) {id : Nat} {ops : List Oper} {draw : Bool} {S : ES} {K : ES → Option β} {r : β} (hX : X.nt = nt) (h : region T F nt call ops draw S K = some r) {W : St} {Q : Post} (hs : Sub S W) (hK : ∀ S' W', Sub S' W' → K S' = some r → Q .normal W') : Sim T.P X (.region id ops.toArray draw) W Q := by
  unfold region at h
  split at h
  · cases h
  · rename_i hd
    rw [Bool.and_eq_true] at hd
    have hdst := dsts_in (X := X) ops hd.1 hX (Nat.le_of_ble_eq_true hd.2)
    split at h
    · have := run_sound (X := X) (ops := ops) (lim := none) (F := F) hT hC hdst (fun n o _ => trivial) _ β none [] 0 ops S K r h W (fun S' => Q .normal S') (fun m o hm => by rw [Nat.zero_add]; exact hm) hs trivial (fun S' W' h1 h2 _ => hK S' W' h1 h2)
      exact sim_region (pls_sim this)
    · dsimp only at h
      split at h
      · rename_i hm hA hO
        obtain ⟨g1, g2⟩ := metas_at ops _ hm
        have := run_sound (X := X) (ops := ops) (lim := some _) (F := F) hT hC hdst g2 _ β none [] 0 ops (S.giveOps T ((find T.own F).getD []) ops) K r h (S.giveOps T ((find T.own F).getD []) ops).st (fun S' => Q .normal S') (fun m o hm => by rw [Nat.zero_add]; exact hm) (sub_st _) trivial (fun S' W' h1 h2 _ => hK S' W' h1 h2)
        refine sim_weak (fun a w hr => giveOps_rel (T := T) ((find T.own F).getD []) ops S a w (rel_sub hs a w hr)) ?_
        have hdr := drs_dr (X := X) (P := T.P) (q := fun S' => Q .normal S') g1.symm ops 0 _ (by omega) this
        rw [List.drop_zero] at hdr
        exact sim_dr _ _ hdr hA hO hmix
      · cases h
theorem normG_rel : ∀ (l : List (Nat × Bool × TypeId)) (S : ES), ∀ a w, Rel X S.st a w → Rel X (normG l S).st a w
  | [], S, a, w, h => h
  | x :: l, S, a, w, h => by
    simp only [normG]
    split
    · exact normG_rel l S a w h
    · exact normG_rel l _ a w (giveAll_rel _ _ a w h)
theorem normV_find {S : ES} : ∀ (l : List (Nat × Bool × TypeId)) (t : Nat) (v : Val), find (normV T S l) t = some v → ∃ u, find S.env t = some u ∧ u.pv = v.pv
  | [], t, v, h => by cases h
  | x :: l, t, v, h => by
    simp only [normV] at h
    split at h
    · exact normV_find l t v h
    · exact normV_find l t v h
    · exact normV_find l t v h
    · exact normV_find l t v h
    · rename_i hf
      split at h
      · rename_i c hc
        simp only [find] at h
        split at h
        · rename_i hb
          cases h
          rw [beq_true hb]
          exact ⟨_, hf, rfl⟩
        · exact normV_find l t v h
      · exact normV_find l t v h
    · rename_i u _ _ _ _ _ hf
      simp only [find] at h
      split at h
      · rename_i hb
        cases h
        rw [beq_true hb]
        exact ⟨_, hf, rfl⟩
      · exact normV_find l t v h
    · exact normV_find l t v h
theorem normV_no {S : ES} : ∀ (l : List (Nat × Bool × TypeId)) (t : Nat) (v : Val), (t, v) ∈ normV T S l → (∀ fs, v ≠ .st fs) ∧ ∀ c x, v ≠ .tup c x
  | [], t, v, h => by cases h
  | x :: l, t, v, h => by
    simp only [normV] at h
    split at h
    · exact normV_no l t v h
    · exact normV_no l t v h
    · exact normV_no l t v h
    · exact normV_no l t v h
    · split at h
      · rcases List.mem_cons.1 h with h | h
        · cases h
          exact ⟨fun fs e => (by cases e), fun c x e => (by cases e)⟩
        · exact normV_no l t v h
      · exact normV_no l t v h
    · rename_i u h1 h2 h3 h4 h5 hf
      rcases List.mem_cons.1 h with h | h
      · cases h
        exact ⟨fun fs e => h3 fs e, fun c x e => h4 c x e⟩
      · exact normV_no l t v h
    · exact normV_no l t v h
theorem owns_back {S : ES} {acc : List (Nat × ERow)} (hacc : ∀ k r, find acc k = some r → find S.rows k = some r) : ∀ (js : List Nat) (k : Nat) (r : ERow), find (keepOwns S acc js) k = some r → find S.rows k = some r
  | [], k, r, h => hacc k r h
  | j :: js, k, r, h => by
    simp only [keepOwns] at h
    split at h
    · rename_i r0 hr0
      simp only [find] at h
      split at h
      · rename_i hb
        cases h
        rw [beq_true hb]
        exact hr0
      · exact owns_back hacc js k r h
    · exact owns_back hacc js k r h
theorem owns_keep {S : ES} {acc : List (Nat × ERow)} {k : Nat} {r : ERow} (h : find acc k = some r) (hr : find S.rows k = some r) : ∀ (js : List Nat), find (keepOwns S acc js) k = some r
  | [] => h
  | j :: js => by
    simp only [keepOwns]
    split
    · rename_i r0 hr0
      simp only [find]
      split
      · rename_i hb
        rw [beq_true hb] at hr
        rw [← hr0, hr]
      · exact owns_keep h hr js
    · exact owns_keep h hr js
theorem keep_back {S : ES} : ∀ (l : List (Nat × Val)) (k : Nat) (r : ERow), find (keepRows S l) k = some r → find S.rows k = some r
  | [], k, r, h => by
    simp only [keepRows] at h
    split at h
    · rename_i r0 hr0
      simp only [find] at h
      split at h
      · rename_i hb
        cases h
        rw [beq_true hb]
        exact hr0
      · cases h
    · cases h
  | x :: l, k, r, h => by
    simp only [keepRows] at h
    split at h
    · exact keep_back l k r h
    · split at h
      · rename_i r0 hr0
        simp only [find] at h
        split at h
        · rename_i hb
          cases h
          rw [beq_true hb]
          exact hr0
        · exact owns_back (fun k r h => keep_back l k r h) _ k r h
      · exact keep_back l k r h
theorem keep_all {S : ES} : ∀ (l : List (Nat × Val)) (t : Nat) (v : Val) (k : Nat) (r : ERow), (t, v) ∈ l → leadsTo v = some k → find S.rows k = some r → find (keepRows S l) k = some r
  | x :: l, t, v, k, r, hm, hv, hr => by
    simp only [keepRows]
    rcases List.mem_cons.1 hm with h | h
    · subst h
      simp only [hv, hr, find, Nat.beq_refl]
    · split
      · exact keep_all l t v k r h hv hr
      · split
        · rename_i k0 _ r0 hr0
          simp only [find]
          split
          · rename_i hb
            have := beq_true hb
            subst this
            rw [hr] at hr0
            exact hr0.symm
          · exact owns_keep (keep_all l t v k r h hv hr) hr _
        · exact keep_all l t v k r h hv hr
theorem norm_rel (lv : List (Nat × Bool × TypeId)) (S : ES) : ∀ a w, Rel X S.st a w → Rel X (norm T lv S).st a w := by
  intro a w h
  have h1 := normG_rel lv S a w h
  unfold norm
  generalize normG lv S = S1 at h1
  dsimp only
  split
  case h_2 => exact h1
  rename_i hown
  have env : ∀ t p, (ES.st ⟨normV T S1 lv, keepRows S1 (normV T S1 lv)⟩).env t = some p → S1.st.env t = some p ∧ ∃ v, (t, v) ∈ normV T S1 lv ∧ v.pv = some p := by
    intro t p ht
    simp only [ES.st] at ht ⊢
    obtain ⟨v, h2, h3⟩ := Option.bind_eq_some_iff.1 ht
    obtain ⟨u, h4, h5⟩ := normV_find lv t v h2
    exact ⟨by rw [h4]; simp only [Option.bind_some, h5, h3], v, find_mem h2, h3⟩
  have rows : ∀ k r, (ES.st ⟨normV T S1 lv, keepRows S1 (normV T S1 lv)⟩).rows k = some r → S1.st.rows k = some r := by
    intro k r hk
    simp only [ES.st] at hk ⊢
    obtain ⟨x, h2, rfl⟩ := Option.map_eq_some_iff.1 hk
    rw [keep_back _ k x h2]
    rfl
  refine h1.less (fun t p ht => (env t p ht).1) rows (fun t p ht w F L v hv => ?_) (fun j r hj => ?_)
  · obtain ⟨_, u, hu, hp⟩ := env t p ht
    have keep : ∀ k r, leadsTo u = some k → S1.st.rows k = some r → (ES.st ⟨normV T S1 lv, keepRows S1 (normV T S1 lv)⟩).rows k = some r := by
      intro k r hk hr
      simp only [ES.st] at hr ⊢
      obtain ⟨x, h2, rfl⟩ := Option.map_eq_some_iff.1 hr
      rw [keep_all _ t u k x hu hk h2]
      rfl
    obtain ⟨no1, no2⟩ := normV_no lv t u hu
    cases u with
    | v c x =>
      cases hp
      have hpl : closed (c.pv x) = true := closed_pv c x
      generalize c.pv x = p at hv hpl
      cases hv with
      | cv h => exact .cv h
      | ag hl h => exact .ag hl h
      | pr vs hs hF hc hd => exact .pr vs hs hF hc hd
      | tup => cases hpl
      | own => cases hpl
      | win => cases hpl
      | po => cases hpl
    | tup c x => exact absurd rfl (no2 c x)
    | st fs => exact absurd rfl (no1 fs)
    | nilS => cases hp; cases hv with | cv h => exact .cv h
    | undef => cases hp; cases hv with | cv h => exact .cv h
    | any => cases hp
    | own k =>
      cases hp
      cases hv with
      | own h => exact .own (keep _ _ rfl h)
    | po k off p =>
      cases hp
      cases hv with
      | po h hL ho => exact .po (keep _ _ rfl h) hL ho
    | pe k i sz off p =>
      cases hp
      cases hv with
      | po h hL ho => exact .po (keep _ _ rfl h) hL ho
    | pr c x =>
      cases hp
      cases hv with
      | pr vs hs hF hc hd => exact .pr vs hs hF hc hd
  · cases hf : find (keepRows S1 (normV T S1 lv)) j with
    | some x => exact .inl ⟨x.row, by simp only [ES.st, hf, Option.map_some]⟩
    | none =>
      refine .inr ⟨fun k r hk ho => ?_, fun t p ht => ?_⟩
      · simp only [ES.st] at hk
        obtain ⟨x, h2, rfl⟩ := Option.map_eq_some_iff.1 hk
        cases x with
        | arr e t l => exact shut_noref (flat_shut l) j
        | box e t y => exact enc_noref t y j
        | obox e fs =>
          show (fenc fs).any (refC j) = false
          cases hc : (fenc fs).any (refC j) with
          | false => rfl
          | true =>
            have hm := (ownsF_refs fs j).1 hc
            simp only [ownsOk, List.all_eq_true] at hown
            have := hown _ (find_mem h2) j hm
            simp only [ES.st] at hj
            obtain ⟨y, hy, _⟩ := Option.map_eq_some_iff.1 hj
            rw [hf, hy] at this
            cases this
      · obtain ⟨_, u, hu, hp⟩ := env t p ht
        obtain ⟨no1, no2⟩ := normV_no lv t u hu
        cases u with
        | v c x =>
          cases hp
          cases c with
          | pair a b => exact enc_noref (.pair a b) x j
          | _ => rfl
        | tup c x => exact absurd rfl (no2 c x)
        | st fs => exact absurd rfl (no1 fs)
        | any => cases hp
        | _ => cases hp; rfl
theorem normAt_rel (F id : Nat) (S : ES) : ∀ a w, Rel X S.st a w → Rel X (normAt T F id S).st a w := by
  intro a w h
  unfold normAt
  split
  · exact h
  · split
    · exact h
    · exact norm_rel _ _ a w h
def Says (T : Tab) (X : Ctx) (c : Code) (run : ES → (Exit → ES → Option β) → Option β) : Prop :=
  ∀ (S : ES) (K : Exit → ES → Option β) (r : β), run S K = some r → ∀ (W : St) (Q : Post), Sub S W → (∀ e S' W', Sub S' W' → K e S' = some r → Q e W') → Sim T.P X c W Q
theorem loop_sound {c : Code} {stp : ES → (Exit → ES → Option β) → Option β} {nm : ES → ES} (hnm : ∀ S a w, Rel X (ES.st S) a w → Rel X (nm S).st a w) (h : Says T X c stp) : ∀ (n : Nat) (S : ES) (K : Exit → ES → Option β) (r : β), loopN nm stp n S K = some r → ∀ (W : St) (Q : Post), Sub S W → (∀ e S' W', Sub S' W' → K e S' = some r → Q e W') → SimL T.P X c W Q
  | 0, S, K, r, hr, W, Q, hs, hK => by cases hr
  | n + 1, S, K, r, hr, W, Q, hs, hK => by
    refine simL_step (h S _ r hr W _ hs (fun e S' W' h1 h2 => ?_))
    cases e with
    | normal => exact simL_weak (fun a w hr => hnm S' a w (rel_sub h1 a w hr)) (loop_sound hnm h n (nm S') K r h2 _ Q (sub_st _) hK)
    | _ => exact hK _ _ _ h1 h2
theorem code_sound (hT : tabOk T = true) (hC : CallOk T call) (hmix : T.P.follows .mixedOrders = true) (hX : X.nt = nt) {n : Nat} : ∀ (c : Code), Says T X c (fun S (K : Exit → ES → Option β) => code T F nt call n c S K) := by
  intro c
  induction c with
  | skip => intro S K r h W Q hs hK; exact sim_skip (hK _ _ _ hs h)
  | label l => intro S K r h W Q hs hK; exact sim_label (hK _ _ _ hs h)
  | exit i => intro S K r h W Q hs hK; exact sim_exit (hK _ _ _ hs h)
  | ret => intro S K r h W Q hs hK; exact sim_ret (hK _ _ _ hs h)
  | region id ops draw =>
    intro S K r h W Q hs hK
    have := region_sound (X := X) (Q := Q) (id := id) hT hC hmix hX h hs (fun S' W' h1 h2 => hK _ _ _ h1 h2)
    rwa [Array.toArray_toList] at this
  | seq a b iha ihb =>
    intro S K r h W Q hs hK
    refine sim_seq (iha S _ r h W _ hs (fun e S' W' h1 h2 => ?_))
    cases e with
    | normal => exact sim_weak (fun a w hr => normAt_rel _ _ S' a w (rel_sub h1 a w hr)) (ihb _ K r h2 _ Q (sub_st _) hK)
    | _ => exact hK _ _ _ h1 h2
  | cond x a b iha ihb =>
    intro S K r h W Q hs hK
    simp only [code] at h
    split at h
    · rename_i v hv
      have hA : Agree W (find S.env) (fun k => some (find S.rows k)) := hs.agree (i := 0) (lim := none)
      refine sim_cond (boolR_ev hA hv) (fun hb => ?_) (fun hb => ?_)
      · rw [hb] at h; exact iha S K r h W Q hs hK
      · rw [hb] at h; exact ihb S K r h W Q hs hK
    · cases h
  | block i c ih =>
    intro S K r h W Q hs hK
    refine sim_block (ih S _ r h W _ hs (fun e S' W' h1 h2 => ?_))
    cases e with
    | exit j =>
      show if j = i then Q .normal W' else Q (.exit j) W'
      dsimp only at h2
      split at h2
      · rename_i hb
        rw [if_pos (beq_true hb)]
        exact hK _ _ _ h1 h2
      · rename_i hb
        rw [if_neg (beq_false hb)]
        exact hK _ _ _ h1 h2
    | _ => exact hK _ _ _ h1 h2
  | scope c ih =>
    intro S K r h W Q hs hK
    have := ih S _ r h W (fun e W' => match e with | .goto _ => False | e => Q e W') hs (fun e S' W' h1 h2 => by
      cases e with
      | goto l => cases h2
      | _ => exact hK _ _ _ h1 h2)
    exact fun a w hr => wp_scope_straight (Code.wp_mono (fun e a w ⟨S', q, r'⟩ => by
      cases e with
      | goto l => exact q.elim
      | _ => exact ⟨S', q, r'⟩) (this a w hr))
  | loop c ih =>
    intro S K r h W Q hs hK
    refine sim_loop (simL_weak (fun a w hr => normAt_rel F (fid c) S a w (rel_sub hs a w hr)) (loop_sound (nm := normAt T F (fid c)) (fun S a w h => normAt_rel _ _ S a w h) ih n _ K r h _ Q (sub_st _) hK))
  | _ => intro S K r h; cases h
end
end Go.Proofs.YtjimdhlmeebjeaaGreat.E
end
section
namespace Go.Proofs.YtjimdhlmeebjeaaGreat.E
open Go.RowKit Go.Proofs.YtjimdhlmeebjeaaGreatW.PrintWords Go.Proofs.YtjimdhlmeebjeaaGreatW.PrintMore Go.Proofs.YtjimdhlmeebjeaaGreat.V
set_option linter.unusedVariables false
section
variable {T : Tab} {X : Ctx} {F nt : Nat}
theorem sim_weakQ {P : Program} {c : Code} {W : St} {Q : Post} (h : Sim P X c W (fun e W' => ∃ W2, (∀ a w, Rel X W' a w → Rel X W2 a w) ∧ Q e W2)) : Sim P X c W Q := fun a w r =>
  Code.wp_mono (fun e a w ⟨S', ⟨W2, h1, h2⟩, r'⟩ => ⟨W2, h2, h1 a w r'⟩) (h a w r)
theorem res_at (hT : tabOk T = true) {S : ES} {W : St} (hs : Sub S W) {x : ResultVar} {v : Val} {t : Ty} {y : t.den} (h : resOf T S x = some v) (hy : coe t v = some y) : ResAt T.P W x (t.pv y) := by
  cases x with
  | tmp u => exact .tmp (hs.env u v _ h (coe_pv hy))
  | cell u ty =>
    simp only [resOf] at h
    split at h
    · rename_i k c2 hk hc2
      split at h
      · rename_i e c z hrow
        split at h
        · rename_i z' hz
          cases h
          obtain ⟨rfl, rfl⟩ := cast_some hz
          obtain ⟨rfl, rfl⟩ := cast_some hy
          have hM := ty_m hT hc2
          have hev : W.env u = some (.po k 0) := hs.env u _ _ hk rfl
          have hrw : W.rows k = some ⟨e, c.sz, 1, c.enc y⟩ := by rw [hs.rows, hrow]; rfl
          obtain ⟨ds, hu, hd⟩ := hM.und
          cases hag : c.isAg with
          | true =>
            obtain ⟨fs, rfl⟩ := desc_ag hd hag
            obtain ⟨inf, h1, h2, _⟩ := hM.info
            have := ResAt.agg (S := W) (off := 0) hev hu h1 hrw (by rw [Nat.zero_add, h2]; show c.sz ≤ (c.enc y).length; rw [enc_len]; exact Nat.le_refl _)
            rw [List.drop_zero, h2, List.take_of_length_le (by show (c.enc y).length ≤ _; rw [enc_len]; exact Nat.le_refl _)] at this
            rw [pv_ag hag]
            exact this
          | false =>
            obtain ⟨cc, h1, h2⟩ := pv_one hag y
            rw [h2]
            have hp := desc_plain hd hag
            refine .cell (ds := ds) hev hu ?_ hrw (by show (c.enc y)[0]? = _; rw [h1]; rfl)
            cases ds <;> first | rfl | cases hp
        · cases h
      · rename_i e fs hrow
        split at h
        · rename_i z hz
          cases h
          obtain ⟨rfl, rfl⟩ := cast_some hy
          have hM := ty_m hT hc2
          have hev : W.env u = some (.po k 0) := hs.env u _ _ hk rfl
          obtain ⟨e1, e2, hag⟩ := pack_enc _ _ _ hz
          have hrw : W.rows k = some ⟨e, fsz fs, 1, fenc fs⟩ := by rw [hs.rows, hrow]; rfl
          obtain ⟨ds, hu, hd⟩ := hM.und
          obtain ⟨sf, rfl⟩ := desc_ag hd hag
          obtain ⟨inf, h1, h2, _⟩ := hM.info
          have := ResAt.agg (S := W) (off := 0) hev hu h1 hrw (by rw [Nat.zero_add, h2]; show _ ≤ (fenc fs).length; rw [fenc_len, e2]; exact Nat.le_refl _)
          rw [List.drop_zero, h2, List.take_of_length_le (by show (fenc fs).length ≤ _; rw [fenc_len, e2]; exact Nat.le_refl _)] at this
          rw [pv_ag hag, ← e1]
          exact this
        · cases h
      · cases h
    · cases h
theorem out_res (hT : tabOk T = true) {S : ES} {W : St} (hs : Sub S W) {b : Bool} {t : Ty} {l : List ResultVar} {r : t.den} (h : outOf T S b t l = some r) : ∃ p, (resV b t r).pv = some p ∧ Results T.P W l p := by
  cases b with
  | false =>
    simp only [outOf] at h
    split at h
    · split at h
      · rename_i v hv
        exact ⟨_, rfl, .one (res_at hT hs hv h) (closed_pv _ _)⟩
      · cases h
    · cases h
  | true =>
    have cons : ∀ {t : Ty} {x : ResultVar} {l : List ResultVar} {r : t.den}, packT T S t (x :: l) = some r → ∃ a b, ∃ (y : a.den) (z : b.den), (⟨t, r⟩ : Σ t : Ty, t.den) = ⟨.pair a b, (y, z)⟩ ∧ (∃ v, resOf T S x = some v ∧ coe a v = some y) ∧ packT T S b l = some z := by
      intro t x l r h
      cases t with
      | pair a b =>
        simp only [packT] at h
        split at h
        · rename_i v hv
          split at h
          · rename_i y z hy hz
            cases h
            exact ⟨a, b, y, z, rfl, ⟨v, hv, hy⟩, hz⟩
          · cases h
        · cases h
      | _ => cases h
    have nil : ∀ {t : Ty} {r : t.den}, packT T S t [] = some r → ∃ e : t = .unit, True := by
      intro t r h
      cases t <;> first | exact ⟨rfl, trivial⟩ | cases h
    simp only [outOf] at h
    split at h
    · cases h
    · cases h
    · rename_i hn1 hn2
      match l, h, hn1, hn2 with
      | [], h, _, _ =>
        obtain ⟨rfl, _⟩ := nil h
        exact ⟨_, rfl, .zero⟩
      | [x], h, hn1, _ => exact absurd rfl (hn1 x)
      | [x, y], h, _, _ =>
        obtain ⟨a, b, y1, z1, ev1, ⟨v1, g1, g2⟩, h2⟩ := cons h; cases ev1
        obtain ⟨a2, b2, y2, z2, ev2, ⟨v2, g3, g4⟩, h3⟩ := cons h2; cases ev2
        obtain ⟨rfl, _⟩ := nil h3
        exact ⟨_, rfl, .two (res_at hT hs g1 g2) (res_at hT hs g3 g4) (closed_pv _ _) (closed_pv _ _)⟩
      | [x, y, z], h, _, _ =>
        obtain ⟨a, b, y1, z1, ev1, ⟨v1, g1, g2⟩, h2⟩ := cons h; cases ev1
        obtain ⟨a2, b2, y2, z2, ev2, ⟨v2, g3, g4⟩, h3⟩ := cons h2; cases ev2
        obtain ⟨a3, b3, y3, z3, ev3, ⟨v3, g5, g6⟩, h4⟩ := cons h3; cases ev3
        obtain ⟨rfl, _⟩ := nil h4
        exact ⟨_, rfl, .three (res_at hT hs g1 g2) (res_at hT hs g3 g4) (res_at hT hs g5 g6) (closed_pv _ _) (closed_pv _ _) (closed_pv _ _)⟩
      | x :: y :: z :: u :: l, h, _, hn2 => exact absurd rfl (hn2 x y z u l)
theorem giveRes_rel : ∀ (l : List ResultVar) (S : ES), ∀ a w, Rel X S.st a w → Rel X (giveRes S l).st a w
  | [], S, a, w, h => h
  | .tmp t :: l, S, a, w, h => giveRes_rel l _ a w (giveAll_rel _ _ a w h)
  | .cell _ _ :: l, S, a, w, h => giveRes_rel l _ a w (giveAll_rel _ _ a w h)
theorem zip_find : ∀ (vs : List Val) (i : Nat), ∀ t v, find (zipE i vs) t = some v → ∃ j, t = i + j ∧ vs[j]? = some v
  | [], i, t, v, h => by cases h
  | x :: vs, i, t, v, h => by
    simp only [zipE, find] at h
    split at h
    · rename_i hb
      cases h
      exact ⟨0, beq_true hb, rfl⟩
    · obtain ⟨j, e1, e2⟩ := zip_find vs (i + 1) t v h
      exact ⟨j + 1, by omega, by simpa using e2⟩
structure OrcOk (T : Tab) (orc : List (Nat × Orc T)) : Prop where
  fn : ∀ g o call k vs r, find orc g = some o → find T.lent_ g = none → CallOk T call → o.g call k vs = some r → CalleeOk T.P g ∧ ∃ p, (resV (T.several g) o.t r).pv = some p ∧ V.Fn T.P g (vs.map argPV) p
  no : ∀ g j e, find T.lent_ g = some (j, e) → find orc g = none
theorem callee_ok (hN : ∀ (f : Nat) (fn : Func), T.P.funcs[f]? = some fn → fn.name ≠ "runtime.NumGoroutine") {f : Nat} {fn : Func} {c : Code} (h : T.P.funcs[f]? = some fn) (hb : fn.body = some c) : CalleeOk T.P f := ⟨fn, h, hN f fn h, by rw [hb]; exact fun e => by cases e⟩
theorem fn_sound {orc : List (Nat × Orc T)} (hT : tabOk T = true) (hO : OrcOk T orc) (hmix : T.P.follows .mixedOrders = true) (hN : ∀ (f : Nat) (fn : Func), T.P.funcs[f]? = some fn → fn.name ≠ "runtime.NumGoroutine") : ∀ k, CallOk T (fn T orc k)
  | 0 => ⟨fun g vs r _ h => (by cases h), fun g j e vs r v c2 y2 _ h => (by cases h)⟩
  | k + 1 => by
    have ih := fn_sound hT hO hmix hN k
    refine ⟨fun g vs r hl h => ?_, fun g j e vs r v c2 y2 hl h hout => ?_⟩
    · simp only [fn] at h
      split at h
      · rename_i o ho
        split at h
        · rename_i q hq
          have key : ∀ (t : Ty) (e : o.t = t) (r : t.den), e ▸ o.g (fn T orc k) k vs = some r → ∃ r' : o.t.den, o.g (fn T orc k) k vs = some r' ∧ ∀ b, (resV b o.t r').pv = (resV b t r).pv := by
            intro t e r h
            subst e
            exact ⟨r, h, fun _ => rfl⟩
          obtain ⟨r', h1, h2⟩ := key _ q.down r h
          obtain ⟨g1, p, g2, g3⟩ := hO.fn g o _ k vs r' ho hl ih h1
          exact ⟨g1, p, by rw [← h2]; exact g2, g3⟩
        · cases h
      · split at h
        · rename_i f hf
          unfold body at h
          split at h
          · cases h
          · rename_i c hb
            split at h
            · cases h
            · rename_i hlen
              simp only [hl] at h
              have main : ∀ X : Ctx, X.nt = f.ntmps → Sim T.P X c ⟨env0 (vs.map argPV), nr⟩ (fun e W => (e = .ret ∨ e = .normal) ∧ ∃ W2, (∀ a w, Rel X W a w → Rel X W2 a w) ∧ ∃ p, (resV (T.several g) (T.out g) r).pv = some p ∧ Results T.P W2 f.results.toList p) := by
                intro X hX
                refine code_sound hT ih hmix hX c ⟨zipE 0 vs, []⟩ _ r h _ _ ⟨fun t v p h1 h2 => ?_, fun k => rfl⟩ (fun e S' W' h1 h2 => ?_)
                · obtain ⟨j, e1, e2⟩ := zip_find vs 0 t v h1
                  rw [Nat.zero_add] at e1
                  subst e1
                  show (vs.map argPV)[t]? = some p
                  rw [List.getElem?_map, e2]
                  simp only [Option.map_some, argPV, h2, Option.getD_some]
                · have fin : outOf T (giveRes S' f.results.toList) (T.several g) (T.out g) f.results.toList = some r → ∃ W2, (∀ a w, Rel X W' a w → Rel X W2 a w) ∧ ∃ p, (resV (T.several g) (T.out g) r).pv = some p ∧ Results T.P W2 f.results.toList p := by
                    intro h3
                    obtain ⟨p, g1, g2⟩ := out_res hT (sub_st (giveRes S' f.results.toList)) h3
                    exact ⟨_, fun a w hr => giveRes_rel _ S' a w (rel_sub h1 a w hr), p, g1, g2⟩
                  cases e with
                  | ret => exact ⟨.inl rfl, fin h2⟩
                  | normal => exact ⟨.inr rfl, fin h2⟩
                  | _ => cases h2
              obtain ⟨p, hp⟩ := resV_pv (T.several g) (T.out g) r
              refine ⟨callee_ok hN hf hb, p, hp, fn_of_sim hf hb (by rw [List.length_map]; exact Nat.le_of_ble_eq_true hlen) (fun X hX => sim_weakQ (sim_mono (main X hX) (fun e W ⟨h1, W2, h2, p', h3, h4⟩ => ⟨W2, h2, h1, ?_⟩)))⟩
              rw [hp] at h3
              cases h3
              exact h4
        · cases h
    · simp only [fn, hO.no g j e hl] at h
      split at h
      · rename_i f hf
        unfold body at h
        split at h
        · cases h
        · rename_i c hb
          split at h
          · cases h
          · rename_i hlen
            simp only [hl] at h
            split at h
            · rename_i c0 y0 hv0
              split at h
              · cases h
              rename_i hfit
              have hcc : c0 = c2 := by
                generalize T.out g = t at r hout hfit
                cases t with
                | pair a c1 =>
                  simp only [outV, Option.some.injEq, Prod.mk.injEq] at hout
                  have h2 := hout.2
                  cases h2
                  simp only [outFits] at hfit
                  cases hq : tyEq c0 c2 with
                  | none => rw [hq] at hfit; cases hfit
                  | some q => exact q.down
                | _ => cases hout
              have hlen' : (lentArgs j vs).length ≤ f.ntmps := by
                simp only [lentArgs, List.length_set, List.length_map]
                exact Nat.le_of_ble_eq_true hlen
              have hjl : j < vs.length := (List.getElem?_eq_some_iff.1 hv0).1
              have fin : ∀ (S : ES), finishL T (T.several g) e c0 f.results.toList S (T.out g) = some r → c0 = c2 ∧ (∃ p, v.pv = some p ∧ Results T.P S.st f.results.toList p) ∧ S.st.rows lent = some (lrow e c2 y2).row := by
                intro S hS
                generalize T.out g = t at r hout hS
                cases t with
                | pair a c1 =>
                  simp only [outV, Option.some.injEq, Prod.mk.injEq] at hout
                  obtain ⟨rfl, h2⟩ := hout
                  cases h2
                  simp only [finishL] at hS
                  split at hS
                  · rename_i q x r0 hq hx hrow
                    split at hS
                    · rename_i z hz
                      cases hS
                      refine ⟨q.down, out_res hT (sub_st S) hx, ?_⟩
                      simp only [ES.st, hrow, Option.map_some, lcont_row hz]
                    · cases hS
                  · cases hS
                | _ => cases hout
              have main : ∀ X : Ctx, X.nt = f.ntmps → Sim T.P X c ⟨env0 (lentArgs j vs), lentRow (lrow e c0 y0).row⟩ (fun ee W => (ee = .ret ∨ ee = .normal) ∧ ∃ W2, (∀ a w, Rel X W a w → Rel X W2 a w) ∧ c0 = c2 ∧ (∃ p, v.pv = some p ∧ Results T.P W2 f.results.toList p) ∧ W2.rows lent = some (lrow e c2 y2).row) := by
                intro X hX
                refine code_sound hT ih hmix hX c ⟨(j, lval c0) :: zipE 0 vs, [(lent, lrow e c0 y0)]⟩ _ r h _ _ ⟨fun t u p h1 h2 => ?_, fun k => ?_⟩ (fun ee S' W' h1 h2 => ?_)
                · show (lentArgs j vs)[t]? = some p
                  simp only [find] at h1
                  split at h1
                  · rename_i hb
                    cases h1
                    rw [lval_pv c0 y0] at h2
                    cases h2
                    rw [beq_true hb]
                    simp only [lentArgs, hv0]
                    rw [List.getElem?_set_self (by rw [List.length_map]; exact hjl)]
                  · rename_i hb
                    obtain ⟨m, e1, e2⟩ := zip_find vs 0 t u h1
                    rw [Nat.zero_add] at e1
                    subst e1
                    simp only [lentArgs]
                    rw [List.getElem?_set_ne (fun e => beq_false hb e.symm), List.getElem?_map, e2]
                    simp only [Option.map_some, argPV, h2, Option.getD_some]
                · simp only [find, lentRow]
                  by_cases ck : k = lent
                  · subst ck
                    rw [if_pos rfl, Nat.beq_refl]
                    rfl
                  · rw [if_neg ck]
                    have : Nat.beq k lent = false := by
                      cases hb : Nat.beq k lent with
                      | false => rfl
                      | true => exact absurd (beq_true hb) ck
                    rw [this]
                    rfl
                · have go : finishL T (T.several g) e c0 f.results.toList (giveRes S' f.results.toList) (T.out g) = some r → ∃ W2, (∀ a w, Rel X W' a w → Rel X W2 a w) ∧ c0 = c2 ∧ (∃ p, v.pv = some p ∧ Results T.P W2 f.results.toList p) ∧ W2.rows lent = some (lrow e c2 y2).row := fun h3 => ⟨_, fun a w hr => giveRes_rel _ S' a w (rel_sub h1 a w hr), fin _ h3⟩
                  cases ee with
                  | ret => exact ⟨.inl rfl, go h2⟩
                  | normal => exact ⟨.inr rfl, go h2⟩
                  | _ => cases h2
              obtain ⟨p, hp⟩ : ∃ p, v.pv = some p := by
                generalize T.out g = t at r hout
                cases t with
                | pair a c1 =>
                  simp only [outV, Option.some.injEq, Prod.mk.injEq] at hout
                  rw [← hout.1]
                  exact resV_pv _ _ _
                | _ => cases hout
              subst hcc
              refine ⟨callee_ok hN hf hb, p, hp, y0, hv0, fnW_of_sim hf hb hlen' (lrow_sz e c0 y2 y0) (fun X hX => sim_weakQ (sim_mono (main X hX) (fun ee W ⟨h1, W2, h2, _, ⟨p', h3, h4⟩, h5⟩ => ⟨W2, h2, h1, ?_, h5⟩)))⟩
              rw [hp] at h3
              cases h3
              exact h4
            · cases h
      · cases h
end
end Go.Proofs.YtjimdhlmeebjeaaGreat.E
end
section
namespace Go.Proofs.YtjimdhlmeebjeaaGreat.E
open Go.RowKit Go.Proofs.YtjimdhlmeebjeaaGreatW.PrintWords Go.Proofs.YtjimdhlmeebjeaaGreatW.PrintMore Go.Proofs.YtjimdhlmeebjeaaGreat.V Go.WideShapes
set_option linter.unusedVariables false
def Fine : (c : Ty) → c.den → Prop
  | .int k, n => (Lit.int k n).wf = true
  | .str, s => s.size ≤ maxLen
  | .list e, l => l.length ≤ maxLen ∧ ∀ x ∈ l, Fine e x
  | .pair a b, x => Fine a x.1 ∧ Fine b x.2
  | _, _ => True
mutual
def deep (T : Tab) : Nat → TypeId → Ty → Bool
  | 0, _, _ => false
  | n + 1, t, c => (match find T.ty t with
    | some c' => (tyEq c' c).isSome
    | none => false) && (match c with
    | .list c => match elc T t with
      | some (e, c') => (tyEq c' c).isSome && solid c && deep T n e c
      | none => false
    | .pair a b => match T.P.underlying t with
      | some (.struct fs) => deepFs T n fs.toList (.pair a b)
      | _ => false
    | .int _ => true
    | .bool => true
    | .str => true
    | _ => false)
def deepFs (T : Tab) : Nat → List Field → Ty → Bool
  | 0, _, _ => false
  | n + 1, f :: fs, .pair a b => deep T n f.type a && deepFs T n fs b
  | _ + 1, [], .unit => true
  | _, _, _ => false
end
section
variable {T : Tab} {H : Type} {enc : TypeId × Value → H} {w : World} {base : Nat} {spare : Nat → Bool} {held : Bool}
def DenAll (w : World) (cs : List Value) (ds : List CV) : Prop := cs.length = ds.length ∧ ∀ i (h : i < ds.length), Den w (.of fun b => b < w.heap.size) (cs.getD i undef) ds[i]
theorem ty_sz (hT : tabOk T = true) {t : TypeId} {c : Ty} (h : find T.ty t = some c) : T.P.cellsOf t = c.sz := by
  obtain ⟨inf, h1, h2, _⟩ := (ty_m hT h).info
  simp only [Program.cellsOf, h1, Option.map_some, Option.getD_some, h2]
theorem cells_at {a : Addr} {n : Nat} {l : List Value} (h : w.cells? base a n = some l) : l.length = n ∧ ∀ i, i < n → w.cell? (a.add i) = some (l.getD i undef) := by
  unfold World.cells? at h
  split at h
  · have key : ∀ (js : List Nat) (l : List Value), js.mapM (fun i => w.cell? (a.add i)) = some l → l.length = js.length ∧ ∀ i (hi : i < js.length), w.cell? (a.add js[i]) = some (l.getD i undef) := by
      intro js
      induction js with
      | nil => intro l h; simp at h; subst h; exact ⟨rfl, fun i hi => by simp at hi⟩
      | cons j js ih =>
        intro l h
        rw [List.mapM_cons] at h
        simp only [Option.bind_eq_bind, Option.pure_def, Option.bind_eq_some_iff] at h
        obtain ⟨v, h1, l', h2, h3⟩ := h
        cases h3
        obtain ⟨g1, g2⟩ := ih l' h2
        refine ⟨by simp [g1], fun i hi => ?_⟩
        cases i with
        | zero => exact h1
        | succ i => simpa using g2 i (by simpa using hi)
    obtain ⟨g1, g2⟩ := key _ l h
    refine ⟨by simpa using g1, fun i hi => ?_⟩
    have := g2 i (by simpa using hi)
    simpa using this
  · cases h
theorem cell_spot {a : Addr} {v : Value} (h : w.cell? a = some v) : a.spot = none ∧ a.block < w.heap.size := by
  unfold World.cell? at h
  split at h
  · rename_i c e f hb
    split at h
    · cases h
    · rename_i hs
      refine ⟨by simpa using hs, ?_⟩
      exact (Array.getElem?_eq_some_iff.1 hb).1
  · cases h
theorem den_append {cs cs' : List Value} {ds ds' : List CV} (h : DenAll w cs ds) (h' : DenAll w cs' ds') : DenAll w (cs ++ cs') (ds ++ ds') := by
  refine ⟨by rw [List.length_append, List.length_append, h.1, h'.1], fun i hi => ?_⟩
  rw [List.length_append] at hi
  by_cases c : i < ds.length
  · rw [List.getElem_append_left c]
    have := h.2 i c
    rw [List.getD_eq_getElem?_getD] at this ⊢
    rw [List.getElem?_append_left (by rw [h.1]; exact c)]
    exact this
  · rw [List.getElem_append_right (by omega)]
    have := h'.2 (i - ds.length) (by omega)
    rw [List.getD_eq_getElem?_getD] at this ⊢
    rw [List.getElem?_append_right (by rw [h.1]; omega), h.1]
    exact this
theorem trod_den (hT : tabOk T = true) : ∀ (fuel : Nat) (n : Nat) (t : TypeId) (c : Ty) (cs : List Value) (x : DataW H × List MemPlace), deep T n t c = true → DataW.trod enc T.P w base spare held fuel t cs = some x → ∃ y : c.den, Fine c y ∧ DenAll w cs (c.enc y) := by
  intro fuel
  induction fuel with
  | zero => intro n t c cs x hd h; simp [DataW.trod] at h
  | succ fuel ih =>
    intro n t c cs x hd h
    cases n with
    | zero => cases hd
    | succ n =>
      simp only [deep, Bool.and_eq_true] at hd
      obtain ⟨hd0, hd1⟩ := hd
      have hty : find T.ty t = some c := by
        split at hd0
        · rename_i c' hc
          cases hq : tyEq c' c with
          | none => rw [hq] at hd0; cases hd0
          | some q => rw [← q.down]; exact hc
        · cases hd0
      have hM := ty_m hT hty
      have one : ∀ (v : Value) (cv : CV), cs = [v] → Den w (.of fun b => b < w.heap.size) v cv → DenAll w cs [cv] := by
        intro v cv h1 h2
        subst h1
        refine ⟨rfl, fun i hi => ?_⟩
        have : i = 0 := by simp at hi; exact hi
        subst this
        exact h2
      cases c with
      | int k =>
        obtain ⟨m, h1, h2, h3⟩ := DataW.trod_int hM.int h
        exact ⟨m, h3, one _ _ h1 (.lit _)⟩
      | bool =>
        obtain ⟨b, h1, h2⟩ := DataW.trod_bool hM.bool h
        exact ⟨b, trivial, one _ _ h1 (.lit _)⟩
      | str =>
        obtain ⟨b, h1, h2, h3⟩ := DataW.trod_string hM.str h
        exact ⟨b, h3, one _ _ h1 (.lit _)⟩
      | fn => cases hd1
      | unit => cases hd1
      | list c =>
        dsimp only at hd1
        split at hd1
        · rename_i e c' he
          simp only [Bool.and_eq_true] at hd1
          obtain ⟨⟨hq, hs⟩, hdp⟩ := hd1
          have hcc : c' = c := by
            cases hq' : tyEq c' c with
            | none => rw [hq'] at hq; cases hq
            | some q => exact q.down
          subst hcc
          obtain ⟨hu, hMe, _⟩ := elc_m hT he
          have hsz := (solid_m hs).2
          have hce : T.P.cellsOf e = c'.sz := by
            obtain ⟨inf, h1, h2, _⟩ := hMe.info
            simp only [Program.cellsOf, h1, Option.map_some, Option.getD_some, h2]
          rcases DataW.trod_slice hu h with ⟨h1, _⟩ | ⟨a, len, cap, elems, rest, m, hfu, h1, _, hb, hl, hm, hlen, hel, _⟩
          · exact ⟨[], ⟨Nat.zero_le _, fun x hx => by cases hx⟩, one _ _ h1 (.nil _ _ (fun _ => rfl))⟩
          · cases hfu
            rw [hce] at hel
            have each : ∀ i, i < len → ∃ l y, w.cells? base (a.add (i * c'.sz)) c'.sz = some l ∧ Fine c' y ∧ DenAll w l (c'.enc y) := by
              intro i hi
              have := hel i hi
              rw [List.getElem?_eq_getElem (by omega)] at this
              obtain ⟨l, g1, g2⟩ := Option.bind_eq_some_iff.1 this
              obtain ⟨y, g3, g4⟩ := ih n e c' l _ hdp g2
              exact ⟨l, y, g1, g3, g4⟩
            rcases Nat.eq_zero_or_pos len with h0 | h0
            · subst h0
              exact ⟨[], ⟨Nat.zero_le _, fun x hx => by cases hx⟩, one _ _ h1 (.nil _ _ (fun h => by cases h))⟩
            · obtain ⟨l0, y0, k1, k2, k3⟩ := each 0 h0
              have hfirst := (cells_at k1).2 0 hsz
              rw [Nat.zero_mul] at hfirst
              have e0 : (a.add 0).add 0 = a := by simp [Addr.add]
              rw [e0] at hfirst
              obtain ⟨hspot, hblk⟩ := cell_spot hfirst
              have build : ∀ m, m ≤ len → ∃ (ys : List c'.den) (vs : Nat → Value), ys.length = m ∧ (∀ x ∈ ys, Fine c' x) ∧ ∀ i (hi : i < (ys.flatMap c'.enc).length), w.cell? (a.add i) = some (vs i) ∧ Den w (.of fun b => b < w.heap.size) (vs i) (ys.flatMap c'.enc)[i] := by
                intro m
                induction m with
                | zero => intro _; exact ⟨[], fun _ => undef, rfl, fun x hx => (by cases hx), fun i hi => by simp at hi⟩
                | succ m ihm =>
                  intro hmle
                  obtain ⟨ys, vs, g1, g2, g3⟩ := ihm (by omega)
                  obtain ⟨l, y, g4, g5, g6⟩ := each m (by omega)
                  obtain ⟨g7, g8⟩ := cells_at g4
                  have hyl : (ys.flatMap c'.enc).length = m * c'.sz := by rw [flat_len, g1]
                  refine ⟨ys ++ [y], fun i => if i < m * c'.sz then vs i else l.getD (i - m * c'.sz) undef, by simp [g1], fun x hx => ?_, fun i hi => ?_⟩
                  · rcases List.mem_append.1 hx with hx | hx
                    · exact g2 x hx
                    · rcases List.mem_singleton.1 hx with rfl; exact g5
                  · have hfl : (ys ++ [y]).flatMap c'.enc = ys.flatMap c'.enc ++ c'.enc y := by simp
                    have hi2 : i < m * c'.sz + c'.sz := by
                      rw [hfl, List.length_append, hyl, enc_len] at hi
                      exact hi
                    by_cases ci : i < m * c'.sz
                    · have := g3 i (by rw [hyl]; exact ci)
                      simp only [if_pos ci]
                      refine ⟨this.1, ?_⟩
                      have e1 : ((ys ++ [y]).flatMap c'.enc)[i] = (ys.flatMap c'.enc)[i]'(by rw [hyl]; exact ci) := by
                        simp only [hfl]
                        rw [List.getElem_append_left]
                      rw [e1]
                      exact this.2
                    · simp only [if_neg ci]
                      have hlt : i - m * c'.sz < c'.sz := by omega
                      have e1 := g8 (i - m * c'.sz) hlt
                      rw [V.add_add a hspot, show m * c'.sz + (i - m * c'.sz) = i by omega] at e1
                      refine ⟨e1, ?_⟩
                      have e2 : ((ys ++ [y]).flatMap c'.enc)[i] = (c'.enc y)[i - m * c'.sz]'(by rw [enc_len]; exact hlt) := by
                        simp only [hfl]
                        rw [List.getElem_append_right (by rw [hyl]; omega)]
                        simp only [hyl]
                      rw [e2]
                      exact g6.2 _ (by rw [enc_len]; exact hlt)
              obtain ⟨ys, vs, g1, g2, g3⟩ := build len (Nat.le_refl _)
              refine ⟨ys, ⟨by rw [g1]; omega, g2⟩, one _ _ h1 ?_⟩
              rw [show ys.length = len from g1]
              exact .row a len cap _ vs hspot hblk hl (fun i hi => (g3 i hi).1) (fun i hi => (g3 i hi).2)
        · cases hd1
      | pair a b =>
        dsimp only at hd1
        obtain ⟨fs, hu, hf⟩ := hM.st rfl
        simp only [hu] at hd1
        obtain ⟨xs, m, hfu, _, hlen, hxs, hall⟩ := DataW.trod_struct hu h
        cases hfu
        have key : ∀ (fl : List Field) (n : Nat) (c : Ty) (off : Nat), deepFs T n fl c = true → fieldsOk T.P fl c off = true → (∀ f ∈ fl, ∃ y, DataW.trod enc T.P w base spare held fuel f.type ((cs.drop f.offset).take (T.P.cellsOf f.type)) = some y) → off + c.sz = cs.length → ∃ y : c.den, Fine c y ∧ DenAll w (cs.drop off) (c.enc y) := by
          intro fl
          induction fl with
          | nil =>
            intro n c off h1 h2 h3 h4
            cases c with
            | unit => exact ⟨(), trivial, by simp [DenAll, Ty.enc, Ty.sz] at h4 ⊢; omega⟩
            | _ => cases h2
          | cons f fl ihf =>
            intro n c off h1 h2 h3 h4
            cases n with
            | zero => cases h1
            | succ n =>
              cases c with
              | pair a b =>
                simp only [deepFs, Bool.and_eq_true] at h1
                simp only [fieldsOk, Bool.and_eq_true] at h2
                obtain ⟨⟨⟨k1, k2⟩, k3⟩, k4⟩ := h2
                simp only [Ty.sz] at h4
                obtain ⟨y2, g1, g2⟩ := ihf n b (off + a.sz) h1.2 k4 (fun f' hf' => h3 f' (List.mem_cons_of_mem _ hf')) (by omega)
                obtain ⟨z, hz⟩ := h3 f List.mem_cons_self
                have hsz : T.P.cellsOf f.type = a.sz := by
                  unfold sizeOk at k3
                  split at k3
                  · rename_i inf hi
                    simp only [Program.cellsOf, hi, Option.map_some, Option.getD_some, beq_true k3]
                  · cases k3
                rw [hsz, beq_true k1] at hz
                obtain ⟨y1, g3, g4⟩ := ih n f.type a _ _ h1.1 hz
                refine ⟨(y1, y2), ⟨g3, g1⟩, ?_⟩
                have e1 : cs.drop off = (cs.drop off).take a.sz ++ cs.drop (off + a.sz) := by
                  rw [← List.drop_drop, List.take_append_drop]
                rw [e1]
                exact den_append g4 g2
              | _ => cases h2
        obtain ⟨y, g1, g2⟩ := key fs.toList n (.pair a b) 0 hd1 hf (fun f hf' => by
          obtain ⟨i, hi⟩ := List.getElem?_of_mem hf'
          rw [Array.getElem?_toList] at hi
          have := hall i f hi
          rw [this, List.getElem?_eq_getElem (by rw [hxs]; exact (Array.getElem?_eq_some_iff.1 hi).1)]
          exact ⟨_, rfl⟩) (by rw [hlen, Nat.zero_add]; exact (ty_sz hT hty).symm)
        exact ⟨y, g1, g2⟩
theorem arg_den (hT : tabOk T = true) {base' n : Nat} {t : TypeId} {c : Ty} {v : Value} {d : DataW H} {ps : List MemPlace} (hd : deep T n t c = true) (hty : find T.ty t = some c) (hok : Value.okWide T.P w .any base' t v) (h : DataW.Trod enc T.P w base spare held t v d ps) : ∃ y : c.den, Fine c y ∧ VRel w (.of fun b => b < w.heap.size) nr nl v (c.pv y) := by
  obtain ⟨fuel, h⟩ := h
  obtain ⟨y, h1, h2⟩ := trod_den hT fuel n t c _ _ hd h
  refine ⟨y, h1, ?_⟩
  have hM := ty_m hT hty
  obtain ⟨ds, hu, hdd⟩ := hM.und
  cases hag : c.isAg with
  | true =>
    obtain ⟨fs, rfl⟩ := desc_ag hdd hag
    obtain ⟨cs, rfl, _⟩ := okWide_struct hu hok
    rw [pv_ag hag]
    refine .ag (by simpa [Value.cells] using h2.1) (fun i hi => ?_)
    have := h2.2 i hi
    simpa [Value.cells, Array.getD_eq_getD_getElem?, List.getD_eq_getElem?_getD] using this
  | false =>
    obtain ⟨cc, g1, g2⟩ := pv_one hag y
    rw [g1] at h2
    rw [g2]
    have hv : v.cells = #[v] := by
      cases c with
      | int k => obtain ⟨m, rfl⟩ := okWide_int hM.int hok; rfl
      | bool => obtain ⟨m, rfl⟩ := okWide_bool hM.bool hok; rfl
      | str => obtain ⟨m, rfl⟩ := okWide_string hM.str hok; rfl
      | list e => obtain ⟨e', hu'⟩ := hM.list; obtain ⟨a, len, cap, rfl⟩ := okWide_slice hu' hok; rfl
      | fn =>
        cases n with
        | zero => cases hd
        | succ n => simp [deep] at hd
      | _ => cases hag
    have := h2.2 0 (by simp)
    rw [hv] at this
    exact .cv (by simpa using this)
end
end Go.Proofs.YtjimdhlmeebjeaaGreat.E
end
section
namespace Go.Proofs.YtjimdhlmeebjeaaGreat.E
open Go.RowKit Go.Proofs.YtjimdhlmeebjeaaGreatW.PrintWords Go.Proofs.YtjimdhlmeebjeaaGreatW.PrintMore Go.Proofs.YtjimdhlmeebjeaaGreat.V
set_option linter.unusedVariables false
def sub : Code → List Nat → Code
  | c, [] => c
  | .seq a b, n :: p => match n with
    | 0 => sub a p
    | _ => sub b p
  | .cond _ a b, n :: p => match n with
    | 0 => sub a p
    | _ => sub b p
  | .block _ c, _ :: p => sub c p
  | .loop c, _ :: p => sub c p
  | .scope c, _ :: p => sub c p
  | c, _ => c
def kont (T : Tab) (F nt : Nat) (call : (g : Nat) → List Val → Option (T.out g).den) (n : Nat) {β : Type} : Code → List Nat → List Nat → (Exit → ES → Option β) → (Exit → ES → Option β)
  | _, [], _, K => K
  | .seq a b, m :: p, ns, K => match m with
    | 0 => kont T F nt call n a p ns fun e S' => match e with
      | .normal => code T F nt call n b (normAt T F (fid b) S') K
      | e => K e S'
    | _ => kont T F nt call n b p ns K
  | .cond _ a b, m :: p, ns, K => match m with
    | 0 => kont T F nt call n a p ns K
    | _ => kont T F nt call n b p ns K
  | .block i c, _ :: p, ns, K => kont T F nt call n c p ns fun e S' => match e with
    | .exit j => match Nat.beq j i with
      | true => K .normal S'
      | false => K (.exit j) S'
    | e => K e S'
  | .scope c, _ :: p, ns, K => kont T F nt call n c p ns fun e S' => match e with
    | .goto _ => none
    | e => K e S'
  | .loop c, _ :: p, m :: ns, K => kont T F nt call n c p ns fun e S' => match e with
    | .normal => loopN (normAt T F (fid c)) (fun S K => code T F nt call n c S K) m (normAt T F (fid c) S') K
    | e => K e S'
  | _, _, _, K => K
def fin (T : Tab) (F : Nat) (rs : List ResultVar) (ln : Option (TypeId × Ty)) : Exit → ES → Option (T.out F).den := match ln with
  | none => fun e S => match e with
    | .ret => outOf T (giveRes S rs) (T.several F) (T.out F) rs
    | .normal => outOf T (giveRes S rs) (T.several F) (T.out F) rs
    | _ => none
  | some (te, c0) => fun e S => match e with
    | .ret => finishL T (T.several F) te c0 rs (giveRes S rs) (T.out F)
    | .normal => finishL T (T.several F) te c0 rs (giveRes S rs) (T.out F)
    | _ => none
def codeOf (f : Func) : Code := match f.body with
  | some c => c
  | none => .skip
def lAt (T : Tab) (orc : List (Nat × Orc T)) (k F : Nat) (f : Func) (ln : Option (TypeId × Ty)) (p : List Nat) (m : Nat) (ns : List Nat) (S : ES) : Option (T.out F).den := match sub (codeOf f) p with
  | .loop c => loopN (normAt T F (fid c)) (fun S K => code T F f.ntmps (fn T orc k) k c S K) m S (kont T F f.ntmps (fn T orc k) k (codeOf f) p ns (fin T F f.results.toList ln))
  | _ => none
end Go.Proofs.YtjimdhlmeebjeaaGreat.E
end
section
namespace Go.Proofs.YtjimdhlmeebjeaaGreat.E
open Go.RowKit Go.Proofs.YtjimdhlmeebjeaaGreatW.PrintWords Go.Proofs.YtjimdhlmeebjeaaGreatW.PrintMore Go.Proofs.YtjimdhlmeebjeaaGreat.V
set_option linter.unusedVariables false
variable {T : Tab}
def orc0 (ct : Ty) (f : Nat → Option ct.den) : Orc T := ⟨ct, fun _ k vs => match vs with
  | [] => f k
  | _ => none⟩
def orc1 (c0 ct : Ty) (f : Nat → c0.den → Option ct.den) : Orc T := ⟨ct, fun _ k vs => match vs with
  | [x0] => match coe c0 x0 with
    | some a0 => f k a0
    | none => none
  | _ => none⟩
def orc2 (c0 c1 ct : Ty) (f : Nat → c0.den → c1.den → Option ct.den) : Orc T := ⟨ct, fun _ k vs => match vs with
  | [x0, x1] => match coe c0 x0, coe c1 x1 with
    | some a0, some a1 => f k a0 a1
    | _, _ => none
  | _ => none⟩
def orc3 (c0 c1 c2 ct : Ty) (f : Nat → c0.den → c1.den → c2.den → Option ct.den) : Orc T := ⟨ct, fun _ k vs => match vs with
  | [x0, x1, x2] => match coe c0 x0, coe c1 x1, coe c2 x2 with
    | some a0, some a1, some a2 => f k a0 a1 a2
    | _, _, _ => none
  | _ => none⟩
structure OrcGood (T : Tab) (x : Nat × Orc T) : Prop where
  lent : find T.lent_ x.1 = none
  callee : CalleeOk T.P x.1
  fn : ∀ call k vs r, CallOk T call → x.2.g call k vs = some r → ∃ p, (resV (T.several x.1) x.2.t r).pv = some p ∧ V.Fn T.P x.1 (vs.map argPV) p
theorem orcOk_of {orc : List (Nat × Orc T)} (h : ∀ x ∈ orc, OrcGood T x) : OrcOk T orc :=
  ⟨fun g o call k vs r h1 h2 h3 h4 => ⟨(h _ (find_mem h1)).callee, (h _ (find_mem h1)).fn call k vs r h3 h4⟩,
   fun g j e h1 => by
    cases h2 : find orc g with
    | none => rfl
    | some o =>
      have := (h _ (find_mem h2)).lent
      rw [h1] at this
      cases this⟩
theorem argPV_coe {c : Ty} {v : Val} {x : c.den} (h : coe c v = some x) : argPV v = c.pv x := by simp only [argPV, coe_pv h, Option.getD_some]
theorem orc1_good {g : Nat} {c0 ct : Ty} {f : Nat → c0.den → Option ct.den} (hl : find T.lent_ g = none) (hc : CalleeOk T.P g) (hf : ∀ k a0 r, f k a0 = some r → ∃ p, (resV (T.several g) ct r).pv = some p ∧ V.Fn T.P g [c0.pv a0] p) : OrcGood T (g, orc1 c0 ct f) :=
  ⟨hl, hc, fun call k vs r _ h => by
    simp only [orc1] at h
    split at h
    · split at h
      · rename_i x0 a0 h0
        simp only [List.map_cons, List.map_nil, argPV_coe h0]
        exact hf k a0 r h
      · cases h
    · cases h⟩
theorem orc2_good {g : Nat} {c0 c1 ct : Ty} {f : Nat → c0.den → c1.den → Option ct.den} (hl : find T.lent_ g = none) (hc : CalleeOk T.P g) (hf : ∀ k a0 a1 r, f k a0 a1 = some r → ∃ p, (resV (T.several g) ct r).pv = some p ∧ V.Fn T.P g [c0.pv a0, c1.pv a1] p) : OrcGood T (g, orc2 c0 c1 ct f) :=
  ⟨hl, hc, fun call k vs r _ h => by
    simp only [orc2] at h
    split at h
    · split at h
      · rename_i x0 x1 _ _ a0 a1 h0 h1
        simp only [List.map_cons, List.map_nil, argPV_coe h0, argPV_coe h1]
        exact hf k a0 a1 r h
      · cases h
    · cases h⟩
theorem orc3_good {g : Nat} {c0 c1 c2 ct : Ty} {f : Nat → c0.den → c1.den → c2.den → Option ct.den} (hl : find T.lent_ g = none) (hc : CalleeOk T.P g) (hf : ∀ k a0 a1 a2 r, f k a0 a1 a2 = some r → ∃ p, (resV (T.several g) ct r).pv = some p ∧ V.Fn T.P g [c0.pv a0, c1.pv a1, c2.pv a2] p) : OrcGood T (g, orc3 c0 c1 c2 ct f) :=
  ⟨hl, hc, fun call k vs r _ h => by
    simp only [orc3] at h
    split at h
    · split at h
      · rename_i x0 x1 x2 _ _ _ a0 a1 a2 h0 h1 h2
        simp only [List.map_cons, List.map_nil, argPV_coe h0, argPV_coe h1, argPV_coe h2]
        exact hf k a0 a1 a2 r h
      · cases h
    · cases h⟩
theorem ints_enc (k : IntKind) (l : List Int) : l.flatMap (Ty.enc (.int k)) = V.ints k l := by
  induction l with
  | nil => rfl
  | cons x l ih => rw [List.flatMap_cons, ih]; rfl
theorem ints_pv (k : IntKind) (l : List Int) : PV.ints k l = (Ty.list (.int k)).pv l := congrArg (fun z => PV.cv (.row l.length z)) (ints_enc k l).symm
end Go.Proofs.YtjimdhlmeebjeaaGreat.E
end
section
namespace Go.Proofs.YtjimdhlmeebjeaaGreat.E
open Go.RowKit
abbrev c_runtime_errorAddressString : Ty := (.pair .str (.pair (.int .u64) .unit))
abbrev c_isochroneref02_Rat : Ty := (.pair .bool (.pair (.list (.int .i64)) (.pair (.list (.int .i64)) .unit)))
abbrev c_api_Rat : Ty := (.pair .bool (.pair (.list (.int .u32)) (.pair (.list (.int .u32)) .unit)))
abbrev c_runtime_boundsError : Ty := (.pair (.int .i64) (.pair (.int .i64) (.pair .bool (.pair (.int .u8) .unit))))
abbrev c_linear_row : Ty := (.pair (.list c_api_Rat) (.pair (.int .i64) (.pair (.int .i64) .unit)))
abbrev c_isochroneref05_Line : Ty := (.pair (.list c_isochroneref02_Rat) (.pair (.int .i64) (.pair c_isochroneref02_Rat .unit)))
abbrev c_api_Line : Ty := (.pair (.list c_api_Rat) (.pair (.int .i64) (.pair c_api_Rat .unit)))
abbrev c_linear_bounds : Ty := (.pair c_api_Rat (.pair c_api_Rat (.pair .bool (.pair .bool (.pair .bool (.pair .bool .unit))))))
abbrev c_rat_convergent : Ty := (.pair c_api_Rat (.pair c_api_Rat (.pair c_api_Rat (.pair c_api_Rat .unit))))
def tyTab : List (Nat × Ty) := [(1, .fn), (2, (.int .i64)), (3, (.int .i64)), (4, .bool), (5, (.int .u8)), (6, (.int .u8)), (7, c_runtime_boundsError), (8, c_runtime_boundsError), (9, .str), (10, .str), (11, .str), (12, (.int .u64)), (13, c_runtime_errorAddressString), (14, c_runtime_errorAddressString), (21, (.int .i32)), (22, (.list c_api_Line)), (23, .fn), (24, .fn), (25, .fn), (26, .fn), (27, (.list c_api_Rat)), (28, (.list (.int .u32))), (29, c_api_Rat), (30, c_api_Rat), (31, c_api_Line), (32, c_api_Line), (33, .fn), (34, (.list (.int .i64))), (35, (.list (.int .i64))), (36, c_isochroneref02_Rat), (37, c_isochroneref02_Rat), (38, .fn), (39, .fn), (40, .fn), (41, .fn), (42, .fn), (43, (.int .i64)), (45, .fn), (46, .fn), (47, (.list c_isochroneref02_Rat)), (48, .fn), (49, .fn), (50, (.list c_isochroneref05_Line)), (51, .fn), (52, .fn), (53, .fn), (55, .fn), (56, .fn), (57, .fn), (58, (.list (.int .i8))), (59, (.int .u16)), (60, .fn), (61, (.int .i8)), (62, .fn), (63, .fn), (65, .fn), (66, .fn), (67, .fn), (68, .fn), (69, .fn), (70, .fn), (71, .fn), (72, .fn), (73, .fn), (74, .fn), (76, .fn), (77, .fn), (78, .fn), (79, (.list c_linear_row)), (80, .fn), (81, .fn), (82, .fn), (83, c_linear_row), (84, c_linear_row), (85, .fn), (86, .fn), (87, c_isochroneref05_Line), (88, c_isochroneref05_Line), (89, .fn), (90, .fn), (91, .fn), (92, .fn), (93, .fn), (94, .fn), (95, .fn), (96, .fn), (97, .fn), (99, .fn), (100, c_linear_bounds), (101, c_linear_bounds), (102, .fn), (103, .fn), (104, .fn), (105, (.int .u32)), (106, .fn), (107, .fn), (108, .fn), (109, (.list (.list c_linear_row))), (110, .fn), (112, .fn), (113, (.int .u64)), (114, .fn), (115, .fn), (116, .fn), (117, .fn), (118, .fn), (119, .fn), (120, .fn), (121, .fn), (122, .fn), (123, .fn), (124, .fn), (125, (.int .u64)), (126, .fn), (127, .fn), (129, .fn), (131, .fn), (132, .fn), (133, .fn), (135, .fn), (137, .fn), (138, .fn), (139, .fn), (141, .fn), (143, .fn), (145, .fn), (146, .fn), (147, c_rat_convergent), (148, c_rat_convergent), (149, .fn), (150, .fn), (152, .fn), (153, .fn), (154, .fn), (155, .fn), (156, .fn), (157, .fn), (158, .fn), (160, .fn), (166, .fn)]
def elTab : List (Nat × Nat) := [(22, 32), (27, 30), (28, 105), (34, 3), (35, 3), (47, 37), (50, 88), (58, 61), (79, 84), (109, 79)]
def byTab : List (Nat × Nat) := [(3, 8), (30, 56), (32, 88), (37, 56), (61, 1), (79, 24), (84, 40), (88, 88), (105, 4)]
def parTab : List (Nat × List Ty) := [(3, [(.int .i64), (.list c_api_Line)]), (4, [(.int .i64), (.list c_api_Line), c_api_Line]), (5, [(.int .i64), (.list c_api_Line), (.int .i64), (.list c_api_Rat)]), (6, [(.int .i64), (.list c_api_Line), (.list c_api_Rat), (.list c_api_Rat)]), (7, [(.int .i64), (.list c_api_Line), (.list (.int .i8)), (.int .u16), (.int .u8)]), (8, [(.int .i64), (.list c_api_Line)]), (9, []), (10, [(.int .i64), (.list c_api_Line), (.int .i64)]), (11, [(.int .i64), (.list c_api_Line)]), (12, [c_isochroneref02_Rat]), (13, [c_isochroneref02_Rat]), (14, [c_api_Rat]), (15, [(.list c_api_Rat), (.int .i64)]), (16, [(.list c_api_Rat)]), (17, [(.int .i64), (.list c_api_Line), (.int .i64)]), (18, [(.list c_api_Line), (.int .i64)]), (19, [(.int .i64), (.list c_api_Line)]), (20, [(.list c_api_Rat)]), (21, [(.list c_isochroneref05_Line), (.list c_isochroneref02_Rat)]), (22, [(.list c_api_Line)]), (23, [(.list c_isochroneref05_Line), (.list c_isochroneref02_Rat), (.int .i64)]), (24, [(.int .i64), (.list c_api_Line), (.list c_api_Rat)]), (25, [(.int .i64), (.list c_api_Line), (.list c_api_Rat)]), (26, [(.int .i64), (.list c_isochroneref05_Line), (.list c_isochroneref02_Rat)]), (27, [(.list c_api_Line)]), (28, [(.int .i64)]), (29, [(.int .i64)]), (30, [(.int .i64), (.list c_api_Line), (.list c_api_Rat)]), (31, [c_api_Rat, c_isochroneref02_Rat]), (32, []), (33, [c_api_Rat]), (34, [(.list c_api_Line), (.list c_isochroneref02_Rat), (.int .i64), c_isochroneref02_Rat]), (35, [c_api_Rat, (.int .i64)]), (36, [c_api_Rat]), (37, [c_isochroneref02_Rat, c_isochroneref02_Rat]), (38, [c_isochroneref02_Rat, c_isochroneref02_Rat]), (39, []), (40, [c_isochroneref02_Rat, (.int .i64)]), (41, [(.int .i64), (.list c_api_Line)]), (42, [(.int .i64), (.list c_api_Line)]), (43, [(.list (.int .i64))]), (44, [(.list (.int .u32))]), (45, [(.int .i64), (.list c_api_Line)]), (46, [(.list c_linear_row), (.int .i64)]), (47, [(.list c_linear_row)]), (48, [(.int .i64), (.list c_api_Line)]), (49, [c_api_Rat]), (50, [c_linear_row]), (51, [c_api_Rat]), (52, [c_isochroneref02_Rat, (.int .i64), c_isochroneref02_Rat]), (53, [(.list c_isochroneref02_Rat), (.list c_isochroneref02_Rat)]), (54, [c_isochroneref02_Rat]), (55, [c_isochroneref02_Rat, c_isochroneref02_Rat]), (56, [(.list c_api_Rat), (.int .i64)]), (57, [c_api_Rat, (.int .i64), c_api_Rat]), (58, [(.list c_api_Rat), (.list c_api_Rat)]), (59, []), (60, [c_api_Rat]), (61, [c_api_Rat, c_api_Rat]), (62, [c_api_Rat, c_api_Rat]), (63, [c_isochroneref02_Rat, c_isochroneref02_Rat]), (64, [c_isochroneref02_Rat, c_isochroneref02_Rat]), (65, [c_api_Rat]), (66, [(.int .i64)]), (67, [(.int .i64)]), (68, [(.list c_linear_row)]), (69, [(.list c_linear_row), (.int .i64), (.list c_api_Rat)]), (70, [c_api_Rat, c_api_Rat]), (71, [(.list (.int .u32))]), (72, [(.list (.int .i64)), (.list (.int .i64))]), (73, [(.list (.int .i64)), (.list (.int .i64))]), (74, [(.list (.int .i64)), (.int .i64)]), (75, [c_api_Rat, (.int .i64)]), (76, [(.list c_api_Rat), (.int .i64)]), (77, [c_api_Rat]), (78, [c_linear_bounds]), (79, [(.list (.int .i64)), (.int .i64)]), (80, [(.list (.int .i64)), (.int .i64), (.int .i64)]), (81, [(.list c_linear_row), (.int .i64), (.int .i64)]), (82, [c_api_Rat, c_linear_row, c_api_Rat, c_linear_row]), (83, [c_linear_row]), (84, [c_linear_row]), (85, [c_linear_row, c_linear_row]), (86, [c_api_Rat, c_api_Rat]), (87, []), (88, [c_linear_row]), (89, [(.list (.int .u32)), (.list (.int .u32))]), (90, [(.list (.int .u32)), (.list (.int .u32))]), (91, [.bool, (.list (.int .u32)), (.list (.int .u32))]), (92, [(.list (.int .u32)), (.list (.int .u32))]), (93, [(.list (.int .u32)), (.list (.int .u32))]), (94, [(.list (.int .i64)), (.list (.int .i64))]), (95, [.bool, (.list (.int .i64)), (.list (.int .i64))]), (96, [(.list (.int .i64)), (.list (.int .i64))]), (97, [(.list (.int .i64)), (.list (.int .i64))]), (98, [(.int .u64)]), (99, [c_api_Rat, c_api_Rat]), (100, [c_api_Rat, c_api_Rat]), (101, [c_linear_bounds, c_api_Rat, (.int .i64), .bool]), (102, [(.list (.int .u32)), (.list (.int .u32))]), (103, [(.list (.int .i64))]), (104, [(.list (.int .i64)), (.list (.int .i64))]), (105, [(.list (.int .u32)), (.int .i64)]), (106, [(.list (.int .u32)), (.list (.int .u32))]), (107, [(.list c_api_Rat)]), (108, [c_api_Rat, c_api_Rat]), (109, [c_api_Rat]), (110, [c_api_Rat, c_api_Rat]), (111, [c_api_Rat, c_api_Rat]), (112, [(.int .i64), (.int .i64)]), (113, [c_api_Rat, c_api_Rat]), (114, [c_api_Rat, c_api_Rat]), (115, [(.list (.int .i64))]), (116, [(.list (.int .u32))]), (117, [(.list (.int .u32)), (.list (.int .u32))]), (118, [(.list (.int .i64))]), (119, [c_api_Rat]), (120, [(.list (.int .i64)), (.list (.int .i64))]), (121, [(.list (.int .u32)), (.list (.int .u32))]), (122, [(.list (.int .u32))]), (123, [(.list c_api_Rat), c_api_Rat]), (124, [c_api_Rat]), (125, [c_rat_convergent, c_api_Rat]), (126, [c_api_Rat]), (127, [(.list (.int .u32)), (.int .u32)]), (128, [(.int .u32)]), (129, [(.list (.int .u32)), (.int .i64)]), (130, [(.list (.int .u32)), (.list (.int .u32)), (.int .u64)]), (131, [(.list (.int .u32)), (.list (.int .u32))]), (132, [(.list (.int .u32)), (.int .i64)]), (133, [(.list (.int .u32))]), (134, [(.list (.int .u32)), (.list (.int .u32)), (.int .i64), (.int .i64)]), (135, [(.list c_api_Rat)]), (136, [c_api_Rat, (.int .i64)]), (137, [(.int .u32)])]
def outTab : List (Nat × (Bool × Ty)) := [(3, (false, .bool)), (4, (false, .bool)), (5, (false, .bool)), (6, (false, .bool)), (7, (false, .bool)), (8, (false, .bool)), (9, (false, .bool)), (10, (false, .bool)), (11, (false, (.int .i64))), (12, (false, c_api_Rat)), (13, (false, c_isochroneref02_Rat)), (14, (false, c_isochroneref02_Rat)), (15, (false, .bool)), (16, (false, .bool)), (17, (true, (.pair (.list c_api_Line) (.pair (.int .i64) .unit)))), (18, (false, .bool)), (19, (false, .bool)), (20, (false, (.list c_isochroneref02_Rat))), (21, (false, .bool)), (22, (false, (.list c_isochroneref05_Line))), (23, (false, .bool)), (24, (true, (.pair .bool (.pair (.int .i64) .unit)))), (25, (true, (.pair .bool (.pair (.int .i64) .unit)))), (26, (false, .bool)), (27, (false, .bool)), (28, (false, c_isochroneref02_Rat)), (29, (false, c_api_Rat)), (30, (true, (.pair (.int .i64) (.pair c_api_Rat (.pair (.int .i64) .unit))))), (31, (false, .bool)), (32, (false, c_isochroneref02_Rat)), (33, (false, .bool)), (34, (false, (.list c_api_Line))), (35, (false, .bool)), (36, (false, .bool)), (37, (false, c_isochroneref02_Rat)), (38, (false, c_isochroneref02_Rat)), (39, (false, c_isochroneref02_Rat)), (40, (false, c_isochroneref02_Rat)), (41, (false, (.int .i64))), (42, (true, (.pair (.list c_api_Rat) (.pair (.list c_api_Rat) (.pair (.int .i64) .unit))))), (43, (false, (.list (.int .u32)))), (44, (false, (.list (.int .i64)))), (45, (false, (.int .i64))), (46, (false, (.list c_linear_row))), (47, (false, (.list c_linear_row))), (48, (false, (.list c_linear_row))), (49, (false, c_api_Rat)), (50, (false, c_api_Rat)), (51, (false, .bool)), (52, (false, .bool)), (53, (false, c_isochroneref02_Rat)), (54, (false, (.int .i64))), (55, (false, (.int .i64))), (56, (false, .bool)), (57, (false, .bool)), (58, (false, c_api_Rat)), (59, (false, c_api_Rat)), (60, (false, (.int .i64))), (61, (false, c_api_Rat)), (62, (false, c_api_Rat)), (63, (false, c_isochroneref02_Rat)), (64, (false, c_isochroneref02_Rat)), (65, (false, .bool)), (66, (false, (.list (.int .i64)))), (67, (false, c_api_Rat)), (68, (true, (.pair c_linear_row (.pair .bool .unit)))), (69, (false, (.pair c_linear_bounds (.list c_api_Rat)))), (70, (false, .bool)), (71, (false, .bool)), (72, (false, (.int .i64))), (73, (false, (.list (.int .i64)))), (74, (false, (.list (.int .i64)))), (75, (false, .bool)), (76, (false, (.list c_api_Rat))), (77, (false, c_api_Rat)), (78, (false, (.pair c_api_Rat c_linear_bounds))), (79, (true, (.pair (.list (.int .i64)) (.pair (.int .i64) .unit)))), (80, (false, (.list (.int .i64)))), (81, (false, (.list c_linear_row))), (82, (false, c_linear_row)), (83, (false, .bool)), (84, (false, .bool)), (85, (false, .bool)), (86, (false, (.int .i64))), (87, (false, c_api_Rat)), (88, (false, c_linear_row)), (89, (false, (.int .i64))), (90, (false, (.list (.int .u32)))), (91, (false, c_api_Rat)), (92, (false, (.list (.int .u32)))), (93, (false, (.list (.int .u32)))), (94, (false, (.list (.int .i64)))), (95, (false, c_isochroneref02_Rat)), (96, (false, (.list (.int .i64)))), (97, (false, (.list (.int .i64)))), (98, (false, (.list (.int .u32)))), (99, (false, c_api_Rat)), (100, (false, c_api_Rat)), (101, (true, (.pair .unit c_linear_bounds))), (102, (false, .bool)), (103, (true, (.pair (.int .i64) (.pair .bool .unit)))), (104, (true, (.pair (.list (.int .i64)) (.pair (.list (.int .i64)) .unit)))), (105, (false, .bool)), (106, (false, (.list (.int .u32)))), (107, (false, (.list c_api_Rat))), (108, (false, c_api_Rat)), (109, (false, c_api_Rat)), (110, (false, c_api_Rat)), (111, (false, .bool)), (112, (false, c_api_Rat)), (113, (true, (.pair c_api_Rat (.pair (.int .i64) .unit)))), (114, (false, c_api_Rat)), (115, (false, (.list (.int .i64)))), (116, (false, (.list (.int .u32)))), (117, (true, (.pair (.list (.int .u32)) (.pair (.list (.int .u32)) .unit)))), (118, (false, (.list (.int .i64)))), (119, (false, c_api_Rat)), (120, (false, (.int .i64))), (121, (true, (.pair (.list (.int .u32)) (.pair (.list (.int .u32)) (.pair .bool .unit))))), (122, (true, (.pair (.int .u64) (.pair .bool .unit)))), (123, (false, (.list c_api_Rat))), (124, (false, .bool)), (125, (true, (.pair .unit c_rat_convergent))), (126, (true, (.pair c_api_Rat (.pair (.int .i64) .unit)))), (127, (true, (.pair (.list (.int .u32)) (.pair (.int .u32) .unit)))), (128, (false, (.int .i64))), (129, (false, (.list (.int .u32)))), (130, (false, .bool)), (131, (true, .unit)), (132, (false, (.list (.int .u32)))), (133, (false, (.int .i64))), (134, (false, (.list (.int .u32)))), (135, (false, (.list c_api_Rat))), (136, (false, .bool)), (137, (false, (.int .i64)))]
def ownTab : List (Nat × List Nat) := [(4, [34, 36, 63, 72, 78, 82, 84, 2000009, 4000063]), (7, [11, 12, 49, 54, 55, 60]), (17, [9, 44, 55, 59, 62, 65, 2000012, 4000044]), (20, [3, 12, 16]), (22, [3, 12, 23]), (23, [7, 20, 22, 34, 60]), (25, [11, 34, 40, 89]), (26, [9, 18, 24, 75]), (30, [10, 39, 44, 47, 50, 56]), (34, [13, 25, 29, 39, 41, 2000009, 4000013]), (42, [4, 8, 14, 29, 34, 42, 64, 81, 90, 104, 108]), (43, [3, 6, 17, 20, 47, 50]), (46, [7, 8, 9, 53, 56, 59, 62, 65, 68, 82, 98]), (47, [3, 56, 62, 65]), (48, [5, 20, 24, 28, 40, 43, 46, 50, 2000008]), (66, [3, 4, 7, 11]), (76, [7, 34, 42]), (79, [6, 11, 26]), (80, [7, 13, 25, 29, 35, 39]), (81, [7, 51, 54]), (82, [14, 22, 30, 2000009]), (90, [5, 24, 54, 64]), (92, [5, 19, 42, 50]), (93, [5, 12, 35]), (94, [5, 18, 45, 69]), (96, [5, 44, 48]), (97, [5, 10, 36]), (104, [12, 56, 75]), (117, [4, 6, 10, 33, 35, 52, 53, 64, 156, 162]), (118, [5]), (123, [5, 10, 18]), (127, [6, 11, 27]), (129, [7, 24, 36, 46]), (130, [0, 37, 57]), (131, [0, 24, 32]), (132, [7, 23, 54])]
def liveTab : List (Nat × List (Nat × List (Nat × Bool × TypeId))) := [(4, [(13, [(0, false, 3), (1, false, 22), (7, false, 3), (8, false, 3), (9, true, 0), (65, false, 27), (66, false, 3), (67, false, 3)])]), (5, [(10, [(0, false, 3), (1, false, 22), (2, false, 3), (3, false, 27), (9, false, 22), (10, false, 43), (11, false, 3), (55, false, 22), (56, false, 3), (57, false, 3)]), (14, [(0, false, 3), (1, false, 22), (2, false, 3), (3, false, 27), (9, false, 22), (10, false, 43), (11, false, 3), (55, false, 22), (56, false, 3), (57, false, 3)]), (20, [(1, false, 22), (2, false, 3), (3, false, 27), (9, false, 22), (92, false, 22), (93, false, 3), (94, false, 3)])]), (7, [(8, [(0, false, 3), (1, false, 22), (3, false, 59), (4, false, 5), (11, true, 47), (12, true, 27), (43, false, 58), (44, false, 3), (45, false, 3)])]), (8, [(9, [(0, false, 3), (1, false, 22), (5, false, 43), (6, false, 43)]), (13, [(0, false, 3), (1, false, 22), (6, false, 43)])]), (15, [(4, [(11, false, 27), (12, false, 3), (13, false, 3)])]), (16, [(2, [(5, false, 27), (6, false, 3), (7, false, 3)])]), (17, [(8, [(0, false, 3), (9, true, 22), (33, false, 79), (34, false, 3), (35, false, 3)]), (12, [(0, false, 3), (9, true, 22), (12, true, 0), (33, false, 79), (34, false, 3), (35, false, 3), (48, false, 27), (49, false, 3), (50, false, 3)])]), (18, [(2, [(1, false, 3), (9, false, 22), (10, false, 3), (11, false, 3)]), (7, [(1, false, 3), (9, false, 22), (10, false, 3), (11, false, 3), (27, false, 27), (28, false, 3), (29, false, 3)])]), (19, [(4, [(0, false, 3), (20, false, 22), (21, false, 3), (22, false, 3)]), (9, [(0, false, 3), (20, false, 22), (21, false, 3), (22, false, 3), (48, false, 27), (49, false, 3), (50, false, 3)])]), (20, [(3, [(3, true, 47), (6, false, 27), (7, false, 3), (8, false, 3)])]), (21, [(2, [(1, false, 47), (7, false, 50), (8, false, 3), (9, false, 3)])]), (22, [(3, [(3, true, 50), (6, false, 22), (7, false, 3), (8, false, 3)])]), (23, [(5, [(0, false, 50), (2, false, 3), (7, true, 47), (8, false, 0), (9, false, 0), (10, false, 4), (11, false, 4), (12, false, 4), (13, false, 4), (23, false, 50), (24, false, 3), (25, false, 3)]), (26, [(0, false, 50), (2, false, 3), (7, true, 47), (8, false, 0), (9, false, 0), (10, false, 4), (11, false, 4), (12, false, 4), (13, false, 4), (23, false, 50), (24, false, 3), (25, false, 3)])]), (24, [(7, [(2, false, 27), (21, false, 22), (22, false, 3), (23, false, 3)])]), (25, [(9, [(1, false, 22), (2, false, 27), (9, false, 0), (10, false, 4), (11, true, 27), (36, false, 3), (37, false, 3)]), (14, [(2, false, 27), (9, false, 0), (10, false, 4), (11, true, 27), (45, false, 22), (46, false, 3), (47, false, 3)]), (22, [(2, false, 27), (9, false, 0), (10, false, 4), (11, true, 27), (15, false, 0), (45, false, 22), (46, false, 3), (47, false, 3), (82, false, 27), (83, false, 3), (84, false, 3)]), (28, [(9, false, 0), (10, false, 4), (102, false, 27), (103, false, 3), (104, false, 3)])]), (26, [(4, [(1, false, 50), (2, false, 47), (7, false, 0), (8, false, 4), (9, true, 47), (20, false, 3), (21, false, 3)]), (9, [(2, false, 47), (7, false, 0), (8, false, 4), (9, true, 47), (29, false, 50), (30, false, 3), (31, false, 3)]), (16, [(2, false, 47), (7, false, 0), (8, false, 4), (9, true, 47), (11, false, 3), (12, false, 0), (29, false, 50), (30, false, 3), (31, false, 3), (71, false, 3), (72, false, 3)]), (22, [(7, false, 0), (8, false, 4), (95, false, 47), (96, false, 3), (97, false, 3)])]), (27, [(2, [(7, false, 22), (8, false, 3), (9, false, 3)]), (7, [(7, false, 22), (8, false, 3), (9, false, 3), (18, false, 27), (19, false, 3), (20, false, 3)])]), (30, [(8, [(0, false, 3), (2, false, 27), (7, false, 0), (10, true, 22), (31, false, 22), (32, false, 3), (33, false, 3)]), (16, [(0, false, 3), (7, false, 0), (14, false, 79), (64, false, 3), (65, false, 3)])]), (34, [(3, [(0, false, 22), (2, false, 3), (7, false, 0), (9, true, 0), (14, false, 47), (15, false, 3), (16, false, 3)]), (7, [(0, false, 22), (2, false, 3), (7, false, 0), (9, true, 0), (11, false, 0), (14, false, 47), (15, false, 3), (16, false, 3)]), (11, [(0, false, 22), (7, false, 0), (9, true, 0)])]), (41, [(4, [(0, false, 3), (20, false, 22), (21, false, 3), (22, false, 3)]), (9, [(0, false, 3), (20, false, 22), (21, false, 3), (22, false, 3), (48, false, 27), (49, false, 3), (50, false, 3)])]), (42, [(6, [(0, false, 3), (1, false, 22), (8, true, 109), (30, false, 3), (31, false, 3)]), (11, [(0, false, 3), (1, false, 22), (8, true, 109), (44, true, 109), (45, false, 3), (46, false, 3)]), (18, [(14, true, 27), (74, true, 27), (75, false, 3), (76, false, 3)]), (22, [(14, true, 27)]), (26, [(4, true, 27), (8, true, 109), (17, false, 3)])]), (43, [(2, [(0, false, 35), (3, true, 34)]), (8, [(3, true, 34), (6, true, 28), (7, false, 3)]), (13, [(3, true, 34), (6, true, 28), (7, false, 3), (8, false, 105)])]), (44, [(3, [(0, false, 28), (3, false, 35), (4, false, 3)])]), (46, [(2, [(0, false, 79), (1, false, 3), (16, false, 79), (17, false, 3), (18, false, 3)]), (9, [(1, false, 3), (7, true, 79), (8, true, 79), (9, true, 79), (41, false, 79), (42, false, 3), (43, false, 3)]), (17, [(1, false, 3), (7, true, 79), (8, true, 79), (9, true, 79), (41, false, 79), (42, false, 3), (43, false, 3)]), (19, [(1, false, 3), (7, true, 79), (9, true, 79), (70, false, 79), (71, false, 3), (72, false, 3)]), (22, [(1, false, 3), (7, true, 79), (9, true, 79), (13, false, 0), (70, false, 79), (71, false, 3), (72, false, 3), (76, true, 79), (77, false, 3), (78, false, 3)])]), (47, [(3, [(3, true, 79), (10, false, 79), (11, false, 3), (12, false, 3)]), (8, [(3, true, 79), (5, false, 0), (6, false, 4), (10, false, 79), (11, false, 3), (12, false, 3), (23, true, 79), (24, false, 3), (25, false, 3)]), (14, [(3, true, 79), (5, false, 0), (10, false, 79), (11, false, 3), (12, false, 3), (23, true, 79), (24, false, 3), (25, false, 3)]), (15, [(3, true, 79), (5, false, 0), (6, false, 4), (10, false, 79), (11, false, 3), (12, false, 3), (23, true, 79), (24, false, 3), (25, false, 3)]), (18, [(3, true, 79), (10, false, 79), (11, false, 3), (12, false, 3)])]), (48, [(3, [(0, false, 3), (1, false, 22), (5, true, 79), (11, false, 22), (12, false, 3), (13, false, 3)]), (7, [(0, false, 3), (1, false, 22), (5, true, 79), (6, false, 3), (8, true, 0), (11, false, 22), (12, false, 3), (13, false, 3), (30, false, 3), (31, false, 3)]), (12, [(0, false, 3), (1, false, 22), (5, true, 79), (6, false, 3), (8, true, 0), (10, false, 0), (11, false, 22), (12, false, 3), (13, false, 3), (30, false, 3), (31, false, 3)])]), (53, [(3, [(0, false, 47), (1, false, 47), (4, false, 0), (5, false, 0), (9, false, 3), (10, false, 3)])]), (56, [(2, [(0, false, 27), (1, false, 3), (7, false, 27), (8, false, 3), (9, false, 3)])]), (58, [(3, [(1, false, 27), (4, false, 0), (5, false, 0), (9, false, 27), (10, false, 3), (11, false, 3)])]), (61, [(4, [(2, false, 0), (3, false, 0), (4, false, 0), (5, false, 28), (6, false, 28), (7, false, 28)])]), (66, [(2, [(0, false, 3), (3, true, 35)])]), (68, [(2, [(2, false, 0), (6, false, 79), (7, false, 3), (8, false, 3)])]), (69, [(3, [(1, false, 3), (2, false, 27), (6, false, 0), (7, false, 0), (14, false, 79), (15, false, 3), (16, false, 3)]), (9, [(1, false, 3), (2, false, 27), (6, false, 0), (7, false, 0), (9, false, 0), (10, false, 0), (11, false, 0), (12, false, 3), (14, false, 79), (15, false, 3), (16, false, 3)]), (17, [(1, false, 3), (2, false, 27), (6, false, 0), (7, false, 0), (14, false, 79), (15, false, 3), (16, false, 3)])]), (72, [(6, [(0, false, 35), (1, false, 35), (5, false, 3)])]), (73, [(1, [(0, false, 35), (1, false, 35)]), (5, [(5, false, 3), (7, false, 3)])]), (74, [(3, [(0, false, 35), (5, false, 35), (7, false, 3), (8, false, 3)])]), (76, [(2, [(0, false, 27), (1, false, 3), (10, false, 3), (11, false, 3)]), (8, [(6, false, 0), (7, true, 27), (35, true, 27), (36, false, 3), (37, false, 3)])]), (79, [(4, [(0, false, 35), (1, false, 3), (6, true, 35), (7, false, 3), (8, false, 3)])]), (80, [(3, [(1, false, 3), (2, false, 3), (7, true, 35), (14, false, 35), (15, false, 3), (16, false, 3)]), (9, [(2, false, 3), (7, true, 35)])]), (81, [(4, [(1, false, 3), (2, false, 3), (7, true, 79), (8, false, 0), (17, false, 79), (18, false, 3), (19, false, 3)]), (12, [(1, false, 3), (2, false, 3), (7, true, 79), (8, false, 0), (10, false, 0), (17, false, 79), (18, false, 3), (19, false, 3)]), (13, [(1, false, 3), (2, false, 3), (7, true, 79), (8, false, 0), (17, false, 79), (18, false, 3), (19, false, 3)])]), (82, [(3, [(4, false, 0), (5, false, 0), (6, false, 0), (7, false, 0), (8, false, 0), (9, true, 0), (25, false, 3), (26, false, 3)])]), (83, [(2, [(9, false, 27), (10, false, 3), (11, false, 3)])]), (85, [(4, [(2, false, 0), (3, false, 0), (15, false, 3), (16, false, 3)])]), (89, [(6, [(0, false, 28), (1, false, 28), (5, false, 3)])]), (90, [(5, [(1, false, 28), (5, true, 28), (25, false, 28), (26, false, 3), (27, false, 3)]), (9, [(1, false, 28), (5, true, 28), (6, false, 3), (7, false, 105), (8, false, 125), (25, false, 28), (26, false, 3), (27, false, 3), (32, false, 28), (33, false, 3), (34, false, 3)])]), (91, [(7, [(0, false, 4), (1, false, 28), (2, false, 28), (6, false, 0)])]), (92, [(3, [(0, false, 28), (1, false, 28)]), (6, [(0, false, 28), (1, false, 28), (5, true, 28), (6, false, 125), (20, false, 28), (21, false, 3), (22, false, 3)]), (11, [(0, false, 28), (1, false, 28), (5, true, 28), (6, false, 125), (7, false, 3), (20, false, 28), (21, false, 3), (22, false, 3)])]), (93, [(4, [(1, false, 28), (5, true, 28), (6, false, 125), (13, false, 28), (14, false, 3), (15, false, 3)]), (9, [(1, false, 28), (5, true, 28), (7, false, 3), (9, false, 125), (13, false, 28), (14, false, 3), (15, false, 3)])]), (94, [(3, [(1, false, 35), (5, true, 35), (19, false, 35), (20, false, 3), (21, false, 3)]), (7, [(1, false, 35), (5, true, 35), (6, false, 3), (7, false, 3), (8, false, 3), (19, false, 35), (20, false, 3), (21, false, 3), (26, false, 35), (27, false, 3), (28, false, 3)]), (14, [(1, false, 35), (5, true, 35), (8, false, 3), (11, false, 3), (19, false, 35), (20, false, 3), (21, false, 3)])]), (96, [(4, [(0, false, 35), (1, false, 35), (5, true, 35), (6, false, 3), (7, false, 3)]), (8, [(0, false, 35), (1, false, 35), (5, true, 35), (6, false, 3), (7, false, 3)]), (10, [(0, false, 35), (1, false, 35), (5, true, 35), (6, false, 3), (7, false, 3)])]), (97, [(4, [(1, false, 35), (5, true, 35), (6, false, 3), (12, false, 3), (13, false, 3)]), (9, [(1, false, 35), (5, true, 35), (7, false, 3), (8, false, 3), (12, false, 3), (13, false, 3)]), (13, [(1, false, 35), (5, true, 35), (6, false, 3), (7, false, 3), (8, false, 3), (12, false, 3), (13, false, 3)])]), (101, [(5, [(0, false, 134), (3, false, 4), (5, false, 0), (8, false, 3)]), (7, [(0, false, 134), (3, false, 4), (8, false, 3)]), (11, [(0, false, 134), (3, false, 4), (5, false, 0), (9, false, 3)]), (13, [(0, false, 134), (3, false, 4), (9, false, 3)])]), (102, [(4, [(0, false, 28), (1, false, 28), (12, false, 3), (13, false, 3)])]), (103, [(5, [(0, false, 35), (4, false, 3), (5, false, 3)])]), (104, [(13, [(0, false, 35), (1, false, 35), (12, true, 35), (13, false, 35), (14, false, 3)]), (14, [(0, false, 35), (1, false, 35), (12, true, 35), (13, false, 35), (14, false, 3)])]), (106, [(3, [(0, false, 28), (1, false, 28)]), (14, [(12, false, 125), (14, false, 125)])]), (107, [(5, [(0, false, 27), (3, false, 28), (4, false, 28), (17, false, 27), (18, false, 3), (19, false, 3)]), (11, [(0, false, 27), (3, false, 28), (4, false, 28), (37, false, 27), (38, false, 3), (39, false, 3)])]), (109, [(4, [(1, false, 0), (2, false, 0), (3, false, 28)])]), (113, [(13, [(2, false, 0), (3, false, 0), (4, false, 0), (8, false, 0)]), (21, [(4, false, 0), (8, false, 0)])]), (115, [(2, [(0, false, 35), (3, false, 3)])]), (116, [(1, [(0, false, 28)])]), (117, [(14, [(4, true, 28), (8, false, 3), (9, false, 28), (10, true, 28), (11, false, 3), (12, false, 125), (13, false, 125), (14, false, 3)]), (18, [(4, true, 28), (8, false, 3), (9, false, 28), (10, true, 28), (11, false, 3), (12, false, 125), (13, false, 125), (14, false, 3), (16, false, 125), (17, false, 125)]), (22, [(4, true, 28), (8, false, 3), (9, false, 28), (10, true, 28), (11, false, 3), (12, false, 125), (13, false, 125), (14, false, 3), (16, false, 125)]), (25, [(4, true, 28), (8, false, 3), (9, false, 28), (10, true, 28), (11, false, 3), (12, false, 125), (13, false, 125), (14, false, 3), (16, false, 125)])]), (120, [(4, [(0, false, 35), (1, false, 35), (5, false, 3), (6, false, 3), (7, false, 3), (8, false, 3)]), (5, [(0, false, 35), (1, false, 35), (5, false, 3), (6, false, 3), (7, false, 3), (8, false, 3)]), (10, [(0, false, 35), (1, false, 35), (5, false, 3), (6, false, 3), (7, false, 3), (9, false, 3)]), (15, [(0, false, 35), (1, false, 35), (6, false, 3), (7, false, 3)]), (16, [(0, false, 35), (1, false, 35), (10, false, 3)]), (18, [(0, false, 35), (1, false, 35), (10, false, 3)])]), (121, [(8, [(0, false, 28), (1, false, 28), (12, false, 2), (13, false, 2), (14, false, 2), (15, false, 2), (16, false, 2), (17, false, 2)]), (14, [(0, false, 28), (1, false, 28), (12, false, 2), (13, false, 2), (14, false, 2), (15, false, 2)])]), (123, [(3, [(3, false, 0), (5, true, 27), (11, false, 27), (12, false, 3), (13, false, 3)])]), (127, [(4, [(0, false, 28), (1, false, 105), (6, true, 28), (7, false, 125), (8, false, 3)])]), (129, [(6, [(5, false, 3), (6, false, 113), (7, true, 28), (25, false, 28), (26, false, 3), (27, false, 3)])]), (130, [(3, [(0, true, 28), (1, false, 28), (2, false, 125), (7, false, 125), (8, false, 125), (13, false, 28), (14, false, 3), (15, false, 3)])]), (131, [(2, [(0, true, 28), (1, false, 28), (4, false, 125), (7, false, 28), (8, false, 3), (9, false, 3)])]), (132, [(6, [(0, false, 28), (5, false, 3), (6, false, 113), (7, true, 28), (25, false, 3), (26, false, 3)]), (11, [(0, false, 28), (5, false, 3), (6, false, 113), (7, true, 28), (8, false, 3), (9, false, 125), (25, false, 3), (26, false, 3)])]), (135, [(1, [(0, false, 27)])]), (137, [(4, [(0, false, 105), (2, false, 3)]), (7, [(0, false, 105), (2, false, 3)])])]
def lentTab : List (Nat × (Nat × TypeId)) := [(69, (2, 30)), (78, (0, 101)), (101, (0, 101)), (125, (0, 148))]
noncomputable def T : Tab := { P := Tryz.prog, ty := tyTab, el := elTab, by_ := byTab, par := parTab, out_ := outTab, lent_ := lentTab, own := ownTab, live := liveTab }
end Go.Proofs.YtjimdhlmeebjeaaGreat.E
end
namespace Go.Proofs.YtjimdhlmeebjeaaGreatW
open PrintWords
theorem bB {P : Prop} (h : P := by repeat (first | (with_reducible first | exact HB.out | apply PrintWords.below_alloc | apply PrintWords.pw_below_drewN | apply PrintWords.below_drew1) | exact HB.out)) : P := h
theorem dR {A B : Prop} (h : A) (g : A → B := by intro h_; (with_reducible repeat (first | apply PrintWords.Kd.R_alloc | apply PrintWords.Kd.R_drewN | apply PrintWords.Kd.R_drew)); exact h_) : B := g h
theorem dV {A B : Prop} (h : A) (g : A → B := by intro h_; (with_reducible repeat (first | apply PrintWords.Kd.V_alloc | apply PrintWords.Kd.V_drewN | apply PrintWords.Kd.V_drew)); exact h_) : B := g h
theorem dC {A B : Prop} (h : A) (g : A → B := by intro h_; repeat (first | exact h_ | (with_reducible refine PrintWords.Kd.C_alloc ?_ _) | (with_reducible refine PrintWords.Kd.C_drewN ?_ _) | (with_reducible refine PrintWords.Kd.C_drew ?_))) : B := g h
theorem dQ {P : Prop} (h : P := by first | exact ⟨rfl, _, World.drewN_drewN _ _ _⟩ | exact ⟨rfl, _, Eq.trans (World.drewN_drewN _ _ _) (congrArg (World.drewN _) (Nat.add_assoc _ _ _))⟩) : P := h
theorem aS {P : Prop} (h : P := by first | (with_reducible assumption) | assumption) : P := h
end Go.Proofs.YtjimdhlmeebjeaaGreatW
section
namespace Go.Proofs.YtjimdhlmeebjeaaGreat.P
open Go.RowKit Go.Proofs.YtjimdhlmeebjeaaGreatW.PrintWords Go.Proofs.YtjimdhlmeebjeaaGreatW.PrintLast Go.Proofs.YtjimdhlmeebjeaaGreatW.PrintMore Go.Proofs.YtjimdhlmeebjeaaGreatW
attribute [local go_sem] max2_int min2_int max_two min_two max_three min_three max_four min_four
set_option linter.unusedVariables false
set_option linter.unusedSimpArgs false
structure S30 where
 f0 : Bool
 f1 : (List Int)
 f2 : (List Int)
def z30 : S30 := ⟨false, ([] : List Int), ([] : List Int)⟩
def rd_T30 (xs : List S30) (i : Int) : S30 := xs.getD i.toNat z30
structure S32 where
 f0 : (List S30)
 f1 : Int
 f2 : S30
def z32 : S32 := ⟨([] : List S30), (0 : Int), z30⟩
def rd_T32 (xs : List S32) (i : Int) : S32 := xs.getD i.toNat z32
structure S37 where
 f0 : Bool
 f1 : (List Int)
 f2 : (List Int)
def z37 : S37 := ⟨false, ([] : List Int), ([] : List Int)⟩
def rd_T37 (xs : List S37) (i : Int) : S37 := xs.getD i.toNat z37
structure S88 where
 f0 : (List S37)
 f1 : Int
 f2 : S37
end Go.Proofs.YtjimdhlmeebjeaaGreat.P
end
