/- An evaluator of the program's code, what its functions come to, and what they mean: text 5. No condition. -/
import Derived.KernelRfl
import Derived.Laws.BitsLemmas
import Derived.Test.YtfpolhoabfadnaaTexts4
set_option linter.unusedSimpArgs false
section
namespace Go.Proofs.Ytfpolhoabfadnaa.E
open Go.RowKit Go.Shelf Go.Proofs.Ytfpolhoabfadnaa.V
set_option linter.unusedVariables false
theorem below_heap {B : Nat} {w w' : World} {k : Nat} {o : Option Obj} (hb : Below B w w') (hk : k < B) (h : w.heap[k]? = o) : w'.heap[k]? = o := by rw [hb.block k hk]; exact h
theorem alloc_lt (w : World) (o : Obj) : w.heap.size < (w.alloc o).heap.size := by
  show w.heap.size < (w.heap.push o).size
  rw [Array.size_push]; omega
theorem alloc_new (w : World) (o : Obj) : (w.alloc o).heap[w.heap.size]? = some o := by
  show (w.heap.push o)[w.heap.size]? = some o
  simp
theorem cells3 {w : World} {b : Nat} {x y z : Value} {T : TypeId} (h : w.heap[b]? = some (.cells #[x, y, z] T (0, 0))) : w.cell? ⟨b, 0, none⟩ = some x ∧ w.cell? ⟨b, 1, none⟩ = some y ∧ w.cell? ⟨b, 2, none⟩ = some z ∧ w.shape? b = some (T, 3) :=
  ⟨by rw [Lib.cell_of_heap h]; rfl, by rw [Lib.cell_of_heap h]; rfl, by rw [Lib.cell_of_heap h]; rfl, by simp [World.shape?, h]⟩
theorem lt_heap {w : World} {k : Nat} {o : Obj} (h : w.heap[k]? = some o) : k < w.heap.size := by
  rcases Nat.lt_or_ge k w.heap.size with h' | h'
  · exact h'
  · simp [Array.getElem?_eq_none h'] at h
theorem builder_below {T e : TypeId} {B b : Nat} {p : Value} {bs : List Value} {w w' : World} (h : Lib.BuilderAt T e B b p bs w) (hb : Below w.heap.size w w') : Lib.BuilderAt T e B b p bs w' := by
  have hlt := h.lt
  obtain ⟨h1, v, h2, h3, h4⟩ := h
  refine ⟨h1, v, below_heap hb hlt h2, ?_, h4⟩
  obtain ⟨e1, h⟩ := h3
  rcases h with h | ⟨g, cap, cur, rfl, hg, hh, r⟩
  · exact ⟨e1, .inl h⟩
  · exact ⟨e1, .inr ⟨g, cap, cur, rfl, hg, below_heap hb (lt_heap hh) hh, r⟩⟩
theorem is_eq {T e : TypeId} {B b : Nat} {bs : List Value} {l : List UInt8} {w : World} (h : Lib.IsBuilder T e B b bs w) (hb : bs = Lib.byteCells l) : Lib.IsBuilder T e B b (Lib.byteCells l) w := hb ▸ h
theorem bytes_eq (l : List UInt8) (s : ByteArray) (h : s.data.toList = l) : (⟨l.toArray⟩ : ByteArray) = s := by
  subst h
  cases s
  simp
set_option maxHeartbeats 1000000 in
set_option maxRecDepth 100000 in
theorem calls_ratText_nw (sn sd : Value) (tn td : ByteArray) (en ed : Int) (w : World)
    (H54 : ∀ w', Below w.heap.size w w' → Calls Try.prog 54 #[.agg #[.bool true, sn, sd]] w' fun e w'' => e = .returned (.bool true) ∧ Below w'.heap.size w' w'')
    (H95 : ∀ w', Below w.heap.size w w' → Calls Try.prog 95 #[.agg #[.bool true, sn, sd]] w' fun e w'' => e = .returned (.bool true) ∧ Below w'.heap.size w' w'')
    (H93n : ∀ w', Below w.heap.size w w' → Calls Try.prog 93 #[sn] w' fun e w'' => e = .returned (.tuple #[.string tn, .int .i64 en]) ∧ Below w'.heap.size w' w'')
    (hlen : tn.size + td.size + 2 ≤ 140737488355328) :
    Calls Try.prog 55 #[.agg #[.bool true, sn, sd]] w fun e w' => e = .returned (.tuple #[.string ((⟨#[45]⟩ : ByteArray) ++ tn), .int .i64 0]) ∧ Below w.heap.size w w' := by
  go_enter Try.func55, Try.ntmps55
  go_wp2_with (go_at_call 54; refine (H54 _ ((Below.refl _ _).alloc (Nat.le_refl _) _)).mono ?_)
  rintro e w1 ⟨rfl, hb1⟩
  have g1 : Below w.heap.size w w1 := (Below.alloc (Below.refl _ _) (Nat.le_refl _) _).trans (hb1.mono (Nat.le_of_lt (alloc_lt _ _)))
  have x1 : w1.heap[w.heap.size]? = some (.cells #[.bool true, sn, sd] 25 (0, 0)) := below_heap hb1 (alloc_lt _ _) (alloc_new _ _)
  have l1 : w.heap.size < w1.heap.size := Nat.lt_of_lt_of_le (alloc_lt _ _) hb1.size
  have x2 : (w1.alloc (.cells #[.pointer none, .slice none 0 0] 96)).heap[w.heap.size]? = some (.cells #[.bool true, sn, sd] 25 (0, 0)) := by rw [Lib.alloc_old _ _ _ l1]; exact x1
  obtain ⟨c20, c21, c22, c23⟩ := cells3 x2
  have g2 : Below w.heap.size w (w1.alloc (.cells #[.pointer none, .slice none 0 0] 96)) := g1.alloc g1.size _
  have hB2 : Lib.IsBuilder 96 5 w1.heap.size w1.heap.size [] (w1.alloc (.cells #[.pointer none, .slice none 0 0] 96)) := Lib.fresh_isBuilder 96 5 w1
  have hl2 := Nat.le_of_lt (alloc_lt w1 (.cells #[.pointer none, .slice none 0 0] 96))
  go_wp2_with (go_at_call 92; refine (b_byte_put w1.heap.size w1.heap.size [] 45 _ hB2 (by decide) hl2).mono ?_)
  rintro e w3 ⟨rfl, hB3, hb3⟩
  have x3 := below_heap hb3 l1 x2
  obtain ⟨c30, c31, c32, c33⟩ := cells3 x3
  have g3 := g2.trans (hb3.mono (Nat.le_of_lt l1))
  go_wp2_with (go_at_call 93; refine (H93n _ g3).mono ?_)
  rintro e w4 ⟨rfl, hb4⟩
  have s4 : w1.heap.size ≤ w4.heap.size := Nat.le_trans (Nat.le_trans hl2 hb3.size) hb4.size
  have x4 := below_heap hb4 (Nat.lt_of_lt_of_le l1 (Nat.le_trans hl2 hb3.size)) x3
  have g4 := g3.trans (hb4.mono g3.size)
  have hB4 : Lib.IsBuilder 96 5 w1.heap.size w1.heap.size [.int .u8 45] w4 := .inr (builder_below hB3 hb4)
  obtain ⟨c40, c41, c42, c43⟩ := cells3 x4
  go_wp2_with (go_at_call 94; refine (b_str_put w1.heap.size w1.heap.size _ tn _ hB4 (by simp only [List.length_cons, List.length_nil]; omega) s4).mono ?_)
  rintro e w5 ⟨rfl, hB5, hb5⟩
  have x5 := below_heap hb5 l1 x4
  obtain ⟨c50, c51, c52, c53⟩ := cells3 x5
  have g5 := g4.trans (hb5.mono (Nat.le_of_lt l1))
  go_wp2_with (go_at_call 95; refine (H95 _ g5).mono ?_)
  rintro e w6 ⟨rfl, hb6⟩
  have s5 : w1.heap.size ≤ w5.heap.size := Nat.le_trans s4 hb5.size
  have x6 := below_heap hb6 (Nat.lt_of_lt_of_le l1 s5) x5
  obtain ⟨c60, c61, c62, c63⟩ := cells3 x6
  have g6 := g5.trans (hb6.mono g5.size)
  have hB6 := builder_below hB5 hb6
  have s8 : w1.heap.size ≤ w6.heap.size := Nat.le_trans s5 hb6.size
  have g8 := g6
  have hB8 := hB6
  have hS : Lib.IsBuilder 96 5 w1.heap.size w1.heap.size (Lib.byteCells (45 :: tn.data.toList)) _ := is_eq (.inr hB8) (by simp [Lib.strCells, Lib.byteCells])
  go_wp2_with (go_at_call 96; refine (b_string w1.heap.size w1.heap.size _ _ hS s8).mono ?_)
  rintro e w9 ⟨rfl, hb9⟩
  go_wp2
  go_ret2
  refine ⟨?_, g8.trans (hb9.mono (Nat.le_of_lt l1))⟩
  rw [bytes_eq _ ((⟨#[45]⟩ : ByteArray) ++ tn) (by simp [ByteArray.data_append])] <;> rfl
set_option maxHeartbeats 1000000 in
set_option maxRecDepth 100000 in
theorem calls_ratText_nd (sn sd : Value) (tn td : ByteArray) (en ed : Int) (w : World)
    (H54 : ∀ w', Below w.heap.size w w' → Calls Try.prog 54 #[.agg #[.bool true, sn, sd]] w' fun e w'' => e = .returned (.bool true) ∧ Below w'.heap.size w' w'')
    (H95 : ∀ w', Below w.heap.size w w' → Calls Try.prog 95 #[.agg #[.bool true, sn, sd]] w' fun e w'' => e = .returned (.bool false) ∧ Below w'.heap.size w' w'')
    (H93n : ∀ w', Below w.heap.size w w' → Calls Try.prog 93 #[sn] w' fun e w'' => e = .returned (.tuple #[.string tn, .int .i64 en]) ∧ Below w'.heap.size w' w'')
    (H93d : ∀ w', Below w.heap.size w w' → Calls Try.prog 93 #[sd] w' fun e w'' => e = .returned (.tuple #[.string td, .int .i64 ed]) ∧ Below w'.heap.size w' w'')
    (hlen : tn.size + td.size + 2 ≤ 140737488355328) :
    Calls Try.prog 55 #[.agg #[.bool true, sn, sd]] w fun e w' => e = .returned (.tuple #[.string ((⟨#[45]⟩ : ByteArray) ++ tn ++ ((⟨#[47]⟩ : ByteArray) ++ td)), .int .i64 0]) ∧ Below w.heap.size w w' := by
  go_enter Try.func55, Try.ntmps55
  go_wp2_with (go_at_call 54; refine (H54 _ ((Below.refl _ _).alloc (Nat.le_refl _) _)).mono ?_)
  rintro e w1 ⟨rfl, hb1⟩
  have g1 : Below w.heap.size w w1 := (Below.alloc (Below.refl _ _) (Nat.le_refl _) _).trans (hb1.mono (Nat.le_of_lt (alloc_lt _ _)))
  have x1 : w1.heap[w.heap.size]? = some (.cells #[.bool true, sn, sd] 25 (0, 0)) := below_heap hb1 (alloc_lt _ _) (alloc_new _ _)
  have l1 : w.heap.size < w1.heap.size := Nat.lt_of_lt_of_le (alloc_lt _ _) hb1.size
  have x2 : (w1.alloc (.cells #[.pointer none, .slice none 0 0] 96)).heap[w.heap.size]? = some (.cells #[.bool true, sn, sd] 25 (0, 0)) := by rw [Lib.alloc_old _ _ _ l1]; exact x1
  obtain ⟨c20, c21, c22, c23⟩ := cells3 x2
  have g2 : Below w.heap.size w (w1.alloc (.cells #[.pointer none, .slice none 0 0] 96)) := g1.alloc g1.size _
  have hB2 : Lib.IsBuilder 96 5 w1.heap.size w1.heap.size [] (w1.alloc (.cells #[.pointer none, .slice none 0 0] 96)) := Lib.fresh_isBuilder 96 5 w1
  have hl2 := Nat.le_of_lt (alloc_lt w1 (.cells #[.pointer none, .slice none 0 0] 96))
  go_wp2_with (go_at_call 92; refine (b_byte_put w1.heap.size w1.heap.size [] 45 _ hB2 (by decide) hl2).mono ?_)
  rintro e w3 ⟨rfl, hB3, hb3⟩
  have x3 := below_heap hb3 l1 x2
  obtain ⟨c30, c31, c32, c33⟩ := cells3 x3
  have g3 := g2.trans (hb3.mono (Nat.le_of_lt l1))
  go_wp2_with (go_at_call 93; refine (H93n _ g3).mono ?_)
  rintro e w4 ⟨rfl, hb4⟩
  have s4 : w1.heap.size ≤ w4.heap.size := Nat.le_trans (Nat.le_trans hl2 hb3.size) hb4.size
  have x4 := below_heap hb4 (Nat.lt_of_lt_of_le l1 (Nat.le_trans hl2 hb3.size)) x3
  have g4 := g3.trans (hb4.mono g3.size)
  have hB4 : Lib.IsBuilder 96 5 w1.heap.size w1.heap.size [.int .u8 45] w4 := .inr (builder_below hB3 hb4)
  obtain ⟨c40, c41, c42, c43⟩ := cells3 x4
  go_wp2_with (go_at_call 94; refine (b_str_put w1.heap.size w1.heap.size _ tn _ hB4 (by simp only [List.length_cons, List.length_nil]; omega) s4).mono ?_)
  rintro e w5 ⟨rfl, hB5, hb5⟩
  have x5 := below_heap hb5 l1 x4
  obtain ⟨c50, c51, c52, c53⟩ := cells3 x5
  have g5 := g4.trans (hb5.mono (Nat.le_of_lt l1))
  go_wp2_with (go_at_call 95; refine (H95 _ g5).mono ?_)
  rintro e w6 ⟨rfl, hb6⟩
  have s5 : w1.heap.size ≤ w5.heap.size := Nat.le_trans s4 hb5.size
  have x6 := below_heap hb6 (Nat.lt_of_lt_of_le l1 s5) x5
  obtain ⟨c60, c61, c62, c63⟩ := cells3 x6
  have g6 := g5.trans (hb6.mono g5.size)
  have hB6 := builder_below hB5 hb6
  go_wp2_with (go_at_call 93; refine (H93d _ g6).mono ?_)
  rintro e w7 ⟨rfl, hb7⟩
  have g7 := g6.trans (hb7.mono g6.size)
  have hB7 := builder_below hB6 hb7
  have s7 : w1.heap.size ≤ w7.heap.size := Nat.le_trans s5 (Nat.le_trans hb6.size hb7.size)
  have h7 : (([.int .u8 45] : List Value) ++ Lib.strCells tn).length + ((⟨#[47]⟩ : ByteArray) ++ td).size ≤ 140737488355328 := by
    have e1 : ((⟨#[47]⟩ : ByteArray) ++ td).size = 1 + td.size := ByteArray.size_append
    simp only [List.length_append, Lib.strCells_length, List.length_cons, List.length_nil, e1]
    omega
  go_wp2_with (go_at_call 94; refine (b_str_put w1.heap.size w1.heap.size _ ((⟨#[47]⟩ : ByteArray) ++ td) _ (.inr hB7) h7 s7).mono ?_)
  rintro e w8 ⟨rfl, hB8, hb8⟩
  have g8 := g7.trans (hb8.mono (Nat.le_of_lt l1))
  have s8 : w1.heap.size ≤ w8.heap.size := Nat.le_trans s7 hb8.size
  have hS : Lib.IsBuilder 96 5 w1.heap.size w1.heap.size (Lib.byteCells (45 :: tn.data.toList ++ 47 :: td.data.toList)) _ := is_eq (.inr hB8) (by simp [Lib.strCells, Lib.byteCells])
  go_wp2_with (go_at_call 96; refine (b_string w1.heap.size w1.heap.size _ _ hS s8).mono ?_)
  rintro e w9 ⟨rfl, hb9⟩
  go_wp2
  go_ret2
  refine ⟨?_, g8.trans (hb9.mono (Nat.le_of_lt l1))⟩
  rw [bytes_eq _ ((⟨#[45]⟩ : ByteArray) ++ tn ++ ((⟨#[47]⟩ : ByteArray) ++ td)) (by simp [ByteArray.data_append])] <;> rfl
set_option maxHeartbeats 1000000 in
set_option maxRecDepth 100000 in
theorem calls_ratText_pw (sn sd : Value) (tn td : ByteArray) (en ed : Int) (w : World)
    (H54 : ∀ w', Below w.heap.size w w' → Calls Try.prog 54 #[.agg #[.bool false, sn, sd]] w' fun e w'' => e = .returned (.bool true) ∧ Below w'.heap.size w' w'')
    (H95 : ∀ w', Below w.heap.size w w' → Calls Try.prog 95 #[.agg #[.bool false, sn, sd]] w' fun e w'' => e = .returned (.bool true) ∧ Below w'.heap.size w' w'')
    (H93n : ∀ w', Below w.heap.size w w' → Calls Try.prog 93 #[sn] w' fun e w'' => e = .returned (.tuple #[.string tn, .int .i64 en]) ∧ Below w'.heap.size w' w'')
    (hlen : tn.size + td.size + 2 ≤ 140737488355328) :
    Calls Try.prog 55 #[.agg #[.bool false, sn, sd]] w fun e w' => e = .returned (.tuple #[.string (tn), .int .i64 0]) ∧ Below w.heap.size w w' := by
  go_enter Try.func55, Try.ntmps55
  go_wp2_with (go_at_call 54; refine (H54 _ ((Below.refl _ _).alloc (Nat.le_refl _) _)).mono ?_)
  rintro e w1 ⟨rfl, hb1⟩
  have g1 : Below w.heap.size w w1 := (Below.alloc (Below.refl _ _) (Nat.le_refl _) _).trans (hb1.mono (Nat.le_of_lt (alloc_lt _ _)))
  have x1 : w1.heap[w.heap.size]? = some (.cells #[.bool false, sn, sd] 25 (0, 0)) := below_heap hb1 (alloc_lt _ _) (alloc_new _ _)
  have l1 : w.heap.size < w1.heap.size := Nat.lt_of_lt_of_le (alloc_lt _ _) hb1.size
  have x2 : (w1.alloc (.cells #[.pointer none, .slice none 0 0] 96)).heap[w.heap.size]? = some (.cells #[.bool false, sn, sd] 25 (0, 0)) := by rw [Lib.alloc_old _ _ _ l1]; exact x1
  obtain ⟨c20, c21, c22, c23⟩ := cells3 x2
  have g2 : Below w.heap.size w (w1.alloc (.cells #[.pointer none, .slice none 0 0] 96)) := g1.alloc g1.size _
  have hB2 : Lib.IsBuilder 96 5 w1.heap.size w1.heap.size [] (w1.alloc (.cells #[.pointer none, .slice none 0 0] 96)) := Lib.fresh_isBuilder 96 5 w1
  have hl2 := Nat.le_of_lt (alloc_lt w1 (.cells #[.pointer none, .slice none 0 0] 96))
  go_wp2_with (go_at_call 93; refine (H93n _ g2).mono ?_)
  rintro e w4 ⟨rfl, hb4⟩
  have s4 : w1.heap.size ≤ w4.heap.size := Nat.le_trans hl2 hb4.size
  have x4 := below_heap hb4 (Nat.lt_of_lt_of_le l1 hl2) x2
  have g4 := g2.trans (hb4.mono g2.size)
  have hB4 : Lib.IsBuilder 96 5 w1.heap.size w1.heap.size [] w4 := hB2.elim (fun h => .inl (builder_below h hb4)) (fun h => .inr (builder_below h hb4))
  obtain ⟨c40, c41, c42, c43⟩ := cells3 x4
  go_wp2_with (go_at_call 94; refine (b_str_put w1.heap.size w1.heap.size _ tn _ hB4 (by simp only [List.length_cons, List.length_nil]; omega) s4).mono ?_)
  rintro e w5 ⟨rfl, hB5, hb5⟩
  have x5 := below_heap hb5 l1 x4
  obtain ⟨c50, c51, c52, c53⟩ := cells3 x5
  have g5 := g4.trans (hb5.mono (Nat.le_of_lt l1))
  go_wp2_with (go_at_call 95; refine (H95 _ g5).mono ?_)
  rintro e w6 ⟨rfl, hb6⟩
  have s5 : w1.heap.size ≤ w5.heap.size := Nat.le_trans s4 hb5.size
  have x6 := below_heap hb6 (Nat.lt_of_lt_of_le l1 s5) x5
  obtain ⟨c60, c61, c62, c63⟩ := cells3 x6
  have g6 := g5.trans (hb6.mono g5.size)
  have hB6 := builder_below hB5 hb6
  have s8 : w1.heap.size ≤ w6.heap.size := Nat.le_trans s5 hb6.size
  have g8 := g6
  have hB8 := hB6
  have hS : Lib.IsBuilder 96 5 w1.heap.size w1.heap.size (Lib.byteCells (tn.data.toList)) _ := is_eq (.inr hB8) (by simp [Lib.strCells, Lib.byteCells])
  go_wp2_with (go_at_call 96; refine (b_string w1.heap.size w1.heap.size _ _ hS s8).mono ?_)
  rintro e w9 ⟨rfl, hb9⟩
  go_wp2
  go_ret2
  refine ⟨?_, g8.trans (hb9.mono (Nat.le_of_lt l1))⟩
  rw [bytes_eq _ (tn) (by simp [ByteArray.data_append])] <;> rfl
set_option maxHeartbeats 1000000 in
set_option maxRecDepth 100000 in
theorem calls_ratText_pd (sn sd : Value) (tn td : ByteArray) (en ed : Int) (w : World)
    (H54 : ∀ w', Below w.heap.size w w' → Calls Try.prog 54 #[.agg #[.bool false, sn, sd]] w' fun e w'' => e = .returned (.bool true) ∧ Below w'.heap.size w' w'')
    (H95 : ∀ w', Below w.heap.size w w' → Calls Try.prog 95 #[.agg #[.bool false, sn, sd]] w' fun e w'' => e = .returned (.bool false) ∧ Below w'.heap.size w' w'')
    (H93n : ∀ w', Below w.heap.size w w' → Calls Try.prog 93 #[sn] w' fun e w'' => e = .returned (.tuple #[.string tn, .int .i64 en]) ∧ Below w'.heap.size w' w'')
    (H93d : ∀ w', Below w.heap.size w w' → Calls Try.prog 93 #[sd] w' fun e w'' => e = .returned (.tuple #[.string td, .int .i64 ed]) ∧ Below w'.heap.size w' w'')
    (hlen : tn.size + td.size + 2 ≤ 140737488355328) :
    Calls Try.prog 55 #[.agg #[.bool false, sn, sd]] w fun e w' => e = .returned (.tuple #[.string (tn ++ ((⟨#[47]⟩ : ByteArray) ++ td)), .int .i64 0]) ∧ Below w.heap.size w w' := by
  go_enter Try.func55, Try.ntmps55
  go_wp2_with (go_at_call 54; refine (H54 _ ((Below.refl _ _).alloc (Nat.le_refl _) _)).mono ?_)
  rintro e w1 ⟨rfl, hb1⟩
  have g1 : Below w.heap.size w w1 := (Below.alloc (Below.refl _ _) (Nat.le_refl _) _).trans (hb1.mono (Nat.le_of_lt (alloc_lt _ _)))
  have x1 : w1.heap[w.heap.size]? = some (.cells #[.bool false, sn, sd] 25 (0, 0)) := below_heap hb1 (alloc_lt _ _) (alloc_new _ _)
  have l1 : w.heap.size < w1.heap.size := Nat.lt_of_lt_of_le (alloc_lt _ _) hb1.size
  have x2 : (w1.alloc (.cells #[.pointer none, .slice none 0 0] 96)).heap[w.heap.size]? = some (.cells #[.bool false, sn, sd] 25 (0, 0)) := by rw [Lib.alloc_old _ _ _ l1]; exact x1
  obtain ⟨c20, c21, c22, c23⟩ := cells3 x2
  have g2 : Below w.heap.size w (w1.alloc (.cells #[.pointer none, .slice none 0 0] 96)) := g1.alloc g1.size _
  have hB2 : Lib.IsBuilder 96 5 w1.heap.size w1.heap.size [] (w1.alloc (.cells #[.pointer none, .slice none 0 0] 96)) := Lib.fresh_isBuilder 96 5 w1
  have hl2 := Nat.le_of_lt (alloc_lt w1 (.cells #[.pointer none, .slice none 0 0] 96))
  go_wp2_with (go_at_call 93; refine (H93n _ g2).mono ?_)
  rintro e w4 ⟨rfl, hb4⟩
  have s4 : w1.heap.size ≤ w4.heap.size := Nat.le_trans hl2 hb4.size
  have x4 := below_heap hb4 (Nat.lt_of_lt_of_le l1 hl2) x2
  have g4 := g2.trans (hb4.mono g2.size)
  have hB4 : Lib.IsBuilder 96 5 w1.heap.size w1.heap.size [] w4 := hB2.elim (fun h => .inl (builder_below h hb4)) (fun h => .inr (builder_below h hb4))
  obtain ⟨c40, c41, c42, c43⟩ := cells3 x4
  go_wp2_with (go_at_call 94; refine (b_str_put w1.heap.size w1.heap.size _ tn _ hB4 (by simp only [List.length_cons, List.length_nil]; omega) s4).mono ?_)
  rintro e w5 ⟨rfl, hB5, hb5⟩
  have x5 := below_heap hb5 l1 x4
  obtain ⟨c50, c51, c52, c53⟩ := cells3 x5
  have g5 := g4.trans (hb5.mono (Nat.le_of_lt l1))
  go_wp2_with (go_at_call 95; refine (H95 _ g5).mono ?_)
  rintro e w6 ⟨rfl, hb6⟩
  have s5 : w1.heap.size ≤ w5.heap.size := Nat.le_trans s4 hb5.size
  have x6 := below_heap hb6 (Nat.lt_of_lt_of_le l1 s5) x5
  obtain ⟨c60, c61, c62, c63⟩ := cells3 x6
  have g6 := g5.trans (hb6.mono g5.size)
  have hB6 := builder_below hB5 hb6
  go_wp2_with (go_at_call 93; refine (H93d _ g6).mono ?_)
  rintro e w7 ⟨rfl, hb7⟩
  have g7 := g6.trans (hb7.mono g6.size)
  have hB7 := builder_below hB6 hb7
  have s7 : w1.heap.size ≤ w7.heap.size := Nat.le_trans s5 (Nat.le_trans hb6.size hb7.size)
  have h7 : (([] : List Value) ++ Lib.strCells tn).length + ((⟨#[47]⟩ : ByteArray) ++ td).size ≤ 140737488355328 := by
    have e1 : ((⟨#[47]⟩ : ByteArray) ++ td).size = 1 + td.size := ByteArray.size_append
    simp only [List.length_append, Lib.strCells_length, List.length_cons, List.length_nil, e1]
    omega
  go_wp2_with (go_at_call 94; refine (b_str_put w1.heap.size w1.heap.size _ ((⟨#[47]⟩ : ByteArray) ++ td) _ (.inr hB7) h7 s7).mono ?_)
  rintro e w8 ⟨rfl, hB8, hb8⟩
  have g8 := g7.trans (hb8.mono (Nat.le_of_lt l1))
  have s8 : w1.heap.size ≤ w8.heap.size := Nat.le_trans s7 hb8.size
  have hS : Lib.IsBuilder 96 5 w1.heap.size w1.heap.size (Lib.byteCells (tn.data.toList ++ 47 :: td.data.toList)) _ := is_eq (.inr hB8) (by simp [Lib.strCells, Lib.byteCells])
  go_wp2_with (go_at_call 96; refine (b_string w1.heap.size w1.heap.size _ _ hS s8).mono ?_)
  rintro e w9 ⟨rfl, hb9⟩
  go_wp2
  go_ret2
  refine ⟨?_, g8.trans (hb9.mono (Nat.le_of_lt l1))⟩
  rw [bytes_eq _ (tn ++ ((⟨#[47]⟩ : ByteArray) ++ td)) (by simp [ByteArray.data_append])] <;> rfl
theorem calls_ratText_no (s : Bool) (sn sd : Value) (w : World)
    (H54 : ∀ w', Below w.heap.size w w' → Calls Try.prog 54 #[.agg #[.bool s, sn, sd]] w' fun e w'' => e = .returned (.bool false) ∧ Below w'.heap.size w' w'') :
    Calls Try.prog 55 #[.agg #[.bool s, sn, sd]] w fun e w' => e = .returned (.tuple #[.string ⟨#[]⟩, .int .i64 3]) ∧ Below w.heap.size w w' := by
  go_enter Try.func55, Try.ntmps55
  go_wp2_with (go_at_call 54; refine (H54 _ ((Below.refl _ _).alloc (Nat.le_refl _) _)).mono ?_)
  rintro e w1 ⟨rfl, hb1⟩
  have g1 : Below w.heap.size w w1 := (Below.alloc (Below.refl _ _) (Nat.le_refl _) _).trans (hb1.mono (Nat.le_of_lt (alloc_lt _ _)))
  go_wp2
  go_ret2
  exact ⟨rfl, g1⟩
theorem arr1 {α : Type} {vs : Array α} {d : α} (h : vs.size = 1) : vs = #[vs.getD 0 d] := by
  apply Array.ext
  · rw [h]; rfl
  · intro i h1 h2
    match i, h1 with
    | 0, h1 => simp [Array.getD, h]
    | n + 1, h1 => omega
theorem arr2 {α : Type} {vs : Array α} {d : α} (h : vs.size = 2) : vs = #[vs.getD 0 d, vs.getD 1 d] := by
  apply Array.ext
  · rw [h]; rfl
  · intro i h1 h2
    match i, h1 with
    | 0, h1 => simp [Array.getD, h]
    | 1, h1 => simp [Array.getD, h]
    | n + 2, h1 => omega
theorem arr3 {α : Type} {vs : Array α} {d : α} (h : vs.size = 3) : vs = #[vs.getD 0 d, vs.getD 1 d, vs.getD 2 d] := by
  apply Array.ext
  · rw [h]; rfl
  · intro i h1 h2
    match i, h1 with
    | 0, h1 => simp [Array.getD, h]
    | 1, h1 => simp [Array.getD, h]
    | 2, h1 => simp [Array.getD, h]
    | n + 3, h1 => omega
theorem vrel_lit {w : World} {F : Nat → Prop} {a b} {v u : Value} (h : VRel w F a b v (.cv (.lit u))) : v = u := by
  cases h with
  | cv h => cases h; rfl
theorem vrel_tup2 {w : World} {F : Nat → Prop} {a b} {v x y : Value} (h : VRel w F a b v (.tup [.cv (.lit x), .cv (.lit y)])) : v = .tuple #[x, y] := by
  cases h with
  | tup hl h =>
    rw [arr2 (d := undef) hl, vrel_lit (h 0 (by simp)), vrel_lit (h 1 (by simp))]
theorem use_fn {f : FuncId} {p q : PV} {u v : Value} {w : World} {F : Nat → Prop} (hf : V.Fn Try.prog f [p] q) (hF : ∀ b, F b → b < w.heap.size) (hv : VRel w F nr nl v p) (hq : ∀ w' F' v', VRel w' F' nr nl v' q → v' = u) (w' : World) (hb : Below w.heap.size w w') :
    Calls Try.prog f #[v] w' fun e w'' => e = .returned u ∧ Below w'.heap.size w' w'' := by
  refine (hf F w' #[v] (fun b h => Nat.lt_of_lt_of_le (hF b h) hb.size) rfl (fun i h => ?_)).mono ?_
  · match i, h with
    | 0, h => exact hv.mono (fun b h => h) (fun b h => hb.block b (hF b h)) (fun k r h => ⟨h, rfl⟩)
    | n + 1, h => simp at h
  · rintro e w'' ⟨v', rfl, h1, h2⟩
    rw [hq _ _ _ h2]
    exact ⟨rfl, h1⟩
abbrev RatD := Bool × List Int × List Int × Unit
noncomputable def ratText (call : (g : Nat) → List Val → Option (T.out g).den) (y : RatD) : Option (ByteArray × Int × Unit) :=
  (show Option Bool from call 54 [.v c_api_Rat y]).bind fun ok => bif ok then
    (show Option (ByteArray × Int × Unit) from call 93 [.v (.list (.int .u32)) y.2.1]).bind fun n =>
    (show Option Bool from call 95 [.v c_api_Rat y]).bind fun wh => bif wh then
      if n.1.size + 2 ≤ 140737488355328 then some (bif y.1 then (⟨#[45]⟩ : ByteArray) ++ n.1 else n.1, 0, ()) else none
    else
      (show Option (ByteArray × Int × Unit) from call 93 [.v (.list (.int .u32)) y.2.2.1]).bind fun d =>
      if n.1.size + d.1.size + 2 ≤ 140737488355328 then some (bif y.1 then (⟨#[45]⟩ : ByteArray) ++ n.1 ++ ((⟨#[47]⟩ : ByteArray) ++ d.1) else n.1 ++ ((⟨#[47]⟩ : ByteArray) ++ d.1), 0, ()) else none
  else some ((⟨#[]⟩ : ByteArray), 3, ())
theorem ratText_fn {call : (g : Nat) → List Val → Option (T.out g).den} (hC : CallOk T call) (y : RatD) (r : ByteArray × Int × Unit) (h : ratText call y = some r) : V.Fn Try.prog 55 [c_api_Rat.pv y] (.tup [.cv (.lit (.string r.1)), .cv (.lit (.int .i64 r.2.1))]) := by
  obtain ⟨s, n, d, _⟩ := y
  have F54 : ∀ ok : Bool, (show Option Bool from call 54 [.v c_api_Rat (s, n, d, ())]) = some ok → V.Fn Try.prog 54 [c_api_Rat.pv (s, n, d, ())] (.cv (.lit (.bool ok))) := fun ok h => by
    obtain ⟨_, p, h1, h2⟩ := hC.fn 54 _ ok rfl h
    obtain rfl := Option.some.inj h1
    exact h2
  have F95 : ∀ ok : Bool, (show Option Bool from call 95 [.v c_api_Rat (s, n, d, ())]) = some ok → V.Fn Try.prog 95 [c_api_Rat.pv (s, n, d, ())] (.cv (.lit (.bool ok))) := fun ok h => by
    obtain ⟨_, p, h1, h2⟩ := hC.fn 95 _ ok rfl h
    obtain rfl := Option.some.inj h1
    exact h2
  have F93 : ∀ (l : List Int) (t : ByteArray × Int × Unit), (show Option (ByteArray × Int × Unit) from call 93 [.v (.list (.int .u32)) l]) = some t → V.Fn Try.prog 93 [(Ty.list (.int .u32)).pv l] (.tup [.cv (.lit (.string t.1)), .cv (.lit (.int .i64 t.2.1))]) := fun l t h => by
    obtain ⟨_, p, h1, h2⟩ := hC.fn 93 _ t rfl h
    obtain rfl := Option.some.inj h1
    exact h2
  intro F w vs hF hn hv
  have hv0 := hv 0 (by simp)
  rw [arr1 (d := undef) hn]
  generalize vs.getD 0 undef = v at hv0
  replace hv0 : VRel w F nr nl v (.ag [.lit (.bool s), .row n.length (n.flatMap (Ty.enc (.int .u32))), .row d.length (d.flatMap (Ty.enc (.int .u32)))]) := hv0
  have hv1 := hv0
  cases hv0 with
  | ag hl h3 =>
    rename_i cs
    have e0 : cs.getD 0 undef = .bool s := vrel_lit (.cv (h3 0 (by simp)) : VRel w F nr nl _ _)
    have en : VRel w F nr nl (cs.getD 1 undef) ((Ty.list (.int .u32)).pv n) := .cv (h3 1 (by simp))
    have ed : VRel w F nr nl (cs.getD 2 undef) ((Ty.list (.int .u32)).pv d) := .cv (h3 2 (by simp))
    rw [arr3 (d := undef) hl, e0] at hv1 ⊢
    generalize cs.getD 1 undef = sn at en hv1
    generalize cs.getD 2 undef = sd at ed hv1
    have fin : ∀ {t : ByteArray} {c : Int}, (Calls Try.prog 55 #[.agg #[.bool s, sn, sd]] w fun e w' => e = .returned (.tuple #[.string t, .int .i64 c]) ∧ Below w.heap.size w w') → r = (t, c, ()) →
        Calls Try.prog 55 #[.agg #[.bool s, sn, sd]] w fun e w' => ∃ v, e = .returned v ∧ Below w.heap.size w w' ∧ VRel w' (fun b => F b ∨ (w.heap.size ≤ b ∧ b < w'.heap.size)) nr nl v (.tup [.cv (.lit (.string r.1)), .cv (.lit (.int .i64 r.2.1))]) := by
      intro t c hk hr
      subst hr
      refine hk.mono ?_
      rintro e w' ⟨rfl, hb⟩
      refine ⟨_, rfl, hb, .tup rfl (fun i hi => ?_)⟩
      match i, hi with
      | 0, hi => exact .cv (.lit _)
      | 1, hi => exact .cv (.lit _)
      | q + 2, hi => exact absurd (Nat.lt_of_lt_of_le hi (Nat.le_of_eq rfl) : q + 2 < 2) (by omega)
    have L : ∀ w' F' v' u, VRel w' F' nr nl v' (.cv (.lit u)) → v' = u := fun w' F' v' u h => vrel_lit h
    unfold ratText at h
    obtain ⟨ok, h54, h⟩ := Option.bind_eq_some_iff.1 h
    have G54 := use_fn (F54 ok h54) hF hv1 (fun w' F' v' h => vrel_lit h)
    cases ok with
    | false =>
      obtain rfl := Option.some.inj h
      exact fin (calls_ratText_no s sn sd w G54) rfl
    | true =>
      obtain ⟨tn, h93, h⟩ := Option.bind_eq_some_iff.1 h
      have G93 := use_fn (F93 n tn h93) hF en (fun w' F' v' h => vrel_tup2 h)
      obtain ⟨wh, h95, h⟩ := Option.bind_eq_some_iff.1 h
      have G95 := use_fn (F95 wh h95) hF hv1 (fun w' F' v' h => vrel_lit h)
      cases wh with
      | true =>
        replace h : (if tn.1.size + 2 ≤ 140737488355328 then some (bif s then (⟨#[45]⟩ : ByteArray) ++ tn.1 else tn.1, (0 : Int), ()) else none) = some r := h
        split at h
        · rename_i hle
          obtain rfl := Option.some.inj h
          cases s with
          | true => exact fin (calls_ratText_nw sn sd tn.1 ⟨#[]⟩ tn.2.1 0 w G54 G95 G93 hle) rfl
          | false => exact fin (calls_ratText_pw sn sd tn.1 ⟨#[]⟩ tn.2.1 0 w G54 G95 G93 hle) rfl
        · cases h
      | false =>
        obtain ⟨td, h93d, h⟩ := Option.bind_eq_some_iff.1 h
        have G93d := use_fn (F93 d td h93d) hF ed (fun w' F' v' h => vrel_tup2 h)
        split at h
        · rename_i hle
          obtain rfl := Option.some.inj h
          cases s with
          | true => exact fin (calls_ratText_nd sn sd tn.1 td.1 tn.2.1 td.2.1 w G54 G95 G93 G93d hle) rfl
          | false => exact fin (calls_ratText_pd sn sd tn.1 td.1 tn.2.1 td.2.1 w G54 G95 G93 G93d hle) rfl
        · cases h
noncomputable def orc_ratText : Orc T := ⟨.pair .str (.pair (.int .i64) .unit), fun call k vs => match vs with
  | [x] => match coe c_api_Rat x with
    | some y => ratText call y
    | none => none
  | _ => none⟩
theorem callee_ratText : CalleeOk Try.prog 55 := ⟨_, Try.func55, by decide, by simp [Try.f55]⟩
theorem orc_ratText_good : OrcGood T (55, orc_ratText) := ⟨rfl, callee_ratText, fun call k vs r hC h => by
  simp only [orc_ratText] at h
  split at h
  · split at h
    · rename_i x y hy
      simp only [List.map_cons, List.map_nil, argPV_coe hy]
      exact ⟨_, rfl, ratText_fn hC y r h⟩
    · cases h
  · cases h⟩
end Go.Proofs.Ytfpolhoabfadnaa.E
end
section
namespace Go.Proofs.Ytfpolhoabfadnaa.E
noncomputable def orc : List (Nat × Orc T) := (139, orc_indexByte) :: (55, orc_ratText) :: orcA
theorem orc_ok : OrcOk T orc := orcOk_of fun x hx => by
  simp only [orc, List.mem_cons] at hx
  rcases hx with rfl | rfl | hx
  · exact orc_indexByte_good
  · exact orc_ratText_good
  · exact orcA_good x hx
end Go.Proofs.Ytfpolhoabfadnaa.E
end
section
namespace Go.Proofs.Ytfpolhoabfadnaa.Q
open Go.RowKit Go.Proofs.YtfpolhoabfadnaaW.PrintWords Go.Proofs.YtfpolhoabfadnaaW.PrintMore Go.Proofs.Ytfpolhoabfadnaa.V Go.Proofs.Ytfpolhoabfadnaa.E
set_option linter.unusedVariables false
noncomputable def isochronelaw02_RatTexts (k : Nat) (a0 : Bool × List Int × List Int × Unit) (a1 : ByteArray) : Option Bool := fn T orc k 9 [.v c_api_Rat a0, .v .str a1]
noncomputable def num_Whole (k : Nat) (a0 : Bool × List Int × List Int × Unit) : Option Bool := fn T orc k 95 [.v c_api_Rat a0]
noncomputable def nat_Text (k : Nat) (a0 : List Int) : Option (ByteArray × Int × Unit) := fn T orc k 93 [.v (.list (.int .u32)) a0]
noncomputable def isochronelaw02_awake (k : Nat) : Option Bool := fn T orc k 10 []
noncomputable def isochroneref02_Is (k : Nat) (a0 : Bool × List Int × List Int × Unit) (a1 : Bool × List Int × List Int × Unit) : Option Bool := fn T orc k 18 [.v c_api_Rat a0, .v c_isochroneref02_Rat a1]
noncomputable def isochroneref02_Make (k : Nat) (a0 : Bool) (a1 : List Int) (a2 : List Int) : Option (Bool × List Int × List Int × Unit) := fn T orc k 19 [.v .bool a0, .v (.list (.int .i64)) a1, .v (.list (.int .i64)) a2]
noncomputable def isochroneref01_Valid (k : Nat) (a0 : List Int) : Option Bool := fn T orc k 20 [.v (.list (.int .u32)) a0]
noncomputable def isochroneref02_None (k : Nat) (a0 : Bool × List Int × List Int × Unit) : Option Bool := fn T orc k 21 [.v c_api_Rat a0]
noncomputable def isochroneref01_Of (k : Nat) (a0 : List Int) : Option (List Int) := fn T orc k 22 [.v (.list (.int .u32)) a0]
noncomputable def isochronelaw02_small (k : Nat) (a0 : Bool × List Int × List Int × Unit) (a1 : Bool × List Int × List Int × Unit) (a2 : Int) : Option Bool := fn T orc k 23 [.v c_api_Rat a0, .v c_api_Rat a1, .v (.int .i64) a2]
noncomputable def isochroneref02_Of (k : Nat) (a0 : Bool × List Int × List Int × Unit) : Option (Bool × List Int × List Int × Unit) := fn T orc k 24 [.v c_api_Rat a0]
noncomputable def rat_Add (k : Nat) (a0 : Bool × List Int × List Int × Unit) (a1 : Bool × List Int × List Int × Unit) : Option ((Bool × List Int × List Int × Unit) × Int × Unit) := fn T orc k 36 [.v c_api_Rat a0, .v c_api_Rat a1]
noncomputable def isochroneref02_To (k : Nat) (a0 : Bool × List Int × List Int × Unit) : Option (Bool × List Int × List Int × Unit) := fn T orc k 50 [.v c_isochroneref02_Rat a0]
noncomputable def isochroneref02_Short (k : Nat) (a0 : Bool × List Int × List Int × Unit) (a1 : Int) : Option Bool := fn T orc k 51 [.v c_api_Rat a0, .v (.int .i64) a1]
noncomputable def isochroneref02_Valid (k : Nat) (a0 : Bool × List Int × List Int × Unit) : Option Bool := fn T orc k 52 [.v c_api_Rat a0]
noncomputable def isochroneref02_Zero (k : Nat) : Option (Bool × List Int × List Int × Unit) := fn T orc k 53 []
noncomputable def rat_Valid (k : Nat) (a0 : Bool × List Int × List Int × Unit) : Option Bool := fn T orc k 54 [.v c_api_Rat a0]
noncomputable def rat_Text (k : Nat) (a0 : Bool × List Int × List Int × Unit) : Option (ByteArray × Int × Unit) := fn T orc k 55 [.v c_api_Rat a0]
noncomputable def rat_Parse (k : Nat) (a0 : ByteArray) : Option ((Bool × List Int × List Int × Unit) × Int × Unit) := fn T orc k 56 [.v .str a0]
noncomputable def isochroneref02_Text (k : Nat) (a0 : Bool × List Int × List Int × Unit) : Option ByteArray := fn T orc k 57 [.v c_isochroneref02_Rat a0]
noncomputable def isochroneref02_Same (k : Nat) (a0 : Bool × List Int × List Int × Unit) (a1 : Bool × List Int × List Int × Unit) : Option Bool := fn T orc k 58 [.v c_api_Rat a0, .v c_api_Rat a1]
noncomputable def isochroneref02_Parse (k : Nat) (a0 : ByteArray) : Option ((Bool × List Int × List Int × Unit) × Int × Unit) := fn T orc k 59 [.v .str a0]
noncomputable def num_whole (k : Nat) (a0 : Bool × List Int × List Int × Unit) : Option Bool := fn T orc k 124 [.v c_api_Rat a0]
noncomputable def num_Make (k : Nat) (a0 : Bool) (a1 : List Int) (a2 : List Int) : Option (Bool × List Int × List Int × Unit) := fn T orc k 61 [.v .bool a0, .v (.list (.int .u32)) a1, .v (.list (.int .u32)) a2]
noncomputable def isochroneref01_GCD (k : Nat) (a0 : List Int) (a1 : List Int) : Option (List Int) := fn T orc k 66 [.v (.list (.int .i64)) a0, .v (.list (.int .i64)) a1]
noncomputable def isochroneref01_DivMod (k : Nat) (a0 : List Int) (a1 : List Int) : Option (List Int × List Int × Unit) := fn T orc k 67 [.v (.list (.int .i64)) a0, .v (.list (.int .i64)) a1]
noncomputable def isochroneref01_Small (k : Nat) (a0 : List Int) (a1 : Int) (a2 : Int) : Option (List Int) := fn T orc k 64 [.v (.list (.int .i64)) a0, .v (.int .i64) a1, .v (.int .i64) a2]
noncomputable def rat_limited (k : Nat) (a0 : Bool × List Int × List Int × Unit) : Option ((Bool × List Int × List Int × Unit) × Int × Unit) := fn T orc k 68 [.v c_api_Rat a0]
noncomputable def isochroneref01_Pow (k : Nat) (a0 : List Int) (a1 : Int) : Option (List Int) := fn T orc k 77 [.v (.list (.int .i64)) a0, .v (.int .i64) a1]
noncomputable def rat_pair_num_Add (k : Nat) (a0 : Bool × List Int × List Int × Unit) (a1 : Bool × List Int × List Int × Unit) : Option ((Bool × List Int × List Int × Unit) × Int × Unit) := fn T orc k 78 [.v c_api_Rat a0, .v c_api_Rat a1, .v .fn 79]
noncomputable def isochroneref01_Cmp (k : Nat) (a0 : List Int) (a1 : List Int) : Option Int := fn T orc k 85 [.v (.list (.int .i64)) a0, .v (.list (.int .i64)) a1]
noncomputable def num_Add (k : Nat) (a0 : Bool × List Int × List Int × Unit) (a1 : Bool × List Int × List Int × Unit) : Option (Bool × List Int × List Int × Unit) := fn T orc k 79 [.v c_api_Rat a0, .v c_api_Rat a1]
noncomputable def num_Zero (k : Nat) : Option (Bool × List Int × List Int × Unit) := fn T orc k 86 []
noncomputable def isochroneref01_Words (k : Nat) (a0 : List Int) : Option (List Int) := fn T orc k 90 [.v (.list (.int .i64)) a0]
noncomputable def num_Valid (k : Nat) (a0 : Bool × List Int × List Int × Unit) (a1 : Int) : Option Bool := fn T orc k 91 [.v c_api_Rat a0, .v (.int .i64) a1]
noncomputable def strings_HasPrefix (k : Nat) (a0 : ByteArray) (a1 : ByteArray) : Option Bool := fn T orc k 97 [.v .str a0, .v .str a1]
noncomputable def strings_Cut (k : Nat) (a0 : ByteArray) (a1 : ByteArray) : Option (ByteArray × ByteArray × Bool × Unit) := fn T orc k 98 [.v .str a0, .v .str a1]
noncomputable def nat_Parse (k : Nat) (a0 : ByteArray) : Option (List Int × Int × Unit) := fn T orc k 99 [.v .str a0]
noncomputable def nat_Pow (k : Nat) (a0 : List Int) (a1 : Int) : Option (List Int × Int × Unit) := fn T orc k 100 [.v (.list (.int .u32)) a0, .v (.int .i64) a1]
noncomputable def mag_Add (k : Nat) (a0 : List Int) (a1 : List Int) : Option (List Int) := fn T orc k 101 [.v (.list (.int .u32)) a0, .v (.list (.int .u32)) a1]
noncomputable def mag_Mul (k : Nat) (a0 : List Int) (a1 : List Int) : Option (List Int) := fn T orc k 102 [.v (.list (.int .u32)) a0, .v (.list (.int .u32)) a1]
noncomputable def isochroneref01_Text (k : Nat) (a0 : List Int) : Option ByteArray := fn T orc k 103 [.v (.list (.int .i64)) a0]
noncomputable def slices_Equal_uint32_uint32 (k : Nat) (a0 : List Int) (a1 : List Int) : Option Bool := fn T orc k 104 [.v (.list (.int .u32)) a0, .v (.list (.int .u32)) a1]
noncomputable def isochroneref01_Decimal (k : Nat) (a0 : ByteArray) : Option Bool := fn T orc k 105 [.v .str a0]
noncomputable def isochroneref01_Digits (k : Nat) (a0 : ByteArray) : Option (List Int) := fn T orc k 106 [.v .str a0]
noncomputable def mag_GCD (k : Nat) (a0 : List Int) (a1 : List Int) : Option (List Int) := fn T orc k 107 [.v (.list (.int .u32)) a0, .v (.list (.int .u32)) a1]
noncomputable def mag_DivMod (k : Nat) (a0 : List Int) (a1 : List Int) : Option (List Int × List Int × Unit) := fn T orc k 108 [.v (.list (.int .u32)) a0, .v (.list (.int .u32)) a1]
noncomputable def num_Fits (k : Nat) (a0 : Bool × List Int × List Int × Unit) (a1 : Int) : Option Bool := fn T orc k 113 [.v c_api_Rat a0, .v (.int .i64) a1]
noncomputable def mag_Cmp (k : Nat) (a0 : List Int) (a1 : List Int) : Option Int := fn T orc k 117 [.v (.list (.int .u32)) a0, .v (.list (.int .u32)) a1]
noncomputable def mag_Sub (k : Nat) (a0 : List Int) (a1 : List Int) : Option (List Int) := fn T orc k 118 [.v (.list (.int .u32)) a0, .v (.list (.int .u32)) a1]
noncomputable def num_valid (k : Nat) (a0 : List Int) (a1 : Int) : Option Bool := fn T orc k 120 [.v (.list (.int .u32)) a0, .v (.int .i64) a1]
noncomputable def stringslite_HasPrefix (k : Nat) (a0 : ByteArray) (a1 : ByteArray) : Option Bool := fn T orc k 125 [.v .str a0, .v .str a1]
noncomputable def stringslite_Cut (k : Nat) (a0 : ByteArray) (a1 : ByteArray) : Option (ByteArray × ByteArray × Bool × Unit) := fn T orc k 126 [.v .str a0, .v .str a1]
noncomputable def stringslite_Index (k : Nat) (a0 : ByteArray) (a1 : ByteArray) : Option Int := fn T orc k 136 [.v .str a0, .v .str a1]
noncomputable def stringslite_IndexByte (k : Nat) (a0 : ByteArray) (a1 : Int) : Option Int := fn T orc k 139 [.v .str a0, .v (.int .u8) a1]
noncomputable def isochroneref01_Of.l0 (k m0 : Nat) (x0 : List Int) (x3 : List Int) (x4 : Int) : Option (List Int) := lAt T orc k 22 Try.f22 none [1, 1, 0, 1, 0] m0 [] ⟨[(0, .v (.list (.int .u32)) x0), (3, .v (.list (.int .i64)) x3), (4, .v (.int .i64) x4)], []⟩
noncomputable def isochroneref02_Parse.l0 (k m0 : Nat) (x0 : ByteArray) (x4 : Bool) (x5 : Int) (x6 : Int) (x22 : Int) (x23 : Int) (r2 : Bool × List Int × List Int × Unit) : Option ((Bool × List Int × List Int × Unit) × Int × Unit) := lAt T orc k 59 Try.f59 none [1, 1, 1, 1, 0, 1, 0] m0 [] ⟨[(0, .v .str x0), (2, .po 2 0 []), (4, .v .bool x4), (5, .v (.int .i64) x5), (6, .v (.int .u8) x6), (22, .v (.int .i64) x22), (23, .v (.int .i64) x23)], [(2, .box 38 c_isochroneref02_Rat r2)]⟩
noncomputable def rat_Parse.j2 (k : Nat) (x4 : Bool) (x9 : List Int) (x11 : List Int) (r2 : Bool × List Int × List Int × Unit) : Option ((Bool × List Int × List Int × Unit) × Int × Unit) :=
  (num_Make k x4 x9 x11).bind fun (v10 : Bool × List Int × List Int × Unit) =>
  (rat_limited k v10).bind fun (v11 : (Bool × List Int × List Int × Unit) × Int × Unit) =>
  some (v11.1, v11.2.1, ())
noncomputable def rat_Parse.j1 (k : Nat) (x4 : Bool) (x5 : ByteArray) (x6 : ByteArray) (x7 : Bool) (x8 : Bool) (r2 : Bool × List Int × List Int × Unit) : Option ((Bool × List Int × List Int × Unit) × Int × Unit) :=
  (nat_Parse k x5).bind fun (v4 : List Int × Int × Unit) =>
  bif v4.2.1 != (0 : Int) then
    some ((false, [], [], ()), v4.2.1, ())
  else
    bif x7 then
      (nat_Parse k x6).bind fun (v5 : List Int × Int × Unit) =>
      bif v5.2.1 != (0 : Int) then
        some ((false, [], [], ()), v5.2.1, ())
      else
        bif (List.length v5.1 : Int) == (0 : Int) then
          some ((false, [], [], ()), (20 : Int), ())
        else
          rat_Parse.j2 k x4 v4.1 v5.1 r2
    else
      bif x8 then
        (nat_Parse k x6).bind fun (v6 : List Int × Int × Unit) =>
        bif v6.2.1 != (0 : Int) then
          some ((false, [], [], ()), v6.2.1, ())
        else
          (nat_Pow k ([(10 : Int)]) (x6.size : Int)).bind fun (v7 : List Int × Int × Unit) =>
          (mag_Mul k v4.1 v7.1).bind fun (v8 : List Int) =>
          (mag_Add k v8 v6.1).bind fun (v9 : List Int) =>
          rat_Parse.j2 k x4 v9 v7.1 r2
      else
        rat_Parse.j2 k x4 v4.1 ([(1 : Int)]) r2
noncomputable def rat_Parse.j0 (k : Nat) (x0 : ByteArray) (x4 : Bool) (r2 : Bool × List Int × List Int × Unit) : Option ((Bool × List Int × List Int × Unit) × Int × Unit) :=
  (strings_Cut k x0 (⟨#[47]⟩ : ByteArray)).bind fun (v2 : ByteArray × ByteArray × Bool × Unit) =>
  bif !v2.2.2.1 then
    (strings_Cut k x0 (⟨#[46]⟩ : ByteArray)).bind fun (v3 : ByteArray × ByteArray × Bool × Unit) =>
    rat_Parse.j1 k x4 v3.1 v3.2.1 v2.2.2.1 v3.2.2.1 r2
  else
    rat_Parse.j1 k x4 v2.1 v2.2.1 v2.2.2.1 false r2
noncomputable def isochroneref02_Text.j1 (k : Nat) (x3 : ByteArray) : Option ByteArray :=
  some x3
noncomputable def isochroneref02_Text.j0 (k : Nat) (x3 : ByteArray) (r1 : Bool × List Int × List Int × Unit) : Option ByteArray :=
  (isochroneref01_Cmp k r1.2.2.1 ([(1 : Int)])).bind fun (v2 : Int) =>
  bif v2 != (0 : Int) then
    (isochroneref01_Text k r1.2.2.1).bind fun (v3 : ByteArray) =>
    if (⟨#[47]⟩ : ByteArray).size + v3.size ≤ 9223372036854775807 then if x3.size + ((⟨#[47]⟩ : ByteArray) ++ v3).size ≤ 9223372036854775807 then isochroneref02_Text.j1 k (x3 ++ ((⟨#[47]⟩ : ByteArray) ++ v3)) else none else none
  else
    isochroneref02_Text.j1 k x3
noncomputable def isochroneref02_Parse.j3 (k : Nat) (x4 : Bool) (x8 : List Int) (x9 : List Int) (r2 : Bool × List Int × List Int × Unit) : Option ((Bool × List Int × List Int × Unit) × Int × Unit) :=
  (isochroneref02_Make k x4 x8 x9).bind fun (v11 : Bool × List Int × List Int × Unit) =>
  some (v11, (0 : Int), ())
noncomputable def isochroneref02_Parse.j2 (k : Nat) (x0 : ByteArray) (x4 : Bool) (x5 : Int) (x6 : Int) (x8 : List Int) (x9 : List Int) (r2 : Bool × List Int × List Int × Unit) : Option ((Bool × List Int × List Int × Unit) × Int × Unit) :=
  bif x6 == (46 : Int) then
    if 0 ≤ x5 ∧ x5 ≤ (x0.size : Int) then if 0 ≤ (wrap64 (x5 + (1 : Int))) ∧ (wrap64 (x5 + (1 : Int))) ≤ (x0.size : Int) then if (x0.extract 0 (Int.toNat x5)).size + (x0.extract (Int.toNat (wrap64 (x5 + (1 : Int)))) x0.size).size ≤ 9223372036854775807 then (isochroneref01_Digits k ((x0.extract 0 (Int.toNat x5)) ++ (x0.extract (Int.toNat (wrap64 (x5 + (1 : Int)))) x0.size))).bind fun (v9 : List Int) =>
    (isochroneref01_Pow k ([(10 : Int)]) (wrap64 ((wrap64 ((x0.size : Int) - x5)) - (1 : Int)))).bind fun (v10 : List Int) =>
    isochroneref02_Parse.j3 k x4 v9 v10 r2 else none else none else none
  else
    isochroneref02_Parse.j3 k x4 x8 x9 r2
noncomputable def isochroneref02_Parse.j1 (k : Nat) (x0 : ByteArray) (x4 : Bool) (x5 : Int) (x6 : Int) (r2 : Bool × List Int × List Int × Unit) : Option ((Bool × List Int × List Int × Unit) × Int × Unit) :=
  if 0 ≤ x5 ∧ x5 ≤ (x0.size : Int) then (isochroneref01_Decimal k (x0.extract 0 (Int.toNat x5))).bind fun (v3 : Bool) =>
  (bif !v3 then some true else (bif x6 != (0 : Int) then if 0 ≤ (wrap64 (x5 + (1 : Int))) ∧ (wrap64 (x5 + (1 : Int))) ≤ (x0.size : Int) then (isochroneref01_Decimal k (x0.extract (Int.toNat (wrap64 (x5 + (1 : Int)))) x0.size)).bind fun (v4 : Bool) =>
  some (!v4) else none else some false).bind fun (b5 : Bool) =>
  some b5).bind fun (b6 : Bool) =>
  bif b6 then
    some ((false, [], [], ()), (90 : Int), ())
  else
    if 0 ≤ x5 ∧ x5 ≤ (x0.size : Int) then (isochroneref01_Digits k (x0.extract 0 (Int.toNat x5))).bind fun (v7 : List Int) =>
    bif x6 == (47 : Int) then
      if 0 ≤ (wrap64 (x5 + (1 : Int))) ∧ (wrap64 (x5 + (1 : Int))) ≤ (x0.size : Int) then (isochroneref01_Digits k (x0.extract (Int.toNat (wrap64 (x5 + (1 : Int)))) x0.size)).bind fun (v8 : List Int) =>
      bif (List.length v8 : Int) == (0 : Int) then
        some ((false, [], [], ()), (20 : Int), ())
      else
        isochroneref02_Parse.j2 k x0 x4 x5 x6 v7 v8 r2 else none
    else
      isochroneref02_Parse.j2 k x0 x4 x5 x6 v7 ([(1 : Int)]) r2 else none else none
noncomputable def isochroneref02_Parse.j0 (k : Nat) (x0 : ByteArray) (x4 : Bool) (r2 : Bool × List Int × List Int × Unit) : Option ((Bool × List Int × List Int × Unit) × Int × Unit) :=
  isochroneref02_Parse.l0 k k x0 x4 (x0.size : Int) (0 : Int) (x0.size : Int) (0 : Int) r2
noncomputable def num_Make.j0 (k : Nat) (x0 : Bool) (x1 : List Int) (x2 : List Int) (r6 : Bool × List Int × List Int × Unit) : Option (Bool × List Int × List Int × Unit) :=
  if List.length x1 * 4 ≤ 140737488355328 then if List.length x2 * 4 ≤ 140737488355328 then some (x0, x1, x2, ()) else none else none
noncomputable def num_Add.j0 (k : Nat) (x5 : List Int) (x6 : List Int) (x7 : List Int) (r2 : Bool × List Int × List Int × Unit) (r3 : Bool × List Int × List Int × Unit) (r4 : Bool × List Int × List Int × Unit) : Option (Bool × List Int × List Int × Unit) :=
  bif r2.1 == r3.1 then
    (mag_Add k x5 x6).bind fun (v5 : List Int) =>
    (num_Make k r2.1 v5 x7).bind fun (v6 : Bool × List Int × List Int × Unit) =>
    some v6
  else
    (mag_Cmp k x5 x6).bind fun (v7 : Int) =>
    bif decide (v7 ≥ (0 : Int)) then
      (mag_Sub k x5 x6).bind fun (v8 : List Int) =>
      (num_Make k r2.1 v8 x7).bind fun (v9 : Bool × List Int × List Int × Unit) =>
      some v9
    else
      (mag_Sub k x6 x5).bind fun (v10 : List Int) =>
      (num_Make k r3.1 v10 x7).bind fun (v11 : Bool × List Int × List Int × Unit) =>
      some v11
theorem isochronelaw02_RatTexts_eq (k : Nat) (a0 : Bool × List Int × List Int × Unit) (a1 : ByteArray) : isochronelaw02_RatTexts (k + 1) a0 a1 =
    (isochronelaw02_awake k ).bind fun (v1 : Bool) =>
    bif !v1 then
      some false
    else
      (isochronelaw02_small k a0 a0 (6 : Int)).bind fun (v2 : Bool) =>
      bif !v2 then
        some true
      else
        (rat_Text k a0).bind fun (v3 : ByteArray × Int × Unit) =>
        (rat_Parse k v3.1).bind fun (v4 : (Bool × List Int × List Int × Unit) × Int × Unit) =>
        (bif v3.2.1 != (0 : Int) then some true else some (v4.2.1 != (0 : Int))).bind fun (b5 : Bool) =>
        (bif b5 then some true else (isochroneref02_Of k a0).bind fun (v6 : Bool × List Int × List Int × Unit) =>
        (isochroneref02_Text k v6).bind fun (v7 : ByteArray) =>
        some (!(v3.1.toList == v7.toList))).bind fun (b8 : Bool) =>
        (bif b8 then some true else (isochroneref02_Same k v4.1 a0).bind fun (v9 : Bool) =>
        some (!v9)).bind fun (b10 : Bool) =>
        bif b10 then
          some false
        else
          (rat_Parse k a1).bind fun (v11 : (Bool × List Int × List Int × Unit) × Int × Unit) =>
          bif decide ((a1.size : Int) > (20000 : Int)) then
            (bif v11.2.1 == (2 : Int) then (isochroneref02_None k v11.1).bind fun (v12 : Bool) =>
            some v12 else some false).bind fun (b13 : Bool) =>
            some b13
          else
            bif decide ((a1.size : Int) > (200 : Int)) then
              some true
            else
              (isochroneref02_Parse k a1).bind fun (v14 : (Bool × List Int × List Int × Unit) × Int × Unit) =>
              bif v14.2.1 != (0 : Int) then
                (bif v11.2.1 == v14.2.1 then (isochroneref02_None k v11.1).bind fun (v15 : Bool) =>
                some v15 else some false).bind fun (b16 : Bool) =>
                some b16
              else
                (bif v11.2.1 == (0 : Int) then (isochroneref02_Is k v11.1 v14.1).bind fun (v17 : Bool) =>
                some v17 else some false).bind fun (b18 : Bool) =>
                some b18 := by
  kernel_rfl
theorem num_Whole_eq (k : Nat) (a0 : Bool × List Int × List Int × Unit) : num_Whole (k + 1) a0 =
    (num_whole k a0).bind fun (v1 : Bool) =>
    some v1 := by
  kernel_rfl
theorem nat_Text_eq (k : Nat) (a0 : List Int) : nat_Text (k + 1) a0 = (P.nat_Text.f k a0).map fun r => (r.1, r.2, ()) := by
  kernel_rfl
theorem isochronelaw02_awake_eq (k : Nat) : isochronelaw02_awake (k + 1)  =
    (rat_Add k (false, [(1 : Int)], [(2 : Int)], ()) (false, [(1 : Int)], [(3 : Int)], ())).bind fun (v1 : (Bool × List Int × List Int × Unit) × Int × Unit) =>
    (rat_Text k v1.1).bind fun (v2 : ByteArray × Int × Unit) =>
    (bif v1.2.1 == (0 : Int) then some (v2.2.1 == (0 : Int)) else some false).bind fun (b3 : Bool) =>
    (bif b3 then some (v2.1.toList == (⟨#[53, 47, 54]⟩ : ByteArray).toList) else some false).bind fun (b4 : Bool) =>
    some b4 := by
  kernel_rfl
theorem isochroneref02_Is_eq (k : Nat) (a0 : Bool × List Int × List Int × Unit) (a1 : Bool × List Int × List Int × Unit) : isochroneref02_Is (k + 1) a0 a1 =
    (isochroneref02_To k a1).bind fun (v1 : Bool × List Int × List Int × Unit) =>
    (isochroneref02_Same k a0 v1).bind fun (v2 : Bool) =>
    some v2 := by
  kernel_rfl
theorem isochroneref02_Make_eq (k : Nat) (a0 : Bool) (a1 : List Int) (a2 : List Int) : isochroneref02_Make (k + 1) a0 a1 a2 =
    bif (List.length a1 : Int) == (0 : Int) then
      (isochroneref02_Zero k ).bind fun (v1 : Bool × List Int × List Int × Unit) =>
      some v1
    else
      (bif (List.length a2 : Int) == (1 : Int) then if 0 ≤ (0 : Int) ∧ (0 : Int) < (List.length a2 : Int) then some ((rdT (t := (.int .i64)) a2 (0 : Int) : Int) == (1 : Int)) else none else some false).bind fun (b2 : Bool) =>
      bif b2 then
        some (a0, a1, a2, ())
      else
        (isochroneref01_GCD k a1 a2).bind fun (v3 : List Int) =>
        (bif (List.length v3 : Int) == (1 : Int) then if 0 ≤ (0 : Int) ∧ (0 : Int) < (List.length v3 : Int) then some ((rdT (t := (.int .i64)) v3 (0 : Int) : Int) == (1 : Int)) else none else some false).bind fun (b4 : Bool) =>
        bif b4 then
          some (a0, a1, a2, ())
        else
          (isochroneref01_DivMod k a1 v3).bind fun (v5 : List Int × List Int × Unit) =>
          (isochroneref01_DivMod k a2 v3).bind fun (v6 : List Int × List Int × Unit) =>
          some (a0, v5.1, v6.1, ()) := by
  kernel_rfl
theorem isochroneref01_Valid_eq (k : Nat) (a0 : List Int) : isochroneref01_Valid (k + 1) a0 = P.isochroneref01_Valid.f a0 := by
  kernel_rfl
theorem isochroneref02_None_eq (k : Nat) (a0 : Bool × List Int × List Int × Unit) : isochroneref02_None (k + 1) a0 =
    (bif !a0.1 then some ((List.length a0.2.1 : Int) == (0 : Int)) else some false).bind fun (b1 : Bool) =>
    (bif b1 then some ((List.length a0.2.2.1 : Int) == (0 : Int)) else some false).bind fun (b2 : Bool) =>
    some b2 := by
  kernel_rfl
theorem isochroneref01_Of_eq (k : Nat) (a0 : List Int) : isochroneref01_Of (k + 1) a0 =
    isochroneref01_Of.l0 k k a0 [] (wrap64 ((List.length a0 : Int) - (1 : Int))) := by
  kernel_rfl
theorem isochroneref01_Of.l0_succ (k m0 : Nat) (x0 : List Int) (x3 : List Int) (x4 : Int) : isochroneref01_Of.l0 k (m0 + 1)  x0 x3 x4 =
    bif decide (x4 ≥ (0 : Int)) then
      if 0 ≤ x4 ∧ x4 < (List.length x0 : Int) then (isochroneref01_Small k x3 (65536 : Int) (wrap64 (shr .u32 (rdT (t := (.int .u32)) x0 x4 : Int) (16 : Int)))).bind fun (v1 : List Int) =>
      if 0 ≤ x4 ∧ x4 < (List.length x0 : Int) then (isochroneref01_Small k v1 (65536 : Int) (wrap64 (Go.bits .and .u32 (rdT (t := (.int .u32)) x0 x4 : Int) (65535 : Int)))).bind fun (v2 : List Int) =>
      isochroneref01_Of.l0 k m0 x0 v2 (wrap64 (x4 - (1 : Int))) else none else none
    else
      some x3 := by
  kernel_rfl
theorem isochronelaw02_small_eq (k : Nat) (a0 : Bool × List Int × List Int × Unit) (a1 : Bool × List Int × List Int × Unit) (a2 : Int) : isochronelaw02_small (k + 1) a0 a1 a2 =
    (isochroneref02_Short k a0 a2).bind fun (v1 : Bool) =>
    (bif v1 then (isochroneref02_Short k a1 a2).bind fun (v2 : Bool) =>
    some v2 else some false).bind fun (b3 : Bool) =>
    (bif b3 then (isochroneref02_Valid k a0).bind fun (v4 : Bool) =>
    some v4 else some false).bind fun (b5 : Bool) =>
    (bif b5 then (isochroneref02_Valid k a1).bind fun (v6 : Bool) =>
    some v6 else some false).bind fun (b7 : Bool) =>
    some b7 := by
  kernel_rfl
theorem isochroneref02_Of_eq (k : Nat) (a0 : Bool × List Int × List Int × Unit) : isochroneref02_Of (k + 1) a0 =
    (isochroneref01_Of k a0.2.1).bind fun (v1 : List Int) =>
    (isochroneref01_Of k a0.2.2.1).bind fun (v2 : List Int) =>
    some (a0.1, v1, v2, ()) := by
  kernel_rfl
theorem rat_Add_eq (k : Nat) (a0 : Bool × List Int × List Int × Unit) (a1 : Bool × List Int × List Int × Unit) : rat_Add (k + 1) a0 a1 =
    (rat_pair_num_Add k a0 a1).bind fun (v1 : (Bool × List Int × List Int × Unit) × Int × Unit) =>
    some (v1.1, v1.2.1, ()) := by
  kernel_rfl
theorem isochroneref02_To_eq (k : Nat) (a0 : Bool × List Int × List Int × Unit) : isochroneref02_To (k + 1) a0 =
    (isochroneref01_Words k a0.2.1).bind fun (v1 : List Int) =>
    (isochroneref01_Words k a0.2.2.1).bind fun (v2 : List Int) =>
    some (a0.1, v1, v2, ()) := by
  kernel_rfl
theorem isochroneref02_Short_eq (k : Nat) (a0 : Bool × List Int × List Int × Unit) (a1 : Int) : isochroneref02_Short (k + 1) a0 a1 =
    (bif decide ((List.length a0.2.1 : Int) ≤ a1) then some (decide ((List.length a0.2.2.1 : Int) ≤ a1)) else some false).bind fun (b1 : Bool) =>
    some b1 := by
  kernel_rfl
theorem isochroneref02_Valid_eq (k : Nat) (a0 : Bool × List Int × List Int × Unit) : isochroneref02_Valid (k + 1) a0 =
    (isochroneref01_Valid k a0.2.1).bind fun (v1 : Bool) =>
    (bif !v1 then some true else (isochroneref01_Valid k a0.2.2.1).bind fun (v2 : Bool) =>
    some (!v2)).bind fun (b3 : Bool) =>
    (bif b3 then some true else some ((List.length a0.2.2.1 : Int) == (0 : Int))).bind fun (b4 : Bool) =>
    bif b4 then
      some false
    else
      bif (List.length a0.2.1 : Int) == (0 : Int) then
        (bif !a0.1 then some ((List.length a0.2.2.1 : Int) == (1 : Int)) else some false).bind fun (b5 : Bool) =>
        (bif b5 then if 0 ≤ (0 : Int) ∧ (0 : Int) < (List.length a0.2.2.1 : Int) then some ((rdT (t := (.int .u32)) a0.2.2.1 (0 : Int) : Int) == (1 : Int)) else none else some false).bind fun (b6 : Bool) =>
        some b6
      else
        (isochroneref01_Of k a0.2.1).bind fun (v7 : List Int) =>
        (isochroneref01_Of k a0.2.2.1).bind fun (v8 : List Int) =>
        (isochroneref01_GCD k v7 v8).bind fun (v9 : List Int) =>
        (isochroneref01_Cmp k v9 ([(1 : Int)])).bind fun (v10 : Int) =>
        some (v10 == (0 : Int)) := by
  kernel_rfl
theorem isochroneref02_Zero_eq (k : Nat) : isochroneref02_Zero (k + 1)  =
    some (false, [], [(1 : Int)], ()) := by
  kernel_rfl
theorem rat_Valid_eq (k : Nat) (a0 : Bool × List Int × List Int × Unit) : rat_Valid (k + 1) a0 =
    (num_Valid k a0 (4096 : Int)).bind fun (v1 : Bool) =>
    some v1 := by
  kernel_rfl
theorem rat_Parse_eq (k : Nat) (a0 : ByteArray) : rat_Parse (k + 1) a0 =
    bif decide ((a0.size : Int) > (20000 : Int)) then
      some ((false, [], [], ()), (2 : Int), ())
    else
      (strings_HasPrefix k a0 (⟨#[45]⟩ : ByteArray)).bind fun (v1 : Bool) =>
      bif v1 then
        if 0 ≤ (1 : Int) ∧ (1 : Int) ≤ (a0.size : Int) then rat_Parse.j0 k (a0.extract (Int.toNat (1 : Int)) a0.size) v1 (false, [], [], ()) else none
      else
        rat_Parse.j0 k a0 v1 (false, [], [], ()) := by
  kernel_rfl
theorem isochroneref02_Text_eq (k : Nat) (a0 : Bool × List Int × List Int × Unit) : isochroneref02_Text (k + 1) a0 =
    (isochroneref01_Text k a0.2.1).bind fun (v1 : ByteArray) =>
    bif a0.1 then
      if (⟨#[45]⟩ : ByteArray).size + v1.size ≤ 9223372036854775807 then isochroneref02_Text.j0 k ((⟨#[45]⟩ : ByteArray) ++ v1) a0 else none
    else
      isochroneref02_Text.j0 k v1 a0 := by
  kernel_rfl
theorem isochroneref02_Same_eq (k : Nat) (a0 : Bool × List Int × List Int × Unit) (a1 : Bool × List Int × List Int × Unit) : isochroneref02_Same (k + 1) a0 a1 =
    (bif a0.1 == a1.1 then (slices_Equal_uint32_uint32 k a0.2.1 a1.2.1).bind fun (v1 : Bool) =>
    some v1 else some false).bind fun (b2 : Bool) =>
    (bif b2 then (slices_Equal_uint32_uint32 k a0.2.2.1 a1.2.2.1).bind fun (v3 : Bool) =>
    some v3 else some false).bind fun (b4 : Bool) =>
    some b4 := by
  kernel_rfl
theorem isochroneref02_Parse_eq (k : Nat) (a0 : ByteArray) : isochroneref02_Parse (k + 1) a0 =
    (bif !(a0.toList == (⟨#[]⟩ : ByteArray).toList) then if 0 ≤ (0 : Int) ∧ (0 : Int) < (a0.size : Int) then some ((bt a0 (0 : Int)) == (45 : Int)) else none else some false).bind fun (b1 : Bool) =>
    bif b1 then
      if 0 ≤ (1 : Int) ∧ (1 : Int) ≤ (a0.size : Int) then isochroneref02_Parse.j0 k (a0.extract (Int.toNat (1 : Int)) a0.size) true (false, [], [], ()) else none
    else
      isochroneref02_Parse.j0 k a0 false (false, [], [], ()) := by
  kernel_rfl
theorem isochroneref02_Parse.l0_succ (k m0 : Nat) (x0 : ByteArray) (x4 : Bool) (x5 : Int) (x6 : Int) (x22 : Int) (x23 : Int) (r2 : Bool × List Int × List Int × Unit) : isochroneref02_Parse.l0 k (m0 + 1)  x0 x4 x5 x6 x22 x23 r2 =
    bif decide (x23 < x22) then
      if 0 ≤ x23 ∧ x23 < (x0.size : Int) then (bif (bt x0 x23) == (47 : Int) then some true else if 0 ≤ x23 ∧ x23 < (x0.size : Int) then some ((bt x0 x23) == (46 : Int)) else none).bind fun (b2 : Bool) =>
      bif b2 then
        if 0 ≤ x23 ∧ x23 < (x0.size : Int) then isochroneref02_Parse.j1 k x0 x4 x23 (bt x0 x23) r2 else none
      else
        isochroneref02_Parse.l0 k m0 x0 x4 x5 x6 x22 (wrap64 (x23 + (1 : Int))) r2 else none
    else
      isochroneref02_Parse.j1 k x0 x4 x5 x6 r2 := by
  kernel_rfl
theorem num_whole_eq (k : Nat) (a0 : Bool × List Int × List Int × Unit) : num_whole (k + 1) a0 =
    (bif (List.length a0.2.2.1 : Int) == (1 : Int) then if 0 ≤ (0 : Int) ∧ (0 : Int) < (List.length a0.2.2.1 : Int) then some ((rdT (t := (.int .u32)) a0.2.2.1 (0 : Int) : Int) == (1 : Int)) else none else some false).bind fun (b1 : Bool) =>
    some b1 := by
  kernel_rfl
theorem num_Make_eq (k : Nat) (a0 : Bool) (a1 : List Int) (a2 : List Int) : num_Make (k + 1) a0 a1 a2 =
    bif (List.length a1 : Int) == (0 : Int) then
      (num_Zero k ).bind fun (v1 : Bool × List Int × List Int × Unit) =>
      some v1
    else
      (mag_GCD k a1 a2).bind fun (v2 : List Int) =>
      (bif (List.length v2 : Int) != (1 : Int) then some true else if 0 ≤ (0 : Int) ∧ (0 : Int) < (List.length v2 : Int) then some ((rdT (t := (.int .u32)) v2 (0 : Int) : Int) != (1 : Int)) else none).bind fun (b3 : Bool) =>
      bif b3 then
        (mag_DivMod k a1 v2).bind fun (v4 : List Int × List Int × Unit) =>
        (mag_DivMod k a2 v2).bind fun (v5 : List Int × List Int × Unit) =>
        num_Make.j0 k a0 v4.1 v5.1 (false, [], [], ())
      else
        num_Make.j0 k a0 a1 a2 (false, [], [], ()) := by
  kernel_rfl
theorem isochroneref01_GCD_eq (k : Nat) (a0 : List Int) (a1 : List Int) : isochroneref01_GCD (k + 1) a0 a1 = P.isochroneref01_GCD.f k a0 a1 := by
  kernel_rfl
theorem isochroneref01_DivMod_eq (k : Nat) (a0 : List Int) (a1 : List Int) : isochroneref01_DivMod (k + 1) a0 a1 = (P.isochroneref01_DivMod.f k a0 a1).map fun r => (r.1, r.2, ()) := by
  kernel_rfl
theorem isochroneref01_Small_eq (k : Nat) (a0 : List Int) (a1 : Int) (a2 : Int) : isochroneref01_Small (k + 1) a0 a1 a2 = P.isochroneref01_Small.f k a0 a1 a2 := by
  kernel_rfl
theorem rat_limited_eq (k : Nat) (a0 : Bool × List Int × List Int × Unit) : rat_limited (k + 1) a0 =
    (num_Fits k a0 (4096 : Int)).bind fun (v1 : Bool) =>
    bif !v1 then
      some ((false, [], [], ()), (2 : Int), ())
    else
      some (a0, (0 : Int), ()) := by
  kernel_rfl
theorem isochroneref01_Pow_eq (k : Nat) (a0 : List Int) (a1 : Int) : isochroneref01_Pow (k + 1) a0 a1 = P.isochroneref01_Pow.f k a0 a1 := by
  kernel_rfl
theorem rat_pair_num_Add_eq (k : Nat) (a0 : Bool × List Int × List Int × Unit) (a1 : Bool × List Int × List Int × Unit) : rat_pair_num_Add (k + 1) a0 a1 =
    (rat_Valid k a0).bind fun (v1 : Bool) =>
    (bif !v1 then some true else (rat_Valid k a1).bind fun (v2 : Bool) =>
    some (!v2)).bind fun (b3 : Bool) =>
    bif b3 then
      some ((false, [], [], ()), (3 : Int), ())
    else
      (num_Add k a0 a1).bind fun (v4 : Bool × List Int × List Int × Unit) =>
      (rat_limited k v4).bind fun (v5 : (Bool × List Int × List Int × Unit) × Int × Unit) =>
      some (v5.1, v5.2.1, ()) := by
  kernel_rfl
theorem isochroneref01_Cmp_eq (k : Nat) (a0 : List Int) (a1 : List Int) : isochroneref01_Cmp (k + 1) a0 a1 = P.isochroneref01_Cmp.f k a0 a1 := by
  kernel_rfl
theorem num_Add_eq (k : Nat) (a0 : Bool × List Int × List Int × Unit) (a1 : Bool × List Int × List Int × Unit) : num_Add (k + 1) a0 a1 =
    (mag_Cmp k a0.2.2.1 a1.2.2.1).bind fun (v1 : Int) =>
    bif v1 != (0 : Int) then
      (mag_Mul k a0.2.1 a1.2.2.1).bind fun (v2 : List Int) =>
      (mag_Mul k a1.2.1 a0.2.2.1).bind fun (v3 : List Int) =>
      (mag_Mul k a0.2.2.1 a1.2.2.1).bind fun (v4 : List Int) =>
      num_Add.j0 k v2 v3 v4 a0 a1 (false, [], [], ())
    else
      num_Add.j0 k a0.2.1 a1.2.1 a0.2.2.1 a0 a1 (false, [], [], ()) := by
  kernel_rfl
theorem num_Zero_eq (k : Nat) : num_Zero (k + 1)  =
    some (false, [], [(1 : Int)], ()) := by
  kernel_rfl
theorem isochroneref01_Words_eq (k : Nat) (a0 : List Int) : isochroneref01_Words (k + 1) a0 = P.isochroneref01_Words.f k a0 := by
  kernel_rfl
theorem num_Valid_eq (k : Nat) (a0 : Bool × List Int × List Int × Unit) (a1 : Int) : num_Valid (k + 1) a0 a1 =
    (num_valid k a0.2.1 a1).bind fun (v1 : Bool) =>
    (bif !v1 then some true else (num_valid k a0.2.2.1 a1).bind fun (v2 : Bool) =>
    some (!v2)).bind fun (b3 : Bool) =>
    (bif b3 then some true else some ((List.length a0.2.2.1 : Int) == (0 : Int))).bind fun (b4 : Bool) =>
    bif b4 then
      some false
    else
      bif (List.length a0.2.1 : Int) == (0 : Int) then
        (bif !a0.1 then some ((List.length a0.2.2.1 : Int) == (1 : Int)) else some false).bind fun (b5 : Bool) =>
        (bif b5 then if 0 ≤ (0 : Int) ∧ (0 : Int) < (List.length a0.2.2.1 : Int) then some ((rdT (t := (.int .u32)) a0.2.2.1 (0 : Int) : Int) == (1 : Int)) else none else some false).bind fun (b6 : Bool) =>
        some b6
      else
        (bif (List.length a0.2.2.1 : Int) == (1 : Int) then if 0 ≤ (0 : Int) ∧ (0 : Int) < (List.length a0.2.2.1 : Int) then some ((rdT (t := (.int .u32)) a0.2.2.1 (0 : Int) : Int) == (1 : Int)) else none else some false).bind fun (b7 : Bool) =>
        bif b7 then
          some true
        else
          (mag_GCD k a0.2.1 a0.2.2.1).bind fun (v8 : List Int) =>
          (bif (List.length v8 : Int) == (1 : Int) then if 0 ≤ (0 : Int) ∧ (0 : Int) < (List.length v8 : Int) then some ((rdT (t := (.int .u32)) v8 (0 : Int) : Int) == (1 : Int)) else none else some false).bind fun (b9 : Bool) =>
          some b9 := by
  kernel_rfl
theorem strings_HasPrefix_eq (k : Nat) (a0 : ByteArray) (a1 : ByteArray) : strings_HasPrefix (k + 1) a0 a1 =
    (stringslite_HasPrefix k a0 a1).bind fun (v1 : Bool) =>
    some v1 := by
  kernel_rfl
theorem strings_Cut_eq (k : Nat) (a0 : ByteArray) (a1 : ByteArray) : strings_Cut (k + 1) a0 a1 =
    (stringslite_Cut k a0 a1).bind fun (v1 : ByteArray × ByteArray × Bool × Unit) =>
    some (v1.1, v1.2.1, v1.2.2.1, ()) := by
  kernel_rfl
theorem nat_Parse_eq (k : Nat) (a0 : ByteArray) : nat_Parse (k + 1) a0 = (P.nat_Parse.f k a0).map fun r => (r.1, r.2, ()) := by
  kernel_rfl
theorem nat_Pow_eq (k : Nat) (a0 : List Int) (a1 : Int) : nat_Pow (k + 1) a0 a1 = (P.nat_Pow.f k a0 a1).map fun r => (r.1, r.2, ()) := by
  kernel_rfl
theorem mag_Add_eq (k : Nat) (a0 : List Int) (a1 : List Int) : mag_Add (k + 1) a0 a1 = P.mag_Add.f k a0 a1 := by
  kernel_rfl
theorem mag_Mul_eq (k : Nat) (a0 : List Int) (a1 : List Int) : mag_Mul (k + 1) a0 a1 = P.mag_Mul.f k a0 a1 := by
  kernel_rfl
theorem isochroneref01_Text_eq (k : Nat) (a0 : List Int) : isochroneref01_Text (k + 1) a0 = P.isochroneref01_Text.f k a0 := by
  kernel_rfl
theorem slices_Equal_uint32_uint32_eq (k : Nat) (a0 : List Int) (a1 : List Int) : slices_Equal_uint32_uint32 (k + 1) a0 a1 = P.slices_Equal_uint32_uint32.f k a0 a1 := by
  kernel_rfl
theorem isochroneref01_Decimal_eq (k : Nat) (a0 : ByteArray) : isochroneref01_Decimal (k + 1) a0 = P.isochroneref01_Decimal.f k a0 := by
  kernel_rfl
theorem isochroneref01_Digits_eq (k : Nat) (a0 : ByteArray) : isochroneref01_Digits (k + 1) a0 = P.isochroneref01_Digits.f k a0 := by
  kernel_rfl
theorem mag_GCD_eq (k : Nat) (a0 : List Int) (a1 : List Int) : mag_GCD (k + 1) a0 a1 = P.mag_GCD.f k a0 a1 := by
  kernel_rfl
theorem mag_DivMod_eq (k : Nat) (a0 : List Int) (a1 : List Int) : mag_DivMod (k + 1) a0 a1 = (P.mag_DivMod.f k a0 a1).map fun r => (r.1, r.2, ()) := by
  kernel_rfl
theorem num_Fits_eq (k : Nat) (a0 : Bool × List Int × List Int × Unit) (a1 : Int) : num_Fits (k + 1) a0 a1 =
    (bif decide ((List.length a0.2.1 : Int) ≤ a1) then some (decide ((List.length a0.2.2.1 : Int) ≤ a1)) else some false).bind fun (b1 : Bool) =>
    some b1 := by
  kernel_rfl
theorem mag_Cmp_eq (k : Nat) (a0 : List Int) (a1 : List Int) : mag_Cmp (k + 1) a0 a1 = P.mag_Cmp.f k a0 a1 := by
  kernel_rfl
theorem mag_Sub_eq (k : Nat) (a0 : List Int) (a1 : List Int) : mag_Sub (k + 1) a0 a1 = P.mag_Sub.f k a0 a1 := by
  kernel_rfl
theorem num_valid_eq (k : Nat) (a0 : List Int) (a1 : Int) : num_valid (k + 1) a0 a1 =
    (bif decide ((List.length a0 : Int) ≤ a1) then (bif (List.length a0 : Int) == (0 : Int) then some true else if 0 ≤ (wrap64 ((List.length a0 : Int) - (1 : Int))) ∧ (wrap64 ((List.length a0 : Int) - (1 : Int))) < (List.length a0 : Int) then some ((rdT (t := (.int .u32)) a0 (wrap64 ((List.length a0 : Int) - (1 : Int))) : Int) != (0 : Int)) else none).bind fun (b1 : Bool) =>
    some b1 else some false).bind fun (b2 : Bool) =>
    some b2 := by
  kernel_rfl
theorem stringslite_HasPrefix_eq (k : Nat) (a0 : ByteArray) (a1 : ByteArray) : stringslite_HasPrefix (k + 1) a0 a1 =
    (bif decide ((a0.size : Int) ≥ (a1.size : Int)) then if 0 ≤ (a1.size : Int) ∧ (a1.size : Int) ≤ (a0.size : Int) then some ((a0.extract 0 (Int.toNat (a1.size : Int))).toList == a1.toList) else none else some false).bind fun (b1 : Bool) =>
    some b1 := by
  kernel_rfl
theorem stringslite_Cut_eq (k : Nat) (a0 : ByteArray) (a1 : ByteArray) : stringslite_Cut (k + 1) a0 a1 =
    (stringslite_Index k a0 a1).bind fun (v1 : Int) =>
    bif decide (v1 ≥ (0 : Int)) then
      if 0 ≤ v1 ∧ v1 ≤ (a0.size : Int) then if 0 ≤ (wrap64 (v1 + (a1.size : Int))) ∧ (wrap64 (v1 + (a1.size : Int))) ≤ (a0.size : Int) then some (a0.extract 0 (Int.toNat v1), a0.extract (Int.toNat (wrap64 (v1 + (a1.size : Int)))) a0.size, true, ()) else none else none
    else
      some (a0, (⟨#[]⟩ : ByteArray), false, ()) := by
  kernel_rfl
theorem stringslite_Index_eq (k : Nat) (a0 : ByteArray) (a1 : ByteArray) : stringslite_Index (k + 1) a0 a1 =
    (bif (a1.size : Int) == (0 : Int) then some true else some (a1.toList == a0.toList)).bind fun (b1 : Bool) =>
    bif b1 then
      some (0 : Int)
    else
      bif (a1.size : Int) == (1 : Int) then
        if 0 ≤ (0 : Int) ∧ (0 : Int) < (a1.size : Int) then (stringslite_IndexByte k a0 (bt a1 (0 : Int))).bind fun (v2 : Int) =>
        some v2 else none
      else
        bif decide ((a1.size : Int) ≥ (a0.size : Int)) then
          some (-1 : Int)
        else
          none := by
  kernel_rfl
end Go.Proofs.Ytfpolhoabfadnaa.Q
end
section
namespace Go.Proofs.Ytfpolhoabfadnaa.P
open Go.RowKit Go.Proofs.YtfpolhoabfadnaaW.PrintWords Go.Proofs.YtfpolhoabfadnaaW.PrintLast Go.Proofs.YtfpolhoabfadnaaW.PrintMore
set_option linter.unusedVariables false
theorem evp {α : Type} {c : Prop} [Decidable c] {f g : Nat → Option α} {r : α} (hc : c) (h : Ev f r) : Ev (fun k => if c then f k else g k) r := by simpa only [if_pos hc] using h
theorem evn {α : Type} {c : Prop} [Decidable c] {f g : Nat → Option α} {r : α} (hc : ¬ c) (h : Ev g r) : Ev (fun k => if c then f k else g k) r := by simpa only [if_neg hc] using h
theorem evb {α β : Type} {o : Option α} {f : Nat → α → Option β} {a : α} {r : β} (h : o = some a) (k : Ev (fun n => f n a) r) : Ev (fun n => o.bind (f n)) r := by subst h; exact k
theorem evs {α : Type} (r : α) : Ev (fun _ => some r) r := ⟨0, fun _ _ => rfl⟩
theorem evk {α : Type} {o : Option α} {r : α} (h : o = some r) : Ev (fun _ => o) r := ⟨0, fun _ _ => h⟩
theorem w64 {x : Int} (h0 : -9223372036854775808 ≤ x) (h1 : x ≤ 9223372036854775807) : wrap64 x = x := by unfold wrap64; omega
theorem u64 {x : Int} (h0 : 0 ≤ x) (h1 : x < 18446744073709551616) : IntKind.u64.wrap x = x := by rw [IntKind.wrap_u64]; omega
def vl (B : Int) : List Int → Int
  | [] => 0
  | x :: t => x + B * vl B t
def Dg (B : Int) (l : List Int) : Prop := ∀ x ∈ l, 0 ≤ x ∧ x < B
def Nm (l : List Int) : Prop := ∀ h : l ≠ [], l.getLast h ≠ 0
def Can (B : Int) (l : List Int) (n : Int) : Prop := Dg B l ∧ Nm l ∧ vl B l = n
section
variable {B : Int} {l a b : List Int}
theorem vl_append (B : Int) (a b : List Int) : vl B (a ++ b) = vl B a + B ^ a.length * vl B b := by
  induction a with
  | nil => simp [vl]
  | cons x t ih =>
    simp only [List.cons_append, vl, ih, List.length_cons]
    grind
theorem rd_lt (l : List Int) (i : Nat) (h : i < l.length) : rd l (i : Int) = l[i] := by simp [rd, h]
theorem vl_take (B : Int) (l : List Int) (i : Nat) (h : i < l.length) : vl B (l.take (i + 1)) = vl B (l.take i) + rd l (i : Int) * B ^ i := by
  rw [List.take_succ_eq_append_getElem h, vl_append, rd_lt l i h, List.length_take, Nat.min_eq_left (by omega)]
  simp only [vl]
  grind
theorem take_set (l : List Int) (i : Nat) (v : Int) (h : i < l.length) : (l.set i v).take (i + 1) = l.take i ++ [v] := by
  rw [List.take_succ_eq_append_getElem (by simpa using h), List.take_set_of_le (by omega)]
  simp
theorem vl_set (B : Int) (l : List Int) (i : Nat) (v : Int) (h : i < l.length) : vl B ((l.set i v).take (i + 1)) = vl B (l.take i) + v * B ^ i := by
  rw [take_set l i v h, vl_append, List.length_take, Nat.min_eq_left (by omega)]
  simp only [vl]
  grind
theorem Dg.nil (B : Int) : Dg B [] := fun x hx => by cases hx
theorem Dg.cons {x : Int} (h : Dg B (x :: l)) : (0 ≤ x ∧ x < B) ∧ Dg B l := ⟨h x (by simp), fun y hy => h y (by simp [hy])⟩
theorem Dg.mk {x : Int} (h0 : 0 ≤ x) (h1 : x < B) (h : Dg B l) : Dg B (x :: l) := by
  intro y hy
  rcases List.mem_cons.1 hy with rfl | hy
  · exact ⟨h0, h1⟩
  · exact h y hy
theorem Dg.append (ha : Dg B a) (hb : Dg B b) : Dg B (a ++ b) := by
  intro y hy
  rcases List.mem_append.1 hy with hy | hy
  · exact ha y hy
  · exact hb y hy
theorem Dg.take (h : Dg B l) (i : Nat) : Dg B (l.take i) := fun x hx => h x (List.mem_of_mem_take hx)
theorem Dg.drop (h : Dg B l) (i : Nat) : Dg B (l.drop i) := fun x hx => h x (List.mem_of_mem_drop hx)
theorem Dg.set (h : Dg B l) (i : Nat) {v : Int} (h0 : 0 ≤ v) (h1 : v < B) : Dg B (l.set i v) := by
  intro x hx
  rcases List.mem_or_eq_of_mem_set hx with hx | rfl
  · exact h x hx
  · exact ⟨h0, h1⟩
theorem Dg.rep (hB : 0 < B) (n : Nat) : Dg B (List.replicate n 0) := by
  intro x hx
  have := (List.mem_replicate.1 hx).2
  omega
theorem Dg.take_set {i : Nat} {v : Int} (hi : i < l.length) (h' : Dg B (l.take i)) (h0 : 0 ≤ v) (h1 : v < B) : Dg B ((l.set i v).take (i + 1)) := by
  rw [P.take_set l i v hi]
  exact h'.append (Dg.mk h0 h1 (Dg.nil B))
theorem dg_rd (h : Dg B l) (i : Int) (h0 : 0 ≤ i) (h1 : i < l.length) : 0 ≤ rd l i ∧ rd l i < B := by
  obtain ⟨n, rfl⟩ := Int.eq_ofNat_of_zero_le h0
  rw [rd_lt l n (by omega)]
  exact h _ (List.getElem_mem _)
theorem pow_pos' (hB : 0 < B) (n : Nat) : 0 < B ^ n := Int.pow_pos hB
theorem vl_nonneg (hB : 0 < B) : ∀ {l : List Int}, Dg B l → 0 ≤ vl B l
  | [], _ => by simp [vl]
  | x :: t, h => by
    have h1 := h.cons
    have h2 := vl_nonneg hB h1.2
    have h3 : 0 ≤ B * vl B t := Int.mul_nonneg (by omega) h2
    simp only [vl]
    omega
theorem vl_lt (hB : 0 < B) : ∀ {l : List Int}, Dg B l → vl B l < B ^ l.length
  | [], _ => by simp [vl]
  | x :: t, h => by
    have h1 := h.cons
    have h2 := vl_lt hB h1.2
    have h3 : B * (vl B t + 1) ≤ B * B ^ t.length := Int.mul_le_mul_of_nonneg_left (by omega) (by omega)
    simp only [vl, List.length_cons]
    rw [Int.mul_add] at h3
    have h4 : B ^ (t.length + 1) = B * B ^ t.length := by grind
    omega
theorem Nm.nil : Nm [] := fun h => absurd rfl h
theorem Nm.tail {x : Int} (h : Nm (x :: l)) : Nm l := by
  intro hl
  have := h (by simp)
  rwa [List.getLast_cons hl] at this
theorem vl_pos (hB : 0 < B) : ∀ {l : List Int}, Dg B l → Nm l → l ≠ [] → 0 < vl B l
  | [], _, _, h => absurd rfl h
  | [x], hd, hn, _ => by
    have h1 := hd.cons
    have h2 := hn (by simp)
    simp at h2
    simp [vl]
    omega
  | x :: y :: t, hd, hn, _ => by
    have h1 := hd.cons
    have h2 := vl_pos hB h1.2 hn.tail (by simp)
    have h3 : 0 < B * vl B (y :: t) := Int.mul_pos hB h2
    rw [vl]
    omega
theorem vl_ge (hB : 0 < B) : ∀ {l : List Int}, Dg B l → Nm l → l ≠ [] → B ^ (l.length - 1) ≤ vl B l
  | [], _, _, h => absurd rfl h
  | [x], hd, hn, _ => by
    have h1 := vl_pos hB hd hn (by simp)
    simp
    omega
  | x :: y :: t, hd, hn, _ => by
    have h1 := hd.cons
    have h2 := vl_ge hB h1.2 hn.tail (by simp)
    have h3 : B * B ^ ((y :: t).length - 1) ≤ B * vl B (y :: t) := Int.mul_le_mul_of_nonneg_left h2 (by omega)
    rw [vl]
    have h4 : B ^ ((x :: y :: t).length - 1) = B * B ^ ((y :: t).length - 1) := by
      simp only [List.length_cons, Nat.add_sub_cancel]
      grind
    omega
theorem can_uniq (hB : 0 < B) : ∀ {a b : List Int} {n : Int}, Can B a n → Can B b n → a = b
  | [], [], _, _, _ => rfl
  | [], y :: t, n, h, h' => by
    have h1 := vl_pos hB h'.1 h'.2.1 (by simp)
    have h2 := h.2.2
    have h3 := h'.2.2
    simp only [vl] at h2
    omega
  | x :: t, [], n, h, h' => by
    have h1 := vl_pos hB h.1 h.2.1 (by simp)
    have h2 := h.2.2
    have h3 := h'.2.2
    simp only [vl] at h3
    omega
  | x :: s, y :: t, n, h, h' => by
    have h1 := h.1.cons
    have h2 := h'.1.cons
    have h3 := h.2.2
    have h4 := h'.2.2
    simp only [vl] at h3 h4
    have e1 : x = n % B := by rw [← h3, Int.add_mul_emod_self_left, Int.emod_eq_of_lt h1.1.1 h1.1.2]
    have e2 : y = n % B := by rw [← h4, Int.add_mul_emod_self_left, Int.emod_eq_of_lt h2.1.1 h2.1.2]
    have e3 : x = y := by omega
    subst e3
    have e4 : vl B s = vl B t := Int.eq_of_mul_eq_mul_left (a := B) (by omega) (by omega)
    rw [can_uniq hB (n := vl B t) ⟨h1.2, h.2.1.tail, e4⟩ ⟨h2.2, h'.2.1.tail, rfl⟩]
theorem Can.nonneg (hB : 0 < B) {n : Int} (h : Can B l n) : 0 ≤ n := by rw [← h.2.2]; exact vl_nonneg hB h.1
theorem Can.zero (B : Int) : Can B [] 0 := ⟨Dg.nil B, Nm.nil, rfl⟩
theorem Can.nil_iff (hB : 0 < B) {n : Int} (h : Can B l n) : l = [] ↔ n = 0 := by
  constructor
  · rintro rfl
    exact h.2.2.symm
  · rintro rfl
    exact can_uniq hB h (Can.zero B)
theorem Can.len_iff (hB : 0 < B) {n : Int} (h : Can B l n) : l.length = 0 ↔ n = 0 := by rw [← h.nil_iff hB]; exact List.length_eq_zero_iff
theorem Can.lt (hB : 0 < B) {n : Int} (h : Can B l n) : n < B ^ l.length := by rw [← h.2.2]; exact vl_lt hB h.1
theorem Can.ge (hB : 0 < B) {n : Int} (h : Can B l n) (h0 : l.length ≠ 0) : B ^ (l.length - 1) ≤ n := by
  rw [← h.2.2]
  exact vl_ge hB h.1 h.2.1 (fun e => h0 (by rw [e]; rfl))
theorem pow_le {B : Int} (hB : 1 ≤ B) {i j : Nat} (h : i ≤ j) : B ^ i ≤ B ^ j := by
  obtain ⟨d, rfl⟩ := Nat.exists_eq_add_of_le h
  rw [Int.pow_add]
  have h1 : 1 ≤ B ^ d := Int.pow_pos (by omega)
  have h2 : B ^ i * 1 ≤ B ^ i * B ^ d := Int.mul_le_mul_of_nonneg_left h1 (Int.le_of_lt (Int.pow_pos (by omega)))
  omega
theorem Can.len_lt (hB : 1 < B) {n m : Int} (h : Can B a n) (h' : Can B b m) (hl : a.length < b.length) : n < m := by
  have h1 := h.lt (by omega)
  have h2 := h'.ge (by omega) (by omega)
  have h3 := pow_le (B := B) (by omega) (show a.length ≤ b.length - 1 by omega)
  omega
theorem Can.len_le (hB : 1 < B) {n : Int} (h : Can B l n) {k : Nat} (hn : n < B ^ k) : l.length ≤ k := by
  rcases Nat.lt_or_ge k l.length with hk | hk
  · have h1 := h.ge (by omega) (by omega)
    have h2 := pow_le (B := B) (by omega) (show k ≤ l.length - 1 by omega)
    omega
  · exact hk
theorem Can.len_ge (hB : 1 < B) {n : Int} (h : Can B l n) {k : Nat} (hn : B ^ k ≤ n) : k < l.length := by
  rcases Nat.lt_or_ge k l.length with hk | hk
  · exact hk
  · have h1 := h.lt (by omega)
    have h2 := pow_le (B := B) (by omega) hk
    omega
theorem vl_drop (B : Int) (l : List Int) (i : Nat) (h : i ≤ l.length) : vl B l = vl B (l.take i) + B ^ i * vl B (l.drop i) := by
  conv => lhs; rw [← List.take_append_drop i l]
  rw [vl_append, List.length_take, Nat.min_eq_left h]
theorem rd_set_ne (l : List Int) (i j : Int) (v : Int) (h : i.toNat ≠ j.toNat) : rd (l.set i.toNat v) j = rd l j := by
  simp only [rd, List.getD_eq_getElem?_getD]
  rw [List.getElem?_set_ne h]
theorem rd_set_eq (l : List Int) (i : Int) (v : Int) (h : i.toNat < l.length) : rd (l.set i.toNat v) i = v := by
  simp only [rd, List.getD_eq_getElem?_getD]
  rw [List.getElem?_set_self h]
  rfl
theorem rd_take (l : List Int) (j : Int) (i : Nat) (h : j.toNat < i) : rd (l.take i) j = rd l j := by
  simp only [rd, List.getD_eq_getElem?_getD]
  rw [List.getElem?_take_of_lt h]
theorem getLast_rd (l : List Int) (h : l ≠ []) : l.getLast h = rd l ((l.length : Int) - 1) := by
  have hp : 0 < l.length := List.length_pos_iff.2 h
  rw [List.getLast_eq_getElem]
  have e : (l.length : Int) - 1 = ((l.length - 1 : Nat) : Int) := by omega
  rw [e, rd_lt _ _ (by omega)]
theorem nm_of_rd (h : 0 < l.length → rd l ((l.length : Int) - 1) ≠ 0) : Nm l := by
  intro hl
  rw [getLast_rd l hl]
  exact h (List.length_pos_iff.2 hl)
theorem Nm.rd (h : Nm l) (hp : 0 < l.length) : rd l ((l.length : Int) - 1) ≠ 0 := by
  have hl : l ≠ [] := List.ne_nil_of_length_pos hp
  rw [← getLast_rd l hl]
  exact h hl
theorem vl_rep (B : Int) (n : Nat) : vl B (List.replicate n 0) = 0 := by
  induction n with
  | zero => rfl
  | succ n ih => simp [List.replicate_succ, vl, ih]
theorem can_ex_nat (hB : 1 < B) (n : Nat) : ∃ l, Can B l (n : Int) := by
  induction n using Nat.strongRecOn with
  | _ n ih =>
    by_cases h0 : n = 0
    · subst h0
      exact ⟨[], Can.zero B⟩
    · have hlt : ((n : Int) / B).toNat < n := by
        have h1 : (n : Int) / B < n := Int.ediv_lt_self_of_pos_of_ne_one (by omega) (by omega)
        have h2 : 0 ≤ (n : Int) / B := Int.ediv_nonneg (by omega) (by omega)
        omega
      obtain ⟨l, h1, h2, h3⟩ := ih _ hlt
      have h4 : 0 ≤ (n : Int) / B := Int.ediv_nonneg (by omega) (by omega)
      have hm := Int.emod_nonneg (n : Int) (show B ≠ 0 by omega)
      have hm2 := Int.emod_lt_of_pos (n : Int) (show 0 < B by omega)
      have h5 : vl B ((n : Int) % B :: l) = n := by
        rw [vl, h3, Int.toNat_of_nonneg h4]
        exact Int.emod_add_mul_ediv _ _
      refine ⟨(n : Int) % B :: l, Dg.mk hm hm2 h1, ?_, h5⟩
      intro hne
      rcases List.eq_nil_or_concat l with hl | ⟨_, _, hl⟩
      · subst hl
        simp only [vl, Int.mul_zero, Int.add_zero] at h5
        simp only [List.getLast_singleton]
        omega
      · have hne' : l ≠ [] := by rw [hl]; simp
        rw [List.getLast_cons hne']
        exact h2 hne'
theorem can_ex (hB : 1 < B) {n : Int} (h : 0 ≤ n) : ∃ l, Can B l n := by
  obtain ⟨k, rfl⟩ := Int.eq_ofNat_of_zero_le h
  exact can_ex_nat hB k
end
end Go.Proofs.Ytfpolhoabfadnaa.P
end
section
namespace Go.Proofs.Ytfpolhoabfadnaa.P
open Go.RowKit Go.Proofs.YtfpolhoabfadnaaW.PrintWords Go.Proofs.YtfpolhoabfadnaaW.PrintLast Go.Proofs.YtfpolhoabfadnaaW.PrintMore
set_option linter.unusedVariables false
abbrev WW : Int := 4294967296
theorem WW_pos : (0 : Int) < WW := by decide
theorem WW_one : (1 : Int) < WW := by decide
theorem WW_eq : WW = 4294967296 := rfl
theorem alg_add {vo va vb P c c' v x y W : Int} (h : vo + c * P = va + vb) (h2 : v + W * c' = c + x + y) : vo + v * P + c' * (W * P) = (va + x * P) + (vb + y * P) := by grind
theorem alg_add1 {vo va vb P c c' v x W : Int} (h : vo + c * P = va + vb) (h2 : v + W * c' = c + x) : vo + v * P + c' * (W * P) = (va + x * P) + vb := by grind
theorem alg_last {vo c P n W : Int} (h : vo + c * P = n) : vo + P * (c + W * 0) = n := by grind
theorem wsucc {i : Nat} (h : i < 4611686018427387904) : wrap64 ((i : Int) + 1) = ((i + 1 : Nat) : Int) := by rw [w64 (by omega) (by omega)]; omega
theorem mag_Trim_ev (n : Nat) : ∀ (l : List Int), l.length = n → n < 4611686018427387904 → Dg WW l → ∃ r, Ev (fun k => mag_Trim.l0 k l) r ∧ Can WW r (vl WW l) ∧ r.length ≤ l.length := by
  induction n with
  | zero =>
    intro l hl _ hd
    have e : l = [] := List.eq_nil_of_length_eq_zero hl
    subst e
    refine ⟨[], ?_, Can.zero _, Nat.le_refl _⟩
    refine Ev.step (fun k => by rw [mag_Trim.l0]) ?_
    exact evn (by simp) (evs _)
  | succ n ih =>
    intro l hl hn hd
    have ew : wrap64 ((l.length : Int) - 1) = (n : Int) := by rw [w64 (by omega) (by omega)]; omega
    by_cases hz : rd l n = 0
    · obtain ⟨r, h1, h2, h3⟩ := ih (l.take n) (by rw [List.length_take]; omega) (by omega) (hd.take n)
      refine ⟨r, ?_, ?_, ?_⟩
      · refine Ev.step (fun k => by rw [mag_Trim.l0]) ?_
        rw [ew]
        refine evp (by omega) (evp (by omega) (evp (by omega) (evp hz (evp (by omega) ?_))))
        simpa using h1
      · have h4 := vl_take WW l n (by omega)
        rw [hz, show n + 1 = l.length by omega, List.take_length] at h4
        rw [h4]
        simpa using h2
      · rw [List.length_take] at h3
        omega
    · refine ⟨l, ?_, ⟨hd, nm_of_rd (fun _ => ?_), rfl⟩, Nat.le_refl _⟩
      · refine Ev.step (fun k => by rw [mag_Trim.l0]) ?_
        rw [ew]
        exact evp (by omega) (evp (by omega) (evp (by omega) (evn hz (evs _))))
      · rw [hl]
        have e : (((n + 1 : Nat) : Int) - 1) = (n : Int) := by omega
        rw [e]
        exact hz
theorem mag_Trim_sp {l : List Int} (hn : l.length < 4611686018427387904) (hd : Dg WW l) : ∃ r, Ev (fun k => mag_Trim.f k l) r ∧ Can WW r (vl WW l) ∧ r.length ≤ l.length := by
  obtain ⟨r, h1, h2⟩ := mag_Trim_ev l.length l rfl hn hd
  exact ⟨r, Ev.congr (fun k => by rw [mag_Trim.f]) h1, h2⟩
theorem mag_From_sp {a : Int} (h0 : 0 ≤ a) (h1 : a < 18446744073709551616) : ∃ r, Ev (fun k => mag_From.f k a) r ∧ Can WW r a := by
  have hW := WW_eq
  have hd : Dg WW [a % 4294967296, (a / 4294967296) % 4294967296] := Dg.mk (by omega) (by omega) (Dg.mk (by omega) (by omega) (Dg.nil _))
  obtain ⟨r, h2, h3, _⟩ := mag_Trim_sp (by simp) hd
  refine ⟨r, ?_, ?_⟩
  · unfold mag_From.f
    exact Ev.bind h2 (evs _)
  · have e : vl WW [a % 4294967296, (a / 4294967296) % 4294967296] = a := by
      simp only [vl, Int.mul_zero, Int.add_zero, WW_eq]
      omega
    rw [← e]
    exact h3
theorem mag_Cmp_ev {a b : List Int} (hl : a.length = b.length) (hn : a.length < 4611686018427387904) (ha : Dg WW a) (hb : Dg WW b) (d : Nat) :
    ∀ (i : Nat), i = d → i ≤ a.length → vl WW (a.drop i) = vl WW (b.drop i) → ∃ r, Ev (fun k => mag_Cmp.l0 k a b ((i : Int) - 1)) r ∧ (r = -1 ∧ vl WW a < vl WW b ∨ r = 0 ∧ vl WW a = vl WW b ∨ r = 1 ∧ vl WW b < vl WW a) := by
  induction d with
  | zero =>
    rintro i rfl h1 h2
    refine ⟨0, ?_, .inr (.inl ⟨rfl, by simpa using h2⟩)⟩
    refine Ev.step (fun k => by rw [mag_Cmp.l0]) ?_
    exact evn (by omega) (evs _)
  | succ d ih =>
    rintro i rfl h1 h2
    have e1 : (((d + 1 : Nat) : Int) - 1) = (d : Int) := by omega
    rw [e1]
    have h3 := vl_drop WW a d (by omega)
    have h4 := vl_drop WW b d (by omega)
    have ea : a.drop d = rd a d :: a.drop (d + 1) := by rw [rd_lt a d (by omega)]; exact (List.drop_eq_getElem_cons (by omega))
    have eb : b.drop d = rd b d :: b.drop (d + 1) := by rw [rd_lt b d (by omega)]; exact (List.drop_eq_getElem_cons (by omega))
    have ta := vl_lt WW_pos (ha.take d)
    have tb := vl_lt WW_pos (hb.take d)
    have ta0 := vl_nonneg WW_pos (ha.take d)
    have tb0 := vl_nonneg WW_pos (hb.take d)
    rw [List.length_take, Nat.min_eq_left (by omega)] at ta tb
    by_cases he : rd a d = rd b d
    · obtain ⟨r, h5, h6⟩ := ih d rfl (by omega) (by rw [ea, eb, vl, vl, he, h2])
      refine ⟨r, ?_, h6⟩
      refine Ev.step (fun k => by rw [mag_Cmp.l0]) ?_
      rw [w64 (by omega) (by omega)]
      exact evp (by omega) (evp (by omega) (evp (by omega) (evp (by omega) (evp he h5))))
    · have h7 : vl WW (a.drop d) = rd a d + WW * vl WW (a.drop (d + 1)) := by rw [ea, vl]
      have h8 : vl WW (b.drop d) = rd b d + WW * vl WW (b.drop (d + 1)) := by rw [eb, vl]
      have hp : 0 < WW ^ d := Int.pow_pos WW_pos
      by_cases hlt : rd a d < rd b d
      · refine ⟨-1, ?_, .inl ⟨rfl, ?_⟩⟩
        · refine Ev.step (fun k => by rw [mag_Cmp.l0]) ?_
          exact evp (by omega) (evp (by omega) (evp (by omega) (evp (by omega) (evn he (evp hlt (evs _))))))
        · have h9 : WW ^ d * (vl WW (a.drop d) + 1) ≤ WW ^ d * vl WW (b.drop d) := Int.mul_le_mul_of_nonneg_left (by rw [h7, h8, h2]; omega) (by omega)
          rw [Int.mul_add] at h9
          omega
      · refine ⟨1, ?_, .inr (.inr ⟨rfl, ?_⟩)⟩
        · refine Ev.step (fun k => by rw [mag_Cmp.l0]) ?_
          exact evp (by omega) (evp (by omega) (evp (by omega) (evp (by omega) (evn he (evn hlt (evs _))))))
        · have h9 : WW ^ d * (vl WW (b.drop d) + 1) ≤ WW ^ d * vl WW (a.drop d) := Int.mul_le_mul_of_nonneg_left (by rw [h7, h8, h2]; omega) (by omega)
          rw [Int.mul_add] at h9
          omega
def cmpi (n m : Int) : Int := if n < m then -1 else if n = m then 0 else 1
theorem mag_Cmp_sp {a b : List Int} {n m : Int} (hn : a.length < 4611686018427387904) (ha : Can WW a n) (hb : Can WW b m) : Ev (fun k => mag_Cmp.f k a b) (cmpi n m) := by
  unfold mag_Cmp.f
  by_cases hl : a.length = b.length
  · obtain ⟨r, h1, h2⟩ := mag_Cmp_ev hl hn ha.1 hb.1 a.length a.length rfl (Nat.le_refl _) (by rw [List.drop_length, hl, List.drop_length])
    have e : r = cmpi n m := by
      rw [ha.2.2, hb.2.2] at h2
      unfold cmpi
      rcases h2 with ⟨rfl, h⟩ | ⟨rfl, h⟩ | ⟨rfl, h⟩
      · rw [if_pos h]
      · rw [if_neg (by omega), if_pos h]
      · rw [if_neg (by omega), if_neg (by omega)]
    rw [← e]
    refine evp (by omega) ?_
    rw [w64 (by omega) (by omega)]
    exact h1
  · refine evn (by omega) ?_
    unfold cmpi
    by_cases h : a.length < b.length
    · have := Can.len_lt WW_one ha hb h
      rw [if_pos this]
      exact evp (by omega) (evs _)
    · have := Can.len_lt WW_one hb ha (by omega)
      rw [if_neg (show ¬ n < m by omega), if_neg (show ¬ n = m by omega)]
      exact evn (by omega) (evs _)
theorem mag_Add_ev {a b : List Int} (hba : b.length ≤ a.length) (hn : a.length < 1099511627776) (ha : Dg WW a) (hb : Dg WW b) (d : Nat) :
    ∀ (i : Nat) (o : List Int) (c : Int), a.length - i = d → i ≤ a.length → o.length = a.length + 1 → Dg WW (o.take i) → 0 ≤ c → c ≤ 1 → vl WW (o.take i) + c * WW ^ i = vl WW (a.take i) + vl WW (b.take i) →
    ∃ r, Ev (fun k => mag_Add.l0 k a b o c a (a.length : Int) (i : Int)) r ∧ Can WW r (vl WW a + vl WW b) ∧ r.length ≤ a.length + 1 := by
  induction d with
  | zero =>
    intro i o c h1 h2 h3 h4 h5 h6 h7
    have e : i = a.length := by omega
    subst e
    have hset : o.set a.length c = o.take a.length ++ [c] := by
      have := P.take_set o a.length c (by omega)
      rw [show a.length + 1 = (o.set a.length c).length by simp [h3], List.take_length] at this
      exact this
    have hd : Dg WW (o.set a.length c) := by rw [hset]; exact h4.append (Dg.mk h5 (by have := WW_one; omega) (Dg.nil _))
    obtain ⟨r, h8, h9, h10⟩ := mag_Trim_sp (l := o.set a.length c) (by simp; omega) hd
    have hv : vl WW (o.set a.length c) = vl WW a + vl WW b := by
      rw [hset, vl_append, List.length_take, Nat.min_eq_left (by omega)]
      rw [List.take_length, List.take_of_length_le hba] at h7
      simp only [vl]
      exact alg_last h7
    refine ⟨r, ?_, by rw [← hv]; exact h9, by simp at h10; omega⟩
    refine Ev.step (fun k => by rw [mag_Add.l0]) ?_
    refine evn (by omega) (evp (by omega) (evp (by omega) ?_))
    have ec : c % 4294967296 = c := by omega
    rw [ec, show ((a.length : Int)).toNat = a.length by omega]
    exact Ev.bind h8 (evs _)
  | succ d ih =>
    intro i o c h1 h2 h3 h4 h5 h6 h7
    have hi : i < a.length := by omega
    have hx := dg_rd ha (i : Int) (by omega) (by omega)
    have ti := vl_take WW a i hi
    have ep : WW ^ (i + 1) = WW * WW ^ i := by rw [Int.pow_succ, Int.mul_comm]
    have hW := WW_eq
    by_cases hib : i < b.length
    · have hy := dg_rd hb (i : Int) (by omega) (by omega)
      have tb := vl_take WW b i hib
      have ev : (c + rd a i + rd b i) % 4294967296 + WW * ((c + rd a i + rd b i) / 4294967296) = c + rd a i + rd b i := by rw [WW_eq]; omega
      obtain ⟨r, h8, h9⟩ := ih (i + 1) (o.set i ((c + rd a i + rd b i) % 4294967296)) ((c + rd a i + rd b i) / 4294967296) (by omega) (by omega) (by simpa using h3)
        (Dg.take_set (by omega) h4 (by omega) (by omega)) (by omega) (by omega)
        (by rw [vl_set _ _ _ _ (by omega), ti, tb, ep]; exact alg_add h7 ev)
      refine ⟨r, ?_, h9⟩
      refine Ev.step (fun k => by rw [mag_Add.l0]) ?_
      rw [u64 (x := rd a i) (by omega) (by omega), u64 (x := rd b i) (by omega) (by omega), u64 (x := c + rd a i) (by omega) (by omega), u64 (x := c + rd a i + rd b i) (by omega) (by omega), wsucc (by omega)]
      exact evp (by omega) (evp (by omega) (evp (by omega) (evp (by omega) (evp (by omega) h8))))
    · have tb : vl WW (b.take (i + 1)) = vl WW (b.take i) := by rw [List.take_of_length_le (by omega), List.take_of_length_le (by omega)]
      have ev : (c + rd a i) % 4294967296 + WW * ((c + rd a i) / 4294967296) = c + rd a i := by rw [WW_eq]; omega
      obtain ⟨r, h8, h9⟩ := ih (i + 1) (o.set i ((c + rd a i) % 4294967296)) ((c + rd a i) / 4294967296) (by omega) (by omega) (by simpa using h3)
        (Dg.take_set (by omega) h4 (by omega) (by omega)) (by omega) (by omega)
        (by rw [vl_set _ _ _ _ (by omega), ti, tb, ep]; exact alg_add1 h7 ev)
      refine ⟨r, ?_, h9⟩
      refine Ev.step (fun k => by rw [mag_Add.l0]) ?_
      rw [u64 (x := rd a i) (by omega) (by omega), u64 (x := c + rd a i) (by omega) (by omega), wsucc (by omega)]
      exact evp (by omega) (evp (by omega) (evp (by omega) (evn (by omega) (evp (by omega) h8))))
theorem mag_Add_j {a b : List Int} (hba : b.length ≤ a.length) (hn : a.length < 1099511627776) (ha : Dg WW a) (hb : Dg WW b) : ∃ r, Ev (fun k => mag_Add.j0 k a b) r ∧ Can WW r (vl WW a + vl WW b) ∧ r.length ≤ a.length + 1 := by
  obtain ⟨r, h1, h2⟩ := mag_Add_ev hba hn ha hb a.length 0 (List.replicate (a.length + 1) 0) 0 (by omega) (by omega) (by simp) (by simp; exact Dg.nil _) (by omega) (by omega) (by simp [vl])
  refine ⟨r, ?_, h2⟩
  refine Ev.step (fun k => by rw [mag_Add.j0]) ?_
  have e : wrap64 ((a.length : Int) + 1) = ((a.length + 1 : Nat) : Int) := by rw [w64 (by omega) (by omega)]; omega
  rw [e, Int.toNat_natCast]
  exact evp (by omega) (evp (by omega) h1)
theorem mag_Add_sp {a b : List Int} {n m : Int} (hla : a.length < 1099511627776) (hlb : b.length < 1099511627776) (ha : Can WW a n) (hb : Can WW b m) : ∃ r, Ev (fun k => mag_Add.f k a b) r ∧ Can WW r (n + m) ∧ r.length ≤ max a.length b.length + 1 := by
  unfold mag_Add.f
  rw [← ha.2.2, ← hb.2.2]
  by_cases h : a.length < b.length
  · obtain ⟨r, h1, h2, h3⟩ := mag_Add_j (a := b) (b := a) (by omega) hlb hb.1 ha.1
    exact ⟨r, evp (by omega) h1, by rw [Int.add_comm]; exact h2, by omega⟩
  · obtain ⟨r, h1, h2, h3⟩ := mag_Add_j (a := a) (b := b) (by omega) hla ha.1 hb.1
    exact ⟨r, evn (by omega) h1, h2, by omega⟩
end Go.Proofs.Ytfpolhoabfadnaa.P
end
section
namespace Go.Proofs.Ytfpolhoabfadnaa.P
open Go.RowKit Go.Proofs.YtfpolhoabfadnaaW.PrintWords Go.Proofs.YtfpolhoabfadnaaW.PrintLast Go.Proofs.YtfpolhoabfadnaaW.PrintMore
set_option linter.unusedVariables false
theorem alg_sub {vo va vb P c c' v x y W : Int} (h : vo - c * P = va - vb) (h2 : v - W * c' = x - c - y) : vo + v * P - c' * (W * P) = (va + x * P) - (vb + y * P) := by grind
theorem alg_sub1 {vo va vb P c c' v x W : Int} (h : vo - c * P = va - vb) (h2 : v - W * c' = x - c) : vo + v * P - c' * (W * P) = (va + x * P) - vb := by grind
theorem borrow {x c y : Int} (hx : 0 ≤ x ∧ x < 4294967296) (hc : 0 ≤ c ∧ c ≤ 1) (hy : 0 ≤ y ∧ y < 4294967296) :
    ∃ v c', IntKind.u64.wrap (IntKind.u64.wrap (IntKind.u64.wrap x - c) - y) % 4294967296 = v ∧ IntKind.u64.wrap (IntKind.u64.wrap (IntKind.u64.wrap x - c) - y) / 9223372036854775808 = c' ∧ v - 4294967296 * c' = x - c - y ∧ 0 ≤ v ∧ v < 4294967296 ∧ 0 ≤ c' ∧ c' ≤ 1 := by
  rw [IntKind.wrap_u64, IntKind.wrap_u64, IntKind.wrap_u64]
  refine ⟨_, _, rfl, rfl, ?_, ?_, ?_, ?_, ?_⟩ <;> omega
theorem borrow1 {x c : Int} (hx : 0 ≤ x ∧ x < 4294967296) (hc : 0 ≤ c ∧ c ≤ 1) :
    ∃ v c', IntKind.u64.wrap (IntKind.u64.wrap x - c) % 4294967296 = v ∧ IntKind.u64.wrap (IntKind.u64.wrap x - c) / 9223372036854775808 = c' ∧ v - 4294967296 * c' = x - c ∧ 0 ≤ v ∧ v < 4294967296 ∧ 0 ≤ c' ∧ c' ≤ 1 := by
  rw [IntKind.wrap_u64, IntKind.wrap_u64]
  refine ⟨_, _, rfl, rfl, ?_, ?_, ?_, ?_, ?_⟩ <;> omega
theorem mag_Sub_ev {a b : List Int} (hba : b.length ≤ a.length) (hle : vl WW b ≤ vl WW a) (hn : a.length < 1099511627776) (ha : Dg WW a) (hb : Dg WW b) (d : Nat) :
    ∀ (i : Nat) (o : List Int) (c : Int), a.length - i = d → i ≤ a.length → o.length = a.length → Dg WW (o.take i) → 0 ≤ c → c ≤ 1 → vl WW (o.take i) - c * WW ^ i = vl WW (a.take i) - vl WW (b.take i) →
    ∃ r, Ev (fun k => mag_Sub.l0 k b o c a (a.length : Int) (i : Int)) r ∧ Can WW r (vl WW a - vl WW b) ∧ r.length ≤ a.length := by
  induction d with
  | zero =>
    intro i o c h1 h2 h3 h4 h5 h6 h7
    have e : i = a.length := by omega
    subst e
    rw [List.take_length, List.take_of_length_le hba, ← h3, List.take_length] at h7
    rw [← h3, List.take_length] at h4
    have hlt := vl_lt WW_pos h4
    have hc : c = 0 := by
      rcases Int.lt_or_eq_of_le h6 with h | h
      · omega
      · subst h
        rw [Int.one_mul] at h7
        omega
    subst hc
    rw [Int.zero_mul, Int.sub_zero] at h7
    obtain ⟨r, h8, h9, h10⟩ := mag_Trim_sp (l := o) (by omega) h4
    refine ⟨r, ?_, by rw [← h7]; exact h9, by omega⟩
    refine Ev.step (fun k => by rw [mag_Sub.l0]) ?_
    refine evn (by omega) ?_
    exact Ev.bind h8 (evs _)
  | succ d ih =>
    intro i o c h1 h2 h3 h4 h5 h6 h7
    have hi : i < a.length := by omega
    have hx := dg_rd ha (i : Int) (by omega) (by omega)
    have ti := vl_take WW a i hi
    have ep : WW ^ (i + 1) = WW * WW ^ i := by rw [Int.pow_succ, Int.mul_comm]
    by_cases hib : i < b.length
    · have hy := dg_rd hb (i : Int) (by omega) (by omega)
      have tb := vl_take WW b i hib
      obtain ⟨v, c', e1, e2, e3, v0, v1, c0, c1⟩ := borrow hx ⟨h5, h6⟩ hy
      obtain ⟨r, h8, h9⟩ := ih (i + 1) (o.set i v) c' (by omega) (by omega) (by simpa using h3) (Dg.take_set (by omega) h4 v0 v1) c0 c1
        (by rw [vl_set _ _ _ _ (by omega), ti, tb, ep]; exact alg_sub h7 e3)
      refine ⟨r, ?_, h9⟩
      refine Ev.step (fun k => by rw [mag_Sub.l0]) ?_
      rw [u64 (x := rd b i) hy.1 (by have := hy.2; have := WW_eq; omega), e1, e2, wsucc (by omega)]
      exact evp (by omega) (evp (by omega) (evp (by omega) (evp (by omega) (evp (by omega) h8))))
    · have tb : vl WW (b.take (i + 1)) = vl WW (b.take i) := by rw [List.take_of_length_le (by omega), List.take_of_length_le (by omega)]
      obtain ⟨v, c', e1, e2, e3, v0, v1, c0, c1⟩ := borrow1 hx ⟨h5, h6⟩
      obtain ⟨r, h8, h9⟩ := ih (i + 1) (o.set i v) c' (by omega) (by omega) (by simpa using h3) (Dg.take_set (by omega) h4 v0 v1) c0 c1
        (by rw [vl_set _ _ _ _ (by omega), ti, tb, ep]; exact alg_sub1 h7 e3)
      refine ⟨r, ?_, h9⟩
      refine Ev.step (fun k => by rw [mag_Sub.l0]) ?_
      rw [e1, e2, wsucc (by omega)]
      exact evp (by omega) (evp (by omega) (evp (by omega) (evn (by omega) (evp (by omega) h8))))
theorem can_len_le {a b : List Int} {n m : Int} (ha : Can WW a n) (hb : Can WW b m) (h : m ≤ n) : b.length ≤ a.length := by
  rcases Nat.lt_or_ge a.length b.length with hl | hl
  · have := Can.len_lt WW_one ha hb hl
    omega
  · exact hl
theorem mag_Sub_sp {a b : List Int} {n m : Int} (hn : a.length < 1099511627776) (ha : Can WW a n) (hb : Can WW b m) (hle : m ≤ n) : ∃ r, Ev (fun k => mag_Sub.f k a b) r ∧ Can WW r (n - m) ∧ r.length ≤ a.length := by
  have hba := can_len_le ha hb hle
  rw [← ha.2.2, ← hb.2.2] at *
  obtain ⟨r, h1, h2⟩ := mag_Sub_ev hba hle hn ha.1 hb.1 a.length 0 (List.replicate a.length 0) 0 (by omega) (by omega) (by simp) (by simp; exact Dg.nil _) (by omega) (by omega) (by simp [vl])
  refine ⟨r, ?_, h2⟩
  unfold mag_Sub.f
  rw [Int.toNat_natCast]
  exact evp (by omega) (evp (by omega) h1)
theorem vl_set_mid (B : Int) (l : List Int) (p q : Nat) (v : Int) (h : p < q) (hq : q ≤ l.length) : vl B ((l.set p v).take q) = vl B (l.take q) + (v - rd l (p : Int)) * B ^ p := by
  have h1 := vl_drop B ((l.set p v).take q) (p + 1) (by simp; omega)
  have h2 := vl_drop B (l.take q) (p + 1) (by simp; omega)
  have e1 : ((l.set p v).take q).take (p + 1) = (l.set p v).take (p + 1) := by rw [List.take_take, Nat.min_eq_left (by omega)]
  have e2 : (l.take q).take (p + 1) = l.take (p + 1) := by rw [List.take_take, Nat.min_eq_left (by omega)]
  have e3 : ((l.set p v).take q).drop (p + 1) = (l.take q).drop (p + 1) := by
    rw [List.drop_take, List.drop_take, List.drop_set_of_lt (by omega)]
  rw [e1, e3, vl_set _ _ _ _ (by omega)] at h1
  rw [e2, vl_take _ _ _ (by omega)] at h2
  rw [h1, h2]
  grind
theorem alg_mul {T va vb x y old P c c' v W xb Pi Pj : Int} (h : T + c * P = va * vb + x * Pi * xb) (h2 : v + W * c' = c + (x * y + old)) (hP : P = Pi * Pj) : (T + (v - old) * P) + c' * (W * P) = va * vb + x * Pi * (xb + y * Pj) := by grind
theorem mul_bd {x y : Int} (hx : 0 ≤ x ∧ x < 4294967296) (hy : 0 ≤ y ∧ y < 4294967296) : 0 ≤ x * y ∧ x * y ≤ 18446744065119617025 := by
  have h1 : 0 ≤ x * y := Int.mul_nonneg hx.1 hy.1
  have h2 : x * y ≤ 4294967295 * 4294967295 := Int.mul_le_mul (by omega) (by omega) hy.1 (by omega)
  omega
theorem mulc {x y old c : Int} (hx : 0 ≤ x ∧ x < 4294967296) (hy : 0 ≤ y ∧ y < 4294967296) (ho : 0 ≤ old ∧ old < 4294967296) (hc : 0 ≤ c ∧ c < 4294967296) :
    ∃ v c', IntKind.u64.wrap (c + IntKind.u64.wrap (IntKind.u64.wrap (IntKind.u64.wrap x * IntKind.u64.wrap y) + IntKind.u64.wrap old)) % 4294967296 = v ∧ IntKind.u64.wrap (c + IntKind.u64.wrap (IntKind.u64.wrap (IntKind.u64.wrap x * IntKind.u64.wrap y) + IntKind.u64.wrap old)) / 4294967296 = c' ∧ v + 4294967296 * c' = c + (x * y + old) ∧ 0 ≤ v ∧ v < 4294967296 ∧ 0 ≤ c' ∧ c' < 4294967296 := by
  have hb := mul_bd hx hy
  rw [u64 (x := x) (by omega) (by omega), u64 (x := y) (by omega) (by omega), u64 (x := old) (by omega) (by omega), u64 (x := x * y) (by omega) (by omega), u64 (x := x * y + old) (by omega) (by omega), u64 (x := c + (x * y + old)) (by omega) (by omega)]
  refine ⟨_, _, rfl, rfl, ?_, ?_, ?_, ?_, ?_⟩ <;> omega
theorem alg_mul2 {T c P va vb x Pi : Int} (h : T + c * P = va * vb + x * Pi * vb) : T + c * P = (va + x * Pi) * vb := by rw [h]; grind
theorem mag_Mul_in {a b : List Int} (hn : a.length + b.length < 1099511627776) (ha : Dg WW a) (hb : Dg WW b) (i : Nat) (hi : i < a.length) (R : List Int)
    (hout : ∀ o : List Int, o.length = a.length + b.length → Dg WW o → vl WW (o.take (i + 1 + b.length)) = vl WW (a.take (i + 1)) * vl WW b → Ev (fun k => mag_Mul.l0 k b o a (a.length : Int) ((i + 1 : Nat) : Int)) R) (d : Nat) :
    ∀ (j : Nat) (o : List Int) (c : Int), b.length - j = d → j ≤ b.length → o.length = a.length + b.length → Dg WW o → 0 ≤ c → c < 4294967296 →
    vl WW (o.take (i + b.length)) + c * WW ^ (i + j) = vl WW (a.take i) * vl WW b + rd a i * WW ^ i * vl WW (b.take j) →
    Ev (fun k => mag_Mul.l1 k b o (i : Int) (rd a i) c a (a.length : Int) (i : Int) b (b.length : Int) (j : Int)) R := by
  induction d with
  | zero =>
    intro j o c h1 h2 h3 h4 h5 h6 h7
    have e : j = b.length := by omega
    subst e
    rw [List.take_length] at h7
    have ei : ((i : Int) + (b.length : Int)) = ((i + b.length : Nat) : Int) := by omega
    refine Ev.step (fun k => by rw [mag_Mul.l1]) ?_
    rw [ei, w64 (x := ((i + b.length : Nat) : Int)) (by omega) (by omega), Int.toNat_natCast, wsucc (i := i) (by omega), Int.emod_eq_of_lt h5 h6]
    refine evn (by omega) (evp (by omega) (evp (by omega) ?_))
    refine hout _ (by simpa using h3) (h4.set _ h5 (by rw [WW_eq]; exact h6)) ?_
    rw [show i + 1 + b.length = i + b.length + 1 by omega, vl_set _ _ _ _ (by omega), vl_take WW a i hi]
    exact alg_mul2 h7
  | succ d ih =>
    intro j o c h1 h2 h3 h4 h5 h6 h7
    have hx := dg_rd ha (i : Int) (by omega) (by omega)
    have hy := dg_rd hb (j : Int) (by omega) (by omega)
    have ho := dg_rd h4 ((i + j : Nat) : Int) (by omega) (by omega)
    rw [WW_eq] at hx hy ho
    obtain ⟨v, c', e1, e2, e3, v0, v1, c0, c1⟩ := mulc hx hy ho ⟨h5, h6⟩
    have h8 := ih (j + 1) (o.set (i + j) v) c' (by omega) (by omega) (by simpa using h3) (h4.set _ v0 (by rw [WW_eq]; exact v1)) c0 c1
      (by
        rw [vl_set_mid _ _ _ _ _ (by omega) (by omega), vl_take WW b j (by omega), show i + (j + 1) = i + j + 1 by omega, Int.pow_succ, Int.mul_comm (WW ^ (i + j)) WW]
        exact alg_mul h7 e3 (Int.pow_add _ _ _))
    have ei : ((i : Int) + (j : Int)) = ((i + j : Nat) : Int) := by omega
    refine Ev.step (fun k => by rw [mag_Mul.l1]) ?_
    rw [ei, w64 (x := ((i + j : Nat) : Int)) (by omega) (by omega), e1, e2, wsucc (by omega), Int.toNat_natCast]
    exact evp (by omega) (evp (by omega) (evp (by omega) (evp (by omega) (evp (by omega) h8))))
theorem mul_lt' {n m A C : Int} (h1 : n < A) (h2 : m < C) (h3 : 0 ≤ n) (h4 : 0 ≤ m) : n * m < A * C := by
  have h5 : n * m ≤ n * C := Int.mul_le_mul_of_nonneg_left (by omega) h3
  have h6 : n * C < A * C := Int.mul_lt_mul_of_pos_right h1 (by omega)
  omega
theorem mag_Mul_out {a b : List Int} (hn : a.length + b.length < 1099511627776) (ha : Dg WW a) (hb : Dg WW b) : ∃ R, Can WW R (vl WW a * vl WW b) ∧ R.length ≤ a.length + b.length ∧ ∀ (d i : Nat) (o : List Int), a.length - i = d → i ≤ a.length → o.length = a.length + b.length → Dg WW o → vl WW (o.take (i + b.length)) = vl WW (a.take i) * vl WW b →
    Ev (fun k => mag_Mul.l0 k b o a (a.length : Int) (i : Int)) R := by
  have key : ∀ o : List Int, o.length = a.length + b.length → Dg WW o → vl WW (o.take (a.length + b.length)) = vl WW (a.take a.length) * vl WW b → ∃ r, Ev (fun k => mag_Mul.l0 k b o a (a.length : Int) (a.length : Int)) r ∧ Can WW r (vl WW a * vl WW b) ∧ r.length ≤ a.length + b.length := by
    intro o h1 h2 h3
    obtain ⟨r, h8, h9, h10⟩ := mag_Trim_sp (l := o) (by omega) h2
    rw [← h1, List.take_length, List.take_length] at h3
    refine ⟨r, ?_, by rw [← h3]; exact h9, by omega⟩
    refine Ev.step (fun k => by rw [mag_Mul.l0]) ?_
    exact evn (by omega) (Ev.bind h8 (evs _))
  have hv : ∃ R, Can WW R (vl WW a * vl WW b) ∧ R.length ≤ a.length + b.length := by
    have hnn : 0 ≤ vl WW a * vl WW b := Int.mul_nonneg (vl_nonneg WW_pos ha) (vl_nonneg WW_pos hb)
    obtain ⟨R, hR⟩ := can_ex WW_one hnn
    refine ⟨R, hR, ?_⟩
    refine hR.len_le WW_one ?_
    rw [Int.pow_add]
    have h1 := vl_lt WW_pos ha
    have h2 := vl_lt WW_pos hb
    have h3 := vl_nonneg WW_pos ha
    have h4 := vl_nonneg WW_pos hb
    exact mul_lt' h1 h2 h3 h4
  obtain ⟨R, hR, hRl⟩ := hv
  refine ⟨R, hR, hRl, ?_⟩
  intro d
  induction d with
  | zero =>
    intro i o h1 h2 h3 h4 h5
    have e : i = a.length := by omega
    subst e
    obtain ⟨r, h6, h7, _⟩ := key o h3 h4 h5
    rw [can_uniq WW_pos hR h7]
    exact h6
  | succ d ih =>
    intro i o h1 h2 h3 h4 h5
    have h6 := mag_Mul_in hn ha hb i (by omega) R (fun o' q1 q2 q3 => ih (i + 1) o' (by omega) (by omega) q1 q2 (by rw [q3])) b.length 0 o 0 (by omega) (by omega) h3 h4 (by omega) (by omega) (by rw [h5]; simp [vl])
    refine Ev.step (fun k => by rw [mag_Mul.l0]) ?_
    exact evp (by omega) (evp (by omega) (evp (by omega) h6))
theorem mag_Mul_sp {a b : List Int} {n m : Int} (hn : a.length + b.length < 1099511627776) (ha : Can WW a n) (hb : Can WW b m) : ∃ r, Ev (fun k => mag_Mul.f k a b) r ∧ Can WW r (n * m) ∧ r.length ≤ a.length + b.length := by
  by_cases ha0 : a.length = 0
  · have e : a = [] := List.eq_nil_of_length_eq_zero ha0
    subst e
    have : n = 0 := by rw [← ha.2.2]; rfl
    subst this
    refine ⟨[], ?_, by rw [Int.zero_mul]; exact Can.zero _, Nat.zero_le _⟩
    unfold mag_Mul.f
    refine evp (by simp) ?_
    refine Ev.step (fun k => by rw [mag_Mul.j0]) ?_
    exact evp rfl (evs _)
  · by_cases hb0 : b.length = 0
    · have e : b = [] := List.eq_nil_of_length_eq_zero hb0
      subst e
      have : m = 0 := by rw [← hb.2.2]; rfl
      subst this
      refine ⟨[], ?_, by rw [Int.mul_zero]; exact Can.zero _, Nat.zero_le _⟩
      unfold mag_Mul.f
      refine evn (by omega) ?_
      refine Ev.step (fun k => by rw [mag_Mul.j0]) ?_
      exact evp rfl (evs _)
    · obtain ⟨R, h1, h2, h3⟩ := mag_Mul_out hn ha.1 hb.1
      rw [ha.2.2, hb.2.2] at h1
      refine ⟨R, ?_, h1, h2⟩
      have h4 := h3 a.length 0 (List.replicate (a.length + b.length) 0) (by omega) (by omega) (by simp) (Dg.rep WW_pos _) (by rw [List.take_replicate]; simp [vl, vl_rep])
      unfold mag_Mul.f
      refine evn (by omega) ?_
      refine Ev.step (fun k => by rw [mag_Mul.j0]) ?_
      have e : (a.length : Int) + (b.length : Int) = ((a.length + b.length : Nat) : Int) := by omega
      rw [e, w64 (by omega) (by omega), Int.toNat_natCast]
      refine evn ?_ (evp (by omega) (evp (by omega) h4))
      simp only [beq_iff_eq]
      omega
end Go.Proofs.Ytfpolhoabfadnaa.P
end
section
namespace Go.Proofs.Ytfpolhoabfadnaa.P
open Go.RowKit Go.Proofs.YtfpolhoabfadnaaW.PrintWords Go.Proofs.YtfpolhoabfadnaaW.PrintLast Go.Proofs.YtfpolhoabfadnaaW.PrintMore
set_option linter.unusedVariables false
abbrev RR : Int := 10000
theorem RR_pos : (0 : Int) < RR := by decide
theorem RR_one : (1 : Int) < RR := by decide
theorem RR_eq : RR = 10000 := rfl
theorem r_trim_ev {l : List Int} (hn : l.length < 4611686018427387904) (hd : Dg RR l) (d : Nat) : ∀ i : Nat, i = d → i ≤ l.length → ∃ r, Ev (fun k => isochroneref01_trim.l0 k l (i : Int)) r ∧ Can RR r (vl RR (l.take i)) ∧ r.length ≤ i := by
  induction d with
  | zero =>
    rintro i rfl h
    refine ⟨[], ?_, Can.zero _, Nat.le_refl _⟩
    refine Ev.step (fun k => by rw [isochroneref01_trim.l0]) ?_
    exact evn (by omega) (evp (by omega) (evp (by omega) (evs _)))
  | succ d ih =>
    rintro i rfl h
    have hw : ((d + 1 : Nat) : Int) - 1 = (d : Int) := by omega
    by_cases hz : rd l d = 0
    · obtain ⟨r, h1, h2, h3⟩ := ih d rfl (by omega)
      refine ⟨r, ?_, ?_, by omega⟩
      · refine Ev.step (fun k => by rw [isochroneref01_trim.l0]) ?_
        rw [hw, w64 (x := (d : Int)) (by omega) (by omega)]
        exact evp (by omega) (evp (by omega) (evp (by omega) (evp hz h1)))
      · rw [vl_take RR l d (by omega), hz, Int.zero_mul, Int.add_zero]
        exact h2
    · refine ⟨l.take (d + 1), ?_, ⟨hd.take _, nm_of_rd (fun _ => ?_), rfl⟩, by rw [List.length_take]; omega⟩
      · refine Ev.step (fun k => by rw [isochroneref01_trim.l0]) ?_
        rw [hw, w64 (x := (d : Int)) (by omega) (by omega), Int.toNat_natCast]
        exact evp (by omega) (evp (by omega) (evp (by omega) (evn hz (evp (by omega) (evp (by omega) (evs _))))))
      · rw [List.length_take, Nat.min_eq_left (by omega), hw, rd_take _ _ _ (by omega)]
        exact hz
theorem r_trim_sp {l : List Int} (hn : l.length < 4611686018427387904) (hd : Dg RR l) : ∃ r, Ev (fun k => isochroneref01_trim.f k l) r ∧ Can RR r (vl RR l) ∧ r.length ≤ l.length := by
  obtain ⟨r, h1, h2⟩ := r_trim_ev hn hd l.length l.length rfl (Nat.le_refl _)
  rw [List.take_length] at h2
  exact ⟨r, Ev.congr (fun k => by rw [isochroneref01_trim.f]) h1, h2⟩
theorem isochroneref01_Cmp_ev {a b : List Int} (hl : a.length = b.length) (hn : a.length < 4611686018427387904) (ha : Dg RR a) (hb : Dg RR b) (d : Nat) :
    ∀ (i : Nat), i = d → i ≤ a.length → vl RR (a.drop i) = vl RR (b.drop i) → ∃ r, Ev (fun k => isochroneref01_Cmp.l0 k a b ((i : Int) - 1)) r ∧ (r = -1 ∧ vl RR a < vl RR b ∨ r = 0 ∧ vl RR a = vl RR b ∨ r = 1 ∧ vl RR b < vl RR a) := by
  induction d with
  | zero =>
    rintro i rfl h1 h2
    refine ⟨0, ?_, .inr (.inl ⟨rfl, by simpa using h2⟩)⟩
    refine Ev.step (fun k => by rw [isochroneref01_Cmp.l0]) ?_
    exact evn (by omega) (evs _)
  | succ d ih =>
    rintro i rfl h1 h2
    have e1 : (((d + 1 : Nat) : Int) - 1) = (d : Int) := by omega
    rw [e1]
    have h3 := vl_drop RR a d (by omega)
    have h4 := vl_drop RR b d (by omega)
    have ea : a.drop d = rd a d :: a.drop (d + 1) := by rw [rd_lt a d (by omega)]; exact (List.drop_eq_getElem_cons (by omega))
    have eb : b.drop d = rd b d :: b.drop (d + 1) := by rw [rd_lt b d (by omega)]; exact (List.drop_eq_getElem_cons (by omega))
    have ta := vl_lt RR_pos (ha.take d)
    have tb := vl_lt RR_pos (hb.take d)
    have ta0 := vl_nonneg RR_pos (ha.take d)
    have tb0 := vl_nonneg RR_pos (hb.take d)
    rw [List.length_take, Nat.min_eq_left (by omega)] at ta tb
    by_cases he : rd a d = rd b d
    · obtain ⟨r, h5, h6⟩ := ih d rfl (by omega) (by rw [ea, eb, vl, vl, he, h2])
      refine ⟨r, ?_, h6⟩
      refine Ev.step (fun k => by rw [isochroneref01_Cmp.l0]) ?_
      rw [w64 (by omega) (by omega)]
      exact evp (by omega) (evp (by omega) (evp (by omega) (evp (by omega) (evp he h5))))
    · have h7 : vl RR (a.drop d) = rd a d + RR * vl RR (a.drop (d + 1)) := by rw [ea, vl]
      have h8 : vl RR (b.drop d) = rd b d + RR * vl RR (b.drop (d + 1)) := by rw [eb, vl]
      have hp : 0 < RR ^ d := Int.pow_pos RR_pos
      by_cases hlt : rd a d < rd b d
      · refine ⟨-1, ?_, .inl ⟨rfl, ?_⟩⟩
        · refine Ev.step (fun k => by rw [isochroneref01_Cmp.l0]) ?_
          exact evp (by omega) (evp (by omega) (evp (by omega) (evp (by omega) (evn he (evp hlt (evs _))))))
        · have h9 : RR ^ d * (vl RR (a.drop d) + 1) ≤ RR ^ d * vl RR (b.drop d) := Int.mul_le_mul_of_nonneg_left (by rw [h7, h8, h2]; omega) (by omega)
          rw [Int.mul_add] at h9
          omega
      · refine ⟨1, ?_, .inr (.inr ⟨rfl, ?_⟩)⟩
        · refine Ev.step (fun k => by rw [isochroneref01_Cmp.l0]) ?_
          exact evp (by omega) (evp (by omega) (evp (by omega) (evp (by omega) (evn he (evn hlt (evs _))))))
        · have h9 : RR ^ d * (vl RR (b.drop d) + 1) ≤ RR ^ d * vl RR (a.drop d) := Int.mul_le_mul_of_nonneg_left (by rw [h7, h8, h2]; omega) (by omega)
          rw [Int.mul_add] at h9
          omega
theorem isochroneref01_Cmp_sp {a b : List Int} {n m : Int} (hn : a.length < 4611686018427387904) (ha : Can RR a n) (hb : Can RR b m) : Ev (fun k => isochroneref01_Cmp.f k a b) (cmpi n m) := by
  unfold isochroneref01_Cmp.f
  by_cases hl : a.length = b.length
  · obtain ⟨r, h1, h2⟩ := isochroneref01_Cmp_ev hl hn ha.1 hb.1 a.length a.length rfl (Nat.le_refl _) (by rw [List.drop_length, hl, List.drop_length])
    have e : r = cmpi n m := by
      rw [ha.2.2, hb.2.2] at h2
      unfold cmpi
      rcases h2 with ⟨rfl, h⟩ | ⟨rfl, h⟩ | ⟨rfl, h⟩
      · rw [if_pos h]
      · rw [if_neg (by omega), if_pos h]
      · rw [if_neg (by omega), if_neg (by omega)]
    rw [← e]
    refine evp (by omega) ?_
    rw [w64 (by omega) (by omega)]
    exact h1
  · refine evn (by omega) ?_
    unfold cmpi
    by_cases h : a.length < b.length
    · have := Can.len_lt RR_one ha hb h
      rw [if_pos this]
      exact evp (by omega) (evs _)
    · have := Can.len_lt RR_one hb ha (by omega)
      rw [if_neg (show ¬ n < m by omega), if_neg (show ¬ n = m by omega)]
      exact evn (by omega) (evs _)
theorem tmod_nn {x : Int} (h : 0 ≤ x) (m : Int) : Int.tmod x m = x % m := Int.tmod_eq_emod_of_nonneg h
theorem tdiv_nn {x : Int} (h : 0 ≤ x) (m : Int) : Int.tdiv x m = x / m := Int.tdiv_eq_ediv_of_nonneg h
theorem vl_snoc (B : Int) (l : List Int) (x : Int) : vl B (l ++ [x]) = vl B l + x * B ^ l.length := by
  rw [vl_append]
  simp only [vl]
  grind
theorem alg_sm {vo c P n v c' R : Int} (h : vo + c * P = n) (h2 : v + R * c' = c) : vo + v * P + c' * (R * P) = n := by grind
theorem alg_sm2 {vo c P va x k v c' R c0 : Int} (h : vo + c * P = c0 + k * va) (h2 : v + R * c' = c + x * k) : vo + v * P + c' * (R * P) = c0 + k * (va + x * P) := by grind
theorem r_Small_in (o0 : List Int) (n : Int) (c : Nat) : ∀ (o : List Int) (cc : Int), cc = (c : Int) → cc < 4611686018427387904 → o.length + c < 1099511627776 → Dg RR o → vl RR o + cc * RR ^ o.length = n → ∃ r, Ev (fun k => isochroneref01_Small.l1 k cc o) r ∧ Can RR r n := by
  induction c using Nat.strongRecOn with
  | _ c ih =>
    intro o cc hcc hlt hl hd hv
    by_cases h0 : c = 0
    · subst h0
      have e : cc = 0 := by omega
      subst e
      rw [Int.zero_mul, Int.add_zero] at hv
      obtain ⟨r, h1, h2, _⟩ := r_trim_sp (l := o) (by omega) hd
      refine ⟨r, ?_, by rw [← hv]; exact h2⟩
      refine Ev.step (fun k => by rw [isochroneref01_Small.l1]) ?_
      exact evn (by omega) (Ev.bind h1 (evs _))
    · obtain ⟨r, h1, h2⟩ := ih (c / 10000) (by omega) (o ++ [cc % 10000]) (cc / 10000) (by omega) (by omega) (by simp; omega) (hd.append (Dg.mk (by omega) (by rw [RR_eq]; omega) (Dg.nil _)))
        (by rw [vl_snoc, List.length_append, List.length_singleton, Int.pow_succ, Int.mul_comm (RR ^ o.length) RR]; exact alg_sm hv (by rw [RR_eq]; omega))
      refine ⟨r, ?_, h2⟩
      refine Ev.step (fun k => by rw [isochroneref01_Small.l1]) ?_
      rw [tmod_nn (x := cc) (by omega), tdiv_nn (x := cc) (by omega), w64 (x := cc / 10000) (by omega) (by omega)]
      exact evp (by omega) (evp (by omega) h1)
theorem r_Small_l0 {a : List Int} (hn : a.length < 549755813888) (ha : Dg RR a) {k0 c0 : Int} (hk : 0 ≤ k0 ∧ k0 ≤ 65536) (d : Nat) :
    ∀ (i : Nat) (o : List Int) (c : Int), a.length - i = d → i ≤ a.length → o.length = i → Dg RR o → 0 ≤ c → c ≤ 65536 → vl RR o + c * RR ^ i = c0 + k0 * vl RR (a.take i) →
    ∃ r, Ev (fun k => isochroneref01_Small.l0 k k0 c o a (a.length : Int) (i : Int)) r ∧ Can RR r (c0 + k0 * vl RR a) := by
  induction d with
  | zero =>
    intro i o c h1 h2 h3 h4 h5 h6 h7
    have e : i = a.length := by omega
    subst e
    rw [List.take_length] at h7
    obtain ⟨r, h8, h9⟩ := r_Small_in o (c0 + k0 * vl RR a) c.toNat o c (by omega) (by omega) (by omega) h4 (by rw [h3]; exact h7)
    refine ⟨r, ?_, h9⟩
    refine Ev.step (fun k => by rw [isochroneref01_Small.l0]) ?_
    exact evn (by omega) h8
  | succ d ih =>
    intro i o c h1 h2 h3 h4 h5 h6 h7
    have hx := dg_rd ha (i : Int) (by omega) (by omega)
    rw [RR_eq] at hx
    have hm : 0 ≤ rd a i * k0 := Int.mul_nonneg hx.1 hk.1
    have hm2 : rd a i * k0 ≤ 9999 * 65536 := Int.mul_le_mul (by omega) hk.2 hk.1 (by omega)
    obtain ⟨r, h8, h9⟩ := ih (i + 1) (o ++ [(c + rd a i * k0) % 10000]) ((c + rd a i * k0) / 10000) (by omega) (by omega) (by simp; omega) (h4.append (Dg.mk (by omega) (by rw [RR_eq]; omega) (Dg.nil _))) (by omega) (by omega)
      (by rw [vl_snoc, h3, vl_take RR a i (by omega), Int.pow_succ, Int.mul_comm (RR ^ i) RR]; exact alg_sm2 h7 (by rw [RR_eq]; omega))
    refine ⟨r, ?_, h9⟩
    refine Ev.step (fun k => by rw [isochroneref01_Small.l0]) ?_
    rw [w64 (x := rd a i * k0) (by omega) (by omega), w64 (x := c + rd a i * k0) (by omega) (by omega), tmod_nn (x := c + rd a i * k0) (by omega), tdiv_nn (x := c + rd a i * k0) (by omega), w64 (x := (c + rd a i * k0) / 10000) (by omega) (by omega), wsucc (i := i) (by omega)]
    exact evp (by omega) (evp (by omega) (evp (by omega) (evp (by omega) h8)))
theorem r_Small_sp {a : List Int} {n k0 c0 : Int} (hn : a.length < 549755813888) (ha : Can RR a n) (hk : 0 ≤ k0 ∧ k0 ≤ 65536) (hc : 0 ≤ c0 ∧ c0 ≤ 65536) : ∃ r, Ev (fun k => isochroneref01_Small.f k a k0 c0) r ∧ Can RR r (n * k0 + c0) ∧ r.length ≤ a.length + 2 := by
  obtain ⟨r, h1, h2⟩ := r_Small_l0 hn ha.1 hk (c0 := c0) a.length 0 [] c0 (by omega) (by omega) rfl (Dg.nil _) hc.1 hc.2 (by simp [vl])
  rw [ha.2.2, Int.add_comm, Int.mul_comm] at h2
  refine ⟨r, ?_, h2, ?_⟩
  · unfold isochroneref01_Small.f
    have e : (a.length : Int) + 2 = ((a.length + 2 : Nat) : Int) := by omega
    rw [e, w64 (by omega) (by omega), Int.toNat_natCast]
    exact evp (by omega) (evp (by omega) h1)
  · refine h2.len_le RR_one ?_
    have h3 := ha.lt RR_pos
    have h4 := ha.nonneg RR_pos
    have h5 : n * k0 ≤ n * 65536 := Int.mul_le_mul_of_nonneg_left hk.2 h4
    have h6 : RR ^ (a.length + 2) = RR ^ a.length * 100000000 := by rw [Int.pow_add]; rfl
    rw [h6]
    omega
theorem r_Int_ev (n : Int) (c : Nat) : ∀ (o : List Int) (cc : Int), cc = (c : Int) → cc < 4611686018427387904 → o.length + c < 17592186044416 → Dg RR o → (c = 0 → Nm o) → vl RR o + cc * RR ^ o.length = n → ∃ r, Ev (fun k => isochroneref01_Int.l0 k cc o) r ∧ Can RR r n := by
  induction c using Nat.strongRecOn with
  | _ c ih =>
    intro o cc hcc hlt hl hd hnm hv
    by_cases h0 : c = 0
    · subst h0
      have e : cc = 0 := by omega
      subst e
      rw [Int.zero_mul, Int.add_zero] at hv
      refine ⟨o, ?_, hd, hnm rfl, hv⟩
      refine Ev.step (fun k => by rw [isochroneref01_Int.l0]) ?_
      exact evn (by omega) (evs _)
    · obtain ⟨r, h1, h2⟩ := ih (c / 10000) (by omega) (o ++ [cc % 10000]) (cc / 10000) (by omega) (by omega) (by simp; omega) (hd.append (Dg.mk (by omega) (by rw [RR_eq]; omega) (Dg.nil _)))
        (by
          intro hz hne
          simp only [List.getLast_append, List.getLast_singleton]
          simp
          omega)
        (by rw [vl_snoc, List.length_append, List.length_singleton, Int.pow_succ, Int.mul_comm (RR ^ o.length) RR]; exact alg_sm hv (by rw [RR_eq]; omega))
      refine ⟨r, ?_, h2⟩
      refine Ev.step (fun k => by rw [isochroneref01_Int.l0]) ?_
      rw [tmod_nn (x := cc) (by omega), tdiv_nn (x := cc) (by omega), w64 (x := cc / 10000) (by omega) (by omega)]
      exact evp (by omega) (evp (by omega) h1)
theorem r_Int_sp {a : Int} (h0 : 0 ≤ a) (h1 : a < 10000000000000) : ∃ r, Ev (fun k => isochroneref01_Int.f k a) r ∧ Can RR r a := by
  obtain ⟨r, h2, h3⟩ := r_Int_ev a a.toNat [] a (by omega) (by omega) (by simp; omega) (Dg.nil _) (fun _ => Nm.nil) (by simp [vl])
  exact ⟨r, Ev.congr (fun k => by rw [isochroneref01_Int.f]) h2, h3⟩
theorem and16 {x : Int} (h0 : 0 ≤ x) (h1 : x < 4294967296) : Go.bits .and .u32 x 65535 = x % 65536 :=
  bits_mask .u32 32 (by decide) (fun n h0 h1 => by rw [IntKind.wrap_u32]; omega) 16 (by decide) x h0 h1
end Go.Proofs.Ytfpolhoabfadnaa.P
end
section
namespace Go.Proofs.Ytfpolhoabfadnaa.P
open Go.RowKit Go.Proofs.YtfpolhoabfadnaaW.PrintWords Go.Proofs.YtfpolhoabfadnaaW.PrintLast Go.Proofs.YtfpolhoabfadnaaW.PrintMore
set_option linter.unusedVariables false
theorem drop_set_ge (l : List Int) (i : Nat) (v : Int) : (l.set i v).drop (i + 1) = l.drop (i + 1) := by rw [List.drop_set_of_lt (by omega)]
theorem rd_of_drop (a o : List Int) (i : Nat) (h : o.drop i = a.drop i) (hi : i < a.length) (hl : o.length = a.length) : rd o i = rd a i := by
  rw [rd_lt o i (by omega), rd_lt a i hi]
  have h1 : (o.drop i)[0]? = (a.drop i)[0]? := by rw [h]
  rw [List.getElem?_drop, List.getElem?_drop, Nat.add_zero, List.getElem?_eq_getElem (by omega), List.getElem?_eq_getElem hi] at h1
  exact Option.some.inj h1
theorem drop_tail (a o : List Int) (i : Nat) (h : o.drop i = a.drop i) : o.drop (i + 1) = a.drop (i + 1) := by
  rw [← List.drop_drop, ← List.drop_drop, h]
theorem r_Sub_ev {a b : List Int} (hba : b.length ≤ a.length) (hle : vl RR b ≤ vl RR a) (hn : a.length < 68719476736) (ha : Dg RR a) (hb : Dg RR b) (d : Nat) :
    ∀ (i : Nat) (o : List Int) (c : Int), a.length - i = d → i ≤ a.length → o.length = a.length → o.drop i = a.drop i → Dg RR (o.take i) → 0 ≤ c → c ≤ 1 → vl RR (o.take i) - c * RR ^ i = vl RR (a.take i) - vl RR (b.take i) →
    ∃ r, Ev (fun k => isochroneref01_Sub.l0 k b o c (a.length : Int) (i : Int)) r ∧ Can RR r (vl RR a - vl RR b) ∧ r.length ≤ a.length := by
  induction d with
  | zero =>
    intro i o c h1 h2 h3 hdr h4 h5 h6 h7
    have e : i = a.length := by omega
    subst e
    rw [List.take_length, List.take_of_length_le hba, ← h3, List.take_length] at h7
    rw [← h3, List.take_length] at h4
    have hlt := vl_lt RR_pos h4
    have hc : c = 0 := by
      rcases Int.lt_or_eq_of_le h6 with h | h
      · omega
      · subst h
        rw [Int.one_mul] at h7
        omega
    subst hc
    rw [Int.zero_mul, Int.sub_zero] at h7
    obtain ⟨r, h8, h9, h10⟩ := r_trim_sp (l := o) (by omega) h4
    refine ⟨r, ?_, by rw [← h7]; exact h9, by omega⟩
    refine Ev.step (fun k => by rw [isochroneref01_Sub.l0]) ?_
    refine evn (by omega) ?_
    exact Ev.bind h8 (evs _)
  | succ d ih =>
    intro i o c h1 h2 h3 hdr h4 h5 h6 h7
    have hi : i < a.length := by omega
    have hx := dg_rd ha (i : Int) (by omega) (by omega)
    rw [RR_eq] at hx
    have hro := rd_of_drop a o i hdr hi h3
    have ti := vl_take RR a i hi
    have ep : RR ^ (i + 1) = RR * RR ^ i := by rw [Int.pow_succ, Int.mul_comm]
    have hdt := drop_tail a o i hdr
    by_cases hib : i < b.length
    · have hy := dg_rd hb (i : Int) (by omega) (by omega)
      rw [RR_eq] at hy
      have tb := vl_take RR b i hib
      by_cases hneg : rd a i - c - rd b i < 0
      · obtain ⟨r, h8, h9⟩ := ih (i + 1) (o.set i (rd a i - c - rd b i + 10000)) 1 (by omega) (by omega) (by simpa using h3) (by rw [drop_set_ge, hdt]) (Dg.take_set (by omega) h4 (by omega) (by rw [RR_eq]; omega)) (by omega) (by omega)
          (by rw [vl_set _ _ _ _ (by omega), ti, tb, ep]; exact alg_sub h7 (by rw [RR_eq]; omega))
        refine ⟨r, ?_, h9⟩
        refine Ev.step (fun k => by rw [isochroneref01_Sub.l0]) ?_
        rw [hro, w64 (x := rd a i - c) (by omega) (by omega), w64 (x := rd a i - c - rd b i) (by omega) (by omega), w64 (x := rd a i - c - rd b i + 10000) (by omega) (by omega), wsucc (i := i) (by omega)]
        exact evp (by omega) (evp (by omega) (evp (by omega) (evp (by omega) (evp hneg h8))))
      · obtain ⟨r, h8, h9⟩ := ih (i + 1) (o.set i (rd a i - c - rd b i)) 0 (by omega) (by omega) (by simpa using h3) (by rw [drop_set_ge, hdt]) (Dg.take_set (by omega) h4 (by omega) (by rw [RR_eq]; omega)) (by omega) (by omega)
          (by rw [vl_set _ _ _ _ (by omega), ti, tb, ep]; exact alg_sub h7 (by rw [RR_eq]; omega))
        refine ⟨r, ?_, h9⟩
        refine Ev.step (fun k => by rw [isochroneref01_Sub.l0]) ?_
        rw [hro, w64 (x := rd a i - c) (by omega) (by omega), w64 (x := rd a i - c - rd b i) (by omega) (by omega), wsucc (i := i) (by omega)]
        exact evp (by omega) (evp (by omega) (evp (by omega) (evp (by omega) (evn hneg h8))))
    · have tb : vl RR (b.take (i + 1)) = vl RR (b.take i) := by rw [List.take_of_length_le (by omega), List.take_of_length_le (by omega)]
      by_cases hneg : rd a i - c < 0
      · obtain ⟨r, h8, h9⟩ := ih (i + 1) (o.set i (rd a i - c + 10000)) 1 (by omega) (by omega) (by simpa using h3) (by rw [drop_set_ge, hdt]) (Dg.take_set (by omega) h4 (by omega) (by rw [RR_eq]; omega)) (by omega) (by omega)
          (by rw [vl_set _ _ _ _ (by omega), ti, tb, ep]; exact alg_sub1 h7 (by rw [RR_eq]; omega))
        refine ⟨r, ?_, h9⟩
        refine Ev.step (fun k => by rw [isochroneref01_Sub.l0]) ?_
        rw [hro, w64 (x := rd a i - c) (by omega) (by omega), w64 (x := rd a i - c + 10000) (by omega) (by omega), wsucc (i := i) (by omega)]
        exact evp (by omega) (evp (by omega) (evp (by omega) (evn (by omega) (evp hneg h8))))
      · obtain ⟨r, h8, h9⟩ := ih (i + 1) (o.set i (rd a i - c)) 0 (by omega) (by omega) (by simpa using h3) (by rw [drop_set_ge, hdt]) (Dg.take_set (by omega) h4 (by omega) (by rw [RR_eq]; omega)) (by omega) (by omega)
          (by rw [vl_set _ _ _ _ (by omega), ti, tb, ep]; exact alg_sub1 h7 (by rw [RR_eq]; omega))
        refine ⟨r, ?_, h9⟩
        refine Ev.step (fun k => by rw [isochroneref01_Sub.l0]) ?_
        rw [hro, w64 (x := rd a i - c) (by omega) (by omega), wsucc (i := i) (by omega)]
        exact evp (by omega) (evp (by omega) (evp (by omega) (evn (by omega) (evn hneg h8))))
theorem canR_len_le {a b : List Int} {n m : Int} (ha : Can RR a n) (hb : Can RR b m) (h : m ≤ n) : b.length ≤ a.length := by
  rcases Nat.lt_or_ge a.length b.length with hl | hl
  · have := Can.len_lt RR_one ha hb hl
    omega
  · exact hl
theorem r_Clone_sp {l : List Int} (h : l.length < 17592186044416) : isochroneref01_Nat_int.f l = some l := by
  unfold isochroneref01_Nat_int.f
  simp [h]
theorem r_Sub_sp {a b : List Int} {n m : Int} (hn : a.length < 68719476736) (ha : Can RR a n) (hb : Can RR b m) (hle : m ≤ n) : ∃ r, Ev (fun k => isochroneref01_Sub.f k a b) r ∧ Can RR r (n - m) ∧ r.length ≤ a.length := by
  have hba := canR_len_le ha hb hle
  rw [← ha.2.2, ← hb.2.2] at *
  obtain ⟨r, h1, h2⟩ := r_Sub_ev hba hle hn ha.1 hb.1 a.length 0 a 0 (by omega) (by omega) rfl rfl (by simp; exact Dg.nil _) (by omega) (by omega) (by simp [vl])
  refine ⟨r, ?_, h2⟩
  unfold isochroneref01_Sub.f
  exact evb (r_Clone_sp (by omega)) h1
theorem vl_set_all (B : Int) (l : List Int) (p : Nat) (v : Int) (h : p < l.length) : vl B (l.set p v) = vl B l + (v - rd l (p : Int)) * B ^ p := by
  have h1 := vl_set_mid B l p l.length v h (Nat.le_refl _)
  rwa [List.take_of_length_le (by simp), List.take_length] at h1
theorem alg_carry {T c P V old v c' W : Int} (h : T + c * P = V) (h2 : v + W * c' = c + old) : (T + (v - old) * P) + c' * (W * P) = V := by grind
theorem r_Mul_c {a b : List Int} {V : Int} (hn : a.length + b.length < 68719476736) (hV : V < RR ^ (a.length + b.length)) (s : Int) (R : List Int)
    (hout : ∀ o : List Int, o.length = a.length + b.length + 1 → Dg RR o → vl RR o = V → Ev (fun k => isochroneref01_Mul.l0 k b o a (a.length : Int) (wrap64 (s + 1))) R) (d : Nat) :
    ∀ (p : Nat) (o : List Int) (c : Int), a.length + b.length + 1 - p = d → p ≤ a.length + b.length + 1 → o.length = a.length + b.length + 1 → Dg RR o → 0 ≤ c → c < 10000 → vl RR o + c * RR ^ p = V →
    Ev (fun k => isochroneref01_Mul.l2 k b o c (p : Int) a (a.length : Int) s) R := by
  induction d with
  | zero =>
    intro p o c h1 h2 h3 h4 h5 h6 h7
    have hvo := vl_nonneg RR_pos h4
    have hc : c = 0 := by
      rcases Int.lt_or_eq_of_le h5 with h | h
      · have h8 := pow_le (B := RR) (by have := RR_one; omega) (show a.length + b.length ≤ p by omega)
        have h9 : 1 * RR ^ p ≤ c * RR ^ p := Int.mul_le_mul_of_nonneg_right (by omega) (Int.le_of_lt (Int.pow_pos RR_pos))
        omega
      · omega
    subst hc
    rw [Int.zero_mul, Int.add_zero] at h7
    refine Ev.step (fun k => by rw [isochroneref01_Mul.l2]) ?_
    exact evn (by omega) (hout o h3 h4 h7)
  | succ d ih =>
    intro p o c h1 h2 h3 h4 h5 h6 h7
    by_cases hc : c = 0
    · subst hc
      rw [Int.zero_mul, Int.add_zero] at h7
      refine Ev.step (fun k => by rw [isochroneref01_Mul.l2]) ?_
      exact evn (by omega) (hout o h3 h4 h7)
    · have ho := dg_rd h4 (p : Int) (by omega) (by omega)
      rw [RR_eq] at ho
      have h8 := ih (p + 1) (o.set p ((c + rd o p) % 10000)) ((c + rd o p) / 10000) (by omega) (by omega) (by simpa using h3) (h4.set _ (by omega) (by rw [RR_eq]; omega)) (by omega) (by omega)
        (by rw [vl_set_all _ _ _ _ (by omega), Int.pow_succ, Int.mul_comm (RR ^ p) RR]; exact alg_carry h7 (by rw [RR_eq]; omega))
      refine Ev.step (fun k => by rw [isochroneref01_Mul.l2]) ?_
      rw [w64 (x := c + rd o p) (by omega) (by omega), tmod_nn (x := c + rd o p) (by omega), tdiv_nn (x := c + rd o p) (by omega), w64 (x := (c + rd o p) / 10000) (by omega) (by omega), wsucc (i := p) (by omega), Int.toNat_natCast]
      exact evp (by omega) (evp (by omega) (evp (by omega) h8))
theorem mul_bd4 {x y : Int} (hx : 0 ≤ x ∧ x < 10000) (hy : 0 ≤ y ∧ y < 10000) : 0 ≤ x * y ∧ x * y ≤ 99980001 := by
  have h1 : 0 ≤ x * y := Int.mul_nonneg hx.1 hy.1
  have h2 : x * y ≤ 9999 * 9999 := Int.mul_le_mul (by omega) (by omega) hy.1 (by omega)
  omega
theorem alg_rmul {T va vb x y old P c c' v W xb Pi Pj : Int} (h : T + c * P = va * vb + x * Pi * xb) (h2 : v + W * c' = c + (old + x * y)) (hP : P = Pi * Pj) : (T + (v - old) * P) + c' * (W * P) = va * vb + x * Pi * (xb + y * Pj) := by grind
theorem r_Mul_in {a b : List Int} (hn : a.length + b.length < 68719476736) (ha : Dg RR a) (hb : Dg RR b) (i : Nat) (hi : i < a.length) (R : List Int)
    (hout : ∀ o : List Int, o.length = a.length + b.length + 1 → Dg RR o → vl RR o = vl RR (a.take (i + 1)) * vl RR b → Ev (fun k => isochroneref01_Mul.l0 k b o a (a.length : Int) ((i + 1 : Nat) : Int)) R) (d : Nat) :
    ∀ (j : Nat) (o : List Int) (c : Int), b.length - j = d → j ≤ b.length → o.length = a.length + b.length + 1 → Dg RR o → 0 ≤ c → c < 10000 →
    vl RR o + c * RR ^ (i + j) = vl RR (a.take i) * vl RR b + rd a i * RR ^ i * vl RR (b.take j) →
    Ev (fun k => isochroneref01_Mul.l1 k b o (i : Int) (rd a i) c a (a.length : Int) (i : Int) b (b.length : Int) (j : Int)) R := by
  have hx := dg_rd ha (i : Int) (by omega) (by omega)
  rw [RR_eq] at hx
  induction d with
  | zero =>
    intro j o c h1 h2 h3 h4 h5 h6 h7
    have e : j = b.length := by omega
    subst e
    rw [List.take_length] at h7
    have h8 := alg_mul2 h7
    rw [← vl_take RR a i hi] at h8
    have hlt : vl RR (a.take (i + 1)) * vl RR b < RR ^ (a.length + b.length) := by
      rw [Int.pow_add]
      have q1 := vl_lt RR_pos (ha.take (i + 1))
      have q2 := pow_le (B := RR) (by have := RR_one; omega) (show (a.take (i + 1)).length ≤ a.length by rw [List.length_take]; omega)
      exact mul_lt' (by omega) (vl_lt RR_pos hb) (vl_nonneg RR_pos (ha.take _)) (vl_nonneg RR_pos hb)
    have h9 := r_Mul_c (a := a) (b := b) (V := vl RR (a.take (i + 1)) * vl RR b) hn hlt (i : Int) R (fun o' q1 q2 q3 => by rw [wsucc (i := i) (by omega)]; exact hout o' q1 q2 q3) (a.length + b.length + 1 - (i + b.length)) (i + b.length) o c rfl (by omega) h3 h4 h5 h6 h8
    have ei : ((i : Int) + (b.length : Int)) = ((i + b.length : Nat) : Int) := by omega
    refine Ev.step (fun k => by rw [isochroneref01_Mul.l1]) ?_
    rw [ei, w64 (x := ((i + b.length : Nat) : Int)) (by omega) (by omega)]
    exact evn (by omega) h9
  | succ d ih =>
    intro j o c h1 h2 h3 h4 h5 h6 h7
    have hy := dg_rd hb (j : Int) (by omega) (by omega)
    have ho := dg_rd h4 ((i + j : Nat) : Int) (by omega) (by omega)
    rw [RR_eq] at hy ho
    have hm := mul_bd4 hx hy
    have h8 := ih (j + 1) (o.set (i + j) ((c + (rd o ((i + j : Nat) : Int) + rd a i * rd b j)) % 10000)) ((c + (rd o ((i + j : Nat) : Int) + rd a i * rd b j)) / 10000) (by omega) (by omega) (by simpa using h3) (h4.set _ (by omega) (by rw [RR_eq]; omega)) (by omega) (by omega)
      (by
        rw [vl_set_all _ _ _ _ (by omega), vl_take RR b j (by omega), show i + (j + 1) = i + j + 1 by omega, Int.pow_succ, Int.mul_comm (RR ^ (i + j)) RR]
        exact alg_rmul h7 (by rw [RR_eq]; omega) (Int.pow_add _ _ _))
    have ei : ((i : Int) + (j : Int)) = ((i + j : Nat) : Int) := by omega
    refine Ev.step (fun k => by rw [isochroneref01_Mul.l1]) ?_
    rw [ei, w64 (x := ((i + j : Nat) : Int)) (by omega) (by omega), w64 (x := rd a i * rd b j) (by omega) (by omega), w64 (x := rd o ((i + j : Nat) : Int) + rd a i * rd b j) (by omega) (by omega), w64 (x := c + (rd o ((i + j : Nat) : Int) + rd a i * rd b j)) (by omega) (by omega),
      tmod_nn (x := c + (rd o ((i + j : Nat) : Int) + rd a i * rd b j)) (by omega), tdiv_nn (x := c + (rd o ((i + j : Nat) : Int) + rd a i * rd b j)) (by omega), w64 (x := (c + (rd o ((i + j : Nat) : Int) + rd a i * rd b j)) / 10000) (by omega) (by omega), wsucc (i := j) (by omega), Int.toNat_natCast]
    exact evp (by omega) (evp (by omega) (evp (by omega) (evp (by omega) (evp (by omega) h8))))
theorem r_Mul_out {a b : List Int} (hn : a.length + b.length < 68719476736) (ha : Dg RR a) (hb : Dg RR b) : ∃ R, Can RR R (vl RR a * vl RR b) ∧ R.length ≤ a.length + b.length ∧ ∀ (d i : Nat) (o : List Int), a.length - i = d → i ≤ a.length → o.length = a.length + b.length + 1 → Dg RR o → vl RR o = vl RR (a.take i) * vl RR b →
    Ev (fun k => isochroneref01_Mul.l0 k b o a (a.length : Int) (i : Int)) R := by
  have hnn : 0 ≤ vl RR a * vl RR b := Int.mul_nonneg (vl_nonneg RR_pos ha) (vl_nonneg RR_pos hb)
  obtain ⟨R, hR⟩ := can_ex RR_one hnn
  have hRl : R.length ≤ a.length + b.length := by
    refine hR.len_le RR_one ?_
    rw [Int.pow_add]
    exact mul_lt' (vl_lt RR_pos ha) (vl_lt RR_pos hb) (vl_nonneg RR_pos ha) (vl_nonneg RR_pos hb)
  refine ⟨R, hR, hRl, ?_⟩
  intro d
  induction d with
  | zero =>
    intro i o h1 h2 h3 h4 h5
    have e : i = a.length := by omega
    subst e
    rw [List.take_length] at h5
    obtain ⟨r, h8, h9, h10⟩ := r_trim_sp (l := o) (by omega) h4
    rw [h5] at h9
    rw [can_uniq RR_pos hR h9]
    refine Ev.step (fun k => by rw [isochroneref01_Mul.l0]) ?_
    exact evn (by omega) (Ev.bind h8 (evs _))
  | succ d ih =>
    intro i o h1 h2 h3 h4 h5
    have h6 := r_Mul_in hn ha hb i (by omega) R (fun o' q1 q2 q3 => ih (i + 1) o' (by omega) (by omega) q1 q2 q3) b.length 0 o 0 (by omega) (by omega) h3 h4 (by omega) (by omega) (by rw [h5]; simp [vl])
    refine Ev.step (fun k => by rw [isochroneref01_Mul.l0]) ?_
    exact evp (by omega) (evp (by omega) (evp (by omega) h6))
theorem r_Mul_sp {a b : List Int} {n m : Int} (hn : a.length + b.length < 68719476736) (ha : Can RR a n) (hb : Can RR b m) : ∃ r, Ev (fun k => isochroneref01_Mul.f k a b) r ∧ Can RR r (n * m) ∧ r.length ≤ a.length + b.length := by
  obtain ⟨R, h1, h2, h3⟩ := r_Mul_out hn ha.1 hb.1
  rw [ha.2.2, hb.2.2] at h1
  refine ⟨R, ?_, h1, h2⟩
  have h4 := h3 a.length 0 (List.replicate (a.length + b.length + 1) 0) (by omega) (by omega) (by simp) (Dg.rep RR_pos _) (by simp [vl, vl_rep])
  unfold isochroneref01_Mul.f
  have e : (a.length : Int) + (b.length : Int) = ((a.length + b.length : Nat) : Int) := by omega
  rw [e, w64 (x := ((a.length + b.length : Nat) : Int)) (by omega) (by omega), wsucc (i := a.length + b.length) (by omega), Int.toNat_natCast]
  exact evp (by omega) (evp (by omega) h4)
end Go.Proofs.Ytfpolhoabfadnaa.P
end
section
namespace Go.Proofs.Ytfpolhoabfadnaa.P
open Go.RowKit Go.Proofs.YtfpolhoabfadnaaW.PrintWords Go.Proofs.YtfpolhoabfadnaaW.PrintLast Go.Proofs.YtfpolhoabfadnaaW.PrintMore
set_option linter.unusedVariables false
theorem getLast_snoc (l : List Int) (x : Int) (h : l ++ [x] ≠ []) : (l ++ [x]).getLast h = x := by simp
theorem drop_set_self (l : List Int) (i : Nat) (v : Int) (h : i < l.length) : (l.set i v).drop i = v :: l.drop (i + 1) := by
  rw [List.drop_eq_getElem_cons (by simpa using h), List.getElem_set_self, drop_set_ge]
theorem drop_rd (l : List Int) (i : Nat) (h : i < l.length) : l.drop i = rd l i :: l.drop (i + 1) := by
  rw [rd_lt l i h]
  exact List.drop_eq_getElem_cons h
theorem alg_split {t r va q rr d R K : Int} (h : t * K + r = va) (h2 : q * K + rr = r * R + d) : (q + R * t) * K + rr = d + R * va := by grind
theorem r_Split_ev {a : List Int} (hn : a.length < 68719476736) (ha : Dg RR a) {K : Int} (hK : 1 ≤ K ∧ K ≤ 65536) (d : Nat) : ∀ (i : Nat) (o : List Int) (r : Int), i = d → i ≤ a.length → o.length = a.length → Dg RR (o.drop i) → 0 ≤ r → r < K → vl RR (o.drop i) * K + r = vl RR (a.drop i) →
    ∃ q z, Ev (fun k => isochroneref01_Split.l0 k a K o r ((i : Int) - 1)) (q, z) ∧ (∃ m, Can RR q m ∧ m * K + z = vl RR a) ∧ 0 ≤ z ∧ z < K ∧ q.length ≤ a.length := by
  induction d with
  | zero =>
    rintro i o r rfl h1 h2 h3 h4 h5 h6
    rw [List.drop_zero] at h3 h6
    rw [List.drop_zero] at h6
    obtain ⟨q, h7, h8, h9⟩ := r_trim_sp (l := o) (by omega) h3
    refine ⟨q, r, ?_, ⟨_, h8, h6⟩, h4, h5, by omega⟩
    refine Ev.step (fun k => by rw [isochroneref01_Split.l0]) ?_
    exact evn (by omega) (Ev.bind h7 (evs _))
  | succ d ih =>
    rintro i o r rfl h1 h2 h3 h4 h5 h6
    have e1 : (((d + 1 : Nat) : Int) - 1) = (d : Int) := by omega
    have hx := dg_rd ha (d : Int) (by omega) (by omega)
    rw [RR_eq] at hx
    have hv0 : 0 ≤ r * 10000 + rd a d := by omega
    have hq0 : 0 ≤ (r * 10000 + rd a d) / K := Int.ediv_nonneg hv0 (by omega)
    have hq1 : (r * 10000 + rd a d) / K < 10000 := by
      refine Int.ediv_lt_of_lt_mul (by omega) ?_
      have : (r + 1) * 10000 ≤ K * 10000 := Int.mul_le_mul_of_nonneg_right (by omega) (by omega)
      omega
    have hm0 := Int.emod_nonneg (r * 10000 + rd a d) (show K ≠ 0 by omega)
    have hm1 := Int.emod_lt_of_pos (r * 10000 + rd a d) (show 0 < K by omega)
    have hdv : (r * 10000 + rd a d) / K * K + (r * 10000 + rd a d) % K = r * RR + rd a d := by rw [RR_eq]; exact Int.ediv_mul_add_emod _ _
    obtain ⟨q, z, h7, h8⟩ := ih d (o.set d ((r * 10000 + rd a d) / K)) ((r * 10000 + rd a d) % K) rfl (by omega) (by simpa using h2)
      (by rw [drop_set_self _ _ _ (by omega)]; exact Dg.mk hq0 (by rw [RR_eq]; exact hq1) h3) hm0 hm1
      (by rw [drop_set_self _ _ _ (by omega), drop_rd a d (by omega), vl, vl]; exact alg_split h6 hdv)
    refine ⟨q, z, ?_, h8⟩
    refine Ev.step (fun k => by rw [isochroneref01_Split.l0]) ?_
    rw [e1, w64 (x := r * 10000) (by omega) (by omega), w64 (x := r * 10000 + rd a d) (by omega) (by omega), tdiv_nn hv0, tmod_nn hv0, w64 (x := (r * 10000 + rd a d) / K) (by omega) (by omega), w64 (x := (d : Int) - 1) (by omega) (by omega), Int.toNat_natCast]
    exact evp (by omega) (evp (by omega) (evp (by omega) (evn (by omega) (evp (by omega) h7))))
theorem r_Split_sp {a : List Int} {n K : Int} (hn : a.length < 68719476736) (ha : Can RR a n) (hK : 1 ≤ K ∧ K ≤ 65536) : ∃ q, Ev (fun k => isochroneref01_Split.f k a K) (q, n % K) ∧ Can RR q (n / K) ∧ q.length ≤ a.length := by
  obtain ⟨q, z, h1, ⟨m, h2, h3⟩, h4, h5, h6⟩ := r_Split_ev hn ha.1 hK a.length a.length (List.replicate a.length 0) 0 rfl (Nat.le_refl _) (by simp) (by rw [List.drop_of_length_le (by simp)]; exact Dg.nil _) (by omega) (by omega) (by rw [List.drop_of_length_le (by simp), List.drop_of_length_le (by simp)]; simp [vl])
  rw [ha.2.2] at h3
  have e1 : n % K = z := by rw [← h3, Int.add_comm, Int.add_mul_emod_self_right, Int.emod_eq_of_lt h4 h5]
  have e2 : n / K = m := by
    have h7 := Int.ediv_mul_add_emod n K
    rw [e1] at h7
    exact Int.eq_of_mul_eq_mul_right (a := K) (by omega) (by omega)
  rw [e1, e2]
  refine ⟨q, ?_, h2, h6⟩
  unfold isochroneref01_Split.f
  rw [Int.toNat_natCast, w64 (by omega) (by omega)]
  exact evp (by omega) (evp (by omega) h1)
abbrev HH : Int := 65536
theorem HH_eq : HH = 65536 := rfl
theorem vl2 (h : List Int) (i : Nat) (hi : i + 1 < h.length) : vl HH (h.drop i) = rd h i + 65536 * rd h ((i + 1 : Nat) : Int) + WW * vl HH (h.drop (i + 2)) := by
  rw [drop_rd h i (by omega), vl, drop_rd h (i + 1) hi, vl, WW_eq, HH_eq, show i + 1 + 1 = i + 2 from rfl]
  omega
theorem vl1 (h : List Int) (i : Nat) (hi : i + 1 = h.length) : vl HH (h.drop i) = rd h i := by
  rw [drop_rd h i (by omega), vl, List.drop_of_length_le (by omega)]
  simp [vl]
theorem alg_w {vo P x w V W T : Int} (h : vo + P * T = V) (h2 : T = w + W * x) : (vo + w * P) + (W * P) * x = V := by grind
theorem r_Words_out {h : List Int} (hn : h.length < 68719476736) (hd : Dg HH h) (hnm : Nm h) (n : Int) (d : Nat) : ∀ (i : Nat) (o : List Int), h.length - i = d → i = 2 * o.length → Dg WW o → (h.length ≤ i → Nm o) → vl WW o + WW ^ o.length * vl HH (h.drop i) = n →
    ∃ r, Ev (fun k => isochroneref01_Words.l1 k h o (i : Int)) r ∧ Can WW r n := by
  induction d using Nat.strongRecOn with
  | _ d ih =>
    intro i o h1 h2 h3 h4 h5
    by_cases hi : i < h.length
    · have hx := dg_rd hd (i : Int) (by omega) (by omega)
      rw [HH_eq] at hx
      have ei2 : (i : Int) + 2 = ((i + 2 : Nat) : Int) := by omega
      by_cases hi1 : i + 1 < h.length
      · have hy := dg_rd hd ((i + 1 : Nat) : Int) (by omega) (by omega)
        rw [HH_eq] at hy
        have hl : i + 2 = h.length → rd h ((i + 1 : Nat) : Int) ≠ 0 := by
          intro he
          have h6 := hnm.rd (by omega)
          rw [show (h.length : Int) - 1 = ((i + 1 : Nat) : Int) by omega] at h6
          exact h6
        obtain ⟨r, h7, h8⟩ := ih (h.length - (i + 2)) (by omega) (i + 2) (o ++ [rd h i + 65536 * rd h ((i + 1 : Nat) : Int)]) rfl (by simp; omega) (h3.append (Dg.mk (by omega) (by rw [WW_eq]; omega) (Dg.nil _)))
          (by
            intro hle hne
            rw [getLast_snoc]
            have := hl (by omega)
            omega)
          (by rw [vl_snoc, List.length_append, List.length_singleton, Int.pow_succ, Int.mul_comm (WW ^ o.length) WW]; exact alg_w h5 (vl2 h i hi1))
        refine ⟨r, ?_, h8⟩
        refine Ev.step (fun k => by rw [isochroneref01_Words.l1]) ?_
        have ew : (rd h i % 4294967296 + rd h ((i + 1 : Nat) : Int) % 4294967296 * 65536 % 4294967296) % 4294967296 = rd h i + 65536 * rd h ((i + 1 : Nat) : Int) := by omega
        rw [wsucc (i := i) (by omega), ew, ei2, w64 (x := ((i + 2 : Nat) : Int)) (by omega) (by omega)]
        exact evp (by omega) (evp (by omega) (evp (by omega) (evp (by omega) (evp (by omega) h7))))
      · have hl : rd h (i : Int) ≠ 0 := by
          have h6 := hnm.rd (by omega)
          rw [show (h.length : Int) - 1 = (i : Int) by omega] at h6
          exact h6
        obtain ⟨r, h7, h8⟩ := ih (h.length - (i + 2)) (by omega) (i + 2) (o ++ [rd h i]) rfl (by simp; omega) (h3.append (Dg.mk (by omega) (by rw [WW_eq]; omega) (Dg.nil _)))
          (by
            intro hle hne
            rw [getLast_snoc]
            exact hl)
          (by
            rw [vl_snoc, List.length_append, List.length_singleton, Int.pow_succ, Int.mul_comm (WW ^ o.length) WW]
            refine alg_w (T := vl HH (h.drop i)) h5 ?_
            rw [vl1 h i (by omega), List.drop_of_length_le (by omega)]
            simp [vl])
        refine ⟨r, ?_, h8⟩
        refine Ev.step (fun k => by rw [isochroneref01_Words.l1]) ?_
        have ew : rd h i % 4294967296 = rd h i := by omega
        rw [wsucc (i := i) (by omega), ew, ei2, w64 (x := ((i + 2 : Nat) : Int)) (by omega) (by omega)]
        exact evp (by omega) (evp (by omega) (evn (by omega) (evp (by omega) h7)))
    · rw [List.drop_of_length_le (by omega)] at h5
      refine ⟨o, ?_, h3, h4 (by omega), by simpa [vl] using h5⟩
      refine Ev.step (fun k => by rw [isochroneref01_Words.l1]) ?_
      exact evn (by omega) (evs _)
theorem alg_h {vh P m q r K n : Int} (h : vh + m * P = n) (h2 : q * K + r = m) : (vh + r * P) + q * (K * P) = n := by grind
theorem r_Words_in (n : Int) (c : Nat) : ∀ (a h : List Int) (m : Int), m.toNat = c → Can RR a m → a.length + h.length < 17179869184 → h.length + 4 * a.length < 17179869184 → Dg HH h → (m = 0 → Nm h) → vl HH h + m * HH ^ h.length = n → (∀ a' : List Int, a'.length ≤ a.length → True) →
    ∃ r, Ev (fun k => isochroneref01_Words.l0 k a h) r ∧ Can WW r n := by
  induction c using Nat.strongRecOn with
  | _ c ih =>
    intro a h m hm ha hl hl2 hd hnm hv _
    have hm0 := ha.nonneg RR_pos
    by_cases hz : m = 0
    · have e : a = [] := (ha.nil_iff RR_pos).2 hz
      subst hz
      subst e
      rw [Int.zero_mul, Int.add_zero] at hv
      obtain ⟨r, h1, h2⟩ := r_Words_out (by omega) hd (hnm rfl) n h.length 0 [] (by omega) rfl (Dg.nil _) (fun _ => Nm.nil) (by simpa [vl] using hv)
      refine ⟨r, ?_, h2⟩
      refine Ev.step (fun k => by rw [isochroneref01_Words.l0]) ?_
      exact evn (by simp) h1
    · have hal : a.length ≠ 0 := fun h0 => hz ((ha.len_iff RR_pos).1 h0)
      obtain ⟨q, h1, h2, h3⟩ := r_Split_sp (K := 65536) (by omega) ha (by omega)
      have hq : q.length + 1 ≤ a.length := by
        have h4 := ha.lt RR_pos
        have h5 : m / 65536 < RR ^ (a.length - 1) := by
          have h6 : RR ^ a.length = RR ^ (a.length - 1) * RR := by
            conv => lhs; rw [show a.length = a.length - 1 + 1 by omega, Int.pow_succ]
          rw [h6, RR_eq] at h4
          rw [RR_eq]
          omega
        have := h2.len_le RR_one h5
        omega
      obtain ⟨r, h7, h8⟩ := ih (m / 65536).toNat (by omega) q (h ++ [m % 65536]) (m / 65536) rfl h2 (by simp; omega) (by simp; omega) (hd.append (Dg.mk (by omega) (by rw [HH_eq]; omega) (Dg.nil _)))
        (by
          intro hz2 hne
          rw [getLast_snoc]
          omega)
        (by rw [vl_snoc, List.length_append, List.length_singleton, Int.pow_succ, Int.mul_comm (HH ^ h.length) HH]; exact alg_h hv (by rw [HH_eq]; omega)) (fun _ _ => trivial)
      refine ⟨r, ?_, h8⟩
      refine Ev.step (fun k => by rw [isochroneref01_Words.l0]) ?_
      exact evp (by omega) (Ev.bind h1 (evp (by omega) h7))
theorem r_Words_sp {a : List Int} {n : Int} (hn : a.length < 1073741824) (ha : Can RR a n) : ∃ r, Ev (fun k => isochroneref01_Words.f k a) r ∧ Can WW r n := by
  obtain ⟨r, h1, h2⟩ := r_Words_in n n.toNat a [] n rfl ha (by simp; omega) (by simp; omega) (Dg.nil _) (fun _ => Nm.nil) (by simp [vl]) (fun _ _ => trivial)
  exact ⟨r, Ev.congr (fun k => by rw [isochroneref01_Words.f]) h1, h2⟩
theorem eq_ev {a b : List Int} (hl : a.length = b.length) (hn : a.length < 4611686018427387904) (d : Nat) : ∀ i : Nat, a.length - i = d → i ≤ a.length → a.take i = b.take i → ∃ r, Ev (fun k => slices_Equal_uint32_uint32.l0 k a b (a.length : Int) (i : Int)) r ∧ (r = true ↔ a = b) := by
  induction d with
  | zero =>
    intro i h1 h2 h3
    have e : i = a.length := by omega
    subst e
    rw [List.take_length, List.take_of_length_le (by omega)] at h3
    refine ⟨true, ?_, by simp [h3]⟩
    refine Ev.step (fun k => by rw [slices_Equal_uint32_uint32.l0]) ?_
    exact evn (by omega) (evs _)
  | succ d ih =>
    intro i h1 h2 h3
    by_cases he : rd a i = rd b i
    · obtain ⟨r, h4, h5⟩ := ih (i + 1) (by omega) (by omega) (by
        rw [List.take_succ_eq_append_getElem (by omega), List.take_succ_eq_append_getElem (by omega), h3, ← rd_lt a i (by omega), ← rd_lt b i (by omega), he])
      refine ⟨r, ?_, h5⟩
      refine Ev.step (fun k => by rw [slices_Equal_uint32_uint32.l0]) ?_
      rw [wsucc (i := i) (by omega)]
      exact evp (by omega) (evp (by omega) (evp (by omega) (evp (by omega) (evp he h4))))
    · refine ⟨false, ?_, by
        simp only [Bool.false_eq_true, false_iff]
        rintro rfl
        exact he rfl⟩
      refine Ev.step (fun k => by rw [slices_Equal_uint32_uint32.l0]) ?_
      exact evp (by omega) (evp (by omega) (evp (by omega) (evp (by omega) (evn he (evs _)))))
theorem eq_sp (a b : List Int) (hn : a.length < 4611686018427387904) : ∃ r, Ev (fun k => slices_Equal_uint32_uint32.f k a b) r ∧ (r = true ↔ a = b) := by
  unfold slices_Equal_uint32_uint32.f
  by_cases hl : a.length = b.length
  · obtain ⟨r, h1, h2⟩ := eq_ev hl hn a.length 0 (by omega) (by omega) (by simp)
    exact ⟨r, evp (by omega) h1, h2⟩
  · refine ⟨false, evn (by omega) (evs _), ?_⟩
    simp only [Bool.false_eq_true, false_iff]
    rintro rfl
    exact hl rfl
theorem valid_sp (l : List Int) (hl : l.length < 4611686018427387904) : ∃ b, isochroneref01_Valid.f l = some b ∧ nat_Valid.f l = some b ∧ (b = true ↔ l.length ≤ 4096 ∧ Nm l) := by
  unfold isochroneref01_Valid.f nat_Valid.f
  by_cases h1 : l.length ≤ 4096
  · by_cases h0 : l.length = 0
    · refine ⟨true, by rw [if_pos (by omega), if_pos (by omega)], by rw [if_pos (by omega), if_pos (by omega)], ?_⟩
      have : l = [] := List.eq_nil_of_length_eq_zero h0
      subst this
      simp
      exact Nm.nil
    · have e : wrap64 ((l.length : Int) - 1) = (l.length : Int) - 1 := w64 (by omega) (by omega)
      rw [e, if_pos (by omega), if_neg (by omega), if_pos (by omega), if_pos (by omega)]
      refine ⟨_, rfl, rfl, ?_⟩
      simp only [bne_iff_ne]
      constructor
      · intro h
        exact ⟨h1, nm_of_rd (fun _ => h)⟩
      · intro h
        exact h.2.rd (by omega)
  · refine ⟨false, by rw [if_neg (by omega)], by rw [if_neg (by omega)], ?_⟩
    simp
    omega
end Go.Proofs.Ytfpolhoabfadnaa.P
end
section
namespace Go.Proofs.Ytfpolhoabfadnaa.P
open Go.RowKit Go.Proofs.YtfpolhoabfadnaaW.PrintWords Go.Proofs.YtfpolhoabfadnaaW.PrintLast Go.Proofs.YtfpolhoabfadnaaW.PrintMore
set_option linter.unusedVariables false
theorem or_comm' (k : IntKind) (a b : Int) : Go.bits .or k a b = Go.bits .or k b a := by
  simp only [Go.bits]
  rw [BitVec.or_comm]
theorem or64 {h x : Int} (hh : 0 ≤ h ∧ h < 4294967296) (hx : 0 ≤ x ∧ x < 4294967296) : Go.bits .or .u64 (h * 4294967296) x = h * 4294967296 + x :=
  bits_join .u64 64 (by decide) (fun n h0 h1 => by rw [IntKind.wrap_u64]; omega) 32 _ _ (by omega) (by omega) (by omega) hx.1 (by omega) (by omega)
theorem or64' {h x : Int} (hh : 0 ≤ h ∧ h < 4294967296) (hx : 0 ≤ x ∧ x < 4294967296) : Go.bits .or .u64 x (h * 4294967296) = h * 4294967296 + x := by
  rw [or_comm', or64 hh hx]
theorem alg_dw {t r va q rr d R K : Int} (h : t * K + r = va) (h2 : q * K + rr = r * R + d) : (q + R * t) * K + rr = d + R * va := by grind
theorem mag_divWord_ev {a : List Int} (hn : a.length < 68719476736) (ha : Dg WW a) {K : Int} (hK : 1 ≤ K ∧ K < 4294967296) (d : Nat) : ∀ (i : Nat) (o : List Int) (r : Int), i = d → i ≤ a.length → o.length = a.length → Dg WW (o.drop i) → 0 ≤ r → r < K → vl WW (o.drop i) * K + r = vl WW (a.drop i) →
    ∃ q z, Ev (fun k => mag_divWord.l0 k a K o r ((i : Int) - 1)) (q, z) ∧ (∃ m, Can WW q m ∧ m * K + z = vl WW a) ∧ 0 ≤ z ∧ z < K ∧ q.length ≤ a.length := by
  induction d with
  | zero =>
    rintro i o r rfl h1 h2 h3 h4 h5 h6
    rw [List.drop_zero] at h3 h6
    rw [List.drop_zero] at h6
    obtain ⟨q, h7, h8, h9⟩ := mag_Trim_sp (l := o) (by omega) h3
    have er : r % 4294967296 = r := by omega
    refine ⟨q, r, ?_, ⟨_, h8, h6⟩, h4, h5, by omega⟩
    refine Ev.step (fun k => by rw [mag_divWord.l0]) ?_
    rw [er]
    exact evn (by omega) (Ev.bind h7 (evs _))
  | succ d ih =>
    rintro i o r rfl h1 h2 h3 h4 h5 h6
    have e1 : (((d + 1 : Nat) : Int) - 1) = (d : Int) := by omega
    have hx := dg_rd ha (d : Int) (by omega) (by omega)
    rw [WW_eq] at hx
    have hv0 : 0 ≤ r * 4294967296 + rd a d := by omega
    have hq0 : 0 ≤ (r * 4294967296 + rd a d) / K := Int.ediv_nonneg hv0 (by omega)
    have hq1 : (r * 4294967296 + rd a d) / K < 4294967296 := by
      refine Int.ediv_lt_of_lt_mul (by omega) ?_
      have : (r + 1) * 4294967296 ≤ K * 4294967296 := Int.mul_le_mul_of_nonneg_right (by omega) (by omega)
      omega
    have hm0 := Int.emod_nonneg (r * 4294967296 + rd a d) (show K ≠ 0 by omega)
    have hm1 := Int.emod_lt_of_pos (r * 4294967296 + rd a d) (show 0 < K by omega)
    have hdv : (r * 4294967296 + rd a d) / K * K + (r * 4294967296 + rd a d) % K = r * WW + rd a d := by rw [WW_eq]; exact Int.ediv_mul_add_emod _ _
    obtain ⟨q, z, h7, h8⟩ := ih d (o.set d ((r * 4294967296 + rd a d) / K)) ((r * 4294967296 + rd a d) % K) rfl (by omega) (by simpa using h2)
      (by rw [drop_set_self _ _ _ (by omega)]; exact Dg.mk hq0 (by rw [WW_eq]; exact hq1) h3) hm0 hm1
      (by rw [drop_set_self _ _ _ (by omega), drop_rd a d (by omega), vl, vl]; exact alg_dw h6 hdv)
    refine ⟨q, z, ?_, h8⟩
    refine Ev.step (fun k => by rw [mag_divWord.l0]) ?_
    rw [e1, u64 (x := r * 4294967296) (by omega) (by omega), u64 (x := rd a d) (by omega) (by omega), u64 (x := K) (by omega) (by omega), or64 ⟨h4, by omega⟩ hx, tdiv_nn hv0, tmod_nn hv0, u64 (x := (r * 4294967296 + rd a d) / K) (by omega) (by omega), w64 (x := (d : Int) - 1) (by omega) (by omega), Int.toNat_natCast, Int.emod_eq_of_lt hq0 hq1]
    exact evp (by omega) (evp (by omega) (evp (by omega) (evn (by omega) (evp (by omega) h7))))
theorem mag_divWord_sp {a : List Int} {n K : Int} (hn : a.length < 68719476736) (ha : Can WW a n) (hK : 1 ≤ K ∧ K < 4294967296) : ∃ q, Ev (fun k => mag_divWord.f k a K) (q, n % K) ∧ Can WW q (n / K) ∧ q.length ≤ a.length := by
  obtain ⟨q, z, h1, ⟨m, h2, h3⟩, h4, h5, h6⟩ := mag_divWord_ev hn ha.1 hK a.length a.length (List.replicate a.length 0) 0 rfl (Nat.le_refl _) (by simp) (by rw [List.drop_eq_nil_of_le (by simp)]; exact Dg.nil _) (by omega) (by omega) (by rw [List.drop_eq_nil_of_le (by simp), List.drop_length]; simp [vl])
  rw [ha.2.2] at h3
  have e1 : n / K = m := by
    rw [← h3, Int.add_comm, Int.add_mul_ediv_right _ _ (by omega), Int.ediv_eq_zero_of_lt h4 h5]; omega
  have e2 : n % K = z := by
    rw [← h3, Int.add_comm, Int.add_mul_emod_self_right, Int.emod_eq_of_lt h4 h5]
  refine ⟨q, ?_, by rw [e1]; exact h2, h6⟩
  unfold mag_divWord.f
  rw [e2, w64 (x := (a.length : Int) - 1) (by omega) (by omega), Int.toNat_natCast]
  exact evp (by omega) (evp (by omega) h1)
theorem tab_len : ∀ i : Fin 256, ∃ L : Fin 9, bt (⟨#[0, 1, 2, 2, 3, 3, 3, 3, 4, 4, 4, 4, 4, 4, 4, 4, 5, 5, 5, 5, 5, 5, 5, 5, 5, 5, 5, 5, 5, 5, 5, 5, 6, 6, 6, 6, 6, 6, 6, 6, 6, 6, 6, 6, 6, 6, 6, 6, 6, 6, 6, 6, 6, 6, 6, 6, 6, 6, 6, 6, 6, 6, 6, 6, 7, 7, 7, 7, 7, 7, 7, 7, 7, 7, 7, 7, 7, 7, 7, 7, 7, 7, 7, 7, 7, 7, 7, 7, 7, 7, 7, 7, 7, 7, 7, 7, 7, 7, 7, 7, 7, 7, 7, 7, 7, 7, 7, 7, 7, 7, 7, 7, 7, 7, 7, 7, 7, 7, 7, 7, 7, 7, 7, 7, 7, 7, 7, 7, 8, 8, 8, 8, 8, 8, 8, 8, 8, 8, 8, 8, 8, 8, 8, 8, 8, 8, 8, 8, 8, 8, 8, 8, 8, 8, 8, 8, 8, 8, 8, 8, 8, 8, 8, 8, 8, 8, 8, 8, 8, 8, 8, 8, 8, 8, 8, 8, 8, 8, 8, 8, 8, 8, 8, 8, 8, 8, 8, 8, 8, 8, 8, 8, 8, 8, 8, 8, 8, 8, 8, 8, 8, 8, 8, 8, 8, 8, 8, 8, 8, 8, 8, 8, 8, 8, 8, 8, 8, 8, 8, 8, 8, 8, 8, 8, 8, 8, 8, 8, 8, 8, 8, 8, 8, 8, 8, 8, 8, 8, 8, 8, 8, 8, 8, 8, 8, 8, 8, 8, 8, 8, 8, 8, 8, 8, 8, 8]⟩ : ByteArray) ((i.val : Nat) : Int) = (L.val : Int) ∧ i.val < 2 ^ L.val ∧ (i.val ≠ 0 → 2 ^ (L.val - 1) ≤ i.val ∧ 1 ≤ L.val) := by decide +kernel
theorem tab_len' {x : Int} (h0 : 0 ≤ x) (h1 : x < 256) : ∃ L : Nat, bt (⟨#[0, 1, 2, 2, 3, 3, 3, 3, 4, 4, 4, 4, 4, 4, 4, 4, 5, 5, 5, 5, 5, 5, 5, 5, 5, 5, 5, 5, 5, 5, 5, 5, 6, 6, 6, 6, 6, 6, 6, 6, 6, 6, 6, 6, 6, 6, 6, 6, 6, 6, 6, 6, 6, 6, 6, 6, 6, 6, 6, 6, 6, 6, 6, 6, 7, 7, 7, 7, 7, 7, 7, 7, 7, 7, 7, 7, 7, 7, 7, 7, 7, 7, 7, 7, 7, 7, 7, 7, 7, 7, 7, 7, 7, 7, 7, 7, 7, 7, 7, 7, 7, 7, 7, 7, 7, 7, 7, 7, 7, 7, 7, 7, 7, 7, 7, 7, 7, 7, 7, 7, 7, 7, 7, 7, 7, 7, 7, 7, 8, 8, 8, 8, 8, 8, 8, 8, 8, 8, 8, 8, 8, 8, 8, 8, 8, 8, 8, 8, 8, 8, 8, 8, 8, 8, 8, 8, 8, 8, 8, 8, 8, 8, 8, 8, 8, 8, 8, 8, 8, 8, 8, 8, 8, 8, 8, 8, 8, 8, 8, 8, 8, 8, 8, 8, 8, 8, 8, 8, 8, 8, 8, 8, 8, 8, 8, 8, 8, 8, 8, 8, 8, 8, 8, 8, 8, 8, 8, 8, 8, 8, 8, 8, 8, 8, 8, 8, 8, 8, 8, 8, 8, 8, 8, 8, 8, 8, 8, 8, 8, 8, 8, 8, 8, 8, 8, 8, 8, 8, 8, 8, 8, 8, 8, 8, 8, 8, 8, 8, 8, 8, 8, 8, 8, 8, 8, 8]⟩ : ByteArray) x = (L : Int) ∧ L ≤ 8 ∧ x < 2 ^ L ∧ (x ≠ 0 → 2 ^ (L - 1) ≤ x ∧ 1 ≤ L) := by
  obtain ⟨n, rfl⟩ := Int.eq_ofNat_of_zero_le h0
  obtain ⟨L, h2, h3, h4⟩ := tab_len ⟨n, by omega⟩
  refine ⟨L.val, h2, by omega, by exact_mod_cast h3, fun h => ?_⟩
  obtain ⟨h5, h6⟩ := h4 (show n ≠ 0 by omega)
  exact ⟨by exact_mod_cast h5, h6⟩
theorem sh_pow {x y : Int} {L k : Nat} (h0 : 0 ≤ x) (e : y = x / 2 ^ k) (h1 : y < 2 ^ L) (h2 : 2 ^ (L - 1) ≤ y) (h3 : 1 ≤ L) : x < 2 ^ (k + L) ∧ 2 ^ (k + L - 1) ≤ x := by
  have hp : (0 : Int) < 2 ^ k := Int.pow_pos (by decide)
  have d1 := Int.mul_ediv_add_emod x (2 ^ k)
  have d2 := Int.emod_nonneg x (show (2 : Int) ^ k ≠ 0 by omega)
  have d3 := Int.emod_lt_of_pos x hp
  rw [← e] at d1
  have e2 : k + L - 1 = k + (L - 1) := by omega
  rw [e2, Int.pow_add, Int.pow_add]
  have m1 : (2 : Int) ^ k * (y + 1) ≤ 2 ^ k * 2 ^ L := Int.mul_le_mul_of_nonneg_left (by omega) (by omega)
  have m2 : (2 : Int) ^ k * 2 ^ (L - 1) ≤ 2 ^ k * y := Int.mul_le_mul_of_nonneg_left h2 (by omega)
  rw [Int.mul_add] at m1
  omega
theorem len32_sp {x : Int} (h0 : 0 ≤ x) (h1 : x < 4294967296) : ∃ L : Nat, bits_Len32.f x = some (L : Int) ∧ L ≤ 32 ∧ x < 2 ^ L ∧ (x ≠ 0 → 2 ^ (L - 1) ≤ x ∧ 1 ≤ L) := by
  unfold bits_Len32.f
  by_cases c1 : x ≥ 65536
  · by_cases c2 : x / 65536 ≥ 256
    · have e : x / 65536 / 256 % 256 = x / 2 ^ 24 := by omega
      obtain ⟨L, t1, t2, t3, t4⟩ := tab_len' (x := x / 2 ^ 24) (by omega) (by omega)
      obtain ⟨t5, t6⟩ := t4 (by omega)
      obtain ⟨t7, t8⟩ := sh_pow h0 rfl t3 t5 t6
      refine ⟨24 + L, ?_, by omega, t7, fun _ => ⟨t8, by omega⟩⟩
      rw [if_pos c1, if_pos c2, e, if_pos (by omega), if_pos (by omega), t1, w64 (x := (L : Int)) (by omega) (by omega), w64 (by omega) (by omega)]
      exact congrArg some (by omega)
    · have e : x / 65536 % 256 = x / 2 ^ 16 := by omega
      obtain ⟨L, t1, t2, t3, t4⟩ := tab_len' (x := x / 2 ^ 16) (by omega) (by omega)
      obtain ⟨t5, t6⟩ := t4 (by omega)
      obtain ⟨t7, t8⟩ := sh_pow h0 rfl t3 t5 t6
      refine ⟨16 + L, ?_, by omega, t7, fun _ => ⟨t8, by omega⟩⟩
      rw [if_pos c1, if_neg c2, e, if_pos (by omega), if_pos (by omega), t1, w64 (x := (L : Int)) (by omega) (by omega), w64 (by omega) (by omega)]
      exact congrArg some (by omega)
  · by_cases c2 : x ≥ 256
    · have e : x / 256 % 256 = x / 2 ^ 8 := by omega
      obtain ⟨L, t1, t2, t3, t4⟩ := tab_len' (x := x / 2 ^ 8) (by omega) (by omega)
      obtain ⟨t5, t6⟩ := t4 (by omega)
      obtain ⟨t7, t8⟩ := sh_pow h0 rfl t3 t5 t6
      refine ⟨8 + L, ?_, by omega, t7, fun _ => ⟨t8, by omega⟩⟩
      rw [if_neg c1, if_pos c2, e, if_pos (by omega), if_pos (by omega), t1, w64 (x := (L : Int)) (by omega) (by omega), w64 (by omega) (by omega)]
      exact congrArg some (by omega)
    · have e : x % 256 = x := by omega
      obtain ⟨L, t1, t2, t3, t4⟩ := tab_len' (x := x) (by omega) (by omega)
      refine ⟨L, ?_, by omega, t3, t4⟩
      rw [if_neg c1, if_neg c2, e, if_pos (by omega), if_pos (by omega), t1, w64 (x := (L : Int)) (by omega) (by omega), w64 (by omega) (by omega)]
      exact congrArg some (by omega)
theorem lz32_sp {x : Int} (h0 : 0 ≤ x) (h1 : x < 4294967296) : ∃ L : Nat, bits_LeadingZeros32.f x = some ((32 - L : Nat) : Int) ∧ L ≤ 32 ∧ x < 2 ^ L ∧ (x ≠ 0 → 2 ^ (L - 1) ≤ x ∧ 1 ≤ L) := by
  obtain ⟨L, t1, t2, t3⟩ := len32_sp h0 h1
  refine ⟨L, ?_, t2, t3⟩
  unfold bits_LeadingZeros32.f
  rw [t1, Option.bind_some, w64 (by omega) (by omega)]
  exact congrArg some (by omega)
theorem WW_pow (w : Nat) : WW ^ w = 2 ^ (32 * w) := by rw [Int.pow_mul]; rfl
theorem pow_split (s : Nat) : (2 : Int) ^ s = WW ^ (s / 32) * 2 ^ (s % 32) := by
  rw [WW_pow, ← Int.pow_add]; congr 1; omega
theorem last_vl {a : List Int} (h : 0 < a.length) : vl WW a = vl WW (a.take (a.length - 1)) + rd a ((a.length : Int) - 1) * WW ^ (a.length - 1) := by
  have e := vl_take WW a (a.length - 1) (by omega)
  rw [Nat.sub_add_cancel h, List.take_length] at e
  rw [e]
  congr 2
  congr 1
  omega
theorem mag_Bits_sp {a : List Int} {n : Int} (hn : a.length < 68719476736) (ha : Can WW a n) : ∃ b : Nat, mag_Bits.f a = some (b : Int) ∧ b ≤ 32 * a.length ∧ (a.length = 0 → b = 0) ∧ (n ≠ 0 → 2 ^ (b - 1) ≤ n ∧ n < 2 ^ b ∧ 1 ≤ b ∧ 32 * (a.length - 1) < b) := by
  unfold mag_Bits.f
  by_cases c : a.length = 0
  · refine ⟨0, by rw [if_pos (by omega)]; rfl, by omega, fun _ => rfl, fun h => absurd ((ha.len_iff WW_pos).1 c) h⟩
  · have hx := dg_rd ha.1 ((a.length : Int) - 1) (by omega) (by omega)
    have hnz := ha.2.1.rd (by omega)
    rw [WW_eq] at hx
    obtain ⟨L, t1, t2, t3, t4⟩ := lz32_sp hx.1 hx.2
    obtain ⟨t5, t6⟩ := t4 hnz
    refine ⟨32 * a.length - (32 - L), ?_, by omega, fun h => absurd h c, fun _ => ?_⟩
    · rw [if_neg (by omega), w64 (x := (a.length : Int) - 1) (by omega) (by omega), if_pos (by omega), if_pos (by omega), t1, Option.bind_some, w64 (x := 32 * (a.length : Int)) (by omega) (by omega), w64 (by omega) (by omega)]
      congr 1
      omega
    · have lv := last_vl (a := a) (by omega)
      rw [ha.2.2] at lv
      have hd := ha.1.take (a.length - 1)
      have l0 := vl_nonneg WW_pos hd
      have l1 := vl_lt WW_pos hd
      rw [List.length_take, Nat.min_eq_left (by omega)] at l1
      have hP : (0 : Int) < WW ^ (a.length - 1) := pow_pos' WW_pos _
      generalize hr : rd a ((a.length : Int) - 1) = r at *
      have e1 : (2 : Int) ^ (32 * a.length - (32 - L)) = 2 ^ L * WW ^ (a.length - 1) := by rw [WW_pow, ← Int.pow_add]; congr 1; omega
      have e2 : (2 : Int) ^ (32 * a.length - (32 - L) - 1) = 2 ^ (L - 1) * WW ^ (a.length - 1) := by rw [WW_pow, ← Int.pow_add]; congr 1; omega
      have m1 : (r + 1) * WW ^ (a.length - 1) ≤ 2 ^ L * WW ^ (a.length - 1) := Int.mul_le_mul_of_nonneg_right (by omega) (by omega)
      have m2 : 2 ^ (L - 1) * WW ^ (a.length - 1) ≤ r * WW ^ (a.length - 1) := Int.mul_le_mul_of_nonneg_right t5 (by omega)
      rw [Int.add_mul] at m1
      rw [e1, e2]
      exact ⟨by omega, by omega, by omega, by omega⟩
theorem shl_p {x : Int} {p : Nat} (hp : p < 32) (hx : 0 ≤ x ∧ x < 4294967296) : shl .u64 (IntKind.u64.wrap x) (p : Int) = x * 2 ^ p ∧ 0 ≤ x * 2 ^ p ∧ x * 2 ^ p < 4294967296 * 2 ^ p ∧ (2 : Int) ^ p ≤ 2147483648 ∧ (1 : Int) ≤ 2 ^ p := by
  have h1 : (1 : Int) ≤ 2 ^ p := by have : (0 : Int) < 2 ^ p := Int.pow_pos (by decide); omega
  have h2 : (2 : Int) ^ p ≤ 2 ^ 31 := by
    have : 2 ^ p ≤ 2 ^ 31 := Nat.pow_le_pow_right (by decide) (by omega)
    exact_mod_cast this
  have h3 : x * 2 ^ p < 4294967296 * 2 ^ p := Int.mul_lt_mul_of_pos_right hx.2 (by omega)
  have h4 : 0 ≤ x * 2 ^ p := Int.mul_nonneg hx.1 (by omega)
  refine ⟨?_, h4, h3, by omega, h1⟩
  have hm : min p IntKind.u64.bits = p := by
    have : IntKind.u64.bits = 64 := rfl
    omega
  unfold shl
  rw [Int.toNat_natCast, hm, u64 (x := x) (by omega) (by omega), u64 h4 (by omega)]
theorem alg_shl {vo P old lo hi va x M W T Q : Int} (h : vo + old * P = va * M * T) (hy : lo + W * hi = x * M) (hP : P = T * Q) : (vo + (old + lo) * P) + hi * (W * P) = (va + x * Q) * M * T := by grind
theorem or_shl {x old : Int} {p : Nat} (hp : p < 32) (hx : 0 ≤ x ∧ x < 4294967296) (ho : 0 ≤ old ∧ old < 2 ^ p) : Go.bits .or .u32 old (x * 2 ^ p % 4294967296) = old + x * 2 ^ p % 4294967296 := by
  obtain ⟨_, h1, h2, h3, h4⟩ := shl_p hp hx
  have hd : x * 2 ^ p % 4294967296 % 2 ^ p = 0 := by
    have hdv : (2 : Int) ^ p ∣ 4294967296 := by
      have : (4294967296 : Int) = 2 ^ p * 2 ^ (32 - p) := by rw [← Int.pow_add, show p + (32 - p) = 32 by omega]; rfl
      rw [this]; exact Int.dvd_mul_right _ _
    rw [Int.emod_emod_of_dvd _ hdv, Int.mul_emod_left]
  rw [or_comm', bits_join .u32 32 (by decide) (fun n h0 h1 => by rw [IntKind.wrap_u32]; omega) p _ _ (by omega) hd (by omega) ho.1 ho.2 (by omega)]
  omega
theorem or_shl_lt {x old : Int} {p : Nat} (hp : p < 32) (hx : 0 ≤ x ∧ x < 4294967296) (ho : 0 ≤ old ∧ old < 2 ^ p) : old + x * 2 ^ p % 4294967296 < 4294967296 := by
  have h := (bits_within .or .u32 old (x * 2 ^ p % 4294967296)).2
  rw [or_shl hp hx ho] at h
  have e : IntKind.u32.max = 4294967295 := rfl
  rw [e] at h
  exact Int.lt_of_le_of_lt h (by decide)
theorem mag_Shl_ev {a : List Int} {w p : Nat} (hn : a.length + w < 68719476736) (hp : p < 32) (ha : Dg WW a) (d : Nat) : ∀ (i : Nat) (o : List Int), a.length - i = d → i ≤ a.length → o.length = a.length + w + 1 → Dg WW o → vl WW (o.take (i + w + 1)) = vl WW (a.take i) * 2 ^ p * WW ^ w → rd o ((i + w : Nat) : Int) < 2 ^ p →
    ∃ r, Ev (fun k => mag_Shl.l0 k (w : Int) (p : Int) o a (a.length : Int) (i : Int)) r ∧ Can WW r (vl WW a * (WW ^ w * 2 ^ p)) ∧ r.length ≤ a.length + w + 1 := by
  induction d with
  | zero =>
    intro i o h1 h2 h3 h4 h5 h6
    have ei : i = a.length := by omega
    subst ei
    rw [← h3, List.take_length, List.take_length] at h5
    obtain ⟨r, r1, r2, r3⟩ := mag_Trim_sp (l := o) (by omega) h4
    rw [h5] at r2
    refine ⟨r, ?_, by rw [Int.mul_comm (WW ^ w), ← Int.mul_assoc]; exact r2, by omega⟩
    refine Ev.step (fun k => by rw [mag_Shl.l0]) ?_
    exact evn (by omega) (Ev.bind r1 (evs _))
  | succ d ih =>
    intro i o h1 h2 h3 h4 h5 h6
    have hx := dg_rd ha (i : Int) (by omega) (by omega)
    have ho := dg_rd h4 ((i + w : Nat) : Int) (by omega) (by omega)
    rw [WW_eq] at hx ho
    obtain ⟨s2, s3, s4, s5⟩ := (shl_p hp hx).2
    have hy1 : rd a (i : Int) * 2 ^ p % 4294967296 + WW * (rd a (i : Int) * 2 ^ p / 4294967296) = rd a (i : Int) * 2 ^ p := by rw [WW_eq]; exact Int.emod_add_mul_ediv _ _
    have hhi0 : 0 ≤ rd a (i : Int) * 2 ^ p / 4294967296 := by omega
    have hhi1 : rd a (i : Int) * 2 ^ p / 4294967296 < 2 ^ p := Int.ediv_lt_of_lt_mul (by omega) (by omega)
    have hdv := or_shl_lt hp hx ⟨ho.1, h6⟩
    generalize hlo : rd a (i : Int) * 2 ^ p % 4294967296 = lo at *
    generalize hhi : rd a (i : Int) * 2 ^ p / 4294967296 = hi at *
    have hlo0 : 0 ≤ lo := by omega
    have d1 : Dg WW (o.set (i + w) (rd o ((i + w : Nat) : Int) + lo)) := h4.set _ (by omega) (by rw [WW_eq]; omega)
    obtain ⟨r, r1, r2⟩ := ih (i + 1) ((o.set (i + w) (rd o ((i + w : Nat) : Int) + lo)).set (i + w + 1) hi) (by omega) (by omega) (by simpa using h3)
      (d1.set _ hhi0 (by rw [WW_eq]; omega))
      (by
        rw [show i + 1 + w + 1 = i + w + 1 + 1 by omega, vl_set _ _ _ _ (by simp; omega), vl_set _ _ _ _ (by omega), vl_take WW a i (by omega), Int.pow_succ, Int.mul_comm (WW ^ (i + w)) WW]
        rw [vl_take WW o (i + w) (by omega)] at h5
        exact alg_shl h5 hy1 (by rw [Int.pow_add, Int.mul_comm]))
      (by
        rw [show ((i + 1 + w : Nat) : Int) = ((i + w + 1 : Nat) : Int) by omega]
        have := rd_set_eq (o.set (i + w) (rd o ((i + w : Nat) : Int) + lo)) ((i + w + 1 : Nat) : Int) hi (by simp; omega)
        rw [Int.toNat_natCast] at this
        rw [this]
        exact hhi1)
    refine ⟨r, ?_, r2⟩
    refine Ev.step (fun k => by rw [mag_Shl.l0]) ?_
    have e2 : hi % 4294967296 = hi := by omega
    rw [show (i : Int) + (w : Int) = ((i + w : Nat) : Int) by omega, w64 (x := ((i + w : Nat) : Int)) (by omega) (by omega), wsucc (i := i + w) (by omega), wsucc (i := i) (by omega), Int.toNat_natCast, Int.toNat_natCast, (shl_p hp hx).1, hlo, hhi, e2]
    have so := or_shl hp hx ⟨ho.1, h6⟩
    rw [hlo] at so
    rw [so]
    clear so
    exact evp (by omega) (evp (by omega) (evp (by omega) (evp (by omega) (evp (by omega) (evp (by omega) (evp (by omega) (evp (by omega) r1)))))))
theorem mag_Shl_sp {a : List Int} {n : Int} (s : Nat) (hn : a.length + s < 68719476736) (ha : Can WW a n) : ∃ r, Ev (fun k => mag_Shl.f k a (s : Int)) r ∧ Can WW r (n * 2 ^ s) ∧ r.length ≤ a.length + s / 32 + 1 := by
  unfold mag_Shl.f
  by_cases c : a.length = 0
  · refine ⟨[], evp (by omega) (evs _), ?_, by simp⟩
    rw [(ha.len_iff WW_pos).1 c, Int.zero_mul]
    exact Can.zero _
  · obtain ⟨r, r1, r2, r3⟩ := mag_Shl_ev (a := a) (w := s / 32) (p := s % 32) (by omega) (by omega) ha.1 a.length 0 (List.replicate (a.length + s / 32 + 1) 0) (by omega) (by omega) (by simp) (Dg.rep WW_pos _)
      (by rw [List.take_replicate, vl_rep, List.take_zero, vl]; simp)
      (by
        have h1 : (0 : Int) < 2 ^ (s % 32) := Int.pow_pos (by decide)
        have h2 : rd (List.replicate (a.length + s / 32 + 1) (0 : Int)) ((0 + s / 32 : Nat) : Int) = 0 := by
          rw [rd_lt _ _ (by simp; omega)]; simp
        rw [h2]; exact h1)
    rw [← pow_split, ha.2.2] at r2
    refine ⟨r, ?_, r2, r3⟩
    have e1 : wrap64 (Int.tdiv (s : Int) 32) = ((s / 32 : Nat) : Int) := by rw [tdiv_nn (by omega), w64 (by omega) (by omega)]; omega
    have e2 : IntKind.u64.wrap (Int.tmod (s : Int) 32) = ((s % 32 : Nat) : Int) := by rw [tmod_nn (by omega), u64 (by omega) (by omega)]; omega
    have e3 : wrap64 (wrap64 ((a.length : Int) + ((s / 32 : Nat) : Int)) + 1) = ((a.length + s / 32 + 1 : Nat) : Int) := by rw [w64 (x := (a.length : Int) + ((s / 32 : Nat) : Int)) (by omega) (by omega), w64 (by omega) (by omega)]; omega
    rw [e1, e2, e3, Int.toNat_natCast]
    exact evn (by omega) (evp (by omega) (evp (by omega) r1))
end Go.Proofs.Ytfpolhoabfadnaa.P
end
section
namespace Go.Proofs.Ytfpolhoabfadnaa.P
open Go.RowKit Go.Proofs.YtfpolhoabfadnaaW.PrintWords Go.Proofs.YtfpolhoabfadnaaW.PrintLast Go.Proofs.YtfpolhoabfadnaaW.PrintMore
set_option linter.unusedVariables false
theorem two_pos (p : Nat) : (0 : Int) < 2 ^ p := Int.pow_pos (by decide)
theorem shr_p {x : Int} {p : Nat} (hp : p < 32) : shr .u64 x (p : Int) = x / 2 ^ p := by
  have hm : min p IntKind.u64.bits = p := by
    have : IntKind.u64.bits = 64 := rfl
    omega
  unfold shr
  rw [Int.toNat_natCast, hm]
theorem WW_split {p : Nat} (hp : p < 32) : WW = 2 ^ p * 2 ^ (32 - p) := by rw [← Int.pow_add, show p + (32 - p) = 32 by omega]; rfl
theorem shr_word {x T t : Int} {p : Nat} (hp : p < 32) (hx : 0 ≤ x ∧ x < WW) (ht : 0 ≤ t ∧ t < WW) (hT : ∃ u, 0 ≤ u ∧ T = t + WW * u) :
    (t * WW + x) / 2 ^ p % WW + WW * (T / 2 ^ p) = (x + WW * T) / 2 ^ p ∧ 0 ≤ (t * WW + x) / 2 ^ p % WW ∧ (t * WW + x) / 2 ^ p % WW < WW := by
  obtain ⟨u, hu, hT⟩ := hT
  have hM := two_pos p
  have hW := WW_split hp
  have hK := two_pos (32 - p)
  have hWp := WW_pos
  have hWe := WW_eq
  generalize hMM : (2 : Int) ^ p = M at *
  generalize hKK : (2 : Int) ^ (32 - p) = K at *
  refine ⟨?_, Int.emod_nonneg _ (by omega), Int.emod_lt_of_pos _ hWp⟩
  have d1 := Int.mul_ediv_add_emod t M
  have r0 := Int.emod_nonneg t (show M ≠ 0 by omega)
  have r1 := Int.emod_lt_of_pos t hM
  generalize hq : t / M = q at *
  generalize hr : t % M = r at *
  clear hq hr
  have a1 : t * WW + x = (x + WW * r) + M * (WW * q) := by rw [← d1]; grind
  have a2 : T = r + M * (q + K * u) := by rw [hT, ← d1, hW]; grind
  have a3 : x + WW * T = (x + WW * r) + M * (WW * (q + K * u)) := by rw [a2]; grind
  have lo : 0 ≤ x + WW * r := by
    have := Int.mul_nonneg (Int.le_of_lt hWp) r0
    omega
  have hi : x + WW * r < M * WW := by
    have m : WW * (r + 1) ≤ WW * M := Int.mul_le_mul_of_nonneg_left (by omega) (by omega)
    rw [Int.mul_add, Int.mul_comm WW M] at m
    omega
  rw [a1, a3, Int.add_mul_ediv_left _ _ (by omega), Int.add_mul_ediv_left _ _ (by omega)]
  have e2 : T / M = q + K * u := by rw [a2, Int.add_mul_ediv_left _ _ (by omega), Int.ediv_eq_zero_of_lt r0 r1]; omega
  rw [e2]
  have b0 : 0 ≤ (x + WW * r) / M := Int.ediv_nonneg lo (by omega)
  have b1 : (x + WW * r) / M < WW := Int.ediv_lt_of_lt_mul hM (by rw [Int.mul_comm WW M]; exact hi)
  rw [Int.add_mul_emod_self_left, Int.emod_eq_of_lt b0 b1]
theorem alg_shr {vo P d T W V T0 : Int} (h : vo + P * T0 = V) (h2 : d + W * T = T0) : (vo + d * P) + (P * W) * T = V := by grind
theorem vl_dropd (a : List Int) (ha : Dg WW a) (i : Nat) : ∃ t, 0 ≤ t ∧ t < WW ∧ (∃ u, 0 ≤ u ∧ vl WW (a.drop i) = t + WW * u) ∧ (i < a.length → t = rd a (i : Int)) ∧ (a.length ≤ i → t = 0) := by
  by_cases c : i < a.length
  · have hx := dg_rd ha (i : Int) (by omega) (by omega)
    refine ⟨rd a (i : Int), hx.1, hx.2, ⟨vl WW (a.drop (i + 1)), vl_nonneg WW_pos (ha.drop _), by rw [drop_rd a i c, vl]⟩, fun _ => rfl, fun h => by omega⟩
  · exact ⟨0, by decide, by decide, ⟨0, by decide, by rw [List.drop_eq_nil_of_le (by omega), vl]; rfl⟩, fun h => absurd h c, fun _ => rfl⟩
theorem mag_Shr_ev {a : List Int} {w p m : Nat} (hn : a.length < 68719476736) (hw : w + m = a.length) (hp : p < 32) (ha : Dg WW a) (d : Nat) : ∀ (i : Nat) (o : List Int), m - i = d → i ≤ m → o.length = m → Dg WW (o.take i) → vl WW (o.take i) + WW ^ i * (vl WW (a.drop (i + w)) / 2 ^ p) = vl WW (a.drop w) / 2 ^ p →
    ∃ r, Ev (fun k => mag_Shr.l0 k a (w : Int) (p : Int) o (m : Int) (i : Int)) r ∧ Can WW r (vl WW (a.drop w) / 2 ^ p) ∧ r.length ≤ m := by
  induction d with
  | zero =>
    intro i o h1 h2 h3 h4 h5
    have ei : i = m := by omega
    subst ei
    rw [List.drop_eq_nil_of_le (by omega), vl, Int.zero_ediv, Int.mul_zero, Int.add_zero, ← h3, List.take_length] at h5
    rw [← h3, List.take_length] at h4
    obtain ⟨r, r1, r2, r3⟩ := mag_Trim_sp (l := o) (by omega) h4
    rw [h5] at r2
    refine ⟨r, ?_, r2, by omega⟩
    refine Ev.step (fun k => by rw [mag_Shr.l0]) ?_
    exact evn (by omega) (Ev.bind r1 (evs _))
  | succ d ih =>
    intro i o h1 h2 h3 h4 h5
    have hx := dg_rd ha ((i + w : Nat) : Int) (by omega) (by omega)
    obtain ⟨t, t0, t1, t2, t3, t4⟩ := vl_dropd a ha (i + w + 1)
    obtain ⟨s1, s2, s3⟩ := shr_word hp hx ⟨t0, t1⟩ t2
    rw [drop_rd a (i + w) (by omega), vl] at h5
    obtain ⟨r, r1, r2⟩ := ih (i + 1) (o.set i ((t * WW + rd a ((i + w : Nat) : Int)) / 2 ^ p % WW)) (by omega) (by omega) (by simpa using h3)
      (Dg.take_set (by omega) h4 s2 s3)
      (by
        rw [vl_set _ _ _ _ (by omega), show i + 1 + w = i + w + 1 by omega, Int.pow_succ]
        exact alg_shr h5 s1)
    refine ⟨r, ?_, r2⟩
    refine Ev.step (fun k => by rw [mag_Shr.l0]) ?_
    rw [WW_eq] at hx t1
    rw [show (i : Int) + (w : Int) = ((i + w : Nat) : Int) by omega, w64 (x := ((i + w : Nat) : Int)) (by omega) (by omega), wsucc (i := i + w) (by omega), wsucc (i := i) (by omega), Int.toNat_natCast]
    refine evp (by omega) (evp (by omega) (evp (by omega) ?_))
    by_cases c : i + w + 1 < a.length
    · have e := t3 c
      rw [← e, u64 (x := t) (by omega) (by omega), u64 (x := rd a ((i + w : Nat) : Int)) (by omega) (by omega), u64 (x := t * 4294967296) (by omega) (by omega), or64' ⟨t0, t1⟩ hx, shr_p (x := t * 4294967296 + rd a ((i + w : Nat) : Int)) hp]
      exact evp (by omega) (evp (by omega) (evp (by omega) (evp (by omega) (evp (by omega) r1))))
    · have e := t4 (by omega)
      subst e
      rw [Int.zero_mul, Int.zero_add] at r1
      rw [u64 (x := rd a ((i + w : Nat) : Int)) (by omega) (by omega), shr_p (x := rd a ((i + w : Nat) : Int)) hp]
      exact evn (by omega) (evp (by omega) (evp (by omega) (evp (by omega) r1)))
theorem can_shr {a : List Int} {n : Int} (ha : Can WW a n) (s : Nat) : (s / 32 < a.length → n / 2 ^ s = vl WW (a.drop (s / 32)) / 2 ^ (s % 32)) ∧ (a.length ≤ s / 32 → n / 2 ^ s = 0) := by
  have hP := pow_pos' WW_pos (s / 32)
  have hM := two_pos (s % 32)
  rw [pow_split s]
  constructor
  · intro h
    have hd := vl_drop WW a (s / 32) (by omega)
    rw [ha.2.2] at hd
    have l0 := vl_nonneg WW_pos (ha.1.take (s / 32))
    have l1 := vl_lt WW_pos (ha.1.take (s / 32))
    rw [List.length_take, Nat.min_eq_left (by omega)] at l1
    rw [hd, ← Int.ediv_ediv_of_nonneg (by omega), Int.add_mul_ediv_left _ _ (by omega), Int.ediv_eq_zero_of_lt l0 l1, Int.zero_add]
  · intro h
    have h1 := ha.lt WW_pos
    have h2 := pow_le (B := WW) (by decide) h
    refine Int.ediv_eq_zero_of_lt (ha.nonneg WW_pos) ?_
    have h3 : WW ^ (s / 32) * 1 ≤ WW ^ (s / 32) * 2 ^ (s % 32) := Int.mul_le_mul_of_nonneg_left (by omega) (by omega)
    omega
theorem mag_Shr_sp {a : List Int} {n : Int} (s : Nat) (hn : a.length < 68719476736) (hs : s < 68719476736) (ha : Can WW a n) : ∃ r, Ev (fun k => mag_Shr.f k a (s : Int)) r ∧ Can WW r (n / 2 ^ s) ∧ r.length ≤ a.length := by
  obtain ⟨c1, c2⟩ := can_shr ha s
  have e1 : wrap64 (Int.tdiv (s : Int) 32) = ((s / 32 : Nat) : Int) := by rw [tdiv_nn (by omega), w64 (by omega) (by omega)]; omega
  have e2 : IntKind.u64.wrap (Int.tmod (s : Int) 32) = ((s % 32 : Nat) : Int) := by rw [tmod_nn (by omega), u64 (by omega) (by omega)]; omega
  unfold mag_Shr.f
  rw [e1, e2]
  clear e1 e2
  by_cases c : a.length ≤ s / 32
  · refine ⟨[], evp (by omega) (evs _), ?_, by simp⟩
    rw [c2 c]
    exact Can.zero _
  · obtain ⟨r, r1, r2, r3⟩ := mag_Shr_ev (a := a) (w := s / 32) (p := s % 32) (m := a.length - s / 32) hn (by omega) (by omega) ha.1 (a.length - s / 32) 0 (List.replicate (a.length - s / 32) 0) (by omega) (by omega) (by simp) (by rw [List.take_zero]; exact Dg.nil _)
      (by rw [List.take_zero, vl, Int.pow_zero, Nat.zero_add]; omega)
    rw [← c1 (by omega)] at r2
    refine ⟨r, ?_, r2, by omega⟩
    rw [show (a.length : Int) - ((s / 32 : Nat) : Int) = ((a.length - s / 32 : Nat) : Int) by omega, w64 (x := ((a.length - s / 32 : Nat) : Int)) (by omega) (by omega), Int.toNat_natCast]
    refine evn (by omega) (evp (by omega) (evp (by omega) (evb rfl ?_)))
    rw [List.length_replicate]
    exact r1
end Go.Proofs.Ytfpolhoabfadnaa.P
end
section
namespace Go.Proofs.Ytfpolhoabfadnaa.P
open Go.RowKit Go.Proofs.YtfpolhoabfadnaaW.PrintWords Go.Proofs.YtfpolhoabfadnaaW.PrintLast Go.Proofs.YtfpolhoabfadnaaW.PrintMore
set_option linter.unusedVariables false
theorem sub_step {o c b g x : Int} (ho : 0 ≤ o ∧ o < 4294967296) (hc : 0 ≤ c ∧ c < 4294967296) (hb : 0 ≤ b ∧ b ≤ 1) (hg : 0 ≤ g ∧ g < 4294967296) (hx : 0 ≤ x ∧ x < 4294967296) :
    ∃ v c' b', IntKind.u64.wrap (c + IntKind.u64.wrap (g * IntKind.u64.wrap x)) / 4294967296 = c' ∧ IntKind.u64.wrap (IntKind.u64.wrap (IntKind.u64.wrap o - IntKind.u64.wrap (c + IntKind.u64.wrap (g * IntKind.u64.wrap x)) % 4294967296) - b) % 4294967296 = v ∧ IntKind.u64.wrap (IntKind.u64.wrap (IntKind.u64.wrap o - IntKind.u64.wrap (c + IntKind.u64.wrap (g * IntKind.u64.wrap x)) % 4294967296) - b) / 9223372036854775808 = b' ∧ v - 4294967296 * (c' + b') = o - (c + b) - g * x ∧ 0 ≤ v ∧ v < 4294967296 ∧ 0 ≤ c' ∧ c' < 4294967296 ∧ 0 ≤ b' ∧ b' ≤ 1 := by
  have hm := mul_bd hg hx
  rw [u64 (x := x) (by omega) (by omega), u64 (x := g * x) (by omega) (by omega), u64 (x := c + g * x) (by omega) (by omega), u64 (x := o) (by omega) (by omega), IntKind.wrap_u64, IntKind.wrap_u64]
  generalize g * x = t at *
  refine ⟨_, _, _, rfl, rfl, rfl, ?_, ?_, ?_, ?_, ?_, ?_, ?_⟩ <;> omega
theorem sub_last {o c b : Int} (ho : 0 ≤ o ∧ o < 4294967296) (hc : 0 ≤ c ∧ c < 4294967296) (hb : 0 ≤ b ∧ b ≤ 1) :
    ∃ v f, IntKind.u64.wrap (IntKind.u64.wrap (IntKind.u64.wrap o - c) - b) % 4294967296 = v ∧ (IntKind.u64.wrap (IntKind.u64.wrap (IntKind.u64.wrap o - c) - b) / 9223372036854775808 == 1) = f ∧ 0 ≤ v ∧ v < 4294967296 ∧ v = o - (c + b) + (if f = true then 4294967296 else 0) := by
  rw [u64 (x := o) (by omega) (by omega), IntKind.wrap_u64, IntKind.wrap_u64]
  refine ⟨_, _, rfl, rfl, by omega, by omega, ?_⟩
  simp only [beq_iff_eq]
  split <;> omega
theorem alg_s {vo c b P vu g vv v c' b' o x W : Int} (h : vo - (c + b) * P = vu - g * vv) (h2 : v - W * (c' + b') = o - (c + b) - g * x) : (vo + v * P) - (c' + b') * (W * P) = (vu + o * P) - g * (vv + x * P) := by grind
theorem alg_s2 {vo c b P vu g vv v o e W : Int} (h : vo - (c + b) * P = vu - g * vv) (h2 : v = o - (c + b) + e) : vo + v * P = (vu + o * P) - g * vv + e * P := by grind
theorem mag_subtract_ev {u v : List Int} {g : Int} (hl : u.length = v.length + 1) (hn : v.length < 68719476736) (hu : Dg WW u) (hv : Dg WW v) (hg : 0 ≤ g ∧ g < 4294967296) (d : Nat) : ∀ (i : Nat) (o : List Int) (c b : Int), v.length - i = d → i ≤ v.length → o.length = u.length → Dg WW (o.take i) → o.drop i = u.drop i → 0 ≤ c → c < 4294967296 → 0 ≤ b → b ≤ 1 → vl WW (o.take i) - (c + b) * WW ^ i = vl WW (u.take i) - g * vl WW (v.take i) →
    ∃ f r, Ev (fun k => mag_subtract.l0 k o v g c b v (v.length : Int) (i : Int)) (f, r) ∧ Dg WW r ∧ r.length = u.length ∧ vl WW r = vl WW u - g * vl WW v + (if f = true then WW ^ u.length else 0) := by
  induction d with
  | zero =>
    intro i o c b h1 h2 h3 h4 h5 h6 h7 h8 h9 h10
    have ei : i = v.length := by omega
    subst ei
    have ho := dg_rd hu (v.length : Int) (by omega) (by omega)
    rw [WW_eq] at ho
    obtain ⟨z, f, e1, e2, z0, z1, z2⟩ := sub_last ho ⟨h6, h7⟩ ⟨h8, h9⟩
    have er := rd_of_drop u o v.length h5 (by omega) h3
    refine ⟨f, o.set v.length z, ?_, ?_, by simpa using h3, ?_⟩
    · refine Ev.step (fun k => by rw [mag_subtract.l0]) ?_
      refine evn (by omega) (evp (by omega) (evp (by omega) ?_))
      rw [er, e1, e2, Int.toNat_natCast]
      exact evs _
    · have := Dg.take_set (l := o) (i := v.length) (v := z) (by omega) h4 z0 (by rw [WW_eq]; exact z1)
      rw [List.take_of_length_le (by simp; omega)] at this
      exact this
    · have e3 := vl_set WW o v.length z (by omega)
      rw [List.take_of_length_le (by simp; omega)] at e3
      have e4 := vl_take WW u v.length (by omega)
      rw [List.take_of_length_le (by omega)] at e4
      rw [List.take_length] at h10
      rw [e3, e4, alg_s2 (W := WW) h10 z2, hl, Int.pow_succ, Int.mul_comm (WW ^ v.length) WW]
      congr 1
      cases f
      · simp
      · simp
  | succ d ih =>
    intro i o c b h1 h2 h3 h4 h5 h6 h7 h8 h9 h10
    have ho := dg_rd hu (i : Int) (by omega) (by omega)
    have hx := dg_rd hv (i : Int) (by omega) (by omega)
    rw [WW_eq] at ho hx
    obtain ⟨z, c', b', e1, e2, e3, e4, z0, z1, c0, c1, b0, b1⟩ := sub_step ho ⟨h6, h7⟩ ⟨h8, h9⟩ hg hx
    have er := rd_of_drop u o i h5 (by omega) h3
    obtain ⟨f, r, r1, r2⟩ := ih (i + 1) (o.set i z) c' b' (by omega) (by omega) (by simpa using h3) (Dg.take_set (by omega) h4 z0 (by rw [WW_eq]; exact z1))
      (by rw [drop_set_ge]; exact drop_tail u o i h5) c0 c1 b0 b1
      (by
        rw [vl_set _ _ _ _ (by omega), vl_take WW u i (by omega), vl_take WW v i (by omega), Int.pow_succ, Int.mul_comm (WW ^ i) WW]
        exact alg_s h10 e4)
    refine ⟨f, r, ?_, r2⟩
    refine Ev.step (fun k => by rw [mag_subtract.l0]) ?_
    rw [er, e1, e2, e3, wsucc (i := i) (by omega), Int.toNat_natCast]
    clear e1 e2 e3
    exact evp (by omega) (evp (by omega) (evp (by omega) (evp (by omega) r1)))
theorem mag_subtract_sp {u v : List Int} {g : Int} (hl : u.length = v.length + 1) (hn : v.length < 68719476736) (hu : Dg WW u) (hv : Dg WW v) (hg : 0 ≤ g ∧ g < 4294967296) :
    ∃ f r, Ev (fun k => mag_subtract.f k u v g) (f, r) ∧ Dg WW r ∧ r.length = u.length ∧ vl WW r = vl WW u - g * vl WW v + (if f = true then WW ^ u.length else 0) := by
  obtain ⟨f, r, r1, r2⟩ := mag_subtract_ev hl hn hu hv hg v.length 0 u 0 0 (by omega) (by omega) rfl (by rw [List.take_zero]; exact Dg.nil _) rfl (by omega) (by omega) (by omega) (by omega) (by simp [vl])
  exact ⟨f, r, by unfold mag_subtract.f; exact r1, r2⟩
theorem alg_r {vo c P vu vv v c' o x W : Int} (h : vo + c * P = vu + vv) (h2 : v + W * c' = c + (o + x)) : (vo + v * P) + c' * (W * P) = (vu + o * P) + (vv + x * P) := by grind
theorem alg_r2 {vo c P vu vv v o e W : Int} (h : vo + c * P = vu + vv) (h2 : v + W * e = o + c) : vo + v * P + e * (W * P) = (vu + o * P) + vv := by grind
theorem mag_restore_ev {u v : List Int} (hl : u.length = v.length + 1) (hn : v.length < 68719476736) (hu : Dg WW u) (hv : Dg WW v) (d : Nat) : ∀ (i : Nat) (o : List Int) (c : Int), v.length - i = d → i ≤ v.length → o.length = u.length → Dg WW (o.take i) → o.drop i = u.drop i → 0 ≤ c → c ≤ 1 → vl WW (o.take i) + c * WW ^ i = vl WW (u.take i) + vl WW (v.take i) →
    ∃ r e, Ev (fun k => mag_restore.l0 k o v c v (v.length : Int) (i : Int)) r ∧ Dg WW r ∧ r.length = u.length ∧ vl WW r + e * WW ^ u.length = vl WW u + vl WW v ∧ 0 ≤ e := by
  induction d with
  | zero =>
    intro i o c h1 h2 h3 h4 h5 h6 h7 h8
    have ei : i = v.length := by omega
    subst ei
    have ho := dg_rd hu (v.length : Int) (by omega) (by omega)
    rw [WW_eq] at ho
    have er := rd_of_drop u o v.length h5 (by omega) h3
    have ev : (rd u (v.length : Int) + c) % 4294967296 + WW * ((rd u (v.length : Int) + c) / 4294967296) = rd u (v.length : Int) + c := by rw [WW_eq]; exact Int.emod_add_mul_ediv _ _
    refine ⟨o.set v.length ((rd u (v.length : Int) + c) % 4294967296), (rd u (v.length : Int) + c) / 4294967296, ?_, ?_, by simpa using h3, ?_, by omega⟩
    · have ec : c % 4294967296 = c := by omega
      refine Ev.step (fun k => by rw [mag_restore.l0]) ?_
      refine evn (by omega) (evp (by omega) (evp (by omega) ?_))
      rw [er, ec, Int.toNat_natCast]
      exact evs _
    · have := Dg.take_set (l := o) (i := v.length) (v := (rd u (v.length : Int) + c) % 4294967296) (by omega) h4 (by omega) (by rw [WW_eq]; omega)
      rw [List.take_of_length_le (by simp; omega)] at this
      exact this
    · have e3 := vl_set WW o v.length ((rd u (v.length : Int) + c) % 4294967296) (by omega)
      rw [List.take_of_length_le (by simp; omega)] at e3
      have e4 := vl_take WW u v.length (by omega)
      rw [List.take_of_length_le (by omega)] at e4
      rw [List.take_length] at h8
      rw [e3, e4, hl, Int.pow_succ, Int.mul_comm (WW ^ v.length) WW]
      exact alg_r2 h8 ev
  | succ d ih =>
    intro i o c h1 h2 h3 h4 h5 h6 h7 h8
    have ho := dg_rd hu (i : Int) (by omega) (by omega)
    have hx := dg_rd hv (i : Int) (by omega) (by omega)
    rw [WW_eq] at ho hx
    have er := rd_of_drop u o i h5 (by omega) h3
    have ev : (c + (rd u (i : Int) + rd v (i : Int))) % 4294967296 + WW * ((c + (rd u (i : Int) + rd v (i : Int))) / 4294967296) = c + (rd u (i : Int) + rd v (i : Int)) := by rw [WW_eq]; exact Int.emod_add_mul_ediv _ _
    obtain ⟨r, e, r1, r2⟩ := ih (i + 1) (o.set i ((c + (rd u (i : Int) + rd v (i : Int))) % 4294967296)) ((c + (rd u (i : Int) + rd v (i : Int))) / 4294967296) (by omega) (by omega) (by simpa using h3) (Dg.take_set (by omega) h4 (by omega) (by rw [WW_eq]; omega))
      (by rw [drop_set_ge]; exact drop_tail u o i h5) (by omega) (by omega)
      (by
        rw [vl_set _ _ _ _ (by omega), vl_take WW u i (by omega), vl_take WW v i (by omega), Int.pow_succ, Int.mul_comm (WW ^ i) WW]
        exact alg_r h8 ev)
    refine ⟨r, e, ?_, r2⟩
    refine Ev.step (fun k => by rw [mag_restore.l0]) ?_
    rw [er, u64 (x := rd u (i : Int)) (by omega) (by omega), u64 (x := rd v (i : Int)) (by omega) (by omega), u64 (x := rd u (i : Int) + rd v (i : Int)) (by omega) (by omega), u64 (x := c + (rd u (i : Int) + rd v (i : Int))) (by omega) (by omega), wsucc (i := i) (by omega), Int.toNat_natCast]
    exact evp (by omega) (evp (by omega) (evp (by omega) (evp (by omega) r1)))
theorem mag_restore_sp {u v : List Int} (hl : u.length = v.length + 1) (hn : v.length < 68719476736) (hu : Dg WW u) (hv : Dg WW v) :
    ∃ r e, Ev (fun k => mag_restore.f k u v) r ∧ Dg WW r ∧ r.length = u.length ∧ vl WW r + e * WW ^ u.length = vl WW u + vl WW v ∧ 0 ≤ e := by
  obtain ⟨r, e, r1, r2⟩ := mag_restore_ev hl hn hu hv v.length 0 u 0 (by omega) (by omega) rfl (by rw [List.take_zero]; exact Dg.nil _) rfl (by omega) (by omega) (by simp [vl])
  exact ⟨r, e, by unfold mag_restore.f; exact r1, r2⟩
end Go.Proofs.Ytfpolhoabfadnaa.P
end
section
namespace Go.Proofs.Ytfpolhoabfadnaa.P
open Go.RowKit Go.Proofs.YtfpolhoabfadnaaW.PrintWords Go.Proofs.YtfpolhoabfadnaaW.PrintLast Go.Proofs.YtfpolhoabfadnaaW.PrintMore
set_option linter.unusedVariables false
theorem kd_gt {X M P top next x0 high g rest qd W : Int} (hM : (top * W + next) * P ≤ M) (hX : X < (high * W + x0 + 1) * P) (hP : 0 < P) (hq : qd * M ≤ X) (h : g * top + rest = high) (hd : 0 ≤ g) (hM0 : 0 ≤ M) (hne : g * next > rest * W + x0) : qd < g := by
  rcases Int.lt_or_le qd g with h1 | h1
  · exact h1
  · exfalso
    have a1 : g * M ≤ qd * M := Int.mul_le_mul_of_nonneg_right h1 hM0
    have a2 : g * ((top * W + next) * P) ≤ g * M := Int.mul_le_mul_of_nonneg_left hM hd
    have a3 : g * ((top * W + next) * P) = (g * (top * W + next)) * P := by grind
    have a4 : (g * (top * W + next)) * P < (high * W + x0 + 1) * P := by omega
    have a5 := Int.lt_of_mul_lt_mul_right a4 (Int.le_of_lt hP)
    have a6 : g * (top * W + next) = (high - rest) * W + g * next := by rw [← h]; grind
    have a7 : (high - rest) * W = high * W - rest * W := by grind
    omega
theorem kd_le {X M P top next x0 high g rest qd W : Int} (hM : M ≤ (top * W + next + 1) * P) (hM2 : W * P ≤ M) (hX : (high * W + x0) * P ≤ X) (hP : 0 < P) (hq : X < (qd + 1) * M) (h : g * top + rest = high) (hd : 0 ≤ g) (hg : g < W) (hE : g * next ≤ rest * W + x0) : g ≤ qd + 1 := by
  rcases Int.lt_or_le (qd + 1) g with h1 | h1
  · exfalso
    have hM0 : 0 ≤ M := by
      have : 0 ≤ W * P := Int.mul_nonneg (by omega) (by omega)
      omega
    have a1 : (qd + 1) * M ≤ (g - 1) * M := Int.mul_le_mul_of_nonneg_right (by omega) hM0
    have a2 : g * M ≤ g * ((top * W + next + 1) * P) := Int.mul_le_mul_of_nonneg_left hM hd
    have a3 : g * ((top * W + next + 1) * P) = (g * (top * W + next)) * P + g * P := by grind
    have a6 : g * (top * W + next) = (high - rest) * W + g * next := by rw [← h]; grind
    have a7 : (high - rest) * W = high * W - rest * W := by grind
    have a8 : (g * (top * W + next)) * P ≤ (high * W + x0) * P := Int.mul_le_mul_of_nonneg_right (by omega) (by omega)
    have a9 : g * P ≤ W * P := Int.mul_le_mul_of_nonneg_right (by omega) (by omega)
    have a10 : (g - 1) * M = g * M - M := by grind
    omega
  · exact h1
theorem dm_guess {q v u : List Int} {s : Int} {nn j : Nat} {X M P top next x0 high qd : Int} (hn : j + nn < 68719476736) (hnn : 2 ≤ nn) (hju : j + nn < u.length) (hx0 : rd u ((j + nn - 2 : Nat) : Int) = x0)
    (t0 : 0 < top) (t1 : top < 4294967296) (n0 : 0 ≤ next) (n1 : next < 4294967296) (b0 : 0 ≤ x0) (b1 : x0 < 4294967296)
    (hMl : (top * WW + next) * P ≤ M) (hMu : M ≤ (top * WW + next + 1) * P) (hM2 : WW * P ≤ M) (hXl : (high * WW + x0) * P ≤ X) (hXu : X < (high * WW + x0 + 1) * P) (hP : 0 < P) (hq : qd * M ≤ X) (hq2 : X < (qd + 1) * M) (hqW : qd < 4294967296) (hq0 : 0 ≤ qd) (c : Nat) :
    ∀ g rest : Int, (g - qd).toNat = c → g * top + rest = high → 0 ≤ rest → rest < 4294967296 → qd ≤ g → g ≤ 4294967297 → (g = 4294967297 → rest + top < 4294967296) →
    ∃ g', qd ≤ g' ∧ g' ≤ qd + 1 ∧ g' < 4294967296 ∧ ∀ R, Ev (fun k => mag_DivMod.j3 k q s v u (nn : Int) top next (j : Int) g') R → Ev (fun k => mag_DivMod.l1 k q s v u (nn : Int) top next (j : Int) g rest) R := by
  have hM0 : 0 ≤ M := by
    have : 0 ≤ WW * P := Int.mul_nonneg (by decide) (by omega)
    omega
  induction c with
  | zero =>
    intro g rest h1 h2 h3 h4 h5 h6 h7
    have eg : g = qd := by omega
    subst eg
    have hE : ¬ (g * next > rest * WW + x0) := fun hne => by
      have := kd_gt hMl hXu hP hq h2 (by omega) hM0 hne
      omega
    refine ⟨g, by omega, by omega, hqW, fun R hR => ?_⟩
    have hp := mul_bd (x := g) (y := next) ⟨by omega, hqW⟩ ⟨n0, n1⟩
    refine Ev.step (fun k => by rw [mag_DivMod.l1]) ?_
    rw [WW_eq] at hE
    rw [show (j : Int) + (nn : Int) = ((j + nn : Nat) : Int) by omega, w64 (x := ((j + nn : Nat) : Int)) (by omega) (by omega), show ((j + nn : Nat) : Int) - 2 = ((j + nn - 2 : Nat) : Int) by omega, w64 (x := ((j + nn - 2 : Nat) : Int)) (by omega) (by omega), hx0, u64 (x := g * next) (by omega) (by omega), u64 (x := rest * 4294967296) (by omega) (by omega), u64 (x := x0) (by omega) (by omega), or64 ⟨h3, h4⟩ ⟨b0, b1⟩, decide_eq_false hE]
    refine evn (by omega) (evp (by omega) (evp (by omega) ?_))
    refine Ev.step (fun k => by rw [mag_DivMod.j2]) ?_
    exact evn (by simp) hR
  | succ c ih =>
    intro g rest h1 h2 h3 h4 h5 h6 h7
    have hgq : qd < g := by omega
    have down : (g ≥ 4294967296 ∨ g * next > rest * WW + x0) → ∃ g', qd ≤ g' ∧ g' ≤ qd + 1 ∧ g' < 4294967296 ∧ ∀ R, Ev (fun k => mag_DivMod.j3 k q s v u (nn : Int) top next (j : Int) g') R → Ev (fun k => mag_DivMod.j2 k q s v u (nn : Int) top next (j : Int) g rest true) R := by
      intro hc
      by_cases c2 : rest + top ≥ 4294967296
      · have e : (g - 1) * top + (rest + top) = high := by rw [← h2]; grind
        have hp := mul_bd (x := g - 1) (y := next) ⟨by omega, by omega⟩ ⟨n0, n1⟩
        have hE : (g - 1) * next ≤ (rest + top) * WW + x0 := by rw [WW_eq]; omega
        refine ⟨g - 1, by omega, kd_le hMu hM2 hXl hP hq2 e (by omega) (by rw [WW_eq]; omega) hE, by omega, fun R hR => ?_⟩
        refine Ev.step (fun k => by rw [mag_DivMod.j2]) ?_
        rw [u64 (x := rest + top) (by omega) (by omega), u64 (x := g - 1) (by omega) (by omega)]
        exact evp rfl (evp c2 hR)
      · have e : (g - 1) * top + (rest + top) = high := by rw [← h2]; grind
        obtain ⟨g', g1, g2, g3, g4⟩ := ih (g - 1) (rest + top) (by omega) e (by omega) (by omega) (by omega) (by omega) (by omega)
        refine ⟨g', g1, g2, g3, fun R hR => ?_⟩
        refine Ev.step (fun k => by rw [mag_DivMod.j2]) ?_
        rw [u64 (x := rest + top) (by omega) (by omega), u64 (x := g - 1) (by omega) (by omega)]
        exact evp rfl (evn c2 (g4 R hR))
    by_cases c1 : g ≥ 4294967296
    · obtain ⟨g', g1, g2, g3, g4⟩ := down (.inl c1)
      refine ⟨g', g1, g2, g3, fun R hR => ?_⟩
      refine Ev.step (fun k => by rw [mag_DivMod.l1]) ?_
      exact evp c1 (g4 R hR)
    · have hp := mul_bd (x := g) (y := next) ⟨by omega, by omega⟩ ⟨n0, n1⟩
      by_cases c2 : g * next > rest * WW + x0
      · obtain ⟨g', g1, g2, g3, g4⟩ := down (.inr c2)
        refine ⟨g', g1, g2, g3, fun R hR => ?_⟩
        refine Ev.step (fun k => by rw [mag_DivMod.l1]) ?_
        rw [WW_eq] at c2
        rw [show (j : Int) + (nn : Int) = ((j + nn : Nat) : Int) by omega, w64 (x := ((j + nn : Nat) : Int)) (by omega) (by omega), show ((j + nn : Nat) : Int) - 2 = ((j + nn - 2 : Nat) : Int) by omega, w64 (x := ((j + nn - 2 : Nat) : Int)) (by omega) (by omega), hx0, u64 (x := g * next) (by omega) (by omega), u64 (x := rest * 4294967296) (by omega) (by omega), u64 (x := x0) (by omega) (by omega), or64 ⟨h3, h4⟩ ⟨b0, b1⟩, decide_eq_true c2]
        exact evn (by omega) (evp (by omega) (evp (by omega) (g4 R hR)))
      · have hle := kd_le hMu hM2 hXl hP hq2 h2 (by omega) (by rw [WW_eq]; omega) (by omega)
        refine ⟨g, by omega, hle, by omega, fun R hR => ?_⟩
        refine Ev.step (fun k => by rw [mag_DivMod.l1]) ?_
        rw [WW_eq] at c2
        rw [show (j : Int) + (nn : Int) = ((j + nn : Nat) : Int) by omega, w64 (x := ((j + nn : Nat) : Int)) (by omega) (by omega), show ((j + nn : Nat) : Int) - 2 = ((j + nn - 2 : Nat) : Int) by omega, w64 (x := ((j + nn - 2 : Nat) : Int)) (by omega) (by omega), hx0, u64 (x := g * next) (by omega) (by omega), u64 (x := rest * 4294967296) (by omega) (by omega), u64 (x := x0) (by omega) (by omega), or64 ⟨h3, h4⟩ ⟨b0, b1⟩, decide_eq_false c2]
        refine evn (by omega) (evp (by omega) (evp (by omega) ?_))
        refine Ev.step (fun k => by rw [mag_DivMod.j2]) ?_
        exact evn (by simp) hR
end Go.Proofs.Ytfpolhoabfadnaa.P
end
section
namespace Go.Proofs.Ytfpolhoabfadnaa.P
open Go.RowKit Go.Proofs.YtfpolhoabfadnaaW.PrintWords Go.Proofs.YtfpolhoabfadnaaW.PrintLast Go.Proofs.YtfpolhoabfadnaaW.PrintMore
set_option linter.unusedVariables false
theorem seg_len (u : List Int) (j n : Nat) (h : j + n ≤ u.length) : ((u.take (j + n)).drop j).length = n := by
  rw [List.length_drop, List.length_take, Nat.min_eq_left h]; omega
theorem seg_put (u r : List Int) (j n : Nat) (h : j + n ≤ u.length) (hr : r.length = n) :
    ((u.take j ++ r ++ u.drop (j + n)).take (j + n)).drop j = r ∧ (u.take j ++ r ++ u.drop (j + n)).take j = u.take j ∧ (u.take j ++ r ++ u.drop (j + n)).drop (j + n) = u.drop (j + n) ∧ (u.take j ++ r ++ u.drop (j + n)).drop j = r ++ u.drop (j + n) ∧ (u.take j ++ r ++ u.drop (j + n)).length = u.length := by
  have l1 : (u.take j).length = j := by rw [List.length_take, Nat.min_eq_left (by omega)]
  have l2 : (u.take j ++ r).length = j + n := by rw [List.length_append, l1, hr]
  refine ⟨?_, ?_, ?_, ?_, ?_⟩
  · rw [List.take_left' l2, List.drop_left' l1]
  · rw [List.append_assoc, List.take_left' l1]
  · rw [List.drop_left' l2]
  · rw [List.append_assoc, List.drop_left' l1]
  · rw [List.length_append, l2, List.length_drop]; omega
theorem seg_vl (u : List Int) (j n : Nat) (h : j + n ≤ u.length) : vl WW (u.drop j) = vl WW ((u.take (j + n)).drop j) + WW ^ n * vl WW (u.drop (j + n)) := by
  have e := vl_drop WW (u.drop j) n (by rw [List.length_drop]; omega)
  rw [List.drop_drop] at e
  rw [e, List.drop_take, Nat.add_sub_cancel_left]
theorem dm_digit {q v u : List Int} {s top next : Int} {nn j : Nat} {X M qd g : Int} (hn : j + nn < 68719476736) (hv : v.length = nn) (dv : Dg WW v) (eM : vl WW v = M) (hju : j + nn + 1 ≤ u.length) (hjq : j < q.length) (du : Dg WW u)
    (eX : vl WW (u.drop j) = X) (hz : vl WW (u.drop (j + (nn + 1))) = 0) (hq : qd * M ≤ X) (hq2 : X < (qd + 1) * M) (hqW : qd < 4294967296) (hq0 : 0 ≤ qd) (g1 : qd ≤ g) (g2 : g ≤ qd + 1) (g3 : g < 4294967296) :
    ∃ u2, u2.length = u.length ∧ Dg WW u2 ∧ u2.take j = u.take j ∧ vl WW (u2.drop j) = X - qd * M ∧ ∀ R, Ev (fun k => mag_DivMod.l0 k (q.set j qd) s v u2 (nn : Int) top next ((j : Int) - 1)) R → Ev (fun k => mag_DivMod.j3 k q s v u (nn : Int) top next (j : Int) g) R := by
  have sl := seg_len u j (nn + 1) hju
  have sv := seg_vl u j (nn + 1) hju
  rw [hz, Int.mul_zero, Int.add_zero, eX] at sv
  have ds : Dg WW ((u.take (j + (nn + 1))).drop j) := (du.take _).drop _
  obtain ⟨f, r, r1, r2, r3, r4⟩ := mag_subtract_sp (u := (u.take (j + (nn + 1))).drop j) (v := v) (g := g) (by omega) (by omega) ds dv ⟨by omega, g3⟩
  rw [sl] at r3 r4
  rw [← sv, eM] at r4
  have b0 := vl_nonneg WW_pos r2
  have b1 := vl_lt WW_pos r2
  rw [r3] at b1
  obtain ⟨p1, p2, p3, p4, p5⟩ := seg_put u r j (nn + 1) hju r3
  have hb2 : ((((j + nn : Nat) : Int) + 1)).toNat = j + (nn + 1) := by omega
  have hsub : Ev (fun k => mag_subtractAt.f k u (j : Int) (((j + nn : Nat) : Int) + 1) v g) (f, u.take j ++ r ++ u.drop (j + (nn + 1))) := by
    unfold mag_subtractAt.f
    rw [hb2, Int.toNat_natCast]
    exact Ev.bind r1 (evs _)
  have eqd : qd % 4294967296 = qd := by omega
  have hM1 : (qd + 1) * M = qd * M + M := by grind
  have dall : ∀ z : List Int, Dg WW z → Dg WW (u.take j ++ z ++ u.drop (j + (nn + 1))) := fun z hz => ((du.take _).append hz).append (du.drop _)
  cases f
  · have eg : g = qd := by
      rcases Int.lt_or_le qd g with c | c
      · exfalso
        have : g = qd + 1 := by omega
        subst this
        simp only [Bool.false_eq_true, if_false] at r4
        omega
      · omega
    subst eg
    simp only [Bool.false_eq_true, if_false, Int.add_zero] at r4
    refine ⟨_, p5, dall r r2, p2, ?_, fun R hR => ?_⟩
    · rw [p4, vl_append, hz, Int.mul_zero, Int.add_zero, r4]
    · refine Ev.step (fun k => by rw [mag_DivMod.j3]) ?_
      rw [show (j : Int) + (nn : Int) = ((j + nn : Nat) : Int) by omega, w64 (x := ((j + nn : Nat) : Int)) (by omega) (by omega), w64 (x := ((j + nn : Nat) : Int) + 1) (by omega) (by omega), w64 (x := (j : Int) - 1) (by omega) (by omega), eqd, Int.toNat_natCast]
      exact evp (by omega) (evp (by omega) (evp (by omega) (Ev.bind hsub (evn (by simp) (evp (by omega) hR)))))
  · simp only [if_true] at r4
    have eg : g = qd + 1 := by
      rcases Int.lt_or_le qd g with c | c
      · omega
      · exfalso
        have : g = qd := by omega
        subst this
        omega
    subst eg
    rw [hM1] at r4
    obtain ⟨z, e, z1, z2, z3, z4, z5⟩ := mag_restore_sp (u := r) (v := v) (by omega) (by omega) r2 dv
    rw [r3, eM, r4] at z4
    rw [r3] at z3
    have c0 := vl_nonneg WW_pos z2
    have c1 := vl_lt WW_pos z2
    rw [z3] at c1
    have hMW : M < WW ^ (nn + 1) := by
      have h1 := vl_lt WW_pos dv
      have h2 := pow_le (B := WW) (by decide) (show nn ≤ nn + 1 by omega)
      rw [hv, eM] at h1
      omega
    have hz3 : vl WW z = X - qd * M := by
      generalize WW ^ (nn + 1) = Q at *
      have he : e = 1 := by
        rcases Int.lt_or_le e 1 with c | c
        · have : e = 0 := by omega
          subst this
          omega
        · rcases Int.lt_or_le 1 e with c' | c'
          · have : 2 * Q ≤ e * Q := Int.mul_le_mul_of_nonneg_right (by omega) (by omega)
            omega
          · omega
      subst he
      omega
    obtain ⟨t1, t2, t3, t4, t5⟩ := seg_put u z j (nn + 1) hju z3
    have hres : Ev (fun k => mag_restoreAt.f k (u.take j ++ r ++ u.drop (j + (nn + 1))) (j : Int) (((j + nn : Nat) : Int) + 1) v) (u.take j ++ z ++ u.drop (j + (nn + 1))) := by
      unfold mag_restoreAt.f
      rw [hb2, Int.toNat_natCast, p1, p2, p3]
      exact Ev.bind z1 (evs _)
    refine ⟨_, t5, dall z z2, t2, ?_, fun R hR => ?_⟩
    · rw [t4, vl_append, hz, Int.mul_zero, Int.add_zero, hz3]
    · refine Ev.step (fun k => by rw [mag_DivMod.j3]) ?_
      rw [show (j : Int) + (nn : Int) = ((j + nn : Nat) : Int) by omega, w64 (x := ((j + nn : Nat) : Int)) (by omega) (by omega), w64 (x := ((j + nn : Nat) : Int) + 1) (by omega) (by omega), w64 (x := (j : Int) - 1) (by omega) (by omega), show qd + 1 - 1 = qd by omega, u64 (x := qd) (by omega) (by omega), eqd, Int.toNat_natCast]
      exact evp (by omega) (evp (by omega) (evp (by omega) (Ev.bind hsub (evp rfl (Ev.bind hres (evp (by omega) hR))))))
theorem three {u : List Int} (du : Dg WW u) (j nn : Nat) (hnn : 2 ≤ nn) (hju : j + nn + 1 ≤ u.length) (hz : vl WW (u.drop (j + (nn + 1))) = 0) :
    ∃ low, 0 ≤ low ∧ low < WW ^ (nn - 2) ∧ vl WW (u.drop j) = low + (((rd u ((j + nn : Nat) : Int)) * WW + rd u ((j + nn - 1 : Nat) : Int)) * WW + rd u ((j + nn - 2 : Nat) : Int)) * WW ^ (nn - 2) := by
  have e := vl_drop WW (u.drop j) (nn - 2) (by rw [List.length_drop]; omega)
  rw [List.drop_drop] at e
  have d1 : Dg WW ((u.drop j).take (nn - 2)) := (du.drop _).take _
  have l1 := vl_lt WW_pos d1
  rw [List.length_take, List.length_drop, Nat.min_eq_left (by omega)] at l1
  refine ⟨_, vl_nonneg WW_pos d1, l1, ?_⟩
  rw [e, drop_rd u (j + (nn - 2)) (by omega), vl, drop_rd u (j + (nn - 2) + 1) (by omega), vl, drop_rd u (j + (nn - 2) + 1 + 1) (by omega), vl]
  rw [show j + (nn - 2) + 1 + 1 + 1 = j + (nn + 1) by omega, hz, show j + (nn - 2) + 1 + 1 = j + nn by omega, show j + (nn - 2) + 1 = j + nn - 1 by omega, show j + (nn - 2) = j + nn - 2 by omega]
  grind
theorem two {v : List Int} (dv : Dg WW v) (nn : Nat) (hnn : 2 ≤ nn) (hv : v.length = nn) :
    ∃ low, 0 ≤ low ∧ low < WW ^ (nn - 2) ∧ vl WW v = low + (rd v ((nn - 1 : Nat) : Int) * WW + rd v ((nn - 2 : Nat) : Int)) * WW ^ (nn - 2) := by
  have e := vl_drop WW v (nn - 2) (by omega)
  have d1 : Dg WW (v.take (nn - 2)) := dv.take _
  have l1 := vl_lt WW_pos d1
  rw [List.length_take, Nat.min_eq_left (by omega)] at l1
  refine ⟨_, vl_nonneg WW_pos d1, l1, ?_⟩
  rw [e, drop_rd v (nn - 2) (by omega), vl, drop_rd v (nn - 2 + 1) (by omega), vl]
  rw [show nn - 2 + 1 + 1 = nn by omega, List.drop_eq_nil_of_le (by omega), vl, show nn - 2 + 1 = nn - 1 by omega]
  grind
end Go.Proofs.Ytfpolhoabfadnaa.P
end
section
namespace Go.Proofs.Ytfpolhoabfadnaa.P
open Go.RowKit Go.Proofs.YtfpolhoabfadnaaW.PrintWords Go.Proofs.YtfpolhoabfadnaaW.PrintLast Go.Proofs.YtfpolhoabfadnaaW.PrintMore
set_option linter.unusedVariables false
theorem alg_inv {ut Pj X M W qd vq N vu : Int} (h1 : vu = ut + Pj * X) (h2 : vu + M * ((Pj * W) * vq) = N) : (ut + Pj * (X - qd * M)) + M * (Pj * (qd + W * vq)) = N := by grind
theorem lt_of_mul' {a b P : Int} (h : a * P < b * P) (hP : 0 < P) : a < b := Int.lt_of_mul_lt_mul_right h (Int.le_of_lt hP)
theorem dm_l0 {v : List Int} {s nn : Nat} {M top next N : Int} (hs : s < 32) (hn2 : 2 ≤ nn) (hv : v.length = nn) (dv : Dg WW v) (eM : vl WW v = M) (et : rd v ((nn - 1 : Nat) : Int) = top) (en : rd v ((nn - 2 : Nat) : Int) = next) (ht : 2147483648 ≤ top) (d : Nat) :
    ∀ (i : Nat) (q u : List Int), i = d → i + nn ≤ u.length → u.length < 68719476736 → q.length = u.length - nn → Dg WW u → Dg WW (q.drop i) → vl WW (u.drop i) < M → vl WW u + M * (WW ^ i * vl WW (q.drop i)) = N →
    ∃ q' r', Ev (fun k => mag_DivMod.l0 k q (s : Int) v u (nn : Int) top next ((i : Int) - 1)) (q', r') ∧ Can WW q' (N / M) ∧ Can WW r' (N % M / 2 ^ s) := by
  have w0 : (0 : Int) < WW ^ (nn - 2) := pow_pos' WW_pos _
  have bt := dg_rd dv ((nn - 1 : Nat) : Int) (by omega) (by omega)
  have bn := dg_rd dv ((nn - 2 : Nat) : Int) (by omega) (by omega)
  rw [et, WW_eq] at bt
  rw [en, WW_eq] at bn
  obtain ⟨ml, ml0, ml1, hMe⟩ := two dv nn hn2 hv
  rw [et, en, eM] at hMe
  generalize hP : WW ^ (nn - 2) = P at *
  have hMl : (top * WW + next) * P ≤ M := by omega
  have hMu' : M < (top * WW + next + 1) * P := by rw [Int.add_mul _ 1 P, Int.one_mul]; omega
  have hM2 : WW * P ≤ M := by
    have : WW * P ≤ (top * WW + next) * P := Int.mul_le_mul_of_nonneg_right (by rw [WW_eq]; omega) (by omega)
    omega
  have hMpos : 0 < M := by
    have : 0 < WW * P := Int.mul_pos WW_pos w0
    omega
  induction d with
  | zero =>
    rintro i q u rfl h1 h2 h3 h4 h5 h6 h7
    rw [List.drop_zero] at h5 h6 h7
    rw [Int.pow_zero, Int.one_mul] at h7
    have b0 := vl_nonneg WW_pos h4
    have e1 : N / M = vl WW q := by rw [← h7, Int.add_mul_ediv_left _ _ (by omega), Int.ediv_eq_zero_of_lt b0 h6, Int.zero_add]
    have e2 : N % M = vl WW u := by rw [← h7, Int.add_mul_emod_self_left, Int.emod_eq_of_lt b0 h6]
    obtain ⟨q', q1, q2, q3⟩ := mag_Trim_sp (l := q) (by omega) h5
    obtain ⟨x, x1, x2, x3⟩ := mag_Trim_sp (l := u) (by omega) h4
    obtain ⟨y, y1, y2, y3⟩ := mag_Shr_sp s (by omega) (by omega) x2
    refine ⟨q', y, ?_, by rw [e1]; exact q2, by rw [e2]; exact y2⟩
    refine Ev.step (fun k => by rw [mag_DivMod.l0]) ?_
    exact evn (by omega) (Ev.bind q1 (Ev.bind x1 (Ev.bind y1 (evs _))))
  | succ d ih =>
    rintro i q u rfl h1 h2 h3 h4 h5 h6 h7
    have u0 := dg_rd h4 (d : Int) (by omega) (by omega)
    have eX : vl WW (u.drop d) = rd u (d : Int) + WW * vl WW (u.drop (d + 1)) := by rw [drop_rd u d (by omega), vl]
    have nx := vl_nonneg WW_pos (h4.drop (d + 1))
    have hXM : vl WW (u.drop d) < WW * M := by
      have : WW * (vl WW (u.drop (d + 1)) + 1) ≤ WW * M := Int.mul_le_mul_of_nonneg_left (by omega) (by decide)
      rw [Int.mul_add, Int.mul_one] at this
      omega
    have hX0 := vl_nonneg WW_pos (h4.drop d)
    have hMW : M < WW ^ nn := by
      have := vl_lt WW_pos dv
      rw [hv, eM] at this
      exact this
    have hz : vl WW (u.drop (d + (nn + 1))) = 0 := by
      have sv := seg_vl u d (nn + 1) (by omega)
      have g0 := vl_nonneg WW_pos (h4.drop (d + (nn + 1)))
      have g1 := vl_nonneg WW_pos ((h4.take (d + (nn + 1))).drop d)
      rcases Int.lt_or_le 0 (vl WW (u.drop (d + (nn + 1)))) with c | c
      · exfalso
        have hp : (0 : Int) < WW ^ (nn + 1) := pow_pos' WW_pos _
        have a1 : WW ^ (nn + 1) * 1 ≤ WW ^ (nn + 1) * vl WW (u.drop (d + (nn + 1))) := Int.mul_le_mul_of_nonneg_left (by omega) (by omega)
        have a2 : WW * M < WW * WW ^ nn := Int.mul_lt_mul_of_pos_left hMW WW_pos
        rw [Int.pow_succ, Int.mul_comm (WW ^ nn) WW] at a1 sv
        omega
      · omega
    obtain ⟨lo, lo0, lo1, eZ⟩ := three h4 d nn hn2 (by omega) hz
    rw [hP] at eZ lo1
    have b2 := dg_rd h4 ((d + nn : Nat) : Int) (by omega) (by omega)
    have b1 := dg_rd h4 ((d + nn - 1 : Nat) : Int) (by omega) (by omega)
    have b0 := dg_rd h4 ((d + nn - 2 : Nat) : Int) (by omega) (by omega)
    rw [WW_eq] at b2 b1 b0
    have hut := vl_drop WW u d (by omega)
    generalize hX : vl WW (u.drop d) = X at *
    generalize hx2 : rd u ((d + nn : Nat) : Int) = x2 at *
    generalize hx1 : rd u ((d + nn - 1 : Nat) : Int) = x1 at *
    generalize hx0 : rd u ((d + nn - 2 : Nat) : Int) = x0 at *
    have hXl : ((x2 * WW + x1) * WW + x0) * P ≤ X := by omega
    have hXu : X < ((x2 * WW + x1) * WW + x0 + 1) * P := by rw [Int.add_mul _ 1 P, Int.one_mul]; omega
    have hq0 : 0 ≤ X / M := Int.ediv_nonneg hX0 (by omega)
    have hqd := Int.mul_ediv_add_emod X M
    have hqr := Int.emod_nonneg X (show M ≠ 0 by omega)
    have hqs := Int.emod_lt_of_pos X hMpos
    have hq : X / M * M ≤ X := by rw [Int.mul_comm]; omega
    have hq2 : X < (X / M + 1) * M := by rw [Int.add_mul, Int.one_mul, Int.mul_comm]; omega
    have hqW : X / M < 4294967296 := Int.ediv_lt_of_lt_mul hMpos (by rw [← WW_eq]; exact hXM)
    generalize hQ : X / M = qd at *
    have hhi : x2 * WW + x1 ≤ top * WW + next := by
      have a1 : ((x2 * WW + x1) * WW + x0) * P < (WW * (top * WW + next + 1)) * P := by
        have : WW * M < WW * ((top * WW + next + 1) * P) := Int.mul_lt_mul_of_pos_left hMu' WW_pos
        rw [Int.mul_assoc]
        omega
      have a2 := lt_of_mul' a1 w0
      rw [WW_eq] at a2 ⊢
      omega
    have hh0 : 0 ≤ x2 * WW + x1 := by rw [WW_eq]; omega
    have hor := or64 b2 b1
    rw [← WW_eq] at hor
    generalize hH : x2 * WW + x1 = high at *
    have d1 := Int.mul_ediv_add_emod high top
    have d2 := Int.emod_nonneg high (show top ≠ 0 by omega)
    have d3 := Int.emod_lt_of_pos high (show 0 < top by omega)
    have d0 : 0 ≤ high / top := Int.ediv_nonneg hh0 (by omega)
    have gq : qd ≤ high / top := by
      refine Int.le_ediv_of_mul_le (by omega) ?_
      have a1 : qd * ((top * WW + next) * P) ≤ qd * M := Int.mul_le_mul_of_nonneg_left hMl hq0
      have a2 : (qd * (top * WW + next)) * P < (high * WW + x0 + 1) * P := by rw [Int.mul_assoc]; omega
      have a3 := lt_of_mul' a2 w0
      have a4 : qd * (top * WW + next) = (qd * top) * WW + qd * next := by grind
      have a5 : 0 ≤ qd * next := Int.mul_nonneg hq0 bn.1
      rw [WW_eq] at a3 a4
      omega
    have gW : high / top ≤ 4294967297 ∧ (high / top = 4294967297 → high % top + top < 4294967296) := by
      have a1 : top * (high / top) ≤ top * WW + next := by omega
      constructor
      · rcases Int.lt_or_le 4294967297 (high / top) with c | c
        · exfalso
          have : top * 4294967298 ≤ top * (high / top) := Int.mul_le_mul_of_nonneg_left (by omega) (by omega)
          rw [WW_eq] at a1
          omega
        · exact c
      · intro c
        rw [c] at d1
        rw [WW_eq] at hhi
        omega
    obtain ⟨g, g1, g2, g3, g4⟩ := dm_guess (q := q) (v := v) (u := u) (s := (s : Int)) (nn := nn) (j := d) (X := X) (M := M) (P := P) (top := top) (next := next) (x0 := x0) (high := high) (qd := qd) (by omega) hn2 (by omega) hx0 (by omega) bt.2 bn.1 bn.2 b0.1 b0.2 hMl (by omega) hM2 hXl hXu w0 hq hq2 hqW hq0 _ (high / top) (high % top) rfl (by rw [Int.mul_comm]; exact d1) d2 (by omega) gq gW.1 gW.2
    obtain ⟨u2, v1, v2, v3, v4, v5⟩ := dm_digit (q := q) (v := v) (u := u) (s := (s : Int)) (top := top) (next := next) (nn := nn) (j := d) (X := X) (M := M) (qd := qd) (g := g) (by omega) hv dv eM (by omega) (by omega) h4 hX hz hq hq2 hqW hq0 g1 g2 g3
    have hu2 := vl_drop WW u2 d (by omega)
    rw [v3, v4] at hu2
    obtain ⟨q', r', e1, e2⟩ := ih d (q.set d qd) u2 rfl (by omega) (by omega) (by rw [List.length_set, v1]; exact h3) v2
      (by rw [drop_set_self _ _ _ (by omega)]; exact Dg.mk hq0 (by rw [WW_eq]; exact hqW) h5)
      (by rw [v4]; rw [Int.add_mul, Int.one_mul] at hq2; omega)
      (by
        rw [drop_set_self _ _ _ (by omega), vl, hu2]
        rw [Int.pow_succ] at h7
        exact alg_inv hut h7)
    refine ⟨q', r', ?_, e2⟩
    refine Ev.step (fun k => by rw [mag_DivMod.l0]) ?_
    have hgu : high / top < 18446744073709551616 := by omega
    have fin := g4 _ (v5 _ e1)
    rw [show (((d + 1 : Nat) : Int) - 1) = (d : Int) by omega, show (d : Int) + (nn : Int) = ((d + nn : Nat) : Int) by omega, w64 (x := ((d + nn : Nat) : Int)) (by omega) (by omega), show ((d + nn : Nat) : Int) - 1 = ((d + nn - 1 : Nat) : Int) by omega, w64 (x := ((d + nn - 1 : Nat) : Int)) (by omega) (by omega), hx2, hx1, u64 (x := x2) (by omega) (by omega), u64 (x := x1) (by omega) (by omega), u64 (x := x2 * 4294967296) (by omega) (by omega), ← WW_eq, hor, tdiv_nn hh0, tmod_nn hh0, u64 (x := high / top) d0 hgu]
    clear hor
    exact evp (by omega) (evp (by omega) (evp (by omega) (evp (by omega) (evp (by omega) (evn (by omega) fin)))))
end Go.Proofs.Ytfpolhoabfadnaa.P
end
section
namespace Go.Proofs.Ytfpolhoabfadnaa.P
open Go.RowKit Go.Proofs.YtfpolhoabfadnaaW.PrintWords Go.Proofs.YtfpolhoabfadnaaW.PrintLast Go.Proofs.YtfpolhoabfadnaaW.PrintMore
set_option linter.unusedVariables false
theorem cpy_zero {t : List Int} {n : Nat} (h : t.length ≤ n) (dt : Dg WW t) : (cpy (List.replicate n 0) t).length = n ∧ Dg WW (cpy (List.replicate n 0) t) ∧ vl WW (cpy (List.replicate n 0) t) = vl WW t := by
  have e : cpy (List.replicate n 0) t = t ++ List.replicate (n - t.length) 0 := by
    unfold cpy
    rw [List.length_replicate, Nat.min_eq_left h, List.take_length, List.drop_replicate]
  rw [e]
  refine ⟨by simp; omega, dt.append (Dg.rep WW_pos _), ?_⟩
  rw [vl_append, vl_rep, Int.mul_zero, Int.add_zero]
theorem two_le31 {s : Nat} (h : s ≤ 31) : (2 : Int) ^ s ≤ 2147483648 := by
  have h2 : (2 : Int) ^ s ≤ 2 ^ 31 := by
    have : 2 ^ s ≤ 2 ^ 31 := Nat.pow_le_pow_right (by decide) h
    exact_mod_cast this
  exact Int.le_trans h2 (by decide)
theorem normed {b : List Int} {m : Int} {L : Nat} (hb : Can WW b m) (hp : 0 < b.length) (h1 : rd b ((b.length : Int) - 1) < 2 ^ L) (h2 : 2 ^ (L - 1) ≤ rd b ((b.length : Int) - 1)) (hL : 1 ≤ L) (hL2 : L ≤ 32) :
    m * 2 ^ (32 - L) < WW ^ b.length ∧ 2147483648 * WW ^ (b.length - 1) ≤ m * 2 ^ (32 - L) := by
  have lv := last_vl (a := b) hp
  rw [hb.2.2] at lv
  have hd := hb.1.take (b.length - 1)
  have l0 := vl_nonneg WW_pos hd
  have l1 := vl_lt WW_pos hd
  rw [List.length_take, Nat.min_eq_left (by omega)] at l1
  have hP : (0 : Int) < WW ^ (b.length - 1) := pow_pos' WW_pos _
  have hs := two_pos (32 - L)
  have e1 : WW ^ b.length = (2 ^ L * WW ^ (b.length - 1)) * 2 ^ (32 - L) := by
    have : b.length = (b.length - 1) + 1 := by omega
    rw [this, Int.pow_succ, Nat.add_sub_cancel, Int.mul_comm (2 ^ L), Int.mul_assoc, ← Int.pow_add, show L + (32 - L) = 32 by omega]; rfl
  have e2 : 2147483648 * WW ^ (b.length - 1) = (2 ^ (L - 1) * WW ^ (b.length - 1)) * 2 ^ (32 - L) := by
    rw [Int.mul_comm (2 ^ (L - 1)), Int.mul_assoc, ← Int.pow_add, show L - 1 + (32 - L) = 31 by omega, Int.mul_comm]; rfl
  generalize rd b ((b.length : Int) - 1) = x at *
  have m1 : (x + 1) * WW ^ (b.length - 1) ≤ 2 ^ L * WW ^ (b.length - 1) := Int.mul_le_mul_of_nonneg_right (by omega) (by omega)
  have m2 : 2 ^ (L - 1) * WW ^ (b.length - 1) ≤ x * WW ^ (b.length - 1) := Int.mul_le_mul_of_nonneg_right h2 (by omega)
  rw [Int.add_mul] at m1
  rw [e1, e2]
  exact ⟨Int.mul_lt_mul_of_pos_right (by omega) hs, Int.mul_le_mul_of_nonneg_right (by omega) (by omega)⟩
theorem mag_DivMod_sp {a b : List Int} {n m : Int} (hn : a.length < 17179869184) (ha : Can WW a n) (hb : Can WW b m) (hm : 0 < m) :
    ∃ q r, Ev (fun k => mag_DivMod.f k a b) (q, r) ∧ Can WW q (n / m) ∧ Can WW r (n % m) := by
  have n0 := ha.nonneg WW_pos
  have lb : 0 < b.length := by
    rcases Nat.eq_zero_or_pos b.length with c | c
    · have := (hb.len_iff WW_pos).1 c
      omega
    · exact c
  have hc := mag_Cmp_sp (by omega) ha hb
  by_cases c1 : n < m
  · have e : cmpi n m = -1 := by unfold cmpi; rw [if_pos c1]
    rw [e] at hc
    refine ⟨[], a, ?_, ?_, ?_⟩
    · unfold mag_DivMod.f
      refine Ev.bind hc (evp (by omega) (evp (by simp; omega) ?_))
      exact evs _
    · rw [Int.ediv_eq_zero_of_lt n0 c1]; exact Can.zero _
    · rw [Int.emod_eq_of_lt n0 c1]; exact ha
  · have hcm : ¬ cmpi n m < 0 := by unfold cmpi; rw [if_neg c1]; split <;> omega
    have hba : b.length ≤ a.length := can_len_le ha hb (by omega)
    have bx := dg_rd hb.1 ((b.length : Int) - 1) (by omega) (by omega)
    have bz := hb.2.1.rd lb
    rw [WW_eq] at bx
    by_cases c2 : b.length = 1
    · have e1 : m = rd b 0 := by
        have := last_vl (a := b) lb
        rw [hb.2.2, c2] at this
        simpa [vl] using this
      rw [c2] at bx
      have bx' : 0 ≤ m ∧ m < 4294967296 := by rw [e1]; exact bx
      obtain ⟨q, q1, q2, q3⟩ := mag_divWord_sp (by omega) ha (K := m) ⟨by omega, bx'.2⟩
      have r0 := Int.emod_nonneg n (show m ≠ 0 by omega)
      have r1 := Int.emod_lt_of_pos n hm
      obtain ⟨r, r2, r3⟩ := mag_From_sp (a := n % m) r0 (by omega)
      refine ⟨q, r, ?_, q2, r3⟩
      unfold mag_DivMod.f
      refine Ev.bind hc (evn hcm (evp (by omega) (evp (by omega) ?_)))
      rw [← e1]
      refine Ev.bind q1 ?_
      rw [u64 (x := n % m) (by omega) (by omega)]
      exact Ev.bind r2 (evs _)
    · obtain ⟨L, z1, z2, z3, z4⟩ := lz32_sp bx.1 bx.2
      obtain ⟨z5, z6⟩ := z4 bz
      obtain ⟨M1, M2⟩ := normed hb lb z3 z5 z6 z2
      have hs := two_pos (32 - L)
      have hs31 := two_le31 (s := 32 - L) (by omega)
      obtain ⟨v, v1, v2, v3⟩ := mag_Shl_sp (32 - L) (by omega) hb
      obtain ⟨t, t1, t2, t3⟩ := mag_Shl_sp (32 - L) (by omega) ha
      have hvl : v.length = b.length := by
        have h1 := v2.len_le WW_one M1
        have h2 : WW ^ (b.length - 1) ≤ m * 2 ^ (32 - L) := by
          have : (0 : Int) < WW ^ (b.length - 1) := pow_pos' WW_pos _
          omega
        have h3 := v2.len_ge WW_one h2
        omega
      have htop : 2147483648 ≤ rd v ((b.length - 1 : Nat) : Int) := by
        have lv := last_vl (a := v) (by omega)
        rw [v2.2.2, hvl, show (b.length : Int) - 1 = ((b.length - 1 : Nat) : Int) by omega] at lv
        have hd := v2.1.take (b.length - 1)
        have l1 := vl_lt WW_pos hd
        rw [List.length_take, Nat.min_eq_left (by omega)] at l1
        have hP : (0 : Int) < WW ^ (b.length - 1) := pow_pos' WW_pos _
        have h3 : 2147483648 * WW ^ (b.length - 1) < (rd v ((b.length - 1 : Nat) : Int) + 1) * WW ^ (b.length - 1) := by
          rw [Int.add_mul]; omega
        have := lt_of_mul' h3 hP
        omega
      obtain ⟨u1, u2, u3⟩ := cpy_zero (t := t) (n := a.length + 1) (by omega) t2.1
      generalize hu : cpy (List.replicate (a.length + 1) 0) t = u at *
      rw [t2.2.2] at u3
      have htl := dg_rd v2.1 ((b.length - 1 : Nat) : Int) (by omega) (by omega)
      have hnl := dg_rd v2.1 ((b.length - 2 : Nat) : Int) (by omega) (by omega)
      rw [WW_eq] at htl hnl
      have hlow : vl WW (u.drop (a.length + 1 - b.length)) < m * 2 ^ (32 - L) := by
        rcases Int.lt_or_le (vl WW (u.drop (a.length + 1 - b.length))) (m * 2 ^ (32 - L)) with c | c
        · exact c
        · exfalso
          have hd := vl_drop WW u (a.length + 1 - b.length) (by omega)
          rw [u3] at hd
          have l0 := vl_nonneg WW_pos (u2.take (a.length + 1 - b.length))
          have hPi : (0 : Int) < WW ^ (a.length + 1 - b.length) := pow_pos' WW_pos _
          have a1 : WW ^ (a.length + 1 - b.length) * (2147483648 * WW ^ (b.length - 1)) ≤ WW ^ (a.length + 1 - b.length) * vl WW (u.drop (a.length + 1 - b.length)) := Int.mul_le_mul_of_nonneg_left (by omega) (by omega)
          have a2 : WW ^ (a.length + 1 - b.length) * (2147483648 * WW ^ (b.length - 1)) = 2147483648 * WW ^ a.length := by
            rw [Int.mul_left_comm, ← Int.pow_add, show a.length + 1 - b.length + (b.length - 1) = a.length by omega]
          have a3 : n * 2 ^ (32 - L) < WW ^ a.length * 2 ^ (32 - L) := Int.mul_lt_mul_of_pos_right (ha.lt WW_pos) hs
          have hPa : (0 : Int) < WW ^ a.length := pow_pos' WW_pos _
          have a4 : WW ^ a.length * 2 ^ (32 - L) ≤ WW ^ a.length * 2147483648 := Int.mul_le_mul_of_nonneg_left hs31 (by omega)
          omega
      obtain ⟨q, r, r1, r2, r3⟩ := dm_l0 (s := 32 - L) (nn := b.length) (v := v) (N := n * 2 ^ (32 - L)) (by omega) (by omega) hvl v2.1 v2.2.2 rfl rfl htop (a.length + 1 - b.length) (a.length + 1 - b.length) (List.replicate (a.length + 1 - b.length) 0) u rfl (by omega) (by omega) (by rw [List.length_replicate, u1]) u2
        (by rw [List.drop_eq_nil_of_le (by simp)]; exact Dg.nil _) hlow (by rw [List.drop_eq_nil_of_le (by simp), vl, Int.mul_zero, Int.mul_zero, Int.add_zero]; exact u3)
      rw [Int.mul_ediv_mul_of_pos_left _ _ hs] at r2
      rw [Int.mul_comm n, Int.mul_comm m, Int.mul_emod_mul_of_pos _ _ hs, Int.mul_ediv_cancel_left _ (by omega)] at r3
      refine ⟨q, r, ?_, r2, r3⟩
      unfold mag_DivMod.f
      refine Ev.bind hc (evn hcm (evn (by omega) ?_))
      rw [w64 (x := (b.length : Int) - 1) (by omega) (by omega), w64 (x := (a.length : Int) + 1) (by omega) (by omega)]
      refine evp (by omega) (evp (by omega) (evb z1 (Ev.bind v1 (evp (by omega) (evp (by omega) (evb rfl (Ev.bind t1 ?_)))))))
      rw [show ((a.length : Int) + 1).toNat = a.length + 1 by omega, hu, List.length_replicate, hvl, show ((a.length + 1 : Nat) : Int) - (b.length : Int) = ((a.length + 1 - b.length : Nat) : Int) by omega, w64 (x := ((a.length + 1 - b.length : Nat) : Int)) (by omega) (by omega), w64 (x := ((a.length + 1 - b.length : Nat) : Int) - 1) (by omega) (by omega), show (b.length : Int) - 1 = ((b.length - 1 : Nat) : Int) by omega, show (b.length : Int) - 2 = ((b.length - 2 : Nat) : Int) by omega, w64 (x := ((b.length - 1 : Nat) : Int)) (by omega) (by omega), w64 (x := ((b.length - 2 : Nat) : Int)) (by omega) (by omega), u64 (x := rd v ((b.length - 1 : Nat) : Int)) (by omega) (by omega), u64 (x := rd v ((b.length - 2 : Nat) : Int)) (by omega) (by omega), Int.toNat_natCast]
      exact evp (by omega) (evp (by omega) (evp (by omega) (evp (by omega) (evp (by omega) (evp (by omega) r1)))))
end Go.Proofs.Ytfpolhoabfadnaa.P
end
section
namespace Go.Proofs.Ytfpolhoabfadnaa.P
open Go.RowKit Go.Proofs.YtfpolhoabfadnaaW.PrintWords Go.Proofs.YtfpolhoabfadnaaW.PrintLast Go.Proofs.YtfpolhoabfadnaaW.PrintMore
set_option linter.unusedVariables false
theorem dg_wf {l : List Int} (h : ∀ x ∈ l, (Lit.int .u32 x).wf = true) : Dg WW l := by
  intro x hx
  have h1 := h x hx
  have h2 : IntKind.u32.min = 0 := rfl
  have h3 : IntKind.u32.max = 4294967295 := rfl
  simp only [Lit.wf, Bool.and_eq_true, decide_eq_true_eq, h2, h3] at h1
  rw [WW_eq]
  omega
theorem limited_sp {a : List Int} (h : a.length ≤ 4096) : nat_limited.f a = some (a, 0) := by
  unfold nat_limited.f
  rw [if_neg (by omega), if_pos (by simp; omega)]
  rfl
end Go.Proofs.Ytfpolhoabfadnaa.P
end
section
namespace Go.Proofs.Ytfpolhoabfadnaa.P
open Go.RowKit Go.Proofs.YtfpolhoabfadnaaW.PrintWords Go.Proofs.YtfpolhoabfadnaaW.PrintLast Go.Proofs.YtfpolhoabfadnaaW.PrintMore
set_option linter.unusedVariables false
theorem nat_valid {a : List Int} (hl : a.length ≤ 4096) (hn : Nm a) : nat_Valid.f a = some true := by
  obtain ⟨p, _, h1, h2⟩ := valid_sp a (by omega)
  rw [h1, h2.2 ⟨hl, hn⟩]
end Go.Proofs.Ytfpolhoabfadnaa.P
end
section
namespace Go.Proofs.Ytfpolhoabfadnaa.P
open Go.RowKit Go.Proofs.YtfpolhoabfadnaaW.PrintWords Go.Proofs.YtfpolhoabfadnaaW.PrintLast Go.Proofs.YtfpolhoabfadnaaW.PrintMore
set_option linter.unusedVariables false
theorem r_little_ev {a : List Int} (hl : a.length ≤ 4) (ha : Dg RR a) (d : Nat) : ∀ (i : Nat) (x : Int), i = d → i ≤ a.length → x = vl RR (a.drop i) → Ev (fun k => isochroneref01_little.l0 k a x ((i : Int) - 1)) (vl RR a, true) := by
  have bd : ∀ i : Nat, i ≤ a.length → 0 ≤ vl RR (a.drop i) ∧ vl RR (a.drop i) < 10000000000000000 := by
    intro i hi
    have h1 := vl_lt RR_pos (ha.drop i)
    have h2 := pow_le (B := RR) (by decide) (show (a.drop i).length ≤ 4 by rw [List.length_drop]; omega)
    have h3 : RR ^ 4 = 10000000000000000 := by decide
    exact ⟨vl_nonneg RR_pos (ha.drop i), by omega⟩
  induction d with
  | zero =>
    rintro i x rfl h1 h2
    rw [List.drop_zero] at h2
    subst h2
    refine Ev.step (fun k => by rw [isochroneref01_little.l0]) ?_
    exact evn (by omega) (evs _)
  | succ d ih =>
    rintro i x rfl h1 h2
    have hx := dg_rd ha (d : Int) (by omega) (by omega)
    rw [RR_eq] at hx
    have b1 := bd (d + 1) (by omega)
    have b0 := bd d (by omega)
    have e : x * 10000 + rd a (d : Int) = vl RR (a.drop d) := by
      rw [h2, drop_rd a d (by omega), vl, RR_eq]; omega
    have next := ih d (x * 10000 + rd a (d : Int)) rfl (by omega) e
    refine Ev.step (fun k => by rw [isochroneref01_little.l0]) ?_
    rw [show (((d + 1 : Nat) : Int) - 1) = (d : Int) by omega, w64 (x := x * 10000) (by omega) (by omega), w64 (x := x * 10000 + rd a (d : Int)) (by omega) (by omega), w64 (x := (d : Int) - 1) (by omega) (by omega)]
    exact evp (by omega) (evp (by omega) (evp (by omega) next))
theorem r_little_sp {a : List Int} {n : Int} (hl : a.length < 4611686018427387904) (ha : Can RR a n) : (a.length ≤ 4 → Ev (fun k => isochroneref01_little.f k a) (n, true)) ∧ (4 < a.length → Ev (fun k => isochroneref01_little.f k a) (0, false)) := by
  constructor
  · intro h
    have := r_little_ev h ha.1 a.length a.length 0 rfl (Nat.le_refl _) (by rw [List.drop_length]; rfl)
    rw [ha.2.2] at this
    unfold isochroneref01_little.f
    rw [w64 (x := (a.length : Int) - 1) (by omega) (by omega)]
    exact evn (by omega) this
  · intro h
    unfold isochroneref01_little.f
    exact evp (by omega) (evs _)
theorem digit_l3 {r b : List Int} {x m : Int} (hr : r.length < 34359738368) (hb : b.length < 34359738368) (cr : Can RR r x) (cb : Can RR b m) (hm : 0 < m) (hx : x < m * 10000) (c : Nat) : ∀ q : Int, (10000 - q).toNat ≤ c → 0 ≤ q → q ≤ 9999 → m * q ≤ x → Ev (fun k => isochroneref01_digit.l3 k r b q) (x / m) := by
  have fin : ∀ q : Int, 0 ≤ q → m * q ≤ x → x < m * (q + 1) → x / m = q := by
    intro q h0 h1 h2
    have d1 := Int.mul_ediv_add_emod x m
    have d2 := Int.emod_nonneg x (show m ≠ 0 by omega)
    have d3 := Int.emod_lt_of_pos x hm
    have l1 : m * q < m * (x / m + 1) := by rw [Int.mul_add]; omega
    have l2 : m * (x / m) < m * (q + 1) := by omega
    have l3 := Int.lt_of_mul_lt_mul_left l1 (Int.le_of_lt hm)
    have l4 := Int.lt_of_mul_lt_mul_left l2 (Int.le_of_lt hm)
    omega
  induction c with
  | zero => intro q h1 h2 h3 h4; omega
  | succ c ih =>
    intro q h1 h2 h3 h4
    refine Ev.step (fun k => by rw [isochroneref01_digit.l3]) ?_
    rw [w64 (x := q + 1) (by omega) (by omega)]
    by_cases c1 : q + 1 < 10000
    · obtain ⟨s, s1, s2, s3⟩ := r_Small_sp (k0 := q + 1) (c0 := 0) (by omega) cb ⟨by omega, by omega⟩ ⟨by omega, by omega⟩
      rw [Int.add_zero] at s2
      have k1 := isochroneref01_Cmp_sp (by omega) s2 cr
      by_cases c2 : m * (q + 1) ≤ x
      · refine evp c1 (Ev.bind s1 (Ev.bind k1 (evp ?_ (ih (q + 1) (by omega) (by omega) (by omega) c2))))
        unfold cmpi; split <;> (try split) <;> omega
      · rw [fin q h2 h4 (by omega)]
        refine evp c1 (Ev.bind s1 (Ev.bind k1 (evn ?_ (evs _))))
        unfold cmpi; rw [if_neg (by omega), if_neg (by omega)]; omega
    · have e : q = 9999 := by omega
      subst e
      rw [fin 9999 h2 h4 (by omega)]
      exact evn c1 (evs _)
theorem digit_l2 {r b : List Int} {x m : Int} (hr : r.length < 34359738368) (hb : b.length < 34359738368) (cr : Can RR r x) (cb : Can RR b m) (hm : 0 < m) (hx : x < m * 10000) (c : Nat) : ∀ q : Int, q.toNat ≤ c → 0 ≤ q → q ≤ 9999 → Ev (fun k => isochroneref01_digit.l2 k r b q) (x / m) := by
  have x0 := cr.nonneg RR_pos
  induction c with
  | zero =>
    intro q h1 h2 h3
    have e : q = 0 := by omega
    subst e
    obtain ⟨s, s1, s2, s3⟩ := r_Small_sp (k0 := 0) (c0 := 0) (by omega) cb ⟨by omega, by omega⟩ ⟨by omega, by omega⟩
    rw [Int.add_zero, Int.mul_zero] at s2
    have k1 := isochroneref01_Cmp_sp (by omega) s2 cr
    refine Ev.step (fun k => by rw [isochroneref01_digit.l2]) ?_
    refine Ev.bind s1 (Ev.bind k1 (evn ?_ (digit_l3 hr hb cr cb hm hx _ 0 (Nat.le_refl _) (by omega) (by omega) (by omega))))
    unfold cmpi; split <;> (try split) <;> omega
  | succ c ih =>
    intro q h1 h2 h3
    obtain ⟨s, s1, s2, s3⟩ := r_Small_sp (k0 := q) (c0 := 0) (by omega) cb ⟨by omega, by omega⟩ ⟨by omega, by omega⟩
    rw [Int.add_zero] at s2
    have k1 := isochroneref01_Cmp_sp (by omega) s2 cr
    refine Ev.step (fun k => by rw [isochroneref01_digit.l2]) ?_
    rw [w64 (x := q - 1) (by omega) (by omega)]
    by_cases c2 : m * q ≤ x
    · refine Ev.bind s1 (Ev.bind k1 (evn ?_ (digit_l3 hr hb cr cb hm hx _ q (Nat.le_refl _) h2 h3 c2)))
      unfold cmpi; split <;> (try split) <;> omega
    · have hq : q ≠ 0 := fun h => by rw [h, Int.mul_zero] at c2; omega
      refine Ev.bind s1 (Ev.bind k1 (evp ?_ (ih (q - 1) (by omega) (by omega) (by omega))))
      unfold cmpi; rw [if_neg (by omega), if_neg (by omega)]; omega
end Go.Proofs.Ytfpolhoabfadnaa.P
end
section
namespace Go.Proofs.Ytfpolhoabfadnaa.P
open Go.RowKit Go.Proofs.YtfpolhoabfadnaaW.PrintWords Go.Proofs.YtfpolhoabfadnaaW.PrintLast Go.Proofs.YtfpolhoabfadnaaW.PrintMore
set_option linter.unusedVariables false
theorem digit_j2 {r b : List Int} {x m t low : Int} (hr : r.length < 34359738368) (hb : b.length < 34359738368) (cr : Can RR r x) (cb : Can RR b m) (hm : 0 < m) (hx : x < m * 10000) (ht : 0 ≤ t ∧ t < 4611686018427387904) (hl : 0 < low) : Ev (fun k => isochroneref01_digit.j2 k r b t low) (x / m) := by
  have q0 : 0 ≤ t / low := Int.ediv_nonneg ht.1 (by omega)
  have q1 : t / low ≤ t := Int.ediv_le_self _ ht.1
  refine Ev.step (fun k => by rw [isochroneref01_digit.j2]) ?_
  rw [tdiv_nn ht.1, w64 (x := t / low) (by omega) (by omega)]
  refine evn (by omega) (digit_l2 hr hb cr cb hm hx _ _ (Nat.le_refl _) ?_ ?_)
  · unfold mn; split <;> omega
  · unfold mn; split <;> omega
theorem digit_l1 {r b : List Int} {x m t : Int} (hr : r.length < 34359738368) (hb : b.length < 34359738368) (cr : Can RR r x) (cb : Can RR b m) (hm : 0 < m) (hx : x < m * 10000) (ht : 0 ≤ t ∧ t < 4611686018427387904) : Ev (fun k => isochroneref01_digit.l1 k r b (b.length : Int) t 0 ((b.length : Int) - 1)) (x / m) := by
  have lb : b.length ≠ 0 := fun h => by have := (cb.len_iff RR_pos).1 h; omega
  have h1 := dg_rd cb.1 ((b.length : Int) - 1) (by omega) (by omega)
  have z1 := cb.2.1.rd (by omega)
  rw [RR_eq] at h1
  by_cases c : b.length = 1
  · rw [c] at h1 z1
    have e0 : ((1 : Nat) : Int) - 1 = 0 := by omega
    rw [e0] at h1 z1
    have hj := digit_j2 hr hb cr cb hm hx ht (low := rd b 0) (by omega)
    have em : mx 0 (wrap64 (((1 : Nat) : Int) - 2)) = 0 := by rw [w64 (by omega) (by omega)]; unfold mx; split <;> omega
    refine Ev.step (fun k => by rw [isochroneref01_digit.l1]) ?_
    rw [c, em, e0, w64 (x := 0 * 10000) (by omega) (by omega), w64 (x := 0 * 10000 + rd b 0) (by omega) (by omega), w64 (x := 0 - 1) (by omega) (by omega)]
    refine evp (by omega) (evp (by omega) (evp (by omega) ?_))
    refine Ev.step (fun k => by rw [isochroneref01_digit.l1]) ?_
    rw [em]
    exact evn (by omega) (evp (by omega) (evp (by omega) hj))
  · have h2 := dg_rd cb.1 ((b.length : Int) - 2) (by omega) (by omega)
    rw [RR_eq] at h2
    have em : mx 0 (wrap64 ((b.length : Int) - 2)) = (b.length : Int) - 2 := by rw [w64 (by omega) (by omega)]; unfold mx; split <;> omega
    have hj := digit_j2 hr hb cr cb hm hx ht (low := (0 * 10000 + rd b ((b.length : Int) - 1)) * 10000 + rd b ((b.length : Int) - 2)) (by omega)
    refine Ev.step (fun k => by rw [isochroneref01_digit.l1]) ?_
    rw [em, w64 (x := 0 * 10000) (by omega) (by omega), w64 (x := 0 * 10000 + rd b ((b.length : Int) - 1)) (by omega) (by omega), w64 (x := (b.length : Int) - 1 - 1) (by omega) (by omega), show (b.length : Int) - 1 - 1 = (b.length : Int) - 2 by omega]
    refine evp (by omega) (evp (by omega) (evp (by omega) ?_))
    refine Ev.step (fun k => by rw [isochroneref01_digit.l1]) ?_
    rw [em, w64 (x := (0 * 10000 + rd b ((b.length : Int) - 1)) * 10000) (by omega) (by omega), w64 (x := (0 * 10000 + rd b ((b.length : Int) - 1)) * 10000 + rd b ((b.length : Int) - 2)) (by omega) (by omega), w64 (x := (b.length : Int) - 2 - 1) (by omega) (by omega)]
    refine evp (by omega) (evp (by omega) (evp (by omega) ?_))
    refine Ev.step (fun k => by rw [isochroneref01_digit.l1]) ?_
    rw [em]
    exact evn (by omega) (evn (by omega) hj)
theorem digit_l0 {r b : List Int} {x m : Int} (hr : r.length < 34359738368) (hb : b.length < 34359738368) (cr : Can RR r x) (cb : Can RR b m) (hm : 0 < m) (hx : x < m * 10000) (c : Nat) : ∀ (t i : Int), (i + 1 - mx 0 ((b.length : Int) - 2)).toNat = c → -1 ≤ i → i ≤ b.length → 0 ≤ t → t < 10000 ^ (3 - c) → c ≤ 3 → Ev (fun k => isochroneref01_digit.l0 k r b (b.length : Int) t 0 i) (x / m) := by
  have em : wrap64 ((b.length : Int) - 2) = (b.length : Int) - 2 := by rw [w64 (by omega) (by omega)]
  have hlo : 0 ≤ mx 0 ((b.length : Int) - 2) := by unfold mx; split <;> omega
  induction c with
  | zero =>
    intro t i h1 h2 h3 h4 h5 h6
    have := digit_l1 hr hb cr cb hm hx (t := t) ⟨h4, Int.lt_trans h5 (by decide)⟩
    refine Ev.step (fun k => by rw [isochroneref01_digit.l0]) ?_
    rw [em, w64 (x := (b.length : Int) - 1) (by omega) (by omega)]
    exact evn (by omega) this
  | succ c ih =>
    intro t i h1 h2 h3 h4 h5 h6
    have hp : (10000 : Int) ^ (3 - (c + 1)) * 10000 = 10000 ^ (3 - c) := by
      rw [← Int.pow_succ]; congr 1; omega
    have hq : (10000 : Int) ^ (3 - c) ≤ 10000 ^ 3 := pow_le (by decide) (by omega)
    have hq3 : (10000 : Int) ^ 3 = 1000000000000 := by decide
    refine Ev.step (fun k => by rw [isochroneref01_digit.l0]) ?_
    rw [em, w64 (x := t * 10000) (by omega) (by omega), w64 (x := i - 1) (by omega) (by omega)]
    refine evp (by omega) ?_
    by_cases c1 : i < (r.length : Int)
    · have hx' := dg_rd cr.1 i (by omega) (by omega)
      rw [RR_eq] at hx'
      rw [w64 (x := t * 10000 + rd r i) (by omega) (by omega)]
      exact evp c1 (evp (by omega) (ih (t * 10000 + rd r i) (i - 1) (by omega) (by omega) (by omega) (by omega) (by omega) (by omega)))
    · exact evn c1 (ih (t * 10000) (i - 1) (by omega) (by omega) (by omega) (by omega) (by omega) (by omega))
theorem r_digit_sp {r b : List Int} {x m : Int} (hr : r.length < 34359738368) (hb : b.length < 34359738368) (cr : Can RR r x) (cb : Can RR b m) (hm : 0 < m) (hx : x < m * 10000) : Ev (fun k => isochroneref01_digit.f k r b) (x / m) := by
  unfold isochroneref01_digit.f
  have hlo : (((b.length : Int) + 1 - mx 0 ((b.length : Int) - 2)).toNat) ≤ 3 := by unfold mx; split <;> omega
  exact digit_l0 hr hb cr cb hm hx _ 0 _ rfl (by omega) (Int.le_refl _) (by omega) (Int.pow_pos (by decide)) hlo
end Go.Proofs.Ytfpolhoabfadnaa.P
end
section
namespace Go.Proofs.Ytfpolhoabfadnaa.P
open Go.RowKit Go.Proofs.YtfpolhoabfadnaaW.PrintWords Go.Proofs.YtfpolhoabfadnaaW.PrintLast Go.Proofs.YtfpolhoabfadnaaW.PrintMore
set_option linter.unusedVariables false
theorem alg_rd {x m q d a R va : Int} (h : x + m * q = va) : (x * R + a - m * d) + m * (d + R * q) = a + R * va := by grind
theorem r_dm_l0 {a b : List Int} {n m : Int} (hn : a.length < 17179869184) (hb : b.length < 17179869184) (ha : Can RR a n) (cb : Can RR b m) (hm : 0 < m) (d : Nat) : ∀ (i : Nat) (q r : List Int) (x : Int), i = d → i ≤ a.length → q.length = a.length → Dg RR (q.drop i) → Can RR r x → x < m → x + m * vl RR (q.drop i) = vl RR (a.drop i) → (∀ j : Nat, j < i → rd q (j : Int) = 0) →
    ∃ q' r', Ev (fun k => isochroneref01_DivMod.l0 k a b q r ((i : Int) - 1)) (q', r') ∧ Can RR q' (n / m) ∧ Can RR r' (n % m) ∧ q'.length ≤ a.length := by
  induction d with
  | zero =>
    rintro i q r x rfl h1 h2 h3 h4 h5 h6 h7
    rw [List.drop_zero, List.drop_zero, ha.2.2] at h6
    rw [List.drop_zero] at h3
    have x0 := h4.nonneg RR_pos
    obtain ⟨t, t1, t2, t3⟩ := r_trim_sp (l := q) (by omega) h3
    have e1 : n / m = vl RR q := by rw [← h6, Int.add_mul_ediv_left _ _ (by omega), Int.ediv_eq_zero_of_lt x0 h5, Int.zero_add]
    have e2 : n % m = x := by rw [← h6, Int.add_mul_emod_self_left, Int.emod_eq_of_lt x0 h5]
    refine ⟨t, r, ?_, by rw [e1]; exact t2, by rw [e2]; exact h4, by omega⟩
    refine Ev.step (fun k => by rw [isochroneref01_DivMod.l0]) ?_
    exact evn (by omega) (Ev.bind t1 (evs _))
  | succ d ih =>
    rintro i q r x rfl h1 h2 h3 h4 h5 h6 h7
    have hx := dg_rd ha.1 (d : Int) (by omega) (by omega)
    rw [RR_eq] at hx
    have x0 := h4.nonneg RR_pos
    have lr := canR_len_le cb h4 (by omega)
    obtain ⟨t, t1, t2, t3⟩ := r_Small_sp (k0 := 10000) (c0 := rd a (d : Int)) (by omega) h4 ⟨by omega, by omega⟩ ⟨hx.1, by omega⟩
    have k1 := isochroneref01_Cmp_sp (by omega) t2 cb
    by_cases c1 : x * 10000 + rd a (d : Int) < m
    · obtain ⟨q', r', e1, e2⟩ := ih d q t (x * 10000 + rd a (d : Int)) rfl (by omega) h2
        (by rw [drop_rd q d (by omega)]; exact Dg.mk (by rw [h7 d (by omega)]; omega) (by rw [h7 d (by omega)]; decide) h3) t2 c1
        (by
          have := alg_rd (R := RR) (a := rd a (d : Int)) (d := 0) h6
          rw [drop_rd q d (by omega), drop_rd a d (by omega), vl, vl, h7 d (by omega)]
          rw [Int.mul_zero, Int.sub_zero] at this
          exact this) (fun j hj => h7 j (by omega))
      refine ⟨q', r', ?_, e2⟩
      refine Ev.step (fun k => by rw [isochroneref01_DivMod.l0]) ?_
      rw [show (((d + 1 : Nat) : Int) - 1) = (d : Int) by omega, w64 (x := (d : Int) - 1) (by omega) (by omega)]
      refine evp (by omega) (evp (by omega) (evp (by omega) (Ev.bind t1 (Ev.bind k1 (evp ?_ e1)))))
      unfold cmpi; rw [if_pos c1]; omega
    · have d1 := Int.mul_ediv_add_emod (x * 10000 + rd a (d : Int)) m
      have d2 := Int.emod_nonneg (x * 10000 + rd a (d : Int)) (show m ≠ 0 by omega)
      have d3 := Int.emod_lt_of_pos (x * 10000 + rd a (d : Int)) hm
      have hg := r_digit_sp (r := t) (b := b) (by omega) (by omega) t2 cb hm (by omega)
      have g0 : 0 ≤ (x * 10000 + rd a (d : Int)) / m := Int.ediv_nonneg (by omega) (by omega)
      have g1 : (x * 10000 + rd a (d : Int)) / m < 10000 := Int.ediv_lt_of_lt_mul hm (by omega)
      generalize hG : (x * 10000 + rd a (d : Int)) / m = g at *
      obtain ⟨s, s1, s2, s3⟩ := r_Small_sp (k0 := g) (c0 := 0) (by omega) cb ⟨by omega, by omega⟩ ⟨by omega, by omega⟩
      rw [Int.add_zero] at s2
      obtain ⟨y, y1, y2, y3⟩ := r_Sub_sp (by omega) t2 s2 (by omega)
      have hs := rd_set_eq q (d : Int) g (by omega)
      rw [Int.toNat_natCast] at hs
      obtain ⟨q', r', e1, e2⟩ := ih d (q.set d g) y (x * 10000 + rd a (d : Int) - m * g) rfl (by omega) (by simpa using h2)
        (by rw [drop_set_self _ _ _ (by omega)]; exact Dg.mk g0 (by rw [RR_eq]; exact g1) h3) y2 (by omega)
        (by
          rw [drop_set_self _ _ _ (by omega), drop_rd a d (by omega), vl, vl]
          exact alg_rd h6)
        (fun j hj => by
          have := rd_set_ne q (d : Int) (j : Int) g (by omega)
          rw [Int.toNat_natCast] at this
          rw [this]
          exact h7 j (by omega))
      refine ⟨q', r', ?_, e2⟩
      refine Ev.step (fun k => by rw [isochroneref01_DivMod.l0]) ?_
      rw [show (((d + 1 : Nat) : Int) - 1) = (d : Int) by omega, w64 (x := (d : Int) - 1) (by omega) (by omega), Int.toNat_natCast]
      refine evp (by omega) (evp (by omega) (evp (by omega) (Ev.bind t1 (Ev.bind k1 (evn ?_ (Ev.bind hg (evp (by omega) (evb rfl ?_))))))))
      · unfold cmpi; rw [if_neg c1]; split <;> omega
      · rw [hs]
        exact Ev.bind s1 (Ev.bind y1 e1)
end Go.Proofs.Ytfpolhoabfadnaa.P
end
section
namespace Go.Proofs.Ytfpolhoabfadnaa.P
open Go.RowKit Go.Proofs.YtfpolhoabfadnaaW.PrintWords Go.Proofs.YtfpolhoabfadnaaW.PrintLast Go.Proofs.YtfpolhoabfadnaaW.PrintMore
set_option linter.unusedVariables false
theorem r_Int_wide {a : Int} (h0 : 0 ≤ a) (h1 : a < 100000000000000000) : ∃ r, Ev (fun k => isochroneref01_Int.f k a) r ∧ Can RR r a := by
  by_cases c : a < 10000000000000
  · exact r_Int_sp h0 c
  · obtain ⟨r, h2, h3⟩ := r_Int_ev a (a / 10000).toNat [a % 10000] (a / 10000) (by omega) (by omega) (by simp; omega) (Dg.mk (by omega) (by rw [RR_eq]; omega) (Dg.nil _)) (fun h => by omega) (by
      show a % 10000 + RR * 0 + a / 10000 * RR ^ 1 = a
      rw [RR_eq]; omega)
    refine ⟨r, ?_, h3⟩
    refine Ev.congr (fun k => by rw [isochroneref01_Int.f]) ?_
    refine Ev.step (fun k => by rw [isochroneref01_Int.l0]) ?_
    rw [tmod_nn h0, tdiv_nn h0, w64 (x := a / 10000) (by omega) (by omega)]
    exact evp (by omega) (evp (by simp) h2)
theorem r_DivMod_sp {a b : List Int} {n m : Int} (hn : a.length < 1073741824) (hb : b.length < 1073741824) (ha : Can RR a n) (cb : Can RR b m) (hm : 0 < m) :
    ∃ q r, Ev (fun k => isochroneref01_DivMod.f k a b) (q, r) ∧ Can RR q (n / m) ∧ Can RR r (n % m) ∧ q.length < 1073741824 ∧ r.length < 1073741824 := by
  have n0 := ha.nonneg RR_pos
  have hc := isochroneref01_Cmp_sp (by omega) ha cb
  have r0 := Int.emod_nonneg n (show m ≠ 0 by omega)
  have r1 := Int.emod_lt_of_pos n hm
  have fin : ∀ q r, Can RR q (n / m) → Can RR r (n % m) → q.length < 1073741824 ∧ r.length < 1073741824 := by
    intro q r hq hr
    have l1 := canR_len_le ha hq (Int.ediv_le_self _ n0)
    have l2 := canR_len_le cb hr (by omega)
    omega
  have key : ∃ q r, Ev (fun k => isochroneref01_DivMod.f k a b) (q, r) ∧ Can RR q (n / m) ∧ Can RR r (n % m) := by
    by_cases c1 : n < m
    · refine ⟨[], a, ?_, by rw [Int.ediv_eq_zero_of_lt n0 c1]; exact Can.zero _, by rw [Int.emod_eq_of_lt n0 c1]; exact ha⟩
      unfold isochroneref01_DivMod.f
      refine Ev.bind hc (evp ?_ (evs _))
      unfold cmpi; rw [if_pos c1]; omega
    · have hcm : ¬ cmpi n m < 0 := by unfold cmpi; rw [if_neg c1]; split <;> omega
      have lba := canR_len_le ha cb (by omega)
      obtain ⟨la1, la2⟩ := r_little_sp (by omega) ha
      obtain ⟨lb1, lb2⟩ := r_little_sp (by omega) cb
      by_cases c2 : a.length ≤ 4
      · have hlt := ha.lt RR_pos
        have h4 := pow_le (B := RR) (by decide) c2
        have h5 : RR ^ 4 = 10000000000000000 := by decide
        have q0 : 0 ≤ n / m := Int.ediv_nonneg n0 (by omega)
        have q1 : n / m ≤ n := Int.ediv_le_self _ n0
        obtain ⟨x, x1, x2⟩ := r_Int_wide (a := n / m) q0 (by omega)
        obtain ⟨y, y1, y2⟩ := r_Int_wide (a := n % m) r0 (by omega)
        refine ⟨x, y, ?_, x2, y2⟩
        unfold isochroneref01_DivMod.f
        refine Ev.bind hc (evn hcm (Ev.bind (la1 c2) (evp rfl (Ev.bind (lb1 (by omega)) (evn (show ¬ m = 0 by omega) ?_)))))
        rw [tdiv_nn n0, tmod_nn n0, w64 (x := n / m) (by omega) (by omega)]
        exact Ev.bind x1 (Ev.bind y1 (evs _))
      · by_cases c3 : b.length = 1
        · have hx := dg_rd cb.1 0 (by omega) (by omega)
          rw [RR_eq] at hx
          have em : m = rd b 0 := by
            have e := vl_take RR b 0 (by omega)
            rw [show 0 + 1 = b.length by omega, List.take_length, cb.2.2] at e
            simpa [vl] using e
          obtain ⟨q, q1, q2, q3⟩ := r_Split_sp (by omega) ha (K := m) ⟨by omega, by omega⟩
          obtain ⟨y, y1, y2⟩ := r_Int_wide (a := n % m) r0 (by omega)
          refine ⟨q, y, ?_, q2, y2⟩
          unfold isochroneref01_DivMod.f
          refine Ev.bind hc (evn hcm (Ev.bind (la2 (by omega)) (evn (by simp) (evp (by omega) (evp (by omega) ?_)))))
          rw [← em]
          exact Ev.bind q1 (Ev.bind y1 (evs _))
        · obtain ⟨q, r, e1, e2, e3, e4⟩ := r_dm_l0 (by omega) (by omega) ha cb hm a.length a.length (List.replicate a.length 0) [] 0 rfl (Nat.le_refl _) (by simp) (by rw [List.drop_eq_nil_of_le (by simp)]; exact Dg.nil _) (Can.zero _) hm (by rw [List.drop_eq_nil_of_le (by simp), List.drop_length]; simp [vl]) (fun j hj => by rw [rd_lt _ _ (by simpa using hj)]; simp)
          refine ⟨q, r, ?_, e2, e3⟩
          unfold isochroneref01_DivMod.f
          refine Ev.bind hc (evn hcm (Ev.bind (la2 (by omega)) (evn (by simp) (evn (by omega) (evp (by omega) (evp (by omega) ?_))))))
          rw [w64 (x := (a.length : Int) - 1) (by omega) (by omega), Int.toNat_natCast]
          exact e1
  obtain ⟨q, r, e1, e2, e3⟩ := key
  exact ⟨q, r, e1, e2, e3, fin q r e2 e3⟩
end Go.Proofs.Ytfpolhoabfadnaa.P
end
section
namespace Go.Proofs.Ytfpolhoabfadnaa.P
open Go.RowKit Go.Proofs.YtfpolhoabfadnaaW.PrintWords Go.Proofs.YtfpolhoabfadnaaW.PrintLast Go.Proofs.YtfpolhoabfadnaaW.PrintMore
set_option linter.unusedVariables false
def gI (a b : Int) : Int := ((Int.gcd a b : Nat) : Int)
theorem gI_comm (a b : Int) : gI a b = gI b a := by unfold gI; rw [Int.gcd_comm]
theorem gI_zero {a : Int} (h : 0 ≤ a) : gI a 0 = a := by
  unfold gI
  rw [Int.gcd_zero_right]
  omega
theorem gI_sub (a b k : Int) : gI b (a - k * b) = gI a b := by
  unfold gI
  rw [Int.gcd_sub_mul_right_right, Int.gcd_comm]
theorem gI_mod (a b : Int) : gI b (a % b) = gI a b := by
  rw [Int.emod_def, Int.mul_comm b]
  exact gI_sub a b (a / b)
theorem gI_le {a b : Int} (h : 0 < b) : gI a b ≤ b := by
  unfold gI
  exact Int.le_of_dvd h (Int.gcd_dvd_right a b)
theorem r_gcd_l1 (c : Nat) : ∀ x y : Int, y.toNat = c → 0 ≤ x → x < 100000000000000000 → 0 ≤ y → y < 100000000000000000 → ∃ r, Ev (fun k => isochroneref01_GCD.l1 k x y) r ∧ Can RR r (gI x y) := by
  induction c using Nat.strongRecOn with
  | _ c ih =>
    intro x y hc x0 x1 y0 y1
    by_cases c1 : y > 0
    · have m0 := Int.emod_nonneg x (show y ≠ 0 by omega)
      have m1 := Int.emod_lt_of_pos x c1
      obtain ⟨r, r1, r2⟩ := ih (x % y).toNat (by omega) y (x % y) rfl y0 y1 m0 (by omega)
      rw [gI_mod] at r2
      refine ⟨r, ?_, r2⟩
      refine Ev.step (fun k => by rw [isochroneref01_GCD.l1]) ?_
      rw [tmod_nn x0]
      exact evp c1 (evn (by omega) r1)
    · have e : y = 0 := by omega
      subst e
      obtain ⟨r, r1, r2⟩ := r_Int_wide x0 x1
      rw [gI_zero x0]
      refine ⟨r, ?_, r2⟩
      refine Ev.step (fun k => by rw [isochroneref01_GCD.l1]) ?_
      exact evn (by omega) (Ev.bind r1 (evs _))
theorem r_gcd_l0 (c : Nat) : ∀ (a b : List Int) (n m : Int), m.toNat = c → a.length < 1073741824 → b.length < 1073741824 → Can RR a n → Can RR b m → ∃ r, Ev (fun k => isochroneref01_GCD.l0 k a b) r ∧ Can RR r (gI n m) := by
  induction c using Nat.strongRecOn with
  | _ c ih =>
    intro a b n m hc la lb ha hb
    have n0 := ha.nonneg RR_pos
    have m0 := hb.nonneg RR_pos
    have hz := hb.len_iff RR_pos
    by_cases c1 : m = 0
    · have e := hz.2 c1
      rw [c1, gI_zero n0]
      refine ⟨a, ?_, ha⟩
      refine Ev.step (fun k => by rw [isochroneref01_GCD.l0]) ?_
      exact evn (by omega) (evs _)
    · have e : b.length ≠ 0 := fun h => c1 (hz.1 h)
      have mp : 0 < m := by omega
      obtain ⟨la1, la2⟩ := r_little_sp (by omega) ha
      obtain ⟨lb1, lb2⟩ := r_little_sp (by omega) hb
      have h5 : RR ^ 4 = 10000000000000000 := by decide
      have slow : ∀ x y, ∃ r, Ev (fun k => isochroneref01_GCD.j1 k a b x y false) r ∧ Can RR r (gI n m) := by
        intro x y
        have r0 := Int.emod_nonneg n (show m ≠ 0 by omega)
        have r1 := Int.emod_lt_of_pos n mp
        obtain ⟨q, r, d1, d2, d3, d4, d5⟩ := r_DivMod_sp la lb ha hb mp
        obtain ⟨z, z1, z2⟩ := ih (n % m).toNat (by omega) b r m (n % m) rfl lb d5 hb d3
        rw [gI_mod] at z2
        refine ⟨z, ?_, z2⟩
        refine Ev.step (fun k => by rw [isochroneref01_GCD.j1]) ?_
        exact evn (by simp) (Ev.bind d1 z1)
      by_cases c2 : a.length ≤ 4
      · by_cases c3 : b.length ≤ 4
        · have hlt := ha.lt RR_pos
          have h4 := pow_le (B := RR) (by decide) c2
          have hlt' := hb.lt RR_pos
          have h4' := pow_le (B := RR) (by decide) c3
          obtain ⟨z, z1, z2⟩ := r_gcd_l1 _ n m rfl n0 (by omega) m0 (by omega)
          refine ⟨z, ?_, z2⟩
          refine Ev.step (fun k => by rw [isochroneref01_GCD.l0]) ?_
          refine evp (by omega) (Ev.bind (la1 c2) (Ev.bind (lb1 c3) (evp rfl ?_)))
          refine Ev.step (fun k => by rw [isochroneref01_GCD.j1]) ?_
          exact evp rfl z1
        · obtain ⟨z, z1, z2⟩ := slow n 0
          refine ⟨z, ?_, z2⟩
          refine Ev.step (fun k => by rw [isochroneref01_GCD.l0]) ?_
          exact evp (by omega) (Ev.bind (la1 c2) (Ev.bind (lb2 (by omega)) (evp rfl z1)))
      · by_cases c3 : b.length ≤ 4
        · obtain ⟨z, z1, z2⟩ := slow 0 m
          refine ⟨z, ?_, z2⟩
          refine Ev.step (fun k => by rw [isochroneref01_GCD.l0]) ?_
          exact evp (by omega) (Ev.bind (la2 (by omega)) (Ev.bind (lb1 c3) (evn (by simp) z1)))
        · obtain ⟨z, z1, z2⟩ := slow 0 0
          refine ⟨z, ?_, z2⟩
          refine Ev.step (fun k => by rw [isochroneref01_GCD.l0]) ?_
          exact evp (by omega) (Ev.bind (la2 (by omega)) (Ev.bind (lb2 (by omega)) (evn (by simp) z1)))
theorem r_GCD_sp {a b : List Int} {n m : Int} (la : a.length < 1073741824) (lb : b.length < 1073741824) (ha : Can RR a n) (hb : Can RR b m) : ∃ r, Ev (fun k => isochroneref01_GCD.f k a b) r ∧ Can RR r (gI n m) := by
  unfold isochroneref01_GCD.f
  exact r_gcd_l0 _ a b n m rfl la lb ha hb
end Go.Proofs.Ytfpolhoabfadnaa.P
end
section
namespace Go.Proofs.Ytfpolhoabfadnaa.P
open Go.RowKit Go.Proofs.YtfpolhoabfadnaaW.PrintWords Go.Proofs.YtfpolhoabfadnaaW.PrintLast Go.Proofs.YtfpolhoabfadnaaW.PrintMore
set_option linter.unusedVariables false
theorem mag_Small2_sp {r : List Int} {v : Int} (hr : Can WW r v) (hl : r.length ≤ 2) : mag_Small.f r = some (v, true) := by
  unfold mag_Small.f
  by_cases c : r.length = 0
  · rw [(hr.len_iff WW_pos).1 c, if_pos (by omega)]
  · have e := last_vl (a := r) (by omega)
    have v0 := hr.nonneg WW_pos
    have h0 := dg_rd hr.1 0 (by omega) (by omega)
    rw [WW_eq] at h0
    rw [hr.2.2] at e
    by_cases h1 : r.length = 1
    · rw [h1] at e
      have e2 : v = rd r 0 := by simpa [vl] using e
      rw [if_neg (by omega), if_pos (by omega), if_pos (by omega), ← e2, u64 (x := v) (by omega) (by omega)]
    · have h2 : r.length = 2 := by omega
      have hx := dg_rd hr.1 1 (by omega) (by omega)
      rw [WW_eq] at hx
      have e3 := vl_take WW r 0 (by omega)
      have e4 : v = rd r 1 * 4294967296 + rd r 0 := by
        rw [h2] at e
        have f1 : ((2 : Nat) : Int) - 1 = 1 := rfl
        have f2 : (2 : Nat) - 1 = 0 + 1 := rfl
        rw [f1, f2, e3, WW_eq, List.take_zero] at e
        simp only [vl] at e
        rw [e]
        have f3 : ((0 : Nat) : Int) = 0 := rfl
        have f4 : (4294967296 : Int) ^ 0 = 1 := rfl
        have f5 : (4294967296 : Int) ^ (0 + 1) = 4294967296 := rfl
        rw [f3, f4, f5]
        omega
      rw [if_neg (by omega), if_neg (by omega), if_pos (by omega), if_pos (by omega), if_pos (by omega), u64 (x := rd r 1) (by omega) (by omega), u64 (x := rd r 0) (by omega) (by omega), u64 (x := rd r 1 * 4294967296) (by omega) (by omega), or64 hx h0, e4]
theorem alg_cb1 {n m p q : Int} : m * q - n * (-p) = p * n + q * m := by grind
theorem alg_cb2 {n m p q : Int} : n * p - m * (-q) = p * n + q * m := by grind
theorem combine_sp {a b : List Int} {n m p q : Int} (la : a.length < 1073741824) (lb : b.length < 1073741824) (ha : Can WW a n) (hb : Can WW b m) (hs : (0 ≤ p ∧ q ≤ 0) ∨ (p ≤ 0 ∧ 0 ≤ q))
    (hp : -4611686018427387904 ≤ p ∧ p ≤ 4611686018427387904) (hq : -4611686018427387904 ≤ q ∧ q ≤ 4611686018427387904) (h : 0 ≤ p * n + q * m) : ∃ r, Ev (fun k => mag_combine.f k a b p q) r ∧ Can WW r (p * n + q * m) := by
  have hW2 : WW ^ 2 = 18446744073709551616 := by decide
  have pos : p ≤ 0 → 0 ≤ q → ∃ r, Ev (fun k => mag_combine.j0 k a b p q true) r ∧ Can WW r (p * n + q * m) := by
    intro p0 q0
    obtain ⟨t, t1, t2⟩ := mag_From_sp (a := q) q0 (by omega)
    have t3 := t2.len_le (k := 2) WW_one (by omega)
    obtain ⟨x, x1, x2, x3⟩ := mag_Mul_sp (by omega) hb t2
    obtain ⟨s, s1, s2⟩ := mag_From_sp (a := -p) (by omega) (by omega)
    have s3 := s2.len_le (k := 2) WW_one (by omega)
    obtain ⟨y, y1, y2, y3⟩ := mag_Mul_sp (by omega) ha s2
    rw [← alg_cb1] at h
    obtain ⟨z, z1, z2, z3⟩ := mag_Sub_sp (by omega) x2 y2 (by omega)
    rw [alg_cb1] at z2
    refine ⟨z, ?_, z2⟩
    refine Ev.step (fun k => by rw [mag_combine.j0]) ?_
    rw [w64 (x := -p) (by omega) (by omega), u64 (x := -p) (by omega) (by omega), u64 (x := q) (by omega) (by omega)]
    exact evp rfl (Ev.bind t1 (Ev.bind x1 (Ev.bind s1 (Ev.bind y1 (Ev.bind z1 (evs _))))))
  have neg : 0 ≤ p → q ≤ 0 → ∃ r, Ev (fun k => mag_combine.j0 k a b p q false) r ∧ Can WW r (p * n + q * m) := by
    intro p0 q0
    obtain ⟨t, t1, t2⟩ := mag_From_sp (a := p) p0 (by omega)
    have t3 := t2.len_le (k := 2) WW_one (by omega)
    obtain ⟨x, x1, x2, x3⟩ := mag_Mul_sp (by omega) ha t2
    obtain ⟨s, s1, s2⟩ := mag_From_sp (a := -q) (by omega) (by omega)
    have s3 := s2.len_le (k := 2) WW_one (by omega)
    obtain ⟨y, y1, y2, y3⟩ := mag_Mul_sp (by omega) hb s2
    rw [← alg_cb2] at h
    obtain ⟨z, z1, z2, z3⟩ := mag_Sub_sp (by omega) x2 y2 (by omega)
    rw [alg_cb2] at z2
    refine ⟨z, ?_, z2⟩
    refine Ev.step (fun k => by rw [mag_combine.j0]) ?_
    rw [w64 (x := -q) (by omega) (by omega), u64 (x := -q) (by omega) (by omega), u64 (x := p) (by omega) (by omega)]
    exact evn (by simp) (Ev.bind t1 (Ev.bind x1 (Ev.bind s1 (Ev.bind y1 (Ev.bind z1 (evs _))))))
  unfold mag_combine.f
  by_cases c1 : p < 0
  · obtain ⟨r, r1, r2⟩ := pos (by omega) (by omega)
    exact ⟨r, evp c1 r1, r2⟩
  · by_cases c2 : q > 0
    · obtain ⟨r, r1, r2⟩ := pos (by omega) (by omega)
      rw [decide_eq_true c2]
      exact ⟨r, evn c1 r1, r2⟩
    · obtain ⟨r, r1, r2⟩ := neg (by omega) (by omega)
      rw [decide_eq_false c2]
      exact ⟨r, evn c1 r1, r2⟩
theorem alg_lin1 {p q x y T a b d : Int} : p * (T * x + a) + q * (T * y + b) = T * (p * x + q * y + q) + p * a + (q * b - q * T) := by grind
theorem alg_lin2 {p q x y T a b d : Int} : p * (T * x + a) + q * (T * y + b) = T * (p * x + q * y + p) + (p * a - p * T) + q * b := by grind
theorem lin_ge {p q x y T a b d : Int} (hT : 0 < T) (ha : 0 ≤ a ∧ a < T) (hb : 0 ≤ b ∧ b < T) (hs : (0 ≤ p ∧ q ≤ 0) ∨ (p ≤ 0 ∧ 0 ≤ q)) (h1 : d ≤ p * x + q * y + p) (h2 : d ≤ p * x + q * y + q) : T * d ≤ p * (T * x + a) + q * (T * y + b) := by
  rcases hs with ⟨h3, h4⟩ | ⟨h3, h4⟩
  · have k1 : 0 ≤ p * a := Int.mul_nonneg h3 ha.1
    have k2 : q * T ≤ q * b := Int.mul_le_mul_of_nonpos_left h4 (by omega)
    have k3 : T * d ≤ T * (p * x + q * y + q) := Int.mul_le_mul_of_nonneg_left h2 (by omega)
    rw [alg_lin1 (d := d)]
    omega
  · have k1 : 0 ≤ q * b := Int.mul_nonneg h4 hb.1
    have k2 : p * T ≤ p * a := Int.mul_le_mul_of_nonpos_left h3 (by omega)
    have k3 : T * d ≤ T * (p * x + q * y + p) := Int.mul_le_mul_of_nonneg_left h1 (by omega)
    rw [alg_lin2 (d := d)]
    omega
theorem mul_bound {k r : Int} (hk : 0 ≤ k ∧ k ≤ 2147483648) (hr : -2147483648 ≤ r ∧ r ≤ 2147483648) : -4611686018427387904 ≤ k * r ∧ k * r ≤ 4611686018427387904 := by
  have h1 : k * r ≤ k * 2147483648 := Int.mul_le_mul_of_nonneg_left hr.2 hk.1
  have h2 : k * (-2147483648) ≤ k * r := Int.mul_le_mul_of_nonneg_left hr.1 hk.1
  omega
theorem alg_l1 {p q r s x y k u v : Int} (hu : u = p * x + q * y) (hv : v = r * x + s * y) : u - k * v = (p - k * r) * x + (q - k * s) * y := by rw [hu, hv]; grind
theorem alg_l2 {p q r s n m k : Int} : (p - k * r) * n + (q - k * s) * m = (p * n + q * m) - k * (r * n + s * m) := by grind
theorem alg_l3 {p q r s n m k : Int} : ((k + 1) * r - p) * n + ((k + 1) * s - q) * m = (k + 1) * (r * n + s * m) - (p * n + q * m) := by grind
theorem alg_l4 {u p v r k : Int} : (u - k * v) + (p - k * r) = (u + p) - k * (v + r) := by grind
theorem alg_l5 {x y p q r s u v k g h : Int} (hu : u = p * x + q * y) (hv : v = r * x + s * y) : ((k + 1) * r - p) * x + ((k + 1) * s - q) * y + ((k + 1) * g - h) = (k + 1) * (v + g) - (u + h) := by rw [hu, hv]; grind
theorem alg_l6 {k A : Int} : (k + 1) * A = k * A + A := by grind
end Go.Proofs.Ytfpolhoabfadnaa.P
end
