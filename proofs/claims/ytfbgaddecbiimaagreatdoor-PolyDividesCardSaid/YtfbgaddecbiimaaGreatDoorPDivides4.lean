/- An evaluator of the program's code, what its functions come to, and what they mean: text 4. No condition. -/
import Derived.Test.YtfbgaddecbiimaaGreatDoorPDivides3
set_option linter.unusedSimpArgs false
set_option linter.unusedSectionVars false
set_option linter.unusedVariables false
set_option maxRecDepth 100000
set_option maxHeartbeats 4000000
noncomputable section
section
namespace Go.Proofs.YtfbgaddecbiimaaGreatDoor.E
open Go.RowKit Go.Shelf Go.Proofs.YtfbgaddecbiimaaGreatDoor.V
theorem dj {B:Nat} {w w':World} {k:Nat} {o:Option Obj} (hb:Below B w w') (hk:k<B) (h:w.heap[k]?=o):w'.heap[k]?=o:=by rw [hb.block k hk];exact h
theorem fe (w:World) (o:Obj):w.heap.size<(w.alloc o).heap.size:=by
 show w.heap.size<(w.heap.push o).size;rw [Xj];omega
theorem n9 (w:World) (o:Obj):(w.alloc o).heap[w.heap.size]?=some o:=by
 show (w.heap.push o)[w.heap.size]?=some o;simp
theorem gY {w:World} {b:Nat} {x y z:Value} {T:TypeId} (h:w.heap[b]?=some (.cells #[x,y,z] T (0,0))):w.cell? ⟨b,0,none⟩=some x/\w.cell? ⟨b,1,none⟩=some y/\w.cell? ⟨b,2,none⟩=some z/\w.shape? b=some (T,3) :=
 ⟨by rw [Lib.cell_of_heap h];rfl,by rw [Lib.cell_of_heap h];rfl,by rw [Lib.cell_of_heap h];rfl,by simp [World.shape?,h]⟩
theorem N0 {w:World} {k:Nat} {o:Obj} (h:w.heap[k]?=some o):k<w.heap.size:=by
 rcases We k w.heap.size with h' | h'
 ·exact h'
 simp [Xt h'] at h
theorem ef {T e:TypeId} {B b:Nat} {p:Value} {bs:List Value} {w w':World} (h:Lib.BuilderAt T e B b p bs w) (hb:Below w.heap.size w w'):Lib.BuilderAt T e B b p bs w':=by
 have a:=h.lt;obtain ⟨h1,v,h2,h3,h4⟩:=h;refine ⟨h1,v,dj hb a h2,?_,h4⟩;obtain ⟨e1,h⟩:=h3;rcases h with h | ⟨g,cap,cur,rfl,hg,hh,r⟩
 ·exact ⟨e1,.inl h⟩
 exact ⟨e1,.inr ⟨g,cap,cur,rfl,hg,dj hb (N0 hh) hh,r⟩⟩
theorem Ii {T e:TypeId} {B b:Nat} {bs:List Value} {l:List UInt8} {w:World} (h:Lib.IsBuilder T e B b bs w) (hb:bs=Lib.byteCells l):Lib.IsBuilder T e B b (Lib.byteCells l) w:=hb ▸ h
theorem uq (l:List UInt8) (s:ByteArray) (h:s.data.toList=l):(⟨l.toArray⟩:ByteArray)=s:=by
 subst h;cases s;simp
theorem vp (sn sd:Value) (tn td:ByteArray) (en ed:Int) (w:World)
 (H54:∀ w',Below w.heap.size w w'->Calls Tryz.prog 101 #[.agg #[.bool true,sn,sd]] w' fun e w''=>e = .returned (.bool true)/\Below w'.heap.size w' w'')
 (H95:∀ w',Below w.heap.size w w'->Calls Tryz.prog 123 #[.agg #[.bool true,sn,sd]] w' fun e w''=>e = .returned (.bool true)/\Below w'.heap.size w' w'')
 (H93n:∀ w',Below w.heap.size w w'->Calls Tryz.prog 121 #[sn] w' fun e w''=>e = .returned (.tuple #[.string tn,.int .i64 en])/\Below w'.heap.size w' w'')
 (hlen:tn.size+td.size+2<=140737488355328) :
 Calls Tryz.prog 66 #[.agg #[.bool true,sn,sd]] w fun e w'=>e = .returned (.tuple #[.string ((⟨#[45]⟩:ByteArray)++tn),.int .i64 0])/\Below w.heap.size w w':=by
 go_enter Tryz.func66,Tryz.ntmps66
 go_wp2_with (go_at_call 101;refine (H54 _ ((Below.refl _ _).alloc (Qn _) _)).mono ?_)
 rintro e w1 ⟨rfl,hb1⟩;have g1:Below w.heap.size w w1:=(Below.alloc (Below.refl _ _) (Qn _) _).trans (hb1.mono (Vn (fe _ _)));have x1:w1.heap[w.heap.size]?=some (.cells #[.bool true,sn,sd] 61 (0,0)):=dj hb1 (fe _ _) (n9 _ _);have l1:w.heap.size<w1.heap.size:=QN (fe _ _) hb1.size;have x2:(w1.alloc (.cells #[.pointer none,.slice none 0 0] 140)).heap[w.heap.size]?=some (.cells #[.bool true,sn,sd] 61 (0,0)):=by rw [Lib.alloc_old _ _ _ l1];exact x1
 obtain ⟨A,y,z,l⟩:=gY x2;have g2:Below w.heap.size w (w1.alloc (.cells #[.pointer none,.slice none 0 0] 140)):=g1.alloc g1.size _;have b:Lib.IsBuilder 140 5 w1.heap.size w1.heap.size [] (w1.alloc (.cells #[.pointer none,.slice none 0 0] 140)):=Lib.fresh_isBuilder 140 5 w1;have a:=Vn (fe w1 (.cells #[.pointer none,.slice none 0 0] 140))
 go_wp2_with (go_at_call 120;refine (yP w1.heap.size w1.heap.size [] 45 _ b (by decide) a).mono ?_)
 rintro e w3 ⟨rfl,hB3,hb3⟩;have x3:=dj hb3 l1 x2;obtain ⟨u,q,i,g⟩:=gY x3;have g3:=g2.trans (hb3.mono (Vn l1))
 go_wp2_with (go_at_call 121;refine (H93n _ g3).mono ?_)
 rintro e w4 ⟨rfl,hb4⟩;have s4:w1.heap.size<=w4.heap.size:=Qu (Qu a hb3.size) hb4.size;have x4:=dj hb4 (QN l1 (Qu a hb3.size)) x3;have g4:=g3.trans (hb4.mono g3.size);have d:Lib.IsBuilder 140 5 w1.heap.size w1.heap.size [.int .u8 45] w4:=.inr (ef hB3 hb4);obtain ⟨o,s,j,h⟩:=gY x4
 go_wp2_with (go_at_call 122;refine (iJ w1.heap.size w1.heap.size _ tn _ d (by simp only [List.length_cons,List.length_nil];omega) s4).mono ?_)
 rintro e w5 ⟨rfl,hB5,hb5⟩;have x5:=dj hb5 l1 x4;obtain ⟨v,p,t,r⟩:=gY x5;have g5:=g4.trans (hb5.mono (Vn l1))
 go_wp2_with (go_at_call 123;refine (H95 _ g5).mono ?_)
 rintro e w6 ⟨rfl,hb6⟩;have s5:w1.heap.size<=w5.heap.size:=Qu s4 hb5.size;have x6:=dj hb6 (QN l1 s5) x5;obtain ⟨n,x,k,m⟩:=gY x6;have g6:=g5.trans (hb6.mono g5.size);have f:=ef hB5 hb6;have s8:w1.heap.size<=w6.heap.size:=Qu s5 hb6.size;have g8:=g6;have c:=f;have hS:Lib.IsBuilder 140 5 w1.heap.size w1.heap.size (Lib.byteCells (45 :: tn.data.toList)) _:=Ii (.inr c) (by simp [Lib.strCells,Lib.byteCells])
 go_wp2_with (go_at_call 124;refine (qX w1.heap.size w1.heap.size _ _ hS s8).mono ?_)
 rintro e w9 ⟨rfl,hb9⟩
 go_wp2
 go_ret2
 refine ⟨?_,g8.trans (hb9.mono (Vn l1))⟩;rw [uq _ ((⟨#[45]⟩:ByteArray)++tn) (by simp [X9])]<;>rfl
theorem vt (sn sd:Value) (tn td:ByteArray) (en ed:Int) (w:World)
 (H54:∀ w',Below w.heap.size w w'->Calls Tryz.prog 101 #[.agg #[.bool true,sn,sd]] w' fun e w''=>e = .returned (.bool true)/\Below w'.heap.size w' w'')
 (H95:∀ w',Below w.heap.size w w'->Calls Tryz.prog 123 #[.agg #[.bool true,sn,sd]] w' fun e w''=>e = .returned (.bool false)/\Below w'.heap.size w' w'')
 (H93n:∀ w',Below w.heap.size w w'->Calls Tryz.prog 121 #[sn] w' fun e w''=>e = .returned (.tuple #[.string tn,.int .i64 en])/\Below w'.heap.size w' w'')
 (H93d:∀ w',Below w.heap.size w w'->Calls Tryz.prog 121 #[sd] w' fun e w''=>e = .returned (.tuple #[.string td,.int .i64 ed])/\Below w'.heap.size w' w'')
 (hlen:tn.size+td.size+2<=140737488355328) :
 Calls Tryz.prog 66 #[.agg #[.bool true,sn,sd]] w fun e w'=>e = .returned (.tuple #[.string ((⟨#[45]⟩:ByteArray)++tn++((⟨#[47]⟩:ByteArray)++td)),.int .i64 0])/\Below w.heap.size w w':=by
 go_enter Tryz.func66,Tryz.ntmps66
 go_wp2_with (go_at_call 101;refine (H54 _ ((Below.refl _ _).alloc (Qn _) _)).mono ?_)
 rintro e w1 ⟨rfl,hb1⟩;have g1:Below w.heap.size w w1:=(Below.alloc (Below.refl _ _) (Qn _) _).trans (hb1.mono (Vn (fe _ _)));have x1:w1.heap[w.heap.size]?=some (.cells #[.bool true,sn,sd] 61 (0,0)):=dj hb1 (fe _ _) (n9 _ _);have l1:w.heap.size<w1.heap.size:=QN (fe _ _) hb1.size;have x2:(w1.alloc (.cells #[.pointer none,.slice none 0 0] 140)).heap[w.heap.size]?=some (.cells #[.bool true,sn,sd] 61 (0,0)):=by rw [Lib.alloc_old _ _ _ l1];exact x1
 obtain ⟨A,y,z,l⟩:=gY x2;have g2:Below w.heap.size w (w1.alloc (.cells #[.pointer none,.slice none 0 0] 140)):=g1.alloc g1.size _;have b:Lib.IsBuilder 140 5 w1.heap.size w1.heap.size [] (w1.alloc (.cells #[.pointer none,.slice none 0 0] 140)):=Lib.fresh_isBuilder 140 5 w1;have a:=Vn (fe w1 (.cells #[.pointer none,.slice none 0 0] 140))
 go_wp2_with (go_at_call 120;refine (yP w1.heap.size w1.heap.size [] 45 _ b (by decide) a).mono ?_)
 rintro e w3 ⟨rfl,hB3,hb3⟩;have x3:=dj hb3 l1 x2;obtain ⟨u,q,i,g⟩:=gY x3;have g3:=g2.trans (hb3.mono (Vn l1))
 go_wp2_with (go_at_call 121;refine (H93n _ g3).mono ?_)
 rintro e w4 ⟨rfl,hb4⟩;have s4:w1.heap.size<=w4.heap.size:=Qu (Qu a hb3.size) hb4.size;have x4:=dj hb4 (QN l1 (Qu a hb3.size)) x3;have g4:=g3.trans (hb4.mono g3.size);have c:Lib.IsBuilder 140 5 w1.heap.size w1.heap.size [.int .u8 45] w4:=.inr (ef hB3 hb4);obtain ⟨o,s,j,h⟩:=gY x4
 go_wp2_with (go_at_call 122;refine (iJ w1.heap.size w1.heap.size _ tn _ c (by simp only [List.length_cons,List.length_nil];omega) s4).mono ?_)
 rintro e w5 ⟨rfl,hB5,hb5⟩;have x5:=dj hb5 l1 x4;obtain ⟨v,p,t,r⟩:=gY x5;have g5:=g4.trans (hb5.mono (Vn l1))
 go_wp2_with (go_at_call 123;refine (H95 _ g5).mono ?_)
 rintro e w6 ⟨rfl,hb6⟩;have s5:w1.heap.size<=w5.heap.size:=Qu s4 hb5.size;have x6:=dj hb6 (QN l1 s5) x5;obtain ⟨n,x,k,m⟩:=gY x6;have g6:=g5.trans (hb6.mono g5.size);have f:=ef hB5 hb6
 go_wp2_with (go_at_call 121;refine (H93d _ g6).mono ?_)
 rintro e w7 ⟨rfl,hb7⟩;have g7:=g6.trans (hb7.mono g6.size);have d:=ef f hb7;have s7:w1.heap.size<=w7.heap.size:=Qu s5 (Qu hb6.size hb7.size);have h7:(([.int .u8 45]:List Value)++Lib.strCells tn).length+((⟨#[47]⟩:ByteArray)++td).size<=140737488355328:=by
  have e1:((⟨#[47]⟩:ByteArray)++td).size=1+td.size:=ByteArray.size_append;simp only [Qf,Lib.strCells_length,List.length_cons,List.length_nil,e1];omega
 go_wp2_with (go_at_call 122;refine (iJ w1.heap.size w1.heap.size _ ((⟨#[47]⟩:ByteArray)++td) _ (.inr d) h7 s7).mono ?_)
 rintro e w8 ⟨rfl,hB8,hb8⟩;have g8:=g7.trans (hb8.mono (Vn l1));have s8:w1.heap.size<=w8.heap.size:=Qu s7 hb8.size;have hS:Lib.IsBuilder 140 5 w1.heap.size w1.heap.size (Lib.byteCells (45 :: tn.data.toList++47 :: td.data.toList)) _:=Ii (.inr hB8) (by simp [Lib.strCells,Lib.byteCells])
 go_wp2_with (go_at_call 124;refine (qX w1.heap.size w1.heap.size _ _ hS s8).mono ?_)
 rintro e w9 ⟨rfl,hb9⟩
 go_wp2
 go_ret2
 refine ⟨?_,g8.trans (hb9.mono (Vn l1))⟩;rw [uq _ ((⟨#[45]⟩:ByteArray)++tn++((⟨#[47]⟩:ByteArray)++td)) (by simp [X9])]<;>rfl
theorem vm (sn sd:Value) (tn td:ByteArray) (en ed:Int) (w:World)
 (H54:∀ w',Below w.heap.size w w'->Calls Tryz.prog 101 #[.agg #[.bool false,sn,sd]] w' fun e w''=>e = .returned (.bool true)/\Below w'.heap.size w' w'')
 (H95:∀ w',Below w.heap.size w w'->Calls Tryz.prog 123 #[.agg #[.bool false,sn,sd]] w' fun e w''=>e = .returned (.bool true)/\Below w'.heap.size w' w'')
 (H93n:∀ w',Below w.heap.size w w'->Calls Tryz.prog 121 #[sn] w' fun e w''=>e = .returned (.tuple #[.string tn,.int .i64 en])/\Below w'.heap.size w' w'')
 (hlen:tn.size+td.size+2<=140737488355328) :
 Calls Tryz.prog 66 #[.agg #[.bool false,sn,sd]] w fun e w'=>e = .returned (.tuple #[.string (tn),.int .i64 0])/\Below w.heap.size w w':=by
 go_enter Tryz.func66,Tryz.ntmps66
 go_wp2_with (go_at_call 101;refine (H54 _ ((Below.refl _ _).alloc (Qn _) _)).mono ?_)
 rintro e w1 ⟨rfl,hb1⟩;have g1:Below w.heap.size w w1:=(Below.alloc (Below.refl _ _) (Qn _) _).trans (hb1.mono (Vn (fe _ _)));have x1:w1.heap[w.heap.size]?=some (.cells #[.bool false,sn,sd] 61 (0,0)):=dj hb1 (fe _ _) (n9 _ _);have l1:w.heap.size<w1.heap.size:=QN (fe _ _) hb1.size;have x2:(w1.alloc (.cells #[.pointer none,.slice none 0 0] 140)).heap[w.heap.size]?=some (.cells #[.bool false,sn,sd] 61 (0,0)):=by rw [Lib.alloc_old _ _ _ l1];exact x1
 obtain ⟨u,q,r,m⟩:=gY x2;have g2:Below w.heap.size w (w1.alloc (.cells #[.pointer none,.slice none 0 0] 140)):=g1.alloc g1.size _;have hB2:Lib.IsBuilder 140 5 w1.heap.size w1.heap.size [] (w1.alloc (.cells #[.pointer none,.slice none 0 0] 140)):=Lib.fresh_isBuilder 140 5 w1;have a:=Vn (fe w1 (.cells #[.pointer none,.slice none 0 0] 140))
 go_wp2_with (go_at_call 121;refine (H93n _ g2).mono ?_)
 rintro e w4 ⟨rfl,hb4⟩;have s4:w1.heap.size<=w4.heap.size:=Qu a hb4.size;have x4:=dj hb4 (QN l1 a) x2;have g4:=g2.trans (hb4.mono g2.size);have c:Lib.IsBuilder 140 5 w1.heap.size w1.heap.size [] w4:=hB2.elim (fun h=>.inl (ef h hb4)) (fun h=>.inr (ef h hb4));obtain ⟨t,i,k,g⟩:=gY x4
 go_wp2_with (go_at_call 122;refine (iJ w1.heap.size w1.heap.size _ tn _ c (by simp only [List.length_cons,List.length_nil];omega) s4).mono ?_)
 rintro e w5 ⟨rfl,hB5,hb5⟩;have x5:=dj hb5 l1 x4;obtain ⟨n,v,j,f⟩:=gY x5;have g5:=g4.trans (hb5.mono (Vn l1))
 go_wp2_with (go_at_call 123;refine (H95 _ g5).mono ?_)
 rintro e w6 ⟨rfl,hb6⟩;have s5:w1.heap.size<=w5.heap.size:=Qu s4 hb5.size;have x6:=dj hb6 (QN l1 s5) x5;obtain ⟨s,o,l,p⟩:=gY x6;have g6:=g5.trans (hb6.mono g5.size);have d:=ef hB5 hb6;have s8:w1.heap.size<=w6.heap.size:=Qu s5 hb6.size;have g8:=g6;have b:=d;have hS:Lib.IsBuilder 140 5 w1.heap.size w1.heap.size (Lib.byteCells (tn.data.toList)) _:=Ii (.inr b) (by simp [Lib.strCells,Lib.byteCells])
 go_wp2_with (go_at_call 124;refine (qX w1.heap.size w1.heap.size _ _ hS s8).mono ?_)
 rintro e w9 ⟨rfl,hb9⟩
 go_wp2
 go_ret2
 refine ⟨?_,g8.trans (hb9.mono (Vn l1))⟩;rw [uq _ (tn) (by simp [X9])]<;>rfl
theorem vn (sn sd:Value) (tn td:ByteArray) (en ed:Int) (w:World)
 (H54:∀ w',Below w.heap.size w w'->Calls Tryz.prog 101 #[.agg #[.bool false,sn,sd]] w' fun e w''=>e = .returned (.bool true)/\Below w'.heap.size w' w'')
 (H95:∀ w',Below w.heap.size w w'->Calls Tryz.prog 123 #[.agg #[.bool false,sn,sd]] w' fun e w''=>e = .returned (.bool false)/\Below w'.heap.size w' w'')
 (H93n:∀ w',Below w.heap.size w w'->Calls Tryz.prog 121 #[sn] w' fun e w''=>e = .returned (.tuple #[.string tn,.int .i64 en])/\Below w'.heap.size w' w'')
 (H93d:∀ w',Below w.heap.size w w'->Calls Tryz.prog 121 #[sd] w' fun e w''=>e = .returned (.tuple #[.string td,.int .i64 ed])/\Below w'.heap.size w' w'')
 (hlen:tn.size+td.size+2<=140737488355328) :
 Calls Tryz.prog 66 #[.agg #[.bool false,sn,sd]] w fun e w'=>e = .returned (.tuple #[.string (tn++((⟨#[47]⟩:ByteArray)++td)),.int .i64 0])/\Below w.heap.size w w':=by
 go_enter Tryz.func66,Tryz.ntmps66
 go_wp2_with (go_at_call 101;refine (H54 _ ((Below.refl _ _).alloc (Qn _) _)).mono ?_)
 rintro e w1 ⟨rfl,hb1⟩;have g1:Below w.heap.size w w1:=(Below.alloc (Below.refl _ _) (Qn _) _).trans (hb1.mono (Vn (fe _ _)));have x1:w1.heap[w.heap.size]?=some (.cells #[.bool false,sn,sd] 61 (0,0)):=dj hb1 (fe _ _) (n9 _ _);have l1:w.heap.size<w1.heap.size:=QN (fe _ _) hb1.size;have x2:(w1.alloc (.cells #[.pointer none,.slice none 0 0] 140)).heap[w.heap.size]?=some (.cells #[.bool false,sn,sd] 61 (0,0)):=by rw [Lib.alloc_old _ _ _ l1];exact x1
 obtain ⟨u,q,r,m⟩:=gY x2;have g2:Below w.heap.size w (w1.alloc (.cells #[.pointer none,.slice none 0 0] 140)):=g1.alloc g1.size _;have hB2:Lib.IsBuilder 140 5 w1.heap.size w1.heap.size [] (w1.alloc (.cells #[.pointer none,.slice none 0 0] 140)):=Lib.fresh_isBuilder 140 5 w1;have a:=Vn (fe w1 (.cells #[.pointer none,.slice none 0 0] 140))
 go_wp2_with (go_at_call 121;refine (H93n _ g2).mono ?_)
 rintro e w4 ⟨rfl,hb4⟩;have s4:w1.heap.size<=w4.heap.size:=Qu a hb4.size;have x4:=dj hb4 (QN l1 a) x2;have g4:=g2.trans (hb4.mono g2.size);have b:Lib.IsBuilder 140 5 w1.heap.size w1.heap.size [] w4:=hB2.elim (fun h=>.inl (ef h hb4)) (fun h=>.inr (ef h hb4));obtain ⟨t,i,k,g⟩:=gY x4
 go_wp2_with (go_at_call 122;refine (iJ w1.heap.size w1.heap.size _ tn _ b (by simp only [List.length_cons,List.length_nil];omega) s4).mono ?_)
 rintro e w5 ⟨rfl,hB5,hb5⟩;have x5:=dj hb5 l1 x4;obtain ⟨n,v,j,f⟩:=gY x5;have g5:=g4.trans (hb5.mono (Vn l1))
 go_wp2_with (go_at_call 123;refine (H95 _ g5).mono ?_)
 rintro e w6 ⟨rfl,hb6⟩;have s5:w1.heap.size<=w5.heap.size:=Qu s4 hb5.size;have x6:=dj hb6 (QN l1 s5) x5;obtain ⟨s,o,l,p⟩:=gY x6;have g6:=g5.trans (hb6.mono g5.size);have d:=ef hB5 hb6
 go_wp2_with (go_at_call 121;refine (H93d _ g6).mono ?_)
 rintro e w7 ⟨rfl,hb7⟩;have g7:=g6.trans (hb7.mono g6.size);have c:=ef d hb7;have s7:w1.heap.size<=w7.heap.size:=Qu s5 (Qu hb6.size hb7.size);have h7:(([]:List Value)++Lib.strCells tn).length+((⟨#[47]⟩:ByteArray)++td).size<=140737488355328:=by
  have e1:((⟨#[47]⟩:ByteArray)++td).size=1+td.size:=ByteArray.size_append;simp only [Qf,Lib.strCells_length,List.length_cons,List.length_nil,e1];omega
 go_wp2_with (go_at_call 122;refine (iJ w1.heap.size w1.heap.size _ ((⟨#[47]⟩:ByteArray)++td) _ (.inr c) h7 s7).mono ?_)
 rintro e w8 ⟨rfl,hB8,hb8⟩;have g8:=g7.trans (hb8.mono (Vn l1));have s8:w1.heap.size<=w8.heap.size:=Qu s7 hb8.size;have hS:Lib.IsBuilder 140 5 w1.heap.size w1.heap.size (Lib.byteCells (tn.data.toList++47 :: td.data.toList)) _:=Ii (.inr hB8) (by simp [Lib.strCells,Lib.byteCells])
 go_wp2_with (go_at_call 124;refine (qX w1.heap.size w1.heap.size _ _ hS s8).mono ?_)
 rintro e w9 ⟨rfl,hb9⟩
 go_wp2
 go_ret2
 refine ⟨?_,g8.trans (hb9.mono (Vn l1))⟩;rw [uq _ (tn++((⟨#[47]⟩:ByteArray)++td)) (by simp [X9])]<;>rfl
theorem vr (s:Bool) (sn sd:Value) (w:World)
 (H54:∀ w',Below w.heap.size w w'->Calls Tryz.prog 101 #[.agg #[.bool s,sn,sd]] w' fun e w''=>e = .returned (.bool false)/\Below w'.heap.size w' w'') :
 Calls Tryz.prog 66 #[.agg #[.bool s,sn,sd]] w fun e w'=>e = .returned (.tuple #[.string ⟨#[]⟩,.int .i64 3])/\Below w.heap.size w w':=by
 go_enter Tryz.func66,Tryz.ntmps66
 go_wp2_with (go_at_call 101;refine (H54 _ ((Below.refl _ _).alloc (Qn _) _)).mono ?_)
 rintro e w1 ⟨rfl,hb1⟩;have g1:Below w.heap.size w w1:=(Below.alloc (Below.refl _ _) (Qn _) _).trans (hb1.mono (Vn (fe _ _)))
 go_wp2
 go_ret2
 exact ⟨rfl,g1⟩
theorem arr1 {α:Type} {vs:Array α} {d:α} (h:vs.size=1):vs = #[vs.getD 0 d]:=by
 apply YH
 ·rw [h];rfl
 intro i h1 h2
 match i,h1 with
 | 0,h1=>simp [Array.getD,h]
 | n+1,h1=>omega
theorem arr2 {α:Type} {vs:Array α} {d:α} (h:vs.size=2):vs = #[vs.getD 0 d,vs.getD 1 d]:=by
 apply YH
 ·rw [h];rfl
 intro i h1 h2
 match i,h1 with
 | 0,h1=>simp [Array.getD,h]
 | 1,h1=>simp [Array.getD,h]
 | n+2,h1=>omega
theorem arr3 {α:Type} {vs:Array α} {d:α} (h:vs.size=3):vs = #[vs.getD 0 d,vs.getD 1 d,vs.getD 2 d]:=by
 apply YH
 ·rw [h];rfl
 intro i h1 h2
 match i,h1 with
 | 0,h1=>simp [Array.getD,h]
 | 1,h1=>simp [Array.getD,h]
 | 2,h1=>simp [Array.getD,h]
 | n+3,h1=>omega
theorem im {w:World} {F:Fo} {a b} {v u:Value} (h:cQ w F a b v (.cv (.lit u))):v=u:=by
 cases h with
 | cv h=>cases h;rfl
theorem zn {w:World} {F:Fo} {a b} {v x y:Value} (h:cQ w F a b v (.tup [.cv (.lit x),.cv (.lit y)])):v = .tuple #[x,y]:=by
 cases h with
 | tup hl h =>
  rw [arr2 (d:=undef) hl,im (h 0 Q3),im (h 1 Q3)]
theorem AA {f:FuncId} {p q:PV} {u v:Value} {w:World} {F:Nat->Prop} (hf:V.Fn Tryz.prog f [p] q) (hF:∀ b,F b->b<w.heap.size) (hv:cQ w (.of F) nr nl v p) (hq:∀ w' F' v',cQ w' F' nr nl v' q->v'=u) (w':World) (hb:Below w.heap.size w w') :
 Calls Tryz.prog f #[v] w' fun e w''=>e = .returned u/\Below w'.heap.size w' w'':=by
 refine (hf F w' #[v] (fun b h=>QN (hF b h) hb.size) rfl (fun i h=>?_)).mono ?_
 ·match i,h with
  | 0,h=>exact hv.mono (.refl _) (fun b h=>hb.block b (hF b h)) (fun k r h=>⟨h,rfl⟩)
  | n+1,h=>simp at h
 rintro e w'' ⟨v',rfl,h1,h2⟩;rw [hq _ _ _ h2];exact ⟨rfl,h1⟩
abbrev bA:=Bool×List Int×List Int×Unit
def Bf (call:(g:Nat)->List df->Option (T.out g).den) (y:bA):Option (ByteArray×Int×Unit) :=
 (show Option Bool from call 101 [.v au y]).bind fun ok=>bif ok then
  (show Option (ByteArray×Int×Unit) from call 121 [.v (.list (.int .u32)) y.2.1]).bind fun n =>
  (show Option Bool from call 123 [.v au y]).bind fun wh=>bif wh then
   if n.1.size+2<=140737488355328 then some (bif y.1 then (⟨#[45]⟩:ByteArray)++n.1 else n.1,0,()) else none
  else
   (show Option (ByteArray×Int×Unit) from call 121 [.v (.list (.int .u32)) y.2.2.1]).bind fun d =>
   if n.1.size+d.1.size+2<=140737488355328 then some (bif y.1 then (⟨#[45]⟩:ByteArray)++n.1++((⟨#[47]⟩:ByteArray)++d.1) else n.1++((⟨#[47]⟩:ByteArray)++d.1),0,()) else none
 else some ((⟨#[]⟩:ByteArray),3,())
theorem F1 {call:(g:Nat)->List df->Option (T.out g).den} (hC:jw T call) (y:bA) (r:ByteArray×Int×Unit) (h:Bf call y=some r):V.Fn Tryz.prog 66 [au.pv y] (.tup [.cv (.lit (.string r.1)),.cv (.lit (.int .i64 r.2.1))]):=by
 obtain ⟨s,n,d,_⟩:=y;have H:∀ ok:Bool,(show Option Bool from call 101 [.v au (s,n,d,())])=some ok->V.Fn Tryz.prog 101 [au.pv (s,n,d,())] (.cv (.lit (.bool ok))):=fun ok h=>by
  obtain ⟨_,p,h1,h2⟩:=hC.fn 101 _ ok rfl h;obtain rfl:=QF h1;exact h2
 have D:∀ ok:Bool,(show Option Bool from call 123 [.v au (s,n,d,())])=some ok->V.Fn Tryz.prog 123 [au.pv (s,n,d,())] (.cv (.lit (.bool ok))):=fun ok h=>by
  obtain ⟨_,p,h1,h2⟩:=hC.fn 123 _ ok rfl h;obtain rfl:=QF h1;exact h2
 have z:∀ (l:List Int) (t:ByteArray×Int×Unit),(show Option (ByteArray×Int×Unit) from call 121 [.v (.list (.int .u32)) l])=some t->V.Fn Tryz.prog 121 [(Ty.list (.int .u32)).pv l] (.tup [.cv (.lit (.string t.1)),.cv (.lit (.int .i64 t.2.1))]):=fun l t h=>by
  obtain ⟨_,p,h1,h2⟩:=hC.fn 121 _ t rfl h;obtain rfl:=QF h1;exact h2
 intro F w vs hF hn hv;have j:=hv 0 Q3;rw [arr1 (d:=undef) hn];generalize vs.getD 0 undef=v at j;replace j:cQ w (.of F) nr nl v (.ag [.lit (.bool s),.row n.length (n.flatMap (Ty.enc (.int .u32))),.row d.length (d.flatMap (Ty.enc (.int .u32)))]):=j;have a:=j;cases j with
 | ag hl h3 =>
  rename_i cs;have e0:cs.getD 0 undef = .bool s:=im (.cv (h3 0 Q3):cQ w (.of F) nr nl _ _);have en:cQ w (.of F) nr nl (cs.getD 1 undef) ((Ty.list (.int .u32)).pv n):=.cv (h3 1 Q3);have ed:cQ w (.of F) nr nl (cs.getD 2 undef) ((Ty.list (.int .u32)).pv d):=.cv (h3 2 Q3);rw [arr3 (d:=undef) hl,e0] at a ⊢;generalize cs.getD 1 undef=sn at en a;generalize cs.getD 2 undef=sd at ed a;have k:∀ {t:ByteArray} {c:Int},(Calls Tryz.prog 66 #[.agg #[.bool s,sn,sd]] w fun e w'=>e = .returned (.tuple #[.string t,.int .i64 c])/\Below w.heap.size w w')->r=(t,c,()) ->
   Calls Tryz.prog 66 #[.agg #[.bool s,sn,sd]] w fun e w'=>∃ v,e = .returned v/\Below w.heap.size w w'/\cQ w' (.of fun b=>F b∨(w.heap.size<=b/\b<w'.heap.size)) nr nl v (.tup [.cv (.lit (.string r.1)),.cv (.lit (.int .i64 r.2.1))]):=by
   intro t c hk hr;subst hr;refine hk.mono ?_;rintro e w' ⟨rfl,hb⟩;refine ⟨_,rfl,hb,.tup rfl (fun i hi=>?_)⟩
   match i,hi with
   | 0,hi=>exact .cv (.lit _)
   | 1,hi=>exact .cv (.lit _)
   | q+2,hi=>exact absurd (QN hi (YC rfl):q+2<2) Q2
  have L:∀ w' F' v' u,cQ w' F' nr nl v' (.cv (.lit u))->v'=u:=fun w' F' v' u h=>im h;unfold Bf at h;obtain ⟨ok,G,h⟩:=Q5 h;have f:=AA (H ok G) hF a (fun w' F' v' h=>im h);cases ok with
  | false =>
   obtain rfl:=QF h;exact k (vr s sn sd w f) rfl
  | true =>
   obtain ⟨tn,B,h⟩:=Q5 h;have o:=AA (z n tn B) hF en (fun w' F' v' h=>zn h);obtain ⟨wh,C,h⟩:=Q5 h;have m:=AA (D wh C) hF a (fun w' F' v' h=>im h);cases wh with
   | true =>
    replace h:(if tn.1.size+2<=140737488355328 then some (bif s then (⟨#[45]⟩:ByteArray)++tn.1 else tn.1,(0:Int),()) else none)=some r:=h;split at h
    ·rename_i hle;obtain rfl:=QF h;cases s with
     | true=>exact k (vp sn sd tn.1 ⟨#[]⟩ tn.2.1 0 w f m o hle) rfl
     | false=>exact k (vm sn sd tn.1 ⟨#[]⟩ tn.2.1 0 w f m o hle) rfl
    cases h
   | false =>
    obtain ⟨td,A,h⟩:=Q5 h;have x:=AA (z d td A) hF ed (fun w' F' v' h=>zn h);split at h
    ·rename_i hle;obtain rfl:=QF h;cases s with
     | true=>exact k (vt sn sd tn.1 td.1 tn.2.1 td.2.1 w f m o x hle) rfl
     | false=>exact k (vn sn sd tn.1 td.1 tn.2.1 td.2.1 w f m o x hle) rfl
    cases h
def qt:pO T:=⟨.pair .str (.pair (.int .i64) .unit),fun call k vs=>match vs with
 | [x]=>match coe au x with
  | some y=>Bf call y
  | none=>none
 | _=>none⟩
theorem yM:gz Tryz.prog 66:=⟨_,Tryz.func66,by decide,by simp [Tryz.f66]⟩
theorem uN:dN T (66,qt):=⟨rfl,yM,rfl,fun call k vs r hC h=>by
 simp only [qt] at h;split at h
 ·split at h
  ·rename_i x y hy;simp only [QV,WD,iK hy];exact ⟨_,rfl,F1 hC y r h⟩
  cases h
 cases h⟩
theorem vk:∀ (k:Nat) (x y:List Int),k<=x.length->x.length<=y.length->(∀ j,j<k->x[j]?=y[j]?)->cZ x y=cZ (x.drop k) (y.drop k)
 | 0,x,y,_,_,_=>rfl
 | k+1,[],y,h,_,_=>by simp at h
 | k+1,a :: x,[],_,h,_=>by simp at h
 | k+1,a :: x,b :: y,h1,h2,h3=>by
  have e:a=b:=by simpa using h3 0 Q2
  subst e;simp only [cZ,Xh,List.drop_succ_cons];exact vk k x y (by simpa using h1) (by simpa using h2) (fun j hj=>by simpa using h3 (j+1) Q2)
def uV:Value->Int
 | .int _ q=>q
 | _=>0
theorem J7 (w:World) (p q:Addr) (c c' n n':Nat) (x y:List Int) (hn:x.length=n) (hn':y.length=n') (hx:∀ i (h:i<x.length),w.cell? (p.add i)=some (.int .i64 x[i])) (hy:∀ i (h:i<y.length),w.cell? (q.add i)=some (.int .i64 y[i])) (hle:n<=n') (hm:n'<=maxLen) :
 Calls Tryz.prog 72 #[.slice (some p) n c,.slice (some q) n' c'] w fun e w'=>e = .returned (.int .i64 (cZ x y))/\w'=w:=by
 have hb:n'<9223372036854775808:=by unfold maxLen at hm;omega
 go_enter Tryz.func72,Tryz.ntmps72
 go_wp2_with fail
 go_loop [9] (fun i=>∃ k:Nat,k<=n/\i = .int .i64 k/\∀ j,j<k->x[j]?=y[j]?) (fun i=>n-(uV i).toNat)
 case atStart=>exact ⟨0,Qy _,rfl,fun j h=>absurd h (Ys _)⟩
 case round =>
  obtain ⟨k,hk,rfl,hj⟩:=hrel
  by_cases hkn:k<n
  ·have h1:=hx k Q2;have h2:=hy k Q2;have ex:x[k]?=some (x[k]'Q2):=Qh Q2;have ey:y[k]?=some (y[k]'Q2):=Qh Q2;have hd:=vk k x y Q2 Q2 hj;have dx:x.drop k=x[k]'Q2 :: x.drop (k+1):=QD Q2;have dy:y.drop k=y[k]'Q2 :: y.drop (k+1):=QD Q2;rw [dx,dy,cZ] at hd;generalize x[k]'Q2=a at *
   generalize y[k]'Q2=b at *
   clear hx hy
   by_cases he:a=b
   ·subst he;have e1:(a != a)=false:=Q3
    go_wp2
    refine ⟨⟨k+1,Q2,by go_num,fun j hj'=>?_⟩,by simp [uV];omega⟩
    by_cases c:j=k
    ·subst c;rw [ex,ey]
    exact hj j Q2
   have e1:(a != b)=true:=by simp [he]
   rw [Qc he] at hd
   by_cases hl:a<b
   ·rw [Qk hl] at hd
    go_wp2
    go_ret
    first | exact ⟨rfl,rfl⟩ | exact ⟨by rw [hd];rfl,rfl⟩
   rw [Qc hl] at hd
   go_wp2
   go_ret
   first | exact ⟨rfl,rfl⟩ | exact ⟨by rw [hd];rfl,rfl⟩
  have d:k=n:=Q2;subst d;have hd:=vk k x y Q2 Q2 hj;rw [QG Q2,cZ] at hd
  go_wp2
  go_ret
  first | exact ⟨rfl,rfl⟩ | exact ⟨by rw [hd];rfl,rfl⟩
theorem G9 (w:World) (a b:Option Addr) (c c' n':Nat) :
 Calls Tryz.prog 72 #[.slice a 0 c,.slice b n' c'] w fun e w'=>e = .returned (.int .i64 0)/\w'=w:=by
 go_enter Tryz.func72,Tryz.ntmps72
 go_wp2_with fail
 go_loop [9] (fun i=>i = .int .i64 0) (fun i=>0)
 case atStart=>rfl
 case round =>
  subst hrel
  go_wp2
  go_ret
  exact ⟨rfl,rfl⟩
def ph (w:World) (v:Value) (x:List Int):Prop:=∃ a c,v = .slice a x.length c/\∀ i (h:i<x.length),∃ p,a=some p/\w.cell? (p.add i)=some (.int .i64 x[i])
theorem cmp_at {w:World} {u v:Value} {x y:List Int} (hx:ph w u x) (hy:ph w v y) (hle:x.length<=y.length) (hm:y.length<=maxLen):Calls Tryz.prog 72 #[u,v] w fun e w'=>e = .returned (.int .i64 (cZ x y))/\w'=w:=by
 obtain ⟨a,c,rfl,h1⟩:=hx;obtain ⟨b,c',rfl,h2⟩:=hy;cases x with
 | nil=>exact G9 w a b c c' y.length
 | cons x0 x =>
  obtain ⟨p,rfl,_⟩:=h1 0 Q3;obtain ⟨q,rfl,_⟩:=h2 0 (by
   have:0<(x0 :: x).length:=Q3;omega)
  exact J7 w p q c c' _ _ (x0 :: x) y rfl rfl (fun i h=>by obtain ⟨p',e,h3⟩:=h1 i h;cases e;exact h3) (fun i h=>by obtain ⟨p',e,h3⟩:=h2 i h;cases e;exact h3) hle hm
theorem GU (w:World) (bo g cap len i j:Nat) (u v:Value) (x y:List Int) (h:w.cell? ⟨bo,1,none⟩=some (.slice (some ⟨g,0,none⟩) len cap)) (hi:i<len) (hj:j<len) (hlen:len<=maxLen)
 (hu:w.cell? ⟨g,i*4,none⟩=some u) (hv:w.cell? ⟨g,j*4,none⟩=some v) (hx:ph w u x) (hy:ph w v y) (hle:x.length<=y.length) (hm:y.length<=maxLen) :
 Calls Tryz.prog 188 #[.int .i64 i,.int .i64 j,.pointer (some ⟨bo,0,none⟩)] w fun e w'=>e = .returned (.bool (decide (cZ x y>0)))/\∃ q,w'=w.drewN q:=by
 have a:len<9223372036854775808:=by unfold maxLen at hlen;omega
 have b:Tryz.prog.follows .mixedOrders=true:=Eq.refl true
 go_enter Tryz.func188,Tryz.ntmps188
 go_wp2_with fail
 have b1:(0:Int)<=(i:Int):=Q2;have b2:(i:Int)<len:=Q2;have b3:(0:Int)<=(j:Int):=Q2;have b4:(j:Int)<len:=Q2;have c:ph w.drew u x:=hx;have d:ph w.drew v y:=hy;have f:∃ q,w.drew=w.drewN q:=⟨1,rfl⟩
 go_region_held3 (fun w'=>w'.cell? ⟨bo,1,none⟩=some (.slice (some ⟨g,0,none⟩) len cap)/\w'.cell? ⟨g,i*4,none⟩=some u/\w'.cell? ⟨g,j*4,none⟩=some v/\ph w' u x/\ph w' v y/\∃ q,w'=w.drewN q) (go_keep)
  (first | (go_at_call 72;refine (cmp_at (x:=x) (y:=y) (by assumption) (by assumption) hle hm).mono ?_;rintro e w'' ⟨rfl,rfl⟩))
 all_goals (go_wp2;go_ret;exact ⟨rfl,by assumption⟩)
def bmF:Nat->Nat
 | 241=>165
 | 277=>183
 | n=>n
def IE:Ren:=⟨bmF,blT,fun n=>n⟩
theorem MC:Lays.n241 Tryz.prog IE :=
 { mixed:=Eq.refl true,f241:=Eq.trans Tryz.func165 (congrArg some (Eq.refl (Body.n241 IE))),f277:=Eq.trans Tryz.func183 (congrArg some (Eq.refl (Body.n277 IE))),t0:=Tryz.underlying0,a0:=Tryz.isAgg0,z0:=Tryz.sizeOf0,v0:=Tryz.zeroValue0,t3:=Tryz.underlying3,a3:=Tryz.isAgg3,z3:=Tryz.sizeOf3,v3:=Tryz.zeroValue3,t37:=Tryz.underlying32,a37:=Tryz.isAgg32,z37:=Tryz.sizeOf32,v37:=Tryz.zeroValue32,t70:=Tryz.underlying138,a70:=Tryz.isAgg138,z70:=Tryz.sizeOf138,v70:=Tryz.zeroValue138,t72:=Tryz.underlying140,a72:=Tryz.isAgg140,z72:=Tryz.sizeOf140,v72:=Tryz.zeroValue140 }
theorem OG:Builder.Extra Tryz.prog IE where
 sizeBuilder:=Q4
 liesBuilder:=Q4
 t5:=Tryz.underlying5
 a5:=Tryz.isAgg5
 z5:=Tryz.sizeOf5
 v5:=Tryz.zeroValue5
 infoByte:=Q4
 cellsByte:=Q4
 sizeByte:=Q4
 neB5:=by decide
theorem b_grow (B b n:Nat) (w:World) (hB:B<=b) (hbk:w.heap[b]?=some (.cells #[.pointer none,.slice none 0 0] 140 (0,0))) (hBw:B<=w.heap.size) (hn:n<=281474976710656) :
 Calls Tryz.prog 126 #[.pointer (some ⟨b,0,none⟩),.int .i64 n] w fun e w'=>e = .returned (.tuple #[])/\(Lib.BuilderAt 140 5 B b (.pointer (some ⟨b,0,none⟩)) [] w'/\Below B w w'):=by
 have a:(w.setCell ⟨b,0,none⟩ (.pointer (some ⟨b,0,none⟩))).heap[b]?=some (.cells #[.pointer (some ⟨b,0,none⟩),.slice none 0 0] 140 (0,0)):=by
  simp [World.setCell,Xz,hbk]
 have c1:(w.setCell ⟨b,0,none⟩ (.pointer (some ⟨b,0,none⟩))).cell? ⟨b,1,none⟩=some (.slice none 0 0):=by rw [Lib.cell_of_heap a];rfl
 have hb1:Below B w (w.setCell ⟨b,0,none⟩ (.pointer (some ⟨b,0,none⟩))):=(Below.refl B w).setCell (p:=⟨b,0,none⟩) hB _;have c:Tryz.prog.follows .mixedOrders=true:=Eq.refl true
 go_enter Tryz.func126,Tryz.ntmps126
 have hU:Lib.BuilderAt 140 5 B b (.pointer (some ⟨b,0,none⟩)) [] (w.setCell ⟨b,0,none⟩ (.pointer (some ⟨b,0,none⟩))):=⟨hB,.slice none 0 0,a,World.ownsRow_nil _ _ _ _,by simp [Value.ownBlock]⟩;have d:(w.setCell ⟨b,0,none⟩ (.pointer (some ⟨b,0,none⟩))).drew.cell? ⟨b,1,none⟩=some (.slice none 0 0):=c1
 go_wp2_with (go_at_call 157;refine (sq b w (by rw [Lib.cell_of_heap hbk];rfl) (by simp [World.shape?,hbk]) (Lib.frozen_of_heap hbk 0)).mono ?_;rintro e w1 ⟨rfl,rfl⟩)
 go_region_o
 all_goals go_wp2_with (go_at_call 165;refine (Any.Builder_grow_fresh MC OG B b n (w.setCell ⟨b,0,none⟩ (.pointer (some ⟨b,0,none⟩))).drew hB a (by simpa [World.setCell,World.drew] using hBw) hn).mono ?_;rintro e w2 ⟨rfl,h1,h2⟩)
 all_goals first
  | (go_end0;exact ⟨rfl,h1,hb1.drew.trans h2⟩)
  | (go_end0;exact ⟨rfl,hU.drew,hb1.drew⟩)
theorem qN {p:Prop} (h:p):Hid p:=h
theorem join_none (a:Option Addr) (c:Nat) (sep:ByteArray) (w:World) :
 Calls Tryz.prog 68 #[.slice a 0 c,.string sep] w fun e w'=>e = .returned (.string ⟨#[]⟩)/\w'=w:=by
 go_enter Tryz.func68,Tryz.ntmps68
 go_wp2
 go_ret
 exact ⟨rfl,rfl⟩
theorem join_one (bk o c:Nat) (x sep:ByteArray) (w:World) (hc:w.cell? ⟨bk,o,none⟩=some (.string x)) :
 Calls Tryz.prog 68 #[.slice (some ⟨bk,o,none⟩) 1 c,.string sep] w fun e w'=>e = .returned (.string x)/\w'=w:=by
 go_enter Tryz.func68,Tryz.ntmps68
 go_wp2
 go_ret
 exact ⟨rfl,rfl⟩
theorem JN (bk o c:Nat) (xs:List ByteArray) (sep:ByteArray) (w:World)
 (hcells:∀ (j:Nat) x,xs[j]?=some x->w.cell? ⟨bk,o+j,none⟩=some (.string x))
 (hbk:bk<w.heap.size) (h2:2<=xs.length) (hN:xs.length<=140737488355328) (hcap:xs.length<=c)
 (hlen:(Lib.join (xs.map (·.data.toList)) sep.data.toList).length<=140737488355328) :
 Calls Tryz.prog 68 #[.slice (some ⟨bk,o,none⟩) xs.length c,.string sep] w fun e w'=>e = .returned (.string ⟨(Lib.join (xs.map (·.data.toList)) sep.data.toList).toArray⟩)/\Below w.heap.size w w':=by
 have HC:=qN hcells;clear hcells;obtain ⟨x0,r,hxs⟩:∃ x0 r,xs=x0 :: r:=by
  cases xs with
  | nil=>simp at h2
  | cons a t=>exact ⟨a,t,rfl⟩
 have H:sep.size*(xs.length-1)+Lib.lens (xs.map (·.data.toList))<=140737488355328:=by
  have:=Lib.join_length x0.data.toList (r.map (·.data.toList)) sep.data.toList;rw [hxs] at hlen ⊢;simp only [QV] at hlen ⊢;rw [this,QZ] at hlen;rw [Lib.size_eq,List.length_cons,Xk];exact hlen
 have K:sep.size*(xs.length-1)<=140737488355328:=Q2;generalize hM:sep.size*(xs.length-1)=M at H K;have d:((xs.length:Int)-1)=((xs.length-1:Nat):Int):=Q2;have F:sep.size<9223372036854775807 / (xs.length-1):=by
  have:sep.size+1<=9223372036854775807 / (xs.length-1):=by
   rw [Nat.le_div_iff_mul_le Q2,Xm,hM];omega
  omega
 have aa:¬ (9223372036854775807 / ((xs.length:Int)-1)<=(sep.size:Int)):=by
  have e:(9223372036854775807:Int) / ((xs.length-1:Nat):Int)=((9223372036854775807 / (xs.length-1):Nat):Int):=IntWalk.up_div (x:=9223372036854775807) rfl rfl;rw [d,e];generalize 9223372036854775807 / (xs.length-1)=q at F;omega
 have U:wrap64 ((sep.size:Int)*((xs.length:Int)-1))=(M:Int):=by
  have e:(sep.size:Int)*((xs.length-1:Nat):Int)=((sep.size*(xs.length-1):Nat):Int):=IntWalk.up_mul rfl rfl;rw [d,e,hM];exact IntWalk.wrap64_in _ ⟨Q2,Q2⟩
 have R:sep.size=0->M=0:=fun h=>by rw [<- hM,h,WZ]
 clear F d;have W:((xs.length:Int)==0)=false:=QE.2 Q2;have Y:((xs.length:Int)==1)=false:=QE.2 Q2;have Hxs:=qN hxs;have Hlen:=qN hlen;clear hxs hlen;have V:Tryz.prog.follows .mixedOrders=true:=Eq.refl true
 go_enter Tryz.func68,Tryz.ntmps68
 go_wp2_with fail
 all_goals (
  go_loop [5,41] (fun n i=>∃ k:Nat,k<=xs.length/\i = .int .i64 k/\n = .int .i64 ((M+Lib.lens ((xs.map (·.data.toList)).take k):Nat):Int)) (fun _ i=>xs.length-(uV i).toNat)
  case atStart=>exact ⟨0,Qy _,rfl,by first | (simp [Lib.lens];done) | (have:=R Q2;simp [Lib.lens,this])⟩
  case round =>
   obtain ⟨k,hk,rfl,rfl⟩:=hrel
   by_cases hkn:k<xs.length
   ·obtain ⟨x,hx⟩:∃ x,xs[k]?=some x:=⟨xs[k],Qh hkn⟩;have hc:=HC.out k x hx;have f:=Lib.lens_take_succ (xs.map (·.data.toList)) k x.data.toList (by simp [hx]);have B:Lib.lens ((xs.map (·.data.toList)).take (k+1))<=Lib.lens (xs.map (·.data.toList)):=Lib.lens_take_le _ _;rw [<- Lib.size_eq] at f;generalize hA1:Lib.lens ((xs.map (·.data.toList)).take (k+1))=A1 at f B;generalize Lib.lens ((xs.map (·.data.toList)).take k)=A0 at f;have HA1:=qN hA1;clear hA1
    go_wp2
    exact ⟨⟨k+1,Q2,by go_num,by rw [HA1.out];refine congrArg _ ?_;omega⟩,by simp [uV];omega⟩
   have v:k=xs.length:=Q2;subst v;have z:(xs.map (·.data.toList)).take xs.length=xs.map (·.data.toList):=Qp Q3;rw [z];generalize hT:Lib.lens (xs.map (·.data.toList))=T at H;have HT:=qN hT;clear hT z
   go_wp2_with fail
   have G:((M:Int)+(T:Int))=((M+T:Nat):Int):=Q2;rw [G];refine (b_grow w.heap.size w.heap.size (M+T) _ (Qn _) (n9 w _) (Vn (fe w _)) Q2).mono ?_;rintro e w1 ⟨rfl,h1,hb1⟩;have hb1':Below w.heap.size w w1:=((Below.refl w.heap.size w).alloc (Qn _) _).trans hb1;have O:xs[0]?=some x0:=by rw [Hxs.out];rfl
   have Z:w1.cell? ⟨bk,o,none⟩=some (.string x0):=by
    rw [hb1'.cell (p:=⟨bk,o,none⟩) hbk];exact HC.out 0 x0 O
   have H1:=qN (Or.inr h1:Lib.IsBuilder 140 5 w.heap.size w.heap.size [] w1);have Hb1:=qN hb1';have N:w.heap.size<=w1.heap.size:=hb1'.size;clear h1 hb1 hb1' G;have b:Lib.join (xs.map (·.data.toList)) sep.data.toList=x0.data.toList++Lib.joinTail sep.data.toList (r.map (·.data.toList)):=by
    rw [Hxs.out,QV,Lib.join_cons]
   have s:∀ k,(x0.data.toList++Lib.joinTail sep.data.toList ((r.map (·.data.toList)).take k)).length<=140737488355328:=fun k=>by
    have h1:=Hlen.out;rw [b,Qf] at h1;have h2:=Lib.joinTail_take_le sep.data.toList (r.map (·.data.toList)) k;rw [Qf];omega
   have HCle:=qN s;have Hwhole:=qN b;clear s b
   go_wp2_with fail
   refine (iJ w.heap.size w.heap.size [] x0 w1 H1.out (by have:=HCle.out 0;simp [Lib.joinTail] at this ⊢;omega) N).mono ?_;rintro e w2 ⟨rfl,h2',hb2⟩;have g:([]:List Value)++Lib.strCells x0=Lib.byteCells (x0.data.toList++Lib.joinTail sep.data.toList ((r.map (·.data.toList)).take 0)):=by
    simp [Lib.joinTail,Lib.strCells_eq]
   rw [g] at h2';have H2:=qN (Or.inr h2':Lib.IsBuilder 140 5 w.heap.size w.heap.size _ w2);have S:=qN (Hb1.out.trans hb2);clear h2' hb2 g;have ac:r.length=xs.length-1:=by rw [Hxs.out];simp
   go_wp2_with fail
   go_loopw [65] (fun i wr=>∃ k:Nat,k<=r.length/\i = .int .i64 k/\Hid (Lib.IsBuilder 140 5 w.heap.size w.heap.size (Lib.byteCells (x0.data.toList++Lib.joinTail sep.data.toList ((r.map (·.data.toList)).take k))) wr)/\Hid (Below w.heap.size w wr)) (fun i _=>r.length-(uV i).toNat)
   case atStart=>exact ⟨0,Qy _,rfl,H2,S⟩
   case round =>
    obtain ⟨k,ab,rfl,HB,HW⟩:=hrel
    by_cases hkr:k<r.length
    ·obtain ⟨y,hy⟩:∃ y,r[k]?=some y:=⟨r[k],Qh hkr⟩;have I:xs[k+1]?=some y:=by rw [Hxs.out];simpa using hy
     have ad:wr.cell? ⟨bk,o+1+k,none⟩=some (.string y):=by
      rw [HW.out.cell (p:=⟨bk,o+1+k,none⟩) hbk,show o+1+k=o+(k+1) by omega];exact HC.out (k+1) y I
     have m:w.heap.size<=wr.heap.size:=HW.out.size;have l:Lib.byteCells (x0.data.toList++Lib.joinTail sep.data.toList ((r.map (·.data.toList)).take k))++Lib.strCells sep++Lib.strCells y=Lib.byteCells (x0.data.toList++Lib.joinTail sep.data.toList ((r.map (·.data.toList)).take (k+1))):=by
      rw [Lib.joinTail_take_succ sep.data.toList (r.map (·.data.toList)) k y.data.toList (by simp [hy]),Lib.strCells_eq,Lib.strCells_eq,<- Lib.byteCells_append,<- Lib.byteCells_append,Vb,Vb,Vb]
     have C:=HCle.out (k+1);rw [Lib.joinTail_take_succ sep.data.toList (r.map (·.data.toList)) k y.data.toList (by simp [hy])] at C;simp only [Qf,<- Lib.size_eq] at C;have u:(Lib.byteCells (x0.data.toList++Lib.joinTail sep.data.toList ((r.map (·.data.toList)).take k))).length=x0.size+(Lib.joinTail sep.data.toList ((r.map (·.data.toList)).take k)).length:=by
      rw [Lib.byteCells_length,Qf,<- Lib.size_eq]
     generalize (Lib.joinTail sep.data.toList ((r.map (·.data.toList)).take k)).length=J at u C;have Hn:=qN l;clear l hy I
     go_wp2_with fail
     refine (iJ w.heap.size w.heap.size _ sep wr HB.out (by rw [u];omega) m).mono ?_;rintro e w3 ⟨rfl,h3,hb3⟩;have L:w.heap.size<=w3.heap.size:=Qu m hb3.size;have H3:=qN h3;have Hb3:=qN hb3;clear h3 hb3
     go_wp2_with fail
     refine (iJ w.heap.size w.heap.size _ y w3 (Or.inr H3.out) (by rw [Qf,u,Lib.strCells_length];omega) L).mono ?_;rintro e w4 ⟨rfl,h4,hb4⟩;rw [Hn.out] at h4;have H4:=qN (Or.inr h4:Lib.IsBuilder 140 5 w.heap.size w.heap.size _ w4);have Q:=qN ((HW.out.trans Hb3.out).trans hb4);clear h4 hb4
     go_wp2
     exact ⟨⟨k+1,Q2,by go_num,H4,Q⟩,by simp [uV];omega⟩
    have v:k=r.length:=Q2;subst v;have D:(r.map (·.data.toList)).take r.length=r.map (·.data.toList):=Qp Q3;have A:=HB.out;rw [D,<- Hwhole.out] at A;have m:w.heap.size<=wr.heap.size:=HW.out.size
    go_wp2_with fail
    refine (qX w.heap.size w.heap.size _ wr A m).mono ?_;rintro e w5 ⟨rfl,hb5⟩;have Hb5:=qN (HW.out.trans hb5);clear hb5 A
    go_wp2
    go_ret
    exact ⟨rfl,Hb5.out⟩)
def LV (xs:List ByteArray) (sep:ByteArray):Option ByteArray:=if xs.length<=140737488355328/\(Lib.join (xs.map (·.data.toList)) sep.data.toList).length<=140737488355328 then some ⟨(Lib.join (xs.map (·.data.toList)) sep.data.toList).toArray⟩ else none
theorem N6 (xs:List ByteArray) (sep r:ByteArray) (h:LV xs sep=some r):V.Fn Tryz.prog 68 [(Ty.list .str).pv xs,Ty.pv .str sep] (Ty.pv .str r):=by
 unfold LV at h;split at h
 ·rename_i hc;cases h;intro F w vs hF hn hv;have f:=hv 0 Q3;have m:vs.getD 1 undef = .string sep:=im (hv 1 Q3);rw [arr2 (d:=undef) hn,m];generalize vs.getD 0 undef=v at f;replace f:cQ w (.of F) nr nl v (.cv (.row xs.length (xs.flatMap (Ty.enc .str)))):=f;have he:xs.flatMap (Ty.enc .str)=xs.map fun x=>CV.lit (.string x):=by
   induction xs with
   | nil=>rfl
   | cons x l ih=>simp only [V7,QV];rw [show (l.flatMap (Ty.enc .str))=l.map fun x=>CV.lit (.string x) from by clear ih f hv hc m hn;induction l with | nil=>rfl | cons x l ih=>rw [V7,ih];rfl];rfl
  rw [he] at f;have k:∀ {r:ByteArray},(Calls Tryz.prog 68 #[v,.string sep] w fun e w'=>e = .returned (.string r)/\Below w.heap.size w w')->Calls Tryz.prog 68 #[v,.string sep] w fun e w'=>∃ u,e = .returned u/\Below w.heap.size w w'/\cQ w' (.of fun b=>F b∨(w.heap.size<=b/\b<w'.heap.size)) nr nl u (Ty.pv .str r):=by
   intro r hk;refine hk.mono ?_;rintro e w' ⟨rfl,hb⟩;exact ⟨_,rfl,hb,.cv (.lit _)⟩
  obtain ⟨p,q⟩:=hc;cases xs with
  | nil =>
   have:∃ a c,v = .slice a 0 c:=by
    cases f with
    | cv h=>cases h with
     | nil a c h=>exact ⟨a,c,rfl⟩
     | row ad n c cs vs=>exact ⟨_,_,rfl⟩
   obtain ⟨a,c,rfl⟩:=this;exact k ((join_none a c sep w).mono fun e w' ⟨he,hw⟩=>⟨he,hw ▸ Below.refl _ _⟩)
  | cons x r =>
   cases f with
   | cv h=>cases h with
    | row ad n c cs us hs hF' hn' hcc hd =>
     obtain ⟨bk,o,sp⟩:=ad;cases hs;have g:∀ (j:Nat) y,(x :: r)[j]?=some y->w.cell? ⟨bk,o+j,none⟩=some (.string y):=by
      intro j y hj;have i:=(Qx.1 hj).1;have h1:=hcc j (by simpa using i);have h2:=hd j (by simpa using i);rw [V.add_plain] at h1;rw [h1];have e1:((x :: r).map fun x=>CV.lit (.string x))[j]'(by simpa using i) = .lit (.string y):=by
       have:=(Qx.1 hj).2;simp only [Qz,this]
      rw [e1] at h2;rw [im (F:=Fo.shut (.of F)) (a:=nr) (b:=nl) (.cv h2)]
     cases r with
     | nil =>
      refine k ((join_one bk o c x sep w (g 0 x rfl)).mono fun e w' ⟨he,hw⟩=>⟨?_,hw ▸ Below.refl _ _⟩);rw [he,QV,WD,Lib.join_one,Lib.mk_data]
     | cons y r=>exact k (JN bk o c (x :: y :: r) sep w g (hF _ hF') Q3 p hn' q)
 cases h
def nE:pO T:=qw (.list .str) .str .str fun _ xs sep=>LV xs sep
theorem EW:gz Tryz.prog 68:=⟨_,Tryz.func68,by decide,by simp [Tryz.f68]⟩
theorem pB:dN T (68,nE):=ff rfl EW (fun k a b r h=>⟨_,rfl,N6 a b r h⟩)
end Go.Proofs.YtfbgaddecbiimaaGreatDoor.E
end
section
namespace Go.Proofs.YtfbgaddecbiimaaGreatDoor.E
open Go.RowKit Go.Shelf Go.Lib Go.Sort
set_option maxRecDepth 100000
def sl6R:Ren where
 f:=fun x=>match x with
  | 6=>187
  | 10=>196
  | 11=>197
  | 12=>198
  | 13=>199
  | 14=>200
  | 24=>190
  | 25=>192
  | 26=>212
  | 27=>213
  | 28=>214
  | 29=>215
  | 30=>216
  | 31=>217
  | 32=>218
  | 33=>219
  | 34=>220
  | 35=>221
  | 36=>222
  | 37=>223
  | 38=>224
  | 39=>225
  | n=>n
 t:=fun x=>match x with
  | 20=>20
  | 26=>208
  | 35=>217
  | 0=>0
  | 37=>219
  | 3=>3
  | 41=>156
  | 44=>224
  | 49=>151
  | 51=>175
  | 4=>4
  | 54=>230
  | 53=>229
  | 58=>186
  | 5=>5
  | 9=>9
  | 60=>237
  | 64=>241
  | 66=>243
  | 67=>244
  | 17=>17
  | 32=>189
  | 33=>215
  | 82=>257
  | 12=>12
  | 75=>251
  | 76=>252
  | 77=>253
  | 78=>181
  | 79=>254
  | 80=>255
  | n=>n
 g:=fun x=>x
theorem sl6:LaysGg.n6 Tryz.prog sl6R where
 mixed:=Q4
 f6:=Tryz.func187.trans (congrArg some Q4)
 f10:=Tryz.func196.trans (congrArg some Q4)
 f11:=Tryz.func197.trans (congrArg some Q4)
 f12:=Tryz.func198.trans (congrArg some Q4)
 f13:=Tryz.func199.trans (congrArg some Q4)
 f14:=Tryz.func200.trans (congrArg some Q4)
 f24:=Tryz.func190.trans (congrArg some Q4)
 f25:=Tryz.func192.trans (congrArg some Q4)
 f26:=Tryz.func212.trans (congrArg some Q4)
 f27:=Tryz.func213.trans (congrArg some Q4)
 f28:=Tryz.func214.trans (congrArg some Q4)
 f29:=Tryz.func215.trans (congrArg some Q4)
 f30:=Tryz.func216.trans (congrArg some Q4)
 f31:=Tryz.func217.trans (congrArg some Q4)
 f32:=Tryz.func218.trans (congrArg some Q4)
 f33:=Tryz.func219.trans (congrArg some Q4)
 f34:=Tryz.func220.trans (congrArg some Q4)
 f35:=Tryz.func221.trans (congrArg some Q4)
 f36:=Tryz.func222.trans (congrArg some Q4)
 f37:=Tryz.func223.trans (congrArg some Q4)
 f38:=Tryz.func224.trans (congrArg some Q4)
 f39:=Tryz.func225.trans (congrArg some Q4)
 t0:=Tryz.underlying0
 a0:=Tryz.isAgg0
 z0:=Tryz.sizeOf0
 v0:=Tryz.zeroValue0
 i0:=Q4
 t3:=Tryz.underlying3
 a3:=Tryz.isAgg3
 z3:=Tryz.sizeOf3
 v3:=Tryz.zeroValue3
 i3:=Q4
 t4:=Tryz.underlying4
 a4:=Tryz.isAgg4
 z4:=Tryz.sizeOf4
 v4:=Tryz.zeroValue4
 i4:=Q4
 t5:=Tryz.underlying5
 a5:=Tryz.isAgg5
 z5:=Tryz.sizeOf5
 v5:=Tryz.zeroValue5
 i5:=Q4
 t9:=Tryz.underlying9
 a9:=Tryz.isAgg9
 z9:=Tryz.sizeOf9
 v9:=Tryz.zeroValue9
 i9:=Q4
 t12:=Tryz.underlying12
 a12:=Tryz.isAgg12
 z12:=Tryz.sizeOf12
 v12:=Tryz.zeroValue12
 i12:=Q4
 t17:=Tryz.underlying17
 a17:=Tryz.isAgg17
 z17:=Tryz.sizeOf17
 v17:=Tryz.zeroValue17
 i17:=Q4
 t20:=Tryz.underlying20
 a20:=Tryz.isAgg20
 z20:=Tryz.sizeOf20
 v20:=Tryz.zeroValue20
 i20:=Q4
 t26:=Tryz.underlying208
 a26:=Tryz.isAgg208
 z26:=Tryz.sizeOf208
 v26:=Tryz.zeroValue208
 i26:=Q4
 t32:=Tryz.underlying189
 a32:=Tryz.isAgg189
 z32:=Tryz.sizeOf189
 v32:=Tryz.zeroValue189
 i32:=Q4
 t33:=Tryz.underlying215
 a33:=Tryz.isAgg215
 z33:=Tryz.sizeOf215
 v33:=Tryz.zeroValue215
 i33:=Q4
 t35:=Tryz.underlying217
 a35:=Tryz.isAgg217
 z35:=Tryz.sizeOf217
 v35:=Tryz.zeroValue217
 i35:=Q4
 t37:=Tryz.underlying219
 a37:=Tryz.isAgg219
 z37:=Tryz.sizeOf219
 v37:=Tryz.zeroValue219
 i37:=Q4
 t41:=Tryz.underlying156
 a41:=Tryz.isAgg156
 z41:=Tryz.sizeOf156
 v41:=Tryz.zeroValue156
 i41:=Q4
 t44:=Tryz.underlying224
 a44:=Tryz.isAgg224
 z44:=Tryz.sizeOf224
 v44:=Tryz.zeroValue224
 i44:=Q4
 t49:=Tryz.underlying151
 a49:=Tryz.isAgg151
 z49:=Tryz.sizeOf151
 v49:=Tryz.zeroValue151
 i49:=Q4
 t51:=Tryz.underlying175
 a51:=Tryz.isAgg175
 z51:=Tryz.sizeOf175
 v51:=Tryz.zeroValue175
 i51:=Q4
 t53:=Tryz.underlying229
 a53:=Tryz.isAgg229
 z53:=Tryz.sizeOf229
 v53:=Tryz.zeroValue229
 i53:=Q4
 t54:=Tryz.underlying230
 a54:=Tryz.isAgg230
 z54:=Tryz.sizeOf230
 v54:=Tryz.zeroValue230
 i54:=Q4
 t58:=Tryz.underlying186
 a58:=Tryz.isAgg186
 z58:=Tryz.sizeOf186
 v58:=Tryz.zeroValue186
 i58:=Q4
 t60:=Tryz.underlying237
 a60:=Tryz.isAgg237
 z60:=Tryz.sizeOf237
 v60:=Tryz.zeroValue237
 i60:=Q4
 t64:=Tryz.underlying241
 a64:=Tryz.isAgg241
 z64:=Tryz.sizeOf241
 v64:=Tryz.zeroValue241
 i64:=Q4
 t66:=Tryz.underlying243
 a66:=Tryz.isAgg243
 z66:=Tryz.sizeOf243
 v66:=Tryz.zeroValue243
 i66:=Q4
 t67:=Tryz.underlying244
 a67:=Tryz.isAgg244
 z67:=Tryz.sizeOf244
 v67:=Tryz.zeroValue244
 i67:=Q4
 t75:=Tryz.underlying251
 a75:=Tryz.isAgg251
 z75:=Tryz.sizeOf251
 v75:=Tryz.zeroValue251
 i75:=Q4
 t76:=Tryz.underlying252
 a76:=Tryz.isAgg252
 z76:=Tryz.sizeOf252
 v76:=Tryz.zeroValue252
 i76:=Q4
 t77:=Tryz.underlying253
 a77:=Tryz.isAgg253
 z77:=Tryz.sizeOf253
 v77:=Tryz.zeroValue253
 i77:=Q4
 t78:=Tryz.underlying181
 a78:=Tryz.isAgg181
 z78:=Tryz.sizeOf181
 v78:=Tryz.zeroValue181
 i78:=Q4
 t79:=Tryz.underlying254
 a79:=Tryz.isAgg254
 z79:=Tryz.sizeOf254
 v79:=Tryz.zeroValue254
 i79:=Q4
 t80:=Tryz.underlying255
 a80:=Tryz.isAgg255
 z80:=Tryz.sizeOf255
 v80:=Tryz.zeroValue255
 i80:=Q4
 t82:=Tryz.underlying257
 a82:=Tryz.isAgg257
 z82:=Tryz.sizeOf257
 v82:=Tryz.zeroValue257
 i82:=Q4
def svT:TypeInfo:=(Tryz.prog.info? 22).get Q4
def svE:TypeInfo:=(Tryz.prog.info? 96).get Q4
theorem svK (n:Nat) (e:2<=n):Lib.swapperK n svE 25=9:=by
 have a:svE.hasPointers=true:=Q4;have b:svE.bytes=80:=Q4;have c:(n==0)=false:=by simp;omega
 have d:(n==1)=false:=by simp;omega
 simp [Lib.swapperK,a,b,c,d]
theorem vj:∀ x:List Int,cZ x x=0
 | []=>rfl
 | x :: l=>by simp [cZ,vj l]
theorem nY:∀ x y:List Int,x.length=y.length->cZ y x = - cZ x y
 | [],[],_=>rfl
 | [],b :: y,h=>by simp at h
 | a :: x,[],h=>by simp at h
 | a :: x,b :: y,h=>by
  have ih:=nY x y (by simpa using h);simp only [cZ]
  by_cases c:a=b
  ·rw [Qk c,Qk c.symm,ih]
  rw [Qc c,Qc (fun e=>c e.symm)]
  by_cases d:a<b
  ·rw [Qk d,Qc Q2];rfl
  rw [Qc d,Qk Q2]
theorem B0 {a b:Int} {x y:List Int}:(cZ (a :: x) (b :: y)>0)↔(b<a∨(a=b/\cZ x y>0)):=by
 simp only [cZ]
 by_cases c:a=b
 ·rw [Qk c];constructor
  ·exact fun h=>.inr ⟨c,h⟩
  rintro (h | h)
  ·omega
  exact h.2
 rw [Qc c]
 by_cases d:a<b
 ·rw [Qk d];constructor
  ·intro h;omega
  rintro (h | h)
  ·omega
  omega
 rw [Qc d];constructor
 ·intro _;left;omega
 intro _;omega
theorem lX:∀ x y z:List Int,cZ x y>0->cZ y z>0->x.length=y.length->y.length=z.length->cZ x z>0
 | [],_,_,h,_,_,_=>by simp [cZ] at h
 | a :: x,[],_,h,_,_,_=>by simp [cZ] at h
 | a :: x,b :: y,[],_,h,_,_=>by simp [cZ] at h
 | a :: x,b :: y,c :: z,h1,h2,h3,h4=>by
  have ih:=lX x y z;rw [B0] at h1 h2 ⊢;simp only [List.length_cons,Yd] at h3 h4;rcases h1 with h1 | ⟨h1,g1⟩<;>rcases h2 with h2 | ⟨h2,g2⟩
  ·left;omega
  ·left;omega
  ·left;omega
  right;exact ⟨Q2,ih g1 g2 h3 h4⟩
theorem vW:∀ x y z:List Int,¬ cZ x y>0->¬ cZ y z>0->x.length=y.length->y.length=z.length->¬ cZ x z>0
 | [],_,_,h,_,_,_=>by simp [cZ]
 | a :: x,[],_,h,_,h3,_=>by simp at h3
 | a :: x,b :: y,[],_,h,_,h4=>by simp at h4
 | a :: x,b :: y,c :: z,h1,h2,h3,h4=>by
  have ih:=vW x y z;rw [B0] at h1 h2 ⊢;simp only [List.length_cons,Yd] at h3 h4;intro h;rcases h with h | ⟨h,g⟩
  ·have:¬ b<a:=fun e=>h1 (.inl e);have:¬ c<b:=fun e=>h2 (.inl e);omega
  have e1:¬ b<a:=fun e=>h1 (.inl e);have e2:¬ c<b:=fun e=>h2 (.inl e);have:a=b:=Q2;have:b=c:=Q2;exact ih (fun e=>h1 (.inr ⟨Q2,e⟩)) (fun e=>h2 (.inr ⟨Q2,e⟩)) h3 h4 g
theorem BI {α:Type} [Inhabited α] (enc:α->List Value) (k:Nat) {w:World} {g n:Nat} {os:Array Obj} {cur:Array Value} {e:TypeId} {fr:Nat×Nat} (d:Array α) (hb:w.heap[g]?=some (.cells cur e fr)) :
 (grow (putRowK enc k (Sort.ahead w n) g 0 d) os).heap[g]?=some (.cells (putCells id 0 (flatK enc k d) cur) e fr):=by
 have hg:g<w.heap.size:=(QW.1 hb).1;rw [heap_grow_old _ _ (by simpa [putRowK] using hg)];simp [putRowK,putRow,mapBlock,Sort.ahead,Xz,hb,onCells]
theorem wm {α:Type} [Inhabited α] (enc:α->List Value) (k:Nat) {w:World} {g n:Nat} {os:Array Obj} (d:Array α):w.grownBy (grow (putRowK enc k (Sort.ahead w n) g 0 d) os) (some g):=by
 refine ⟨rfl,rfl,rfl,by simp [putRowK],fun j hk hne=>?_⟩;rw [heap_grow_old _ _ (by simpa [putRowK] using hk)];have:g≠j:=fun e=>hne (by rw [e]);simp [putRowK,putRow,mapBlock,Sort.ahead,Xz,this]
theorem uf (w:World) (os:Array Obj) (r:Option Nat):w.grownBy (grow w os) r:=by
 refine ⟨rfl,rfl,rfl,Q3,fun j hk hne=>?_⟩;rw [heap_grow_old _ _ hk]
def Ci (w:World) (g:Nat) (v:Value) (x:List Int):Prop:=∃ a c,v = .slice a x.length c/\∀ i (h:i<x.length),∃ p,a=some p/\p.block≠g/\w.cell? (p.add i)=some (.int .i64 x[i])
theorem IC {w:World} {a:Addr} {v:Value} (h:w.cell? a=some v):a.block<w.heap.size:=by
 apply QK;intro c;have:w.heap[a.block]?=none:=by simp;omega
 simp [World.cell?,this] at h
abbrev nc (xs:List Value) (i:Nat):List Value:=[xs.getD (i*4) undef,xs.getD (i*4+1) undef,xs.getD (i*4+2) undef,xs.getD (i*4+3) undef]
theorem KO (w:World) (bo g cap n:Nat) (cur:Array Value) (et:TypeId) (xs:List Value) (ex:Nat->List Int) (m:Nat) (hmx:n+2<4611686018427387904) (hn:n+2<=maxLen) (hm:m<=maxLen) (hxs:xs.length=(n+2)*4)
 (hb:w.heap[g]?=some (.cells cur et (0,0))) (ht:cur.toList.take ((n+2)*4)=xs) (h1:∀ v∈xs,v.oneCell'=true) (hI:∀ i,i<n+2->Ci w g (xs.getD (i*4) undef) (ex i)) (hl:∀ i,i<n+2->(ex i).length=m)
 (hbo:w.cell? ⟨bo,1,none⟩=some (.slice (some ⟨g,0,none⟩) (n+2) cap)) (hne:bo≠g) :
 Calls Tryz.prog 187 #[.iface 22 (.slice (some ⟨g,0,none⟩) ((n+2:Nat):Nat) cap),.func (.func 188) #[] #[.pointer (some ⟨bo,0,none⟩)]] w fun e w'=>e = .returned (.tuple #[]) /\
  ∃ (d':Array (Fin (n+2))) (q:Nat) (os:Array Obj),PermIn 0 (n+2) (Array.ofFn (n:=n+2) id) d'/\SortedIn (fun i j=>decide (cZ (ex i.1) (ex j.1)>0)) 0 (n+2) d'/\w'=grow (putRowK (fun i:Fin (n+2)=>nc xs i.1) 4 (Sort.ahead w q) g 0 d') os:=by
 have d:(Array.ofFn (n:=n+2) (id:Fin (n+2)->Fin (n+2))).size=n+2:=Q3;have hg:g<w.heap.size:=(QW.1 hb).1;have u:bo<w.heap.size:=IC hbo;have o:∀ i (h:i<n+2),(Array.ofFn (n:=n+2) (id:Fin (n+2)->Fin (n+2)))[i]! = ⟨i,h⟩:=fun i h=>by
  rw [Xu _ i (by simpa using h)];simp
 have hH:HoldsK (fun i:Fin (n+2)=>nc xs i.1) 4 w g 0 (Array.ofFn (n:=n+2) id):=by
  intro t htl;rw [size_flatK,d] at htl;refine ⟨?_,by simp [World.frozen?,hb]⟩;rw [get_flatK _ _ _ _ (by rw [d];exact htl),o (t / 4) Q2];have e1:xs[t]?=cur[t]?:=by rw [<- ht,Vx htl,V1]
  have e2:(nc xs (t / 4))[t % 4]! = xs.getD t undef:=by
   have h4:t % 4=0∨t % 4=1∨t % 4=2∨t % 4=3:=Q2;rcases h4 with h | h | h | h<;>rw [h]<;>simp only [nc]<;>(first | (rw [show t / 4*4=t by omega];rfl) | (rw [show t / 4*4+1=t by omega];rfl) | (rw [show t / 4*4+2=t by omega];rfl) | (rw [show t / 4*4+3=t by omega];rfl))
  show w.cell? ⟨g,0+t,none⟩=some ((nc xs (t / 4))[t % 4]!);rw [e2];simp only [World.cell?,hb,QS,Option.isSome_none,Vo,Xr];rw [<- e1,Q6,Qh Q2];rfl
 have s:SWO (fun i j:Fin (n+2)=>decide (cZ (ex i.1) (ex j.1)>0)):=by
  refine ⟨fun x=>by simp [vj],fun x y z a b=>?_,fun x y z a b=>?_⟩
  ·simp only [Vc] at a b ⊢;exact lX _ _ _ a b ((hl _ x.2).trans (hl _ y.2).symm) ((hl _ y.2).trans (hl _ z.2).symm)
  simp only [Xn] at a b ⊢;exact vW _ _ _ a b ((hl _ x.2).trans (hl _ y.2).symm) ((hl _ y.2).trans (hl _ z.2).symm)
 have k:LessReadsK Tryz.prog 188 #[.pointer (some ⟨bo,0,none⟩)] (fun i:Fin (n+2)=>nc xs i.1) 4 (fun i j=>decide (cZ (ex i.1) (ex j.1)>0)) g 0 (Array.ofFn (n:=n+2) (id:Fin (n+2)->Fin (n+2))).size w:=by
  intro q os dk hs i j hi hj;rw [d] at hs hi hj;have e:sortWorldK (fun i:Fin (n+2)=>nc xs i.1) 4 w g 0 q dk os=putRowK (fun i:Fin (n+2)=>nc xs i.1) 4 (grow (Sort.ahead w q) os) g 0 dk:=by
   unfold sortWorldK;rw [putRowK_grow _ _ (Sort.ahead w q) _ g 0 _ hg]
  have r:HoldsK (fun i:Fin (n+2)=>nc xs i.1) 4 (grow (Sort.ahead w q) os) g 0 (Array.ofFn (n:=n+2) id):=holdsK_grow _ _ _ _ g 0 _ hg (holdsK_ahead _ _ _ _ _ _ _ hH);have hHd:=holdsK_putRowK (fun i:Fin (n+2)=>nc xs i.1) 4 _ g 0 _ dk r (by rw [hs,d]);have l:∀ a v,a.block≠g->w.cell? a=some v->(putRowK (fun i:Fin (n+2)=>nc xs i.1) 4 (grow (Sort.ahead w q) os) g 0 dk).cell? a=some v:=fun a v ha hv=>by
   rw [cell?_putRowK_other _ _ _ g 0 dk _ ha,cell?_grow _ _ _ (by exact IC hv)];exact hv
  have f:∀ i,i<n+2->ph (putRowK (fun i:Fin (n+2)=>nc xs i.1) 4 (grow (Sort.ahead w q) os) g 0 dk) (xs.getD (dk[i]!.1*4) undef) (ex dk[i]!.1):=fun i hi=>by
   obtain ⟨a,c,g1,g2⟩:=hI dk[i]!.1 dk[i]!.2;exact ⟨a,c,g1,fun i h=>by
    obtain ⟨p,g3,g4,g5⟩:=g2 i h;exact ⟨p,g3,l _ _ (by rw [V.block_add];exact g4) g5⟩⟩
  have cell:∀ i,i<n+2->(putRowK (fun i:Fin (n+2)=>nc xs i.1) 4 (grow (Sort.ahead w q) os) g 0 dk).cell? ⟨g,i*4,none⟩=some (xs.getD (dk[i]!.1*4) undef):=fun i hi=>by
   have:=(hHd.cell (i:=i) (c:=0) (by rw [hs];exact hi) Q2).1;rw [show 0+i*4+0=i*4 by omega] at this;exact this
  have eq:(ex dk[i]!.1).length=(ex dk[j]!.1).length:=(hl _ dk[i]!.2).trans (hl _ dk[j]!.2).symm;have:=GU (putRowK (fun i:Fin (n+2)=>nc xs i.1) 4 (grow (Sort.ahead w q) os) g 0 dk) bo g cap (n+2) i j _ _ (ex dk[i]!.1) (ex dk[j]!.1) (l _ _ hne hbo) hi hj hn (cell i hi) (cell j hj) (f i hi) (f j hj) (YC eq) (by rw [hl _ dk[j]!.2];exact hm);rw [e];exact this
 have:=Any.sort_Slice_cells_sorted sl6 22 96 svT svE Q4 Q4 Q4 Q4 25 (fun _=>Q4) (fun i:Fin (n+2)=>nc xs i.1) 4 (fun _=>rfl) Q4 (fun _=>Q4)
  (fun x v hv=>by
   have ge:∀ t,t<(n+2)*4->(xs.getD t undef).oneCell'=true:=fun t ht=>by
    rw [Q6,Qh Q2];exact h1 _ (Qi _)
   have hx:=x.2;simp only [nc,Qo,Yi,or_false] at hv;rcases hv with rfl | rfl | rfl | rfl<;>exact ge _ Q2) _ s 188 #[.pointer (some ⟨bo,0,none⟩)]
  (enters_of Tryz.func188 Q4 rfl) g 0 cap (Array.ofFn (n:=n+2) id) (by rw [d];omega) (by rw [d];exact hmx) 211 (by rw [svK _ (by rw [d];omega)];kernel_rfl) false
  (fun args W=>run_callFunc_extern Tryz.func211 Q4 Q4 Q4 (e:=Extern.ReflectliteSwapper.swap false) Q4 args W) w k hH hg
 rw [d] at this;exact this
theorem KP (w:World) (p:Option Addr) (n cap:Nat) (h1:n<=1) (lf:Fn) (la lb:Array Value):Calls Tryz.prog 187 #[.iface 22 (.slice p n cap),.func lf la lb] w fun e w'=>e = .returned (.tuple #[])/\∃ os,w'=grow w os:=by
 have hf:∃ f,Tryz.prog.funcs.findIdx? (·.name == "internal/reflectlite"++".Swapper$"++toString (Lib.swapperK n svE 25))=some f:=by
  have:n=0∨n=1:=Q2;rcases this with rfl | rfl
  ·exact ⟨203,Q4⟩
  exact ⟨204,Q4⟩
 obtain ⟨f,hf⟩:=hf;exact Any.sort_Slice_tiny sl6 22 96 svT svE Q4 Q4 Q4 Q4 25 (fun _=>Q4) p n cap h1 f hf lf la lb w
open Go.Proofs.YtfbgaddecbiimaaGreatDoor.V
abbrev yX (l:List ah.den):Prop:=l.Pairwise fun a b=>cZ a.1 b.1>0
theorem EE {x:ah.den}:∀ {l:List ah.den},JX x l=true↔∀ y∈l,y.1.length=x.1.length/\x.1≠y.1
 | []=>by simp [JX]
 | y :: l=>by
  have ih:=@EE x l;rw [JX];cases h:Nat.beq x.1.length y.1.length with
  | false =>
   simp only [Vo,YI];intro g;have:=(g y Q3).1;rw [this,Vv] at h;cases h
  | true =>
   have h':=Qt h
   by_cases c:x.1=y.1
   ·rw [Qb c];simp only [Vo,YI];intro g;exact (g y Q3).2 c
   rw [Q8 c];simp only [ih,Qo,forall_eq_or_imp];exact ⟨fun g=>⟨⟨h'.symm,c⟩,g⟩,fun g=>g.2⟩
theorem wI:∀ {l:List ah.den},NU l=true↔l.Pairwise fun a b=>b.1.length=a.1.length/\a.1≠b.1
 | []=>by simp [NU]
 | x :: l=>by
  have ih:=@wI l;rw [NU,Qv,<- EE,<- ih];cases JX x l<;>simp
theorem u6 (x:ah.den):∀ l,(G0 x l).Perm (x :: l)
 | []=>.refl _
 | y :: l=>by
  rw [G0];cases decide (cZ y.1 x.1>0) with
  | true=>exact ((u6 x l).cons y).trans (.swap x y l)
  | false=>exact .refl _
theorem lJ:∀ l,(iL l).Perm l
 | []=>.refl _
 | x :: l=>(u6 x _).trans ((lJ l).cons x)
theorem BZ {x y:List Int} (h:x.length=y.length) (hn:x≠y):cZ x y≠0:=by
 revert y
 induction x with
 | nil =>
  intro y h hn;cases y with
  | nil=>exact absurd rfl hn
  | cons b y=>simp at h
 | cons a x ih =>
  intro y h hn;cases y with
  | nil=>simp at h
  | cons b y =>
   simp only [cZ]
   by_cases c:a=b
   ·rw [Qk c];exact ih (by simpa using h) (fun e=>hn (by rw [c,e]))
   rw [Qc c]
   by_cases d:a<b
   ·rw [Qk d];omega
   rw [Qc d];omega
theorem Ae (m:Nat) (x:ah.den) (hx:x.1.length=m):∀ l:List ah.den,(∀ y∈l,y.1.length=m/\x.1≠y.1)->yX l->yX (G0 x l)
 | [],_,_=>by simp [G0,yX]
 | y :: l,h,hf=>by
  have ih:=Ae m x hx l (fun z hz=>h z (by simp [hz])) (Qv.1 hf).2;obtain ⟨hy,hne⟩:=h y Q3;rw [G0];cases c:decide (cZ y.1 x.1>0) with
  | true =>
   have c':cZ y.1 x.1>0:=VE c;refine Qv.2 ⟨fun z hz=>?_,ih⟩;have hz':=(u6 x l).mem_iff.1 hz;simp only [Qo] at hz';rcases hz' with rfl | hz'
   ·exact c'
   exact (Qv.1 hf).1 z hz'
  | false =>
   have c':¬ cZ y.1 x.1>0:=Wo c;have e1:=nY x.1 y.1 (hx.trans hy.symm);have e2:=BZ (hx.trans hy.symm) hne;have c2:cZ x.1 y.1>0:=Q2;refine Qv.2 ⟨fun z hz=>?_,hf⟩;simp only [Qo] at hz;rcases hz with rfl | hz
   ·exact c2
   exact lX _ _ _ c2 ((Qv.1 hf).1 z hz) (hx.trans hy.symm) (hy.trans (h z (by simp [hz])).1.symm)
theorem sG (m:Nat):∀ l:List ah.den,(∀ x∈l,x.1.length=m)->(l.Pairwise fun a b=>a.1≠b.1)->yX (iL l)
 | [],_,_=>by simp [iL,yX]
 | x :: l,h,hd=>by
  have ih:=sG m l (fun y hy=>h y (by simp [hy])) (Qv.1 hd).2;refine Ae m x (h x Q3) _ (fun y hy=>?_) ih;have hy':=(lJ l).mem_iff.1 hy;exact ⟨h y (by simp [hy']),(Qv.1 hd).1 y hy'⟩
theorem Ak (m:Nat):∀ l l':List ah.den,(∀ x∈l,x.1.length=m)->yX l->yX l'->l.Perm l'->l=l'
 | [],l',_,_,_,hp=>(List.nil_perm.1 hp).symm
 | x :: l,[],_,_,_,hp=>by simp at hp
 | x :: l,y :: l',hm,h1,h2,hp=>by
  have e:x=y:=by
   apply QK;intro c;have a1:x∈y :: l':=hp.mem_iff.1 Q3;have a2:y∈x :: l:=hp.mem_iff.2 Q3;replace a1:x∈l':=(Qo.1 a1).resolve_left c;replace a2:y∈l:=(Qo.1 a2).resolve_left (fun e=>c e.symm);have b1:=(Qv.1 h2).1 x a1;have b2:=(Qv.1 h1).1 y a2;have:=nY x.1 y.1 ((hm x Q3).trans (hm y (by simp [a2])).symm);omega
  subst e;rw [Ak m l l' (fun y hy=>hm y (by simp [hy])) (Qv.1 h1).2 (Qv.1 h2).2 (List.perm_cons x |>.1 hp)]
theorem I9 (m:Nat) (l l':List ah.den) (hm:∀ x∈l,x.1.length=m) (hd:l.Pairwise fun a b=>a.1≠b.1) (hp:l'.Perm l) (hs:l'.Pairwise fun a b=>¬ cZ b.1 a.1>0):l'=iL l:=by
 have c:∀ x∈l',x.1.length=m:=fun x hx=>hm x (hp.mem_iff.1 hx);have d:l'.Pairwise fun a b=>a.1≠b.1:=(hp.pairwise_iff (fun {a b} h=>h.symm)).2 hd;refine Ak m l' _ c ?_ (sG m l hm hd) (hp.trans (lJ l).symm);refine (hs.and d).imp_of_mem (fun {a b} ha hb h=>?_);have e1:=nY a.1 b.1 ((c a ha).trans (c b hb).symm);have e2:=BZ ((c a ha).trans (c b hb).symm) h.2;have:=h.1;omega
theorem HZ:∀ {l:List ah.den},NU l=true->∀ x∈l,x.1.length=(l.headD (Ty.zero ah)).1.length
 | [],_,x,hx=>by simp at hx
 | y :: l,h,x,hx=>by
  have:=Qv.1 (wI.1 h);simp only [List.headD_cons];simp only [Qo] at hx;rcases hx with rfl | hx
  ·rfl
  exact (this.1 x hx).1
theorem LC {l:List ah.den} (h:NU l=true):l.Pairwise fun a b=>a.1≠b.1:=(wI.1 h).imp fun h=>h.2
abbrev rX:ah.den->List CV:=Ty.enc ah
theorem Iu {l:List ah.den} {t:Nat} (h:t<(l.flatMap rX).length):(l.flatMap rX)[t]=(rX (l.getD (t / 4) (Ty.zero ah))).getD (t % 4) .any:=by
 have hl:(l.flatMap rX).length=l.length*4:=dZ l;have h1:t / 4<l.length:=Q2;have h2:=uj (t:=ah) l (t / 4) h1;have e:(rX (l.getD (t / 4) (Ty.zero ah)))[t % 4]?=(l.flatMap rX)[t]?:=by
  show (Ty.enc ah _)[t % 4]?=_;rw [<- h2,Vx (by show t % 4<4;omega),WI,show t / 4*Ty.sz ah+t % 4=t by (show t / 4*4+t % 4=t);omega]
 rw [Q6,e,Qh h];rfl
theorem LX {w:World} {F:Fo} {v:Value} {x:List Int} {g:Nat} (hd:Den w F v (.row x.length (x.flatMap (Ty.enc (.int .i64))))) (hg:¬ F g):Ci w g v x:=by
 generalize hc:CV.row x.length (x.flatMap (Ty.enc (.int .i64)))=c at hd;cases hd with
 | lit=>cases hc
 | own=>cases hc
 | any=>cases hc
 | nil a c h =>
  simp only [CV.row.injEq] at hc;have:x=[]:=Wb.1 hc.1;subst this;exact ⟨a,c,rfl,fun i h=>by simp at h⟩
 | row ad n c cs vs hs hF hn hcc hdd =>
  simp only [CV.row.injEq] at hc;obtain ⟨rfl,rfl⟩:=hc;refine ⟨some ad,c,rfl,fun i h=>?_⟩;have hl:(x.flatMap (Ty.enc (.int .i64))).length=x.length:=by rw [kj,bW]
  refine ⟨ad,rfl,fun e=>hg (e ▸ hF),?_⟩;have h1:=hcc i (by rw [hl];exact h);have h2:=hdd i (by rw [hl];exact h);have e:(x.flatMap (Ty.enc (.int .i64)))[i]'(by rw [hl];exact h) = .lit (.int .i64 x[i]):=by
   have:(x.flatMap (Ty.enc (.int .i64)))[i]?=some (.lit (.int .i64 x[i])):=by
    rw [kj];simp [ints,h]
   rw [Qh (by rw [hl];exact h)] at this;exact QF this
  rw [e] at h2;generalize vs i=u at h1 h2;cases h2;exact h1
theorem lay_ne {X:Ctx} {S:V.St} {L:mJ} {a:Act} {w:World} (r:cM X S L a w) {k:Nat} {d:Row} (hk:S.rows k=some d) {g:Nat} (hg:(L k).ownBlock=some g):¬ Still X S.rows L w g:=fun h=>h.2 ⟨k,d,hk,hg⟩
theorem vU {α:Type} (d:Array α) (n:Nat) (h:d.size=n):d.extract 0 n=d:=by subst h;simp
theorem C1 {X:Ctx} {S:V.St} {L:mJ} {a:Act} {w:World} (r:cM X S L a w) {k bo:Nat} {l:List ah.den} {n:CV} (hk:S.rows k=some (bZ.arr 96 ah l).row) (hb:S.rows bo=some ⟨24,2,1,[n,.own k]⟩)
 (hop:Nat.ble opened bo=true) (hok:NU l=true) (hlt:l.length<4611686018427387904) (hm:(l.headD (Ty.zero ah)).1.length<=maxLen) (hne:bo≠k) :
 ∃ b0 c0,L bo = .slice (some ⟨b0,0,none⟩) 1 c0/\w.cell? ⟨b0,1,none⟩=some (L k) /\
  Calls Tryz.prog 187 #[.iface 22 (L k),.func (.func 188) #[] #[.pointer (some ⟨b0,0,none⟩)]] w fun e w'=>e = .returned (.tuple #[])/\cM X (setRow S k (bZ.arr 96 ah (iL l)).row) L a w':=by
 obtain ⟨ys,⟨yl,q1⟩,Q,yd⟩:=r.row bo _ hb;obtain ⟨xs,⟨xl,p1⟩,m,xd⟩:=r.row k _ hk;simp only [bZ.row] at xl p1 m xd;have K:Ty.sz ah=4:=rfl;rw [K] at xl p1;rcases q1 with ⟨_,q2⟩ | ⟨b0,c0,cur0,q2,q3,q4,q5,q6,q7,q8⟩
 ·cases q2
 have M:(L bo).ownBlock=some b0:=by rw [q2];rfl
 simp only [Y8] at q8 yl;have z:w.cell? ⟨b0,1,none⟩=some (L k):=by
  have h1:=yd 1 Q3;have e1:([n,CV.own k]:List CV)[1] = .own k:=rfl;simp only [Fo.at,hop,cond_true] at h1;rw [e1] at h1;have e2:ys.getD 1 undef=L k:=by
   generalize ys.getD 1 undef=u at h1;cases h1 with
   | own h _ _=>exact h.2
  have e3:cur0[1]?=some (L k):=by
   have:ys[1]?=cur0[1]?:=by rw [<- q8,Vx Q2,V1]
   rw [<- this,Qh Q2,<- e2,Q6,Qh Q2];rfl
  simp only [World.cell?,q4,Option.isSome_none,Vo,Xr];exact e3
 refine ⟨b0,c0,q2,z,?_⟩
 by_cases h2:l.length<=1
 ·
  have hs:iL l=l:=by
   match l,h2 with
   | [],_=>rfl
   | [x],_=>rfl
  have hL:∃ p c,L k = .slice p l.length c:=by
   rcases p1 with ⟨h,h'⟩ | ⟨g,cap,cur,h,_⟩
   ·exact ⟨none,0,by rw [h,h']⟩
   exact ⟨_,_,h⟩
  obtain ⟨p,c,hL⟩:=hL;rw [hL];refine (KP w p l.length c h2 _ _ _).mono ?_;rintro e w' ⟨rfl,os,rfl⟩;refine ⟨rfl,?_⟩;rw [hs];refine r.set hk (uf w os _) (xs:=xs) ?_ m rfl rfl xd;refine World.ownsRow.kept (⟨xl,p1⟩:w.ownsRow X.lo 96 4 (L k) l.length xs) (uf w os none) ?_;rw [hL];cases p with
  | none=>exact .inl rfl
  | some p=>exact .inr (by simp [Value.ownBlock])
 obtain ⟨n0,hn0⟩:∃ n0,l.length=n0+2:=⟨l.length-2,Q2⟩;rcases p1 with ⟨_,h⟩ | ⟨g,cap,cur,p2,p3,p4,p5,p6,p7,p8⟩
 ·omega
 have s:(L k).ownBlock=some g:=by rw [p2];rfl
 have D:b0≠g:=fun e=>hne (r.apart bo k _ _ g hb hk (by rw [M,e]) s);have hF:¬ (Still X S.rows L w).at k g:=by rw [Fo.E2];exact lay_ne r hk s
 rw [hn0] at p2 p8 xl p5;have A:(l.flatMap rX).length=l.length*4:=dZ l;have y:xs.length=(l.flatMap rX).length:=m;have den:∀ t (h:t<(l.flatMap rX).length),Den w ((Still X S.rows L w).at k) (xs.getD t undef) ((rX (l.getD (t / 4) (Ty.zero ah))).getD (t % 4) .any):=fun t h=>by
  rw [<- Iu h];exact xd t h
 let ex:Nat->List Int:=fun i=>(l.getD i (Ty.zero ah)).1
 have hI:∀ i,i<n0+2->Ci w g (xs.getD (i*4) undef) (ex i):=fun i hi=>by
  have:=den (i*4) (by rw [A];omega);rw [show i*4 / 4=i by omega,show i*4 % 4=0 by omega] at this;exact LX this hF
 have F:∀ i,i<n0+2->(ex i).length=(l.headD (Ty.zero ah)).1.length:=fun i hi=>by
  refine HZ hok _ ?_;rw [Q6,Qh Q2];exact Qi _
 have C:∀ v∈xs,v.oneCell'=true:=by
  intro v hv;obtain ⟨t,ht,rfl⟩:=QL hv;have h1:t<(l.flatMap rX).length:=by rw [<- y];exact ht
  have h3:=xd t h1;have h4:xs.getD t undef=xs[t]:=by rw [Q6,Qh ht];rfl
  rw [h4] at h3;refine h3.one ?_;have:=qP (t:=ah) l;rw [QA] at this;exact this _ (Qi _)
 have call:=KO w b0 g cap n0 cur 96 xs ex _ Q2 Q2 hm xl p4 p8 C hI F (by rw [z,p2]) D;rw [p2];refine call.mono ?_;rintro e w' ⟨rfl,d',q,os,hp,hs,rfl⟩;refine ⟨rfl,?_⟩;obtain ⟨d1,_,d3⟩:=hp;have ds:d'.size=n0+2:=by rw [d1];simp
 have I:d'.extract 0 (n0+2)=d':=vU d' _ ds;have H:(Array.ofFn (n:=n0+2) (id:Fin (n0+2)->Fin (n0+2))).extract 0 (n0+2)=Array.ofFn id:=vU _ _ Q3;rw [I,H] at d3
 let pick:Fin (n0+2)->ah.den:=fun i=>l.getD i.1 (Ty.zero ah)
 have el:(Array.ofFn (n:=n0+2) (id:Fin (n0+2)->Fin (n0+2))).toList.map pick=l:=by
  apply QP
  ·simp [hn0]
  intro i h1 h2';rw [Qz,Array.getElem_toList,Array.getElem_ofFn];show l.getD i _=l[i];rw [Q6,Qh h2'];rfl
 have B:(d'.toList.map pick).Perm l:=by
  have:=d3.map pick;rw [el] at this;exact this
 have N:(d'.toList.map pick).Pairwise fun a b=>¬ cZ b.1 a.1>0:=by
  rw [VK,VW];intro i j hi hj hij;have O:i<d'.size:=by simpa using hi
  have J:j<d'.size:=by simpa using hj
  have:=hs i j (Qy _) hij Q2;rw [Xu _ i O,Xu _ j J] at this;simpa using this
 have G:=I9 _ l _ (HZ hok) (LC hok) B N;have o:(iL l).length=n0+2:=by rw [(lJ l).length_eq,hn0]
 have row:(bZ.arr 96 ah (iL l)).row=⟨96,4,n0+2,(iL l).flatMap rX⟩:=by rw [<- o];rfl
 have d:((iL l).flatMap rX).length=(n0+2)*4:=by rw [<- o];exact dZ _
 rw [row];have R:(n0+2)*4<=cur.size:=by rw [p7];omega
 have f:(flatK (fun i:Fin (n0+2)=>nc xs i.1) 4 d').size=(n0+2)*4:=by rw [size_flatK,ds]
 refine r.set hk (by rw [s];exact wm _ _ _) (xs:=(flatK (fun i:Fin (n0+2)=>nc xs i.1) 4 d').toList) ?_ (by simp only [Array.length_toList,f,d]) rfl (by rw [d];simp only [bZ.row];rw [dZ,hn0];rfl) ?_
 ·refine ⟨by simp only [Array.length_toList,f],.inr ⟨g,cap,_,p2,p3,BI _ _ _ p4,Q2,p6,by simp [putCells,p7],?_⟩⟩;apply List.ext_getElem?;intro t
  by_cases ht:t<(n0+2)*4
  ·rw [Vx ht,V1,V1];have h3:t<cur.size:=Q2;have h4:t<(flatK (fun i:Fin (n0+2)=>nc xs i.1) 4 d').size:=Q2;rw [Qg h4,<- Xu _ t h4];simp only [putCells,Array.getElem?_mapIdx,Qg h3,Option.map_some,Qy,true_and,QS,Qk h4,Nat.sub_zero,id]
  rw [List.getElem?_take_eq_none (by show (n0+2)*4<=t;omega),Vh (by simp only [Array.length_toList,f];omega)]
 intro t ht;simp only [d] at ht;have h1:t / 4<d'.size:=Q2;have e1:(flatK (fun i:Fin (n0+2)=>nc xs i.1) 4 d').toList.getD t undef=xs.getD (d'[t / 4].1*4+t % 4) undef:=by
  rw [Q6,V1,Qg Q2,<- Xu (flatK (fun i:Fin (n0+2)=>nc xs i.1) 4 d') t Q2,get_flatK _ _ _ _ (by rw [ds];exact ht),Xu d' _ h1];have h4:t % 4=0∨t % 4=1∨t % 4=2∨t % 4=3:=Q2;rcases h4 with h | h | h | h<;>rw [h]<;>rfl
 have e2:((iL l).flatMap rX)[t]'(by rw [d];exact ht)=(rX (l.getD d'[t / 4].1 (Ty.zero ah))).getD (t % 4) .any:=by
  rw [Iu (by rw [d];exact ht),<- G];congr 2;rw [Q6,VJ,V1,Qg h1];rfl
 have h3:=den (d'[t / 4].1*4+t % 4) (by rw [A,hn0];have:=d'[t / 4].2;omega);rw [show (d'[t / 4].1*4+t % 4) / 4=d'[t / 4].1 by omega,show (d'[t / 4].1*4+t % 4) % 4=t % 4 by omega] at h3;show Den w _ _ (((iL l).flatMap rX)[t]'(by rw [d];exact ht));rw [e1,e2];exact h3
theorem C3 {ts tb fs fc a:Nat} {ops:List Oper} {ds:List Nat} (h:FG ts tb fs fc ops=some (a,ds)):∃ o1 o2 o3 o4 o5 d1 d2 d3 d4 d5,∃ c:Call,ops=[o1,o2,o3,o4,o5]/\ds=[d1,d2,d3,d4,d5]/\d3≠d4 /\
 (o1.dst=some d1/\o2.dst=some d2/\o3.dst=some d3/\o4.dst=some d4/\o5.dst=some d5)/\(o1.guard=none/\o2.guard=none/\o3.guard=none/\o4.guard=none/\o5.guard=none) /\
 o1.op = .fieldAddr tb (.tmp a) 1/\o2.op = .load ts (.tmp d1)/\o3.op = .makeInterface ts (.tmp d2)/\o4.op = .makeFunc (.func fc) #[] #[.tmp a]/\o5.op = .call c/\c.callee = .value (.func fs)/\c.args = #[.tmp d3,.tmp d4]:=by
 unfold FG at h;split at h
 ·rename_i o1 o2 o3 o4 o5;split at h
  ·rename_i c d1 d2 d3 d4 e5 e1 e2 e3 e4;split at h
   ·rename_i g b3 b4 t1 a0 t2 b1 t3 b2 g2 xs ys f1 f2 f3 f4 f5 f6 f7 f8 f9 f10 f11;split at h
    ·rename_i a2 f12 f13;split at h
     ·rename_i d5 hb hne hd5;simp only [Qm] at hb;obtain ⟨h1,h2,h3,h4,h5,h6,h7,h8,h9,b⟩:=hb;have h1:=Qt h1;have h2:=Qt h2;have h3:=Qt h3;have h4:=Qt h4;have h5:=Qt h5;have h6:=Qt h6;have h7:=Qt h7;have h8:=Qt h8;have h9:=Qt h9;have b:=Qt b;subst h1 h2 h3 h4 h5 h6 h7 h8 h9 b;cases h;have ex:xs = #[]:=by
       cases xs with
       | mk l=>simp only at f12;rw [f12]
      have ey:ys = #[.tmp a]:=by
       cases ys with
       | mk l=>simp only at f13;rw [f13]
      have ec:c.args = #[.tmp b3,.tmp b4]:=by
       generalize c.args=z at f2;cases z with
       | mk l=>simp only at f2;rw [f2]
      subst ex ey;exact ⟨o1,o2,o3,o4,o5,_,_,_,_,d5,c,rfl,rfl,(fun e=>by rw [e,Vv] at hne;cases hne),⟨e1,e2,e3,e4,hd5⟩,⟨f7,f8,f9,f10,f11⟩,f3,f4,f5,f6,e5,f1,ec⟩
     cases h
    cases h
   cases h
  cases h
 cases h
theorem eval_put {a:Act} {d t:Nat} {v:Value} (h:d<a.tmps.size):(a.put (some d) v).eval (.tmp t)=if t=d then v else a.eval (.tmp t):=by
 show (a.tmps.setIfInBounds d v).getD t undef=_;exact ug _ _ _ _ h
theorem kA {a:Act} {d:Option Nat} {v:Value}:(a.put d v).tmps.size=a.tmps.size:=by
 cases d<;>simp [Act.put]
theorem vc {S:ES}:∀ {ds:List Nat},free S ds=true->∀ d∈ds,find S.env d=none
 | [],_,d,h=>by cases h
 | e :: ds,h,d,hd=>by
  rw [free] at h;split at h
  ·rename_i hn;simp only [Qo] at hd;rcases hd with rfl | hd
   ·exact hn
   exact vc h d hd
  cases h
theorem NP {w:World} {X:Ctx} {rows:Nat->Option Row} {L:mJ} {v:Value} {k:Nat} (h:cQ w (Still X rows L w) rows L v (.cv (.own k))):v=L k:=by
 cases h with
 | cv h=>cases h with
  | own h _ _=>exact h.2
theorem Je {X:Ctx} {S:V.St} {L:mJ} {a:Act} {w:World} (r:cM X S L a w) {k:Nat} {d:Row} (hk:S.rows k=some d):∃ p c,L k = .slice p d.n c:=by
 obtain ⟨xs,⟨_,h⟩,_⟩:=r.row k d hk;rcases h with ⟨h1,h2⟩ | ⟨g,cap,cur,h1,_⟩
 ·exact ⟨none,0,by rw [h1,h2]⟩
 exact ⟨_,_,h1⟩
theorem Np {ops:List Oper} {draw:Bool} {S:ES} {h:Hk} {y:h.t.den} (hh:xo 22 24 96 187 188 ops draw S=some h) (hy:h.x=some y) (X:Ctx) (id:Nat) (W:V.St) (Q:gM) (hin:∀ (n:Nat) (o:Oper),ops[n]?=some o->dm X o.dst) (hs:Sub S W) (hQ:∀ W',Sub (h.f y) W'->Q .normal W'):kp Tryz.prog X (.region id ops.toArray draw) W Q:=by
 unfold xo at hh;split at hh
 ·rename_i a ds hat;split at hh
  ·rename_i bo hfa hfree;split at hh
   ·rename_i e n k hbo hop;split at hh
    ·rename_i e2 c l hk1 he hne;split at hh
     ·rename_i l2 b hcast;cases hh;dsimp only at hy hQ y;obtain ⟨o1,o2,o3,o4,o5,d1,d2,d3,d4,d5,cl,rfl,rfl,B,⟨x1,x2,x3,x4,x5⟩,⟨g1,g2,g3,g4,g5⟩,p1,p2,p3,p4,p5,p6,p7⟩:=C3 hat;have he:=Qt he;have b:=Qt b;subst he b;have s:bo≠k:=fun e=>by rw [e,Vv] at hne;cases hne
      have hq:∃ q:c=kK,l2=q ▸ l:=by
       unfold fC at hcast;cases hte:jE (.list c) (.list kK) with
       | none=>rw [hte] at hcast;cases hcast
       | some z =>
        rw [hte] at hcast;have hz:=z.down;cases hz;exact ⟨rfl,(QF hcast).symm⟩
      obtain ⟨rfl,hq⟩:=hq;replace hq:l2=l:=hq;subst hq;unfold C2 at hy;split at hy
      ·rename_i k1 k2 k3;cases hy;refine ak (fun av w ⟨L,r⟩=>?_);have ea:W.env a=some (.po bo 0):=hs.env a _ _ hfa rfl;have eb:W.rows bo=some ⟨24,2,1,[.lit (.int .i64 n),.own k]⟩:=by rw [hs.rows bo,hbo];rfl
       have ek:W.rows k=some (bZ.arr 96 ah l2).row:=by rw [hs.rows k,hk1];rfl
       have u:1000000000<=maxLen:=by unfold maxLen;omega
       obtain ⟨b0,c0,hL,O,N⟩:=C1 r ek eb hop k1 (XV (Qe k2) Q2) (Qu (Qe k3) u) s;obtain ⟨bp,bc,U⟩:=Je r ek;have H:av.tmps.getD a undef = .pointer (some ⟨b0,0,none⟩):=by
        have h1:=(r.env a _ ea).2;generalize av.tmps.getD a undef=v at h1;cases h1 with
        | po h hL2 ho =>
         rw [hL] at hL2;cases hL2;rfl
       have m:=r.size;have i1:d1<X.nt:=by have:=hin 0 o1 rfl;rwa [x1] at this
       have i2:d2<X.nt:=by have:=hin 1 o2 rfl;rwa [x2] at this
       have i3:d3<X.nt:=by have:=hin 2 o3 rfl;rwa [x3] at this
       have i4:d4<X.nt:=by have:=hin 3 o4 rfl;rwa [x4] at this
       have fr:=fun d hd=>vc hfree d hd;have ne:∀ d∈[d1,d2,d3,d4,d5],a≠d:=fun d hd e=>by
        have:=fr d hd;rw [<- e,hfa] at this;cases this
       have J:=ne d1 Q3;have C:=ne d2 Q3;have M:=ne d3 Q3;have G:Pure Tryz.prog X o1 W (.po bo (0+1)):=lP p1 Tryz.underlying24 (i:=1) rfl (inf:=svT) Q4 (by rw [show svT.size=1 by kernel_rfl];omega) ea eb (by show (0:Nat)+1<2;omega);obtain ⟨v1,r1,r2⟩:=G L av w r;have e1:v1 = .pointer (some ⟨b0,1,none⟩):=by
        cases r2 with
        | po h hL2 ho =>
         rw [hL] at hL2;cases hL2;rfl
       subst e1;refine wpList_plain g1 (fun K1 hK1=>cW (v:=.pointer (some ⟨b0,1,none⟩)) (w':=w) r1 (hK1 _ _ ?_));rw [x1];have ra:=r.put (d:=some d1) i1 r2;have I:Pure Tryz.prog X o2 (put W (some d1) (.po bo (0+1))) (.cv (.own k)):=gV (S:=put W (some d1) (.po bo (0+1))) p2 Tryz.underlying22 rfl (k:=bo) (off:=0+1) (by show (if d1=d1 then _ else _)=_;rw [Qk rfl]) eb rfl;obtain ⟨v2,r3,r4⟩:=I L _ w ra;have e2:=NP r4;subst e2;refine wpList_plain g2 (fun K2 hK2=>cW (v:=L k) (w':=w) r3 (hK2 _ _ ?_));rw [x2];have rb:=ra.drop (some d2) (L k);have z1:(av.put (some d1) (.pointer (some ⟨b0,1,none⟩))).tmps.size=X.nt:=by rw [kA,m]
       have z2:((av.put (some d1) (.pointer (some ⟨b0,1,none⟩))).put (some d2) (L k)).tmps.size=X.nt:=by rw [kA,z1]
       have D:(execOp ((av.put (some d1) (.pointer (some ⟨b0,1,none⟩))).put (some d2) (L k)).eval o3).run Tryz.prog w = .ok (.value (.iface 22 (L k))) w:=by
        have:((av.put (some d1) (.pointer (some ⟨b0,1,none⟩))).put (some d2) (L k)).eval (.tmp d2)=L k:=by rw [eval_put (by rw [z1];exact i2),Qk rfl]
        simp [execOp,p3,this,Instr.makeInterface,run_underlying Tryz.underlying22]
       refine wpList_plain g3 (fun K3 hK3=>cW (v:=.iface 22 (L k)) (w':=w) D (hK3 _ _ ?_));rw [x3];have rc:=rb.drop (some d3) (.iface 22 (L k));have z3:(((av.put (some d1) (.pointer (some ⟨b0,1,none⟩))).put (some d2) (L k)).put (some d3) (.iface 22 (L k))).tmps.size=X.nt:=by rw [kA,z2]
       have K:(execOp (((av.put (some d1) (.pointer (some ⟨b0,1,none⟩))).put (some d2) (L k)).put (some d3) (.iface 22 (L k))).eval o4).run Tryz.prog w = .ok (.value (.func (.func 188) #[] #[.pointer (some ⟨b0,0,none⟩)])) w:=by
        have:(((av.put (some d1) (.pointer (some ⟨b0,1,none⟩))).put (some d2) (L k)).put (some d3) (.iface 22 (L k))).eval (.tmp a) = .pointer (some ⟨b0,0,none⟩):=by
         rw [eval_put (by rw [z2];exact i3),Qc M,eval_put (by rw [z1];exact i2),Qc C,eval_put (by rw [m];exact i1),Qc J];exact H
        simp [execOp,p4,this,Instr.makeFunc]
       refine wpList_plain g4 (fun K4 hK4=>cW (v:=.func (.func 188) #[] #[.pointer (some ⟨b0,0,none⟩)]) (w':=w) K (hK4 _ _ ?_));rw [x4];have rd:=rc.drop (some d4) (.func (.func 188) #[] #[.pointer (some ⟨b0,0,none⟩)]);have z4:((((av.put (some d1) (.pointer (some ⟨b0,1,none⟩))).put (some d2) (L k)).put (some d3) (.iface 22 (L k))).put (some d4) (.func (.func 188) #[] #[.pointer (some ⟨b0,0,none⟩)])).tmps.size=X.nt:=by rw [kA,z3]
       refine wpList_plain g5 (fun K5 hK5=>?_);generalize hav:((((av.put (some d1) (.pointer (some ⟨b0,1,none⟩))).put (some d2) (L k)).put (some d3) (.iface 22 (L k))).put (some d4) (.func (.func 188) #[] #[.pointer (some ⟨b0,0,none⟩)]))=a5 at hK5 rd z4 ⊢;have t3:a5.eval (.tmp d3) = .iface 22 (L k):=by
        rw [<- hav,eval_put (by rw [z3];exact i4),Qc B,eval_put (by rw [z2];exact i3),Qk rfl]
       have t4:a5.eval (.tmp d4) = .func (.func 188) #[] #[.pointer (some ⟨b0,0,none⟩)]:=by
        rw [<- hav,eval_put (by rw [z3];exact i4),Qk rfl]
       obtain ⟨fn7,hf7,hn7,hb7⟩:gz Tryz.prog 187:=⟨_,Tryz.func187,by decide,by simp [Tryz.f187]⟩;have F:(execOp a5.eval o5).run Tryz.prog w = .ok (.enter 187 #[.iface 22 (L k),.func (.func 188) #[] #[.pointer (some ⟨b0,0,none⟩)]]) w:=by
        have t5:a5.eval (.func 187) = .func (.func 187) #[] #[]:=rfl;simp [execOp,p5,resolve,p6,p7,t3,t4,t5,Deferred.ofValue,invoke,callFunc,hf7,hn7,hb7]
       unfold Oper.wp;rw [F,Oper.upon_enter];have hcall':=C1 rd (k:=k) (bo:=bo) (l:=l2) (n:=.lit (.int .i64 n)) ek eb hop k1 (XV (Qe k2) Q2) (Qu (Qe k3) u) s;obtain ⟨R,Y,g,_,hcall'⟩:=hcall';rw [hL] at g;cases g;refine hcall'.mono ?_;rintro e w' ⟨rfl,rr⟩;rw [x5];refine hK5 _ _ ⟨_,⟨rfl,hQ _ ?_⟩,L,rr.drop (some d5) _⟩;refine ⟨fun t v p f1 f2=>?_,fun j=>?_⟩
       ·have nt:∀ d∈[d1,d2,d3,d4,d5],t≠d:=fun d hd e=>by
         have h:=fr d hd;rw [<- e] at h;have A:find S.env t=some v:=f1;rw [h] at A;cases A
        have h0:=hs.env t v p f1 f2;simp only [V.drop,setRow,V.put];rw [Qc (nt d5 Q3),Qc (nt d4 Q3),Qc (nt d3 Q3),Qc (nt d2 Q3),Qc (nt d1 Q3)];exact h0
       simp only [V.drop,setRow,V.put,find]
       by_cases cj:j=k
       ·subst cj;rw [Qk rfl,Vv];rfl
       rw [Qc cj];have:Nat.beq j k=false:=by
        cases hb:Nat.beq j k with
        | false=>rfl
        | true=>exact absurd (Qt hb) cj
       rw [this];exact hs.rows j
      cases hy
     cases hh
    cases hh
   cases hh
  cases hh
 cases hh
end Go.Proofs.YtfbgaddecbiimaaGreatDoor.E
end
section
namespace Go.Proofs.YtfbgaddecbiimaaGreatDoor.E
open Go.RowKit Go.Shelf Go.Proofs.YtfbgaddecbiimaaGreatDoor.V
set_option maxRecDepth 100000
theorem GA {tm ts x y z:Nat} {ops:List Oper} {ds:List Nat} (h:LM tm ts ops=some ((x,y,z),ds)):∃ o1 o2 o3 o4 o5 d1 d2 d3 d4,∃ c:Call,ops=[o1,o2,o3,o4,o5]/\ds=[d1,d2,d3,d4]/\(d1≠d2/\d1≠d3/\d1≠d4/\d2≠d3/\d2≠d4/\d3≠d4) /\
 (o1.dst=some d1/\o2.dst=some d2/\o3.dst=some d3/\o4.dst=some d4/\o5.dst=none)/\(o1.guard=none/\o2.guard=none/\o3.guard=none/\o4.guard=none/\o5.guard=none) /\
 o1.op = .move (.tmp x)/\o2.op = .move (.tmp y)/\o3.op = .move (.tmp z)/\o4.op = .call c/\o5.op = .mapUpdate tm (.tmp d1) (.tmp d2) (.tmp d4)/\c.callee = .builtin .len/\c.args = #[.tmp d3]/\c.argTypes = #[ts]:=by
 unfold LM at h;split at h
 ·rename_i o1 o2 o3 o4 o5;split at h
  ·rename_i c t b1 b2 b4 d1 d2 d3 d4 e4 e5 e1 e2 e3 e6 e7;split at h
   ·rename_i b3 t3 x0 y0 z0 f1 f2 f3 f4 f5 f6 f7 f8 f9 f10 f11;split at h
    ·rename_i hb hne;simp only [Qm] at hb;obtain ⟨h1,h2,h3,h4,h5,h6⟩:=hb;have h1:=Qt h1;have h2:=Qt h2;have h3:=Qt h3;have h4:=Qt h4;have h5:=Qt h5;have h6:=Qt h6;subst h1 h2 h3 h4 h5 h6;cases h;simp only [W9] at hne;obtain ⟨n1,n2,n3,n4,n5,n6⟩:=hne;have nb:∀ {i j:Nat},Nat.beq i j=false->i≠j:=fun h e=>by rw [e,Vv] at h;cases h
     have ea:c.args = #[.tmp b3]:=by
      generalize c.args=z at f2;cases z with
      | mk l=>simp only at f2;rw [f2]
     have et:c.argTypes = #[t3]:=by
      generalize c.argTypes=z at f3;cases z with
      | mk l=>simp only at f3;rw [f3]
     exact ⟨o1,o2,o3,o4,o5,_,_,_,_,c,rfl,rfl,⟨nb n1,nb n2,nb n3,nb n4,nb n5,nb n6⟩,⟨e1,e2,e3,e6,e7⟩,⟨f7,f8,f9,f10,f11⟩,f4,f5,f6,e4,e5,f1,ea,et⟩
    cases h
   cases h
  cases h
 cases h
theorem run_move {P:Program} {o:Oper} {a:Act} {w:World} {x:Operand} (h:o.op = .move x):(execOp a.eval o).run P w = .ok (.value (a.eval x)) w:=by
 simp [execOp,h]
theorem map_ok {ops:List Oper} {draw:Bool} {S:ES} {h:Hk} {y:h.t.den} (hh:BD 205 22 ops draw S=some h) (hy:h.x=some y) (X:Ctx) (id:Nat) (W:V.St) (Q:gM) (hin:∀ (n:Nat) (o:Oper),ops[n]?=some o->dm X o.dst) (hs:Sub S W) (hQ:∀ W',Sub (h.f y) W'->Q .normal W'):kp Tryz.prog X (.region id ops.toArray draw) W Q:=by
 unfold BD at hh;split at hh
 ·rename_i x yy zz ds hat;split at hh
  ·rename_i l s k hfx hfy hfz hfree;split at hh
   ·rename_i e c r hk;cases hh;dsimp only at hQ;obtain ⟨o1,o2,o3,o4,o5,d1,d2,d3,d4,cl,rfl,rfl,⟨i,q,m,G,H,N⟩,⟨x1,x2,x3,x4,x5⟩,⟨g1,g2,g3,g4,g5⟩,p1,p2,p3,p4,p5,p6,p7,p8⟩:=GA hat;refine ak (fun av w ⟨L,r0⟩=>?_);have ex:W.env x=some (.map l):=hs.env x _ _ hfx rfl;have ey:W.env yy=some (.cv (.lit (.string s))):=hs.env yy _ _ hfy rfl;have ez:W.env zz=some (.own k):=hs.env zz _ _ hfz rfl;have ek:W.rows k=some (bZ.arr e c r).row:=by rw [hs.rows k,hk];rfl
    have g:=r0.size;have i1:d1<X.nt:=by have:=hin 0 o1 rfl;rwa [x1] at this
    have i2:d2<X.nt:=by have:=hin 1 o2 rfl;rwa [x2] at this
    have i3:d3<X.nt:=by have:=hin 2 o3 rfl;rwa [x3] at this
    have i4:d4<X.nt:=by have:=hin 3 o4 rfl;rwa [x4] at this
    have fr:=fun d hd=>vc hfree d hd;have ne:∀ {t v},find S.env t=some v->∀ d∈[d1,d2,d3,d4],t≠d:=fun h d hd e=>by
     have:=fr d hd;rw [<- e,h] at this;cases this
    have nx:=ne hfx;have ny:=ne hfy;have nz:=ne hfz;refine wpList_plain g1 (fun K1 hK1=>cW (v:=av.eval (.tmp x)) (w':=w) (run_move p1) (hK1 _ _ ?_));rw [x1];have ra:=r0.put (d:=some d1) i1 (r0.env x _ ex).2;generalize ha1:av.put (some d1) (av.eval (.tmp x))=a1 at ra ⊢;replace ra:cM X (put W (some d1) (.map l)) L a1 w:=by rw [<- ha1];exact ra
    have z1:a1.tmps.size=X.nt:=by rw [<- ha1,kA,g]
    have v1:a1.eval (.tmp d1)=av.eval (.tmp x):=by rw [<- ha1,eval_put (by rw [g];exact i1),Qk rfl]
    have K:a1.eval (.tmp x)=av.eval (.tmp x):=by rw [<- ha1,eval_put (by rw [g];exact i1),Qc (nx d1 Q3)]
    have M:(put W (some d1) (.map l)).env yy=some (.cv (.lit (.string s))):=by
     show (if yy=d1 then _ else _)=_;rw [Qc (ny d1 Q3)];exact ey
    refine wpList_plain g2 (fun K2 hK2=>cW (v:=a1.eval (.tmp yy)) (w':=w) (run_move p2) (hK2 _ _ ?_));rw [x2];have rb:=ra.put (d:=some d2) i2 (ra.env yy _ M).2;generalize ha2:a1.put (some d2) (a1.eval (.tmp yy))=a2 at rb ⊢;replace rb:cM X (put (put W (some d1) (.map l)) (some d2) (.cv (.lit (.string s)))) L a2 w:=by rw [<- ha2];exact rb
    have z2:a2.tmps.size=X.nt:=by rw [<- ha2,kA,z1]
    have v2:a2.eval (.tmp d1)=av.eval (.tmp x):=by rw [<- ha2,eval_put (by rw [z1];exact i2),Qc i,v1]
    have F:a2.eval (.tmp x)=av.eval (.tmp x):=by rw [<- ha2,eval_put (by rw [z1];exact i2),Qc (nx d2 Q3),K]
    have B:(put (put W (some d1) (.map l)) (some d2) (.cv (.lit (.string s)))).env zz=some (.own k):=by
     show (if zz=d2 then _ else if zz=d1 then _ else _)=_;rw [Qc (nz d2 Q3),Qc (nz d1 Q3)];exact ez
    refine wpList_plain g3 (fun K3 hK3=>cW (v:=a2.eval (.tmp zz)) (w':=w) (run_move p3) (hK3 _ _ ?_));rw [x3];have rc:=rb.put (d:=some d3) i3 (rb.env zz _ B).2;generalize ha3:a2.put (some d3) (a2.eval (.tmp zz))=a3 at rc ⊢;replace rc:cM X (put (put (put W (some d1) (.map l)) (some d2) (.cv (.lit (.string s)))) (some d3) (.own k)) L a3 w:=by rw [<- ha3];exact rc
    have z3:a3.tmps.size=X.nt:=by rw [<- ha3,kA,z2]
    have v3:a3.eval (.tmp d1)=av.eval (.tmp x):=by rw [<- ha3,eval_put (by rw [z2];exact i3),Qc q,v2]
    have D:a3.eval (.tmp x)=av.eval (.tmp x):=by rw [<- ha3,eval_put (by rw [z2];exact i3),Qc (nx d3 Q3),F]
    have I:Pure Tryz.prog X o4 (put (put (put W (some d1) (.map l)) (some d2) (.cv (.lit (.string s)))) (some d3) (.own k)) (.int .i64 r.length):=lO p4 p6 p7 p8 Tryz.underlying22 (by show (if d3=d3 then _ else _)=_;rw [Qk rfl]) (by
     show (W.rows k).map (·.n)=_;rw [ek];rfl)
    obtain ⟨u4,r4,q4⟩:=I L a3 w rc;refine wpList_plain g4 (fun K4 hK4=>cW (v:=u4) (w':=w) r4 (hK4 _ _ ?_));rw [x4];have rd:=rc.put (d:=some d4) i4 q4;generalize ha4:a3.put (some d4) u4=a4 at rd ⊢;have z4:a4.tmps.size=X.nt:=by rw [<- ha4,kA,z3]
    have v4:a4.eval (.tmp d1)=av.eval (.tmp x):=by rw [<- ha4,eval_put (by rw [z3];exact i4),Qc m,v3]
    have v4x:a4.eval (.tmp x)=av.eval (.tmp x):=by rw [<- ha4,eval_put (by rw [z3];exact i4),Qc (nx d4 Q3),D]
    generalize hW4:put (put (put (put W (some d1) (.map l)) (some d2) (.cv (.lit (.string s)))) (some d3) (.own k)) (some d4) (.int .i64 r.length)=W4 at rd;have w4:∀ t,W4.env t=if t=d4 then some (.int .i64 r.length) else if t=d3 then some (.own k) else if t=d2 then some (.cv (.lit (.string s))) else if t=d1 then some (.map l) else W.env t:=fun t=>by rw [<- hW4];rfl
    have C:Tryz.prog.underlying 205=some (.map 9 3):=Tryz.underlying205;obtain ⟨w',A,re⟩:=xa (o:=o5) (kt:=9) (et:=3) (tm:=d1) (y:=.tmp d2) (z:=.tmp d4) (l:=l) (k:=s) (n:=r.length) rd p5 C Tryz.underlying9 (by rw [w4,Qc m,Qc q,Qc i,Qk rfl]) (by show W4.env d2=_;rw [w4,Qc H,Qc G,Qk rfl]) (by show W4.env d4=_;rw [w4,Qk rfl]);have hm:=re.env d1 (.map (lC l s r.length)) (by show (if d1=d1 then _ else _)=_;rw [Qk rfl]);refine wpList_plain g5 (fun K5 hK5=>?_);unfold Oper.wp;rw [A];show K5 (a4.put o5.dst undef) w';rw [x5];refine hK5 _ _ ⟨put (put (qC W4) (some d1) (.map (lC l s r.length))) (some x) (.map (lC l s r.length)),⟨rfl,hQ _ ?_⟩,L,?_⟩
    ·refine ⟨fun t v p f1 f2=>?_,fun j=>?_⟩
     ·have a:find ((x,df.mp (lC l s r.length)) :: rU H6 S.env) t=some v:=f1;simp only [find] at a;show (if t=x then some (.map (lC l s r.length)) else if t=d1 then some (.map (lC l s r.length)) else (W4.env t).bind fun p=>bif yt p then none else some p)=some p;split at a
      ·rename_i hb;cases a;cases f2;rw [Qk (Qt hb)]
      rename_i hb;have J:t≠x:=fun e=>by rw [e,Vv] at hb;cases hb
      rw [nV] at a;obtain ⟨v0,f3,rfl⟩:=Qr.1 a;have nt:=ne f3;rw [Qc J,Qc (nt d1 Q3),w4,Qc (nt d4 Q3),Qc (nt d3 Q3),Qc (nt d2 Q3),Qc (nt d1 Q3)];obtain ⟨f4,f5⟩:=DW v0 p f2;have:=hs.env t v0 p f3 f4;simp only [this,Option.bind_some,f5,cond_false]
     show W4.rows j=_;rw [<- hW4];exact hs.rows j
    refine ⟨re.size,re.defers,re.below,re.row,re.apart,re.mine,re.pin,fun u p hp=>?_⟩;have b:(if u=x then some (.map (lC l s r.length)) else (put (qC W4) (some d1) (.map (lC l s r.length))).env u)=some p:=hp
    by_cases c:u=x
    ·rw [Qk c] at b;cases b;subst c;refine ⟨(r0.env _ _ ex).1,?_⟩;have e1:a4.tmps.getD u undef=a4.tmps.getD d1 undef:=v4x.trans v4.symm;show cQ w' _ _ _ (a4.tmps.getD u undef) _;rw [e1];exact hm.2
    rw [Qc c] at b;exact re.env u p b
   cases hh
  cases hh
 cases hh
theorem N9:Cj T:=by
 intro ops draw S h y hh hy X id W Q hin hs hQ;have hT:T.hook=L1 22 24 96 187 188 205:=rfl;rw [hT] at hh;unfold L1 at hh;split at hh
 ·rename_i g hg;cases hh;exact Np hg hy X id W Q hin hs hQ
 exact map_ok hh hy X id W Q hin hs hQ
def T2:gU:={ T with own:=(102,[12,15,17,2000016,2000004]) :: ownTab }
theorem Ni:cN T2=true:=by kernel_rfl
def vg:Code:=match Tryz.f102.body with
 | some c=>c
 | none=>.skip
abbrev ConstR:Ty:=.pair (.int .i64) (.pair au (.pair (.list (.int .i64)) .unit))
def yJ:Exit->ES->Option ConstR.den:=fun e S=>match e with
 | .ret=>match find S.env 4,find S.rows 2000004,find S.rows 2000016,find S.rows 12 with
  | some (.po k 0 []),some (.obox e1 [.v (.int .i64) n,.own j]),some (.obox e2 [.own i,.v (.pair .bool (.pair (.list (.int .u32)) (.pair (.list (.int .u32)) .unit))) y]),some (.arr e3 (.int .i64) l)=>match Nat.beq k 2000004&&(Nat.beq j 2000016&&(Nat.beq i 12&&(Nat.beq e1 24&&(Nat.beq e2 96&&Nat.beq e3 3)))) with
   | true=>some (n,y,l,())
   | false=>none
  | _,_,_,_=>none
 | _=>none
theorem Mu (call:(g:Nat)->List df->Option (T2.out g).den) (k:Nat) (m:Int) (x:au.den):code T2 102 18 call k vg ⟨uy 0 [.v (.int .i64) m,.v au x],[]⟩ yJ =
 (call 71 [.v au x]).bind fun (s:Int) =>
 bif s==(0:Int) then
  (call 111 [.v (.int .i64) m]).bind fun (_:(Ty.den af))=>none
 else
  if (0:Int)<=m/\m<=m/\8*m.toNat<=281474976710656/\m.toNat<=maxLen then
   (call 150 [.v au x]).bind fun (y:au.den) =>
   some (m,y,List.replicate m.toNat (0:Int),())
  else none:=by
 kernel_rfl
theorem OC {call:(g:Nat)->List df->Option (T.out g).den} (h:jw T call):jw (T:=T2) call:=⟨h.fn,h.given,h.cd,h.hook⟩
structure M0 (m:Int) (y:au.den) (l:List Int) (W:V.St):Prop where
 res:W.env 4=some (.po 2000004 0)
 var:W.rows 2000004=some ⟨24,2,1,[.lit (.int .i64 m),.own 2000016]⟩
 cT:W.rows 2000016=some ⟨96,4,1,.own 12 :: Ty.enc au y⟩
 exs:W.rows 12=some ⟨3,1,l.length,ints .i64 l⟩
theorem J4 {call:(g:Nat)->List df->Option (T.out g).den} (hC:jw T call) (k:Nat) (m:Int) (x y:au.den) (l:List Int) (h:code T2 102 18 call k vg ⟨uy 0 [.v (.int .i64) m,.v au x],[]⟩ yJ=some (m,y,l,())) (X:Ctx) (hX:X.nt=18) :
 kp Tryz.prog X vg ⟨uk [.int .i64 m,au.pv x],nr⟩ (fun e W=>(e = .ret∨e = .normal)/\M0 m y l W):=by
 refine o6 (T:=T2) Ni (OC hC) (fun h=>by cases h) (Eq.refl true) hX vg _ _ _ h _ _ ⟨fun t u p b a=>?_,fun k=>rfl⟩ (fun e S W' hs hk=>?_)
 ·obtain ⟨j,e1,e2⟩:=pT _ 0 t u b;rw [QS] at e1;subst e1;simp only [uk]
  match t,e2 with
  | 0,e2=>cases e2;cases a;rfl
  | 1,e2=>cases e2;cases a;rfl
 unfold yJ at hk;split at hk
 ·refine ⟨.inl rfl,?_⟩;split at hk
  ·rename_i kk e1 n j e2 i y' e3 l' f1 f2 f3 f4;split at hk
   ·rename_i hb;simp only [Qm] at hb;obtain ⟨b,a,h3,h4,h5,h6⟩:=hb;have b:=Qt b;have a:=Qt a;have h3:=Qt h3;have h4:=Qt h4;have h5:=Qt h5;have h6:=Qt h6;subst b a h3 h4 h5 h6;cases hk;exact ⟨hs.env 4 _ _ f1 rfl,by rw [hs.rows,f2];rfl,by rw [hs.rows,f3];rfl,by rw [hs.rows,f4,<- kj];rfl⟩
   cases hk
  cases hk
 cases hk
structure pj (F:Nat->Prop) (w w':World) (m:Nat) (y:au.den) (g cg h ch:Nat) (cur1 cur2:Array Value):Prop where
 below:Below w.heap.size w w'
 gnew:w.heap.size<=g
 hnew:w.heap.size<=h
 ne:h≠g
 glt:g<w'.heap.size
 hlt:h<w'.heap.size
 at1:w'.heap[g]?=some (.cells cur1 96 (0,0))
 at2:w'.heap[h]?=some (.cells cur2 3 (0,0))
 one:1<=cg
 sz1:4<=cur1.size
 sz2:m<=ch
 sz3:m<=cur2.size
 zi:ch<=maxLen
 few1:cg<=maxLen
 ex:cur1[0]?=some (.slice (some ⟨h,0,none⟩) m ch)
 co:∀ i (hi:i<(Ty.enc au y).length),∃ v,cur1[i+1]?=some v/\Den w' (.of fun b=>(F b∨(w.heap.size<=b/\b<w'.heap.size))/\b≠g/\b≠h) v (Ty.enc au y)[i]
 zero:∀ i,i<m->cur2[i]?=some (.int .i64 0)
theorem EN {call:(g:Nat)->List df->Option (T.out g).den} (hC:jw T call) (k m:Nat) (hm:0<m) (x y:au.den) (h:code T2 102 18 call k vg ⟨uy 0 [.v (.int .i64) (m:Int),.v au x],[]⟩ yJ=some ((m:Int),y,List.replicate m (0:Int),()))
 (F:Nat->Prop) (w:World) (vs:Array Value) (hF:∀ b,F b->b<w.heap.size) (hv:vs.size=2) (ha:∀ t (ht:t<2),cQ w (.of F) nr nl (vs.getD t undef) ([.int .i64 m,au.pv x]:List PV)[t]) :
 Calls Tryz.prog 102 vs w fun e w'=>∃ g cg h ch cur1 cur2,e = .returned (.agg #[.int .i64 m,.slice (some ⟨g,0,none⟩) 1 cg])/\pj F w w' m y g cg h ch cur1 cur2:=by
 let X:Ctx:=⟨w,18,F,hF,none,w.heap.size,Qn _,fun _=>True⟩
 have st:∀ b,F b->Still X nr nl w b:=fun b h=>⟨.inl h,fun ⟨k,d,h,_⟩=>by cases h⟩;have r0:cM X ⟨uk [.int .i64 m,au.pv x],nr⟩ nl { tmps:=vs++Array.replicate (18-vs.size) undef,defers:=[] } w:=by
  refine ⟨by simp;show vs.size+(18-vs.size)=18;omega,rfl,World.grownBy.refl _ _,(fun k d h=>by cases h),(fun k k' d d' b h=>by cases h),(fun k d b h=>by cases h),(fun d h=>by cases h),fun t q hq=>?_⟩;obtain ⟨ht,rfl⟩:=Qx.1 hq;have B:t<2:=ht;refine ⟨by show t<18;omega,?_⟩;have A:=(ha t B).mono (F':=Still X nr nl w) (w':=w) (rows':=nr) (L':=nl) ⟨st,fun _ _ h=>h.elim,fun _ h=>h.elim⟩ (fun _ _=>rfl) (fun k r h=>⟨h,rfl⟩);have e:(vs++Array.replicate (18-vs.size) undef).getD t undef=vs.getD t undef:=by
   simp only [Q9];rw [Wc Q2]
  show cQ w (Still X nr nl w) nr nl ((vs++Array.replicate (18-vs.size) undef).getD t undef) _;rw [e];exact A
 have p:=J4 hC k m x y _ h X rfl _ _ ⟨nl,r0⟩;refine calls_of_wp (fn:=Tryz.f102) Tryz.func102 rfl (Code.wp_mono ?_ p);rintro e a w' ⟨S,⟨he,hE⟩,L,r⟩;have hres:kV Tryz.prog S (.cell 4 24) (.ag ((([.lit (.int .i64 m),.own 2000016]:List CV).drop 0).take 2)):=by
  have:=kV.agg (P:=Tryz.prog) (S:=S) (t:=4) (ty:=24) (off:=0) (k:=2000004) (d:=⟨24,2,1,[.lit (.int .i64 m),.own 2000016]⟩) (inf:=(Tryz.prog.info? 24).get Q4) hE.res Tryz.underlying24 Q4 hE.var (by rw [show ((Tryz.prog.info? 24).get Q4).size=2 by kernel_rfl];exact Qn _);rw [show ((Tryz.prog.info? 24).get Q4).size=2 by kernel_rfl] at this;exact this
 obtain ⟨v,v1,v2⟩:=hres.run r;obtain ⟨xs,⟨xl,x1⟩,x2,x3⟩:=r.row _ _ hE.cT;obtain ⟨ys,⟨yl,y1⟩,y2,y3⟩:=r.row _ _ hE.exs;rcases x1 with ⟨_,x4⟩ | ⟨g,cg,cur1,p1,p2,p3,p4,p5,p6,p7⟩
 ·cases x4
 rcases y1 with ⟨_,y4⟩ | ⟨hb,ch,cur2,q1,q2,q3,q4,q5,q6,q7⟩
 ·simp only [QI] at y4;omega
 simp only [QI,Vs,Y8] at q1 q4 q6 q7 yl p1 p4 p7;replace p6:cur1.size=cg*4:=p6;replace p4:1<=cg:=p4;have hg:(L 2000016).ownBlock=some g:=by rw [p1];rfl
 have hh:(L 12).ownBlock=some hb:=by rw [q1];rfl
 have z:hb≠g:=fun e=>by
  have:=r.apart _ _ _ _ g hE.cT hE.exs hg (by rw [hh,e]);cases this
 have ev:v = .agg #[.int .i64 m,L 2000016]:=by
  cases v2 with
  | @ag us cs hl hd =>
   have s:us.size=2:=hl;have d0:=hd 0 (by show 0<2;omega);have d1:=hd 1 (by show 1<2;omega);have e0:us.getD 0 undef = .int .i64 m:=by
    generalize us.getD 0 undef=u at d0;cases d0;rfl
   have e1:us.getD 1 undef=L 2000016:=by
    generalize us.getD 1 undef=u at d1;cases d1 with
    | own h _ _=>exact h.2
   congr 1;apply YH (by rw [s];rfl);intro i h1 h2;have:i=0∨i=1:=Q2;rcases this with rfl | rfl
   ·rw [Q9,Qg h1] at e0;exact e0
   rw [Q9,Qg h1] at e1;exact e1
 have hr:(results Tryz.f102 a.tmps).run Tryz.prog w' = .ok v w':=by
  rw [lL];have:Tryz.f102.results = #[.cell 4 24]:=rfl;rw [this];simp [v1]
 have f:∀ i,i<4->cur1[i]?=some (xs.getD i undef):=fun i hi=>by
  rw [<- p7,Q6,Vx Q2,V1,Qg Q2];rfl
 have C:pj F w w' m y g cg hb ch cur1 cur2:=by
  refine ⟨⟨r.below.os,r.below.tape,r.below.output,r.below.size,fun k hk=>r.below.block k hk (by simp [X])⟩,p2,q2,z,(QW.1 p3).1,(QW.1 q3).1,p3,q3,p4,Q2,q4,Q2,q5,p5,?_,fun i hi=>?_,fun i hi=>?_⟩
  ·have h0:=x3 0 (by show 0<_+1;omega);have e0:xs.getD 0 undef=L 12:=by
    replace h0:Den w' _ (xs.getD 0 undef) (.own 12):=h0;generalize xs.getD 0 undef=u at h0;have l:=h0;simp only [Fo.at,show Nat.ble opened 2000016=true from rfl,cond_true] at l;cases l with
    | own h _ _=>exact h.2
   rw [f 0 Q2,e0,q1]
  ·have h3:(Ty.enc au y).length=3:=aX _ _;refine ⟨xs.getD (i+1) undef,f (i+1) Q2,?_⟩;have h0:=x3 (i+1) (by show i+1<_+1;omega);replace h0:Den w' _ (xs.getD (i+1) undef) (Ty.enc au y)[i]:=h0;have n:=eS au y;rw [QA] at n;refine (h0.shut (n _ (Qi _))).mono ⟨fun b hb'=>?_,fun _ _ h=>h.elim,fun _ h=>h.elim⟩ (fun _ _=>rfl);have j:Still X S.rows L w' b:=by
    have:((Still X S.rows L w').at 2000016).b b:=hb';rw [Fo.E2] at this;exact this
   exact ⟨j.1,fun e=>j.2 ⟨_,_,hE.cT,by rw [e];exact hg⟩,fun e=>j.2 ⟨_,_,hE.exs,by rw [e];exact hh⟩⟩
  have c:(ints .i64 (List.replicate m (0:Int))).length=m:=by rw [bW,QI]
  have h0:=y3 i (by show i<(ints .i64 (List.replicate m (0:Int))).length;rw [c];exact hi);have e1:(ints .i64 (List.replicate m (0:Int)))[i]'(by rw [c];exact hi) = .lit (.int .i64 0):=by simp [ints]
  replace h0:Den w' _ (ys.getD i undef) ((ints .i64 (List.replicate m (0:Int)))[i]'(by rw [c];exact hi)):=h0;rw [e1] at h0;have e2:ys.getD i undef = .int .i64 0:=by
   generalize ys.getD i undef=u at h0;cases h0;rfl
  rw [<- e2,<- q7,Q6,Vx hi,V1,Qg Q2];rfl
 have o:a.defers=[]/\∃ v,(results Tryz.f102 a.tmps).run Tryz.prog w' = .ok v w'/\∃ g cg h ch cur1 cur2,Ending.returned v = .returned (.agg #[.int .i64 m,.slice (some ⟨g,0,none⟩) 1 cg])/\pj F w w' m y g cg h ch cur1 cur2 :=
  ⟨r.defers,v,hr,g,cg,hb,ch,cur1,cur2,by rw [ev,p1],C⟩
 rcases he with rfl | rfl
 ·exact o
 exact o
theorem IZ (m i:Nat) (hi:i<m) (w w' w'':World) (y:au.den) (F:Nat->Prop) (e:World) (g cg h ch:Nat) (cur1 cur2:Array Value) (hb:Below e.heap.size e w') (hc:pj F w' w'' m y g cg h ch cur1 cur2) (hw:e=w.alloc (Obj.cells #[Value.int IntKind.i64 0,Value.slice none 0 0] 24)) :
 w''.heap[w.heap.size]?=some (.cells #[.int .i64 0,.slice none 0 0] 24)/\w''.cell? ⟨w.heap.size,0,none⟩=some (.int .i64 0)/\w''.cell? ⟨w.heap.size,1,none⟩=some (.slice none 0 0) /\
 (w''.alloc (Obj.cells #[Value.int IntKind.i64 m,Value.slice (some { block:=g,off:=0 }) 1 cg] 24)).cell? ⟨g,0,none⟩=some (.slice (some ⟨h,0,none⟩) m ch) /\
 (w''.alloc (Obj.cells #[Value.int IntKind.i64 m,Value.slice (some { block:=g,off:=0 }) 1 cg] 24)).cell? ⟨h,i,none⟩=some (.int .i64 0) /\
 (w''.alloc (Obj.cells #[Value.int IntKind.i64 m,Value.slice (some { block:=g,off:=0 }) 1 cg] 24)).frozen? ⟨h,i,none⟩=false/\g<w''.heap.size/\h<w''.heap.size/\h≠g/\w.heap.size≠g/\w.heap.size≠h/\w.heap.size<w''.heap.size /\
 w''.frozen? ⟨w.heap.size,0,none⟩=false/\w''.frozen? ⟨w.heap.size,1,none⟩=false:=by
 subst hw;have s1:w.heap.size<w'.heap.size:=by have:=hb.size;simp at this;omega
 have s2:=hc.below.size;have t4:w''.heap[w.heap.size]?=some (.cells #[.int .i64 0,.slice none 0 0] 24):=by
  rw [hc.below.block _ s1,hb.block _ Q3];exact heap_alloc_new w _
 have a1:(w''.alloc (Obj.cells #[Value.int IntKind.i64 m,Value.slice (some { block:=g,off:=0 }) 1 cg] 24)).heap[g]?=w''.heap[g]?:=Below.heap_alloc _ _ _ hc.glt;have a2:(w''.alloc (Obj.cells #[Value.int IntKind.i64 m,Value.slice (some { block:=g,off:=0 }) 1 cg] 24)).heap[h]?=w''.heap[h]?:=Below.heap_alloc _ _ _ hc.hlt;have c:=hc.gnew;have b:=hc.hnew;have a:=hc.glt;have d:=hc.hlt;refine ⟨t4,by simp [World.cell?,t4],by simp [World.cell?,t4],by simp [World.cell?,a1,hc.at1,hc.ex],by simp [World.cell?,a2,hc.at2,hc.zero i hi],by simp [World.frozen?,a2,hc.at2],hc.glt,hc.hlt,hc.ne,Q2,Q2,Q2,by simp [World.frozen?,t4],by simp [World.frozen?,t4]⟩
abbrev varD (m i:Nat) (y:au.den):af.den:=((m:Int),[((List.replicate m (0:Int)).set i 1,y,())],())
abbrev uz (w w'':World) (m i g cg h:Nat):World:=(((w''.setCell ⟨h,i,none⟩ (.int .i64 1)).setCell ⟨w.heap.size,0,none⟩ (.int .i64 m)).setCell ⟨w.heap.size,1,none⟩ (.slice (some ⟨g,0,none⟩) 1 cg)).alloc (.cells #[.int .i64 m,.slice (some ⟨g,0,none⟩) 1 cg] 24)
theorem size_setCell (w:World) (a:Addr) (v:Value):(w.setCell a v).heap.size=w.heap.size:=by simp [World.setCell]
theorem zo {w w'':World} {m i g cg h:Nat} {cur2:Array Value} (d:w''.heap[w.heap.size]?=some (.cells #[.int .i64 0,.slice none 0 0] 24)) (at2:w''.heap[h]?=some (.cells cur2 3 (0,0))) (a:w.heap.size≠h) :
 (uz w w'' m i g cg h).heap[w.heap.size]?=some (.cells #[.int .i64 m,.slice (some ⟨g,0,none⟩) 1 cg] 24)/\(uz w w'' m i g cg h).heap[h]?=some (.cells (cur2.setIfInBounds i (.int .i64 1)) 3 (0,0)) /\
 (∀ b,b<w''.heap.size->b≠h->b≠w.heap.size->(uz w w'' m i g cg h).heap[b]?=w''.heap[b]?)/\(uz w w'' m i g cg h).heap.size=w''.heap.size+1:=by
 have hs:∀ b,b<w''.heap.size->(uz w w'' m i g cg h).heap[b]?=(((w''.setCell ⟨h,i,none⟩ (.int .i64 1)).setCell ⟨w.heap.size,0,none⟩ (.int .i64 m)).setCell ⟨w.heap.size,1,none⟩ (.slice (some ⟨g,0,none⟩) 1 cg)).heap[b]?:=fun b hb=>Below.heap_alloc _ _ _ (by rw [size_setCell,size_setCell,size_setCell];exact hb);have l4:=(QW.1 d).1;have lh:=(QW.1 at2).1;refine ⟨?_,?_,fun b hb f c=>?_,?_⟩
 ·rw [hs _ l4];have a1:(w''.setCell ⟨h,i,none⟩ (.int .i64 1)).heap[w.heap.size]?=some (.cells #[.int .i64 0,.slice none 0 0] 24):=by rw [heap_setCell_other _ _ _ _ a];exact d
  have a2:=heap_setCell_same _ w.heap.size 0 _ _ (.int .i64 m) a1;have a3:=heap_setCell_same _ w.heap.size 1 _ _ (.slice (some ⟨g,0,none⟩) 1 cg) a2;rw [a3];rfl
 ·rw [hs _ lh,heap_setCell_other _ _ _ _ (fun e=>a e.symm),heap_setCell_other _ _ _ _ (fun e=>a e.symm)];exact heap_setCell_same _ h i _ _ (.int .i64 1) at2
 ·rw [hs _ hb,heap_setCell_other _ _ _ _ c,heap_setCell_other _ _ _ _ c,heap_setCell_other _ _ _ _ f]
 show (Array.push _ _).size=_;rw [Xj,size_setCell,size_setCell,size_setCell]
theorem Nd {w w'':World} {m i g cg h:Nat} (a:Act) (c:(uz w w'' m i g cg h).heap[w.heap.size]?=some (.cells #[.int .i64 m,.slice (some ⟨g,0,none⟩) 1 cg] 24)) (b:a.tmps.getD 4 undef = .pointer (some ⟨w.heap.size,0,none⟩)) :
 (results Tryz.f107 a.tmps).run Tryz.prog (uz w w'' m i g cg h) = .ok (.agg #[.int .i64 m,.slice (some ⟨g,0,none⟩) 1 cg]) (uz w w'' m i g cg h):=by
 rw [lL];have hr:Tryz.f107.results = #[.cell 4 24]:=rfl;obtain ⟨inf,hi,hz⟩:∃ inf,Tryz.prog.info? 24=some inf/\inf.size=2:=⟨(Tryz.prog.info? 24).get Q4,Q4,Q4⟩;have e:=run_loadCells (P:=Tryz.prog) (w:=uz w w'' m i g cg h) ⟨w.heap.size,0,none⟩ 2 (fun j=>(#[.int .i64 m,.slice (some ⟨g,0,none⟩) 1 cg]:Array Value).getD j undef) (fun j hj=>by
  rw [add_plain];simp only [World.cell?,c,Option.isSome_none,Vo,Xr,QS];have:j=0∨j=1:=Q2;rcases this with rfl | rfl<;>rfl)
 rw [hr];simp [qg,b,asAddr,loadVar,isAgg,run_underlying Tryz.underlying24,sizeOf,typeInfo,hi,hz,e];rfl
theorem Kt (m i:Nat) (hi:i<m) (hm:m<1000000000) (w:World) (y x:au.den)
 (k:∀ w:World,Calls Tryz.prog 112 #[] w fun e w'=>∃ u,e = .returned u/\Below w.heap.size w w'/\cQ w' (.of fun b=>False∨(w.heap.size<=b/\b<w'.heap.size)) nr nl u (au.pv x))
 (l:∀ (F:Nat->Prop) (w:World) (u:Value),(∀ b,F b->b<w.heap.size)->cQ w (.of F) nr nl u (au.pv x)->Calls Tryz.prog 102 #[.int .i64 m,u] w fun e w'=>∃ g cg h ch cur1 cur2,e = .returned (.agg #[.int .i64 m,.slice (some ⟨g,0,none⟩) 1 cg])/\pj F w w' m y g cg h ch cur1 cur2) :
 Calls Tryz.prog 107 #[.int .i64 m,.int .i64 i] w fun e n=>∃ w' w'' g cg h ch cur1 cur2,e = .returned (.agg #[.int .i64 m,.slice (some ⟨g,0,none⟩) 1 cg])/\n=uz w w'' m i g cg h/\Below (w.heap.size+1) (w.alloc (.cells #[.int .i64 0,.slice none 0 0] 24)) w' /\
  pj (fun b=>False∨(w.heap.size+1<=b/\b<w'.heap.size)) w' w'' m y g cg h ch cur1 cur2:=by
 have c:Tryz.prog.follows .mixedOrders=true:=Eq.refl true
 go_enter Tryz.func107,Tryz.ntmps107
 go_wp2_with (first | (go_at_call 112;refine (k _).mono ?_;rintro e w' ⟨u,rfl,hb,hu⟩) | (go_at_call 102;refine (l (fun b=>False∨((w.alloc (Obj.cells #[Value.int IntKind.i64 0,Value.slice none 0 0] 24)).heap.size<=b/\b<w'.heap.size)) _ _ (fun b hb=>by rcases hb with hb | hb;exact hb.elim;exact hb.2) hu).mono ?_;rintro e w'' ⟨g,cg,h,ch,cur1,cur2,rfl,hc⟩;have fx:=IZ m i hi w w' w'' y _ _ g cg h ch cur1 cur2 hb hc rfl;obtain ⟨t4,f,j,g0,h0,h1,gl,hl,d,n1,n2,n3,f1,f2⟩:=fx))
 have a:(w.alloc (Obj.cells #[Value.int IntKind.i64 0,Value.slice none 0 0] 24)).heap.size=w.heap.size+1:=by show (w.heap.push _).size=_;rw [Xj]
 rw [a] at hb hc;obtain ⟨e1,_⟩:=zo (i:=i) (m:=m) (g:=g) (cg:=cg) t4 hc.at2 n2;exact ⟨rfl,_,Nd _ e1 rfl,w',w'',g,cg,h,ch,cur1,cur2,rfl,rfl,hb,hc⟩
theorem nf {B:Nat} {w w':World} (h:Below B w w') {a:Addr} (ha:B<=a.block) (v:Value):Below B w (w'.setCell a v) :=
 ⟨h.os,h.tape,h.output,by rw [size_setCell];exact h.size,fun k hk=>by rw [Below.heap_setCell _ _ _ _ Q2];exact h.block k hk⟩
theorem vX {B:Nat} {w w':World} (h:Below B w w') (hB:B<=w'.heap.size) (o:Obj):Below B w (w'.alloc o) :=
 ⟨h.os,h.tape,h.output,by show _<=(w'.heap.push o).size;rw [Xj];have:=h.size;omega,fun k hk=>by rw [Below.heap_alloc _ _ _ Q2];exact h.block k hk⟩
theorem var_fn (m i:Nat) (hi:i<m) (hm:m<1000000000) (y x:au.den)
 (h112:V.Fn Tryz.prog 112 [] (au.pv x))
 (h102:∀ (F:Nat->Prop) (w:World) (vs:Array Value),(∀ b,F b->b<w.heap.size)->vs.size=2->(∀ t (ht:t<2),cQ w (.of F) nr nl (vs.getD t undef) ([.int .i64 m,au.pv x]:List PV)[t])->Calls Tryz.prog 102 vs w fun e w'=>∃ g cg h ch cur1 cur2,e = .returned (.agg #[.int .i64 m,.slice (some ⟨g,0,none⟩) 1 cg])/\pj F w w' m y g cg h ch cur1 cur2) :
 V.Fn Tryz.prog 107 [.int .i64 m,.int .i64 i] (af.pv (varD m i y)):=by
 intro F w vs hF hn hv;have z:vs.getD 0 undef = .int .i64 m:=im (hv 0 Q3);have o:vs.getD 1 undef = .int .i64 i:=im (hv 1 Q3);rw [arr2 (d:=undef) hn,z,o];refine (Kt m i hi hm w y x (fun w=>?_) (fun F w u hF hu=>?_)).mono ?_
 ·exact h112 (fun _=>False) w #[] (fun b h=>h.elim) rfl (fun i hi=>by cases hi)
 ·refine h102 F w #[.int .i64 m,u] hF rfl (fun t ht=>?_);have:t=0∨t=1:=Q2;rcases this with rfl | rfl
  ·exact .cv (.lit _)
  exact hu
 rintro e w3 ⟨w',w'',g,cg,h,ch,cur1,cur2,rfl,rfl,hb,hc⟩;have s0:(w.alloc (.cells #[.int .i64 0,.slice none 0 0] 24)).heap.size=w.heap.size+1:=by show (w.heap.push _).size=_;rw [Xj]
 have s1:w.heap.size+1<=w'.heap.size:=by have:=hb.size;rw [s0] at this;exact this
 have s2:=hc.below.size;have B:=hc.gnew;have A:=hc.hnew;have n2:w.heap.size≠h:=Q2;have t4:w''.heap[w.heap.size]?=some (.cells #[.int .i64 0,.slice none 0 0] 24):=by
  rw [hc.below.block _ Q2,hb.block _ Q2];exact heap_alloc_new w _
 obtain ⟨e1,e2,e3,e4⟩:=zo (i:=i) (m:=m) (g:=g) (cg:=cg) t4 hc.at2 n2;have eg:(uz w w'' m i g cg h).heap[g]?=some (.cells cur1 96 (0,0)):=by rw [e3 g hc.glt (fun e=>hc.ne e.symm) Q2];exact hc.at1
 refine ⟨_,rfl,?_,?_⟩
 ·have b1:Below w.heap.size w w':=⟨hb.os,hb.tape,hb.output,Q2,fun k hk=>by rw [hb.block k Q2,Below.heap_alloc _ _ _ hk]⟩;have b2:Below w.heap.size w w'':=b1.trans ⟨hc.below.os,hc.below.tape,hc.below.output,hc.below.size,fun k hk=>hc.below.block k Q2⟩;exact vX (nf (nf (nf b2 (by show w.heap.size<=h;omega) _) (Qn _) _) (Qn _) _) (by rw [size_setCell,size_setCell,size_setCell];omega) _
 have a:∀ b,w.heap.size<=b->b<w''.heap.size->(F b∨(w.heap.size<=b/\b<(uz w w'' m i g cg h).heap.size)):=fun b h1 h2=>.inr ⟨h1,by rw [e4];omega⟩;generalize hw3:uz w w'' m i g cg h=w3 at e1 e2 e3 e4 eg a ⊢;have r:Den w3 (.of fun b=>F b∨(w.heap.size<=b/\b<w3.heap.size)) (.slice (some ⟨h,0,none⟩) m ch) (.row m (ints .i64 ((List.replicate m (0:Int)).set i 1))):=by
  refine .row ⟨h,0,none⟩ m ch _ (fun j=>.int .i64 (if j=i then 1 else 0)) rfl (a h Q2 hc.hlt) hc.sz2 (fun j hj=>?_) (fun j hj=>?_)
  ·rw [bW,Vg,QI] at hj;rw [add_plain];have l:j<cur2.size:=QN hj hc.sz3;simp only [World.cell?,e2,Option.isSome_none,Vo,Xr,QS,VH]
   by_cases c:i=j
   ·rw [Qk c,Qk Q2,Qk c.symm]
   rw [Qc c,Qc (fun e=>c e.symm)];exact hc.zero j hj
  rw [bW,Vg,QI] at hj;have:(ints .i64 ((List.replicate m (0:Int)).set i 1))[j]'(by rw [bW,Vg,QI];exact hj) = .lit (.int .i64 (if j=i then 1 else 0)):=by
   simp only [ints,Qz,VU,Xp]
   by_cases c:i=j
   ·rw [Qk c,Qk c.symm]
   rw [Qc c,Qc (fun e=>c e.symm)]
  rw [this];exact .lit _
 have q:(Ty.enc au y).length=3:=aX _ _;have f:Den w3 (.of fun b=>F b∨(w.heap.size<=b/\b<w3.heap.size)) (.slice (some ⟨g,0,none⟩) 1 cg) (.row 1 (.row m (ints .i64 ((List.replicate m (0:Int)).set i 1)) :: Ty.enc au y)):=by
  refine .row ⟨g,0,none⟩ 1 cg _ (fun j=>cur1.getD j undef) rfl (a g Q2 hc.glt) hc.one (fun j hj=>?_) (fun j hj=>?_)
  ·have s:j<4:=by simpa [q] using hj
   rw [add_plain];have l:j<cur1.size:=QN s hc.sz1;simp only [World.cell?,eg,Option.isSome_none,Vo,Xr,QS,Qg l,Q9,Option.getD_some]
  cases j with
  | zero =>
   have:cur1.getD 0 undef = .slice (some ⟨h,0,none⟩) m ch:=by rw [Q9,hc.ex];rfl
   show Den w3 _ (cur1.getD 0 undef) _;rw [this];exact r
  | succ j =>
   have p:j<(Ty.enc au y).length:=by simpa using hj
   obtain ⟨v,v1,v2⟩:=hc.co j p;have:cur1.getD (j+1) undef=v:=by rw [Q9,v1];rfl
   show Den w3 _ (cur1.getD (j+1) undef) (Ty.enc au y)[j];rw [this];refine v2.mono ⟨fun b hb'=>?_,fun _ _ h=>h.elim,fun _ h=>h.elim⟩ (fun b hb'=>?_)
   ·obtain ⟨h1,_,_⟩:=hb';rcases h1 with (h1 | h1) | h1
    ·exact h1.elim
    ·exact a b Q2 Q2
    exact a b Q2 h1.2
   obtain ⟨h1,h2,h3⟩:=hb';rcases h1 with (h1 | h1) | h1
   ·exact h1.elim
   ·exact e3 b Q2 h3 Q2
   exact e3 b h1.2 h3 Q2
 have n:((List.replicate m (0:Int)).set i 1).length=m:=by rw [Vg,QI]
 have hp:af.pv (varD m i y) = .ag [.lit (.int .i64 m),.row 1 (.row m (ints .i64 ((List.replicate m (0:Int)).set i 1)) :: Ty.enc au y)]:=by
  show PV.ag [.lit (.int .i64 m),.row 1 ((.row ((List.replicate m (0:Int)).set i 1).length (((List.replicate m (0:Int)).set i 1).flatMap (Ty.enc (.int .i64))) :: (Ty.enc au y++[]))++[])]=_;rw [n,kj,Vq,Vq]
 rw [hp];refine .ag rfl (fun j hj=>?_);have:j=0∨j=1:=by (have:j<2:=hj;omega)
 rcases this with rfl | rfl
 ·exact .lit _
 exact f
def varO (one:Option au.den) (sign:au.den->Option Int) (copy:au.den->Option au.den) (n i:Int):Option af.den :=
 match decide (0<=i)&&(decide (i<n)&&decide (n<1000000000)) with
 | false=>none
 | true=>one.bind fun x=>(sign x).bind fun s=>bif s==(0:Int) then none else (copy x).bind fun y=>some (n,[((List.replicate n.toNat (0:Int)).set i.toNat 1,y,())],())
def qu:pO T:=⟨af,fun call k vs=>match vs with
 | [x0,x1]=>match coe (.int .i64) x0,coe (.int .i64) x1 with
  | some n,some i=>varO (call 112 []) (fun x=>call 71 [.v au x]) (fun x=>call 150 [.v au x]) n i
  | _,_=>none
 | _=>none⟩
theorem Hc:gz Tryz.prog 107:=⟨_,Tryz.func107,by decide,by simp [Tryz.f107]⟩
theorem Ku {call:(g:Nat)->List df->Option (T.out g).den} (hC:jw T call) (n i:Int) (r:af.den) (h:varO (call 112 []) (fun x=>call 71 [.v au x]) (fun x=>call 150 [.v au x]) n i=some r):V.Fn Tryz.prog 107 [.int .i64 n,.int .i64 i] (af.pv r):=by
 unfold varO at h;split at h
 ·cases h
 rename_i hb;simp only [Qm,Vc] at hb;obtain ⟨b1,b2,b3⟩:=hb;obtain ⟨x,h1,h⟩:=Q5 h;obtain ⟨s,h2,h⟩:=Q5 h;cases hs:s==(0:Int) with
 | true=>rw [hs] at h;cases h
 | false =>
  rw [hs] at h;obtain ⟨y,h3,h⟩:=Q5 h;cases h;obtain ⟨m,rfl⟩:=Wx (show 0<=n by omega);obtain ⟨j,rfl⟩:=Wx b1;have hj:j<m:=Q2;have hm:m<1000000000:=Q2;obtain ⟨_,p,hp,hf⟩:=hC.fn 112 [] x rfl h1;cases hp;have a:code T2 102 18 call 0 vg ⟨uy 0 [.v (.int .i64) (m:Int),.v au x],[]⟩ yJ=some ((m:Int),y,List.replicate m (0:Int),()):=by
   refine (Mu call 0 m x).trans ?_;refine (congrArg (fun z=>Option.bind z _) h2).trans ?_;show (bif s==(0:Int) then _ else _)=_;rw [hs];show (if (0:Int)<=m/\(m:Int)<=m/\8*(m:Int).toNat<=281474976710656/\(m:Int).toNat<=maxLen then _ else none)=_;rw [Qk (by unfold maxLen;omega)];exact (congrArg (fun z=>Option.bind z _) h3).trans rfl
  exact var_fn m j hj hm y x hf (fun F w vs c b d=>EN hC 0 m Q2 x y a F w vs c b d)
theorem uO:dN T (107,qu):=⟨rfl,Hc,rfl,fun call k vs r hC h=>by
 simp only [qu] at h;split at h
 ·split at h
  ·rename_i x0 x1 _ _ n i h0 h1;simp only [QV,WD,iK h0,iK h1];exact ⟨_,rfl,Ku hC n i r h⟩
  cases h
 cases h⟩
end Go.Proofs.YtfbgaddecbiimaaGreatDoor.E
end
section
namespace Go.Proofs.YtfbgaddecbiimaaGreatDoor.E
def eo:List (Nat×pO T):=(66,qt) :: (68,nE) :: (107,qu) :: orcA
theorem orc_ok:MY T eo:=Lw (fun x hx=>by
 simp only [eo,Qo] at hx;rcases hx with rfl | rfl | rfl | hx
 ·exact uN
 ·exact pB
 ·exact uO
 exact JB x hx) N9
end Go.Proofs.YtfbgaddecbiimaaGreatDoor.E
end
section
namespace Go.Proofs.YtfbgaddecbiimaaGreatDoor.Q
open Go.RowKit Go.Proofs.YtfbgaddecbiimaaGreatDoorW.PrintWords Go.Proofs.YtfbgaddecbiimaaGreatDoorW.PrintMore Go.Proofs.YtfbgaddecbiimaaGreatDoor.V Go.Proofs.YtfbgaddecbiimaaGreatDoor.E
abbrev ae:=List Int×bA×Unit
abbrev ay:=Int×List ae×Unit
def iz (k:Nat) (b a:ay):Option Bool:=fn T eo k 10 [.v af b,.v af a]
def iy (k:Nat):Option Bool:=fn T eo k 12 []
def bD (k:Nat) (a:ay):Option Bool:=fn T eo k 17 [.v af a]
def xL (k:Nat) (b a:ay):Option (ay×Int×Unit):=fn T eo k 18 [.v af b,.v af a]
def gu (k:Nat) (a:ay):Option Bool:=fn T eo k 19 [.v af a]
def fW (k:Nat) (c:ay) (b:List ae) (a:Int):Option Bool:=fn T eo k 20 [.v af c,.v (.list ab) b,.v (.int .i64) a]
def bQ (k:Nat) (a:ay):Option (List ae):=fn T eo k 22 [.v af a]
def bg (k:Nat) (c:ay) (b a d:Int):Option Bool:=fn T eo k 23 [.v af c,.v (.int .i64) b,.v (.int .i64) a,.v (.int .i64) d]
def ba (k:Nat) (a:List ae):Option Int:=fn T eo k 25 [.v (.list ab) a]
def jQ (k:Nat) (a:bA):Option bA:=fn T eo k 30 [.v au a]
def gK (k:Nat) (b a:bA):Option bA:=fn T eo k 36 [.v aq b,.v aq a]
def fM (k:Nat) (b a:bA):Option bA:=fn T eo k 37 [.v aq b,.v aq a]
def cI (k:Nat) (b a:List ae):Option (List ae):=fn T eo k 52 [.v (.list ab) b,.v (.list ab) a]
def jt (k:Nat) (b a:List ae):Option (List ae):=fn T eo k 53 [.v (.list ab) b,.v (.list ab) a]
def cn (k:Nat) (b:List ae) (a:bA):Option (List ae):=fn T eo k 54 [.v (.list ab) b,.v aq a]
def aI (k:Nat) (b a:ay):Option Bool:=fn T eo k 55 [.v af b,.v af a]
def fG (k:Nat) (b a:ay):Option (ay×Int×Unit):=fn T eo k 58 [.v af b,.v af a]
def az (k:Nat) (b a:List ae):Option (List ae×Bool×Unit):=fn T eo k 59 [.v (.list ab) b,.v (.list ab) a]
def aP (k:Nat) (b:List ae) (a:Int):Option ay:=fn T eo k 60 [.v (.list ab) b,.v (.int .i64) a]
def aS (k:Nat) (a:ay):Option Bool:=fn T eo k 62 [.v af a]
def fw (k:Nat) (a:bA):Option bA:=fn T eo k 63 [.v aq a]
def ju (k:Nat) (a:Int):Option bA:=fn T eo k 64 [.v (.int .i64) a]
def xM (k:Nat) (a:ay):Option Bool:=fn T eo k 65 [.v af a]
def nG (k:Nat) (b:bA) (a:Int):Option Bool:=fn T eo k 70 [.v au b,.v (.int .i64) a]
def jc (k:Nat) (a:bA):Option Int:=fn T eo k 71 [.v au a]
def fm (k:Nat) (b a:List Int):Option Int:=fn T eo k 72 [.v (.list (.int .i64)) b,.v (.list (.int .i64)) a]
def fp (k:Nat) (b:bA) (a:Int):Option Bool:=fn T eo k 73 [.v au b,.v (.int .i64) a]
def lG (k:Nat) (b a:ay):Option Int:=fn T eo k 74 [.v af b,.v af a]
def oF (k:Nat) (b a:ay):Option (ay×Int×Unit):=fn T eo k 75 [.v af b,.v af a]
def bb (k:Nat) (b:List ae) (a:ae):Option (List ae):=fn T eo k 76 [.v (.list ab) b,.v ab a]
def bY (k:Nat) (c:List ae) (b:List Int) (a:bA):Option (List ae):=fn T eo k 77 [.v (.list ab) c,.v (.arr 8 (.int .i64)) b,.v aq a]
def dC (k:Nat) (b:bA) (a:Int):Option Bool:=fn T eo k 78 [.v au b,.v (.int .i64) a]
def bL (k:Nat) (a:List Int):Option Int:=fn T eo k 80 [.v (.arr 8 (.int .i64)) a]
def gv (k:Nat) (a:bA):Option Int:=fn T eo k 81 [.v aq a]
def fX (k:Nat) (a:bA):Option Bool:=fn T eo k 83 [.v au a]
def bR (k:Nat) (a:List Int):Option (List Int):=fn T eo k 84 [.v (.list (.int .u32)) a]
def gF (k:Nat) (a:ay):Option (ay×Int×Unit):=fn T eo k 91 [.v af a]
def fB (k:Nat) (b a:bA):Option Bool:=fn T eo k 92 [.v au b,.v au a]
def iO (k:Nat):Option bA:=fn T eo k 93 []
def ax (k:Nat) (b a:List Int):Option (List Int):=fn T eo k 95 [.v (.list (.int .i64)) b,.v (.list (.int .i64)) a]
def eT (k:Nat) (c:Bool) (b a:List Int):Option bA:=fn T eo k 96 [.v .bool c,.v (.list (.int .i64)) b,.v (.list (.int .i64)) a]
def aB (k:Nat) (b a:List Int):Option (List Int):=fn T eo k 97 [.v (.list (.int .i64)) b,.v (.list (.int .i64)) a]
def aM (k:Nat) (b a:List Int):Option Int:=fn T eo k 98 [.v (.list (.int .i64)) b,.v (.list (.int .i64)) a]
def aQ (k:Nat) (b a:List Int):Option (List Int):=fn T eo k 99 [.v (.list (.int .i64)) b,.v (.list (.int .i64)) a]
def eR (k:Nat) (a:ay):Option Int:=fn T eo k 100 [.v af a]
def Bk (k:Nat) (b a:ay):Option ay:=fn T eo k 108 [.v af b,.v af a]
def fJ (k:Nat) (b:ay) (a:bA):Option ay:=fn T eo k 109 [.v af b,.v au a]
def dS (k:Nat) (b a:ay):Option ay:=fn T eo k 113 [.v af b,.v af a]
def dR (k:Nat) (b a:ay):Option (ay×Bool×Unit):=fn T eo k 114 [.v af b,.v af a]
def aZ (k:Nat) (a:List ae):Option Int:=fn T eo k 115 [.v (.list ab) a]
def jv (k:Nat) (b a:bA):Option bA:=fn T eo k 116 [.v aq b,.v aq a]
def bJ (k:Nat) (b a:List Int):Option Bool:=fn T eo k 117 [.v (.arr 8 (.int .i64)) b,.v (.arr 8 (.int .i64)) a]
def aF (k:Nat) (a:List Int):Option (List Int):=fn T eo k 118 [.v (.list (.int .i64)) a]
def aK (k:Nat) (a:Int):Option (List Int):=fn T eo k 119 [.v (.int .i64) a]
def kd (k:Nat) (b:List Int) (a:Int):Option Bool:=fn T eo k 128 [.v (.list (.int .u32)) b,.v (.int .i64) a]
def cw (k:Nat) (b a:List Int):Option (List Int):=fn T eo k 129 [.v (.list (.int .u32)) b,.v (.list (.int .u32)) a]
def gn (k:Nat) (b a:ay):Option ay:=fn T eo k 130 [.v af b,.v af a]
def bS (k:Nat) (a:List Int):Option Bool:=fn T eo k 132 [.v (.list (.int .u32)) a]
def aA (k:Nat) (b a:List Int):Option (List Int):=fn T eo k 133 [.v (.list (.int .i64)) b,.v (.list (.int .i64)) a]
def aw (k:Nat) (c:List Int) (b a:Int):Option (List Int):=fn T eo k 134 [.v (.list (.int .i64)) c,.v (.int .i64) b,.v (.int .i64) a]
def hY (k:Nat) (b a:bA):Option bA:=fn T eo k 90 [.v au b,.v au a]
def qy (k:Nat):Option bA:=fn T eo k 135 []
def lB (k:Nat) (b a:bA):Option bA:=fn T eo k 136 [.v au b,.v au a]
def iw (k:Nat) (a:ay):Option ay:=fn T eo k 143 [.v af a]
def aD (k:Nat) (b a:List Int):Option Bool:=fn T eo k 144 [.v (.list (.int .u32)) b,.v (.list (.int .u32)) a]
def aG (k:Nat) (b a:List Int):Option (List Int×List Int×Unit):=fn T eo k 147 [.v (.list (.int .i64)) b,.v (.list (.int .i64)) a]
def gm (k:Nat) (a:List Int):Option Int:=fn T eo k 149 [.v (.list (.int .i64)) a]
def xX (k:Nat) (a:bA):Option bA:=fn T eo k 150 [.v au a]
def Bv (k:Nat) (a:Int):Option bA:=fn T eo k 151 [.v (.int .i64) a]
def HR (k:Nat) (a:ay):Option ay:=fn T eo k 152 [.v af a]
def cR (k:Nat) (b a:ae):Option (ae×Bool×Unit):=fn T eo k 154 [.v ah b,.v ah a]
def bX (k:Nat) (b:ay) (a:ae):Option ay:=fn T eo k 155 [.v af b,.v ah a]
def bf (k:Nat) (b:Int) (a:List ae):Option ay:=fn T eo k 167 [.v (.int .i64) b,.v (.list ah) a]
def dX (k:Nat) (b a:List Int):Option Int:=fn T eo k 138 [.v (.list (.int .u32)) b,.v (.list (.int .u32)) a]
def bK (k:Nat) (b a:List Int):Option (List Int):=fn T eo k 139 [.v (.list (.int .u32)) b,.v (.list (.int .u32)) a]
def eE (k:Nat) (c:Bool) (b a:List Int):Option bA:=fn T eo k 140 [.v .bool c,.v (.list (.int .u32)) b,.v (.list (.int .u32)) a]
def dM (k:Nat) (b a:List Int):Option (List Int):=fn T eo k 141 [.v (.list (.int .u32)) b,.v (.list (.int .u32)) a]
def dT (k:Nat) (b a:List Int):Option (List Int):=fn T eo k 142 [.v (.list (.int .u32)) b,.v (.list (.int .u32)) a]
def dB (k:Nat) (a:Int):Option (List Int):=fn T eo k 159 [.v (.int .u64) a]
def tY (k:Nat) (b a:bA):Option bA:=fn T eo k 171 [.v au b,.v au a]
def iH (k:Nat) (a:List Int):Option ByteArray:=fn T eo k 186 [.v (.list (.int .i64)) a]
def aJ (k:Nat) (b a:List Int):Option (List Int×List Int×Unit):=fn T eo k 160 [.v (.list (.int .u32)) b,.v (.list (.int .u32)) a]
def tX (k:Nat) (a:bA):Option bA:=fn T eo k 189 [.v au a]
def bD.l0 (k d:Nat) (b:List ae) (a c:Int) (e:ay):Option Bool:=pQ T eo k 17 Tryz.f17 none [1,1,0,1,0] d [] ⟨[(1,.po 1 0 []),(23,.v (.list ah) b),(24,.v (.int .i64) a),(25,.v (.int .i64) c)],[(1,.box 24 af e)]⟩
def bD.l1 (k h g:Nat) (i l:Int) (e:List ae) (a f:Int) (c:List Int) (b d:Int) (m:ay) (j:ae):Option Bool:=pQ T eo k 17 Tryz.f17 none [1,1,0,1,0,0,1,1,0,0,1,1,1,0,1,0] h [g] ⟨[(1,.po 1 0 []),(3,.v (.int .i64) i),(4,.po 4 0 []),(5,.v (.int .i64) l),(23,.v (.list ah) e),(24,.v (.int .i64) a),(25,.v (.int .i64) f),(49,.v (.list (.int .i64)) c),(50,.v (.int .i64) b),(51,.v (.int .i64) d)],[(1,.box 24 af m),(4,.box 96 ah j)]⟩
def bQ.l0 (k d:Nat) (x8:List ae) (b a:Int) (c:List ae):Option (List ae):=pQ T eo k 22 Tryz.f22 none [1,1,0,1,0] d [] ⟨[(3,.own 3),(8,.v (.list ah) x8),(9,.v (.int .i64) b),(10,.v (.int .i64) a)],[(3,.arr 53 ab c)]⟩
def bg.l0 (k d:Nat) (e f:Int) (b:List ae) (a c:Int) (g:ay):Option Bool:=pQ T eo k 23 Tryz.f23 none [1,1,0,1,0] d [] ⟨[(2,.v (.int .i64) e),(3,.v (.int .i64) f),(4,.po 4 0 []),(27,.v (.list ah) b),(28,.v (.int .i64) a),(29,.v (.int .i64) c)],[(4,.box 24 af g)]⟩
def ba.l0 (k d:Nat) (c:Int) (b:List ae) (a x8:Int):Option Int:=pQ T eo k 25 Tryz.f25 none [1,1,0,1,0] d [] ⟨[(3,.v (.int .i64) c),(6,.v (.list ab) b),(7,.v (.int .i64) a),(8,.v (.int .i64) x8)],[]⟩
def cI.l0 (k d:Nat) (c:List ae) (a b:Int) (e:List ae):Option (List ae):=pQ T eo k 52 Tryz.f52 none [1,1,0,1,0] d [] ⟨[(5,.own 8),(11,.v (.list ab) c),(12,.v (.int .i64) a),(13,.v (.int .i64) b)],[(8,.arr 53 ab e)]⟩
def cn.l0 (k d:Nat) (x8:List ae) (e a:Int) (b:bA) (c:List ae):Option (List ae):=pQ T eo k 54 Tryz.f54 none [1,1,0,1,0] d [] ⟨[(3,.po 3 0 []),(5,.own 5),(8,.v (.list ab) x8),(9,.v (.int .i64) e),(10,.v (.int .i64) a)],[(3,.box 51 aq b),(5,.arr 53 ab c)]⟩
def aI.l0 (k e:Nat) (a:List ae) (c b:Int) (d:ay):Option Bool:=pQ T eo k 55 Tryz.f55 none [1,1,0,1,0] e [] ⟨[(3,.po 3 0 []),(24,.v (.list ah) a),(25,.v (.int .i64) c),(26,.v (.int .i64) b)],[(3,.box 24 af d)]⟩
def aI.l1 (k i h:Nat) (a:List ae) (d c e b:Int) (f:ay) (j g:ae):Option Bool:=pQ T eo k 55 Tryz.f55 none [1,1,0,1,0,0,1,1,0,0,1,1,1,1,0] i [h] ⟨[(3,.po 3 0 []),(6,.po 6 0 []),(7,.po 7 0 []),(24,.v (.list ah) a),(25,.v (.int .i64) d),(26,.v (.int .i64) c),(53,.v (.int .i64) e),(54,.v (.int .i64) b)],[(3,.box 24 af f),(6,.box 96 ah j),(7,.box 96 ah g)]⟩
def az.l0 (k c:Nat) (x0 x1:List ae) (x8:Int) (a:ae) (b:List ae):Option (List ae×Bool×Unit):=pQ T eo k 59 Tryz.f59 none [1,1,1,1,0,0] c [] ⟨[(0,.v (.list ab) x0),(1,.v (.list ab) x1),(6,.po 6 0 []),(7,.own 7),(8,.v (.int .i64) x8)],[(6,.box 53 ab a),(7,.arr 53 ab b)]⟩
def az.l1 (k d c:Nat) (x0 x1:List ae) (x8 a:Int) (e:ae) (b:List ae) (f:ae):Option (List ae×Bool×Unit):=pQ T eo k 59 Tryz.f59 none [1,1,1,1,0,0,0,1,0,1,0,1,0] d [c] ⟨[(0,.v (.list ab) x0),(1,.v (.list ab) x1),(6,.po 6 0 []),(7,.own 7),(8,.v (.int .i64) x8),(9,.po 9 0 []),(26,.v (.int .i64) a)],[(6,.box 53 ab e),(7,.arr 53 ab b),(9,.box 53 ab f)]⟩
def aP.l0 (k f:Nat) (x0:List ae) (x1 d b:Int) (g:ay) (a:Int) (e:List ae) (c:List Bool):Option ay:=pQ T eo k 60 Tryz.f60 none [1,1,1,0,1,0] f [] ⟨[(0,.v (.list ab) x0),(1,.v (.int .i64) x1),(4,.po 4 0 []),(5,.po 2000005 0 []),(6,.own 14),(16,.v (.int .i64) d),(17,.v (.int .i64) b)],[(4,.box 24 af g),(2000005,.obox 24 [.v (.int .i64) a,.own 11]),(11,.arr 96 ah e),(14,.arr 4 .bool c)]⟩
def aP.l1 (k l i:Nat) (x0:List ae) (x1 j g b:Int) (e:List ae) (c d:Int) (m:ay) (a:Int) (h:List ae) (f:List Bool):Option ay:=pQ T eo k 60 Tryz.f60 none [1,1,1,0,1,0,0,1,1,0,0,1,0,1,0] l [i] ⟨[(0,.v (.list ab) x0),(1,.v (.int .i64) x1),(4,.po 4 0 []),(5,.po 2000005 0 []),(6,.own 14),(7,.v (.int .i64) j),(16,.v (.int .i64) g),(17,.v (.int .i64) b),(19,.v (.list ab) e),(20,.v (.int .i64) c),(21,.v (.int .i64) d)],[(4,.box 24 af m),(2000005,.obox 24 [.v (.int .i64) a,.own 11]),(11,.arr 96 ah h),(14,.arr 4 .bool f)]⟩
def aS.l0 (k e:Nat) (a:List ae) (c b:Int) (f:ay) (d:List Int):Option Bool:=pQ T eo k 62 Tryz.f62 none [1,1,1,0,1,0] e [] ⟨[(1,.po 1 0 []),(3,.po 3 0 []),(24,.v (.list ah) a),(25,.v (.int .i64) c),(26,.v (.int .i64) b)],[(1,.box 24 af f),(3,.box 47 (.arr 8 (.int .i64)) d)]⟩
def aS.l1 (k j h:Nat) (i:Int) (a:List ae) (f e:Int) (d:List Int) (c b:Int) (m:ay) (g l:List Int):Option Bool:=pQ T eo k 62 Tryz.f62 none [1,1,1,0,1,0,0,1,1,0,0,1,1,1,0,1,0] j [h] ⟨[(1,.po 1 0 []),(3,.po 3 0 []),(4,.v (.int .i64) i),(6,.po 6 0 []),(24,.v (.list ah) a),(25,.v (.int .i64) f),(26,.v (.int .i64) e),(57,.v (.list (.int .i64)) d),(58,.v (.int .i64) c),(59,.v (.int .i64) b)],[(1,.box 24 af m),(3,.box 47 (.arr 8 (.int .i64)) g),(6,.box 47 (.arr 8 (.int .i64)) l)]⟩
def fm.l0 (k b:Nat) (x1 a:List Int) (x8 c:Int):Option Int:=pQ T eo k 72 Tryz.f72 none [1,0,1,0] b [] ⟨[(1,.v (.list (.int .i64)) x1),(7,.v (.list (.int .i64)) a),(8,.v (.int .i64) x8),(9,.v (.int .i64) c)],[]⟩
def bb.l0 (k f:Nat) (b:List ae) (c a:Int) (d:ae) (e:List ae):Option (List ae):=pQ T eo k 76 Tryz.f76 none [1,1,0,1,0] f [] ⟨[(3,.po 3 0 []),(5,.own 5),(10,.v (.list ab) b),(11,.v (.int .i64) c),(12,.v (.int .i64) a)],[(3,.box 53 ab d),(5,.arr 53 ab e)]⟩
def bb.l1 (k i h:Nat) (b:List ae) (d a c:Int) (e:ae) (f:List ae) (g:ae) (j:List Int):Option (List ae):=pQ T eo k 76 Tryz.f76 none [1,1,0,1,0,0,1,1,0,0,1,1,0,1,0] i [h] ⟨[(3,.po 3 0 []),(5,.own 5),(7,.po 7 0 []),(8,.po 8 0 []),(10,.v (.list ab) b),(11,.v (.int .i64) d),(12,.v (.int .i64) a),(18,.v (.int .i64) c)],[(3,.box 53 ab e),(5,.arr 53 ab f),(7,.box 53 ab g),(8,.box 47 (.arr 8 (.int .i64)) j)]⟩
def bY.l0 (k d:Nat) (b a:Int) (rl:List ae) (e:List Int) (c:bA):Option (List ae):=pQ T eo k 77 Tryz.f77 (some (53,.unit)) [1,1,0,1,0] d [] ⟨[(0,.own 1000000),(4,.po 4 0 []),(5,.po 5 0 []),(14,.v (.int .i64) b),(15,.v (.int .i64) a)],[(cd,.arr 53 ab rl),(4,.box 47 (.arr 8 (.int .i64)) e),(5,.box 51 aq c),(cd,.arr 53 ab rl)]⟩
def bL.l0 (k d:Nat) (c:Int) (b:List Int) (a:Int):Option Int:=pQ T eo k 80 Tryz.f80 none [1,1,0,1,0] d [] ⟨[(3,.v (.int .i64) c),(6,.v (.arr 8 (.int .i64)) b),(7,.v (.int .i64) a)],[]⟩
def bR.l0 (k c:Nat) (x0 b:List Int) (a:Int):Option (List Int):=pQ T eo k 84 Tryz.f84 none [1,1,0,1,0] c [] ⟨[(0,.v (.list (.int .u32)) x0),(3,.v (.list (.int .i64)) b),(4,.v (.int .i64) a)],[]⟩
def eR.l0 (k c:Nat) (b:Int) (a:List ae) (x8 d:Int):Option Int:=pQ T eo k 100 Tryz.f100 none [1,1,0,1,0] c [] ⟨[(3,.v (.int .i64) b),(7,.v (.list ah) a),(8,.v (.int .i64) x8),(9,.v (.int .i64) d)],[]⟩
def fJ.l0 (k g:Nat) (e:List ae) (b c:Int) (f:bA) (h:ay) (a:Int) (d:List ae):Option ay:=pQ T eo k 109 Tryz.f109 none [1,1,1,0,1,0] g [] ⟨[(3,.po 3 0 []),(4,.po 4 0 []),(5,.po 2000005 0 []),(16,.v (.list ah) e),(17,.v (.int .i64) b),(18,.v (.int .i64) c)],[(3,.box 61 au f),(4,.box 24 af h),(2000005,.obox 24 [.v (.int .i64) a,.own 10]),(10,.arr 96 ah d)]⟩
def dS.l0 (k e:Nat) (g f:Int) (d c h:ay) (a:Int) (b:List ae):Option ay:=pQ T eo k 113 Tryz.f113 none [1,1,1,0,0] e [] ⟨[(2,.po 2 0 []),(3,.po 3 0 []),(4,.po 4 0 []),(5,.po 2000005 0 []),(6,.v (.int .i64) g),(7,.v (.int .i64) f)],[(2,.box 24 af d),(3,.box 24 af c),(4,.box 24 af h),(2000005,.obox 24 [.v (.int .i64) a,.own 12]),(12,.arr 96 ah b)]⟩
def dR.l0 (k c:Nat) (b a d:ay) (e:List ae):Option (ay×Bool×Unit):=pQ T eo k 114 Tryz.f114 none [1,1,0,0] c [] ⟨[(2,.po 2 0 []),(3,.po 3 0 []),(4,.po 4 0 []),(6,.own 6)],[(2,.box 24 af b),(3,.box 24 af a),(4,.box 24 af d),(6,.arr 96 ah e)]⟩
def aZ.l0 (k d:Nat) (x0:List ae) (b:Int) (c:List ae) (a x8:Int):Option Int:=pQ T eo k 115 Tryz.f115 none [1,1,0,1,0] d [] ⟨[(0,.v (.list ab) x0),(3,.v (.int .i64) b),(6,.v (.list ab) c),(7,.v (.int .i64) a),(8,.v (.int .i64) x8)],[]⟩
def bJ.l0 (k d:Nat) (c:Int) (a b:List Int):Option Bool:=pQ T eo k 117 Tryz.f117 none [1,0,1,0] d [] ⟨[(2,.po 2 0 []),(3,.po 3 0 []),(6,.v (.int .i64) c)],[(2,.box 47 (.arr 8 (.int .i64)) a),(3,.box 47 (.arr 8 (.int .i64)) b)]⟩
def gn.l0 (k f:Nat) (g:List ae) (a b:Int) (e c h:ay) (d:List ae):Option ay:=pQ T eo k 130 Tryz.f130 none [1,1,0,1,0] f [] ⟨[(2,.po 2 0 []),(3,.po 3 0 []),(4,.po 4 0 []),(5,.own 5),(9,.v (.list ah) g),(10,.v (.int .i64) a),(11,.v (.int .i64) b)],[(2,.box 24 af e),(3,.box 24 af c),(4,.box 24 af h),(5,.arr 96 ah d)]⟩
def iw.l0 (k f:Nat) (c:List ae) (d b:Int) (h e:ay) (a:Int) (g:List ae):Option ay:=pQ T eo k 143 Tryz.f143 none [1,1,0,1,0] f [] ⟨[(1,.po 1 0 []),(2,.po 2 0 []),(3,.po 2000003 0 []),(10,.v (.list ah) c),(11,.v (.int .i64) d),(12,.v (.int .i64) b)],[(1,.box 24 af h),(2,.box 24 af e),(2000003,.obox 24 [.v (.int .i64) a,.own 8]),(8,.arr 96 ah g)]⟩
def gm.l0 (k d:Nat) (c:Int) (b:List Int) (a x8:Int):Option Int:=pQ T eo k 149 Tryz.f149 none [1,1,0,1,0] d [] ⟨[(3,.v (.int .i64) c),(6,.v (.list (.int .i64)) b),(7,.v (.int .i64) a),(8,.v (.int .i64) x8)],[]⟩
def cR.l0 (k g:Nat) (c:List Int) (b d:Int) (f e h:ae) (a:List Int):Option (ae×Bool×Unit):=pQ T eo k 154 Tryz.f154 none [1,1,0,1,0] g [] ⟨[(2,.po 2 0 []),(3,.po 3 0 []),(4,.po 4 0 []),(6,.own 12),(14,.v (.list (.int .i64)) c),(15,.v (.int .i64) b),(16,.v (.int .i64) d)],[(2,.box 96 ah f),(3,.box 96 ah e),(4,.box 96 ah h),(12,.arr 3 (.int .i64) a)]⟩
def bX.l0 (k h:Nat) (d:List ae) (c e:Int) (g:ay) (f:ae) (i:ay) (a:Int) (b:List ae):Option ay:=pQ T eo k 155 Tryz.f155 none [1,1,0,1,0] h [] ⟨[(2,.po 2 0 []),(3,.po 3 0 []),(4,.po 4 0 []),(5,.po 2000005 0 []),(14,.v (.list ah) d),(15,.v (.int .i64) c),(16,.v (.int .i64) e)],[(2,.box 24 af g),(3,.box 96 ah f),(4,.box 24 af i),(2000005,.obox 24 [.v (.int .i64) a,.own 12]),(12,.arr 96 ah b)]⟩
def bX.l1 (k n m:Nat) (f:List ae) (e g b h:Int) (l:ay) (i:ae) (o:ay) (a:Int) (c:List ae) (j:ae) (d:List Int):Option ay:=pQ T eo k 155 Tryz.f155 none [1,1,0,1,0,0,1,1,0,0,1,1,0,1,0] n [m] ⟨[(2,.po 2 0 []),(3,.po 3 0 []),(4,.po 4 0 []),(5,.po 2000005 0 []),(7,.po 7 0 []),(8,.own 22),(14,.v (.list ah) f),(15,.v (.int .i64) e),(16,.v (.int .i64) g),(24,.v (.int .i64) b),(25,.v (.int .i64) h)],[(2,.box 24 af l),(3,.box 96 ah i),(4,.box 24 af o),(2000005,.obox 24 [.v (.int .i64) a,.own 12]),(12,.arr 96 ah c),(7,.box 96 ah j),(22,.arr 3 (.int .i64) d)]⟩
def bf.l0 (k d:Nat) (x0:Int) (f:List (ByteArray×Int)) (c:List ae) (a b:Int) (e:ay) (g:List ae):Option ay:=pQ T eo k 167 Tryz.f167 none [1,1,1,0,1,0] d [] ⟨[(0,.v (.int .i64) x0),(4,.po 4 0 []),(5,.mp f),(6,.own 6),(16,.v (.list ah) c),(17,.v (.int .i64) a),(18,.v (.int .i64) b)],[(4,.box 24 af e),(6,.arr 96 ah g)]⟩
def bf.l1 (k f:Nat) (d:List ae) (c b:Int) (g:ay) (a:Int) (e:List ae):Option ay:=pQ T eo k 167 Tryz.f167 none [1,1,1,1,1,0,1,0] f [] ⟨[(4,.po 4 0 []),(12,.po 2000012 0 []),(56,.v (.list ah) d),(57,.v (.int .i64) c),(58,.v (.int .i64) b)],[(4,.box 24 af g),(2000012,.obox 24 [.v (.int .i64) a,.own 55]),(55,.arr 96 ah e)]⟩
def iH.l0 (k d:Nat) (b:List Int) (c a:Int) (e:List Int):Option ByteArray:=pQ T eo k 186 Tryz.f186 none [1,1,0,1,0] d [] ⟨[(3,.own 9),(10,.v (.list (.int .i64)) b),(11,.v (.int .i64) c),(12,.v (.int .i64) a)],[(9,.arr 5 (.int .u8) e)]⟩
def fG.j0 (k:Nat) (c:Int) (e d f:ay):Option (ay×Int×Unit) :=
 bif c != (0:Int) then
  some (((0:Int),[],()),c,())
 else
  (dR k e d).bind fun (b:ay×Bool×Unit) =>
  bif !b.2.1 then
   some (((0:Int),[],()),(30:Int),())
  else
   (gF k b.1).bind fun (a:ay×Int×Unit) =>
   some (a.1,a.2.1,())
def aP.j0 (k i l:Nat) (x0:List ae) (x1 j g b:Int) (e:List ae) (c d:Int) (m:ay) (a:Int) (h:List ae) (f:List Bool):Option ay :=
 aP.l1 k l i x0 x1 j g b e c (wrap64 (d+(1:Int))) m a h f
def dS.j1 (k e:Nat) (g f:Int) (d c h:ay) (a:Int) (b:List ae):Option ay :=
 dS.l0 k e (wrap64 (g+(1:Int))) (wrap64 (f+(1:Int))) d c h a b
def dS.j0 (k g:Nat) (b e x8:Int) (d f h:ay) (c:Int) (a:List ae):Option ay :=
 bif decide (x8>(0:Int)) then
  if 0<=b/\b<(List.length d.2.1:Int) then if (List.length a+List.length ([(cH (t:=ah) d.2.1 b:ae)]))*80<=140737488355328 then dS.l0 k g (wrap64 (b+(1:Int))) e d f h c (a++([(cH (t:=ah) d.2.1 b:ae)])) else none else none
 else
  bif decide (x8<(0:Int)) then
   if 0<=e/\e<(List.length f.2.1:Int) then if (List.length a+List.length ([(cH (t:=ah) f.2.1 e:ae)]))*80<=140737488355328 then dS.l0 k g b (wrap64 (e+(1:Int))) d f h c (a++([(cH (t:=ah) f.2.1 e:ae)])) else none else none
  else
   if 0<=b/\b<(List.length d.2.1:Int) then if 0<=e/\e<(List.length f.2.1:Int) then (hY k (((cH (t:=ah) d.2.1 b:ae).2).1) (((cH (t:=ah) f.2.1 e:ae).2).1)).bind fun (i:bA) =>
   (jc k i).bind fun (j:Int) =>
   bif j != (0:Int) then
    if 0<=b/\b<(List.length d.2.1:Int) then if (List.length a+List.length ([((cH (t:=ah) d.2.1 b:ae).1,i,())]))*80<=140737488355328 then dS.j1 k g b e d f h c (a++([((cH (t:=ah) d.2.1 b:ae).1,i,())])) else none else none
   else
    dS.j1 k g b e d f h c a else none else none
def aZ.j0 (k d:Nat) (x0:List ae) (b:Int) (c:List ae) (a x8:Int):Option Int :=
 aZ.l0 k d x0 b c a (wrap64 (x8+(1:Int)))
def gn.j0 (k f:Nat) (g:List ae) (a b:Int) (e c h:ay) (d:List ae):Option ay :=
 gn.l0 k f g a (wrap64 (b+(1:Int))) e c h d
def hY.j0 (k:Nat) (b a d:List Int) (c g n:bA):Option bA :=
 bif c.1==g.1 then
  (dM k b a).bind fun (h:List Int) =>
  (eE k c.1 h d).bind fun (l:bA) =>
  some l
 else
  (dX k b a).bind fun (j:Int) =>
  bif decide (j>=(0:Int)) then
   (dT k b a).bind fun (i:List Int) =>
   (eE k c.1 i d).bind fun (m:bA) =>
   some m
  else
   (dT k a b).bind fun (f:List Int) =>
   (eE k g.1 f d).bind fun (e:bA) =>
   some e
def bf.j1 (k f:Nat) (d:List ae) (c b:Int) (g:ay) (a:Int) (e:List ae):Option ay :=
 bf.l1 k f d c (wrap64 (b+(1:Int))) g a e
def bf.j0 (k d:Nat) (x0:Int) (f:List (ByteArray×Int)) (c:List ae) (a b:Int) (e:ay) (g:List ae):Option ay :=
 bf.l0 k d x0 f c a (wrap64 (b+(1:Int))) e g
def eE.j0 (k:Nat) (x0:Bool) (x1 a:List Int) (b:bA):Option bA :=
 if List.length x1*4<=140737488355328 then if List.length a*4<=140737488355328 then some (x0,x1,a,()) else none else none
theorem kH (k:Nat) (a c:ay):iz (k+1) a c =
 (iy k ).bind fun (v1:Bool) =>
 bif !v1 then
  some false
 else
  (bif a.1 != c.1 then some true else (bg k a (6:Int) (5:Int) (1:Int)).bind fun (v:Bool) =>
  some (!v)).bind fun (y:Bool) =>
  (bif y then some true else (bg k c (6:Int) (5:Int) (1:Int)).bind fun (w:Bool) =>
  some (!w)).bind fun (z:Bool) =>
  bif z then
   some true
  else
   (bQ k a).bind fun (t:List ae) =>
   (bQ k c).bind fun (u:List ae) =>
   (fG k a c).bind fun (d:ay×Int×Unit) =>
   bif (List.length u:Int)==(0:Int) then
    (bif d.2.1==(20:Int) then (gu k d.1).bind fun (x:Bool) =>
    some x else some false).bind fun (m:Bool) =>
    some m
   else
    (az k t u).bind fun (b:List ae×Bool×Unit) =>
    (bif b.2.1 then (bif d.2.1 != (0:Int) then some true else (fW k d.1 b.1 a.1).bind fun (l:Bool) =>
    some (!l)).bind fun (n:Bool) =>
    some n else some false).bind fun (s:Bool) =>
    (bif s then some true else (bif !b.2.1 then (bif d.2.1 != (30:Int) then some true else (gu k d.1).bind fun (h:Bool) =>
    some (!h)).bind fun (r:Bool) =>
    some r else some false).bind fun (g:Bool) =>
    some g).bind fun (q:Bool) =>
    bif q then
     some false
    else
     (xL k a c).bind fun (f:ay×Int×Unit) =>
     (fG k f.1 c).bind fun (e:ay×Int×Unit) =>
     (bif f.2.1==(0:Int) then some (e.2.1==(0:Int)) else some false).bind fun (j:Bool) =>
     (bif j then (aP k t a.1).bind fun (o:ay) =>
     (aI k e.1 o).bind fun (i:Bool) =>
     some i else some false).bind fun (p:Bool) =>
     some p:=by
 kernel_rfl
theorem kv (k:Nat) (a:ay):bD (k+1) a =
 (bif decide (a.1<(0:Int)) then some true else some (decide (a.1>(8:Int)))).bind fun (b:Bool) =>
 (bif b then some true else some (decide ((List.length a.2.1:Int)>(4000:Int)))).bind fun (c:Bool) =>
 bif c then
  some false
 else
  bD.l0 k k a.2.1 (List.length a.2.1:Int) (0:Int) a:=by
 kernel_rfl
theorem bD.aN (k e:Nat) (b:List ae) (c a:Int) (d:ay):bD.l0 k (e+1) b c a d =
 bif decide (a<c) then
  if 0<=a/\a<(List.length b:Int) then (bif (List.length ((cH (t:=ah) b a:ae).1):Int) != d.1 then some true else (nG k (((cH (t:=ah) b a:ae).2).1) (200:Int)).bind fun (g:Bool) =>
  some (!g)).bind fun (i:Bool) =>
  (bif i then some true else (jc k (((cH (t:=ah) b a:ae).2).1)).bind fun (f:Int) =>
  some (f==(0:Int))).bind fun (h:Bool) =>
  bif h then
   some false
  else
   bD.l1 k k e a (0:Int) b c a ((cH (t:=ah) b a:ae).1) (List.length ((cH (t:=ah) b a:ae).1):Int) (0:Int) d (cH (t:=ah) b a:ae) else none
 else
  some true:=by
 kernel_rfl
theorem bD.eF (k p l:Nat) (g o:Int) (f:List ae) (c e:Int) (b:List Int) (d a:Int) (h:ay) (i:ae):bD.l1 k (p+1) l g o f c e b d a h i =
 bif decide (a<d) then
  if 0<=a/\a<(List.length b:Int) then (bif decide ((cH (t:=(.int .i64)) b a:Int)<(0:Int)) then some true else some (decide ((cH (t:=(.int .i64)) b a:Int)>(40:Int)))).bind fun (s:Bool) =>
  bif s then
   some false
  else
   bD.l1 k p l g (wrap64 (o+(cH (t:=(.int .i64)) b a:Int))) f c e b d (wrap64 (a+(1:Int))) h i else none
 else
  (bif decide (o>(40:Int)) then some true else (bif decide (g>(0:Int)) then if 0<=(wrap64 (g-(1:Int)))/\(wrap64 (g-(1:Int)))<(List.length h.2.1:Int) then (fm k ((cH (t:=ah) h.2.1 (wrap64 (g-(1:Int))):ae).1) i.1).bind fun (q:Int) =>
  some (decide (q<=(0:Int))) else none else some false).bind fun (r:Bool) =>
  some r).bind fun (j:Bool) =>
  (bif j then some true else (fp k i.2.1 (200:Int)).bind fun (n:Bool) =>
  some (!n)).bind fun (m:Bool) =>
  bif m then
   some false
  else
   bD.l0 k l f c (wrap64 (e+(1:Int))) h:=by
 kernel_rfl
theorem DE (k:Nat) (b a:ay):xL (k+1) b a =
 (lG k b a).bind fun (d:Int) =>
 bif d != (0:Int) then
  some (((0:Int),[],()),d,())
 else
  (oF k b a).bind fun (c:ay×Int×Unit) =>
  some (c.1,c.2.1,()):=by
 kernel_rfl
theorem oN (k:Nat) (a:ay):gu (k+1) a =
 (bif a.1==(0:Int) then some ((List.length a.2.1:Int)==(0:Int)) else some false).bind fun (b:Bool) =>
 some b:=by
 kernel_rfl
theorem kG (k:Nat) (c:ay) (b:List ae) (a:Int):fW (k+1) c b a =
 (aP k b a).bind fun (d:ay) =>
 (aI k c d).bind fun (e:Bool) =>
 some e:=by
 kernel_rfl
theorem qJ (k:Nat) (a:ay):bQ (k+1) a =
 bQ.l0 k k a.2.1 (List.length a.2.1:Int) (0:Int) ([]:List ae):=by
 kernel_rfl
theorem bQ.aN (k e:Nat) (x8:List ae) (c a:Int) (b:List ae):bQ.l0 k (e+1) x8 c a b =
 bif decide (a<c) then
  if 0<=a/\a<(List.length x8:Int) then if List.length (List.replicate 8 (0:Int))=8 then (jQ k (((cH (t:=ah) x8 a:ae).2).1)).bind fun (d:bA) =>
  if (List.length b+List.length ([(kN (List.replicate 8 (0:Int)) ((cH (t:=ah) x8 a:ae).1),d,())]))*120<=140737488355328 then bQ.l0 k e x8 c (wrap64 (a+(1:Int))) (b++([(kN (List.replicate 8 (0:Int)) ((cH (t:=ah) x8 a:ae).1),d,())])) else none else none else none
 else
  some b:=by
 kernel_rfl
theorem eI (k:Nat) (a:ay) (c b d:Int):bg (k+1) a c b d =
 (bif decide (a.1<(0:Int)) then some true else some (decide (a.1>(8:Int)))).bind fun (e:Bool) =>
 (bif e then some true else some (decide ((List.length a.2.1:Int)>c))).bind fun (f:Bool) =>
 bif f then
  some false
 else
  bg.l0 k k b d a.2.1 (List.length a.2.1:Int) (0:Int) a:=by
 kernel_rfl
theorem bg.aN (k g:Nat) (e f:Int) (b:List ae) (c a:Int) (d:ay):bg.l0 k (g+1) e f b c a d =
 bif decide (a<c) then
  if 0<=a/\a<(List.length b:Int) then (dC k (((cH (t:=ah) b a:ae).2).1) f).bind fun (i:Bool) =>
  bif !i then
   some false
  else
   bg.l0 k g e f b c (wrap64 (a+(1:Int))) d else none
 else
  (aS k d).bind fun (j:Bool) =>
  (bif j then (bQ k d).bind fun (h:List ae) =>
  (ba k h).bind fun (l:Int) =>
  some (decide (l<=e)) else some false).bind fun (m:Bool) =>
  some m:=by
 kernel_rfl
theorem jh (k:Nat) (a:List ae):ba (k+1) a =
 ba.l0 k k (-1:Int) a (List.length a:Int) (0:Int):=by
 kernel_rfl
theorem ba.aN (k d:Nat) (c:Int) (a:List ae) (b x8:Int):ba.l0 k (d+1) c a b x8 =
 bif decide (x8<b) then
  if 0<=x8/\x8<(List.length a:Int) then (bL k ((cH (t:=ab) a x8:ae).1)).bind fun (e:Int) =>
  ba.l0 k d (mx c e) a b (wrap64 (x8+(1:Int))) else none
 else
  some c:=by
 kernel_rfl
theorem qL (k:Nat) (a:bA):jQ (k+1) a =
 (bR k a.2.1).bind fun (c:List Int) =>
 (bR k a.2.2.1).bind fun (b:List Int) =>
 some (a.1,c,b,()):=by
 kernel_rfl
theorem gX (k:Nat) (a b:bA):gK (k+1) a b =
 (ax k a.2.1 b.2.2.1).bind fun (c:List Int) =>
 (ax k b.2.1 a.2.2.1).bind fun (d:List Int) =>
 (ax k a.2.2.1 b.2.2.1).bind fun (e:List Int) =>
 bif a.1==b.1 then
  (aB k c d).bind fun (j:List Int) =>
  (eT k a.1 j e).bind fun (g:bA) =>
  some g
 else
  (aM k c d).bind fun (l:Int) =>
  bif decide (l>=(0:Int)) then
   (aQ k c d).bind fun (i:List Int) =>
   (eT k a.1 i e).bind fun (h:bA) =>
   some h
  else
   (aQ k d c).bind fun (m:List Int) =>
   (eT k b.1 m e).bind fun (f:bA) =>
   some f:=by
 kernel_rfl
theorem pE (k:Nat) (b a:bA):fM (k+1) b a =
 (ax k b.2.1 a.2.1).bind fun (d:List Int) =>
 (ax k b.2.2.1 a.2.2.1).bind fun (e:List Int) =>
 (eT k (b.1 != a.1) d e).bind fun (c:bA) =>
 some c:=by
 kernel_rfl
theorem pD (k:Nat) (b a:List ae):cI (k+1) b a =
 if (List.length ([]:List ae)+List.length b)*120<=140737488355328 then cI.l0 k k a (List.length a:Int) (0:Int) (([]:List ae)++b) else none:=by
 kernel_rfl
theorem cI.aN (k e:Nat) (b:List ae) (c a:Int) (d:List ae):cI.l0 k (e+1) b c a d =
 bif decide (a<c) then
  if 0<=a/\a<(List.length b:Int) then (bY k d ((cH (t:=ab) b a:ae).1) (((cH (t:=ab) b a:ae).2).1)).bind fun (f:List ae) =>
  cI.l0 k e b c (wrap64 (a+(1:Int))) f else none
 else
  some d:=by
 kernel_rfl
theorem pC (k:Nat) (b a:List ae):jt (k+1) b a =
 (ju k (-1:Int)).bind fun (d:bA) =>
 (cn k a d).bind fun (e:List ae) =>
 (cI k b e).bind fun (c:List ae) =>
 some c:=by
 kernel_rfl
theorem nP (k:Nat) (a:List ae) (b:bA):cn (k+1) a b =
 cn.l0 k k a (List.length a:Int) (0:Int) b ([]:List ae):=by
 kernel_rfl
theorem cn.aN (k e:Nat) (x8:List ae) (d a:Int) (b:bA) (c:List ae):cn.l0 k (e+1) x8 d a b c =
 bif decide (a<d) then
  if 0<=a/\a<(List.length x8:Int) then (fM k (((cH (t:=ab) x8 a:ae).2).1) b).bind fun (f:bA) =>
  (bY k c ((cH (t:=ab) x8 a:ae).1) f).bind fun (g:List ae) =>
  cn.l0 k e x8 d (wrap64 (a+(1:Int))) b g else none
 else
  some c:=by
 kernel_rfl
theorem gJ (k:Nat) (a b:ay):aI (k+1) a b =
 (bif a.1 != b.1 then some true else some ((List.length a.2.1:Int) != (List.length b.2.1:Int))).bind fun (c:Bool) =>
 bif c then
  some false
 else
  aI.l0 k k a.2.1 (List.length a.2.1:Int) (0:Int) b:=by
 kernel_rfl
theorem aI.aN (k e:Nat) (b:List ae) (c a:Int) (d:ay):aI.l0 k (e+1) b c a d =
 bif decide (a<c) then
  if 0<=a/\a<(List.length b:Int) then if 0<=a/\a<(List.length d.2.1:Int) then (bif (List.length ((cH (t:=ah) b a:ae).1):Int) != (List.length ((cH (t:=ah) d.2.1 a:ae).1):Int) then some true else (fB k (((cH (t:=ah) b a:ae).2).1) (((cH (t:=ah) d.2.1 a:ae).2).1)).bind fun (g:Bool) =>
  some (!g)).bind fun (f:Bool) =>
  bif f then
   some false
  else
   aI.l1 k k e b c a (List.length ((cH (t:=ah) b a:ae).1):Int) (0:Int) d (cH (t:=ah) b a:ae) (cH (t:=ah) d.2.1 a:ae) else none else none
 else
  some true:=by
 kernel_rfl
theorem aI.eF (k j i:Nat) (b:List ae) (d c e a:Int) (h:ay) (g f:ae):aI.l1 k (j+1) i b d c e a h g f =
 bif decide (a<e) then
  if 0<=a/\a<(List.length g.1:Int) then if 0<=a/\a<(List.length f.1:Int) then bif (cH (t:=(.int .i64)) g.1 a:Int) != (cH (t:=(.int .i64)) f.1 a:Int) then
   some false
  else
   aI.l1 k j i b d c e (wrap64 (a+(1:Int))) h g f else none else none
 else
  aI.l0 k i b d (wrap64 (c+(1:Int))) h:=by
 kernel_rfl
theorem qm (k:Nat) (b a:ay):fG (k+1) b a =
 (lG k b a).bind fun (c:Int) =>
 (bif c==(0:Int) then (xM k a).bind fun (e:Bool) =>
 some e else some false).bind fun (d:Bool) =>
 bif d then
  fG.j0 k (20:Int) b a ((0:Int),[],())
 else
  fG.j0 k c b a ((0:Int),[],()):=by
 kernel_rfl
theorem mX (k:Nat) (c a:List ae):az (k+1) c a =
 (aZ k a).bind fun (b:Int) =>
 if 0<=b/\b<(List.length a:Int) then (ba k c).bind fun (d:Int) =>
 az.l0 k k c a d (cH (t:=ab) a b:ae) ([]:List ae) else none:=by
 kernel_rfl
theorem az.aN (k d:Nat) (x0 x1:List ae) (x8:Int) (c:ae) (a:List ae):az.l0 k (d+1) x0 x1 x8 c a =
 bif decide ((List.length x0:Int)>(0:Int)) then
  (aZ k x0).bind fun (b:Int) =>
  if 0<=b/\b<(List.length x0:Int) then az.l1 k k d x0 x1 x8 (0:Int) c a (cH (t:=ab) x0 b:ae) else none
 else
  some (a,true,()):=by
 kernel_rfl
theorem az.eF (k h f:Nat) (x0 x1:List ae) (x8 a:Int) (c:ae) (d:List ae) (b:ae):az.l1 k (h+1) f x0 x1 x8 a c d b =
 bif decide (a<(8:Int)) then
  if 0<=a/\a<(8:Int) then if 0<=a/\a<(8:Int) then if 0<=a/\a<(8:Int) then if 0<=a/\a<(8:Int) then bif decide ((uI (0:Int) 8 (Nn (0:Int) 8 b.1 a (wrap64 ((uI (0:Int) 8 b.1 a:Int)-(uI (0:Int) 8 c.1 a:Int)))) a:Int)<(0:Int)) then
   some ([],false,())
  else
   az.l1 k h f x0 x1 x8 (wrap64 (a+(1:Int))) c d (Nn (0:Int) 8 b.1 a (wrap64 ((uI (0:Int) 8 b.1 a:Int)-(uI (0:Int) 8 c.1 a:Int))),b.2) else none else none else none else none
 else
  (bL k b.1).bind fun (j:Int) =>
  bif decide (j>x8) then
   some ([],false,())
  else
   (jv k b.2.1 c.2.1).bind fun (e:bA) =>
   if (List.length d+List.length ([(b.1,e,b.2.2)]))*120<=140737488355328 then (bb k x1 (b.1,e,b.2.2)).bind fun (l:List ae) =>
   (jt k x0 l).bind fun (g:List ae) =>
   (ba k g).bind fun (i:Int) =>
   bif decide (i>x8) then
    some ([],false,())
   else
    az.l0 k f g x1 x8 c (d++([(b.1,e,b.2.2)])) else none:=by
 kernel_rfl
theorem qI (k:Nat) (a:List ae) (b:Int):aP (k+1) a b =
 if 0<=(List.length a:Int)/\(List.length a:Int)<=(List.length a:Int)/\1*(Int.toNat (List.length a:Int))<=281474976710656/\(Int.toNat (List.length a:Int))<=maxLen then aP.l0 k k a b (List.length a:Int) (0:Int) ((0:Int),[],()) b ([]:List ae) (List.replicate (Int.toNat (List.length a:Int)) (false:Bool)) else none:=by
 kernel_rfl
theorem aP.aN (k f:Nat) (x0:List ae) (x1 c b:Int) (g:ay) (a:Int) (d:List ae) (e:List Bool):aP.l0 k (f+1) x0 x1 c b g a d e =
 bif decide (b<c) then
  aP.l1 k k f x0 x1 (-1:Int) c b x0 (List.length x0:Int) (0:Int) g a d e
 else
  some (a,d,()):=by
 kernel_rfl
theorem aP.eF (k m j:Nat) (x0:List ae) (x1 b i g:Int) (e:List ae) (h a:Int) (l:ay) (d:Int) (f:List ae) (c:List Bool):aP.l1 k (m+1) j x0 x1 b i g e h a l d f c =
 bif decide (a<h) then
  if 0<=a/\a<(List.length e:Int) then if 0<=a/\a<(List.length c:Int) then (bif !(cH (t:=.bool) c a:Bool) then (bif decide (b<(0:Int)) then some true else if 0<=b/\b<(List.length x0:Int) then (bJ k ((cH (t:=ab) e a:ae).1) ((cH (t:=ab) x0 b:ae).1)).bind fun (p:Bool) =>
  some p else none).bind fun (q:Bool) =>
  some q else some false).bind fun (o:Bool) =>
  bif o then
   aP.j0 k j m x0 x1 a i g e h a l d f c
  else
   aP.j0 k j m x0 x1 b i g e h a l d f c else none else none
 else
  if 0<=b/\b<(List.length c:Int) then if 0<=b/\b<(List.length x0:Int) then if 0<=x1/\x1<=(8:Int) then if (List.length ([]:List Int)+List.length (List.take (Int.toNat x1) (eN (0:Int) 8 ((cH (t:=ab) x0 b:ae).1))))*8<=140737488355328 then if 0<=b/\b<(List.length x0:Int) then (fw k (((cH (t:=ab) x0 b:ae).2).1)).bind fun (n:bA) =>
  if (List.length f+List.length ([(([]:List Int)++(List.take (Int.toNat x1) (eN (0:Int) 8 ((cH (t:=ab) x0 b:ae).1))),n,())]))*80<=140737488355328 then aP.l0 k j x0 x1 i (wrap64 (g+(1:Int))) l d (f++([(([]:List Int)++(List.take (Int.toNat x1) (eN (0:Int) 8 ((cH (t:=ab) x0 b:ae).1))),n,())])) (List.set c (Int.toNat b) true) else none else none else none else none else none else none:=by
 kernel_rfl
theorem fu (k:Nat) (a:ay):aS (k+1) a =
 (bif decide (a.1<(0:Int)) then some true else some (decide (a.1>(8:Int)))).bind fun (b:Bool) =>
 (bif b then some true else some (decide ((List.length a.2.1:Int)>(4000:Int)))).bind fun (c:Bool) =>
 bif c then
  some false
 else
  aS.l0 k k a.2.1 (List.length a.2.1:Int) (0:Int) a (List.replicate 8 (0:Int)):=by
 kernel_rfl
theorem aS.aN (k f:Nat) (b:List ae) (c a:Int) (d:ay) (e:List Int):aS.l0 k (f+1) b c a d e =
 bif decide (a<c) then
  if 0<=a/\a<(List.length b:Int) then (bif (List.length ((cH (t:=ah) b a:ae).1):Int) != d.1 then some true else (dC k (((cH (t:=ah) b a:ae).2).1) (200:Int)).bind fun (h:Bool) =>
  some (!h)).bind fun (j:Bool) =>
  (bif j then some true else (fX k (((cH (t:=ah) b a:ae).2).1)).bind fun (g:Bool) =>
  some (!g)).bind fun (i:Bool) =>
  (bif i then some true else some ((List.length (((((cH (t:=ah) b a:ae).2).1).2).1):Int)==(0:Int))).bind fun (l:Bool) =>
  bif l then
   some false
  else
   aS.l1 k k f a b c a ((cH (t:=ah) b a:ae).1) (List.length ((cH (t:=ah) b a:ae).1):Int) (0:Int) d e (List.replicate 8 (0:Int)) else none
 else
  some true:=by
 kernel_rfl
theorem aS.eF (k p j:Nat) (l:Int) (c:List ae) (f e:Int) (b:List Int) (d a:Int) (o:ay) (h g:List Int):aS.l1 k (p+1) j l c f e b d a o h g =
 bif decide (a<d) then
  if 0<=a/\a<(List.length b:Int) then (bif decide ((cH (t:=(.int .i64)) b a:Int)<(0:Int)) then some true else some (decide ((cH (t:=(.int .i64)) b a:Int)>(40:Int)))).bind fun (q:Bool) =>
  bif q then
   some false
  else
   if 0<=a/\a<(8:Int) then aS.l1 k p j l c f e b d (wrap64 (a+(1:Int))) o h (Nn (0:Int) 8 g a (cH (t:=(.int .i64)) b a:Int)) else none else none
 else
  (bL k g).bind fun (r:Int) =>
  (bif decide (r>(40:Int)) then some true else (bif decide (l>(0:Int)) then (bJ k h g).bind fun (n:Bool) =>
  some (!n) else some false).bind fun (i:Bool) =>
  some i).bind fun (m:Bool) =>
  bif m then
   some false
  else
   aS.l0 k j c f (wrap64 (e+(1:Int))) o g:=by
 kernel_rfl
theorem qK (k:Nat) (a:bA):fw (k+1) a =
 (aF k a.2.1).bind fun (c:List Int) =>
 (aF k a.2.2.1).bind fun (b:List Int) =>
 some (a.1,c,b,()):=by
 kernel_rfl
theorem jY (k:Nat) (a:Int):ju (k+1) a =
 bif decide (a<(0:Int)) then
  (aK k (wrap64 (-a))).bind fun (c:List Int) =>
  some (true,c,[(1:Int)],())
 else
  (aK k a).bind fun (b:List Int) =>
  some (false,b,[(1:Int)],()):=by
 kernel_rfl
theorem sb (k:Nat) (a:ay):xM (k+1) a =
 some ((List.length a.2.1:Int)==(0:Int)):=by
 kernel_rfl
theorem qB (k:Nat) (b:bA) (a:Int):nG (k+1) b a =
 (bif decide ((List.length b.2.1:Int)<=a) then some (decide ((List.length b.2.2.1:Int)<=a)) else some false).bind fun (c:Bool) =>
 some c:=by
 kernel_rfl
theorem mC (k:Nat) (a:bA):jc (k+1) a =
 bif (List.length a.2.1:Int)==(0:Int) then
  some (0:Int)
 else
  bif a.1 then
   some (-1:Int)
  else
   some (1:Int):=by
 kernel_rfl
theorem Gj (k:Nat) (a b:List Int):fm (k+1) a b =
 fm.l0 k k b a (List.length a:Int) (0:Int):=by
 kernel_rfl
theorem fm.aN (k c:Nat) (x1 b:List Int) (x8 a:Int):fm.l0 k (c+1) x1 b x8 a =
 bif decide (a<x8) then
  if 0<=a/\a<(List.length b:Int) then if 0<=a/\a<(List.length x1:Int) then bif (cH (t:=(.int .i64)) b a:Int) != (cH (t:=(.int .i64)) x1 a:Int) then
   if 0<=a/\a<(List.length x1:Int) then bif decide ((cH (t:=(.int .i64)) b a:Int)<(cH (t:=(.int .i64)) x1 a:Int)) then
    some (-1:Int)
   else
    some (1:Int) else none
  else
   fm.l0 k c x1 b x8 (wrap64 (a+(1:Int))) else none else none
 else
  some (0:Int):=by
 kernel_rfl
theorem lA (k:Nat) (a:bA) (c:Int):fp (k+1) a c =
 (kd k a.2.1 c).bind fun (f:Bool) =>
 (bif !f then some true else (kd k a.2.2.1 c).bind fun (i:Bool) =>
 some (!i)).bind fun (e:Bool) =>
 (bif e then some true else some ((List.length a.2.2.1:Int)==(0:Int))).bind fun (h:Bool) =>
 bif h then
  some false
 else
  bif (List.length a.2.1:Int)==(0:Int) then
   (bif !a.1 then some ((List.length a.2.2.1:Int)==(1:Int)) else some false).bind fun (g:Bool) =>
   (bif g then if 0<=(0:Int)/\(0:Int)<(List.length a.2.2.1:Int) then some ((cH (t:=(.int .u32)) a.2.2.1 (0:Int):Int)==(1:Int)) else none else some false).bind fun (d:Bool) =>
   some d
  else
   (bif (List.length a.2.2.1:Int)==(1:Int) then if 0<=(0:Int)/\(0:Int)<(List.length a.2.2.1:Int) then some ((cH (t:=(.int .u32)) a.2.2.1 (0:Int):Int)==(1:Int)) else none else some false).bind fun (l:Bool) =>
   bif l then
    some true
   else
    (cw k a.2.1 a.2.2.1).bind fun (b:List Int) =>
    (bif (List.length b:Int)==(1:Int) then if 0<=(0:Int)/\(0:Int)<(List.length b:Int) then some ((cH (t:=(.int .u32)) b (0:Int):Int)==(1:Int)) else none else some false).bind fun (j:Bool) =>
    some j:=by
 kernel_rfl
theorem Bi (k:Nat) (b a:ay):lG (k+1) b a =
 (bD k b).bind fun (c:Bool) =>
 (bif !c then some true else (bD k a).bind fun (e:Bool) =>
 some (!e)).bind fun (d:Bool) =>
 bif d then
  some (3:Int)
 else
  bif b.1 != a.1 then
   some (1:Int)
  else
   some (0:Int):=by
 kernel_rfl
theorem kP (k:Nat) (b a:ay):oF (k+1) b a =
 (bif decide ((List.length b.2.1:Int)>(0:Int)) then some (decide ((List.length a.2.1:Int)>(0:Int))) else some false).bind fun (h:Bool) =>
 (bif h then (eR k b).bind fun (g:Int) =>
 (eR k a).bind fun (e:Int) =>
 some (decide ((wrap64 (g+e))>(40:Int))) else some false).bind fun (f:Bool) =>
 bif f then
  some (((0:Int),[],()),(2:Int),())
 else
  (gn k b a).bind fun (d:ay) =>
  (gF k d).bind fun (c:ay×Int×Unit) =>
  some (c.1,c.2.1,()):=by
 kernel_rfl
theorem nO (k:Nat) (a:List ae) (b:ae):bb (k+1) a b =
 bb.l0 k k a (List.length a:Int) (0:Int) b ([]:List ae):=by
 kernel_rfl
theorem bb.aN (k f:Nat) (b:List ae) (c a:Int) (e:ae) (d:List ae):bb.l0 k (f+1) b c a e d =
 bif decide (a<c) then
  if 0<=a/\a<(List.length b:Int) then bb.l1 k k f b c a (0:Int) e d (cH (t:=ab) b a:ae) ((cH (t:=ab) b a:ae).1) else none
 else
  some d:=by
 kernel_rfl
theorem bb.eF (k l i:Nat) (c:List ae) (d b a:Int) (e:ae) (g:List ae) (h:ae) (f:List Int):bb.l1 k (l+1) i c d b a e g h f =
 bif decide (a<(8:Int)) then
  if 0<=a/\a<(8:Int) then if 0<=a/\a<(8:Int) then if 0<=a/\a<(8:Int) then bb.l1 k l i c d b (wrap64 (a+(1:Int))) e g h (Nn (0:Int) 8 f a (wrap64 ((uI (0:Int) 8 f a:Int)+(uI (0:Int) 8 e.1 a:Int)))) else none else none else none
 else
  (fM k h.2.1 e.2.1).bind fun (j:bA) =>
  if (List.length g+List.length ([(f,j,())]))*120<=140737488355328 then bb.l0 k i c d (wrap64 (b+(1:Int))) e (g++([(f,j,())])) else none:=by
 kernel_rfl
theorem jX (k:Nat) (a:List ae) (c:List Int) (b:bA):bY (k+1) a c b =
 (gv k b).bind fun (d:Int) =>
 bif d==(0:Int) then
  some a
 else
  bY.l0 k k (List.length a:Int) (0:Int) a c b:=by
 kernel_rfl
theorem bY.aN (k e:Nat) (b a:Int) (rl:List ae) (d:List Int) (c:bA):bY.l0 k (e+1) b a rl d c =
 bif decide (a<b) then
  if 0<=a/\a<(List.length rl:Int) then bif eN (0:Int) 8 ((cH (t:=ab) rl a:ae).1)==eN (0:Int) 8 d then
   if 0<=a/\a<(List.length rl:Int) then (gK k (((cH (t:=ab) rl a:ae).2).1) c).bind fun (f:bA) =>
   (gv k f).bind fun (g:Int) =>
   bif g==(0:Int) then
    if 0<=(wrap64 ((List.length rl:Int)-(1:Int)))/\(wrap64 ((List.length rl:Int)-(1:Int)))<(List.length rl:Int) then if 0<=a/\a<(List.length rl:Int) then if 0<List.length (List.set rl (Int.toNat a) (cH (t:=ab) rl (wrap64 ((List.length rl:Int)-(1:Int))):ae))/\0<=(wrap64 ((List.length (List.set rl (Int.toNat a) (cH (t:=ab) rl (wrap64 ((List.length rl:Int)-(1:Int))):ae)):Int)-(1:Int)))/\(wrap64 ((List.length (List.set rl (Int.toNat a) (cH (t:=ab) rl (wrap64 ((List.length rl:Int)-(1:Int))):ae)):Int)-(1:Int)))<=(List.length (List.set rl (Int.toNat a) (cH (t:=ab) rl (wrap64 ((List.length rl:Int)-(1:Int))):ae)):Int) then some (List.take (Int.toNat (wrap64 ((List.length (List.set rl (Int.toNat a) (cH (t:=ab) rl (wrap64 ((List.length rl:Int)-(1:Int))):ae)):Int)-(1:Int)))) (List.set rl (Int.toNat a) (cH (t:=ab) rl (wrap64 ((List.length rl:Int)-(1:Int))):ae))) else none else none else none
   else
    if 0<=a/\a<(List.length rl:Int) then some (List.set rl (Int.toNat a) ((cH (t:=ab) rl a:ae).1,f,((cH (t:=ab) rl a:ae).2).2)) else none else none
  else
   bY.l0 k e b (wrap64 (a+(1:Int))) rl d c else none
 else
  if (List.length rl+List.length ([(d,c,())]))*120<=140737488355328 then some (rl++([(d,c,())])) else none:=by
 kernel_rfl
theorem nQ (k:Nat) (b:bA) (a:Int):dC (k+1) b a =
 (bif decide ((List.length b.2.1:Int)<=a) then some (decide ((List.length b.2.2.1:Int)<=a)) else some false).bind fun (c:Bool) =>
 some c:=by
 kernel_rfl
theorem nN (k:Nat) (a:List Int):bL (k+1) a =
 bL.l0 k k (0:Int) a (0:Int):=by
 kernel_rfl
theorem bL.aN (k d:Nat) (c:Int) (b:List Int) (a:Int):bL.l0 k (d+1) c b a =
 bif decide (a<(8:Int)) then
  if 0<=a/\a<(8:Int) then bL.l0 k d (wrap64 (c+(uI (0:Int) 8 b a:Int))) b (wrap64 (a+(1:Int))) else none
 else
  some c:=by
 kernel_rfl
theorem oP (k:Nat) (a:bA):gv (k+1) a =
 bif (List.length a.2.1:Int)==(0:Int) then
  some (0:Int)
 else
  bif a.1 then
   some (-1:Int)
  else
   some (1:Int):=by
 kernel_rfl
theorem fv (k:Nat) (a:bA):fX (k+1) a =
 (bS k a.2.1).bind fun (f:Bool) =>
 (bif !f then some true else (bS k a.2.2.1).bind fun (i:Bool) =>
 some (!i)).bind fun (e:Bool) =>
 (bif e then some true else some ((List.length a.2.2.1:Int)==(0:Int))).bind fun (g:Bool) =>
 bif g then
  some false
 else
  bif (List.length a.2.1:Int)==(0:Int) then
   (bif !a.1 then some ((List.length a.2.2.1:Int)==(1:Int)) else some false).bind fun (h:Bool) =>
   (bif h then if 0<=(0:Int)/\(0:Int)<(List.length a.2.2.1:Int) then some ((cH (t:=(.int .u32)) a.2.2.1 (0:Int):Int)==(1:Int)) else none else some false).bind fun (d:Bool) =>
   some d
  else
   (bR k a.2.1).bind fun (j:List Int) =>
   (bR k a.2.2.1).bind fun (c:List Int) =>
   (aA k j c).bind fun (l:List Int) =>
   (aM k l ([(1:Int)])).bind fun (b:Int) =>
   some (b==(0:Int)):=by
 kernel_rfl
theorem qM (k:Nat) (a:List Int):bR (k+1) a =
 bR.l0 k k a [] (wrap64 ((List.length a:Int)-(1:Int))):=by
 kernel_rfl
theorem bR.aN (k c:Nat) (x0 b:List Int) (a:Int):bR.l0 k (c+1) x0 b a =
 bif decide (a>=(0:Int)) then
  if 0<=a/\a<(List.length x0:Int) then (aw k b (65536:Int) (wrap64 (shr .u32 (cH (t:=(.int .u32)) x0 a:Int) (16:Int)))).bind fun (d:List Int) =>
  if 0<=a/\a<(List.length x0:Int) then (aw k d (65536:Int) (wrap64 (Go.bits .and .u32 (cH (t:=(.int .u32)) x0 a:Int) (65535:Int)))).bind fun (e:List Int) =>
  bR.l0 k c x0 e (wrap64 (a-(1:Int))) else none else none
 else
  some b:=by
 kernel_rfl
theorem pz (k:Nat) (a:ay):gF (k+1) a =
 (bD k a).bind fun (c:Bool) =>
 bif !c then
  some (((0:Int),[],()),(2:Int),())
 else
  (iw k a).bind fun (b:ay) =>
  some (b,(0:Int),()):=by
 kernel_rfl
theorem oQ (k:Nat) (b a:bA):fB (k+1) b a =
 (bif b.1==a.1 then (aD k b.2.1 a.2.1).bind fun (d:Bool) =>
 some d else some false).bind fun (f:Bool) =>
 (bif f then (aD k b.2.2.1 a.2.2.1).bind fun (c:Bool) =>
 some c else some false).bind fun (e:Bool) =>
 some e:=by
 kernel_rfl
theorem oO (k:Nat):iO (k+1) =
 some (false,[],[(1:Int)],()):=by
 kernel_rfl
theorem pH (k:Nat) (b a:List Int):ax (k+1) b a=P.ax.f k b a:=by
 kernel_rfl
theorem fE (k:Nat) (d:Bool) (b a:List Int):eT (k+1) d b a =
 bif (List.length b:Int)==(0:Int) then
  (iO k ).bind fun (f:bA) =>
  some f
 else
  (bif (List.length a:Int)==(1:Int) then if 0<=(0:Int)/\(0:Int)<(List.length a:Int) then some ((cH (t:=(.int .i64)) a (0:Int):Int)==(1:Int)) else none else some false).bind fun (i:Bool) =>
  bif i then
   some (d,b,a,())
  else
   (aA k b a).bind fun (c:List Int) =>
   (bif (List.length c:Int)==(1:Int) then if 0<=(0:Int)/\(0:Int)<(List.length c:Int) then some ((cH (t:=(.int .i64)) c (0:Int):Int)==(1:Int)) else none else some false).bind fun (g:Bool) =>
   bif g then
    some (d,b,a,())
   else
    (aG k b c).bind fun (e:List Int×List Int×Unit) =>
    (aG k a c).bind fun (h:List Int×List Int×Unit) =>
    some (d,e.1,h.1,()):=by
 kernel_rfl
theorem pM (k:Nat) (b a:List Int):aB (k+1) b a=P.aB.f k b a:=by
 kernel_rfl
theorem pL (k:Nat) (b a:List Int):aM (k+1) b a=P.aM.f k b a:=by
 kernel_rfl
theorem pG (k:Nat) (b a:List Int):aQ (k+1) b a=P.aQ.f k b a:=by
 kernel_rfl
theorem zf (k:Nat) (a:ay):eR (k+1) a =
 eR.l0 k k (-1:Int) a.2.1 (List.length a.2.1:Int) (0:Int):=by
 kernel_rfl
theorem eR.aN (k d:Nat) (c:Int) (b:List ae) (x8 a:Int):eR.l0 k (d+1) c b x8 a =
 bif decide (a<x8) then
  if 0<=a/\a<(List.length b:Int) then (gm k ((cH (t:=ah) b a:ae).1)).bind fun (e:Int) =>
  eR.l0 k d (mx c e) b x8 (wrap64 (a+(1:Int))) else none
 else
  some c:=by
 kernel_rfl
theorem Ge (k:Nat) (b a:ay):Bk (k+1) b a =
 (HR k a).bind fun (d:ay) =>
 (dS k b d).bind fun (c:ay) =>
 some c:=by
 kernel_rfl
theorem Bl (k:Nat) (a:ay) (b:bA):fJ (k+1) a b =
 (jc k b).bind fun (c:Int) =>
 bif c==(0:Int) then
  some (a.1,([]:List ae),())
 else
  fJ.l0 k k a.2.1 (List.length a.2.1:Int) (0:Int) b ((0:Int),[],()) a.1 ([]:List ae):=by
 kernel_rfl
theorem fJ.aN (k g:Nat) (b:List ae) (e a:Int) (f:bA) (i:ay) (c:Int) (d:List ae):fJ.l0 k (g+1) b e a f i c d =
 bif decide (a<e) then
  if 0<=a/\a<(List.length b:Int) then (lB k (((cH (t:=ah) b a:ae).2).1) f).bind fun (h:bA) =>
  if (List.length d+List.length ([((cH (t:=ah) b a:ae).1,h,())]))*80<=140737488355328 then fJ.l0 k g b e (wrap64 (a+(1:Int))) f i c (d++([((cH (t:=ah) b a:ae).1,h,())])) else none else none
 else
  some (c,d,()):=by
 kernel_rfl
theorem Gk (k:Nat) (a b:ay):dS (k+1) a b =
 dS.l0 k k (0:Int) (0:Int) a b ((0:Int),[],()) a.1 ([]:List ae):=by
 kernel_rfl
theorem dS.aN (k g:Nat) (d c:Int) (f e h:ay) (a:Int) (b:List ae):dS.l0 k (g+1) d c f e h a b =
 (bif decide (d<(List.length f.2.1:Int)) then some true else some (decide (c<(List.length e.2.1:Int)))).bind fun (j:Bool) =>
 bif j then
  bif d==(List.length f.2.1:Int) then
   dS.j0 k g d c (-1:Int) f e h a b
  else
   bif c==(List.length e.2.1:Int) then
    dS.j0 k g d c (1:Int) f e h a b
   else
    if 0<=d/\d<(List.length f.2.1:Int) then if 0<=c/\c<(List.length e.2.1:Int) then (fm k ((cH (t:=ah) f.2.1 d:ae).1) ((cH (t:=ah) e.2.1 c:ae).1)).bind fun (i:Int) =>
    dS.j0 k g d c i f e h a b else none else none
 else
  some (a,b,()):=by
 kernel_rfl
theorem mS (k:Nat) (b a:ay):dR (k+1) b a =
 dR.l0 k k b a ((0:Int),[],()) ([]:List ae):=by
 kernel_rfl
theorem dR.aN (k e:Nat) (b a f:ay) (d:List ae):dR.l0 k (e+1) b a f d =
 bif decide ((List.length b.2.1:Int)>(0:Int)) then
  if 0<=(0:Int)/\(0:Int)<(List.length b.2.1:Int) then if 0<=(0:Int)/\(0:Int)<(List.length a.2.1:Int) then (cR k (cH (t:=ah) b.2.1 (0:Int):ae) (cH (t:=ah) a.2.1 (0:Int):ae)).bind fun (c:ae×Bool×Unit) =>
  bif !c.2.1 then
   some (((0:Int),[],()),false,())
  else
   if (List.length d+List.length ([c.1]))*80<=140737488355328 then (bX k a c.1).bind fun (h:ay) =>
   (Bk k b h).bind fun (g:ay) =>
   dR.l0 k e g a f (d++([c.1])) else none else none else none
 else
  some ((a.1,d,()),true,()):=by
 kernel_rfl
theorem nM (k:Nat) (a:List ae):aZ (k+1) a =
 aZ.l0 k k a (0:Int) a (List.length a:Int) (0:Int):=by
 kernel_rfl
theorem aZ.aN (k d:Nat) (x0:List ae) (a:Int) (b:List ae) (c x8:Int):aZ.l0 k (d+1) x0 a b c x8 =
 bif decide (x8<c) then
  if 0<=x8/\x8<(List.length b:Int) then if 0<=a/\a<(List.length x0:Int) then (bJ k ((cH (t:=ab) x0 a:ae).1) ((cH (t:=ab) b x8:ae).1)).bind fun (e:Bool) =>
  bif e then
   aZ.j0 k d x0 x8 b c x8
  else
   aZ.j0 k d x0 a b c x8 else none else none
 else
  some a:=by
 kernel_rfl
theorem pF (k:Nat) (b a:bA):jv (k+1) b a =
 (fM k b (a.1,a.2.2.1,a.2.1,())).bind fun (c:bA) =>
 some c:=by
 kernel_rfl
theorem mW (k:Nat) (b a:List Int):bJ (k+1) b a =
 bJ.l0 k k (0:Int) b a:=by
 kernel_rfl
theorem bJ.aN (k d:Nat) (a:Int) (b c:List Int):bJ.l0 k (d+1) a b c =
 bif decide (a<(8:Int)) then
  if 0<=a/\a<(8:Int) then if 0<=a/\a<(8:Int) then bif (uI (0:Int) 8 b a:Int) != (uI (0:Int) 8 c a:Int) then
   if 0<=a/\a<(8:Int) then if 0<=a/\a<(8:Int) then some (decide ((uI (0:Int) 8 b a:Int)>(uI (0:Int) 8 c a:Int))) else none else none
  else
   bJ.l0 k d (wrap64 (a+(1:Int))) b c else none else none
 else
  some false:=by
 kernel_rfl
theorem nR (k:Nat) (a:List Int):aF (k+1) a=P.aF.f k a:=by
 kernel_rfl
theorem pI (k:Nat) (a:Int):aK (k+1) a=P.aK.f k a:=by
 kernel_rfl
theorem oI (k:Nat) (a:List Int) (b:Int):kd (k+1) a b =
 (bif decide ((List.length a:Int)<=b) then (bif (List.length a:Int)==(0:Int) then some true else if 0<=(wrap64 ((List.length a:Int)-(1:Int)))/\(wrap64 ((List.length a:Int)-(1:Int)))<(List.length a:Int) then some ((cH (t:=(.int .u32)) a (wrap64 ((List.length a:Int)-(1:Int))):Int) != (0:Int)) else none).bind fun (c:Bool) =>
 some c else some false).bind fun (d:Bool) =>
 some d:=by
 kernel_rfl
theorem GL (k:Nat) (b a:List Int):cw (k+1) b a=P.cw.f k b a:=by
 kernel_rfl
theorem Gi (k:Nat) (a b:ay):gn (k+1) a b =
 gn.l0 k k a.2.1 (List.length a.2.1:Int) (0:Int) a b ((0:Int),[],()) ([]:List ae):=by
 kernel_rfl
theorem gn.aN (k h:Nat) (f:List ae) (b a:Int) (e g i:ay) (c:List ae):gn.l0 k (h+1) f b a e g i c =
 bif decide (a<b) then
  if 0<=a/\a<(List.length f:Int) then (bX k g (cH (t:=ah) f a:ae)).bind fun (d:ay) =>
  if (List.length c+List.length d.2.1)*80<=140737488355328 then bif decide ((List.length (c++d.2.1):Int)>(65536:Int)) then
   (bf k e.1 (c++d.2.1)).bind fun (l:ay) =>
   none
  else
   gn.j0 k h f b a e g i (c++d.2.1) else none else none
 else
  (bf k e.1 c).bind fun (j:ay) =>
  some j:=by
 kernel_rfl
theorem nS (k:Nat) (a:List Int):bS (k+1) a=P.bS.f a:=by
 kernel_rfl
theorem pJ (k:Nat) (b a:List Int):aA (k+1) b a=P.aA.f k b a:=by
 kernel_rfl
theorem nT (k:Nat) (c:List Int) (b a:Int):aw (k+1) c b a=P.aw.f k c b a:=by
 kernel_rfl
theorem xZ (k:Nat) (a b:bA):hY (k+1) a b =
 (dX k a.2.2.1 b.2.2.1).bind fun (d:Int) =>
 bif d != (0:Int) then
  (bK k a.2.1 b.2.2.1).bind fun (e:List Int) =>
  (bK k b.2.1 a.2.2.1).bind fun (c:List Int) =>
  (bK k a.2.2.1 b.2.2.1).bind fun (f:List Int) =>
  hY.j0 k e c f a b (false,[],[],())
 else
  hY.j0 k a.2.1 b.2.1 a.2.2.1 a b (false,[],[],()):=by
 kernel_rfl
theorem DQ (k:Nat):qy (k+1) =
 some (false,[],[(1:Int)],()):=by
 kernel_rfl
theorem Gs (k:Nat) (b a:bA):lB (k+1) b a =
 (bK k b.2.1 a.2.1).bind fun (d:List Int) =>
 (bK k b.2.2.1 a.2.2.1).bind fun (e:List Int) =>
 (eE k (b.1 != a.1) d e).bind fun (c:bA) =>
 some c:=by
 kernel_rfl
theorem DH (k:Nat) (a:ay):iw (k+1) a =
 iw.l0 k k a.2.1 (List.length a.2.1:Int) (0:Int) a ((0:Int),[],()) a.1 ([]:List ae):=by
 kernel_rfl
theorem iw.aN (k i:Nat) (b:List ae) (d a:Int) (e h:ay) (c:Int) (f:List ae):iw.l0 k (i+1) b d a e h c f =
 bif decide (a<d) then
  if 0<=a/\a<(List.length b:Int) then if 0<=(0:Int)/\(0:Int)<=e.1/\8*(Int.toNat e.1)<=281474976710656/\(Int.toNat e.1)<=maxLen then if (List.length (List.replicate (Int.toNat (0:Int)) ((0:Int):Int))+List.length ((cH (t:=ah) b a:ae).1))*8<=140737488355328 then (xX k (((cH (t:=ah) b a:ae).2).1)).bind fun (g:bA) =>
  if (List.length f+List.length ([((List.replicate (Int.toNat (0:Int)) ((0:Int):Int))++((cH (t:=ah) b a:ae).1),g,())]))*80<=140737488355328 then iw.l0 k i b d (wrap64 (a+(1:Int))) e h c (f++([((List.replicate (Int.toNat (0:Int)) ((0:Int):Int))++((cH (t:=ah) b a:ae).1),g,())])) else none else none else none else none
 else
  some (c,f,()):=by
 kernel_rfl
theorem kz (k:Nat) (b a:List Int):aD (k+1) b a=P.aD.f k b a:=by
 kernel_rfl
theorem mY (k:Nat) (b a:List Int):aG (k+1) b a=(P.aG.f k b a).map fun r=>(r.1,r.2,()):=by
 kernel_rfl
theorem Gb (k:Nat) (a:List Int):gm (k+1) a =
 gm.l0 k k (0:Int) a (List.length a:Int) (0:Int):=by
 kernel_rfl
theorem gm.aN (k d:Nat) (c:Int) (a:List Int) (b x8:Int):gm.l0 k (d+1) c a b x8 =
 bif decide (x8<b) then
  if 0<=x8/\x8<(List.length a:Int) then gm.l0 k d (wrap64 (c+(cH (t:=(.int .i64)) a x8:Int))) a b (wrap64 (x8+(1:Int))) else none
 else
  some c:=by
 kernel_rfl
theorem DU (k:Nat) (a:bA):xX (k+1) a =
 if List.length a.2.1*4<=140737488355328 then if List.length a.2.2.1*4<=140737488355328 then some (a.1,a.2.1,a.2.2.1,()) else none else none:=by
 kernel_rfl
theorem xW (k:Nat) (a:Int):Bv (k+1) a =
 bif decide (a<(0:Int)) then
  (dB k (IntKind.u64.wrap ((IntKind.u64.wrap (wrap64 (-(wrap64 (a+(1:Int))))))+(1:Int)))).bind fun (c:List Int) =>
  (eE k true c ([(1:Int)])).bind fun (d:bA) =>
  some d
 else
  (dB k (IntKind.u64.wrap (a))).bind fun (b:List Int) =>
  (eE k false b ([(1:Int)])).bind fun (e:bA) =>
  some e:=by
 kernel_rfl
theorem Gf (k:Nat) (a:ay):HR (k+1) a =
 (Bv k (-1:Int)).bind fun (c:bA) =>
 (fJ k a c).bind fun (b:ay) =>
 some b:=by
 kernel_rfl
theorem xO (k:Nat) (a b:ae):cR (k+1) a b =
 if 0<=(List.length a.1:Int)/\(List.length a.1:Int)<=(List.length a.1:Int)/\8*(Int.toNat (List.length a.1:Int))<=281474976710656/\(Int.toNat (List.length a.1:Int))<=maxLen then cR.l0 k k a.1 (List.length a.1:Int) (0:Int) a b ([],(false,[],[],()),()) (List.replicate (Int.toNat (List.length a.1:Int)) ((0:Int):Int)) else none:=by
 kernel_rfl
theorem cR.aN (k g:Nat) (c:List Int) (e a:Int) (f d h:ae) (b:List Int):cR.l0 k (g+1) c e a f d h b =
 bif decide (a<e) then
  if 0<=a/\a<(List.length c:Int) then if 0<=a/\a<(List.length d.1:Int) then if 0<=a/\a<(List.length b:Int) then if 0<=a/\a<(List.length (List.set b (Int.toNat a) (wrap64 ((cH (t:=(.int .i64)) c a:Int)-(cH (t:=(.int .i64)) d.1 a:Int)))):Int) then bif decide ((cH (t:=(.int .i64)) (List.set b (Int.toNat a) (wrap64 ((cH (t:=(.int .i64)) c a:Int)-(cH (t:=(.int .i64)) d.1 a:Int)))) a:Int)<(0:Int)) then
   some (([],(false,[],[],()),()),false,())
  else
   cR.l0 k g c e (wrap64 (a+(1:Int))) f d h (List.set b (Int.toNat a) (wrap64 ((cH (t:=(.int .i64)) c a:Int)-(cH (t:=(.int .i64)) d.1 a:Int)))) else none else none else none else none
 else
  (tY k f.2.1 d.2.1).bind fun (i:bA) =>
  some ((b,i,()),true,()):=by
 kernel_rfl
theorem tP (k:Nat) (a:ay) (b:ae):bX (k+1) a b =
 bX.l0 k k a.2.1 (List.length a.2.1:Int) (0:Int) a b ((0:Int),[],()) a.1 ([]:List ae):=by
 kernel_rfl
theorem bX.aN (k h:Nat) (d:List ae) (f a:Int) (c:ay) (g:ae) (i:ay) (b:Int) (e:List ae):bX.l0 k (h+1) d f a c g i b e =
 bif decide (a<f) then
  if 0<=a/\a<(List.length d:Int) then if 0<=c.1/\c.1<=c.1/\8*(Int.toNat c.1)<=281474976710656/\(Int.toNat c.1)<=maxLen then bX.l1 k k h d f a (List.length (List.replicate (Int.toNat c.1) ((0:Int):Int)):Int) (0:Int) c g i b e (cH (t:=ah) d a:ae) (List.replicate (Int.toNat c.1) ((0:Int):Int)) else none else none
 else
  some (b,e,()):=by
 kernel_rfl
theorem bX.eF (k p m:Nat) (g:List ae) (f h e a:Int) (l:ay) (i:ae) (n:ay) (c:Int) (d:List ae) (j:ae) (b:List Int):bX.l1 k (p+1) m g f h e a l i n c d j b =
 bif decide (a<e) then
  if 0<=a/\a<(List.length j.1:Int) then if 0<=a/\a<(List.length i.1:Int) then if 0<=a/\a<(List.length b:Int) then bX.l1 k p m g f h e (wrap64 (a+(1:Int))) l i n c d j (List.set b (Int.toNat a) (wrap64 ((cH (t:=(.int .i64)) j.1 a:Int)+(cH (t:=(.int .i64)) i.1 a:Int)))) else none else none else none
 else
  (lB k j.2.1 i.2.1).bind fun (o:bA) =>
  if (List.length d+List.length ([(b,o,())]))*80<=140737488355328 then bX.l0 k m g f (wrap64 (h+(1:Int))) l i n c (d++([(b,o,())])) else none:=by
 kernel_rfl
theorem xQ (k:Nat) (b:Int) (a:List ae):bf (k+1) b a =
 bf.l0 k k b [] a (List.length a:Int) (0:Int) ((0:Int),[],()) ([]:List ae):=by
 kernel_rfl
theorem bf.aN (k h:Nat) (x0:Int) (c:List (ByteArray×Int)) (b:List ae) (f a:Int) (g:ay) (d:List ae):bf.l0 k (h+1) x0 c b f a g d =
 bif decide (a<f) then
  if 0<=a/\a<(List.length b:Int) then (iH k ((cH (t:=ah) b a:ae).1)).bind fun (e:ByteArray) =>
  bif !(((qE c e).2).1) then
   if (List.length d+List.length ([(cH (t:=ah) b a:ae)]))*80<=140737488355328 then bf.j0 k h x0 (V.lC c e (List.length d:Int)) b f a g (d++([(cH (t:=ah) b a:ae)])) else none
  else
   if 0<=((qE c e).1)/\((qE c e).1)<(List.length d:Int) then (hY k (((cH (t:=ah) d ((qE c e).1):ae).2).1) (((cH (t:=ah) b a:ae).2).1)).bind fun (i:bA) =>
   if 0<=((qE c e).1)/\((qE c e).1)<(List.length d:Int) then bf.j0 k h x0 c b f a g (List.set d (Int.toNat ((qE c e).1)) ((cH (t:=ah) d ((qE c e).1):ae).1,i,((cH (t:=ah) d ((qE c e).1):ae).2).2)) else none else none else none
 else
  bf.l1 k k d (List.length d:Int) (0:Int) g x0 ([]:List ae):=by
 kernel_rfl
theorem bf.eF (k f:Nat) (c:List ae) (e a:Int) (g:ay) (b:Int) (d:List ae):bf.l1 k (f+1) c e a g b d =
 bif decide (a<e) then
  if 0<=a/\a<(List.length c:Int) then (jc k (((cH (t:=ah) c a:ae).2).1)).bind fun (h:Int) =>
  bif h != (0:Int) then
   if (List.length d+List.length ([(cH (t:=ah) c a:ae)]))*80<=140737488355328 then bf.j1 k f c e a g b (d++([(cH (t:=ah) c a:ae)])) else none
  else
   bf.j1 k f c e a g b d else none
 else
  (C2 d).bind fun (i:List ae) =>
  some (b,i,()):=by
 kernel_rfl
theorem GN (k:Nat) (b a:List Int):dX (k+1) b a=P.dX.f k b a:=by
 kernel_rfl
theorem GJ (k:Nat) (b a:List Int):bK (k+1) b a=P.bK.f k b a:=by
 kernel_rfl
theorem qA (k:Nat) (d:Bool) (a c:List Int):eE (k+1) d a c =
 bif (List.length a:Int)==(0:Int) then
  (qy k ).bind fun (f:bA) =>
  some f
 else
  (cw k a c).bind fun (b:List Int) =>
  (bif (List.length b:Int) != (1:Int) then some true else if 0<=(0:Int)/\(0:Int)<(List.length b:Int) then some ((cH (t:=(.int .u32)) b (0:Int):Int) != (1:Int)) else none).bind fun (g:Bool) =>
  bif g then
   (aJ k a b).bind fun (h:List Int×List Int×Unit) =>
   (aJ k c b).bind fun (e:List Int×List Int×Unit) =>
   eE.j0 k d h.1 e.1 (false,[],[],())
  else
   eE.j0 k d a c (false,[],[],()):=by
 kernel_rfl
theorem GQ (k:Nat) (b a:List Int):dM (k+1) b a=P.dM.f k b a:=by
 kernel_rfl
theorem GD (k:Nat) (b a:List Int):dT (k+1) b a=P.dT.f k b a:=by
 kernel_rfl
theorem vR (k:Nat) (a:Int):dB (k+1) a=P.dB.f k a:=by
 kernel_rfl
theorem Gx (k:Nat) (b a:bA):tY (k+1) b a =
 (tX k a).bind fun (d:bA) =>
 (lB k b d).bind fun (c:bA) =>
 some c:=by
 kernel_rfl
theorem Gd (k:Nat) (a:List Int):iH (k+1) a =
 if 0<=(0:Int)/\(0:Int)<=(wrap64 ((4:Int)*(List.length a:Int)))/\1*(Int.toNat (wrap64 ((4:Int)*(List.length a:Int))))<=281474976710656/\(Int.toNat (wrap64 ((4:Int)*(List.length a:Int))))<=maxLen then iH.l0 k k a (List.length a:Int) (0:Int) (List.replicate (Int.toNat (0:Int)) ((0:Int):Int)) else none:=by
 kernel_rfl
theorem iH.aN (k e:Nat) (b:List Int) (c a:Int) (d:List Int):iH.l0 k (e+1) b c a d =
 bif decide (a<c) then
  if 0<=a/\a<(List.length b:Int) then if (List.length d+List.length ([(shr .i64 (cH (t:=(.int .i64)) b a:Int) (24:Int)) % 256,(shr .i64 (cH (t:=(.int .i64)) b a:Int) (16:Int)) % 256,(shr .i64 (cH (t:=(.int .i64)) b a:Int) (8:Int)) % 256,((cH (t:=(.int .i64)) b a:Int)) % 256]))*1<=140737488355328 then iH.l0 k e b c (wrap64 (a+(1:Int))) (d++([(shr .i64 (cH (t:=(.int .i64)) b a:Int) (24:Int)) % 256,(shr .i64 (cH (t:=(.int .i64)) b a:Int) (16:Int)) % 256,(shr .i64 (cH (t:=(.int .i64)) b a:Int) (8:Int)) % 256,((cH (t:=(.int .i64)) b a:Int)) % 256])) else none else none
 else
  some (strOfNums d):=by
 kernel_rfl
theorem zh (k:Nat) (b a:List Int):aJ (k+1) b a=(P.aJ.f k b a).map fun r=>(r.1,r.2,()):=by
 kernel_rfl
theorem Gu (k:Nat) (a:bA):tX (k+1) a =
 if List.length a.2.2.1*4<=140737488355328 then if List.length a.2.1*4<=140737488355328 then some (a.1,a.2.2.1,a.2.1,()) else none else none:=by
 kernel_rfl
end Go.Proofs.YtfbgaddecbiimaaGreatDoor.Q
end
section
namespace Go.Proofs.YtfbgaddecbiimaaGreatDoor.P
open Go.RowKit Go.Proofs.YtfbgaddecbiimaaGreatDoorW.PrintWords Go.Proofs.YtfbgaddecbiimaaGreatDoorW.PrintLast Go.Proofs.YtfbgaddecbiimaaGreatDoorW.PrintMore
theorem bB {α:Type} {c:Prop} [Decidable c] {f g:Nat->Option α} {r:α} (hc:c) (h:Ev f r):Ev (fun k=>if c then f k else g k) r:=by simpa only [Qk hc] using h
theorem eL {α:Type} {c:Prop} [Decidable c] {f g:Nat->Option α} {r:α} (hc:¬ c) (h:Ev g r):Ev (fun k=>if c then f k else g k) r:=by simpa only [Qc hc] using h
theorem kL {α β:Type} {o:Option α} {f:Nat->α->Option β} {a:α} {r:β} (h:o=some a) (k:Ev (fun n=>f n a) r):Ev (fun n=>o.bind (f n)) r:=by subst h;exact k
theorem aV {α:Type} (r:α):Ev (fun _=>some r) r:=⟨0,fun _ _=>rfl⟩
theorem jW {α:Type} {o:Option α} {r:α} (h:o=some r):Ev (fun _=>o) r:=⟨0,fun _ _=>h⟩
theorem cD {x:Int} (a:-9223372036854775808<=x) (b:x<=9223372036854775807):wrap64 x=x:=by unfold wrap64;omega
theorem u64 {x:Int} (a:0<=x) (b:x<18446744073709551616):IntKind.u64.wrap x=x:=by rw [IntKind.wrap_u64];omega
def vl (B:Int):List Int->Int
 | []=>0
 | x :: t=>x+B*vl B t
def Dg (B:Int) (l:List Int):Prop:=∀ x∈l,0<=x/\x<B
def Nm (l:List Int):Prop:=∀ h:l≠[],l.getLast h≠0
def Can (B:Int) (l:List Int) (n:Int):Prop:=Dg B l/\Nm l/\vl B l=n
section
variable {B:Int} {l a b:List Int}
theorem jx (B:Int) (a b:List Int):vl B (a++b)=vl B a+B ^ a.length*vl B b:=by
 induction a with
 | nil=>simp [vl]
 | cons x t ih =>
  simp only [List.cons_append,vl,ih,List.length_cons];grind
theorem lN (l:List Int) (i:Nat) (h:i<l.length):rd l (i:Int)=l[i]:=by simp [rd,h]
theorem dL (B:Int) (l:List Int) (i:Nat) (h:i<l.length):vl B (l.take (i+1))=vl B (l.take i)+rd l (i:Int)*B ^ i:=by
 rw [List.take_succ_eq_append_getElem h,jx,lN l i h,List.length_take,Nat.min_eq_left Q2];simp only [vl];grind
theorem take_set (l:List Int) (i:Nat) (v:Int) (h:i<l.length):(l.set i v).take (i+1)=l.take i++[v]:=by
 rw [V8 (by simpa using h),List.take_set_of_le Q2];simp
theorem iq (B:Int) (l:List Int) (i:Nat) (v:Int) (h:i<l.length):vl B ((l.set i v).take (i+1))=vl B (l.take i)+v*B ^ i:=by
 rw [take_set l i v h,jx,List.length_take,Nat.min_eq_left Q2];simp only [vl];grind
theorem Dg.nil (B:Int):Dg B []:=fun x hx=>by cases hx
theorem Dg.cons {x:Int} (h:Dg B (x :: l)):(0<=x/\x<B)/\Dg B l:=⟨h x Q3,fun y hy=>h y (by simp [hy])⟩
theorem Dg.mk {x:Int} (a:0<=x) (b:x<B) (h:Dg B l):Dg B (x :: l):=by
 intro y hy;rcases Qo.1 hy with rfl | hy
 ·exact ⟨a,b⟩
 exact h y hy
theorem Dg.append (ha:Dg B a) (hb:Dg B b):Dg B (a++b):=by
 intro y hy;rcases QT.1 hy with hy | hy
 ·exact ha y hy
 exact hb y hy
theorem Dg.take (h:Dg B l) (i:Nat):Dg B (l.take i):=fun x hx=>h x (VO hx)
theorem Dg.drop (h:Dg B l) (i:Nat):Dg B (l.drop i):=fun x hx=>h x (List.mem_of_mem_drop hx)
theorem Dg.set (h:Dg B l) (i:Nat) {v:Int} (a:0<=v) (b:v<B):Dg B (l.set i v):=by
 intro x hx;rcases Wl hx with hx | rfl
 ·exact h x hx
 exact ⟨a,b⟩
theorem Dg.rep (hB:0<B) (n:Nat):Dg B (List.replicate n 0):=by
 intro x hx;have:=(XW.1 hx).2;omega
theorem Dg.take_set {i:Nat} {v:Int} (hi:i<l.length) (h':Dg B (l.take i)) (a:0<=v) (b:v<B):Dg B ((l.set i v).take (i+1)):=by
 rw [P.take_set l i v hi];exact h'.append (Dg.mk a b (Dg.nil B))
theorem dQ (h:Dg B l) (i:Int) (a:0<=i) (b:i<l.length):0<=rd l i/\rd l i<B:=by
 obtain ⟨n,rfl⟩:=Wx a;rw [lN l n Q2];exact h _ (Qi _)
theorem jH (hB:0<B) (n:Nat):0<B ^ n:=Vu hB
theorem bO (hB:0<B):∀ {l:List Int},Dg B l->0<=vl B l
 | [],_=>by simp [vl]
 | x :: t,h=>by
  have h1:=h.cons;have h2:=bO hB h1.2;have h3:0<=B*vl B t:=QX Q2 h2;simp only [vl];omega
theorem gC (hB:0<B):∀ {l:List Int},Dg B l->vl B l<B ^ l.length
 | [],_=>by simp [vl]
 | x :: t,h=>by
  have h1:=h.cons;have h2:=gC hB h1.2;have h3:B*(vl B t+1)<=B*B ^ t.length:=Int.mul_le_mul_of_nonneg_left Q2 Q2;simp only [vl,List.length_cons];rw [Int.mul_add] at h3;have h4:B ^ (t.length+1)=B*B ^ t.length:=by grind
  omega
theorem Nm.nil:Nm []:=fun h=>absurd rfl h
theorem Nm.tail {x:Int} (h:Nm (x :: l)):Nm l:=by
 intro hl;have:=h Q3
 rwa [List.getLast_cons hl] at this
theorem Ay (hB:0<B):∀ {l:List Int},Dg B l->Nm l->l≠[]->0<vl B l
 | [],_,_,h=>absurd rfl h
 | [x],hd,hn,_=>by
  have h1:=hd.cons;have h2:=hn Q3;simp at h2;simp [vl];omega
 | x :: y :: t,hd,hn,_=>by
  have h1:=hd.cons;have h2:=Ay hB h1.2 hn.tail Q3;have h3:0<B*vl B (y :: t):=WX hB h2;rw [vl];omega
theorem vl_ge (hB:0<B):∀ {l:List Int},Dg B l->Nm l->l≠[]->B ^ (l.length-1)<=vl B l
 | [],_,_,h=>absurd rfl h
 | [x],hd,hn,_=>by
  have h1:=Ay hB hd hn Q3;simp;omega
 | x :: y :: t,hd,hn,_=>by
  have h1:=hd.cons;have h2:=vl_ge hB h1.2 hn.tail Q3;have h3:B*B ^ ((y :: t).length-1)<=B*vl B (y :: t):=Ql h2 Q2;rw [vl];have h4:B ^ ((x :: y :: t).length-1)=B*B ^ ((y :: t).length-1):=by
   simp only [List.length_cons,Nat.add_sub_cancel];grind
  omega
theorem bE (hB:0<B):∀ {a b:List Int} {n:Int},Can B a n->Can B b n->a=b
 | [],[],_,_,_=>rfl
 | [],y :: t,n,h,h'=>by
  have h1:=Ay hB h'.1 h'.2.1 Q3;have h2:=h.2.2;have h3:=h'.2.2;simp only [vl] at h2;omega
 | x :: t,[],n,h,h'=>by
  have h1:=Ay hB h.1 h.2.1 Q3;have h2:=h.2.2;have h3:=h'.2.2;simp only [vl] at h3;omega
 | x :: s,y :: t,n,h,h'=>by
  have h1:=h.1.cons;have h2:=h'.1.cons;have h3:=h.2.2;have h4:=h'.2.2;simp only [vl] at h3 h4;have e1:x=n % B:=by rw [<- h3,Wf,VF h1.1.1 h1.1.2]
  have e2:y=n % B:=by rw [<- h4,Wf,VF h2.1.1 h2.1.2]
  have e3:x=y:=Q2;subst e3;have e4:vl B s=vl B t:=Int.eq_of_mul_eq_mul_left (a:=B) Q2 Q2;rw [bE hB (n:=vl B t) ⟨h1.2,h.2.1.tail,e4⟩ ⟨h2.2,h'.2.1.tail,rfl⟩]
theorem Can.fz (hB:0<B) {n:Int} (h:Can B l n):0<=n:=by rw [<- h.2.2];exact bO hB h.1
theorem Can.zero (B:Int):Can B [] 0:=⟨Dg.nil B,Nm.nil,rfl⟩
theorem Can.Bw (hB:0<B) {n:Int} (h:Can B l n):l=[]↔n=0:=by
 constructor
 ·rintro rfl;exact h.2.2.symm
 rintro rfl;exact bE hB h (Can.zero B)
theorem Can.jP (hB:0<B) {n:Int} (h:Can B l n):l.length=0↔n=0:=by rw [<- h.Bw hB];exact Wb
theorem Can.lt (hB:0<B) {n:Int} (h:Can B l n):n<B ^ l.length:=by rw [<- h.2.2];exact gC hB h.1
theorem Can.ge (hB:0<B) {n:Int} (h:Can B l n) (a:l.length≠0):B ^ (l.length-1)<=n:=by
 rw [<- h.2.2];exact vl_ge hB h.1 h.2.1 (fun e=>a (by rw [e];rfl))
theorem fy {B:Int} (hB:1<=B) {i j:Nat} (h:i<=j):B ^ i<=B ^ j:=by
 obtain ⟨d,rfl⟩:=Nat.exists_eq_add_of_le h;rw [Va];have h1:1<=B ^ d:=Vu Q2;have h2:B ^ i*1<=B ^ i*B ^ d:=Ql h1 (Vz (Vu Q2));omega
theorem Can.u5 (hB:1<B) {n m:Int} (h:Can B a n) (h':Can B b m) (hl:a.length<b.length):n<m:=by
 have h1:=h.lt Q2;have h2:=h'.ge Q2 Q2;have h3:=fy (B:=B) Q2 (show a.length<=b.length-1 by omega);omega
theorem Can.gy (hB:1<B) {n:Int} (h:Can B l n) {k:Nat} (hn:n<B ^ k):l.length<=k:=by
 rcases We k l.length with hk | hk
 ·have h1:=h.ge Q2 Q2;have h2:=fy (B:=B) Q2 (show k<=l.length-1 by omega);omega
 exact hk
theorem Can.len_ge (hB:1<B) {n:Int} (h:Can B l n) {k:Nat} (hn:B ^ k<=n):k<l.length:=by
 rcases We k l.length with hk | hk
 ·exact hk
 have h1:=h.lt Q2;have h2:=fy (B:=B) Q2 hk;omega
theorem iE (B:Int) (l:List Int) (i:Nat) (h:i<=l.length):vl B l=vl B (l.take i)+B ^ i*vl B (l.drop i):=by
 conv=>lhs;rw [<- VY i l]
 rw [jx,Qd,QO h]
theorem Jo (l:List Int) (i j v:Int) (h:i.toNat≠j.toNat):rd (l.set i.toNat v) j=rd l j:=by
 simp only [rd,Q6];rw [XG h]
theorem zL (l:List Int) (i v:Int) (h:i.toNat<l.length):rd (l.set i.toNat v) i=v:=by
 simp only [rd,Q6];rw [Xs h];rfl
theorem ND (l:List Int) (j:Int) (i:Nat) (h:j.toNat<i):rd (l.take i) j=rd l j:=by
 simp only [rd,Q6];rw [Vx h]
theorem yx (l:List Int) (h:l≠[]):l.getLast h=rd l ((l.length:Int)-1):=by
 have hp:0<l.length:=Wj.2 h;rw [List.getLast_eq_getElem];have e:(l.length:Int)-1=((l.length-1:Nat):Int):=Q2;rw [e,lN _ _ Q2]
theorem qD (h:0<l.length->rd l ((l.length:Int)-1)≠0):Nm l:=by
 intro hl;rw [yx l hl];exact h (Wj.2 hl)
theorem Nm.rd (h:Nm l) (hp:0<l.length):rd l ((l.length:Int)-1)≠0:=by
 have hl:l≠[]:=List.ne_nil_of_length_pos hp;rw [<- yx l hl];exact h hl
theorem Ax (B:Int) (n:Nat):vl B (List.replicate n 0)=0:=by
 induction n with
 | zero=>rfl
 | succ n ih=>simp [List.replicate_succ,vl,ih]
theorem Hb (hB:1<B) (n:Nat):∃ l,Can B l (n:Int):=by
 induction n using Nat.strongRecOn with
 | _ n ih =>
  by_cases h0:n=0
  ·subst h0;exact ⟨[],Can.zero B⟩
  have b:((n:Int) / B).toNat<n:=by
   have h1:(n:Int) / B<n:=Int.ediv_lt_self_of_pos_of_ne_one Q2 Q2;have h2:0<=(n:Int) / B:=VA Q2 Q2;omega
  obtain ⟨l,h1,h2,h3⟩:=ih _ b;have h4:0<=(n:Int) / B:=VA Q2 Q2;have hm:=V4 (n:Int) (show B≠0 by omega);have c:=QU (n:Int) (show 0<B by omega);have h5:vl B ((n:Int) % B :: l)=n:=by
   rw [vl,h3,WC h4];exact Xa _ _
  refine ⟨(n:Int) % B :: l,Dg.mk hm c h1,?_,h5⟩;intro hne;rcases List.eq_nil_or_concat l with hl | ⟨_,_,hl⟩
  ·subst hl;simp only [vl,W6,Ve] at h5;simp only [List.getLast_singleton];omega
  have a:l≠[]:=by rw [hl];simp
  rw [List.getLast_cons a];exact h2 a
theorem Mz (hB:1<B) {n:Int} (h:0<=n):∃ l,Can B l n:=by
 obtain ⟨k,rfl⟩:=Wx h;exact Hb hB k
end
abbrev WW:Int:=4294967296
theorem aH:(0:Int)<WW:=by decide
theorem bC:(1:Int)<WW:=by decide
theorem cS:WW=4294967296:=rfl
theorem ON {vo va vb P c c' v x y W:Int} (h:vo+c*P=va+vb) (a:v+W*c'=c+x+y):vo+v*P+c'*(W*P)=(va+x*P)+(vb+y*P):=by grind
theorem MT {vo va vb P c c' v x W:Int} (h:vo+c*P=va+vb) (a:v+W*c'=c+x):vo+v*P+c'*(W*P)=(va+x*P)+vb:=by grind
theorem MP {vo c P n W:Int} (h:vo+c*P=n):vo+P*(c+W*0)=n:=by grind
theorem gi {i:Nat} (h:i<4611686018427387904):wrap64 ((i:Int)+1)=((i+1:Nat):Int):=by rw [cD Q2 Q2];omega
theorem D5 (n:Nat):∀ (l:List Int),l.length=n->n<4611686018427387904->Dg WW l->∃ r,Ev (fun k=>cG.l0 k l) r/\Can WW r (vl WW l)/\r.length<=l.length:=by
 induction n with
 | zero =>
  intro l hl _ hd;have e:l=[]:=QY hl;subst e;refine ⟨[],?_,Can.zero _,Qn _⟩;refine Ev.step (fun k=>by rw [cG.l0]) ?_;exact eL Q3 (aV _)
 | succ n ih =>
  intro l hl hn hd;have ew:wrap64 ((l.length:Int)-1)=(n:Int):=by rw [cD Q2 Q2];omega
  by_cases hz:rd l n=0
  ·obtain ⟨r,h1,h2,h3⟩:=ih (l.take n) (by rw [Qd];omega) Q2 (hd.take n);refine ⟨r,?_,?_,?_⟩
   ·refine Ev.step (fun k=>by rw [cG.l0]) ?_;rw [ew];refine bB Q2 (bB Q2 (bB Q2 (bB hz (bB Q2 ?_))));simpa using h1
   ·have h4:=dL WW l n Q2;rw [hz,show n+1=l.length by omega,Qw] at h4;rw [h4];simpa using h2
   rw [Qd] at h3;omega
  refine ⟨l,?_,⟨hd,qD (fun _=>?_),rfl⟩,Qn _⟩
  ·refine Ev.step (fun k=>by rw [cG.l0]) ?_;rw [ew];exact bB Q2 (bB Q2 (bB Q2 (eL hz (aV _))))
  rw [hl];have e:(((n+1:Nat):Int)-1)=(n:Int):=Q2;rw [e];exact hz
theorem fV {l:List Int} (hn:l.length<4611686018427387904) (hd:Dg WW l):∃ r,Ev (fun k=>cG.f k l) r/\Can WW r (vl WW l)/\r.length<=l.length:=by
 obtain ⟨r,h1,h2⟩:=D5 l.length l rfl hn hd;exact ⟨r,Ev.congr (fun k=>by rw [cG.f]) h1,h2⟩
theorem gD {a:Int} (b:0<=a) (c:a<18446744073709551616):∃ r,Ev (fun k=>dB.f k a) r/\Can WW r a:=by
 have hW:=cS;have hd:Dg WW [a % 4294967296,(a / 4294967296) % 4294967296]:=Dg.mk Q2 Q2 (Dg.mk Q2 Q2 (Dg.nil _));obtain ⟨r,h2,h3,_⟩:=fV Q3 hd;refine ⟨r,?_,?_⟩
 ·unfold dB.f;exact Ev.bind h2 (aV _)
 have e:vl WW [a % 4294967296,(a / 4294967296) % 4294967296]=a:=by
  simp only [vl,W6,Ve,cS];omega
 rw [<- e];exact h3
theorem GM {a b:List Int} (hl:a.length=b.length) (hn:a.length<4611686018427387904) (ha:Dg WW a) (hb:Dg WW b) (d:Nat) :
 ∀ (i:Nat),i=d->i<=a.length->vl WW (a.drop i)=vl WW (b.drop i)->∃ r,Ev (fun k=>dX.l0 k a b ((i:Int)-1)) r/\(r = -1/\vl WW a<vl WW b∨r=0/\vl WW a=vl WW b∨r=1/\vl WW b<vl WW a):=by
 induction d with
 | zero =>
  rintro i rfl h1 h2;refine ⟨0,?_,.inr (.inl ⟨rfl,by simpa using h2⟩)⟩;refine Ev.step (fun k=>by rw [dX.l0]) ?_;exact eL Q2 (aV _)
 | succ d ih =>
  rintro i rfl h1 h2;have e1:(((d+1:Nat):Int)-1)=(d:Int):=Q2;rw [e1];have h3:=iE WW a d Q2;have h4:=iE WW b d Q2;have ea:a.drop d=rd a d :: a.drop (d+1):=by rw [lN a d Q2];exact (QD Q2)
  have eb:b.drop d=rd b d :: b.drop (d+1):=by rw [lN b d Q2];exact (QD Q2)
  have ta:=gC aH (ha.take d);have tb:=gC aH (hb.take d);have e:=bO aH (ha.take d);have c:=bO aH (hb.take d);rw [Qd,QO Q2] at ta tb
  by_cases he:rd a d=rd b d
  ·obtain ⟨r,h5,h6⟩:=ih d rfl Q2 (by rw [ea,eb,vl,vl,he,h2]);refine ⟨r,?_,h6⟩;refine Ev.step (fun k=>by rw [dX.l0]) ?_;rw [cD Q2 Q2];exact bB Q2 (bB Q2 (bB Q2 (bB Q2 (bB he h5))))
  have h7:vl WW (a.drop d)=rd a d+WW*vl WW (a.drop (d+1)):=by rw [ea,vl]
  have h8:vl WW (b.drop d)=rd b d+WW*vl WW (b.drop (d+1)):=by rw [eb,vl]
  have hp:0<WW ^ d:=Vu aH
  by_cases hlt:rd a d<rd b d
  ·refine ⟨-1,?_,.inl ⟨rfl,?_⟩⟩
   ·refine Ev.step (fun k=>by rw [dX.l0]) ?_;exact bB Q2 (bB Q2 (bB Q2 (bB Q2 (eL he (bB hlt (aV _))))))
   have h9:WW ^ d*(vl WW (a.drop d)+1)<=WW ^ d*vl WW (b.drop d):=Ql (by rw [h7,h8,h2];omega) Q2;rw [WY] at h9;omega
  refine ⟨1,?_,.inr (.inr ⟨rfl,?_⟩)⟩
  ·refine Ev.step (fun k=>by rw [dX.l0]) ?_;exact bB Q2 (bB Q2 (bB Q2 (bB Q2 (eL he (eL hlt (aV _))))))
  have h9:WW ^ d*(vl WW (b.drop d)+1)<=WW ^ d*vl WW (a.drop d):=Ql (by rw [h7,h8,h2];omega) Q2;rw [WY] at h9;omega
def dK (n m:Int):Int:=if n<m then -1 else if n=m then 0 else 1
theorem sU {a b:List Int} {n m:Int} (hn:a.length<4611686018427387904) (ha:Can WW a n) (hb:Can WW b m):Ev (fun k=>dX.f k a b) (dK n m):=by
 unfold dX.f
 by_cases hl:a.length=b.length
 ·obtain ⟨r,h1,h2⟩:=GM hl hn ha.1 hb.1 a.length a.length rfl (Qn _) (by rw [V2,hl,V2]);have e:r=dK n m:=by
   rw [ha.2.2,hb.2.2] at h2;unfold dK;rcases h2 with ⟨rfl,h⟩ | ⟨rfl,h⟩ | ⟨rfl,h⟩
   ·rw [Qk h]
   ·rw [Qc Q2,Qk h]
   rw [Qc Q2,Qc Q2]
  rw [<- e];refine bB Q2 ?_;rw [cD Q2 Q2];exact h1
 refine eL Q2 ?_;unfold dK
 by_cases h:a.length<b.length
 ·have:=Can.u5 bC ha hb h;rw [Qk this];exact bB Q2 (aV _)
 have:=Can.u5 bC hb ha Q2;rw [Qc (show ¬ n<m by omega),Qc (show ¬ n=m by omega)];exact eL Q2 (aV _)
theorem GP {a b:List Int} (hba:b.length<=a.length) (hn:a.length<1099511627776) (ha:Dg WW a) (hb:Dg WW b) (d:Nat) :
 ∀ (i:Nat) (o:List Int) (c:Int),a.length-i=d->i<=a.length->o.length=a.length+1->Dg WW (o.take i)->0<=c->c<=1->vl WW (o.take i)+c*WW ^ i=vl WW (a.take i)+vl WW (b.take i) ->
 ∃ r,Ev (fun k=>dM.l0 k a b o c a (a.length:Int) (i:Int)) r/\Can WW r (vl WW a+vl WW b)/\r.length<=a.length+1:=by
 induction d with
 | zero =>
  intro i o c h1 h2 h3 h4 h5 h6 h7;have e:i=a.length:=Q2;subst e;have f:o.set a.length c=o.take a.length++[c]:=by
   have:=P.take_set o a.length c Q2;rw [show a.length+1=(o.set a.length c).length by simp [h3],Qw] at this;exact this
  have hd:Dg WW (o.set a.length c):=by rw [f];exact h4.append (Dg.mk h5 (by have:=bC;omega) (Dg.nil _))
  obtain ⟨r,h8,h9,g⟩:=fV (l:=o.set a.length c) (by simp;omega) hd;have hv:vl WW (o.set a.length c)=vl WW a+vl WW b:=by
   rw [f,jx,Qd,QO Q2];rw [Qw,Qp hba] at h7;simp only [vl];exact MP h7
  refine ⟨r,?_,by rw [<- hv];exact h9,by simp at g;omega⟩;refine Ev.step (fun k=>by rw [dM.l0]) ?_;refine eL Q2 (bB Q2 (bB Q2 ?_));have ec:c % 4294967296=c:=Q2;rw [ec,show ((a.length:Int)).toNat=a.length by omega];exact Ev.bind h8 (aV _)
 | succ d ih =>
  intro i o c h1 h2 h3 h4 h5 h6 h7;have hi:i<a.length:=Q2;have hx:=dQ ha (i:Int) Q2 Q2;have ti:=dL WW a i hi;have ep:WW ^ (i+1)=WW*WW ^ i:=by rw [QM,QH]
  have hW:=cS
  by_cases hib:i<b.length
  ·have hy:=dQ hb (i:Int) Q2 Q2;have tb:=dL WW b i hib;have ev:(c+rd a i+rd b i) % 4294967296+WW*((c+rd a i+rd b i) / 4294967296)=c+rd a i+rd b i:=by rw [cS];omega
   obtain ⟨r,h8,h9⟩:=ih (i+1) (o.set i ((c+rd a i+rd b i) % 4294967296)) ((c+rd a i+rd b i) / 4294967296) Q2 Q2 (by simpa using h3)
    (Dg.take_set Q2 h4 Q2 Q2) Q2 Q2
    (by rw [iq _ _ _ _ Q2,ti,tb,ep];exact ON h7 ev)
   refine ⟨r,?_,h9⟩;refine Ev.step (fun k=>by rw [dM.l0]) ?_;rw [u64 (x:=rd a i) Q2 Q2,u64 (x:=rd b i) Q2 Q2,u64 (x:=c+rd a i) Q2 Q2,u64 (x:=c+rd a i+rd b i) Q2 Q2,gi Q2];exact bB Q2 (bB Q2 (bB Q2 (bB Q2 (bB Q2 h8))))
  have tb:vl WW (b.take (i+1))=vl WW (b.take i):=by rw [Qp Q2,Qp Q2]
  have ev:(c+rd a i) % 4294967296+WW*((c+rd a i) / 4294967296)=c+rd a i:=by rw [cS];omega
  obtain ⟨r,h8,h9⟩:=ih (i+1) (o.set i ((c+rd a i) % 4294967296)) ((c+rd a i) / 4294967296) Q2 Q2 (by simpa using h3)
   (Dg.take_set Q2 h4 Q2 Q2) Q2 Q2
   (by rw [iq _ _ _ _ Q2,ti,tb,ep];exact MT h7 ev)
  refine ⟨r,?_,h9⟩;refine Ev.step (fun k=>by rw [dM.l0]) ?_;rw [u64 (x:=rd a i) Q2 Q2,u64 (x:=c+rd a i) Q2 Q2,gi Q2];exact bB Q2 (bB Q2 (bB Q2 (eL Q2 (bB Q2 h8))))
theorem Ab {a b:List Int} (hba:b.length<=a.length) (hn:a.length<1099511627776) (ha:Dg WW a) (hb:Dg WW b):∃ r,Ev (fun k=>dM.j0 k a b) r/\Can WW r (vl WW a+vl WW b)/\r.length<=a.length+1:=by
 obtain ⟨r,h1,h2⟩:=GP hba hn ha hb a.length 0 (List.replicate (a.length+1) 0) 0 Q2 Q2 Q3 (by simp;exact Dg.nil _) Q2 Q2 (by simp [vl]);refine ⟨r,?_,h2⟩;refine Ev.step (fun k=>by rw [dM.j0]) ?_;have e:wrap64 ((a.length:Int)+1)=((a.length+1:Nat):Int):=by rw [cD Q2 Q2];omega
 rw [e,Int.toNat_natCast];exact bB Q2 (bB Q2 h1)
theorem GO {a b:List Int} {n m:Int} (hla:a.length<1099511627776) (hlb:b.length<1099511627776) (ha:Can WW a n) (hb:Can WW b m):∃ r,Ev (fun k=>dM.f k a b) r/\Can WW r (n+m)/\r.length<=max a.length b.length+1:=by
 unfold dM.f;rw [<- ha.2.2,<- hb.2.2]
 by_cases h:a.length<b.length
 ·obtain ⟨r,h1,h2,h3⟩:=Ab (a:=b) (b:=a) Q2 hlb hb.1 ha.1;exact ⟨r,bB Q2 h1,by rw [Xv];exact h2,Q2⟩
 obtain ⟨r,h1,h2,h3⟩:=Ab (a:=a) (b:=b) Q2 hla ha.1 hb.1;exact ⟨r,eL Q2 h1,h2,Q2⟩
theorem Ce {vo va vb P c c' v x y W:Int} (h:vo-c*P=va-vb) (a:v-W*c'=x-c-y):vo+v*P-c'*(W*P)=(va+x*P)-(vb+y*P):=by grind
theorem yT {vo va vb P c c' v x W:Int} (h:vo-c*P=va-vb) (a:v-W*c'=x-c):vo+v*P-c'*(W*P)=(va+x*P)-vb:=by grind
theorem borrow {x c y:Int} (hx:0<=x/\x<4294967296) (hc:0<=c/\c<=1) (hy:0<=y/\y<4294967296) :
 ∃ v c',IntKind.u64.wrap (IntKind.u64.wrap (IntKind.u64.wrap x-c)-y) % 4294967296=v/\IntKind.u64.wrap (IntKind.u64.wrap (IntKind.u64.wrap x-c)-y) / 9223372036854775808=c'/\v-4294967296*c'=x-c-y/\0<=v/\v<4294967296/\0<=c'/\c'<=1:=by
 rw [IntKind.wrap_u64,IntKind.wrap_u64,IntKind.wrap_u64];refine ⟨_,_,rfl,rfl,?_,?_,?_,?_,?_⟩<;>omega
theorem OE {x c:Int} (hx:0<=x/\x<4294967296) (hc:0<=c/\c<=1) :
 ∃ v c',IntKind.u64.wrap (IntKind.u64.wrap x-c) % 4294967296=v/\IntKind.u64.wrap (IntKind.u64.wrap x-c) / 9223372036854775808=c'/\v-4294967296*c'=x-c/\0<=v/\v<4294967296/\0<=c'/\c'<=1:=by
 rw [IntKind.wrap_u64,IntKind.wrap_u64];refine ⟨_,_,rfl,rfl,?_,?_,?_,?_,?_⟩<;>omega
theorem GC {a b:List Int} (hba:b.length<=a.length) (hle:vl WW b<=vl WW a) (hn:a.length<1099511627776) (ha:Dg WW a) (hb:Dg WW b) (d:Nat) :
 ∀ (i:Nat) (o:List Int) (c:Int),a.length-i=d->i<=a.length->o.length=a.length->Dg WW (o.take i)->0<=c->c<=1->vl WW (o.take i)-c*WW ^ i=vl WW (a.take i)-vl WW (b.take i) ->
 ∃ r,Ev (fun k=>dT.l0 k b o c a (a.length:Int) (i:Int)) r/\Can WW r (vl WW a-vl WW b)/\r.length<=a.length:=by
 induction d with
 | zero =>
  intro i o c h1 h2 h3 h4 h5 h6 h7;have e:i=a.length:=Q2;subst e;rw [Qw,Qp hba,<- h3,Qw] at h7;rw [<- h3,Qw] at h4;have g:=gC aH h4;have hc:c=0:=by
   rcases XX h6 with h | h
   ·omega
   subst h;rw [VP] at h7;omega
  subst hc;rw [VL,YD] at h7;obtain ⟨r,h8,h9,f⟩:=fV (l:=o) Q2 h4;refine ⟨r,?_,by rw [<- h7];exact h9,Q2⟩;refine Ev.step (fun k=>by rw [dT.l0]) ?_;refine eL Q2 ?_;exact Ev.bind h8 (aV _)
 | succ d ih =>
  intro i o c h1 h2 h3 h4 h5 h6 h7;have hi:i<a.length:=Q2;have hx:=dQ ha (i:Int) Q2 Q2;have ti:=dL WW a i hi;have ep:WW ^ (i+1)=WW*WW ^ i:=by rw [QM,QH]
  by_cases hib:i<b.length
  ·have hy:=dQ hb (i:Int) Q2 Q2;have tb:=dL WW b i hib;obtain ⟨v,c',e1,e2,e3,v0,v1,c0,c1⟩:=borrow hx ⟨h5,h6⟩ hy;obtain ⟨r,h8,h9⟩:=ih (i+1) (o.set i v) c' Q2 Q2 (by simpa using h3) (Dg.take_set Q2 h4 v0 v1) c0 c1
    (by rw [iq _ _ _ _ Q2,ti,tb,ep];exact Ce h7 e3)
   refine ⟨r,?_,h9⟩;refine Ev.step (fun k=>by rw [dT.l0]) ?_;rw [u64 (x:=rd b i) hy.1 (by have:=hy.2;have:=cS;omega),e1,e2,gi Q2];exact bB Q2 (bB Q2 (bB Q2 (bB Q2 (bB Q2 h8))))
  have tb:vl WW (b.take (i+1))=vl WW (b.take i):=by rw [Qp Q2,Qp Q2]
  obtain ⟨v,c',e1,e2,e3,v0,v1,c0,c1⟩:=OE hx ⟨h5,h6⟩;obtain ⟨r,h8,h9⟩:=ih (i+1) (o.set i v) c' Q2 Q2 (by simpa using h3) (Dg.take_set Q2 h4 v0 v1) c0 c1
   (by rw [iq _ _ _ _ Q2,ti,tb,ep];exact yT h7 e3)
  refine ⟨r,?_,h9⟩;refine Ev.step (fun k=>by rw [dT.l0]) ?_;rw [e1,e2,gi Q2];exact bB Q2 (bB Q2 (bB Q2 (eL Q2 (bB Q2 h8))))
theorem lZ {a b:List Int} {n m:Int} (ha:Can WW a n) (hb:Can WW b m) (h:m<=n):b.length<=a.length:=by
 rcases We a.length b.length with hl | hl
 ·have:=Can.u5 bC ha hb hl;omega
 exact hl
theorem sS {a b:List Int} {n m:Int} (hn:a.length<1099511627776) (ha:Can WW a n) (hb:Can WW b m) (hle:m<=n):∃ r,Ev (fun k=>dT.f k a b) r/\Can WW r (n-m)/\r.length<=a.length:=by
 have c:=lZ ha hb hle;rw [<- ha.2.2,<- hb.2.2] at *
 obtain ⟨r,h1,h2⟩:=GC c hle hn ha.1 hb.1 a.length 0 (List.replicate a.length 0) 0 Q2 Q2 Q3 (by simp;exact Dg.nil _) Q2 Q2 (by simp [vl]);refine ⟨r,?_,h2⟩;unfold dT.f;rw [Int.toNat_natCast];exact bB Q2 (bB Q2 h1)
theorem wX (B:Int) (l:List Int) (p q:Nat) (v:Int) (h:p<q) (hq:q<=l.length):vl B ((l.set p v).take q)=vl B (l.take q)+(v-rd l (p:Int))*B ^ p:=by
 have h1:=iE B ((l.set p v).take q) (p+1) (by simp;omega);have h2:=iE B (l.take q) (p+1) (by simp;omega);have e1:((l.set p v).take q).take (p+1)=(l.set p v).take (p+1):=by rw [W3,QO Q2]
 have e2:(l.take q).take (p+1)=l.take (p+1):=by rw [W3,QO Q2]
 have e3:((l.set p v).take q).drop (p+1)=(l.take q).drop (p+1):=by
  rw [VM,VM,List.drop_set_of_lt Q2]
 rw [e1,e3,iq _ _ _ _ Q2] at h1;rw [e2,dL _ _ _ Q2] at h2;rw [h1,h2];grind
theorem OL {T va vb x y sM P c c' v W xb Pi Pj:Int} (h:T+c*P=va*vb+x*Pi*xb) (a:v+W*c'=c+(x*y+sM)) (hP:P=Pi*Pj):(T+(v-sM)*P)+c'*(W*P)=va*vb+x*Pi*(xb+y*Pj):=by grind
theorem yb {x y:Int} (hx:0<=x/\x<4294967296) (hy:0<=y/\y<4294967296):0<=x*y/\x*y<=18446744065119617025:=by
 have h1:0<=x*y:=QX hx.1 hy.1;have h2:x*y<=4294967295*4294967295:=VI Q2 Q2 hy.1 Q2;omega
theorem mulc {x y sM c:Int} (hx:0<=x/\x<4294967296) (hy:0<=y/\y<4294967296) (ho:0<=sM/\sM<4294967296) (hc:0<=c/\c<4294967296) :
 ∃ v c',IntKind.u64.wrap (c+IntKind.u64.wrap (IntKind.u64.wrap (IntKind.u64.wrap x*IntKind.u64.wrap y)+IntKind.u64.wrap sM)) % 4294967296=v/\IntKind.u64.wrap (c+IntKind.u64.wrap (IntKind.u64.wrap (IntKind.u64.wrap x*IntKind.u64.wrap y)+IntKind.u64.wrap sM)) / 4294967296=c'/\v+4294967296*c'=c+(x*y+sM)/\0<=v/\v<4294967296/\0<=c'/\c'<4294967296:=by
 have hb:=yb hx hy;rw [u64 (x:=x) Q2 Q2,u64 (x:=y) Q2 Q2,u64 (x:=sM) Q2 Q2,u64 (x:=x*y) Q2 Q2,u64 (x:=x*y+sM) Q2 Q2,u64 (x:=c+(x*y+sM)) Q2 Q2];refine ⟨_,_,rfl,rfl,?_,?_,?_,?_,?_⟩<;>omega
theorem E4 {T c P va vb x Pi:Int} (h:T+c*P=va*vb+x*Pi*vb):T+c*P=(va+x*Pi)*vb:=by rw [h];grind
theorem GI {a b:List Int} (hn:a.length+b.length<1099511627776) (ha:Dg WW a) (hb:Dg WW b) (i:Nat) (hi:i<a.length) (R:List Int)
 (hout:∀ o:List Int,o.length=a.length+b.length->Dg WW o->vl WW (o.take (i+1+b.length))=vl WW (a.take (i+1))*vl WW b->Ev (fun k=>bK.l0 k b o a (a.length:Int) ((i+1:Nat):Int)) R) (d:Nat) :
 ∀ (j:Nat) (o:List Int) (c:Int),b.length-j=d->j<=b.length->o.length=a.length+b.length->Dg WW o->0<=c->c<4294967296 ->
 vl WW (o.take (i+b.length))+c*WW ^ (i+j)=vl WW (a.take i)*vl WW b+rd a i*WW ^ i*vl WW (b.take j) ->
 Ev (fun k=>bK.l1 k b o (i:Int) (rd a i) c a (a.length:Int) (i:Int) b (b.length:Int) (j:Int)) R:=by
 induction d with
 | zero =>
  intro j o c h1 h2 h3 h4 h5 h6 h7;have e:j=b.length:=Q2;subst e;rw [Qw] at h7;have ei:((i:Int)+(b.length:Int))=((i+b.length:Nat):Int):=Q2;refine Ev.step (fun k=>by rw [bK.l1]) ?_;rw [ei,cD (x:=((i+b.length:Nat):Int)) Q2 Q2,Int.toNat_natCast,gi (i:=i) Q2,VF h5 h6];refine eL Q2 (bB Q2 (bB Q2 ?_));refine hout _ (by simpa using h3) (h4.set _ h5 (by rw [cS];exact h6)) ?_;rw [show i+1+b.length=i+b.length+1 by omega,iq _ _ _ _ Q2,dL WW a i hi];exact E4 h7
 | succ d ih =>
  intro j o c h1 h2 h3 h4 h5 h6 h7;have hx:=dQ ha (i:Int) Q2 Q2;have hy:=dQ hb (j:Int) Q2 Q2;have ho:=dQ h4 ((i+j:Nat):Int) Q2 Q2;rw [cS] at hx hy ho;obtain ⟨v,c',e1,e2,e3,v0,v1,c0,c1⟩:=mulc hx hy ho ⟨h5,h6⟩;have h8:=ih (j+1) (o.set (i+j) v) c' Q2 Q2 (by simpa using h3) (h4.set _ v0 (by rw [cS];exact v1)) c0 c1
   (by
    rw [wX _ _ _ _ _ Q2 Q2,dL WW b j Q2,show i+(j+1)=i+j+1 by omega,QM,QH (WW ^ (i+j)) WW];exact OL h7 e3 (Va _ _ _))
  have ei:((i:Int)+(j:Int))=((i+j:Nat):Int):=Q2;refine Ev.step (fun k=>by rw [bK.l1]) ?_;rw [ei,cD (x:=((i+j:Nat):Int)) Q2 Q2,e1,e2,gi Q2,Int.toNat_natCast];exact bB Q2 (bB Q2 (bB Q2 (bB Q2 (bB Q2 h8))))
theorem Bx {n m A C:Int} (b:n<A) (d:m<C) (a:0<=n) (c:0<=m):n*m<A*C:=by
 have h5:n*m<=n*C:=Ql Q2 a;have h6:n*C<A*C:=WE b Q2;omega
theorem D6 {a b:List Int} (hn:a.length+b.length<1099511627776) (ha:Dg WW a) (hb:Dg WW b):∃ R,Can WW R (vl WW a*vl WW b)/\R.length<=a.length+b.length/\∀ (d i:Nat) (o:List Int),a.length-i=d->i<=a.length->o.length=a.length+b.length->Dg WW o->vl WW (o.take (i+b.length))=vl WW (a.take i)*vl WW b ->
 Ev (fun k=>bK.l0 k b o a (a.length:Int) (i:Int)) R:=by
 have f:∀ o:List Int,o.length=a.length+b.length->Dg WW o->vl WW (o.take (a.length+b.length))=vl WW (a.take a.length)*vl WW b->∃ r,Ev (fun k=>bK.l0 k b o a (a.length:Int) (a.length:Int)) r/\Can WW r (vl WW a*vl WW b)/\r.length<=a.length+b.length:=by
  intro o h1 h2 h3;obtain ⟨r,h8,h9,h⟩:=fV (l:=o) Q2 h2;rw [<- h1,Qw,Qw] at h3;refine ⟨r,?_,by rw [<- h3];exact h9,Q2⟩;refine Ev.step (fun k=>by rw [bK.l0]) ?_;exact eL Q2 (Ev.bind h8 (aV _))
 have hv:∃ R,Can WW R (vl WW a*vl WW b)/\R.length<=a.length+b.length:=by
  have c:0<=vl WW a*vl WW b:=QX (bO aH ha) (bO aH hb);obtain ⟨R,hR⟩:=Mz bC c;refine ⟨R,hR,?_⟩;refine hR.gy bC ?_;rw [Va];have h1:=gC aH ha;have h2:=gC aH hb;have h3:=bO aH ha;have h4:=bO aH hb;exact Bx h1 h2 h3 h4
 obtain ⟨R,hR,g⟩:=hv;refine ⟨R,hR,g,?_⟩;intro d
 induction d with
 | zero =>
  intro i o h1 h2 h3 h4 h5;have e:i=a.length:=Q2;subst e;obtain ⟨r,h6,h7,_⟩:=f o h3 h4 h5;rw [bE aH hR h7];exact h6
 | succ d ih =>
  intro i o h1 h2 h3 h4 h5;have h6:=GI hn ha hb i Q2 R (fun o' n j m=>ih (i+1) o' Q2 Q2 n j (by rw [m])) b.length 0 o 0 Q2 Q2 h3 h4 Q2 Q2 (by rw [h5];simp [vl]);refine Ev.step (fun k=>by rw [bK.l0]) ?_;exact bB Q2 (bB Q2 (bB Q2 h6))
theorem lR {a b:List Int} {n m:Int} (hn:a.length+b.length<1099511627776) (ha:Can WW a n) (hb:Can WW b m):∃ r,Ev (fun k=>bK.f k a b) r/\Can WW r (n*m)/\r.length<=a.length+b.length:=by
 by_cases ha0:a.length=0
 ·have e:a=[]:=QY ha0;subst e;have:n=0:=by rw [<- ha.2.2];rfl
  subst this;refine ⟨[],?_,by rw [VL];exact Can.zero _,Qy _⟩;unfold bK.f;refine bB Q3 ?_;refine Ev.step (fun k=>by rw [bK.j0]) ?_;exact bB rfl (aV _)
 by_cases hb0:b.length=0
 ·have e:b=[]:=QY hb0;subst e;have:m=0:=by rw [<- hb.2.2];rfl
  subst this;refine ⟨[],?_,by rw [W6];exact Can.zero _,Qy _⟩;unfold bK.f;refine eL Q2 ?_;refine Ev.step (fun k=>by rw [bK.j0]) ?_;exact bB rfl (aV _)
 obtain ⟨R,h1,h2,h3⟩:=D6 hn ha.1 hb.1;rw [ha.2.2,hb.2.2] at h1;refine ⟨R,?_,h1,h2⟩;have h4:=h3 a.length 0 (List.replicate (a.length+b.length) 0) Q2 Q2 Q3 (Dg.rep aH _) (by rw [List.take_replicate];simp [vl,Ax]);unfold bK.f;refine eL Q2 ?_;refine Ev.step (fun k=>by rw [bK.j0]) ?_;have e:(a.length:Int)+(b.length:Int)=((a.length+b.length:Nat):Int):=Q2;rw [e,cD Q2 Q2,Int.toNat_natCast];refine eL ?_ (bB Q2 (bB Q2 h4));simp only [W7];omega
abbrev RR:Int:=10000
theorem aW:(0:Int)<RR:=by decide
theorem cJ:(1:Int)<RR:=by decide
theorem eC:RR=10000:=rfl
theorem Jp {l:List Int} (hn:l.length<4611686018427387904) (hd:Dg RR l) (d:Nat):∀ i:Nat,i=d->i<=l.length->∃ r,Ev (fun k=>aT.l0 k l (i:Int)) r/\Can RR r (vl RR (l.take i))/\r.length<=i:=by
 induction d with
 | zero =>
  rintro i rfl h;refine ⟨[],?_,Can.zero _,Qn _⟩;refine Ev.step (fun k=>by rw [aT.l0]) ?_;exact eL Q2 (bB Q2 (bB Q2 (aV _)))
 | succ d ih =>
  rintro i rfl h;have hw:((d+1:Nat):Int)-1=(d:Int):=Q2
  by_cases hz:rd l d=0
  ·obtain ⟨r,h1,h2,h3⟩:=ih d rfl Q2;refine ⟨r,?_,?_,Q2⟩
   ·refine Ev.step (fun k=>by rw [aT.l0]) ?_;rw [hw,cD (x:=(d:Int)) Q2 Q2];exact bB Q2 (bB Q2 (bB Q2 (bB hz h1)))
   rw [dL RR l d Q2,hz,VL,Ve];exact h2
  refine ⟨l.take (d+1),?_,⟨hd.take _,qD (fun _=>?_),rfl⟩,by rw [Qd];omega⟩
  ·refine Ev.step (fun k=>by rw [aT.l0]) ?_;rw [hw,cD (x:=(d:Int)) Q2 Q2,Int.toNat_natCast];exact bB Q2 (bB Q2 (bB Q2 (eL hz (bB Q2 (bB Q2 (aV _))))))
  rw [Qd,QO Q2,hw,ND _ _ _ Q2];exact hz
theorem nA {l:List Int} (hn:l.length<4611686018427387904) (hd:Dg RR l):∃ r,Ev (fun k=>aT.f k l) r/\Can RR r (vl RR l)/\r.length<=l.length:=by
 obtain ⟨r,h1,h2⟩:=Jp hn hd l.length l.length rfl (Qn _);rw [Qw] at h2;exact ⟨r,Ev.congr (fun k=>by rw [aT.f]) h1,h2⟩
theorem pK {a b:List Int} (hl:a.length=b.length) (hn:a.length<4611686018427387904) (ha:Dg RR a) (hb:Dg RR b) (d:Nat) :
 ∀ (i:Nat),i=d->i<=a.length->vl RR (a.drop i)=vl RR (b.drop i)->∃ r,Ev (fun k=>aM.l0 k a b ((i:Int)-1)) r/\(r = -1/\vl RR a<vl RR b∨r=0/\vl RR a=vl RR b∨r=1/\vl RR b<vl RR a):=by
 induction d with
 | zero =>
  rintro i rfl h1 h2;refine ⟨0,?_,.inr (.inl ⟨rfl,by simpa using h2⟩)⟩;refine Ev.step (fun k=>by rw [aM.l0]) ?_;exact eL Q2 (aV _)
 | succ d ih =>
  rintro i rfl h1 h2;have e1:(((d+1:Nat):Int)-1)=(d:Int):=Q2;rw [e1];have h3:=iE RR a d Q2;have h4:=iE RR b d Q2;have ea:a.drop d=rd a d :: a.drop (d+1):=by rw [lN a d Q2];exact (QD Q2)
  have eb:b.drop d=rd b d :: b.drop (d+1):=by rw [lN b d Q2];exact (QD Q2)
  have ta:=gC aW (ha.take d);have tb:=gC aW (hb.take d);have e:=bO aW (ha.take d);have c:=bO aW (hb.take d);rw [Qd,QO Q2] at ta tb
  by_cases he:rd a d=rd b d
  ·obtain ⟨r,h5,h6⟩:=ih d rfl Q2 (by rw [ea,eb,vl,vl,he,h2]);refine ⟨r,?_,h6⟩;refine Ev.step (fun k=>by rw [aM.l0]) ?_;rw [cD Q2 Q2];exact bB Q2 (bB Q2 (bB Q2 (bB Q2 (bB he h5))))
  have h7:vl RR (a.drop d)=rd a d+RR*vl RR (a.drop (d+1)):=by rw [ea,vl]
  have h8:vl RR (b.drop d)=rd b d+RR*vl RR (b.drop (d+1)):=by rw [eb,vl]
  have hp:0<RR ^ d:=Vu aW
  by_cases hlt:rd a d<rd b d
  ·refine ⟨-1,?_,.inl ⟨rfl,?_⟩⟩
   ·refine Ev.step (fun k=>by rw [aM.l0]) ?_;exact bB Q2 (bB Q2 (bB Q2 (bB Q2 (eL he (bB hlt (aV _))))))
   have h9:RR ^ d*(vl RR (a.drop d)+1)<=RR ^ d*vl RR (b.drop d):=Ql (by rw [h7,h8,h2];omega) Q2;rw [WY] at h9;omega
  refine ⟨1,?_,.inr (.inr ⟨rfl,?_⟩)⟩
  ·refine Ev.step (fun k=>by rw [aM.l0]) ?_;exact bB Q2 (bB Q2 (bB Q2 (bB Q2 (eL he (eL hlt (aV _))))))
  have h9:RR ^ d*(vl RR (b.drop d)+1)<=RR ^ d*vl RR (a.drop d):=Ql (by rw [h7,h8,h2];omega) Q2;rw [WY] at h9;omega
theorem eD {a b:List Int} {n m:Int} (hn:a.length<4611686018427387904) (ha:Can RR a n) (hb:Can RR b m):Ev (fun k=>aM.f k a b) (dK n m):=by
 unfold aM.f
 by_cases hl:a.length=b.length
 ·obtain ⟨r,h1,h2⟩:=pK hl hn ha.1 hb.1 a.length a.length rfl (Qn _) (by rw [V2,hl,V2]);have e:r=dK n m:=by
   rw [ha.2.2,hb.2.2] at h2;unfold dK;rcases h2 with ⟨rfl,h⟩ | ⟨rfl,h⟩ | ⟨rfl,h⟩
   ·rw [Qk h]
   ·rw [Qc Q2,Qk h]
   rw [Qc Q2,Qc Q2]
  rw [<- e];refine bB Q2 ?_;rw [cD Q2 Q2];exact h1
 refine eL Q2 ?_;unfold dK
 by_cases h:a.length<b.length
 ·have:=Can.u5 cJ ha hb h;rw [Qk this];exact bB Q2 (aV _)
 have:=Can.u5 cJ hb ha Q2;rw [Qc (show ¬ n<m by omega),Qc (show ¬ n=m by omega)];exact eL Q2 (aV _)
theorem fU {x:Int} (h:0<=x) (m:Int):Int.tmod x m=x % m:=Int.tmod_eq_emod_of_nonneg h
theorem fO {x:Int} (h:0<=x) (m:Int):Int.tdiv x m=x / m:=Int.tdiv_eq_ediv_of_nonneg h
theorem oh (B:Int) (l:List Int) (x:Int):vl B (l++[x])=vl B l+x*B ^ l.length:=by
 rw [jx];simp only [vl];grind
theorem MJ {vo c P n v c' R:Int} (h:vo+c*P=n) (a:v+R*c'=c):vo+v*P+c'*(R*P)=n:=by grind
theorem OI {vo c P va x k v c' R c0:Int} (h:vo+c*P=c0+k*va) (a:v+R*c'=c+x*k):vo+v*P+c'*(R*P)=c0+k*(va+x*P):=by grind
theorem F7 (a:List Int) (n:Int) (c:Nat):∀ (o:List Int) (cc:Int),cc=(c:Int)->cc<4611686018427387904->o.length+c<1099511627776->Dg RR o->vl RR o+cc*RR ^ o.length=n->∃ r,Ev (fun k=>aw.l1 k cc o) r/\Can RR r n:=by
 induction c using Nat.strongRecOn with
 | _ c ih =>
  intro o cc hcc hlt hl hd hv
  by_cases h0:c=0
  ·subst h0;have e:cc=0:=Q2;subst e;rw [VL,Ve] at hv;obtain ⟨r,h1,h2,_⟩:=nA (l:=o) Q2 hd;refine ⟨r,?_,by rw [<- hv];exact h2⟩;refine Ev.step (fun k=>by rw [aw.l1]) ?_;exact eL Q2 (Ev.bind h1 (aV _))
  obtain ⟨r,h1,h2⟩:=ih (c / 10000) Q2 (o++[cc % 10000]) (cc / 10000) Q2 Q2 (by simp;omega) (hd.append (Dg.mk Q2 (by rw [eC];omega) (Dg.nil _)))
   (by rw [oh,Qf,List.length_singleton,QM,QH (RR ^ o.length) RR];exact MJ hv (by rw [eC];omega))
  refine ⟨r,?_,h2⟩;refine Ev.step (fun k=>by rw [aw.l1]) ?_;rw [fU (x:=cc) Q2,fO (x:=cc) Q2,cD (x:=cc / 10000) Q2 Q2];exact bB Q2 (bB Q2 h1)
theorem F6 {a:List Int} (hn:a.length<549755813888) (ha:Dg RR a) {k0 c0:Int} (hk:0<=k0/\k0<=65536) (d:Nat) :
 ∀ (i:Nat) (o:List Int) (c:Int),a.length-i=d->i<=a.length->o.length=i->Dg RR o->0<=c->c<=65536->vl RR o+c*RR ^ i=c0+k0*vl RR (a.take i) ->
 ∃ r,Ev (fun k=>aw.l0 k k0 c o a (a.length:Int) (i:Int)) r/\Can RR r (c0+k0*vl RR a):=by
 induction d with
 | zero =>
  intro i o c h1 h2 h3 h4 h5 h6 h7;have e:i=a.length:=Q2;subst e;rw [Qw] at h7;obtain ⟨r,h8,h9⟩:=F7 o (c0+k0*vl RR a) c.toNat o c Q2 Q2 Q2 h4 (by rw [h3];exact h7);refine ⟨r,?_,h9⟩;refine Ev.step (fun k=>by rw [aw.l0]) ?_;exact eL Q2 h8
 | succ d ih =>
  intro i o c h1 h2 h3 h4 h5 h6 h7;have hx:=dQ ha (i:Int) Q2 Q2;rw [eC] at hx;have hm:0<=rd a i*k0:=QX hx.1 hk.1;have b:rd a i*k0<=9999*65536:=VI Q2 hk.2 hk.1 Q2;obtain ⟨r,h8,h9⟩:=ih (i+1) (o++[(c+rd a i*k0) % 10000]) ((c+rd a i*k0) / 10000) Q2 Q2 (by simp;omega) (h4.append (Dg.mk Q2 (by rw [eC];omega) (Dg.nil _))) Q2 Q2
   (by rw [oh,h3,dL RR a i Q2,QM,QH (RR ^ i) RR];exact OI h7 (by rw [eC];omega))
  refine ⟨r,?_,h9⟩;refine Ev.step (fun k=>by rw [aw.l0]) ?_;rw [cD (x:=rd a i*k0) Q2 Q2,cD (x:=c+rd a i*k0) Q2 Q2,fU (x:=c+rd a i*k0) Q2,fO (x:=c+rd a i*k0) Q2,cD (x:=(c+rd a i*k0) / 10000) Q2 Q2,gi (i:=i) Q2];exact bB Q2 (bB Q2 (bB Q2 (bB Q2 h8)))
theorem j7 {a:List Int} {n k0 c0:Int} (hn:a.length<549755813888) (ha:Can RR a n) (hk:0<=k0/\k0<=65536) (hc:0<=c0/\c0<=65536):∃ r,Ev (fun k=>aw.f k a k0 c0) r/\Can RR r (n*k0+c0)/\r.length<=a.length+2:=by
 obtain ⟨r,h1,h2⟩:=F6 hn ha.1 hk (c0:=c0) a.length 0 [] c0 Q2 Q2 rfl (Dg.nil _) hc.1 hc.2 (by simp [vl]);rw [ha.2.2,Xv,QH] at h2;refine ⟨r,?_,h2,?_⟩
 ·unfold aw.f;have e:(a.length:Int)+2=((a.length+2:Nat):Int):=Q2;rw [e,cD Q2 Q2,Int.toNat_natCast];exact bB Q2 (bB Q2 h1)
 refine h2.gy cJ ?_;have h3:=ha.lt aW;have h4:=ha.fz aW;have h5:n*k0<=n*65536:=Ql hk.2 h4;have h6:RR ^ (a.length+2)=RR ^ a.length*100000000:=by rw [Va];rfl
 rw [h6];omega
theorem Dq (n:Int) (c:Nat):∀ (o:List Int) (cc:Int),cc=(c:Int)->cc<4611686018427387904->o.length+c<17592186044416->Dg RR o->(c=0->Nm o)->vl RR o+cc*RR ^ o.length=n->∃ r,Ev (fun k=>aK.l0 k cc o) r/\Can RR r n:=by
 induction c using Nat.strongRecOn with
 | _ c ih =>
  intro o cc hcc hlt hl hd hnm hv
  by_cases h0:c=0
  ·subst h0;have e:cc=0:=Q2;subst e;rw [VL,Ve] at hv;refine ⟨o,?_,hd,hnm rfl,hv⟩;refine Ev.step (fun k=>by rw [aK.l0]) ?_;exact eL Q2 (aV _)
  obtain ⟨r,h1,h2⟩:=ih (c / 10000) Q2 (o++[cc % 10000]) (cc / 10000) Q2 Q2 (by simp;omega) (hd.append (Dg.mk Q2 (by rw [eC];omega) (Dg.nil _)))
   (by
    intro hz hne;simp only [List.getLast_append,List.getLast_singleton];simp;omega)
   (by rw [oh,Qf,List.length_singleton,QM,QH (RR ^ o.length) RR];exact MJ hv (by rw [eC];omega))
  refine ⟨r,?_,h2⟩;refine Ev.step (fun k=>by rw [aK.l0]) ?_;rw [fU (x:=cc) Q2,fO (x:=cc) Q2,cD (x:=cc / 10000) Q2 Q2];exact bB Q2 (bB Q2 h1)
theorem Dp {a:Int} (b:0<=a) (c:a<10000000000000):∃ r,Ev (fun k=>aK.f k a) r/\Can RR r a:=by
 obtain ⟨r,h2,h3⟩:=Dq a a.toNat [] a Q2 Q2 (by simp;omega) (Dg.nil _) (fun _=>Nm.nil) (by simp [vl]);exact ⟨r,Ev.congr (fun k=>by rw [aK.f]) h2,h3⟩
theorem and16 {x:Int} (a:0<=x) (b:x<4294967296):Go.bits .and .u32 x 65535=x % 65536 :=
 bits_mask .u32 32 (by decide) (fun n a b=>by rw [IntKind.wrap_u32];omega) 16 (by decide) x a b
theorem DX {B:Int} {l:List Int} (hB:0<B) (hd:Dg B l) (h:B ^ (l.length-1)<=vl B l):Nm l:=by
 refine qD (fun hp hz=>?_);have e:(l.length:Int)-1=((l.length-1:Nat):Int):=Q2;rw [e] at hz;have h1:=dL B l (l.length-1) Q2;rw [hz,show l.length-1+1=l.length by omega,Qw] at h1;have h2:=gC hB (hd.take (l.length-1));rw [Qd,QO Q2] at h2;omega
theorem MM {vo va vb P c c' v x y R:Int} (h:vo+c*P=va+vb) (a:v+R*c'=c+x+y):(vo+v*P)+c'*(R*P)=(va+x*P)+(vb+y*P):=by grind
theorem fS (l:List Int) (i:Nat) (h:l.length<=i):l.take i=l:=Qp h
theorem Lj {a b:List Int} {n m:Int} (hn:a.length+b.length<68719476736) (ha:Can RR a n) (hb:Can RR b m) (d:Nat) :
 ∀ (i:Nat) (o:List Int) (c:Int),max a.length b.length+1-i=d->i<=max a.length b.length+1->o.length=i->Dg RR o->0<=c->c<=1->(max a.length b.length<i->c=0/\RR ^ (max a.length b.length)<=n+m) ->
 vl RR o+c*RR ^ i=vl RR (a.take i)+vl RR (b.take i)->∃ r,Ev (fun k=>aB.l0 k a b o c (i:Int)) r/\Can RR r (n+m)/\r.length<=max a.length b.length+1:=by
 induction d with
 | zero =>
  intro i o c h1 h2 h3 h4 h5 h6 h7 h8;obtain ⟨hc,e⟩:=h7 Q2;subst hc;rw [fS a i Q2,fS b i Q2,ha.2.2,hb.2.2,VL,Ve] at h8;refine ⟨o,?_,⟨h4,DX aW h4 ?_,h8⟩,Q2⟩
  ·refine Ev.step (fun k=>by rw [aB.l0]) ?_;refine eL Q2 (eL Q2 ?_);refine Ev.step (fun k=>by rw [aB.j1]) ?_;exact eL Q3 (aV _)
  rw [h8,h3,show i-1=max a.length b.length by omega];exact e
 | succ d ih =>
  intro i o c h1 h2 h3 h4 h5 h6 h7 h8;have step:∀ (x y:Int),0<=x/\x<10000->0<=y/\y<10000->vl RR (a.take (i+1))=vl RR (a.take i)+x*RR ^ i->vl RR (b.take (i+1))=vl RR (b.take i)+y*RR ^ i->(max a.length b.length<i+1->(c+x+y) / 10000=0/\RR ^ (max a.length b.length)<=n+m) ->
   ∃ r,Ev (fun k=>aB.l0 k a b (o++[(c+x+y) % 10000]) ((c+x+y) / 10000) ((i+1:Nat):Int)) r/\Can RR r (n+m)/\r.length<=max a.length b.length+1:=by
   intro x y hx hy ta tb hg;refine ih (i+1) _ _ Q2 Q2 (by simp;omega) (h4.append (Dg.mk Q2 (by rw [eC];omega) (Dg.nil _))) Q2 Q2 hg ?_;rw [oh,h3,ta,tb,QM,QH (RR ^ i) RR];exact MM h8 (by rw [eC];omega)
  by_cases hia:i<a.length
  ·have hx:=dQ ha.1 (i:Int) Q2 Q2;rw [eC] at hx
   by_cases hib:i<b.length
   ·have hy:=dQ hb.1 (i:Int) Q2 Q2;rw [eC] at hy;obtain ⟨r,q1,q2⟩:=step _ _ hx hy (dL RR a i hia) (dL RR b i hib) (fun h=>Q2);refine ⟨r,?_,q2⟩;refine Ev.step (fun k=>by rw [aB.l0]) ?_;refine bB Q2 ?_;refine Ev.step (fun k=>by rw [aB.j1]) ?_;rw [cD (x:=c+rd a i) Q2 Q2,cD (x:=c+rd a i+rd b i) Q2 Q2,fU (x:=c+rd a i+rd b i) Q2,fO (x:=c+rd a i+rd b i) Q2,cD (x:=(c+rd a i+rd b i) / 10000) Q2 Q2,gi (i:=i) Q2];exact bB rfl (bB Q2 (bB Q2 (bB Q2 (bB Q2 q1))))
   obtain ⟨r,q1,q2⟩:=step _ 0 hx Q2 (dL RR a i hia) (by rw [fS b i Q2,fS b (i+1) Q2];omega) (fun h=>Q2);rw [Ve] at q1;refine ⟨r,?_,q2⟩;refine Ev.step (fun k=>by rw [aB.l0]) ?_;refine bB Q2 ?_;refine Ev.step (fun k=>by rw [aB.j1]) ?_;rw [cD (x:=c+rd a i) Q2 Q2,fU (x:=c+rd a i) Q2,fO (x:=c+rd a i) Q2,cD (x:=(c+rd a i) / 10000) Q2 Q2,gi (i:=i) Q2];exact bB rfl (bB Q2 (bB Q2 (eL Q2 (bB Q2 q1))))
  by_cases hib:i<b.length
  ·have hy:=dQ hb.1 (i:Int) Q2 Q2;rw [eC] at hy;obtain ⟨r,q1,q2⟩:=step 0 _ Q2 hy (by rw [fS a i Q2,fS a (i+1) Q2];omega) (dL RR b i hib) (fun h=>Q2);rw [Ve] at q1;refine ⟨r,?_,q2⟩;refine Ev.step (fun k=>by rw [aB.l0]) ?_;refine eL Q2 (bB Q2 ?_);refine Ev.step (fun k=>by rw [aB.j1]) ?_;rw [cD (x:=c+rd b i) Q2 Q2,fU (x:=c+rd b i) Q2,fO (x:=c+rd b i) Q2,cD (x:=(c+rd b i) / 10000) Q2 Q2,gi (i:=i) Q2];exact bB rfl (eL Q2 (bB Q2 (bB Q2 (bB Q2 q1))))
  rw [fS a i Q2,fS b i Q2,ha.2.2,hb.2.2] at h8
  by_cases hc:c=0
  ·subst hc;rw [VL,Ve] at h8;refine ⟨o,?_,⟨h4,?_,h8⟩,Q2⟩
   ·refine Ev.step (fun k=>by rw [aB.l0]) ?_;refine eL Q2 (eL Q2 ?_);refine Ev.step (fun k=>by rw [aB.j1]) ?_;exact eL Q3 (aV _)
   by_cases hi0:i=0
   ·have:o=[]:=QY Q2;rw [this];exact Nm.nil
   refine DX aW h4 ?_;rw [h8,h3];have l:=ha.fz aW;have g:=hb.fz aW
   by_cases e:b.length<=a.length
   ·have:=ha.ge aW Q2;have h9:=fy (B:=RR) (by have:=cJ;omega) (show i-1<=a.length-1 by omega);omega
   have:=hb.ge aW Q2;have h9:=fy (B:=RR) (by have:=cJ;omega) (show i-1<=b.length-1 by omega);omega
  have f:c=1:=Q2;subst f;have j:i<=max a.length b.length:=by
   rcases We (max a.length b.length) i with h | h
   ·have:=(h7 h).1;omega
   exact h
  have p:=bO aW h4;obtain ⟨r,q1,q2⟩:=step 0 0 Q2 Q2 (by rw [fS a i Q2,fS a (i+1) Q2];omega) (by rw [fS b i Q2,fS b (i+1) Q2];omega)
   (fun h=>⟨Q2,by rw [show max a.length b.length=i by omega];omega⟩)
  refine ⟨r,?_,q2⟩;refine Ev.step (fun k=>by rw [aB.l0]) ?_;refine eL Q2 (eL Q2 ?_);refine Ev.step (fun k=>by rw [aB.j1]) ?_;rw [gi (i:=i) Q2,show Int.tmod 1 10000=(1+0+0) % 10000 by decide,show wrap64 (Int.tdiv 1 10000)=(1+0+0) / 10000 by decide +kernel];exact bB Q3 (eL Q2 (eL Q2 (bB Q2 q1)))
theorem Li {a b:List Int} {n m:Int} (hn:a.length+b.length<68719476736) (ha:Can RR a n) (hb:Can RR b m):∃ r,Ev (fun k=>aB.f k a b) r/\Can RR r (n+m)/\r.length<=max a.length b.length+1:=by
 obtain ⟨r,h1,h2⟩:=Lj hn ha hb (max a.length b.length+1) 0 [] 0 Q2 Q2 rfl (Dg.nil _) Q2 Q2 (fun h=>Q2) (by simp [vl]);exact ⟨r,Ev.congr (fun k=>by rw [aB.f];rfl) h1,h2⟩
theorem iD (l:List Int) (i:Nat) (v:Int):(l.set i v).drop (i+1)=l.drop (i+1):=by rw [List.drop_set_of_lt Q2]
theorem lM (a o:List Int) (i:Nat) (h:o.drop i=a.drop i) (hi:i<a.length) (hl:o.length=a.length):rd o i=rd a i:=by
 rw [lN o i Q2,lN a i hi];have h1:(o.drop i)[0]?=(a.drop i)[0]?:=by rw [h]
 rw [WI,WI,Nat.add_zero,Qh Q2,Qh hi] at h1;exact QF h1
theorem drop_tail (a o:List Int) (i:Nat) (h:o.drop i=a.drop i):o.drop (i+1)=a.drop (i+1):=by
 rw [<- Wv,<- Wv,h]
theorem Le {a b:List Int} (hba:b.length<=a.length) (hle:vl RR b<=vl RR a) (hn:a.length<68719476736) (ha:Dg RR a) (hb:Dg RR b) (d:Nat) :
 ∀ (i:Nat) (o:List Int) (c:Int),a.length-i=d->i<=a.length->o.length=a.length->o.drop i=a.drop i->Dg RR (o.take i)->0<=c->c<=1->vl RR (o.take i)-c*RR ^ i=vl RR (a.take i)-vl RR (b.take i) ->
 ∃ r,Ev (fun k=>aQ.l0 k b o c (a.length:Int) (i:Int)) r/\Can RR r (vl RR a-vl RR b)/\r.length<=a.length:=by
 induction d with
 | zero =>
  intro i o c h1 h2 h3 hdr h4 h5 h6 h7;have e:i=a.length:=Q2;subst e;rw [Qw,Qp hba,<- h3,Qw] at h7;rw [<- h3,Qw] at h4;have m:=gC aW h4;have hc:c=0:=by
   rcases XX h6 with h | h
   ·omega
   subst h;rw [VP] at h7;omega
  subst hc;rw [VL,YD] at h7;obtain ⟨r,h8,h9,j⟩:=nA (l:=o) Q2 h4;refine ⟨r,?_,by rw [<- h7];exact h9,Q2⟩;refine Ev.step (fun k=>by rw [aQ.l0]) ?_;refine eL Q2 ?_;exact Ev.bind h8 (aV _)
 | succ d ih =>
  intro i o c h1 h2 h3 hdr h4 h5 h6 h7;have hi:i<a.length:=Q2;have hx:=dQ ha (i:Int) Q2 Q2;rw [eC] at hx;have f:=lM a o i hdr hi h3;have ti:=dL RR a i hi;have ep:RR ^ (i+1)=RR*RR ^ i:=by rw [QM,QH]
  have g:=drop_tail a o i hdr
  by_cases hib:i<b.length
  ·have hy:=dQ hb (i:Int) Q2 Q2;rw [eC] at hy;have tb:=dL RR b i hib
   by_cases hneg:rd a i-c-rd b i<0
   ·obtain ⟨r,h8,h9⟩:=ih (i+1) (o.set i (rd a i-c-rd b i+10000)) 1 Q2 Q2 (by simpa using h3) (by rw [iD,g]) (Dg.take_set Q2 h4 Q2 (by rw [eC];omega)) Q2 Q2
     (by rw [iq _ _ _ _ Q2,ti,tb,ep];exact Ce h7 (by rw [eC];omega))
    refine ⟨r,?_,h9⟩;refine Ev.step (fun k=>by rw [aQ.l0]) ?_;rw [f,cD (x:=rd a i-c) Q2 Q2,cD (x:=rd a i-c-rd b i) Q2 Q2,cD (x:=rd a i-c-rd b i+10000) Q2 Q2,gi (i:=i) Q2];exact bB Q2 (bB Q2 (bB Q2 (bB Q2 (bB hneg h8))))
   obtain ⟨r,h8,h9⟩:=ih (i+1) (o.set i (rd a i-c-rd b i)) 0 Q2 Q2 (by simpa using h3) (by rw [iD,g]) (Dg.take_set Q2 h4 Q2 (by rw [eC];omega)) Q2 Q2
    (by rw [iq _ _ _ _ Q2,ti,tb,ep];exact Ce h7 (by rw [eC];omega))
   refine ⟨r,?_,h9⟩;refine Ev.step (fun k=>by rw [aQ.l0]) ?_;rw [f,cD (x:=rd a i-c) Q2 Q2,cD (x:=rd a i-c-rd b i) Q2 Q2,gi (i:=i) Q2];exact bB Q2 (bB Q2 (bB Q2 (bB Q2 (eL hneg h8))))
  have tb:vl RR (b.take (i+1))=vl RR (b.take i):=by rw [Qp Q2,Qp Q2]
  by_cases hneg:rd a i-c<0
  ·obtain ⟨r,h8,h9⟩:=ih (i+1) (o.set i (rd a i-c+10000)) 1 Q2 Q2 (by simpa using h3) (by rw [iD,g]) (Dg.take_set Q2 h4 Q2 (by rw [eC];omega)) Q2 Q2
    (by rw [iq _ _ _ _ Q2,ti,tb,ep];exact yT h7 (by rw [eC];omega))
   refine ⟨r,?_,h9⟩;refine Ev.step (fun k=>by rw [aQ.l0]) ?_;rw [f,cD (x:=rd a i-c) Q2 Q2,cD (x:=rd a i-c+10000) Q2 Q2,gi (i:=i) Q2];exact bB Q2 (bB Q2 (bB Q2 (eL Q2 (bB hneg h8))))
  obtain ⟨r,h8,h9⟩:=ih (i+1) (o.set i (rd a i-c)) 0 Q2 Q2 (by simpa using h3) (by rw [iD,g]) (Dg.take_set Q2 h4 Q2 (by rw [eC];omega)) Q2 Q2
   (by rw [iq _ _ _ _ Q2,ti,tb,ep];exact yT h7 (by rw [eC];omega))
  refine ⟨r,?_,h9⟩;refine Ev.step (fun k=>by rw [aQ.l0]) ?_;rw [f,cD (x:=rd a i-c) Q2 Q2,gi (i:=i) Q2];exact bB Q2 (bB Q2 (bB Q2 (eL Q2 (eL hneg h8))))
theorem kI {a b:List Int} {n m:Int} (ha:Can RR a n) (hb:Can RR b m) (h:m<=n):b.length<=a.length:=by
 rcases We a.length b.length with hl | hl
 ·have:=Can.u5 cJ ha hb hl;omega
 exact hl
theorem F8 {l:List Int} (h:l.length<17592186044416):dI.f l=some l:=by
 unfold dI.f;simp [h]
theorem Dn {a b:List Int} {n m:Int} (hn:a.length<68719476736) (ha:Can RR a n) (hb:Can RR b m) (hle:m<=n):∃ r,Ev (fun k=>aQ.f k a b) r/\Can RR r (n-m)/\r.length<=a.length:=by
 have c:=kI ha hb hle;rw [<- ha.2.2,<- hb.2.2] at *
 obtain ⟨r,h1,h2⟩:=Le c hle hn ha.1 hb.1 a.length 0 a 0 Q2 Q2 rfl rfl (by simp;exact Dg.nil _) Q2 Q2 (by simp [vl]);refine ⟨r,?_,h2⟩;unfold aQ.f;exact kL (F8 Q2) h1
theorem wZ (B:Int) (l:List Int) (p:Nat) (v:Int) (h:p<l.length):vl B (l.set p v)=vl B l+(v-rd l (p:Int))*B ^ p:=by
 have h1:=wX B l p l.length v h (Qn _)
 rwa [Qp Q3,Qw] at h1
theorem Kg {T c P V sM v c' W:Int} (h:T+c*P=V) (a:v+W*c'=c+sM):(T+(v-sM)*P)+c'*(W*P)=V:=by grind
theorem NI {a b:List Int} {V:Int} (hn:a.length+b.length<68719476736) (hV:V<RR ^ (a.length+b.length)) (s:Int) (R:List Int)
 (hout:∀ o:List Int,o.length=a.length+b.length+1->Dg RR o->vl RR o=V->Ev (fun k=>ax.l0 k b o a (a.length:Int) (wrap64 (s+1))) R) (d:Nat) :
 ∀ (p:Nat) (o:List Int) (c:Int),a.length+b.length+1-p=d->p<=a.length+b.length+1->o.length=a.length+b.length+1->Dg RR o->0<=c->c<10000->vl RR o+c*RR ^ p=V ->
 Ev (fun k=>ax.l2 k b o c (p:Int) a (a.length:Int) s) R:=by
 induction d with
 | zero =>
  intro p o c h1 h2 h3 h4 h5 h6 h7;have e:=bO aW h4;have hc:c=0:=by
   rcases XX h5 with h | h
   ·have h8:=fy (B:=RR) (by have:=cJ;omega) (show a.length+b.length<=p by omega);have h9:1*RR ^ p<=c*RR ^ p:=QQ Q2 (Vz (Vu aW));omega
   omega
  subst hc;rw [VL,Ve] at h7;refine Ev.step (fun k=>by rw [ax.l2]) ?_;exact eL Q2 (hout o h3 h4 h7)
 | succ d ih =>
  intro p o c h1 h2 h3 h4 h5 h6 h7
  by_cases hc:c=0
  ·subst hc;rw [VL,Ve] at h7;refine Ev.step (fun k=>by rw [ax.l2]) ?_;exact eL Q2 (hout o h3 h4 h7)
  have ho:=dQ h4 (p:Int) Q2 Q2;rw [eC] at ho;have h8:=ih (p+1) (o.set p ((c+rd o p) % 10000)) ((c+rd o p) / 10000) Q2 Q2 (by simpa using h3) (h4.set _ Q2 (by rw [eC];omega)) Q2 Q2
   (by rw [wZ _ _ _ _ Q2,QM,QH (RR ^ p) RR];exact Kg h7 (by rw [eC];omega))
  refine Ev.step (fun k=>by rw [ax.l2]) ?_;rw [cD (x:=c+rd o p) Q2 Q2,fU (x:=c+rd o p) Q2,fO (x:=c+rd o p) Q2,cD (x:=(c+rd o p) / 10000) Q2 Q2,gi (i:=p) Q2,Int.toNat_natCast];exact bB Q2 (bB Q2 (bB Q2 h8))
theorem NX {x y:Int} (hx:0<=x/\x<10000) (hy:0<=y/\y<10000):0<=x*y/\x*y<=99980001:=by
 have h1:0<=x*y:=QX hx.1 hy.1;have h2:x*y<=9999*9999:=VI Q2 Q2 hy.1 Q2;omega
theorem MK {T va vb x y sM P c c' v W xb Pi Pj:Int} (h:T+c*P=va*vb+x*Pi*xb) (a:v+W*c'=c+(sM+x*y)) (hP:P=Pi*Pj):(T+(v-sM)*P)+c'*(W*P)=va*vb+x*Pi*(xb+y*Pj):=by grind
theorem Lg {a b:List Int} (hn:a.length+b.length<68719476736) (ha:Dg RR a) (hb:Dg RR b) (i:Nat) (hi:i<a.length) (R:List Int)
 (hout:∀ o:List Int,o.length=a.length+b.length+1->Dg RR o->vl RR o=vl RR (a.take (i+1))*vl RR b->Ev (fun k=>ax.l0 k b o a (a.length:Int) ((i+1:Nat):Int)) R) (d:Nat) :
 ∀ (j:Nat) (o:List Int) (c:Int),b.length-j=d->j<=b.length->o.length=a.length+b.length+1->Dg RR o->0<=c->c<10000 ->
 vl RR o+c*RR ^ (i+j)=vl RR (a.take i)*vl RR b+rd a i*RR ^ i*vl RR (b.take j) ->
 Ev (fun k=>ax.l1 k b o (i:Int) (rd a i) c a (a.length:Int) (i:Int) b (b.length:Int) (j:Int)) R:=by
 have hx:=dQ ha (i:Int) Q2 Q2;rw [eC] at hx
 induction d with
 | zero =>
  intro j o c h1 h2 h3 h4 h5 h6 h7;have e:j=b.length:=Q2;subst e;rw [Qw] at h7;have h8:=E4 h7;rw [<- dL RR a i hi] at h8;have f:vl RR (a.take (i+1))*vl RR b<RR ^ (a.length+b.length):=by
   rw [Va];have h:=gC aW (ha.take (i+1));have g:=fy (B:=RR) (by have:=cJ;omega) (show (a.take (i+1)).length<=a.length by rw [Qd];omega);exact Bx Q2 (gC aW hb) (bO aW (ha.take _)) (bO aW hb)
  have h9:=NI (a:=a) (b:=b) (V:=vl RR (a.take (i+1))*vl RR b) hn f (i:Int) R (fun o' h g l=>by rw [gi (i:=i) Q2];exact hout o' h g l) (a.length+b.length+1-(i+b.length)) (i+b.length) o c rfl Q2 h3 h4 h5 h6 h8;have ei:((i:Int)+(b.length:Int))=((i+b.length:Nat):Int):=Q2;refine Ev.step (fun k=>by rw [ax.l1]) ?_;rw [ei,cD (x:=((i+b.length:Nat):Int)) Q2 Q2];exact eL Q2 h9
 | succ d ih =>
  intro j o c h1 h2 h3 h4 h5 h6 h7;have hy:=dQ hb (j:Int) Q2 Q2;have ho:=dQ h4 ((i+j:Nat):Int) Q2 Q2;rw [eC] at hy ho;have hm:=NX hx hy;have h8:=ih (j+1) (o.set (i+j) ((c+(rd o ((i+j:Nat):Int)+rd a i*rd b j)) % 10000)) ((c+(rd o ((i+j:Nat):Int)+rd a i*rd b j)) / 10000) Q2 Q2 (by simpa using h3) (h4.set _ Q2 (by rw [eC];omega)) Q2 Q2
   (by
    rw [wZ _ _ _ _ Q2,dL RR b j Q2,show i+(j+1)=i+j+1 by omega,QM,QH (RR ^ (i+j)) RR];exact MK h7 (by rw [eC];omega) (Va _ _ _))
  have ei:((i:Int)+(j:Int))=((i+j:Nat):Int):=Q2;refine Ev.step (fun k=>by rw [ax.l1]) ?_;rw [ei,cD (x:=((i+j:Nat):Int)) Q2 Q2,cD (x:=rd a i*rd b j) Q2 Q2,cD (x:=rd o ((i+j:Nat):Int)+rd a i*rd b j) Q2 Q2,cD (x:=c+(rd o ((i+j:Nat):Int)+rd a i*rd b j)) Q2 Q2,
   fU (x:=c+(rd o ((i+j:Nat):Int)+rd a i*rd b j)) Q2,fO (x:=c+(rd o ((i+j:Nat):Int)+rd a i*rd b j)) Q2,cD (x:=(c+(rd o ((i+j:Nat):Int)+rd a i*rd b j)) / 10000) Q2 Q2,gi (i:=j) Q2,Int.toNat_natCast]
  exact bB Q2 (bB Q2 (bB Q2 (bB Q2 (bB Q2 h8))))
theorem Jq {a b:List Int} (hn:a.length+b.length<68719476736) (ha:Dg RR a) (hb:Dg RR b):∃ R,Can RR R (vl RR a*vl RR b)/\R.length<=a.length+b.length/\∀ (d i:Nat) (o:List Int),a.length-i=d->i<=a.length->o.length=a.length+b.length+1->Dg RR o->vl RR o=vl RR (a.take i)*vl RR b ->
 Ev (fun k=>ax.l0 k b o a (a.length:Int) (i:Int)) R:=by
 have c:0<=vl RR a*vl RR b:=QX (bO aW ha) (bO aW hb);obtain ⟨R,hR⟩:=Mz cJ c;have f:R.length<=a.length+b.length:=by
  refine hR.gy cJ ?_;rw [Va];exact Bx (gC aW ha) (gC aW hb) (bO aW ha) (bO aW hb)
 refine ⟨R,hR,f,?_⟩;intro d
 induction d with
 | zero =>
  intro i o h1 h2 h3 h4 h5;have e:i=a.length:=Q2;subst e;rw [Qw] at h5;obtain ⟨r,h8,h9,g⟩:=nA (l:=o) Q2 h4;rw [h5] at h9;rw [bE aW hR h9];refine Ev.step (fun k=>by rw [ax.l0]) ?_;exact eL Q2 (Ev.bind h8 (aV _))
 | succ d ih =>
  intro i o h1 h2 h3 h4 h5;have h6:=Lg hn ha hb i Q2 R (fun o' m h j=>ih (i+1) o' Q2 Q2 m h j) b.length 0 o 0 Q2 Q2 h3 h4 Q2 Q2 (by rw [h5];simp [vl]);refine Ev.step (fun k=>by rw [ax.l0]) ?_;exact bB Q2 (bB Q2 (bB Q2 h6))
theorem Lf {a b:List Int} {n m:Int} (hn:a.length+b.length<68719476736) (ha:Can RR a n) (hb:Can RR b m):∃ r,Ev (fun k=>ax.f k a b) r/\Can RR r (n*m)/\r.length<=a.length+b.length:=by
 obtain ⟨R,h1,h2,h3⟩:=Jq hn ha.1 hb.1;rw [ha.2.2,hb.2.2] at h1;refine ⟨R,?_,h1,h2⟩;have h4:=h3 a.length 0 (List.replicate (a.length+b.length+1) 0) Q2 Q2 Q3 (Dg.rep aW _) (by simp [vl,Ax]);unfold ax.f;have e:(a.length:Int)+(b.length:Int)=((a.length+b.length:Nat):Int):=Q2;rw [e,cD (x:=((a.length+b.length:Nat):Int)) Q2 Q2,gi (i:=a.length+b.length) Q2,Int.toNat_natCast];exact bB Q2 (bB Q2 h4)
theorem oU (l:List Int) (x:Int) (h:l++[x]≠[]):(l++[x]).getLast h=x:=by simp
theorem fH (l:List Int) (i:Nat) (v:Int) (h:i<l.length):(l.set i v).drop i=v :: l.drop (i+1):=by
 rw [QD (by simpa using h),List.getElem_set_self,iD]
theorem fP (l:List Int) (i:Nat) (h:i<l.length):l.drop i=rd l i :: l.drop (i+1):=by
 rw [lN l i h];exact QD h
theorem Kf {t r va q rr d R K:Int} (h:t*K+r=va) (a:q*K+rr=r*R+d):(q+R*t)*K+rr=d+R*va:=by grind
theorem F5 {a:List Int} (hn:a.length<68719476736) (ha:Dg RR a) {K:Int} (hK:1<=K/\K<=65536) (d:Nat):∀ (i:Nat) (o:List Int) (r:Int),i=d->i<=a.length->o.length=a.length->Dg RR (o.drop i)->0<=r->r<K->vl RR (o.drop i)*K+r=vl RR (a.drop i) ->
 ∃ q z,Ev (fun k=>bw.l0 k a K o r ((i:Int)-1)) (q,z)/\(∃ m,Can RR q m/\m*K+z=vl RR a)/\0<=z/\z<K/\q.length<=a.length:=by
 induction d with
 | zero =>
  rintro i o r rfl h1 h2 h3 h4 h5 h6;rw [V9] at h3 h6;rw [V9] at h6;obtain ⟨q,h7,h8,h9⟩:=nA (l:=o) Q2 h3;refine ⟨q,r,?_,⟨_,h8,h6⟩,h4,h5,Q2⟩;refine Ev.step (fun k=>by rw [bw.l0]) ?_;exact eL Q2 (Ev.bind h7 (aV _))
 | succ d ih =>
  rintro i o r rfl h1 h2 h3 h4 h5 h6;have e1:(((d+1:Nat):Int)-1)=(d:Int):=Q2;have hx:=dQ ha (d:Int) Q2 Q2;rw [eC] at hx;have b:0<=r*10000+rd a d:=Q2;have c:0<=(r*10000+rd a d) / K:=VA b Q2;have f:(r*10000+rd a d) / K<10000:=by
   refine VZ Q2 ?_;have:(r+1)*10000<=K*10000:=QQ Q2 Q2;omega
  have e:=V4 (r*10000+rd a d) (show K≠0 by omega);have g:=QU (r*10000+rd a d) (show 0<K by omega);have h:(r*10000+rd a d) / K*K+(r*10000+rd a d) % K=r*RR+rd a d:=by rw [eC];exact XA _ _
  obtain ⟨q,z,h7,h8⟩:=ih d (o.set d ((r*10000+rd a d) / K)) ((r*10000+rd a d) % K) rfl Q2 (by simpa using h2)
   (by rw [fH _ _ _ Q2];exact Dg.mk c (by rw [eC];exact f) h3) e g
   (by rw [fH _ _ _ Q2,fP a d Q2,vl,vl];exact Kf h6 h)
  refine ⟨q,z,?_,h8⟩;refine Ev.step (fun k=>by rw [bw.l0]) ?_;rw [e1,cD (x:=r*10000) Q2 Q2,cD (x:=r*10000+rd a d) Q2 Q2,fO b,fU b,cD (x:=(r*10000+rd a d) / K) Q2 Q2,cD (x:=(d:Int)-1) Q2 Q2,Int.toNat_natCast];exact bB Q2 (bB Q2 (bB Q2 (eL Q2 (bB Q2 h7))))
theorem xC {a:List Int} {n K:Int} (hn:a.length<68719476736) (ha:Can RR a n) (hK:1<=K/\K<=65536):∃ q,Ev (fun k=>bw.f k a K) (q,n % K)/\Can RR q (n / K)/\q.length<=a.length:=by
 obtain ⟨q,z,h1,⟨m,h2,h3⟩,h4,h5,h6⟩:=F5 hn ha.1 hK a.length a.length (List.replicate a.length 0) 0 rfl (Qn _) Q3 (by rw [VV Q3];exact Dg.nil _) Q2 Q2 (by rw [VV Q3,VV Q3];simp [vl]);rw [ha.2.2] at h3;have e1:n % K=z:=by rw [<- h3,Xv,XR,VF h4 h5]
 have e2:n / K=m:=by
  have h7:=XA n K;rw [e1] at h7;exact Int.eq_of_mul_eq_mul_right (a:=K) Q2 Q2
 rw [e1,e2];refine ⟨q,?_,h2,h6⟩;unfold bw.f;rw [Int.toNat_natCast,cD Q2 Q2];exact bB Q2 (bB Q2 h1)
abbrev HH:Int:=65536
theorem E7:HH=65536:=rfl
theorem vl2 (h:List Int) (i:Nat) (hi:i+1<h.length):vl HH (h.drop i)=rd h i+65536*rd h ((i+1:Nat):Int)+WW*vl HH (h.drop (i+2)):=by
 rw [fP h i Q2,vl,fP h (i+1) hi,vl,cS,E7,show i+1+1=i+2 from rfl];omega
theorem vl1 (h:List Int) (i:Nat) (hi:i+1=h.length):vl HH (h.drop i)=rd h i:=by
 rw [fP h i Q2,vl,VV Q2];simp [vl]
theorem alg_w {vo P x w V W T:Int} (h:vo+P*T=V) (a:T=w+W*x):(vo+w*P)+(W*P)*x=V:=by grind
theorem Dm {h:List Int} (hn:h.length<68719476736) (hd:Dg HH h) (hnm:Nm h) (n:Int) (d:Nat):∀ (i:Nat) (o:List Int),h.length-i=d->i=2*o.length->Dg WW o->(h.length<=i->Nm o)->vl WW o+WW ^ o.length*vl HH (h.drop i)=n ->
 ∃ r,Ev (fun k=>aF.l1 k h o (i:Int)) r/\Can WW r n:=by
 induction d using Nat.strongRecOn with
 | _ d ih =>
  intro i o h1 h2 h3 h4 h5
  by_cases hi:i<h.length
  ·have hx:=dQ hd (i:Int) Q2 Q2;rw [E7] at hx;have a:(i:Int)+2=((i+2:Nat):Int):=Q2
   by_cases hi1:i+1<h.length
   ·have hy:=dQ hd ((i+1:Nat):Int) Q2 Q2;rw [E7] at hy;have hl:i+2=h.length->rd h ((i+1:Nat):Int)≠0:=by
     intro he;have h6:=hnm.rd Q2;rw [show (h.length:Int)-1=((i+1:Nat):Int) by omega] at h6;exact h6
    obtain ⟨r,h7,h8⟩:=ih (h.length-(i+2)) Q2 (i+2) (o++[rd h i+65536*rd h ((i+1:Nat):Int)]) rfl (by simp;omega) (h3.append (Dg.mk Q2 (by rw [cS];omega) (Dg.nil _)))
     (by
      intro hle hne;rw [oU];have:=hl Q2;omega)
     (by rw [oh,Qf,List.length_singleton,QM,QH (WW ^ o.length) WW];exact alg_w h5 (vl2 h i hi1))
    refine ⟨r,?_,h8⟩;refine Ev.step (fun k=>by rw [aF.l1]) ?_;have ew:(rd h i % 4294967296+rd h ((i+1:Nat):Int) % 4294967296*65536 % 4294967296) % 4294967296=rd h i+65536*rd h ((i+1:Nat):Int):=Q2;rw [gi (i:=i) Q2,ew,a,cD (x:=((i+2:Nat):Int)) Q2 Q2];exact bB Q2 (bB Q2 (bB Q2 (bB Q2 (bB Q2 h7))))
   have hl:rd h (i:Int)≠0:=by
    have h6:=hnm.rd Q2;rw [show (h.length:Int)-1=(i:Int) by omega] at h6;exact h6
   obtain ⟨r,h7,h8⟩:=ih (h.length-(i+2)) Q2 (i+2) (o++[rd h i]) rfl (by simp;omega) (h3.append (Dg.mk Q2 (by rw [cS];omega) (Dg.nil _)))
    (by
     intro hle hne;rw [oU];exact hl)
    (by
     rw [oh,Qf,List.length_singleton,QM,QH (WW ^ o.length) WW];refine alg_w (T:=vl HH (h.drop i)) h5 ?_;rw [vl1 h i Q2,VV Q2];simp [vl])
   refine ⟨r,?_,h8⟩;refine Ev.step (fun k=>by rw [aF.l1]) ?_;have ew:rd h i % 4294967296=rd h i:=Q2;rw [gi (i:=i) Q2,ew,a,cD (x:=((i+2:Nat):Int)) Q2 Q2];exact bB Q2 (bB Q2 (eL Q2 (bB Q2 h7)))
  rw [VV Q2] at h5;refine ⟨o,?_,h3,h4 Q2,by simpa [vl] using h5⟩;refine Ev.step (fun k=>by rw [aF.l1]) ?_;exact eL Q2 (aV _)
theorem alg_h {vh P m q r K n:Int} (h:vh+m*P=n) (a:q*K+r=m):(vh+r*P)+q*(K*P)=n:=by grind
theorem F4 (n:Int) (c:Nat):∀ (a h:List Int) (m:Int),m.toNat=c->Can RR a m->a.length+h.length<17179869184->h.length+4*a.length<17179869184->Dg HH h->(m=0->Nm h)->vl HH h+m*HH ^ h.length=n->(∀ a':List Int,a'.length<=a.length->True) ->
 ∃ r,Ev (fun k=>aF.l0 k a h) r/\Can WW r n:=by
 induction c using Nat.strongRecOn with
 | _ c ih =>
  intro a h m hm ha hl hl2 hd hnm hv _;have d:=ha.fz aW
  by_cases hz:m=0
  ·have e:a=[]:=(ha.Bw aW).2 hz;subst hz;subst e;rw [VL,Ve] at hv;obtain ⟨r,h1,h2⟩:=Dm Q2 hd (hnm rfl) n h.length 0 [] Q2 rfl (Dg.nil _) (fun _=>Nm.nil) (by simpa [vl] using hv);refine ⟨r,?_,h2⟩;refine Ev.step (fun k=>by rw [aF.l0]) ?_;exact eL Q3 h1
  have b:a.length≠0:=fun f=>hz ((ha.jP aW).1 f);obtain ⟨q,h1,h2,h3⟩:=xC (K:=65536) Q2 ha Q2;have hq:q.length+1<=a.length:=by
   have h4:=ha.lt aW;have h5:m / 65536<RR ^ (a.length-1):=by
    have h6:RR ^ a.length=RR ^ (a.length-1)*RR:=by
     conv=>lhs;rw [show a.length=a.length-1+1 by omega,QM]
    rw [h6,eC] at h4;rw [eC];omega
   have:=h2.gy cJ h5;omega
  obtain ⟨r,h7,h8⟩:=ih (m / 65536).toNat Q2 q (h++[m % 65536]) (m / 65536) rfl h2 (by simp;omega) (by simp;omega) (hd.append (Dg.mk Q2 (by rw [E7];omega) (Dg.nil _)))
   (by
    intro hz2 hne;rw [oU];omega)
   (by rw [oh,Qf,List.length_singleton,QM,QH (HH ^ h.length) HH];exact alg_h hv (by rw [E7];omega)) (fun _ _=>trivial)
  refine ⟨r,?_,h8⟩;refine Ev.step (fun k=>by rw [aF.l0]) ?_;exact bB Q2 (Ev.bind h1 (bB Q2 h7))
theorem F3 {a:List Int} {n:Int} (hn:a.length<1073741824) (ha:Can RR a n):∃ r,Ev (fun k=>aF.f k a) r/\Can WW r n:=by
 obtain ⟨r,h1,h2⟩:=F4 n n.toNat a [] n rfl ha (by simp;omega) (by simp;omega) (Dg.nil _) (fun _=>Nm.nil) (by simp [vl]) (fun _ _=>trivial);exact ⟨r,Ev.congr (fun k=>by rw [aF.f]) h1,h2⟩
theorem eq_ev {a b:List Int} (hl:a.length=b.length) (hn:a.length<4611686018427387904) (d:Nat):∀ i:Nat,a.length-i=d->i<=a.length->a.take i=b.take i->∃ r,Ev (fun k=>aD.l0 k a b (a.length:Int) (i:Int)) r/\(r=true↔a=b):=by
 induction d with
 | zero =>
  intro i h1 h2 h3;have e:i=a.length:=Q2;subst e;rw [Qw,Qp Q2] at h3;refine ⟨true,?_,by simp [h3]⟩;refine Ev.step (fun k=>by rw [aD.l0]) ?_;exact eL Q2 (aV _)
 | succ d ih =>
  intro i h1 h2 h3
  by_cases he:rd a i=rd b i
  ·obtain ⟨r,h4,h5⟩:=ih (i+1) Q2 Q2 (by
    rw [V8 Q2,V8 Q2,h3,<- lN a i Q2,<- lN b i Q2,he])
   refine ⟨r,?_,h5⟩;refine Ev.step (fun k=>by rw [aD.l0]) ?_;rw [gi (i:=i) Q2];exact bB Q2 (bB Q2 (bB Q2 (bB Q2 (bB he h4))))
  refine ⟨false,?_,by
   simp only [Vo,YI];rintro rfl;exact he rfl⟩
  refine Ev.step (fun k=>by rw [aD.l0]) ?_;exact bB Q2 (bB Q2 (bB Q2 (bB Q2 (eL he (aV _)))))
theorem eq_sp (a b:List Int) (hn:a.length<4611686018427387904):∃ r,Ev (fun k=>aD.f k a b) r/\(r=true↔a=b):=by
 unfold aD.f
 by_cases hl:a.length=b.length
 ·obtain ⟨r,h1,h2⟩:=eq_ev hl hn a.length 0 Q2 Q2 Q3;exact ⟨r,bB Q2 h1,h2⟩
 refine ⟨false,eL Q2 (aV _),?_⟩;simp only [Vo,YI];rintro rfl;exact hl rfl
theorem DN (k:IntKind) (a b:Int):Go.bits .or k a b=Go.bits .or k b a:=by
 simp only [Go.bits];rw [BitVec.or_comm]
theorem Gq {h x:Int} (hh:0<=h/\h<4294967296) (hx:0<=x/\x<4294967296):Go.bits .or .u64 (h*4294967296) x=h*4294967296+x :=
 bits_join .u64 64 (by decide) (fun n a b=>by rw [IntKind.wrap_u64];omega) 32 _ _ Q2 Q2 Q2 hx.1 Q2 Q2
theorem or64' {h x:Int} (hh:0<=h/\h<4294967296) (hx:0<=x/\x<4294967296):Go.bits .or .u64 x (h*4294967296)=h*4294967296+x:=by
 rw [DN,Gq hh hx]
theorem alg_dw {t r va q rr d R K:Int} (h:t*K+r=va) (a:q*K+rr=r*R+d):(q+R*t)*K+rr=d+R*va:=by grind
theorem yj {a:List Int} (hn:a.length<68719476736) (ha:Dg WW a) {K:Int} (hK:1<=K/\K<4294967296) (d:Nat):∀ (i:Nat) (o:List Int) (r:Int),i=d->i<=a.length->o.length=a.length->Dg WW (o.drop i)->0<=r->r<K->vl WW (o.drop i)*K+r=vl WW (a.drop i) ->
 ∃ q z,Ev (fun k=>dY.l0 k a K o r ((i:Int)-1)) (q,z)/\(∃ m,Can WW q m/\m*K+z=vl WW a)/\0<=z/\z<K/\q.length<=a.length:=by
 induction d with
 | zero =>
  rintro i o r rfl h1 h2 h3 h4 h5 h6;rw [V9] at h3 h6;rw [V9] at h6;obtain ⟨q,h7,h8,h9⟩:=fV (l:=o) Q2 h3;have er:r % 4294967296=r:=Q2;refine ⟨q,r,?_,⟨_,h8,h6⟩,h4,h5,Q2⟩;refine Ev.step (fun k=>by rw [dY.l0]) ?_;rw [er];exact eL Q2 (Ev.bind h7 (aV _))
 | succ d ih =>
  rintro i o r rfl h1 h2 h3 h4 h5 h6;have e1:(((d+1:Nat):Int)-1)=(d:Int):=Q2;have hx:=dQ ha (d:Int) Q2 Q2;rw [cS] at hx;have b:0<=r*4294967296+rd a d:=Q2;have c:0<=(r*4294967296+rd a d) / K:=VA b Q2;have e:(r*4294967296+rd a d) / K<4294967296:=by
   refine VZ Q2 ?_;have:(r+1)*4294967296<=K*4294967296:=QQ Q2 Q2;omega
  have f:=V4 (r*4294967296+rd a d) (show K≠0 by omega);have g:=QU (r*4294967296+rd a d) (show 0<K by omega);have h:(r*4294967296+rd a d) / K*K+(r*4294967296+rd a d) % K=r*WW+rd a d:=by rw [cS];exact XA _ _
  obtain ⟨q,z,h7,h8⟩:=ih d (o.set d ((r*4294967296+rd a d) / K)) ((r*4294967296+rd a d) % K) rfl Q2 (by simpa using h2)
   (by rw [fH _ _ _ Q2];exact Dg.mk c (by rw [cS];exact e) h3) f g
   (by rw [fH _ _ _ Q2,fP a d Q2,vl,vl];exact alg_dw h6 h)
  refine ⟨q,z,?_,h8⟩;refine Ev.step (fun k=>by rw [dY.l0]) ?_;rw [e1,u64 (x:=r*4294967296) Q2 Q2,u64 (x:=rd a d) Q2 Q2,u64 (x:=K) Q2 Q2,Gq ⟨h4,Q2⟩ hx,fO b,fU b,u64 (x:=(r*4294967296+rd a d) / K) Q2 Q2,cD (x:=(d:Int)-1) Q2 Q2,Int.toNat_natCast,VF c e];exact bB Q2 (bB Q2 (bB Q2 (eL Q2 (bB Q2 h7))))
theorem yi {a:List Int} {n K:Int} (hn:a.length<68719476736) (ha:Can WW a n) (hK:1<=K/\K<4294967296):∃ q,Ev (fun k=>dY.f k a K) (q,n % K)/\Can WW q (n / K)/\q.length<=a.length:=by
 obtain ⟨q,z,h1,⟨m,h2,h3⟩,h4,h5,h6⟩:=yj hn ha.1 hK a.length a.length (List.replicate a.length 0) 0 rfl (Qn _) Q3 (by rw [QG Q3];exact Dg.nil _) Q2 Q2 (by rw [QG Q3,V2];simp [vl]);rw [ha.2.2] at h3;have e1:n / K=m:=by
  rw [<- h3,Xv,Int.add_mul_ediv_right _ _ Q2,VG h4 h5];omega
 have e2:n % K=z:=by
  rw [<- h3,Xv,XR,VF h4 h5]
 refine ⟨q,?_,by rw [e1];exact h2,h6⟩;unfold dY.f;rw [e2,cD (x:=(a.length:Int)-1) Q2 Q2,Int.toNat_natCast];exact bB Q2 (bB Q2 h1)
theorem Nj:∀ i:Fin 256,∃ L:Fin 9,bt (⟨#[0,1,2,2,3,3,3,3,4,4,4,4,4,4,4,4,5,5,5,5,5,5,5,5,5,5,5,5,5,5,5,5,6,6,6,6,6,6,6,6,6,6,6,6,6,6,6,6,6,6,6,6,6,6,6,6,6,6,6,6,6,6,6,6,7,7,7,7,7,7,7,7,7,7,7,7,7,7,7,7,7,7,7,7,7,7,7,7,7,7,7,7,7,7,7,7,7,7,7,7,7,7,7,7,7,7,7,7,7,7,7,7,7,7,7,7,7,7,7,7,7,7,7,7,7,7,7,7,8,8,8,8,8,8,8,8,8,8,8,8,8,8,8,8,8,8,8,8,8,8,8,8,8,8,8,8,8,8,8,8,8,8,8,8,8,8,8,8,8,8,8,8,8,8,8,8,8,8,8,8,8,8,8,8,8,8,8,8,8,8,8,8,8,8,8,8,8,8,8,8,8,8,8,8,8,8,8,8,8,8,8,8,8,8,8,8,8,8,8,8,8,8,8,8,8,8,8,8,8,8,8,8,8,8,8,8,8,8,8,8,8,8,8,8,8,8,8,8,8,8,8,8,8,8,8,8]⟩:ByteArray) ((i.val:Nat):Int)=(L.val:Int)/\i.val<2 ^ L.val/\(i.val≠0->2 ^ (L.val-1)<=i.val/\1<=L.val):=by decide +kernel
theorem tA {x:Int} (a:0<=x) (b:x<256):∃ L:Nat,bt (⟨#[0,1,2,2,3,3,3,3,4,4,4,4,4,4,4,4,5,5,5,5,5,5,5,5,5,5,5,5,5,5,5,5,6,6,6,6,6,6,6,6,6,6,6,6,6,6,6,6,6,6,6,6,6,6,6,6,6,6,6,6,6,6,6,6,7,7,7,7,7,7,7,7,7,7,7,7,7,7,7,7,7,7,7,7,7,7,7,7,7,7,7,7,7,7,7,7,7,7,7,7,7,7,7,7,7,7,7,7,7,7,7,7,7,7,7,7,7,7,7,7,7,7,7,7,7,7,7,7,8,8,8,8,8,8,8,8,8,8,8,8,8,8,8,8,8,8,8,8,8,8,8,8,8,8,8,8,8,8,8,8,8,8,8,8,8,8,8,8,8,8,8,8,8,8,8,8,8,8,8,8,8,8,8,8,8,8,8,8,8,8,8,8,8,8,8,8,8,8,8,8,8,8,8,8,8,8,8,8,8,8,8,8,8,8,8,8,8,8,8,8,8,8,8,8,8,8,8,8,8,8,8,8,8,8,8,8,8,8,8,8,8,8,8,8,8,8,8,8,8,8,8,8,8,8,8,8]⟩:ByteArray) x=(L:Int)/\L<=8/\x<2 ^ L/\(x≠0->2 ^ (L-1)<=x/\1<=L):=by
 obtain ⟨n,rfl⟩:=Wx a;obtain ⟨L,h2,h3,h4⟩:=Nj ⟨n,Q2⟩;refine ⟨L.val,h2,Q2,by exact_mod_cast h3,fun h=>?_⟩;obtain ⟨h5,h6⟩:=h4 (show n≠0 by omega);exact ⟨by exact_mod_cast h5,h6⟩
theorem FJ {x y:Int} {L k:Nat} (b:0<=x) (e:y=x / 2 ^ k) (c:y<2 ^ L) (a:2 ^ (L-1)<=y) (d:1<=L):x<2 ^ (k+L)/\2 ^ (k+L-1)<=x:=by
 have hp:(0:Int)<2 ^ k:=Vu (by decide);have d1:=Vt x (2 ^ k);have d2:=V4 x (show (2:Int) ^ k≠0 by omega);have d3:=QU x hp;rw [<- e] at d1;have e2:k+L-1=k+(L-1):=Q2;rw [e2,Va,Va];have m1:(2:Int) ^ k*(y+1)<=2 ^ k*2 ^ L:=Ql Q2 Q2;have m2:(2:Int) ^ k*2 ^ (L-1)<=2 ^ k*y:=Ql a Q2;rw [WY] at m1;omega
theorem LO {x:Int} (a:0<=x) (b:x<4294967296):∃ L:Nat,bits_Len32.f x=some (L:Int)/\L<=32/\x<2 ^ L/\(x≠0->2 ^ (L-1)<=x/\1<=L):=by
 unfold bits_Len32.f
 by_cases c1:x>=65536
 ·by_cases c2:x / 65536>=256
  ·have e:x / 65536 / 256 % 256=x / 2 ^ 24:=by omega
   obtain ⟨L,t1,t2,t3,t4⟩:=tA (x:=x / 2 ^ 24) Q2 Q2;obtain ⟨t5,t6⟩:=t4 Q2;obtain ⟨t7,t8⟩:=FJ a rfl t3 t5 t6;refine ⟨24+L,?_,Q2,t7,fun _=>⟨t8,Q2⟩⟩;rw [Qk c1,Qk c2,e,Qk Q2,Qk Q2,t1,cD (x:=(L:Int)) Q2 Q2,cD Q2 Q2];exact congrArg some Q2
  have e:x / 65536 % 256=x / 2 ^ 16:=Q2;obtain ⟨L,t1,t2,t3,t4⟩:=tA (x:=x / 2 ^ 16) Q2 Q2;obtain ⟨t5,t6⟩:=t4 Q2;obtain ⟨t7,t8⟩:=FJ a rfl t3 t5 t6;refine ⟨16+L,?_,Q2,t7,fun _=>⟨t8,Q2⟩⟩;rw [Qk c1,Qc c2,e,Qk Q2,Qk Q2,t1,cD (x:=(L:Int)) Q2 Q2,cD Q2 Q2];exact congrArg some Q2
 by_cases c2:x>=256
 ·have e:x / 256 % 256=x / 2 ^ 8:=by omega
  obtain ⟨L,t1,t2,t3,t4⟩:=tA (x:=x / 2 ^ 8) Q2 Q2;obtain ⟨t5,t6⟩:=t4 Q2;obtain ⟨t7,t8⟩:=FJ a rfl t3 t5 t6;refine ⟨8+L,?_,Q2,t7,fun _=>⟨t8,Q2⟩⟩;rw [Qc c1,Qk c2,e,Qk Q2,Qk Q2,t1,cD (x:=(L:Int)) Q2 Q2,cD Q2 Q2];exact congrArg some Q2
 have e:x % 256=x:=Q2;obtain ⟨L,t1,t2,t3,t4⟩:=tA (x:=x) Q2 Q2;refine ⟨L,?_,Q2,t3,t4⟩;rw [Qc c1,Qc c2,e,Qk Q2,Qk Q2,t1,cD (x:=(L:Int)) Q2 Q2,cD Q2 Q2];exact congrArg some Q2
theorem Ic {x:Int} (a:0<=x) (b:x<4294967296):∃ L:Nat,bits_LeadingZeros32.f x=some ((32-L:Nat):Int)/\L<=32/\x<2 ^ L/\(x≠0->2 ^ (L-1)<=x/\1<=L):=by
 obtain ⟨L,t1,t2,t3⟩:=LO a b;refine ⟨L,?_,t2,t3⟩;unfold bits_LeadingZeros32.f;rw [t1,Option.bind_some,cD Q2 Q2];exact congrArg some Q2
theorem Hi (w:Nat):WW ^ w=2 ^ (32*w):=by rw [Yw];rfl
theorem zP (s:Nat):(2:Int) ^ s=WW ^ (s / 32)*2 ^ (s % 32):=by
 rw [Hi,<- Va];congr 1;omega
theorem uc {a:List Int} (h:0<a.length):vl WW a=vl WW (a.take (a.length-1))+rd a ((a.length:Int)-1)*WW ^ (a.length-1):=by
 have e:=dL WW a (a.length-1) Q2;rw [Nat.sub_add_cancel h,Qw] at e;rw [e];congr 2;congr 1;omega
theorem vS {a:List Int} {n:Int} (hn:a.length<68719476736) (ha:Can WW a n):∃ b:Nat,ix.f a=some (b:Int)/\b<=32*a.length/\(a.length=0->b=0)/\(n≠0->2 ^ (b-1)<=n/\n<2 ^ b/\1<=b/\32*(a.length-1)<b):=by
 unfold ix.f
 by_cases c:a.length=0
 ·refine ⟨0,by rw [Qk Q2];rfl,Q2,fun _=>rfl,fun h=>absurd ((ha.jP aH).1 c) h⟩
 have hx:=dQ ha.1 ((a.length:Int)-1) Q2 Q2;have d:=ha.2.1.rd Q2;rw [cS] at hx;obtain ⟨L,t1,t2,t3,t4⟩:=Ic hx.1 hx.2;obtain ⟨t5,t6⟩:=t4 d;refine ⟨32*a.length-(32-L),?_,Q2,fun h=>absurd h c,fun _=>?_⟩
 ·rw [Qc Q2,cD (x:=(a.length:Int)-1) Q2 Q2,Qk Q2,Qk Q2,t1,Option.bind_some,cD (x:=32*(a.length:Int)) Q2 Q2,cD Q2 Q2];congr 1;omega
 have lv:=uc (a:=a) Q2;rw [ha.2.2] at lv;have hd:=ha.1.take (a.length-1);have l0:=bO aH hd;have l1:=gC aH hd;rw [Qd,QO Q2] at l1;have hP:(0:Int)<WW ^ (a.length-1):=jH aH _;generalize hr:rd a ((a.length:Int)-1)=r at *
 have e1:(2:Int) ^ (32*a.length-(32-L))=2 ^ L*WW ^ (a.length-1):=by rw [Hi,<- Va];congr 1;omega
 have e2:(2:Int) ^ (32*a.length-(32-L)-1)=2 ^ (L-1)*WW ^ (a.length-1):=by rw [Hi,<- Va];congr 1;omega
 have m1:(r+1)*WW ^ (a.length-1)<=2 ^ L*WW ^ (a.length-1):=QQ Q2 Q2;have m2:2 ^ (L-1)*WW ^ (a.length-1)<=r*WW ^ (a.length-1):=QQ t5 Q2;rw [WN] at m1;rw [e1,e2];exact ⟨Q2,Q2,Q2,Q2⟩
theorem KR {x:Int} {p:Nat} (hp:p<32) (hx:0<=x/\x<4294967296):shl .u64 (IntKind.u64.wrap x) (p:Int)=x*2 ^ p/\0<=x*2 ^ p/\x*2 ^ p<4294967296*2 ^ p/\(2:Int) ^ p<=2147483648/\(1:Int)<=2 ^ p:=by
 have h1:(1:Int)<=2 ^ p:=by have:(0:Int)<2 ^ p:=Vu (by decide);omega
 have h2:(2:Int) ^ p<=2 ^ 31:=by
  have:2 ^ p<=2 ^ 31:=XH (by decide) Q2
  exact_mod_cast this
 have h3:x*2 ^ p<4294967296*2 ^ p:=WE hx.2 Q2;have h4:0<=x*2 ^ p:=QX hx.1 Q2;refine ⟨?_,h4,h3,Q2,h1⟩;have hm:min p IntKind.u64.bits=p:=by
  have:IntKind.u64.bits=64:=rfl;omega
 unfold shl;rw [Int.toNat_natCast,hm,u64 (x:=x) Q2 Q2,u64 h4 Q2]
theorem OK {vo P sM lo hi va x M W T Q:Int} (h:vo+sM*P=va*M*T) (hy:lo+W*hi=x*M) (hP:P=T*Q):(vo+(sM+lo)*P)+hi*(W*P)=(va+x*Q)*M*T:=by grind
theorem Lx {x sM:Int} {p:Nat} (hp:p<32) (hx:0<=x/\x<4294967296) (ho:0<=sM/\sM<2 ^ p):Go.bits .or .u32 sM (x*2 ^ p % 4294967296)=sM+x*2 ^ p % 4294967296:=by
 obtain ⟨_,b,h2,h3,h4⟩:=KR hp hx;have hd:x*2 ^ p % 4294967296 % 2 ^ p=0:=by
  have a:(2:Int) ^ p ∣ 4294967296:=by
   have:(4294967296:Int)=2 ^ p*2 ^ (32-p):=by rw [<- Va,show p+(32-p)=32 by omega];rfl
   rw [this];exact Int.dvd_mul_right _ _
  rw [Int.emod_emod_of_dvd _ a,Int.mul_emod_left]
 rw [DN,bits_join .u32 32 (by decide) (fun n c b=>by rw [IntKind.wrap_u32];omega) p _ _ Q2 hd Q2 ho.1 ho.2 Q2];omega
theorem JD {x sM:Int} {p:Nat} (hp:p<32) (hx:0<=x/\x<4294967296) (ho:0<=sM/\sM<2 ^ p):sM+x*2 ^ p % 4294967296<4294967296:=by
 have h:=(bits_within .or .u32 sM (x*2 ^ p % 4294967296)).2;rw [Lx hp hx ho] at h;have e:IntKind.u32.max=4294967295:=rfl;rw [e] at h;exact Wq h (by decide)
theorem GH {a:List Int} {w p:Nat} (hn:a.length+w<68719476736) (hp:p<32) (ha:Dg WW a) (d:Nat):∀ (i:Nat) (o:List Int),a.length-i=d->i<=a.length->o.length=a.length+w+1->Dg WW o->vl WW (o.take (i+w+1))=vl WW (a.take i)*2 ^ p*WW ^ w->rd o ((i+w:Nat):Int)<2 ^ p ->
 ∃ r,Ev (fun k=>fD.l0 k (w:Int) (p:Int) o a (a.length:Int) (i:Int)) r/\Can WW r (vl WW a*(WW ^ w*2 ^ p))/\r.length<=a.length+w+1:=by
 induction d with
 | zero =>
  intro i o h1 h2 h3 h4 h5 h6;have ei:i=a.length:=Q2;subst ei;rw [<- h3,Qw,Qw] at h5;obtain ⟨r,r1,r2,r3⟩:=fV (l:=o) Q2 h4;rw [h5] at r2;refine ⟨r,?_,by rw [QH (WW ^ w),<- Ws];exact r2,Q2⟩;refine Ev.step (fun k=>by rw [fD.l0]) ?_;exact eL Q2 (Ev.bind r1 (aV _))
 | succ d ih =>
  intro i o h1 h2 h3 h4 h5 h6;have hx:=dQ ha (i:Int) Q2 Q2;have ho:=dQ h4 ((i+w:Nat):Int) Q2 Q2;rw [cS] at hx ho;obtain ⟨s2,s3,s4,s5⟩:=(KR hp hx).2;have e:rd a (i:Int)*2 ^ p % 4294967296+WW*(rd a (i:Int)*2 ^ p / 4294967296)=rd a (i:Int)*2 ^ p:=by rw [cS];exact Xa _ _
  have b:0<=rd a (i:Int)*2 ^ p / 4294967296:=Q2;have c:rd a (i:Int)*2 ^ p / 4294967296<2 ^ p:=VZ Q2 Q2;have g:=JD hp hx ⟨ho.1,h6⟩;generalize hlo:rd a (i:Int)*2 ^ p % 4294967296=lo at *
  generalize hhi:rd a (i:Int)*2 ^ p / 4294967296=hi at *
  have f:0<=lo:=Q2;have d1:Dg WW (o.set (i+w) (rd o ((i+w:Nat):Int)+lo)):=h4.set _ Q2 (by rw [cS];omega);obtain ⟨r,r1,r2⟩:=ih (i+1) ((o.set (i+w) (rd o ((i+w:Nat):Int)+lo)).set (i+w+1) hi) Q2 Q2 (by simpa using h3)
   (d1.set _ b (by rw [cS];omega))
   (by
    rw [show i+1+w+1=i+w+1+1 by omega,iq _ _ _ _ (by simp;omega),iq _ _ _ _ Q2,dL WW a i Q2,QM,QH (WW ^ (i+w)) WW];rw [dL WW o (i+w) Q2] at h5;exact OK h5 e (by rw [Va,QH]))
   (by
    rw [show ((i+1+w:Nat):Int)=((i+w+1:Nat):Int) by omega];have:=zL (o.set (i+w) (rd o ((i+w:Nat):Int)+lo)) ((i+w+1:Nat):Int) hi (by simp;omega);rw [Int.toNat_natCast] at this;rw [this];exact c)
  refine ⟨r,?_,r2⟩;refine Ev.step (fun k=>by rw [fD.l0]) ?_;have e2:hi % 4294967296=hi:=Q2;rw [show (i:Int)+(w:Int)=((i+w:Nat):Int) by omega,cD (x:=((i+w:Nat):Int)) Q2 Q2,gi (i:=i+w) Q2,gi (i:=i) Q2,Int.toNat_natCast,Int.toNat_natCast,(KR hp hx).1,hlo,hhi,e2];have so:=Lx hp hx ⟨ho.1,h6⟩;rw [hlo] at so;rw [so];clear so;exact bB Q2 (bB Q2 (bB Q2 (bB Q2 (bB Q2 (bB Q2 (bB Q2 (bB Q2 r1)))))))
theorem yk {a:List Int} {n:Int} (s:Nat) (hn:a.length+s<68719476736) (ha:Can WW a n):∃ r,Ev (fun k=>fD.f k a (s:Int)) r/\Can WW r (n*2 ^ s)/\r.length<=a.length+s / 32+1:=by
 unfold fD.f
 by_cases c:a.length=0
 ·refine ⟨[],bB Q2 (aV _),?_,Q3⟩;rw [(ha.jP aH).1 c,VL];exact Can.zero _
 obtain ⟨r,r1,r2,r3⟩:=GH (a:=a) (w:=s / 32) (p:=s % 32) Q2 Q2 ha.1 a.length 0 (List.replicate (a.length+s / 32+1) 0) Q2 Q2 Q3 (Dg.rep aH _)
  (by rw [List.take_replicate,Ax,List.take_zero,vl];simp)
  (by
   have h1:(0:Int)<2 ^ (s % 32):=Vu (by decide);have h2:rd (List.replicate (a.length+s / 32+1) (0:Int)) ((0+s / 32:Nat):Int)=0:=by
    rw [lN _ _ (by simp;omega)];simp
   rw [h2];exact h1)
 rw [<- zP,ha.2.2] at r2;refine ⟨r,?_,r2,r3⟩;have e1:wrap64 (Int.tdiv (s:Int) 32)=((s / 32:Nat):Int):=by rw [fO Q2,cD Q2 Q2];omega
 have e2:IntKind.u64.wrap (Int.tmod (s:Int) 32)=((s % 32:Nat):Int):=by rw [fU Q2,u64 Q2 Q2];omega
 have e3:wrap64 (wrap64 ((a.length:Int)+((s / 32:Nat):Int))+1)=((a.length+s / 32+1:Nat):Int):=by rw [cD (x:=(a.length:Int)+((s / 32:Nat):Int)) Q2 Q2,cD Q2 Q2];omega
 rw [e1,e2,e3,Int.toNat_natCast];exact eL Q2 (bB Q2 (bB Q2 r1))
theorem two_pos (p:Nat):(0:Int)<2 ^ p:=Vu (by decide)
theorem shr_p {x:Int} {p:Nat} (hp:p<32):shr .u64 x (p:Int)=x / 2 ^ p:=by
 have hm:min p IntKind.u64.bits=p:=by
  have:IntKind.u64.bits=64:=rfl;omega
 unfold shr;rw [Int.toNat_natCast,hm]
theorem MU {p:Nat} (hp:p<32):WW=2 ^ p*2 ^ (32-p):=by rw [<- Va,show p+(32-p)=32 by omega];rfl
theorem KQ {x T t:Int} {p:Nat} (hp:p<32) (hx:0<=x/\x<WW) (ht:0<=t/\t<WW) (hT:∃ u,0<=u/\T=t+WW*u) :
 (t*WW+x) / 2 ^ p % WW+WW*(T / 2 ^ p)=(x+WW*T) / 2 ^ p/\0<=(t*WW+x) / 2 ^ p % WW/\(t*WW+x) / 2 ^ p % WW<WW:=by
 obtain ⟨u,hu,hT⟩:=hT;have hM:=two_pos p;have hW:=MU hp;have hK:=two_pos (32-p);have a:=aH;have b:=cS;generalize hMM:(2:Int) ^ p=M at *
 generalize hKK:(2:Int) ^ (32-p)=K at *
 refine ⟨?_,V4 _ Q2,QU _ a⟩;have d1:=Vt t M;have r0:=V4 t (show M≠0 by omega);have r1:=QU t hM;generalize hq:t / M=q at *
 generalize hr:t % M=r at *
 clear hq hr;have a1:t*WW+x=(x+WW*r)+M*(WW*q):=by rw [<- d1];grind
 have a2:T=r+M*(q+K*u):=by rw [hT,<- d1,hW];grind
 have a3:x+WW*T=(x+WW*r)+M*(WW*(q+K*u)):=by rw [a2];grind
 have lo:0<=x+WW*r:=by
  have:=QX (Vz a) r0;omega
 have hi:x+WW*r<M*WW:=by
  have m:WW*(r+1)<=WW*M:=Ql Q2 Q2;rw [WY,QH WW M] at m;omega
 rw [a1,a3,Wm _ _ Q2,Wm _ _ Q2];have e2:T / M=q+K*u:=by rw [a2,Wm _ _ Q2,VG r0 r1];omega
 rw [e2];have b0:0<=(x+WW*r) / M:=VA lo Q2;have b1:(x+WW*r) / M<WW:=VZ hM (by rw [QH WW M];exact hi);rw [Wf,VF b0 b1]
theorem OJ {vo P d T W V T0:Int} (h:vo+P*T0=V) (a:d+W*T=T0):(vo+d*P)+(P*W)*T=V:=by grind
theorem Ks (a:List Int) (ha:Dg WW a) (i:Nat):∃ t,0<=t/\t<WW/\(∃ u,0<=u/\vl WW (a.drop i)=t+WW*u)/\(i<a.length->t=rd a (i:Int))/\(a.length<=i->t=0):=by
 by_cases c:i<a.length
 ·have hx:=dQ ha (i:Int) Q2 Q2;refine ⟨rd a (i:Int),hx.1,hx.2,⟨vl WW (a.drop (i+1)),bO aH (ha.drop _),by rw [fP a i c,vl]⟩,fun _=>rfl,fun h=>Q2⟩
 exact ⟨0,by decide,by decide,⟨0,by decide,by rw [QG Q2,vl];rfl⟩,fun h=>absurd h c,fun _=>rfl⟩
theorem GG {a:List Int} {w p m:Nat} (hn:a.length<68719476736) (hw:w+m=a.length) (hp:p<32) (ha:Dg WW a) (d:Nat):∀ (i:Nat) (o:List Int),m-i=d->i<=m->o.length=m->Dg WW (o.take i)->vl WW (o.take i)+WW ^ i*(vl WW (a.drop (i+w)) / 2 ^ p)=vl WW (a.drop w) / 2 ^ p ->
 ∃ r,Ev (fun k=>fq.l0 k a (w:Int) (p:Int) o (m:Int) (i:Int)) r/\Can WW r (vl WW (a.drop w) / 2 ^ p)/\r.length<=m:=by
 induction d with
 | zero =>
  intro i o h1 h2 h3 h4 h5;have ei:i=m:=Q2;subst ei;rw [QG Q2,vl,Int.zero_ediv,W6,Ve,<- h3,Qw] at h5;rw [<- h3,Qw] at h4;obtain ⟨r,r1,r2,r3⟩:=fV (l:=o) Q2 h4;rw [h5] at r2;refine ⟨r,?_,r2,Q2⟩;refine Ev.step (fun k=>by rw [fq.l0]) ?_;exact eL Q2 (Ev.bind r1 (aV _))
 | succ d ih =>
  intro i o h1 h2 h3 h4 h5;have hx:=dQ ha ((i+w:Nat):Int) Q2 Q2;obtain ⟨t,t0,t1,t2,t3,t4⟩:=Ks a ha (i+w+1);obtain ⟨s1,s2,s3⟩:=KQ hp hx ⟨t0,t1⟩ t2;rw [fP a (i+w) Q2,vl] at h5;obtain ⟨r,r1,r2⟩:=ih (i+1) (o.set i ((t*WW+rd a ((i+w:Nat):Int)) / 2 ^ p % WW)) Q2 Q2 (by simpa using h3)
   (Dg.take_set Q2 h4 s2 s3)
   (by
    rw [iq _ _ _ _ Q2,show i+1+w=i+w+1 by omega,QM];exact OJ h5 s1)
  refine ⟨r,?_,r2⟩;refine Ev.step (fun k=>by rw [fq.l0]) ?_;rw [cS] at hx t1;rw [show (i:Int)+(w:Int)=((i+w:Nat):Int) by omega,cD (x:=((i+w:Nat):Int)) Q2 Q2,gi (i:=i+w) Q2,gi (i:=i) Q2,Int.toNat_natCast];refine bB Q2 (bB Q2 (bB Q2 ?_))
  by_cases c:i+w+1<a.length
  ·have e:=t3 c;rw [<- e,u64 (x:=t) Q2 Q2,u64 (x:=rd a ((i+w:Nat):Int)) Q2 Q2,u64 (x:=t*4294967296) Q2 Q2,or64' ⟨t0,t1⟩ hx,shr_p (x:=t*4294967296+rd a ((i+w:Nat):Int)) hp];exact bB Q2 (bB Q2 (bB Q2 (bB Q2 (bB Q2 r1))))
  have e:=t4 Q2;subst e;rw [VL,XS] at r1;rw [u64 (x:=rd a ((i+w:Nat):Int)) Q2 Q2,shr_p (x:=rd a ((i+w:Nat):Int)) hp];exact eL Q2 (bB Q2 (bB Q2 (bB Q2 r1)))
theorem OB {a:List Int} {n:Int} (ha:Can WW a n) (s:Nat):(s / 32<a.length->n / 2 ^ s=vl WW (a.drop (s / 32)) / 2 ^ (s % 32))/\(a.length<=s / 32->n / 2 ^ s=0):=by
 have hP:=jH aH (s / 32);have hM:=two_pos (s % 32);rw [zP s];constructor
 ·intro h;have hd:=iE WW a (s / 32) Q2;rw [ha.2.2] at hd;have l0:=bO aH (ha.1.take (s / 32));have l1:=gC aH (ha.1.take (s / 32));rw [Qd,QO Q2] at l1;rw [hd,<- Int.ediv_ediv_of_nonneg Q2,Wm _ _ Q2,VG l0 l1,XS]
 intro h;have h1:=ha.lt aH;have h2:=fy (B:=WW) (by decide) h;refine VG (ha.fz aH) ?_;have h3:WW ^ (s / 32)*1<=WW ^ (s / 32)*2 ^ (s % 32):=Ql Q2 Q2;omega
theorem sT {a:List Int} {n:Int} (s:Nat) (hn:a.length<68719476736) (hs:s<68719476736) (ha:Can WW a n):∃ r,Ev (fun k=>fq.f k a (s:Int)) r/\Can WW r (n / 2 ^ s)/\r.length<=a.length:=by
 obtain ⟨c1,c2⟩:=OB ha s;have e1:wrap64 (Int.tdiv (s:Int) 32)=((s / 32:Nat):Int):=by rw [fO Q2,cD Q2 Q2];omega
 have e2:IntKind.u64.wrap (Int.tmod (s:Int) 32)=((s % 32:Nat):Int):=by rw [fU Q2,u64 Q2 Q2];omega
 unfold fq.f;rw [e1,e2];clear e1 e2
 by_cases c:a.length<=s / 32
 ·refine ⟨[],bB Q2 (aV _),?_,Q3⟩;rw [c2 c];exact Can.zero _
 obtain ⟨r,r1,r2,r3⟩:=GG (a:=a) (w:=s / 32) (p:=s % 32) (m:=a.length-s / 32) hn Q2 Q2 ha.1 (a.length-s / 32) 0 (List.replicate (a.length-s / 32) 0) Q2 Q2 Q3 (by rw [List.take_zero];exact Dg.nil _)
  (by rw [List.take_zero,vl,WO,QS];omega)
 rw [<- c1 Q2] at r2;refine ⟨r,?_,r2,Q2⟩;rw [show (a.length:Int)-((s / 32:Nat):Int)=((a.length-s / 32:Nat):Int) by omega,cD (x:=((a.length-s / 32:Nat):Int)) Q2 Q2,Int.toNat_natCast];refine eL Q2 (bB Q2 (bB Q2 (kL rfl ?_)));rw [QI];exact r1
theorem KH {o c b g x:Int} (ho:0<=o/\o<4294967296) (hc:0<=c/\c<4294967296) (hb:0<=b/\b<=1) (hg:0<=g/\g<4294967296) (hx:0<=x/\x<4294967296) :
 ∃ v c' b',IntKind.u64.wrap (c+IntKind.u64.wrap (g*IntKind.u64.wrap x)) / 4294967296=c'/\IntKind.u64.wrap (IntKind.u64.wrap (IntKind.u64.wrap o-IntKind.u64.wrap (c+IntKind.u64.wrap (g*IntKind.u64.wrap x)) % 4294967296)-b) % 4294967296=v/\IntKind.u64.wrap (IntKind.u64.wrap (IntKind.u64.wrap o-IntKind.u64.wrap (c+IntKind.u64.wrap (g*IntKind.u64.wrap x)) % 4294967296)-b) / 9223372036854775808=b'/\v-4294967296*(c'+b')=o-(c+b)-g*x/\0<=v/\v<4294967296/\0<=c'/\c'<4294967296/\0<=b'/\b'<=1:=by
 have hm:=yb hg hx;rw [u64 (x:=x) Q2 Q2,u64 (x:=g*x) Q2 Q2,u64 (x:=c+g*x) Q2 Q2,u64 (x:=o) Q2 Q2,IntKind.wrap_u64,IntKind.wrap_u64];generalize g*x=t at *
 refine ⟨_,_,_,rfl,rfl,rfl,?_,?_,?_,?_,?_,?_,?_⟩<;>omega
theorem KI {o c b:Int} (ho:0<=o/\o<4294967296) (hc:0<=c/\c<4294967296) (hb:0<=b/\b<=1) :
 ∃ v f,IntKind.u64.wrap (IntKind.u64.wrap (IntKind.u64.wrap o-c)-b) % 4294967296=v/\(IntKind.u64.wrap (IntKind.u64.wrap (IntKind.u64.wrap o-c)-b) / 9223372036854775808==1)=f/\0<=v/\v<4294967296/\v=o-(c+b)+(if f=true then 4294967296 else 0):=by
 rw [u64 (x:=o) Q2 Q2,IntKind.wrap_u64,IntKind.wrap_u64];refine ⟨_,_,rfl,rfl,Q2,Q2,?_⟩;simp only [W7];split<;>omega
theorem alg_s {vo c b P vu g vv v c' b' o x W:Int} (h:vo-(c+b)*P=vu-g*vv) (a:v-W*(c'+b')=o-(c+b)-g*x):(vo+v*P)-(c'+b')*(W*P)=(vu+o*P)-g*(vv+x*P):=by grind
theorem alg_s2 {vo c b P vu g vv v o e W:Int} (h:vo-(c+b)*P=vu-g*vv) (a:v=o-(c+b)+e):vo+v*P=(vu+o*P)-g*vv+e*P:=by grind
theorem wi {u v:List Int} {g:Int} (hl:u.length=v.length+1) (hn:v.length<68719476736) (hu:Dg WW u) (hv:Dg WW v) (hg:0<=g/\g<4294967296) (d:Nat):∀ (i:Nat) (o:List Int) (c b:Int),v.length-i=d->i<=v.length->o.length=u.length->Dg WW (o.take i)->o.drop i=u.drop i->0<=c->c<4294967296->0<=b->b<=1->vl WW (o.take i)-(c+b)*WW ^ i=vl WW (u.take i)-g*vl WW (v.take i) ->
 ∃ f r,Ev (fun k=>cB.l0 k o v g c b v (v.length:Int) (i:Int)) (f,r)/\Dg WW r/\r.length=u.length/\vl WW r=vl WW u-g*vl WW v+(if f=true then WW ^ u.length else 0):=by
 induction d with
 | zero =>
  intro i o c b h1 h2 h3 h4 h5 h6 h7 h8 h9 h10;have ei:i=v.length:=Q2;subst ei;have ho:=dQ hu (v.length:Int) Q2 Q2;rw [cS] at ho;obtain ⟨z,f,e1,e2,z0,z1,z2⟩:=KI ho ⟨h6,h7⟩ ⟨h8,h9⟩;have er:=lM u o v.length h5 Q2 h3;refine ⟨f,o.set v.length z,?_,?_,by simpa using h3,?_⟩
  ·refine Ev.step (fun k=>by rw [cB.l0]) ?_;refine eL Q2 (bB Q2 (bB Q2 ?_));rw [er,e1,e2,Int.toNat_natCast];exact aV _
  ·have:=Dg.take_set (l:=o) (i:=v.length) (v:=z) Q2 h4 z0 (by rw [cS];exact z1);rw [Qp (by simp;omega)] at this;exact this
  have e3:=iq WW o v.length z Q2;rw [Qp (by simp;omega)] at e3;have e4:=dL WW u v.length Q2;rw [Qp Q2] at e4;rw [Qw] at h10;rw [e3,e4,alg_s2 (W:=WW) h10 z2,hl,QM,QH (WW ^ v.length) WW];congr 1;cases f
  ·simp
  simp
 | succ d ih =>
  intro i o c b h1 h2 h3 h4 h5 h6 h7 h8 h9 h10;have ho:=dQ hu (i:Int) Q2 Q2;have hx:=dQ hv (i:Int) Q2 Q2;rw [cS] at ho hx;obtain ⟨z,c',b',e1,e2,e3,e4,z0,z1,c0,c1,b0,b1⟩:=KH ho ⟨h6,h7⟩ ⟨h8,h9⟩ hg hx;have er:=lM u o i h5 Q2 h3;obtain ⟨f,r,r1,r2⟩:=ih (i+1) (o.set i z) c' b' Q2 Q2 (by simpa using h3) (Dg.take_set Q2 h4 z0 (by rw [cS];exact z1))
   (by rw [iD];exact drop_tail u o i h5) c0 c1 b0 b1
   (by
    rw [iq _ _ _ _ Q2,dL WW u i Q2,dL WW v i Q2,QM,QH (WW ^ i) WW];exact alg_s h10 e4)
  refine ⟨f,r,?_,r2⟩;refine Ev.step (fun k=>by rw [cB.l0]) ?_;rw [er,e1,e2,e3,gi (i:=i) Q2,Int.toNat_natCast];clear e1 e2 e3;exact bB Q2 (bB Q2 (bB Q2 (bB Q2 r1)))
theorem wg {u v:List Int} {g:Int} (hl:u.length=v.length+1) (hn:v.length<68719476736) (hu:Dg WW u) (hv:Dg WW v) (hg:0<=g/\g<4294967296) :
 ∃ f r,Ev (fun k=>cB.f k u v g) (f,r)/\Dg WW r/\r.length=u.length/\vl WW r=vl WW u-g*vl WW v+(if f=true then WW ^ u.length else 0):=by
 obtain ⟨f,r,r1,r2⟩:=wi hl hn hu hv hg v.length 0 u 0 0 Q2 Q2 rfl (by rw [List.take_zero];exact Dg.nil _) rfl Q2 Q2 Q2 Q2 (by simp [vl]);exact ⟨f,r,by unfold cB.f;exact r1,r2⟩
theorem alg_r {vo c P vu vv v c' o x W:Int} (h:vo+c*P=vu+vv) (a:v+W*c'=c+(o+x)):(vo+v*P)+c'*(W*P)=(vu+o*P)+(vv+x*P):=by grind
theorem alg_r2 {vo c P vu vv v o e W:Int} (h:vo+c*P=vu+vv) (a:v+W*e=o+c):vo+v*P+e*(W*P)=(vu+o*P)+vv:=by grind
theorem yg {u v:List Int} (hl:u.length=v.length+1) (hn:v.length<68719476736) (hu:Dg WW u) (hv:Dg WW v) (d:Nat):∀ (i:Nat) (o:List Int) (c:Int),v.length-i=d->i<=v.length->o.length=u.length->Dg WW (o.take i)->o.drop i=u.drop i->0<=c->c<=1->vl WW (o.take i)+c*WW ^ i=vl WW (u.take i)+vl WW (v.take i) ->
 ∃ r e,Ev (fun k=>cO.l0 k o v c v (v.length:Int) (i:Int)) r/\Dg WW r/\r.length=u.length/\vl WW r+e*WW ^ u.length=vl WW u+vl WW v/\0<=e:=by
 induction d with
 | zero =>
  intro i o c h1 h2 h3 h4 h5 h6 h7 h8;have ei:i=v.length:=Q2;subst ei;have ho:=dQ hu (v.length:Int) Q2 Q2;rw [cS] at ho;have er:=lM u o v.length h5 Q2 h3;have ev:(rd u (v.length:Int)+c) % 4294967296+WW*((rd u (v.length:Int)+c) / 4294967296)=rd u (v.length:Int)+c:=by rw [cS];exact Xa _ _
  refine ⟨o.set v.length ((rd u (v.length:Int)+c) % 4294967296),(rd u (v.length:Int)+c) / 4294967296,?_,?_,by simpa using h3,?_,Q2⟩
  ·have ec:c % 4294967296=c:=by omega
   refine Ev.step (fun k=>by rw [cO.l0]) ?_;refine eL Q2 (bB Q2 (bB Q2 ?_));rw [er,ec,Int.toNat_natCast];exact aV _
  ·have:=Dg.take_set (l:=o) (i:=v.length) (v:=(rd u (v.length:Int)+c) % 4294967296) Q2 h4 Q2 (by rw [cS];omega);rw [Qp (by simp;omega)] at this;exact this
  have e3:=iq WW o v.length ((rd u (v.length:Int)+c) % 4294967296) Q2;rw [Qp (by simp;omega)] at e3;have e4:=dL WW u v.length Q2;rw [Qp Q2] at e4;rw [Qw] at h8;rw [e3,e4,hl,QM,QH (WW ^ v.length) WW];exact alg_r2 h8 ev
 | succ d ih =>
  intro i o c h1 h2 h3 h4 h5 h6 h7 h8;have ho:=dQ hu (i:Int) Q2 Q2;have hx:=dQ hv (i:Int) Q2 Q2;rw [cS] at ho hx;have er:=lM u o i h5 Q2 h3;have ev:(c+(rd u (i:Int)+rd v (i:Int))) % 4294967296+WW*((c+(rd u (i:Int)+rd v (i:Int))) / 4294967296)=c+(rd u (i:Int)+rd v (i:Int)):=by rw [cS];exact Xa _ _
  obtain ⟨r,e,r1,r2⟩:=ih (i+1) (o.set i ((c+(rd u (i:Int)+rd v (i:Int))) % 4294967296)) ((c+(rd u (i:Int)+rd v (i:Int))) / 4294967296) Q2 Q2 (by simpa using h3) (Dg.take_set Q2 h4 Q2 (by rw [cS];omega))
   (by rw [iD];exact drop_tail u o i h5) Q2 Q2
   (by
    rw [iq _ _ _ _ Q2,dL WW u i Q2,dL WW v i Q2,QM,QH (WW ^ i) WW];exact alg_r h8 ev)
  refine ⟨r,e,?_,r2⟩;refine Ev.step (fun k=>by rw [cO.l0]) ?_;rw [er,u64 (x:=rd u (i:Int)) Q2 Q2,u64 (x:=rd v (i:Int)) Q2 Q2,u64 (x:=rd u (i:Int)+rd v (i:Int)) Q2 Q2,u64 (x:=c+(rd u (i:Int)+rd v (i:Int))) Q2 Q2,gi (i:=i) Q2,Int.toNat_natCast];exact bB Q2 (bB Q2 (bB Q2 (bB Q2 r1)))
theorem yf {u v:List Int} (hl:u.length=v.length+1) (hn:v.length<68719476736) (hu:Dg WW u) (hv:Dg WW v) :
 ∃ r e,Ev (fun k=>cO.f k u v) r/\Dg WW r/\r.length=u.length/\vl WW r+e*WW ^ u.length=vl WW u+vl WW v/\0<=e:=by
 obtain ⟨r,e,r1,r2⟩:=yg hl hn hu hv v.length 0 u 0 Q2 Q2 rfl (by rw [List.take_zero];exact Dg.nil _) rfl Q2 Q2 (by simp [vl]);exact ⟨r,e,by unfold cO.f;exact r1,r2⟩
theorem kd_gt {X M P top next x0 high g rest qd W:Int} (hM:(top*W+next)*P<=M) (hX:X<(high*W+x0+1)*P) (hP:0<P) (hq:qd*M<=X) (h:g*top+rest=high) (hd:0<=g) (hM0:0<=M) (hne:g*next>rest*W+x0):qd<g:=by
 rcases Wt qd g with h1 | h1
 ·exact h1
 exfalso;have a1:g*M<=qd*M:=Int.mul_le_mul_of_nonneg_right h1 hM0;have a2:g*((top*W+next)*P)<=g*M:=Int.mul_le_mul_of_nonneg_left hM hd;have a3:g*((top*W+next)*P)=(g*(top*W+next))*P:=by grind
 have a4:(g*(top*W+next))*P<(high*W+x0+1)*P:=Q2;have a5:=Int.lt_of_mul_lt_mul_right a4 (Int.le_of_lt hP);have a6:g*(top*W+next)=(high-rest)*W+g*next:=by rw [<- h];grind
 have a7:(high-rest)*W=high*W-rest*W:=by grind
 omega
theorem kd_le {X M P top next x0 high g rest qd W:Int} (hM:M<=(top*W+next+1)*P) (hM2:W*P<=M) (hX:(high*W+x0)*P<=X) (hP:0<P) (hq:X<(qd+1)*M) (h:g*top+rest=high) (hd:0<=g) (hg:g<W) (hE:g*next<=rest*W+x0):g<=qd+1:=by
 rcases Wt (qd+1) g with h1 | h1
 ·exfalso;have a:0<=M:=by
   have:0<=W*P:=QX Q2 Q2;omega
  have a1:(qd+1)*M<=(g-1)*M:=Int.mul_le_mul_of_nonneg_right Q2 a;have a2:g*M<=g*((top*W+next+1)*P):=Int.mul_le_mul_of_nonneg_left hM hd;have a3:g*((top*W+next+1)*P)=(g*(top*W+next))*P+g*P:=by grind
  have a6:g*(top*W+next)=(high-rest)*W+g*next:=by rw [<- h];grind
  have a7:(high-rest)*W=high*W-rest*W:=by grind
  have a8:(g*(top*W+next))*P<=(high*W+x0)*P:=Int.mul_le_mul_of_nonneg_right Q2 Q2;have a9:g*P<=W*P:=Int.mul_le_mul_of_nonneg_right Q2 Q2;have b:(g-1)*M=g*M-M:=by grind
  omega
 exact h1
theorem Mj {q v u:List Int} {s:Int} {nn j:Nat} {X M P top next x0 high qd:Int} (hn:j+nn<68719476736) (hnn:2<=nn) (hju:j+nn<u.length) (hx0:rd u ((j+nn-2:Nat):Int)=x0)
 (n:0<top) (o:top<4294967296) (i:0<=next) (m:next<4294967296) (h:0<=x0) (l:x0<4294967296)
 (hMl:(top*WW+next)*P<=M) (hMu:M<=(top*WW+next+1)*P) (hM2:WW*P<=M) (hXl:(high*WW+x0)*P<=X) (hXu:X<(high*WW+x0+1)*P) (hP:0<P) (hq:qd*M<=X) (hq2:X<(qd+1)*M) (hqW:qd<4294967296) (hq0:0<=qd) (c:Nat) :
 ∀ g rest:Int,(g-qd).toNat=c->g*top+rest=high->0<=rest->rest<4294967296->qd<=g->g<=4294967297->(g=4294967297->rest+top<4294967296) ->
 ∃ g',qd<=g'/\g'<=qd+1/\g'<4294967296/\∀ R,Ev (fun k=>aJ.j3 k q s v u (nn:Int) top next (j:Int) g') R->Ev (fun k=>aJ.l1 k q s v u (nn:Int) top next (j:Int) g rest) R:=by
 have b:0<=M:=by
  have:0<=WW*P:=QX (by decide) Q2;omega
 induction c with
 | zero =>
  intro g rest h1 h2 h3 h4 h5 h6 h7;have eg:g=qd:=Q2;subst eg;have hE:¬ (g*next>rest*WW+x0):=fun hne=>by
   have:=kd_gt hMl hXu hP hq h2 Q2 b hne;omega
  refine ⟨g,Q2,Q2,hqW,fun R hR=>?_⟩;have hp:=yb (x:=g) (y:=next) ⟨Q2,hqW⟩ ⟨i,m⟩;refine Ev.step (fun k=>by rw [aJ.l1]) ?_;rw [cS] at hE;rw [show (j:Int)+(nn:Int)=((j+nn:Nat):Int) by omega,cD (x:=((j+nn:Nat):Int)) Q2 Q2,show ((j+nn:Nat):Int)-2=((j+nn-2:Nat):Int) by omega,cD (x:=((j+nn-2:Nat):Int)) Q2 Q2,hx0,u64 (x:=g*next) Q2 Q2,u64 (x:=rest*4294967296) Q2 Q2,u64 (x:=x0) Q2 Q2,Gq ⟨h3,h4⟩ ⟨h,l⟩,Q8 hE];refine eL Q2 (bB Q2 (bB Q2 ?_));refine Ev.step (fun k=>by rw [aJ.j2]) ?_;exact eL Q3 hR
 | succ c ih =>
  intro g rest h1 h2 h3 h4 h5 h6 h7;have f:qd<g:=Q2;have a:(g>=4294967296∨g*next>rest*WW+x0)->∃ g',qd<=g'/\g'<=qd+1/\g'<4294967296/\∀ R,Ev (fun k=>aJ.j3 k q s v u (nn:Int) top next (j:Int) g') R->Ev (fun k=>aJ.j2 k q s v u (nn:Int) top next (j:Int) g rest true) R:=by
   intro hc
   by_cases c2:rest+top>=4294967296
   ·have e:(g-1)*top+(rest+top)=high:=by rw [<- h2];grind
    have hp:=yb (x:=g-1) (y:=next) ⟨Q2,Q2⟩ ⟨i,m⟩;have hE:(g-1)*next<=(rest+top)*WW+x0:=by rw [cS];omega
    refine ⟨g-1,Q2,kd_le hMu hM2 hXl hP hq2 e Q2 (by rw [cS];omega) hE,Q2,fun R hR=>?_⟩;refine Ev.step (fun k=>by rw [aJ.j2]) ?_;rw [u64 (x:=rest+top) Q2 Q2,u64 (x:=g-1) Q2 Q2];exact bB rfl (bB c2 hR)
   have e:(g-1)*top+(rest+top)=high:=by rw [<- h2];grind
   obtain ⟨g',g1,g2,g3,g4⟩:=ih (g-1) (rest+top) Q2 e Q2 Q2 Q2 Q2 Q2;refine ⟨g',g1,g2,g3,fun R hR=>?_⟩;refine Ev.step (fun k=>by rw [aJ.j2]) ?_;rw [u64 (x:=rest+top) Q2 Q2,u64 (x:=g-1) Q2 Q2];exact bB rfl (eL c2 (g4 R hR))
  by_cases c1:g>=4294967296
  ·obtain ⟨g',g1,g2,g3,g4⟩:=a (.inl c1);refine ⟨g',g1,g2,g3,fun R hR=>?_⟩;refine Ev.step (fun k=>by rw [aJ.l1]) ?_;exact bB c1 (g4 R hR)
  have hp:=yb (x:=g) (y:=next) ⟨Q2,Q2⟩ ⟨i,m⟩
  by_cases c2:g*next>rest*WW+x0
  ·obtain ⟨g',g1,g2,g3,g4⟩:=a (.inr c2);refine ⟨g',g1,g2,g3,fun R hR=>?_⟩;refine Ev.step (fun k=>by rw [aJ.l1]) ?_;rw [cS] at c2;rw [show (j:Int)+(nn:Int)=((j+nn:Nat):Int) by omega,cD (x:=((j+nn:Nat):Int)) Q2 Q2,show ((j+nn:Nat):Int)-2=((j+nn-2:Nat):Int) by omega,cD (x:=((j+nn-2:Nat):Int)) Q2 Q2,hx0,u64 (x:=g*next) Q2 Q2,u64 (x:=rest*4294967296) Q2 Q2,u64 (x:=x0) Q2 Q2,Gq ⟨h3,h4⟩ ⟨h,l⟩,Qb c2];exact eL Q2 (bB Q2 (bB Q2 (g4 R hR)))
  have d:=kd_le hMu hM2 hXl hP hq2 h2 Q2 (by rw [cS];omega) Q2;refine ⟨g,Q2,d,Q2,fun R hR=>?_⟩;refine Ev.step (fun k=>by rw [aJ.l1]) ?_;rw [cS] at c2;rw [show (j:Int)+(nn:Int)=((j+nn:Nat):Int) by omega,cD (x:=((j+nn:Nat):Int)) Q2 Q2,show ((j+nn:Nat):Int)-2=((j+nn-2:Nat):Int) by omega,cD (x:=((j+nn-2:Nat):Int)) Q2 Q2,hx0,u64 (x:=g*next) Q2 Q2,u64 (x:=rest*4294967296) Q2 Q2,u64 (x:=x0) Q2 Q2,Gq ⟨h3,h4⟩ ⟨h,l⟩,Q8 c2];refine eL Q2 (bB Q2 (bB Q2 ?_));refine Ev.step (fun k=>by rw [aJ.j2]) ?_;exact eL Q3 hR
theorem Ns (u:List Int) (j n:Nat) (h:j+n<=u.length):((u.take (j+n)).drop j).length=n:=by
 rw [Qq,Qd,QO h];omega
theorem Hw (u r:List Int) (j n:Nat) (h:j+n<=u.length) (hr:r.length=n) :
 ((u.take j++r++u.drop (j+n)).take (j+n)).drop j=r/\(u.take j++r++u.drop (j+n)).take j=u.take j/\(u.take j++r++u.drop (j+n)).drop (j+n)=u.drop (j+n)/\(u.take j++r++u.drop (j+n)).drop j=r++u.drop (j+n)/\(u.take j++r++u.drop (j+n)).length=u.length:=by
 have l1:(u.take j).length=j:=by rw [Qd,QO Q2]
 have l2:(u.take j++r).length=j+n:=by rw [Qf,l1,hr]
 refine ⟨?_,?_,?_,?_,?_⟩
 ·rw [XK l2,Yu l1]
 ·rw [Vb,XK l1]
 ·rw [Yu l2]
 ·rw [Vb,Yu l1]
 rw [Qf,l2,Qq];omega
theorem KU (u:List Int) (j n:Nat) (h:j+n<=u.length):vl WW (u.drop j)=vl WW ((u.take (j+n)).drop j)+WW ^ n*vl WW (u.drop (j+n)):=by
 have e:=iE WW (u.drop j) n (by rw [Qq];omega);rw [Wv] at e;rw [e,VM,Yg]
theorem Mk {q v u:List Int} {s top next:Int} {nn j:Nat} {X M qd g:Int} (hn:j+nn<68719476736) (hv:v.length=nn) (dv:Dg WW v) (eM:vl WW v=M) (hju:j+nn+1<=u.length) (hjq:j<q.length) (du:Dg WW u)
 (eX:vl WW (u.drop j)=X) (hz:vl WW (u.drop (j+(nn+1)))=0) (hq:qd*M<=X) (hq2:X<(qd+1)*M) (hqW:qd<4294967296) (hq0:0<=qd) (t:qd<=g) (p:g<=qd+1) (o:g<4294967296) :
 ∃ u2,u2.length=u.length/\Dg WW u2/\u2.take j=u.take j/\vl WW (u2.drop j)=X-qd*M/\∀ R,Ev (fun k=>aJ.l0 k (q.set j qd) s v u2 (nn:Int) top next ((j:Int)-1)) R->Ev (fun k=>aJ.j3 k q s v u (nn:Int) top next (j:Int) g) R:=by
 have sl:=Ns u j (nn+1) hju;have sv:=KU u j (nn+1) hju;rw [hz,W6,Ve,eX] at sv;have ds:Dg WW ((u.take (j+(nn+1))).drop j):=(du.take _).drop _;obtain ⟨f,r,r1,r2,r3,r4⟩:=wg (u:=(u.take (j+(nn+1))).drop j) (v:=v) (g:=g) Q2 Q2 ds dv ⟨Q2,o⟩;rw [sl] at r3 r4;rw [<- sv,eM] at r4;have b0:=bO aH r2;have b1:=gC aH r2;rw [r3] at b1;obtain ⟨p1,p2,p3,p4,p5⟩:=Hw u r j (nn+1) hju r3;have d:((((j+nn:Nat):Int)+1)).toNat=j+(nn+1):=Q2;have a:Ev (fun k=>dg.f k u (j:Int) (((j+nn:Nat):Int)+1) v g) (f,u.take j++r++u.drop (j+(nn+1))):=by
  unfold dg.f;rw [d,Int.toNat_natCast];exact Ev.bind r1 (aV _)
 have h:qd % 4294967296=qd:=Q2;have m:(qd+1)*M=qd*M+M:=by grind
 have b:∀ z:List Int,Dg WW z->Dg WW (u.take j++z++u.drop (j+(nn+1))):=fun z hz=>((du.take _).append hz).append (du.drop _);cases f
 ·have eg:g=qd:=by
   rcases Wt qd g with c | c
   ·exfalso;have:g=qd+1:=Q2;subst this;simp only [Vo,Xr] at r4;omega
   omega
  subst eg;simp only [Vo,Xr,Ve] at r4;refine ⟨_,p5,b r r2,p2,?_,fun R hR=>?_⟩
  ·rw [p4,jx,hz,W6,Ve,r4]
  refine Ev.step (fun k=>by rw [aJ.j3]) ?_;rw [show (j:Int)+(nn:Int)=((j+nn:Nat):Int) by omega,cD (x:=((j+nn:Nat):Int)) Q2 Q2,cD (x:=((j+nn:Nat):Int)+1) Q2 Q2,cD (x:=(j:Int)-1) Q2 Q2,h,Int.toNat_natCast];exact bB Q2 (bB Q2 (bB Q2 (Ev.bind a (eL Q3 (bB Q2 hR)))))
 simp only [Xh] at r4;have eg:g=qd+1:=by
  rcases Wt qd g with c | c
  ·omega
  exfalso;have:g=qd:=Q2;subst this;omega
 subst eg;rw [m] at r4;obtain ⟨z,e,z1,z2,z3,z4,z5⟩:=yf (u:=r) (v:=v) Q2 Q2 r2 dv;rw [r3,eM,r4] at z4;rw [r3] at z3;have c0:=bO aH z2;have c1:=gC aH z2;rw [z3] at c1;have n:M<WW ^ (nn+1):=by
  have h1:=gC aH dv;have h2:=fy (B:=WW) (by decide) (show nn<=nn+1 by omega);rw [hv,eM] at h1;omega
 have l:vl WW z=X-qd*M:=by
  generalize WW ^ (nn+1)=Q at *
  have he:e=1:=by
   rcases Wt e 1 with c | c
   ·have:e=0:=by omega
    subst this;omega
   rcases Wt 1 e with c' | c'
   ·have:2*Q<=e*Q:=QQ Q2 Q2;omega
   omega
  subst he;omega
 obtain ⟨t1,t2,t3,t4,t5⟩:=Hw u z j (nn+1) hju z3;have i:Ev (fun k=>dO.f k (u.take j++r++u.drop (j+(nn+1))) (j:Int) (((j+nn:Nat):Int)+1) v) (u.take j++z++u.drop (j+(nn+1))):=by
  unfold dO.f;rw [d,Int.toNat_natCast,p1,p2,p3];exact Ev.bind z1 (aV _)
 refine ⟨_,t5,b z z2,t2,?_,fun R hR=>?_⟩
 ·rw [t4,jx,hz,W6,Ve,l]
 refine Ev.step (fun k=>by rw [aJ.j3]) ?_;rw [show (j:Int)+(nn:Int)=((j+nn:Nat):Int) by omega,cD (x:=((j+nn:Nat):Int)) Q2 Q2,cD (x:=((j+nn:Nat):Int)+1) Q2 Q2,cD (x:=(j:Int)-1) Q2 Q2,show qd+1-1=qd by omega,u64 (x:=qd) Q2 Q2,h,Int.toNat_natCast];exact bB Q2 (bB Q2 (bB Q2 (Ev.bind a (bB rfl (Ev.bind i (bB Q2 hR))))))
theorem three {u:List Int} (du:Dg WW u) (j nn:Nat) (hnn:2<=nn) (hju:j+nn+1<=u.length) (hz:vl WW (u.drop (j+(nn+1)))=0) :
 ∃ low,0<=low/\low<WW ^ (nn-2)/\vl WW (u.drop j)=low+(((rd u ((j+nn:Nat):Int))*WW+rd u ((j+nn-1:Nat):Int))*WW+rd u ((j+nn-2:Nat):Int))*WW ^ (nn-2):=by
 have e:=iE WW (u.drop j) (nn-2) (by rw [List.length_drop];omega);rw [List.drop_drop] at e;have d1:Dg WW ((u.drop j).take (nn-2)):=(du.drop _).take _;have l1:=gC aH d1;rw [List.length_take,List.length_drop,Nat.min_eq_left Q2] at l1;refine ⟨_,bO aH d1,l1,?_⟩;rw [e,fP u (j+(nn-2)) Q2,vl,fP u (j+(nn-2)+1) Q2,vl,fP u (j+(nn-2)+1+1) Q2,vl];rw [show j+(nn-2)+1+1+1=j+(nn+1) by omega,hz,show j+(nn-2)+1+1=j+nn by omega,show j+(nn-2)+1=j+nn-1 by omega,show j+(nn-2)=j+nn-2 by omega];grind
theorem two {v:List Int} (dv:Dg WW v) (nn:Nat) (hnn:2<=nn) (hv:v.length=nn) :
 ∃ low,0<=low/\low<WW ^ (nn-2)/\vl WW v=low+(rd v ((nn-1:Nat):Int)*WW+rd v ((nn-2:Nat):Int))*WW ^ (nn-2):=by
 have e:=iE WW v (nn-2) Q2;have d1:Dg WW (v.take (nn-2)):=dv.take _;have l1:=gC aH d1;rw [List.length_take,Nat.min_eq_left Q2] at l1;refine ⟨_,bO aH d1,l1,?_⟩;rw [e,fP v (nn-2) Q2,vl,fP v (nn-2+1) Q2,vl];rw [show nn-2+1+1=nn by omega,List.drop_eq_nil_of_le Q2,vl,show nn-2+1=nn-1 by omega];grind
end Go.Proofs.YtfbgaddecbiimaaGreatDoor.P
end
end
