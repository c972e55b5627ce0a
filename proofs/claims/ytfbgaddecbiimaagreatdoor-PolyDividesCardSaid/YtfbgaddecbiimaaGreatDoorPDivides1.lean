/- An evaluator of the program's code, what its functions come to, and what they mean: text 1. No condition. -/
import Derived.Below
import Derived.OwnWalk
import Derived.Laws.MakeOwn
import Derived.Laws.OwnMore
import Derived.Laws.CopyOwn
import Derived.Deep.AppendLies
import Derived.Orders
import Derived.Tactics2
import Derived.Laws.Entries
import Derived.Laws.Small
import Derived.Laws.Tables
import Derived.ChangeKeysEq
import Derived.Deep.Draws
import Derived.Maps.AppendAt
import Derived.Laws.BytesArg
import Derived.Deep.OwnRows
import Derived.Tactics
import Derived.Lib.ConvBytes
import Derived.Laws.Slices
import Derived.WalkKit
import Derived.KernelRfl
import Derived.RowKit3
import Derived.Deep.LoopGhost
import Derived.Deep.QuietTactic
import Derived.BigQuiet
import Derived.WideLaws
import Derived.Deep.DeepCutAuto
import Derived.Deep.CutBlock
import Derived.Deep.RegionHeld3
import Derived.Laws.Rows
import Derived.Lib.AppendStr
import Derived.ArgAppend
import Derived.Laws.IdiomCopy
import Derived.RowKit
import Derived.OrdersHeld
import Derived.Laws.BitsLemmas
import Derived.Still
import Derived.Lib.Strings
import Derived.Lib.SliceRun
import Derived.Scope
import Derived.Carry
import Derived.MapKept
import Derived.Laws.StructEq
set_option linter.unusedSimpArgs false
set_option linter.unusedSectionVars false
set_option linter.unusedVariables false
set_option maxRecDepth 100000
set_option maxHeartbeats 4000000
namespace Go.Proofs.YtfbgaddecbiimaaGreatDoor
end Go.Proofs.YtfbgaddecbiimaaGreatDoor
namespace Go.Proofs.YtfbgaddecbiimaaGreatDoor.E
end Go.Proofs.YtfbgaddecbiimaaGreatDoor.E
namespace Go.Proofs.YtfbgaddecbiimaaGreatDoor.G
end Go.Proofs.YtfbgaddecbiimaaGreatDoor.G
namespace Go.Proofs.YtfbgaddecbiimaaGreatDoor.P
end Go.Proofs.YtfbgaddecbiimaaGreatDoor.P
namespace Go.Proofs.YtfbgaddecbiimaaGreatDoor.Q
end Go.Proofs.YtfbgaddecbiimaaGreatDoor.Q
namespace Go.Proofs.YtfbgaddecbiimaaGreatDoor.V
end Go.Proofs.YtfbgaddecbiimaaGreatDoor.V
namespace Go.Proofs.YtfbgaddecbiimaaGreatDoor.polyDivides
end Go.Proofs.YtfbgaddecbiimaaGreatDoor.polyDivides
namespace Go.Proofs.YtfbgaddecbiimaaGreatDoorW.PrintLast
end Go.Proofs.YtfbgaddecbiimaaGreatDoorW.PrintLast
namespace Go.Proofs.YtfbgaddecbiimaaGreatDoorW.PrintMore
end Go.Proofs.YtfbgaddecbiimaaGreatDoorW.PrintMore
namespace Go.Proofs.YtfbgaddecbiimaaGreatDoorW.PrintMore.Kd
end Go.Proofs.YtfbgaddecbiimaaGreatDoorW.PrintMore.Kd
namespace Go.Proofs.YtfbgaddecbiimaaGreatDoorW.PrintWords
end Go.Proofs.YtfbgaddecbiimaaGreatDoorW.PrintWords
namespace Go.Proofs.YtfbgaddecbiimaaGreatDoorW.PrintWords.Kd
end Go.Proofs.YtfbgaddecbiimaaGreatDoorW.PrintWords.Kd
namespace Go.Proofs.YtfbgaddecbiimaaGreatDoorW.PrintWords.uw
end Go.Proofs.YtfbgaddecbiimaaGreatDoorW.PrintWords.uw
namespace Go.Proofs.YtfbgaddecbiimaaGreatDoor
theorem Q2 {p:Prop} (h:p:=by omega):p:=h
theorem Q3 {p:Prop} (h:p:=by simp):p:=h
theorem Q4 {p:Prop} (h:p:=by kernel_rfl):p:=h
abbrev Q6:=@List.getD_eq_getElem?_getD
abbrev Q7:=@List.mem_cons_self
abbrev Q8:=@decide_eq_false
abbrev Q9:=@Array.getD_eq_getD_getElem?
abbrev Qa:=@List.mem_cons_of_mem
abbrev Qb:=@decide_eq_true
abbrev Qc:=@if_neg
abbrev Qd:=@List.length_take
abbrev Qe:=@Nat.le_of_ble_eq_true
abbrev Qf:=@List.length_append
abbrev Qg:=@Array.getElem?_eq_getElem
abbrev Qh:=@List.getElem?_eq_getElem
abbrev Qi:=@List.getElem_mem
abbrev Qj:=@Option.some.injEq
abbrev Qk:=@if_pos
abbrev Ql:=@Int.mul_le_mul_of_nonneg_left
abbrev Qm:=@Bool.and_eq_true
abbrev Qn:=@Nat.le_refl
abbrev Qo:=@List.mem_cons
abbrev Qp:=@List.take_of_length_le
abbrev Qq:=@List.length_drop
abbrev Qr:=@Option.map_eq_some_iff
abbrev Qs:=@List.mem_map
abbrev Qt:=@Nat.eq_of_beq_eq_true
abbrev Qu:=@Nat.le_trans
abbrev Qv:=@List.pairwise_cons
abbrev Qw:=@List.take_length
abbrev Qx:=@List.getElem?_eq_some_iff
abbrev Qy:=@Nat.zero_le
abbrev Qz:=@List.getElem_map
abbrev QA:=@List.all_eq_true
abbrev QB:=@List.mem_singleton
abbrev QC:=@List.getElem_append_left
abbrev QD:=@List.drop_eq_getElem_cons
abbrev QE:=@beq_eq_false_iff_ne
abbrev QF:=@Option.some.inj
abbrev QG:=@List.drop_eq_nil_of_le
abbrev QH:=@Int.mul_comm
abbrev QI:=@List.length_replicate
abbrev QJ:=@Nat.mul_le_mul_right
abbrev QK:=@Classical.byContradiction
abbrev QL:=@List.getElem_of_mem
abbrev QM:=@Int.pow_succ
abbrev QN:=@Nat.lt_of_lt_of_le
abbrev QO:=@Nat.min_eq_left
abbrev QP:=@List.ext_getElem
abbrev QQ:=@Int.mul_le_mul_of_nonneg_right
abbrev QR:=@List.getElem_append_right
abbrev QS:=@Nat.zero_add
abbrev QT:=@List.mem_append
abbrev QU:=@Int.emod_lt_of_pos
abbrev QV:=@List.map_cons
abbrev QW:=@Array.getElem?_eq_some_iff
abbrev QX:=@Int.mul_nonneg
abbrev QY:=@List.eq_nil_of_length_eq_zero
abbrev QZ:=@List.length_map
abbrev V0:=@List.getElem_drop
abbrev V1:=@Array.getElem?_toList
abbrev V2:=@List.drop_length
abbrev V3:=@Rat.intCast_le_intCast
abbrev V4:=@Int.emod_nonneg
abbrev V5:=@List.mem_filter
abbrev V6:=@List.getElem_take
abbrev V7:=@List.flatMap_cons
abbrev V8:=@List.take_succ_eq_append_getElem
abbrev V9:=@List.drop_zero
abbrev Va:=@Int.pow_add
abbrev Vb:=@List.append_assoc
abbrev Vc:=@decide_eq_true_eq
abbrev Ve:=@Int.add_zero
abbrev Vf:=@Int.le_trans
abbrev Vg:=@List.length_set
abbrev Vh:=@List.getElem?_eq_none
abbrev Vi:=@Nat.succ_mul
abbrev Vj:=@List.getElem?_append_right
abbrev Vk:=@Bool.eq_false_iff
abbrev Vl:=@Int.le_refl
abbrev Vm:=@List.getElem?_append_left
abbrev Vn:=@Nat.le_of_lt
abbrev Vo:=@Bool.false_eq_true
abbrev Vp:=@List.filter_cons_of_pos
abbrev Vq:=@List.append_nil
abbrev Vr:=@List.mem_filterMap
abbrev Vs:=@Nat.mul_one
abbrev Vt:=@Int.mul_ediv_add_emod
abbrev Vu:=@Int.pow_pos
abbrev Vv:=@Nat.beq_refl
abbrev Vw:=@Int.natAbs_mul
abbrev Vx:=@List.getElem?_take_of_lt
abbrev Vy:=@Prod.mk.injEq
abbrev Vz:=@Int.le_of_lt
abbrev VA:=@Int.ediv_nonneg
abbrev VB:=@Rat.mul_eq_zero
abbrev VC:=@List.filter_cons_of_neg
abbrev VD:=@List.any_eq_false
abbrev VE:=@of_decide_eq_true
abbrev VF:=@Int.emod_eq_of_lt
abbrev VG:=@Int.ediv_eq_zero_of_lt
abbrev VH:=@Array.getElem?_setIfInBounds
abbrev VI:=@Int.mul_le_mul
abbrev VJ:=@List.getElem?_map
abbrev VK:=@List.pairwise_map
abbrev VL:=@Int.zero_mul
abbrev VM:=@List.drop_take
abbrev VO:=@List.mem_of_mem_take
abbrev VP:=@Int.one_mul
abbrev VQ:=@Rat.num_divInt_den
abbrev VR:=@List.getElem_range
abbrev VS:=@Int.pow_nonneg
abbrev VT:=@Rat.intCast_mul
abbrev VU:=@List.getElem_set
abbrev VV:=@List.drop_of_length_le
abbrev VW:=@List.pairwise_iff_getElem
abbrev VX:=@List.take_append_of_le_length
abbrev VY:=@List.take_append_drop
abbrev VZ:=@Int.ediv_lt_of_lt_mul
abbrev W3:=@List.take_take
abbrev W5:=@List.cons.injEq
abbrev W6:=@Int.mul_zero
abbrev W7:=@beq_iff_eq
abbrev W8:=@Int.lt_of_lt_of_le
abbrev W9:=@Bool.or_eq_false_iff
abbrev Wa:=@List.drop_append
abbrev Wb:=@List.length_eq_zero_iff
abbrev Wc:=@Array.getElem?_append_left
abbrev We:=@Nat.lt_or_ge
abbrev Wf:=@Int.add_mul_emod_self_left
abbrev Wg:=@Int.sign_eq_one_of_pos
abbrev Wi:=@Nat.mul_le_mul_left
abbrev Wj:=@List.length_pos_iff
abbrev Wl:=@List.mem_or_eq_of_mem_set
abbrev Wm:=@Int.add_mul_ediv_left
abbrev Wn:=@List.length_filter_le
abbrev Wo:=@of_decide_eq_false
abbrev Wp:=@List.mem_flatMap
abbrev Wq:=@Int.lt_of_le_of_lt
abbrev Wr:=@Bool.true_and
abbrev Ws:=@Int.mul_assoc
abbrev Wt:=@Int.lt_or_le
abbrev Wu:=@List.mem_range
abbrev Wv:=@List.drop_drop
abbrev Ww:=@List.mem_append_left
abbrev Wx:=@Int.eq_ofNat_of_zero_le
abbrev Wy:=@Nat.div_le_self
abbrev Wz:=@Rat.intCast_inj
abbrev WA:=@List.map_congr_left
abbrev WC:=@Int.toNat_of_nonneg
abbrev WD:=@List.map_nil
abbrev WE:=@Int.mul_lt_mul_of_pos_right
abbrev WG:=@List.take_append
abbrev WH:=@Int.ediv_le_self
abbrev WI:=@List.getElem?_drop
abbrev WJ:=@Rat.intCast_nonneg
abbrev WK:=@List.mem_append_right
abbrev WL:=@List.findIdx?_eq_some_iff_getElem
abbrev WM:=@Bool.or_true
abbrev WN:=@Int.add_mul
abbrev WO:=@Int.pow_zero
abbrev WQ:=@Int.gcd_dvd_right
abbrev WR:=@List.getElem_zipWith
abbrev WS:=@bne_iff_ne
abbrev WT:=@List.filter_sublist
abbrev WU:=@List.any_eq_true
abbrev WV:=@List.perm_middle
abbrev WX:=@Int.mul_pos
abbrev WY:=@Int.mul_add
abbrev WZ:=@Nat.zero_mul
abbrev X0:=@Nat.eq_zero_or_pos
abbrev X3:=@Nat.mod_lt
abbrev X4:=@Int.natAbs_ediv_of_dvd
abbrev X6:=@List.map_append
abbrev X7:=@List.getElem?_toArray
abbrev X8:=@Nat.ble_eq_true_of_le
abbrev X9:=@ByteArray.data_append
abbrev Xa:=@Int.emod_add_mul_ediv
abbrev Xb:=@Bool.not_eq_true'
abbrev Xc:=@List.length_range
abbrev Xd:=@List.pairwise_append
abbrev Xe:=@bne_eq_false_iff_eq
abbrev Xf:=@List.flatMap_append
abbrev Xg:=@List.Pairwise.imp_of_mem
abbrev Xh:=@if_true
abbrev Xi:=@List.all_append
abbrev Xj:=@Array.size_push
abbrev Xk:=@Nat.add_sub_cancel
abbrev Xl:=@Int.mul_nonpos_of_nonneg_of_nonpos
abbrev Xm:=@Nat.add_mul
abbrev Xn:=@decide_eq_false_iff_not
abbrev Xo:=@List.set_eq_take_append_cons_drop
abbrev Xp:=@List.getElem_replicate
abbrev Xq:=@Nat.ne_of_beq_eq_false
abbrev Xr:=@if_false
abbrev Xs:=@List.getElem?_set_self
abbrev Xt:=@Array.getElem?_eq_none
abbrev Xu:=@getElem!_pos
abbrev Xv:=@Int.add_comm
abbrev Xw:=@Rat.num_divInt
abbrev Xx:=@Rat.den_divInt
abbrev Xy:=@List.set_append_right
abbrev Xz:=@Array.getElem?_modify
abbrev XA:=@Int.ediv_mul_add_emod
abbrev XC:=@Nat.mod_eq_of_lt
abbrev XD:=@Bool.false_or
abbrev XE:=@Bool.and_self
abbrev XF:=@Decidable.of_not_not
abbrev XG:=@List.getElem?_set_ne
abbrev XH:=@Nat.pow_le_pow_right
abbrev XI:=@Int.mul_le_mul_of_nonpos_left
abbrev XJ:=@Int.pow_lt_pow_of_lt
abbrev XK:=@List.take_left'
abbrev XL:=@Rat.num_eq_zero
abbrev XM:=@Rat.intCast_add
abbrev XN:=@Bool.or_eq_true_iff
abbrev XO:=@List.map_eq_nil_iff
abbrev XP:=@Nat.sub_self
abbrev XR:=@Int.add_mul_emod_self_right
abbrev XS:=@Int.zero_add
abbrev XT:=@Int.fdiv_eq_ediv_of_nonneg
abbrev XU:=@Bool.not_eq_false'
abbrev XV:=@Nat.lt_of_le_of_lt
abbrev XW:=@List.mem_replicate
abbrev XX:=@Int.lt_or_eq_of_le
abbrev XY:=@Int.mul_lt_mul_of_pos_left
abbrev XZ:=@Int.ediv_pos_of_pos_of_dvd
abbrev Y0:=@Int.natAbs_sign_of_ne_zero
abbrev Y1:=@Nat.mul_le_mul
abbrev Y2:=@Int.ofNat_dvd_left
abbrev Y3:=@Int.lt_of_mul_lt_mul_left
abbrev Y4:=@List.findIdx?_eq_none_iff
abbrev Y5:=@List.exists_mem_of_ne_nil
abbrev Y6:=@List.size_toArray
abbrev Y7:=@Bool.not_eq_false
abbrev Y8:=@Nat.one_mul
abbrev Y9:=@Rat.divInt_eq_div
abbrev Ya:=@Int.sub_mul
abbrev Yb:=@Rat.le_refl
abbrev Yc:=@Array.getElem?_replicate
abbrev Yd:=@Nat.add_right_cancel_iff
abbrev Ye:=@List.getElem?_replicate
abbrev Yf:=@Bool.not_eq_true
abbrev Yg:=@Nat.add_sub_cancel_left
abbrev Yh:=@beq_self_eq_true
abbrev Yi:=@List.not_mem_nil
abbrev Yj:=@List.nodup_range
abbrev Yk:=@List.mem_reverse
abbrev Yl:=@Nat.eq_zero_of_zero_dvd
abbrev Ym:=@Array.getElem?_extract
abbrev Yn:=@Ne.symm
abbrev Yo:=@List.length_pos_of_mem
abbrev Yp:=@Rat.pow_zero
abbrev Yq:=@Rat.mul_comm
abbrev Yr:=@Bool.or_eq_true
abbrev Ys:=@Nat.not_lt_zero
abbrev Yt:=@List.any_append
abbrev Yu:=@List.drop_left'
abbrev Yv:=@Int.le_antisymm
abbrev Yw:=@Int.pow_mul
abbrev Yx:=@Nat.add_assoc
abbrev Yy:=@Nat.le_of_dvd
abbrev Yz:=@Nat.add_comm
abbrev YA:=@List.map_map
abbrev YB:=@and_true
abbrev YC:=@Nat.le_of_eq
abbrev YD:=@Int.sub_zero
abbrev YE:=@Int.gcd_comm
abbrev YF:=@Prod.ext
abbrev YG:=@List.map_set
abbrev YH:=@Array.ext
abbrev YI:=@false_iff
abbrev YJ:=@Iff.rfl
theorem Q5 {A B:Type _} {x:Option A} {f:A->Option B} {b:B} (h:x.bind f=some b):∃ a,x=some a/\f a=some b:=Option.bind_eq_some_iff.1 h
end Go.Proofs.YtfbgaddecbiimaaGreatDoor
section
namespace Go.Proofs.YtfbgaddecbiimaaGreatDoor.V
open Go.RowKit
inductive CV where
 | lit (v:Value)
 | row (n:Nat) (cs:List CV)
 | own (k:Nat)
 | any
structure Fo where
 b:Nat->Prop
 o:Nat->Value->Prop
 n:Nat->Prop
instance:CoeFun Fo (fun _=>Nat->Prop):=⟨Fo.b⟩
abbrev Fo.of (B:Nat->Prop):Fo:=⟨B,fun _ _=>False,fun _=>False⟩
def Fo.shut (F:Fo):Fo:=.of F.b
structure Fo.le (F F':Fo):Prop where
 b:∀ b,F b->F' b
 o:∀ j v,F.o j v->F'.o j v
 n:∀ b,F.n b->F'.n b
theorem Fo.le.shut {F F':Fo} (h:F.le F'):F.shut.le F'.shut:=⟨h.b,fun _ _ h=>h,fun _ h=>h⟩
theorem Fo.le.refl (F:Fo):F.le F:=⟨fun _ h=>h,fun _ _ h=>h,fun _ h=>h⟩
theorem Fo.AO (F:Fo):F.shut.le F:=⟨fun _ h=>h,fun _ _ h=>h.elim,fun _ h=>h.elim⟩
theorem Fo.jG {F F':Fo} (h:∀ b,F b->F' b):F.shut.le F'.shut:=⟨h,fun _ _ h=>h,fun _ h=>h⟩
inductive Den (w:World):Fo->Value->CV->Prop where
 | lit {F:Fo} (v:Value):Den w F v (.lit v)
 | nil {F:Fo} (a:Option Addr) (c:Nat) (h:a=none->c=0):Den w F (.slice a 0 c) (.row 0 [])
 | row {F:Fo} (ad:Addr) (n c:Nat) (cs:List CV) (vs:Nat->Value) (hs:ad.spot=none) (hF:F ad.block) (hn:n<=c) (hc:∀ i,i<cs.length->w.cell? (ad.add i)=some (vs i))
  (hd:∀ i (h:i<cs.length),Den w F.shut (vs i) cs[i]):Den w F (.slice (some ad) n c) (.row n cs)
 | own {F:Fo} {j:Nat} {v:Value} (h:F.o j v) (h1:v.oneCell'=true) (h2:v.cells = #[v]):Den w F v (.own j)
 | any {F:Fo} {v:Value} (h1:v.oneCell'=true) (h2:v.cells = #[v]):Den w F v .any
theorem block_add (a:Addr) (i:Nat):(a.add i).block=a.block:=by unfold Addr.add;split<;>rfl
theorem Den.sC {w w':World} {F:Fo} {v:Value} {c:CV} (h:Den w F v c):∀ {F':Fo},(∀ b,F b->F' b)->(∀ j u,c = .own j->F.o j u->F'.o j u)->(∀ b,F b->w'.heap[b]?=w.heap[b]?)->Den w' F' v c:=by
 induction h with
 | lit v=>exact fun _ _ _=>.lit v
 | nil a c h=>exact fun _ _ _=>.nil a c h
 | row ad n c cs vs hs hF' hn hc hd ih=>exact fun hF _ hw=>.row ad n c cs vs hs (hF _ hF') hn (fun i hi=>(World.cell?_of_block (by rw [block_add];exact hw _ hF')).trans (hc i hi)) (fun i hi=>ih i hi hF (fun _ _ _ h=>h) hw)
 | own h h1 h2=>exact fun _ ho _=>.own (ho _ _ rfl h) h1 h2
 | any h1 h2=>exact fun _ _ _=>.any h1 h2
theorem Den.mono {w w':World} {F F':Fo} {v:Value} {c:CV} (h:Den w F v c) (hF:F.le F') (hw:∀ b,F b->w'.heap[b]?=w.heap[b]?):Den w' F' v c:=h.sC hF.b (fun _ _ _=>hF.o _ _) hw
def gj:CV->Bool
 | .own _=>false
 | _=>true
theorem Den.shut {w:World} {F:Fo} {v:Value} {c:CV} (h:Den w F v c) (hsh:gj c=true):Den w F.shut v c:=by
 cases h with
 | lit v=>exact .lit v
 | nil a c h=>exact .nil a c h
 | row ad n c cs vs hs hF' hn hc hd=>exact .row ad n c cs vs hs hF' hn hc hd
 | own h h1 h2=>cases hsh
 | any h1 h2=>exact .any h1 h2
theorem Den.open {w:World} {F:Fo} {v:Value} {c:CV} (h:Den w F.shut v c):Den w F v c:=h.mono (Fo.AO F) (fun _ _=>rfl)
inductive PV where
 | cv (c:CV)
 | ag (cs:List CV)
 | tup (ps:List PV)
 | own (k:Nat)
 | win (k off n:Nat)
 | pr (cs:List CV)
 | po (k off:Nat)
 | map (l:List (ByteArray×Int))
structure Row where
 e:TypeId
 sz:Nat
 n:Nat
 data:List CV
structure St where
 env:Nat->Option PV
 rows:Nat->Option Row
abbrev mJ:=Nat->Value
inductive cQ (w:World) (F:Fo) (rows:Nat->Option Row) (L:mJ):Value->PV->Prop where
 | cv {v:Value} {c:CV} (h:Den w F v c):cQ w F rows L v (.cv c)
 | ag {vs:Array Value} {cs:List CV} (hl:vs.size=cs.length) (h:∀ i (h:i<cs.length),Den w F (vs.getD i undef) cs[i]):cQ w F rows L (.agg vs) (.ag cs)
 | tup {vs:Array Value} {ps:List PV} (hl:vs.size=ps.length) (h:∀ i (h:i<ps.length),cQ w F rows L (vs.getD i undef) ps[i]):cQ w F rows L (.tuple vs) (.tup ps)
 | own {k:Nat} {r:Row} (h:rows k=some r):cQ w F rows L (L k) (.own k)
 | win {a:Option Addr} {k off n g m cap c:Nat} {r:Row} (h:rows k=some r) (hL:L k = .slice (some ⟨g,0,none⟩) m cap) (ho:off+n<=m) (hn:n<=c) (hb:a=none->c=0) (ha:0<n->a=some ⟨g,off*r.sz,none⟩):cQ w F rows L (.slice a n c) (.win k off n)
 | pr {ad:Addr} {cs:List CV} (vs:Nat->Value) (hs:ad.spot=none) (hF:F ad.block) (hc:∀ i,i<cs.length->w.cell? (ad.add i)=some (vs i)) (hd:∀ i (h:i<cs.length),Den w F.shut (vs i) cs[i]) :
  cQ w F rows L (.pointer (some ad)) (.pr cs)
 | po {k off g m cap:Nat} {r:Row} (h:rows k=some r) (hL:L k = .slice (some ⟨g,0,none⟩) m cap) (ho:off<r.data.length):cQ w F rows L (.pointer (some ⟨g,off,none⟩)) (.po k off)
 | map {b clock:Nat} {arr:Array MapEntry} {l:List (ByteArray×Int)} (hF:F b) (hn:F.n b) (hb:w.heap[b]?=some (.map arr clock)) (he:arr.toList.map (fun e=>(e.key,e.val))=l.map fun x=>(.string x.1,.int .i64 x.2)):cQ w F rows L (.map (some b)) (.map l)
theorem cQ.mono {w w':World} {F F':Fo} {rows rows':Nat->Option Row} {L L':mJ} {v:Value} {p:PV} (h:cQ w F rows L v p) (hF:F.le F') (hw:∀ b,F b->w'.heap[b]?=w.heap[b]?)
 (hr:∀ k r,rows k=some r->rows' k=some r/\L' k=L k):cQ w' F' rows' L' v p:=by
 induction h with
 | cv h=>exact .cv (h.mono hF hw)
 | ag hl h=>exact .ag hl (fun i hi=>(h i hi).mono hF hw)
 | tup hl h ih=>exact .tup hl ih
 | @own k r h=>rw [<- (hr _ _ h).2];exact .own (hr _ _ h).1
 | @win a k off n g m cap c r h hL ho hn hb ha=>exact .win (hr _ _ h).1 (by rw [(hr _ _ h).2];exact hL) ho hn hb ha
 | pr vs hs hF' hc hd=>exact .pr vs hs (hF.b _ hF') (fun i hi=>(World.cell?_of_block (by rw [block_add];exact hw _ hF')).trans (hc i hi)) (fun i hi=>(hd i hi).mono hF.shut hw)
 | @po k off g m cap r h hL ho=>exact .po (hr _ _ h).1 (by rw [(hr _ _ h).2];exact hL) ho
 | map hF' hn hb he=>exact .map (hF.b _ hF') (hF.n _ hn) ((hw _ hF').trans hb) he
structure Ctx where
 w0:World
 nt:Nat
 F0:Nat->Prop
 lt:∀ b,F0 b->b<w0.heap.size
 G:Option Nat
 lo:Nat
 hlo:lo<=w0.heap.size
 pin:Value->Prop
abbrev cd:Nat:=1000000
abbrev Ctx.B (X:Ctx):Nat:=X.w0.heap.size
def MX (rows:Nat->Option Row) (L:mJ) (b:Nat):Prop:=∃ k r,rows k=some r/\(L k).ownBlock=some b
def Still (X:Ctx) (rows:Nat->Option Row) (L:mJ) (w:World):Fo:=⟨fun b=>(X.F0 b∨(X.B<=b/\b<w.heap.size))/\¬ MX rows L b,fun j v=>(∃ r,rows j=some r)/\v=L j,fun b=>X.B<=b⟩
abbrev opened:Nat:=2000000
def Fo.at (F:Fo) (k:Nat):Fo:=bif Nat.ble opened k then F else F.shut
theorem Fo.at_le (F:Fo) (k:Nat):(F.at k).le F:=by
 unfold Fo.at;cases Nat.ble opened k with
 | true=>exact .refl _
 | false=>exact F.AO
theorem Fo.ks (F:Fo) (k:Nat):F.shut.le (F.at k):=by
 unfold Fo.at;cases Nat.ble opened k with
 | true=>exact F.AO
 | false=>exact .refl _
theorem Fo.le.at {F F':Fo} (h:F.le F') (k:Nat):(F.at k).le (F'.at k):=by
 unfold Fo.at;cases Nat.ble opened k with
 | true=>exact h
 | false=>exact h.shut
theorem Den.at {w:World} {F:Fo} {v:Value} {c:CV} (h:Den w F v c) {k:Nat} (hc:(Nat.ble opened k||gj c)=true):Den w (F.at k) v c:=by
 unfold Fo.at;cases e:Nat.ble opened k with
 | true=>exact h
 | false=>rw [e,XD] at hc;exact h.shut hc
theorem Fo.E2 (F:Fo) (k b:Nat):F.at k b=F b:=by
 unfold Fo.at;cases Nat.ble opened k<;>rfl
def ri (X:Ctx) (w:World) (F:Fo) (L:mJ) (k:Nat) (r:Row):Prop :=
 ∃ xs,w.ownsRow X.lo r.e r.sz (L k) r.n xs/\xs.length=r.data.length/\∀ i (h:i<r.data.length),Den w (F.at k) (xs.getD i undef) r.data[i]
structure cM (X:Ctx) (S:St) (L:mJ) (a:Act) (w:World):Prop where
 size:a.tmps.size=X.nt
 defers:a.defers=[]
 below:X.w0.grownBy w X.G
 row:∀ k r,S.rows k=some r->ri X w (Still X S.rows L w) L k r
 apart:∀ k k' r r' b,S.rows k=some r->S.rows k'=some r'->(L k).ownBlock=some b->(L k').ownBlock=some b->k=k'
 mine:∀ k r b,S.rows k=some r->(L k).ownBlock=some b->X.B<=b∨(k=cd/\X.G=some b)
 pin:∀ r,S.rows cd=some r->X.pin (L cd)
 env:∀ t p,S.env t=some p->t<X.nt/\cQ w (Still X S.rows L w) S.rows L (a.tmps.getD t undef) p
def Rel (X:Ctx) (S:St) (a:Act) (w:World):Prop:=∃ L,cM X S L a w
theorem oS {a w w':World} {G row:Option Nat} (h:a.grownBy w G) (hg:w.grownBy w' row) (hr:∀ b,row=some b->a.heap.size<=b∨G=some b):a.grownBy w' G :=
 ⟨hg.os.trans h.os,hg.tape.trans h.tape,hg.output.trans h.output,Qu h.size hg.size,fun k hk hne=>(hg.block k (QN hk h.size) (fun e=>by
  rcases hr k e.symm with h1 | h1
  ·omega
  exact hne h1.symm)).trans (h.block k hk hne)⟩
theorem Still.lt {X:Ctx} {rows:Nat->Option Row} {L:mJ} {w:World} (hb:X.w0.grownBy w X.G) {b:Nat} (h:Still X rows L w b):b<w.heap.size:=by
 rcases h.1 with h | h
 ·exact QN (X.lt b h) hb.size
 exact h.2
theorem ri.mono {X:Ctx} {w w':World} {F F':Fo} {L L':mJ} {k:Nat} {r:Row} (h:ri X w F L k r) (hF:F.le F') (hw:∀ b,F b->w'.heap[b]?=w.heap[b]?) (hL:L' k=L k)
 {row:Option Nat} (hg:w.grownBy w' row) (hne:(L k).ownBlock=none∨(L k).ownBlock≠row):ri X w' F' L' k r:=by
 obtain ⟨xs,h1,h2,h3⟩:=h;exact ⟨xs,by rw [hL];exact h1.kept hg hne,h2,fun i hi=>(h3 i hi).mono (hF.at k) (fun b hb=>hw b (by rw [<- F.E2 k];exact hb))⟩
def iN (k:Nat):CV->Bool
 | .own j=>Nat.beq j k
 | _=>false
theorem qh {k j:Nat}:iN k (.own j)=true↔j=k:=⟨Qt,fun h=>by subst h;exact Vv j⟩
def refs (k:Nat):PV->Bool
 | .cv c=>iN k c
 | .ag cs=>cs.any (iN k)
 | .tup _=>true
 | _=>false
theorem cQ.sC {w w':World} {F F':Fo} {rows:Nat->Option Row} {L:mJ} {v:Value} {p:PV} (h:cQ w F rows L v p) (hF:∀ b,F b->F' b) (ho:∀ j u,refs j p=true->F.o j u->F'.o j u) (hn:∀ b,F.n b->F'.n b) (hw:∀ b,F b->w'.heap[b]?=w.heap[b]?):cQ w' F' rows L v p:=by
 induction h with
 | cv h=>exact .cv (h.sC hF (fun j u e=>ho j u (by rw [e];exact qh.2 rfl)) hw)
 | ag hl h=>exact .ag hl (fun i hi=>(h i hi).sC hF (fun j u e=>ho j u (by
  simp only [refs,WU];exact ⟨_,Qi hi,by rw [e];exact qh.2 rfl⟩)) hw)
 | tup hl h ih=>exact .tup hl (fun i hi=>ih i hi (fun j u _=>ho j u rfl))
 | own h=>exact .own h
 | win h hL h1 hn hb ha=>exact .win h hL h1 hn hb ha
 | pr vs hs hF' hc hd=>exact .pr vs hs (hF _ hF') (fun i hi=>(World.cell?_of_block (by rw [block_add];exact hw _ hF')).trans (hc i hi)) (fun i hi=>(hd i hi).mono (Fo.jG hF) hw)
 | po h hL h1=>exact .po h hL h1
 | map hF' hn' hb he=>exact .map (hF _ hF') (hn _ hn') ((hw _ hF').trans hb) he
def NoRef (S:St) (j:Nat):Prop:=(∀ k r,S.rows k=some r->Nat.ble opened k=true->r.data.any (iN j)=false)/\∀ t p,S.env t=some p->refs j p=false
theorem Rel.less {X:Ctx} {S S':St} {a:Act} {w:World} (h:Rel X S a w) (he:∀ t p,S'.env t=some p->S.env t=some p) (hr:∀ k r,S'.rows k=some r->S.rows k=some r)
 (hk:∀ t p,S'.env t=some p->∀ w F L v,cQ w F S.rows L v p->cQ w F S'.rows L v p) (ho:∀ j r,S.rows j=some r->(∃ r',S'.rows j=some r')∨NoRef S' j):Rel X S' a w:=by
 obtain ⟨L,h⟩:=h;have d:∀ b,MX S'.rows L b->MX S.rows L b:=fun b ⟨k,r,f,g⟩=>⟨k,r,hr k r f,g⟩;have st:∀ b,Still X S.rows L w b->Still X S'.rows L w b:=fun b ⟨f,g⟩=>⟨f,fun l=>g (d b l)⟩;refine ⟨L,h.size,h.defers,h.below,?_,?_,(fun k r b f g=>h.mine k r b (hr k r f) g),(fun r f=>h.pin r (hr _ r f)),?_⟩
 ·intro k r f;obtain ⟨xs,g,l,h4⟩:=h.row k r (hr k r f);refine ⟨xs,g,l,fun i hi=>(h4 i hi).sC (fun b=>by rw [Fo.E2,Fo.E2];exact st b) (fun j u e hj=>?_) (fun _ _=>rfl)⟩;cases c:Nat.ble opened k with
  | false=>simp only [Fo.at,c,cond_false,Fo.shut] at hj
  | true =>
   simp only [Fo.at,c,cond_true] at hj ⊢;obtain ⟨⟨r2,g1⟩,g2⟩:=hj;rcases ho j r2 g1 with g3 | g3
   ·exact ⟨g3,g2⟩
   have:=g3.1 k r f c;rw [VD] at this;exact absurd (qh.2 rfl) (by have:=this _ (Qi hi);rw [e] at this;exact this)
 ·intro k k' r r' b f g;exact h.apart k k' r r' b (hr k r f) (hr k' r' g)
 intro t p f;obtain ⟨g,l⟩:=h.env t p (he t p f);refine ⟨g,(hk t p f _ _ _ _ l).sC st (fun j u e hj=>?_) (fun _ h=>h) (fun _ _=>rfl)⟩;obtain ⟨⟨r2,g1⟩,g2⟩:=hj;rcases ho j r2 g1 with g3 | g3
 ·exact ⟨g3,g2⟩
 rw [g3.2 t p f] at e;cases e
abbrev gM:=Exit->St->Prop
def Cl (X:Ctx) (Q:gM):Exit->Act->World->Prop:=fun e a w=>∃ S,Q e S/\Rel X S a w
def kp (P:Program) (X:Ctx) (c:Code) (S:St) (Q:gM):Prop:=∀ a w,Rel X S a w->c.wp P (Cl X Q) a w
def gM.then (next:St->Prop) (Q:gM):gM
 | .normal,S=>next S
 | e,S=>Q e S
def gM.block (id:Nat) (Q:gM):gM
 | .exit i,S=>if i=id then Q .normal S else Q (.exit i) S
 | e,S=>Q e S
section
variable {P:Program} {X:Ctx} {S:St} {Q:gM}
theorem xq {c:Code} {Q':gM} (h:kp P X c S Q) (hq:∀ e S,Q e S->Q' e S):kp P X c S Q':=fun a w r=>Code.wp_mono (fun e a w ⟨S',q,r'⟩=>⟨S',hq _ _ q,r'⟩) (h a w r)
theorem eQ {c:Code} {S':St} (hw:∀ a w,Rel X S a w->Rel X S' a w) (h:kp P X c S' Q):kp P X c S Q:=fun a w r=>h a w (hw a w r)
theorem aE (h:Q .normal S):kp P X .skip S Q:=fun _ _ r=>wp_skip ⟨S,h,r⟩
theorem Ja {l:Nat} (h:Q .normal S):kp P X (.label l) S Q:=fun _ _ r=>wp_label ⟨S,h,r⟩
theorem bI {i:Nat} (h:Q (.exit i) S):kp P X (.exit i) S Q:=fun _ _ r=>wp_exit ⟨S,h,r⟩
theorem jl (h:Q .ret S):kp P X .ret S Q:=fun _ _ r=>wp_ret ⟨S,h,r⟩
theorem aa {x y:Code} (h:kp P X x S (gM.then (fun S'=>kp P X y S' Q) Q)):kp P X (.seq x y) S Q:=fun a w r =>
 wp_seq (Code.wp_mono (fun e a w ⟨S',q,r'⟩=>by
  cases e with
  | normal=>exact q a w r'
  | _=>exact ⟨S',q,r'⟩) (h a w r))
theorem aC {i:Nat} {c:Code} (h:kp P X c S (gM.block i Q)):kp P X (.block i c) S Q:=fun a w r =>
 wp_block (Code.wp_mono (fun e a w ⟨S',q,r'⟩=>by
  cases e with
  | exit j =>
   replace q:if j=i then Q .normal S' else Q (.exit j) S':=q;show if j=i then Cl X Q .normal a w else Cl X Q (.exit j) a w
   by_cases c:j=i
   ·rw [Qk c] at q ⊢;exact ⟨S',q,r'⟩
   rw [Qc c] at q ⊢;exact ⟨S',q,r'⟩
  | _=>exact ⟨S',q,r'⟩) (h a w r))
def ij:Value->CV
 | .slice none 0 0=>.row 0 []
 | v=>.lit v
def E9:Value->PV
 | .agg vs=>.ag (vs.toList.map ij)
 | v=>.cv (ij v)
theorem jT (w:World) (F:Fo) (v:Value):Den w F v (ij v):=by
 unfold ij;split
 ·exact .nil _ _ (fun _=>rfl)
 exact .lit _
theorem Kq (w:World) (F:Fo) (rows:Nat->Option Row) (L:mJ) (v:Value):cQ w F rows L v (E9 v):=by
 unfold E9;split
 ·rename_i vs;refine .ag Q3 (fun i hi=>?_);simp only [Qz];have h:i<vs.size:=by simpa using hi
  have e:vs.getD i undef=vs.toList[i]'(by simpa using h):=by
   rw [Q9,Qg h];simp
  rw [e];exact jT _ _ _
 exact .cv (jT _ _ _)
def ev (S:St):Operand->Option PV
 | .tmp t=>S.env t
 | .const v=>some (E9 v)
 | .func f=>some (.cv (.lit (.func (.func f) #[] #[])))
 | .global g=>none
theorem cM.ev {L:mJ} {a:Act} {w:World} (h:cM X S L a w) {x:Operand} {p:PV} (hx:ev S x=some p):cQ w (Still X S.rows L w) S.rows L (a.eval x) p:=by
 cases x with
 | tmp t=>exact (h.env t p hx).2
 | const v=>cases hx;exact Kq _ _ _ _ _
 | func f=>cases hx;exact .cv (.lit _)
 | global g=>cases hx
theorem cQ.lit {w:World} {F:Fo} {rows:Nat->Option Row} {L:mJ} {v u:Value} (h:cQ w F rows L v (.cv (.lit u))):v=u:=by
 cases h with
 | cv h=>cases h;rfl
theorem iV {c:Operand} {x y:Code} {b:Bool} (hc:ev S c=some (.cv (.lit (.bool b)))) (hx:b=true->kp P X x S Q) (hy:b=false->kp P X y S Q):kp P X (.cond c x y) S Q:=by
 intro a w r;obtain ⟨L,r'⟩:=r;exact wp_cond_split (t:=b) (r'.ev hc).lit (fun h=>hx h a w ⟨L,r'⟩) (fun h=>hy h a w ⟨L,r'⟩)
def Cg (P:Program) (c:Code) (Q:Exit->Act->World->Prop) (a:Act) (w:World):Prop :=
 ∀ (b:Frame) (k:List Item) (cs:List Frame),∃ e a' w',Q e a' w'/\Arrives P (lone (b.at a (.code c :: .inLoop c :: k)) cs w) b k cs e a' w'
theorem Ff {c:Code} {Q:Exit->Act->World->Prop} {a:Act} {w:World} (h:Cg P c Q a w):(Code.loop c).wp P Q a w:=fun b k cs =>
 let ⟨e,a',w',q,r⟩:=h b k cs;⟨e,a',w',q,.of_steps (.one step_loop) r⟩
theorem D9 {c:Code} {Q:Exit->Act->World->Prop} {a:Act} {w:World} (h:c.wp P (Exit.then (Cg P c Q) Q) a w):Cg P c Q a w:=by
 intro b k cs;obtain ⟨e,a₁,w₁,hq,d⟩:=h b (.inLoop c :: k) cs;cases e with
 | normal =>
  obtain ⟨e₂,a₂,w₂,g,f⟩:=hq b k cs;exact ⟨e₂,a₂,w₂,g,.of_steps (Steps.trans d (.one step_inLoop)) f⟩
 | exit id=>exact ⟨_,a₁,w₁,hq,.pass (x:=.inLoop c) rfl (fun _ _=>.inl Q3) d⟩
 | goto l=>exact ⟨_,a₁,w₁,hq,.pass (x:=.inLoop c) rfl (fun _ _=>.inl Q3) d⟩
 | ret=>exact ⟨_,a₁,w₁,hq,.pass (x:=.inLoop c) rfl (fun _ _=>.inl Q3) d⟩
 | panic ch=>exact ⟨_,a₁,w₁,hq,.pass (x:=.inLoop c) rfl (fun _ _=>.inl Q3) d⟩
 | outgrown=>exact ⟨_,a₁,w₁,hq,.pass (x:=.inLoop c) rfl (fun _ _=>.inl Q3) d⟩
def wA (P:Program) (X:Ctx) (c:Code) (S:St) (Q:gM):Prop:=∀ a w,Rel X S a w->Cg P c (Cl X Q) a w
theorem bN {c:Code} (h:wA P X c S Q):kp P X (.loop c) S Q:=fun a w r=>Ff (h a w r)
theorem bH {c:Code} (h:kp P X c S (gM.then (fun S'=>wA P X c S' Q) Q)):wA P X c S Q:=fun a w r =>
 D9 (Code.wp_mono (fun e a w ⟨S',q,r'⟩=>by
  cases e with
  | normal=>exact q a w r'
  | _=>exact ⟨S',q,r'⟩) (h a w r))
theorem ru {c:Code} {S':St} (hw:∀ a w,Rel X S a w->Rel X S' a w) (h:wA P X c S' Q):wA P X c S Q:=fun a w r=>h a w (hw a w r)
def put (S:St) (d:Option Tmp) (p:PV):St :=
 match d with
 | some d=>{ S with env:=fun t=>if t=d then some p else S.env t }
 | none=>S
def dm (X:Ctx) (d:Option Tmp):Prop:=match d with | some d=>d<X.nt | none=>True
theorem ug (tmps:Array Value) (d t:Nat) (v:Value) (h:d<tmps.size):(tmps.setIfInBounds d v).getD t undef=if t=d then v else tmps.getD t undef:=by
 by_cases c:t=d
 ·subst c;rw [Qk rfl];simp [Q9,h]
 rw [Qc c];simp only [Q9,VH];rw [Qc (fun e=>c e.symm)]
theorem cM.put {L:mJ} {a:Act} {w:World} (h:cM X S L a w) {d:Option Tmp} (hd:dm X d) {v:Value} {p:PV} (hv:cQ w (Still X S.rows L w) S.rows L v p):cM X (put S d p) L (a.put d v) w:=by
 cases d with
 | none=>exact h
 | some d =>
  refine ⟨by simp [Act.put,h.size],h.defers,h.below,h.row,h.apart,h.mine,h.pin,?_⟩;intro t q hq;have hs:d<a.tmps.size:=by rw [h.size];exact hd
  show t<X.nt/\cQ w (Still X S.rows L w) S.rows L ((a.tmps.setIfInBounds d v).getD t undef) q;rw [ug _ _ _ _ hs];simp only [V.put] at hq
  by_cases c:t=d
  ·rw [Qk c] at hq ⊢;cases hq;exact ⟨by rw [c];exact hd,hv⟩
  rw [Qc c] at hq ⊢;exact h.env t q hq
def drop (S:St) (d:Option Tmp):St :=
 match d with
 | some d=>{ S with env:=fun t=>if t=d then none else S.env t }
 | none=>S
theorem cM.drop {L:mJ} {a:Act} {w:World} (h:cM X S L a w) (d:Option Tmp) (v:Value):cM X (drop S d) L (a.put d v) w:=by
 cases d with
 | none=>exact h
 | some d =>
  refine ⟨by simp [Act.put,h.size],h.defers,h.below,h.row,h.apart,h.mine,h.pin,?_⟩;intro t q hq;simp only [V.drop] at hq
  by_cases c:t=d
  ·rw [Qk c] at hq;cases hq
  rw [Qc c] at hq;obtain ⟨h1,h2⟩:=h.env t q hq;refine ⟨h1,?_⟩;show cQ w (Still X S.rows L w) S.rows L ((a.tmps.setIfInBounds d v).getD t undef) q;simp only [Q9,VH] at h2 ⊢;rw [Qc (fun e=>c e.symm)];exact h2
def cf (P:Program) (X:Ctx) (o:Oper) (S S':St):Prop:=∀ a w,Rel X S a w->o.wp P a w (fun a' w'=>Rel X S' a' w') (fun _ _ _=>False)
def Pure (P:Program) (X:Ctx) (o:Oper) (S:St) (p:PV):Prop:=∀ L a w,cM X S L a w->∃ v,(execOp a.eval o).run P w = .ok (.value v) w/\cQ w (Still X S.rows L w) S.rows L v p
theorem Pure.to {o:Oper} {p:PV} (h:Pure P X o S p) (hd:dm X o.dst):cf P X o S (put S o.dst p):=by
 intro a w ⟨L,r⟩;obtain ⟨v,h1,h2⟩:=h L a w r;unfold Oper.wp;rw [h1];exact ⟨L,r.put hd h2⟩
def eu (P:Program) (X:Ctx) (ops:Array Oper) (l:List Oper) (S:St) (Q:St->Prop):Prop:=∀ a w,Rel X S a w->wpList P ops (Cl X (fun e S'=>e = .normal/\Q S')) l a w
theorem ai {ops:Array Oper} {Q:St->Prop} (h:Q S):eu P X ops [] S Q:=fun a w r=>⟨S,⟨rfl,h⟩,r⟩
theorem Oper.rm {o:Oper} {a:Act} {w:World} {K K':Act->World->Prop} {Q Q':Exit->Act->World->Prop} (h:∀ a w,K a w->K' a w) (hq:∀ e a w,Q e a w->Q' e a w) (hh:o.wp P a w K Q):o.wp P a w K' Q':=by
 unfold Oper.wp at *
 generalize (execOp a.eval o).run P w=r at *
 cases r with
 | ok n w' =>
  cases n<;>simp only [Oper.upon] at hh ⊢ <;>
   first
    | exact h _ _ hh
    | exact Calls.mono hh (fun e w'' he=>by cases e<;>first | exact h _ _ he | exact hq _ _ _ he | exact (let ⟨a,w,q⟩:=he;⟨a,w,hq _ _ _ q⟩))
    | exact Rows.mono hh (fun _ _ he=>h _ _ he)
 | halt x w'=>cases x<;>simp only [Oper.upon] at hh ⊢<;>exact hq _ _ _ hh
theorem dE {ops:Array Oper} {o:Oper} {l:List Oper} {S':St} {Q:St->Prop} (hg:o.guard=none) (h:cf P X o S S') (hl:eu P X ops l S' Q):eu P X ops (o :: l) S Q:=fun a w r =>
 wpList_plain hg (fun K hK=>Oper.rm (fun a w r=>hK a w (hl a w r)) (fun _ _ _ h=>h.elim) (h a w r))
theorem sA {ops:Array Oper} {a:Act} {j:Nat} {oj:Oper} {t:Tmp} {b:Bool} (hj:ops[j]?=some oj) (ht:oj.dst=some t) (hlt:t<a.tmps.size) (h:a.tmps.getD t undef = .bool b):yielded ops a.tmps j=some b:=by
 unfold yielded;rw [hj];simp only [Option.bind_some,ht];rw [Qg hlt];rw [Q9,Qg hlt] at h;simp only [Option.getD_some] at h;rw [h]
theorem tx {ops:Array Oper} {a:Act} {j:Nat} {oj:Oper} {t:Tmp} (hj:ops[j]?=some oj) (ht:oj.dst=some t) (hlt:t<a.tmps.size) (h:a.tmps.getD t undef=undef):yielded ops a.tmps j=none:=by
 unfold yielded;rw [hj];simp only [Option.bind_some,ht];rw [Qg hlt];rw [Q9,Qg hlt] at h;simp only [Option.getD_some] at h;rw [h];rfl
theorem iU {ops:Array Oper} {o oj:Oper} {l:List Oper} {S':St} {Q:St->Prop} {j:Nat} {t:Tmp} {b b':Bool} (hg:o.guard=some (j,b)) (hj:ops[j]?=some oj) (ht:oj.dst=some t) (he:S.env t=some (.cv (.lit (.bool b')))) (hd:dm X o.dst)
 (h:b'=b->cf P X o S S'/\eu P X ops l S' Q) (hn:b'≠b->eu P X ops l (put S o.dst (.cv (.lit undef))) Q):eu P X ops (o :: l) S Q:=by
 intro a w r;obtain ⟨L,r'⟩:=r;obtain ⟨h1,h2⟩:=r'.env t _ he;have hy:=sA hj ht (by rw [r'.size];exact h1) h2.lit;refine wpList_step (fun K hK=>?_);have hw:Region.wanted o (yielded ops a.tmps)=(b'==b):=by simp [Region.wanted,hg,hy]
 rw [hw]
 by_cases c:b'=b
 ·rw [Qk (by simp [c])];obtain ⟨g1,g2⟩:=h c;exact Oper.rm (fun a w r=>hK a w (g2 a w r)) (fun _ _ _ h=>h.elim) (g1 a w ⟨L,r'⟩)
 rw [Qc (by simp [c])];exact hK _ _ (hn c _ _ ⟨L,r'.put hd (.cv (.lit _))⟩)
theorem p9 {ops:Array Oper} {o oj:Oper} {l:List Oper} {Q:St->Prop} {j:Nat} {t:Tmp} {b:Bool} (hg:o.guard=some (j,b)) (hj:ops[j]?=some oj) (ht:oj.dst=some t) (he:S.env t=some (.cv (.lit undef))) (hd:dm X o.dst) (hn:eu P X ops l (put S o.dst (.cv (.lit undef))) Q):eu P X ops (o :: l) S Q:=by
 intro a w r;obtain ⟨L,r'⟩:=r;obtain ⟨h1,h2⟩:=r'.env t _ he;have hy:=tx hj ht (by rw [r'.size];exact h1) h2.lit;refine wpList_step (fun K hK=>?_);have hw:Region.wanted o (yielded ops a.tmps)=false:=by simp [Region.wanted,hg,hy]
 rw [hw,Qc (by decide)];exact hK _ _ (hn _ _ ⟨L,r'.put hd (.cv (.lit _))⟩)
theorem ak {id:Nat} {ops:List Oper} (h:eu P X ops.toArray ops S (fun S'=>Q .normal S')):kp P X (.region id ops.toArray false) S Q:=fun a w r =>
 Code.wp_mono (fun e a w ⟨S',⟨he,q⟩,r'⟩=>by subst he;exact ⟨S',q,r'⟩) (wp_region_lit (h a w r))
end
section
variable {P:Program} {X:Ctx} {S:St} {o:Oper}
theorem nB {x:Operand} {p:PV} (ho:o.op = .move x∨o.op = .assign x) (hx:ev S x=some p):Pure P X o S p:=by
 intro L a w r;refine ⟨a.eval x,?_,r.ev hx⟩;rcases ho with ho | ho<;>simp [execOp,ho]
theorem rB {c x y:Operand} {b:Bool} {p:PV} (ho:o.op = .pick c x y) (hc:ev S c=some (.cv (.lit (.bool b)))) (hx:b=true->ev S x=some p) (hy:b=false->ev S y=some p):Pure P X o S p:=by
 intro L a w r;have h:=(r.ev hc).lit;cases b with
 | true=>exact ⟨a.eval x,by simp [execOp,ho,h,asBool],r.ev (hx rfl)⟩
 | false=>exact ⟨a.eval y,by simp [execOp,ho,h,asBool],r.ev (hy rfl)⟩
abbrev PV.int (k:IntKind) (n:Int):PV:=.cv (.lit (.int k n))
abbrev PV.bool (b:Bool):PV:=.cv (.lit (.bool b))
abbrev PV.str (s:ByteArray):PV:=.cv (.lit (.string s))
def JQ (op:BinOp) (k:IntKind) (a b:Int):Option Value :=
 match op with
 | .add=>some (.int k (k.wrap (a+b)))
 | .sub=>some (.int k (k.wrap (a-b)))
 | .mul=>some (.int k (k.wrap (a*b)))
 | .quo=>if b=0 then none else some (.int k (k.wrap (a.tdiv b)))
 | .rem=>if b=0 then none else some (.int k (a.tmod b))
 | .eql=>some (.bool (a==b))
 | .neq=>some (.bool (a != b))
 | .lss=>some (.bool (decide (a<b)))
 | .leq=>some (.bool (decide (a<=b)))
 | .gtr=>some (.bool (decide (a>b)))
 | .geq=>some (.bool (decide (a>=b)))
 | .shl=>if b<0 then none else some (.int k (k.wrap (a*2 ^ (min b.toNat k.bits))))
 | .shr=>if b<0 then none else some (.int k (a.fdiv (2 ^ (min b.toNat k.bits))))
 | .and=>some (.int k (bits .and k a b))
 | .or=>some (.int k (bits .or k a b))
 | .xor=>some (.int k (bits .xor k a b))
 | .andNot=>some (.int k (bits .andNot k a b))
theorem Ny {op:BinOp} {t:TypeId} {k k':IntKind} {a b:Int} {v:Value} (hk:k=k'∨op = .shl∨op = .shr) (h:JQ op k a b=some v) (w:World):(binOp op t (.int k a) (.int k' b)).run P w = .ok v w:=by
 cases op<;>simp only [JQ,Qj] at h
 case shl =>
  split at h
  ·cases h
  rename_i c;cases h;simp [binOp,Op.shift,c]
 case shr =>
  split at h
  ·cases h
  rename_i c;cases h;simp [binOp,Op.shift,c]
 all_goals (have hk:k=k':=by simpa using hk);subst hk
 case quo =>
  split at h
  ·cases h
  rename_i c;cases h;simp [binOp,Op.intDiv,c]
 case rem =>
  split at h
  ·cases h
  rename_i c;cases h;simp [binOp,Op.intDiv,c]
 all_goals (subst h;simp [binOp,Op.intArith,Op.intCmp,Op.intBits,bits])
theorem e8 {op:BinOp} {t t':TypeId} {x y:Operand} {k k':IntKind} {a b:Int} {v:Value} (ho:o.op = .binOp op t x y t') (hx:ev S x=some (.int k a)) (hy:ev S y=some (.int k' b)) (hk:k=k'∨op = .shl∨op = .shr) (h:JQ op k a b=some v) :
 Pure P X o S (.cv (.lit v)):=by
 intro L c w r;have h1:=(r.ev hx).lit;have h2:=(r.ev hy).lit;refine ⟨v,?_,.cv (.lit v)⟩;have:=Ny (P:=P) (t:=t) hk h w;cases op<;>simp [execOp,ho,h1,h2,eqGuard,this]
theorem Dw {t:TypeId} {x:Operand} {b:Bool} (ho:o.op = .unOp .not t x) (hx:ev S x=some (.bool b)):Pure P X o S (.bool (!b)):=by
 intro L a w r;exact ⟨.bool (!b),by simp [execOp,ho,(r.ev hx).lit,Op.unary],.cv (.lit _)⟩
theorem Dz {t:TypeId} {x:Operand} {k:IntKind} {n:Int} (ho:o.op = .unOp .neg t x) (hx:ev S x=some (.int k n)):Pure P X o S (.int k (k.wrap (-n))):=by
 intro L a w r;exact ⟨.int k (k.wrap (-n)),by simp [execOp,ho,(r.ev hx).lit,Op.unary,Op.intArith],.cv (.lit _)⟩
theorem j8 {s d:TypeId} {x:Operand} {k k':IntKind} {n:Int} {ds:TypeDesc} (ho:o.op = .convert s d x) (hs:P.underlying s=some ds) (hd:P.underlying d=some (.int k')) (hx:ev S x=some (.int k n)):Pure P X o S (.int k' (k'.wrap n)):=by
 intro L a w r;refine ⟨.int k' (k'.wrap n),?_,.cv (.lit _)⟩;simp [execOp,ho,(r.ev hx).lit,convert,run_underlying hs,run_underlying hd,Conv.intToInt]
theorem tJ {op:BinOp} {t t':TypeId} {x y:Operand} {a b:ByteArray} {c:Bool} (ho:o.op = .binOp op t x y t') (hx:ev S x=some (.str a)) (hy:ev S y=some (.str b))
 (hc:(op = .eql/\c=(a.toList==b.toList))∨(op = .neq/\c = !(a.toList==b.toList))):Pure P X o S (.bool c):=by
 intro L z w r;refine ⟨.bool c,?_,.cv (.lit _)⟩;rcases hc with ⟨rfl,rfl⟩ | ⟨rfl,rfl⟩<;>simp [execOp,ho,(r.ev hx).lit,(r.ev hy).lit,eqGuard,binOp,Op.stringOp]
theorem zN {t t':TypeId} {x y:Operand} {a b:ByteArray} (ho:o.op = .binOp .add t x y t') (hx:ev S x=some (.str a)) (hy:ev S y=some (.str b)) (hs:a.size+b.size<=9223372036854775807):Pure P X o S (.str (a++b)):=by
 intro L z w r;refine ⟨.string (a++b),?_,.cv (.lit _)⟩;have:¬ (9223372036854775807<(a.size:Int)+(b.size:Int)):=Q2;simp [execOp,ho,(r.ev hx).lit,(r.ev hy).lit,eqGuard,binOp,Op.stringOp,IntKind.max,IntKind.signed,IntKind.bits,this]
theorem tN {op:BinOp} {t t':TypeId} {x y:Operand} {a b c:Bool} (ho:o.op = .binOp op t x y t') (hu:P.underlying t=some .bool) (hx:ev S x=some (.bool a)) (hy:ev S y=some (.bool b))
 (hc:(op = .eql/\c=(a==b))∨(op = .neq/\c=(a != b))):Pure P X o S (.bool c):=by
 intro L z w r;refine ⟨.bool c,?_,.cv (.lit _)⟩;have h:=run_equal_bool (P:=P) w t a b hu;rcases hc with ⟨rfl,rfl⟩ | ⟨rfl,rfl⟩<;>simp [execOp,ho,(r.ev hx).lit,(r.ev hy).lit,eqGuard,binOp,h,bne]
theorem tM {x:Operand} {i:Nat} {ps:List PV} {p:PV} (ho:o.op = .extract x i) (hx:ev S x=some (.tup ps)) (hp:ps[i]?=some p):Pure P X o S p:=by
 intro L a w r;have h:=r.ev hx;generalize hv:a.eval x=v at h;cases h with
 | @tup vs _ hl h =>
  obtain ⟨hi,rfl⟩:=Qx.1 hp;have b:i<vs.size:=Q2;have e:=h i hi;rw [Q9,Qg b] at e;exact ⟨vs[i],by simp [execOp,ho,hv,Instr.extract,Qg b],e⟩
theorem mR {x:Operand} {p:PV} (ho:o.op = .nilCheck x) (hx:ev S x=some p) (hp:(∃ k off,p = .po k off)∨(∃ cs,p = .pr cs)):Pure P X o S p:=by
 intro L a w r;have h:=r.ev hx;refine ⟨a.eval x,?_,h⟩;generalize hv:a.eval x=v at h;rcases hp with ⟨k,off,rfl⟩ | ⟨cs,rfl⟩<;>cases h<;>simp [execOp,ho,hv]
end
section
variable {P:Program} {X:Ctx} {S:St} {o:Oper}
def rP (S:St):PV->Option Nat
 | .cv (.row n _)=>some n
 | .own k=>(S.rows k).map (·.n)
 | .win _ _ n=>some n
 | _=>none
theorem cM.len {L:mJ} {a:Act} {w:World} (r:cM X S L a w) {v:Value} {p:PV} {n:Nat} (h:cQ w (Still X S.rows L w) S.rows L v p) (hn:rP S p=some n):∃ b c,v = .slice b n c:=by
 cases h with
 | cv h =>
  cases h with
  | lit v=>simp [rP] at hn
  | own=>simp [rP] at hn
  | any=>simp [rP] at hn
  | nil a c=>simp only [rP,Qj] at hn;subst hn;exact ⟨_,_,rfl⟩
  | row ad n c cs vs=>simp only [rP,Qj] at hn;subst hn;exact ⟨_,_,rfl⟩
 | ag=>simp [rP] at hn
 | tup=>simp [rP] at hn
 | @own k q h =>
  simp only [rP,h,Option.map_some,Qj] at hn;subst hn;obtain ⟨xs,h1,_⟩:=r.row k q h;rcases h1.2 with ⟨h2,h3⟩ | ⟨g,cap,cur,h2,_⟩
  ·rw [h2,h3];exact ⟨_,_,rfl⟩
  rw [h2];exact ⟨_,_,rfl⟩
 | win=>simp only [rP,Qj] at hn;subst hn;exact ⟨_,_,rfl⟩
 | pr=>simp [rP] at hn
 | po=>simp [rP] at hn
 | map=>simp [rP] at hn
theorem lO {c:Call} {x:Operand} {t e:TypeId} {p:PV} {n:Nat} (ho:o.op = .call c) (hc:c.callee = .builtin .len) (ha:c.args = #[x]) (ht:c.argTypes = #[t]) (hu:P.underlying t=some (.slice e)) (hx:ev S x=some p) (hn:rP S p=some n) :
 Pure P X o S (.int .i64 n):=by
 intro L a w r;refine ⟨.int .i64 n,?_,.cv (.lit _)⟩;obtain ⟨b,q,hv⟩:=r.len (r.ev hx) hn;simp [execOp,ho,resolve,hc,ha,ht,invoke,builtin,Builtin.len_,hv,run_underlying hu,goInt]
theorem zM {c:Call} {x:Operand} {t:TypeId} {s:ByteArray} (ho:o.op = .call c) (hc:c.callee = .builtin .len) (ha:c.args = #[x]) (ht:c.argTypes = #[t]) (hu:P.underlying t=some .string) (hx:ev S x=some (.str s)) :
 Pure P X o S (.int .i64 s.size):=by
 intro L a w r;refine ⟨.int .i64 s.size,?_,.cv (.lit _)⟩;simp [execOp,ho,resolve,hc,ha,ht,invoke,builtin,Builtin.len_,(r.ev hx).lit,run_underlying hu,goInt]
theorem Du {t:TypeId} {x y:Operand} {s:ByteArray} {k:IntKind} {i:Int} (ho:o.op = .index t x y) (hu:P.underlying t=some .string) (hx:ev S x=some (.str s)) (hy:ev S y=some (.int k i)) (b:0<=i) (c:i.toNat<s.size) :
 Pure P X o S (.int .u8 (s[i.toNat]'c).toNat):=by
 intro L a w r;refine ⟨.int .u8 (s[i.toNat]'c).toNat,?_,.cv (.lit _)⟩;have e:s[i.toNat]?=some s[i.toNat]:=getElem?_pos s i.toNat c;simp [execOp,ho,Instr.index,asIntOf,(r.ev hx).lit,(r.ev hy).lit,run_underlying hu,b,e]
theorem add_plain (b o n:Nat):(⟨b,o,none⟩:Addr).add n=⟨b,o+n,none⟩:=by
 unfold Addr.add;split
 ·rename_i h;subst h;rfl
 rfl
theorem add_add (a:Addr) (hs:a.spot=none) (i j:Nat):(a.add i).add j=a.add (i+j):=by
 obtain ⟨b,o,s⟩:=a;cases hs;rw [add_plain,add_plain,add_plain,Yx]
theorem pZ (a:Addr) (hs:a.spot=none) (i:Nat):(a.add i).spot=none:=by
 obtain ⟨b,o,s⟩:=a;cases hs;rw [add_plain]
theorem HQ {t e:TypeId} {inf:TypeInfo} {x y:Operand} {n:Nat} {cs:List CV} {k:IntKind} {i:Int} (ho:o.op = .indexAddr t x y) (hu:P.underlying t=some (.slice e)) (hi:P.info? e=some inf) (hx:ev S x=some (.cv (.row n cs))) (hy:ev S y=some (.int k i))
 (d:0<=i) (f:i<n) (hl:cs.length=n*inf.size):Pure P X o S (.pr ((cs.drop (i.toNat*inf.size)).take inf.size)):=by
 intro L a w r;have h:=r.ev hx;generalize hv:a.eval x=v at h;have hm:i.toNat*inf.size+inf.size<=cs.length:=by
  rw [hl,<- Vi];exact QJ _ Q2
 cases h with
 | cv h =>
  cases h with
  | nil=>omega
  | row ad n c cs vs hs hF hn hc hd =>
   refine ⟨.pointer (some (ad.add (i.toNat*inf.size))),?_,?_⟩
   ·simp [execOp,ho,Instr.indexAt,asIntOf,hv,(r.ev hy).lit,run_underlying hu,sizeOf,typeInfo,hi,d,f]
   refine .pr (fun j=>vs (i.toNat*inf.size+j)) (pZ _ hs _) (by rw [block_add];exact hF) (fun j hj=>?_) (fun j hj=>?_)
   ·simp only [Qd,Qq] at hj;rw [add_add _ hs];exact hc _ Q2
   have b:=hj;simp only [Qd,Qq] at b;have:=hd (i.toNat*inf.size+j) Q2;simpa [V6,V0] using this
theorem vH {t e:TypeId} {inf:TypeInfo} {x y:Operand} {q:Nat} {d:Row} {k:IntKind} {i:Int} (ho:o.op = .indexAddr t x y) (hu:P.underlying t=some (.slice e)) (hi:P.info? e=some inf) (hx:ev S x=some (.own q)) (hy:ev S y=some (.int k i)) (hd:S.rows q=some d)
 (b:0<=i) (c:i<d.n) (hs:d.sz=inf.size) (hp:0<inf.size):Pure P X o S (.po q (i.toNat*inf.size)):=by
 intro L a w r;have h:=r.ev hx;generalize hv:a.eval x=v at h;obtain ⟨xs,g1,g2,g3⟩:=r.row q d hd;cases h with
 | own h =>
  rcases g1.2 with ⟨h2,h3⟩ | ⟨g,cap,cur,h2,h3,h4,h5,h6⟩
  ·omega
  refine ⟨.pointer (some ⟨g,i.toNat*inf.size,none⟩),?_,.po hd h2 ?_⟩
  ·simp [execOp,ho,Instr.indexAt,asIntOf,hv,h2,(r.ev hy).lit,run_underlying hu,sizeOf,typeInfo,hi,b,c,add_plain]
  rw [<- g2,g1.1,hs];have:i.toNat*inf.size+inf.size<=d.n*inf.size:=by
   rw [<- Vi];exact QJ _ Q2
  omega
theorem uJ {t:TypeId} {d:TypeDesc} {x:Operand} {c:CV} (ho:o.op = .load t x) (hu:P.underlying t=some d) (hd:(match d with | .struct _ | .array _ _=>true | _=>false)=false) (hx:ev S x=some (.pr [c])):Pure P X o S (.cv c):=by
 intro L a w r;have h:=r.ev hx;generalize hv:a.eval x=v at h;cases h with
 | pr vs hs hF hc hdn =>
  refine ⟨vs 0,?_,.cv (hdn 0 Q3).open⟩;have e:=hc 0 Q3;rename_i ad;have e0:ad.add 0=ad:=by simp [Addr.add]
  rw [e0] at e;cases d<;>simp at hd<;>simp [execOp,ho,Instr.loadAt,Instr.sureAddr,hv,loadVar,isAgg,run_underlying hu,load,Sem.run,e]
theorem tL {t:TypeId} {fs:Array Field} {inf:TypeInfo} {x:Operand} {cs:List CV} (ho:o.op = .load t x) (hu:P.underlying t=some (.struct fs)) (hi:P.info? t=some inf) (hl:cs.length=inf.size) (hx:ev S x=some (.pr cs)):Pure P X o S (.ag cs):=by
 intro L a w r;have h:=r.ev hx;generalize hv:a.eval x=v at h;cases h with
 | @pr ad _ vs hs hF hc hdn =>
  refine ⟨.agg ((List.range inf.size).map vs).toArray,?_,.ag (by simp [hl]) (fun i hj=>?_)⟩
  ·have e:=run_loadCells (P:=P) (w:=w) ad inf.size vs (fun j hj=>hc j Q2);simp [execOp,ho,Instr.loadAt,Instr.sureAddr,hv,loadVar,isAgg,run_underlying hu,sizeOf,typeInfo,hi,e]
  have:i<inf.size:=Q2;simpa [Q9,this] using (hdn i hj).open
end
section
variable {P:Program} {X:Ctx} {S:St} {o:Oper}
theorem lP {s:TypeId} {fs:Array Field} {f:Field} {inf:TypeInfo} {x:Operand} {i k off:Nat} {d:Row} (ho:o.op = .fieldAddr s x i) (hu:P.underlying s=some (.struct fs)) (hf:fs[i]?=some f) (hi:P.info? f.type=some inf) (hz:inf.size≠0)
 (hx:ev S x=some (.po k off)) (hd:S.rows k=some d) (hl:off+f.offset<d.data.length):Pure P X o S (.po k (off+f.offset)):=by
 intro L a w r;have h:=r.ev hx;generalize hv:a.eval x=v at h;cases h with
 | @po _ _ g m cap r' h hL hb =>
  refine ⟨.pointer (some ⟨g,off+f.offset,none⟩),?_,.po hd hL hl⟩;simp [execOp,ho,Instr.fieldAt,Instr.sureAddr,hv,run_underlying hu,hf,fieldPlace,sizeOf,typeInfo,hi,hz,add_plain]
theorem my {s:TypeId} {fs:Array Field} {f:Field} {inf:TypeInfo} {x:Operand} {i:Nat} {cs:List CV} (ho:o.op = .fieldAddr s x i) (hu:P.underlying s=some (.struct fs)) (hf:fs[i]?=some f) (hi:P.info? f.type=some inf) (hz:inf.size≠0)
 (hx:ev S x=some (.pr cs)):Pure P X o S (.pr ((cs.drop f.offset).take inf.size)):=by
 intro L a w r;have h:=r.ev hx;generalize hv:a.eval x=v at h;cases h with
 | @pr ad _ vs hs hF hc hd =>
  refine ⟨.pointer (some (ad.add f.offset)),?_,?_⟩
  ·simp [execOp,ho,Instr.fieldAt,Instr.sureAddr,hv,run_underlying hu,hf,fieldPlace,sizeOf,typeInfo,hi,hz]
  refine .pr (fun j=>vs (f.offset+j)) (pZ _ hs _) (by rw [block_add];exact hF) (fun j hj=>?_) (fun j hj=>?_)
  ·simp only [Qd,Qq] at hj;rw [add_add _ hs];exact hc _ Q2
  have b:=hj;simp only [Qd,Qq] at b;have:=hd (f.offset+j) Q2;simpa [V6,V0] using this
theorem cM.qp {L:mJ} {a:Act} {w:World} (r:cM X S L a w) {k g m cap:Nat} {d:Row} (hd:S.rows k=some d) (hL:L k = .slice (some ⟨g,0,none⟩) m cap) :
 ∃ xs:List Value,xs.length=d.data.length/\(∀ i (h:i<d.data.length),w.cell? ⟨g,i,none⟩=some (xs.getD i undef)/\Den w (Still X S.rows L w) (xs.getD i undef) d.data[i]):=by
 obtain ⟨xs,g1,g2,g3⟩:=r.row k d hd;refine ⟨xs,g2,fun i h=>⟨?_,(g3 i h).mono (Fo.at_le _ _) (fun _ _=>rfl)⟩⟩;rw [hL] at g1;have hm:m=d.n:=by
  rcases g1.2 with ⟨h1,h2⟩ | ⟨g',c',cur,h1,_⟩
  ·cases h1
  cases h1;rfl
 subst hm;have hi:i<d.n*d.sz:=by rw [<- g1.1,g2];exact h
 rw [g1.cellAt i hi];have:i<xs.length:=Q2;simp [Q6,Qh this]
theorem gV {t:TypeId} {ds:TypeDesc} {x:Operand} {k off:Nat} {d:Row} (ho:o.op = .load t x) (hu:P.underlying t=some ds) (hds:(match ds with | .struct _ | .array _ _=>true | _=>false)=false) (hx:ev S x=some (.po k off)) (hd:S.rows k=some d) {c:CV} (hc:d.data[off]?=some c):Pure P X o S (.cv c):=by
 intro L a w r;have h:=r.ev hx;generalize hv:a.eval x=v at h;obtain ⟨hb,rfl⟩:=Qx.1 hc;cases h with
 | @po _ _ g m cap r' h hL _ =>
  obtain ⟨xs,h1,h2⟩:=r.qp hd hL;obtain ⟨e,e2⟩:=h2 off hb;refine ⟨xs.getD off undef,?_,.cv e2⟩;cases ds<;>simp at hds<;>simp [execOp,ho,Instr.loadAt,Instr.sureAddr,hv,loadVar,isAgg,run_underlying hu,load,Sem.run,e]
theorem nC {t:TypeId} {fs:Array Field} {inf:TypeInfo} {x:Operand} {k off:Nat} {d:Row} (ho:o.op = .load t x) (hu:P.underlying t=some (.struct fs)) (hi:P.info? t=some inf) (hx:ev S x=some (.po k off)) (hd:S.rows k=some d) (hl:off+inf.size<=d.data.length) :
 Pure P X o S (.ag ((d.data.drop off).take inf.size)):=by
 intro L a w r;have h:=r.ev hx;generalize hv:a.eval x=v at h;cases h with
 | @po _ _ g m cap r' h hL _ =>
  obtain ⟨xs,h1,h2⟩:=r.qp hd hL;refine ⟨.agg ((List.range inf.size).map fun j=>xs.getD (off+j) undef).toArray,?_,.ag (by simp;omega) (fun i hj=>?_)⟩
  ·have e:=run_loadCells (P:=P) (w:=w) ⟨g,off,none⟩ inf.size (fun j=>xs.getD (off+j) undef) (fun j hj=>by rw [add_plain];exact (h2 (off+j) Q2).1);simp [execOp,ho,Instr.loadAt,Instr.sureAddr,hv,loadVar,isAgg,run_underlying hu,sizeOf,typeInfo,hi,e]
  simp only [Qd,Qq] at hj;have b:i<inf.size:=Q2;have:=(h2 (off+i) Q2).2;simpa [Q9,b,V6,V0] using this
theorem xH {s:TypeId} {fs:Array Field} {f:Field} {ds:TypeDesc} {x:Operand} {i:Nat} {cs:List CV} {c:CV} (ho:o.op = .field s x i) (hu:P.underlying s=some (.struct fs)) (hf:fs[i]?=some f) (hd:P.underlying f.type=some ds)
 (hds:(match ds with | .struct _ | .array _ _=>true | _=>false)=false) (hx:ev S x=some (.ag cs)) (hc:cs[f.offset]?=some c):Pure P X o S (.cv c):=by
 intro L a w r;have h:=r.ev hx;generalize hv:a.eval x=v at h;obtain ⟨hb,rfl⟩:=Qx.1 hc;cases h with
 | @ag vs _ hl h =>
  have b:f.offset<vs.size:=Q2;have e:=h f.offset hb;rw [Q9,Qg b] at e;refine ⟨vs[f.offset],?_,.cv e⟩;cases ds<;>simp at hds<;>simp [execOp,ho,Instr.field,hv,run_underlying hu,hf,part,isAgg,run_underlying hd,asAgg,Qg b]
theorem zd {s:TypeId} {fs fs':Array Field} {f:Field} {inf:TypeInfo} {x:Operand} {i:Nat} {cs:List CV} (ho:o.op = .field s x i) (hu:P.underlying s=some (.struct fs)) (hf:fs[i]?=some f) (hd:P.underlying f.type=some (.struct fs')) (hi:P.info? f.type=some inf)
 (hx:ev S x=some (.ag cs)) (hl:f.offset+inf.size<=cs.length):Pure P X o S (.ag ((cs.drop f.offset).take inf.size)):=by
 intro L a w r;have h:=r.ev hx;generalize hv:a.eval x=v at h;cases h with
 | @ag vs _ hs h =>
  refine ⟨.agg (vs.extract f.offset (f.offset+inf.size)),?_,.ag (by simp;omega) (fun j hj=>?_)⟩
  ·simp [execOp,ho,Instr.field,hv,run_underlying hu,hf,part,isAgg,run_underlying hd,asAgg,sizeOf,typeInfo,hi]
  simp only [Qd,Qq] at hj;have:=h (f.offset+j) Q2;have b:f.offset+j<vs.size:=Q2;have c:j<f.offset+inf.size-f.offset:=Q2;simp only [Q9,Qg b,Option.getD_some] at this;simp only [Q9,Ym,V6,V0];rw [Qk Q2,Qg b];exact this
def bound (S:St) (dflt:Int):Option Operand->Option Int
 | none=>some dflt
 | some x=>match ev S x with
  | some (.cv (.lit (.int _ n)))=>some n
  | _=>none
theorem uG {L:mJ} {a:Act} {w:World} (r:cM X S L a w) {x:Operand} {m:Nat} {n dflt:Int} (h:bound S dflt (some x)=some n) (b:0<=n) (d:n<=m) (c:BoundsCode):(Instr.sliceBound (a.eval x) m c).run P w = .ok n.toNat w:=by
 simp only [bound] at h;split at h
 ·rename_i k n' he;cases h;have hv:=(r.ev he).lit;simp [hv,Instr.sliceBound,asIntOf,b,d]
 cases h
theorem lK {L:mJ} {a:Act} {w:World} (r:cM X S L a w) {lo hi:Option Operand} {l h:Int} {n c:Nat} (hl:bound S 0 lo=some l) (hh:bound S n hi=some h) (d:0<=l) (g:l<=h) (f:h<=n) (i:n<=c) (b:Bool) :
 (Instr.sliceBounds b n c (lo.map a.eval) (hi.map a.eval) none).run P w = .ok (l.toNat,h.toNat,c) w:=by
 cases hi with
 | none =>
  simp only [bound,Qj] at hh;subst hh;cases lo with
  | none=>simp only [bound,Qj] at hl;subst hl;simp [Instr.sliceBounds]
  | some x =>
   have e2:=uG (P:=P) (X:=X) (m:=n) r hl d Q2;simp [Instr.sliceBounds,e2]
 | some y =>
  have e:=uG (P:=P) (X:=X) (m:=c) r hh Q2 Q2;cases lo with
  | none=>simp only [bound,Qj] at hl;subst hl;simp [Instr.sliceBounds,e]
  | some x =>
   have e2:=uG (P:=P) (X:=X) (m:=h.toNat) r hl d Q2;simp [Instr.sliceBounds,e,e2]
theorem xE {t e:TypeId} {inf:TypeInfo} {x:Operand} {lo hi:Option Operand} {n:Nat} {cs:List CV} {l h:Int} (ho:o.op = .slice t x lo hi none) (hu:P.underlying t=some (.slice e)) (hi':P.info? e=some inf) (hx:ev S x=some (.cv (.row n cs))) (hlen:cs.length=n*inf.size)
 (hl:bound S 0 lo=some l) (hh:bound S n hi=some h) (m:0<=l) (p:l<=h) (k:h<=n) :
 Pure P X o S (.cv (.row (h.toNat-l.toNat) ((cs.drop (l.toNat*inf.size)).take ((h.toNat-l.toNat)*inf.size)))):=by
 intro L a w r;have e0:=@lK P X S L a w r lo hi l h n;generalize hln:l.toNat=l' at e0 ⊢;generalize hhn:h.toNat=h' at e0 ⊢;have k1:l'<=h':=Q2;have k2:h'<=n:=Q2;have hr:=r.ev hx;generalize hv:a.eval x=v at hr;have hm:(h'-l')*inf.size+l'*inf.size<=cs.length:=by
  rw [hlen,<- Xm];exact QJ _ Q2
 cases hr with
 | cv hd=>cases hd with
  | nil b c hb =>
   have d:l'=0:=Q2;have f:h'=0:=Q2;subst d f;refine ⟨.slice (if c=0 then b else b.map (·.add (0*inf.size))) 0 c,?_,?_⟩
   ·have e:=e0 (c:=c) hl hh m p k Q2 true;simp [execOp,ho,Instr.sliceAt,run_underlying hu,Instr.slice,hv,e,sizeOf,typeInfo,hi']
   have g:(if c=0 then b else b.map (·.add (0*inf.size)))=none->c=0:=by
    by_cases hc0:c=0
    ·exact fun _=>hc0
    rw [Qc hc0];cases b with
    | none=>exact fun _=>hb rfl
    | some b=>simp
   simpa using cQ.cv (Den.nil _ _ g)
  | row ad n c cs vs hs hF hn hc hdn =>
   have e:=e0 (c:=c) hl hh m p k hn true;refine ⟨.slice (if c=l' then some ad else some (ad.add (l'*inf.size))) (h'-l') (c-l'),?_,?_⟩
   ·simp [execOp,ho,Instr.sliceAt,run_underlying hu,Instr.slice,hv,e,sizeOf,typeInfo,hi']
   by_cases hz:h'-l'=0
   ·rw [hz,WZ,List.take_zero];refine .cv (.nil _ _ (fun h=>?_));split at h<;>cases h
   rw [Qc Q2];refine .cv (.row _ _ _ _ (fun j=>vs (l'*inf.size+j)) (pZ _ hs _) (by rw [block_add];exact hF) Q2 (fun j hj=>?_) (fun j hj=>?_))
   ·simp only [Qd,Qq] at hj;rw [add_add _ hs];exact hc _ Q2
   have i:=hj;simp only [Qd,Qq] at i;have:=hdn (l'*inf.size+j) Q2;simpa [V6,V0] using this
theorem jy {t:TypeId} {x:Operand} {lo hi:Option Operand} {s:ByteArray} {l h:Int} (ho:o.op = .slice t x lo hi none) (hu:P.underlying t=some .string) (hx:ev S x=some (.str s)) (hl:bound S 0 lo=some l) (hh:bound S s.size hi=some h) (b:0<=l) (d:l<=h) (f:h<=s.size) :
 Pure P X o S (.str (s.extract l.toNat h.toNat)):=by
 intro L a w r;have e:=lK (P:=P) (n:=s.size) (c:=s.size) r hl hh b d f (Qn _) false;exact ⟨.string (s.extract l.toNat h.toNat),by simp [execOp,ho,Instr.sliceAt,run_underlying hu,Instr.slice,(r.ev hx).lit,e],.cv (.lit _)⟩
theorem Ll {t e:TypeId} {inf:TypeInfo} {x:Operand} {lo hi:Option Operand} {k:Nat} {d:Row} {l h:Int} (ho:o.op = .slice t x lo hi none) (hu:P.underlying t=some (.slice e)) (hi':P.info? e=some inf) (hx:ev S x=some (.own k)) (hd:S.rows k=some d) (hs:d.sz=inf.size) (hn:0<d.n)
 (hl:bound S 0 lo=some l) (hh:bound S d.n hi=some h) (f:0<=l) (i:l<=h) (b:h<=d.n):Pure P X o S (.win k l.toNat (h.toNat-l.toNat)):=by
 intro L a w r;have e0:=@lK P X S L a w r lo hi l h d.n;generalize hln:l.toNat=l' at e0 ⊢;generalize hhn:h.toNat=h' at e0 ⊢;have k1:l'<=h':=Q2;have k2:h'<=d.n:=Q2;have hr:=r.ev hx;generalize hv:a.eval x=v at hr;obtain ⟨xs,g1,g2,g3⟩:=r.row k d hd;cases hr with
 | own _ =>
  rcases g1.2 with ⟨q2,q3⟩ | ⟨g,cap,cur,q2,q3,q4,q5,q6⟩
  ·omega
  have e:=e0 (c:=cap) hl hh f i b q5 true;refine ⟨.slice (if cap=l' then some ⟨g,0,none⟩ else some ((⟨g,0,none⟩:Addr).add (l'*inf.size))) (h'-l') (cap-l'),?_,.win hd q2 Q2 Q2 (fun h=>by split at h<;>cases h) (fun hp=>?_)⟩
  ·simp [execOp,ho,Instr.sliceAt,run_underlying hu,Instr.slice,hv,q2,e,sizeOf,typeInfo,hi']
  rw [Qc Q2,add_plain,QS,hs]
end
section
variable {P:Program} {X:Ctx} {S S':St} {o:Oper} {L L':mJ} {a:Act} {w w':World}
theorem j6 (r:cM X S L a w) (hz:w.heap.size<=w'.heap.size) (hr:∀ k d,S.rows k=some d->L' k=L k)
 (hn:∀ k d b,S'.rows k=some d->S.rows k=none->(L' k).ownBlock=some b->w.heap.size<=b) (b:Nat) (h:Still X S.rows L w b):Still X S'.rows L' w' b:=by
 have c:=Still.lt r.below h;refine ⟨?_,?_⟩
 ·rcases h.1 with h1 | ⟨h1,h2⟩
  ·exact .inl h1
  exact .inr ⟨h1,Q2⟩
 rintro ⟨k,d,h1,h2⟩;cases hk:S.rows k with
 | some d0 =>
  rw [hr k d0 hk] at h2;exact h.2 ⟨k,d0,hk,h2⟩
 | none =>
  have:=hn k d b h1 hk h2;omega
theorem cM.grow (r:cM X S L a w) (hb:Below w.heap.size w w') (he:S'.env=S.env) (hr:∀ k d,S.rows k=some d->S'.rows k=some d/\L' k=L k)
 (hn:∀ k d,S'.rows k=some d->S.rows k=none->ri X w' (Still X S'.rows L' w') L' k d/\∀ b,(L' k).ownBlock=some b->w.heap.size<=b)
 (ha:∀ k k' d d' b,S'.rows k=some d->S'.rows k'=some d'->S.rows k=none->S.rows k'=none->(L' k).ownBlock=some b->(L' k').ownBlock=some b->k=k') (hl:S.rows cd=none->S'.rows cd=none):cM X S' L' a w':=by
 have st:=j6 (S':=S') (L':=L') (w':=w') r hb.size (fun k d h=>(hr k d h).2) (fun k d b g f i=>(hn k d g f).2 b i);have e:(Still X S.rows L w).le (Still X S'.rows L' w'):=⟨st,fun j v h=>by
  obtain ⟨⟨d,g⟩,f⟩:=h;exact ⟨⟨d,(hr j d g).1⟩,by rw [(hr j d g).2];exact f⟩,fun _ h=>h⟩
 have c:∀ b,Still X S.rows L w b->w'.heap[b]?=w.heap[b]?:=fun b h=>hb.block b (Still.lt r.below h);have hg:w.grownBy w' none:=⟨hb.os,hb.tape,hb.output,hb.size,fun k hk _=>hb.block k hk⟩;refine ⟨r.size,r.defers,oS r.below hg (fun b h=>by cases h),?_,?_,(fun k d b g f=>?_),(fun d h=>?_),?_⟩
 case refine_3 =>
  cases hk:S.rows k with
  | some d0=>rw [(hr k d0 hk).2] at f;exact r.mine k d0 b hk f
  | none=>exact .inl (Qu r.below.size ((hn k d g hk).2 b f))
 case refine_4 =>
  cases hk:S.rows cd with
  | some d0=>rw [(hr _ d0 hk).2];exact r.pin d0 hk
  | none=>rw [hl hk] at h;cases h
 ·intro k d h;cases hk:S.rows k with
  | some d0 =>
   have:=(hr k d0 hk).1;rw [h] at this;cases this;exact (r.row k d hk).mono e c (hr k d hk).2 hg (by cases (L k).ownBlock<;>simp)
  | none=>exact (hn k d h hk).1
 ·intro k k' d d' b h h' hb1 hb2;have lt:∀ k d,S.rows k=some d->∀ b,(L k).ownBlock=some b->b<w.heap.size:=by
   intro k d hk b hb;obtain ⟨xs,g1,_⟩:=r.row k d hk;exact (g1.lt b hb).2
  cases hk:S.rows k with
  | some d0 =>
   rw [(hr k d0 hk).2] at hb1;cases hk':S.rows k' with
   | some d1 =>
    rw [(hr k' d1 hk').2] at hb2;exact r.apart k k' d0 d1 b hk hk' hb1 hb2
   | none =>
    have g:=lt k d0 hk b hb1;have f:=(hn k' d' h' hk').2 b hb2;omega
  | none =>
   cases hk':S.rows k' with
   | some d1 =>
    rw [(hr k' d1 hk').2] at hb2;have g:=lt k' d1 hk' b hb2;have f:=(hn k d h hk).2 b hb1;omega
   | none=>exact ha k k' d d' b h h' hk hk' hb1 hb2
 intro t p h;rw [he] at h;obtain ⟨g,f⟩:=r.env t p h;exact ⟨g,f.mono e c hr⟩
def setRow (S:St) (k:Nat) (d:Row):St:={ S with rows:=fun j=>if j=k then some d else S.rows j }
def bh (L:mJ) (k:Nat) (v:Value):mJ:=fun j=>if j=k then v else L j
theorem cM.newRow (r:cM X S L a w) {k:Nat} (hk:S.rows k=none) (hkl:k≠cd) (cells:Array Value) (e:TypeId) (sz n cap:Nat) (cs:List CV) (hl:cs.length=n*sz) (hs:cells.size=cap*sz) (hc:n<=cap) (hm:cap<=maxLen) (hd:∀ i (h:i<cs.length),Den w ((Still X S.rows L w).at k) (cells.getD i undef) cs[i]) :
 cM X (setRow S k ⟨e,sz,n,cs⟩) (bh L k (.slice (some ⟨w.heap.size,0,none⟩) n cap)) a (w.alloc (.cells cells e)):=by
 have hb:Below w.heap.size w (w.alloc (.cells cells e)):=⟨rfl,rfl,rfl,Q3,fun k hk=>Below.heap_alloc _ _ _ Q2⟩;have jg:∀ j d,S.rows j=some d->(setRow S k ⟨e,sz,n,cs⟩).rows j=some d/\bh L k (.slice (some ⟨w.heap.size,0,none⟩) n cap) j=L j:=by
  intro j d h;have:j≠k:=fun e=>by subst e;rw [hk] at h;cases h
  exact ⟨by simp only [setRow];rw [Qc this];exact h,by simp only [bh];rw [Qc this]⟩
 have only:∀ j d,(setRow S k ⟨e,sz,n,cs⟩).rows j=some d->S.rows j=none->j=k/\d=⟨e,sz,n,cs⟩:=by
  intro j d h l;simp only [setRow] at h
  by_cases c:j=k
  ·rw [Qk c] at h;cases h;exact ⟨c,rfl⟩
  rw [Qc c,l] at h;cases h
 have hn:∀ j d b,(setRow S k ⟨e,sz,n,cs⟩).rows j=some d->S.rows j=none->(bh L k (.slice (some ⟨w.heap.size,0,none⟩) n cap) j).ownBlock=some b->w.heap.size<=b:=by
  intro j d b h l hb;obtain ⟨rfl,rfl⟩:=only j d h l;simp only [bh,Qk,Value.ownBlock,Qj] at hb;omega
 have st:=j6 (S':=setRow S k ⟨e,sz,n,cs⟩) (L':=bh L k (.slice (some ⟨w.heap.size,0,none⟩) n cap)) (w':=w.alloc (.cells cells e)) r hb.size (fun j d h=>(jg j d h).2) hn;have g:n*sz<=cells.size:=by rw [hs];exact QJ _ hc
 refine r.grow hb rfl jg (fun j d h l=>⟨?_,fun b m=>hn j d b h l m⟩) ?_ (fun h=>by simp only [setRow];rw [Qc (Yn hkl)];exact h)
 ·obtain ⟨rfl,rfl⟩:=only j d h l;refine ⟨cells.toList.take (n*sz),?_,by simp;omega,fun i hi=>?_⟩
  ·simp only [bh,Qk];exact ⟨by simp;omega,.inr ⟨w.heap.size,cap,cells,rfl,Qu X.hlo r.below.size,heap_alloc_new w _,hc,hm,hs,rfl⟩⟩
  have stF:(Still X S.rows L w).le (Still X (setRow S j ⟨e,sz,n,cs⟩).rows (bh L j (.slice (some ⟨w.heap.size,0,none⟩) n cap)) (w.alloc (.cells cells e))):=⟨st,fun q v h=>by
   obtain ⟨⟨d,m⟩,h2⟩:=h;exact ⟨⟨d,(jg q d m).1⟩,by rw [(jg q d m).2];exact h2⟩,fun _ h=>h⟩
  have m:=(hd i hi).mono (stF.at j) (fun b hb'=>hb.block b (Still.lt r.below (by rw [<- Fo.E2 _ j];exact hb')));have f:i<n*sz:=by rw [<- hl];exact hi
  simpa [Q9,Q6,List.getElem?_take,f] using m
 intro j j' d d' b h h' l h0' _ _;rw [(only j d h l).1,(only j' d' h' h0').1]
theorem cW {o:Oper} {v:Value} {K:Act->World->Prop} {Q:Exit->Act->World->Prop} (h:(execOp a.eval o).run P w = .ok (.value v) w') (hk:K (a.put o.dst v) w'):o.wp P a w K Q:=by
 unfold Oper.wp;rw [h];exact hk
def eA:PV->Option (List CV)
 | .cv (.lit (.agg _))=>none
 | .cv (.lit (.tuple _))=>none
 | .cv c=>some [c]
 | .ag cs=>some cs
 | _=>none
theorem uo {F:Fo} {rows:Nat->Option Row} {v:Value} {p:PV} {cs:List CV} (h:cQ w F rows L v p) (hc:eA p=some cs):v.cells.size=cs.length/\∀ i (hi:i<cs.length),Den w F (v.cells.getD i undef) cs[i]:=by
 cases h with
 | @cv v c h =>
  have a:∀ u:Value,u.cells = #[u]->Den w F u c->u.cells.size=[c].length/\∀ i (hi:i<[c].length),Den w F (u.cells.getD i undef) [c][i]:=by
   intro u hu hd;rw [hu];refine ⟨rfl,fun i hi=>?_⟩;have:i=0:=by simp at hi;exact hi
   subst this;exact hd
  cases h with
  | lit v =>
   cases v<;>simp only [eA,Qj,reduceCtorEq] at hc<;>(subst hc;exact a _ rfl (.lit _))
  | nil b c hb=>simp only [eA,Qj] at hc;subst hc;exact a _ rfl (.nil _ _ hb)
  | own g h1 h2=>simp only [eA,Qj] at hc;subst hc;exact a _ h2 (.own g h1 h2)
  | any h1 h2=>simp only [eA,Qj] at hc;subst hc;exact a _ h2 (.any h1 h2)
  | row ad n c cs vs hs hF hn hcc hd=>simp only [eA,Qj] at hc;subst hc;exact a _ rfl (.row ad n c cs vs hs hF hn hcc hd)
 | ag hl h=>simp only [eA,Qj] at hc;subst hc;exact ⟨hl,h⟩
 | tup=>simp [eA] at hc
 | own=>simp [eA] at hc
 | win=>simp [eA] at hc
 | pr=>simp [eA] at hc
 | po=>simp [eA] at hc
 | map=>simp [eA] at hc
theorem AP {b:Bool} {cs:List CV} (h:(b||cs.all gj)=true) {i:Nat} (hi:i<cs.length):(b||gj cs[i])=true:=by
 cases b with
 | true=>rfl
 | false=>rw [XD,QA] at h;exact h _ (Qi hi)
theorem to_box {e:TypeId} {x:Operand} {p:PV} {cs:List CV} (k:Nat) (ho:o.op = .box e x) (hx:ev S x=some p) (hc:eA p=some cs) (hp:0<cs.length) (hk:S.rows k=none) (hkl:k≠cd) (hd:dm X o.dst) (hsh:(Nat.ble opened k||cs.all gj)=true):cf P X o S (put (setRow S k ⟨e,cs.length,1,cs⟩) o.dst (.po k 0)):=by
 intro a w ⟨L,r⟩;obtain ⟨h1,h2⟩:=uo (r.ev hx) hc;have r2:=r.newRow hk hkl (a.eval x).cells e cs.length 1 1 cs Q2 Q2 Q2 (by decide) (fun i hi=>(h2 i hi).at (AP hsh hi));refine cW (v:=.pointer (some ⟨w.heap.size,0,none⟩)) (w':=w.alloc (.cells (a.eval x).cells e)) ?_ ⟨_,r2.put hd ?_⟩
 ·simp [execOp,ho,Instr.box,newVar,newRow]
 refine .po (r:=⟨e,cs.length,1,cs⟩) (m:=1) (cap:=1) (by simp [setRow]) (by simp [bh]) hp
theorem CD {e:TypeId} {inf:TypeInfo} {z:Value} {cs:List CV} (k:Nat) (ho:o.op = .alloc e) (hi:P.info? e=some inf) (hz:inf.zero=some z) (hc:eA (E9 z)=some cs) (hcl:z.cells.size=cs.length/\∀ i (h:i<cs.length),ij (z.cells.getD i undef)=cs[i]) (hp:0<cs.length) (hk:S.rows k=none) (hkl:k≠cd) (hd:dm X o.dst) :
 cf P X o S (put (setRow S k ⟨e,cs.length,1,cs⟩) o.dst (.po k 0)):=by
 intro a w ⟨L,r⟩;have r2:=r.newRow hk hkl z.cells e cs.length 1 1 cs Q2 Q2 Q2 (by decide) (fun i h=>by rw [<- hcl.2 i h];exact jT _ _ _);refine cW (v:=.pointer (some ⟨w.heap.size,0,none⟩)) (w':=w.alloc (.cells z.cells e)) ?_ ⟨_,r2.put hd ?_⟩
 ·simp [execOp,ho,Instr.alloc,zeroValue,typeInfo,hi,hz,newVar,newRow]
 refine .po (r:=⟨e,cs.length,1,cs⟩) (m:=1) (cap:=1) (by simp [setRow]) (by simp [bh]) hp
theorem Nh {t e:TypeId} {inf:TypeInfo} {z:Value} {x y:Operand} {kl kc:IntKind} {n cap:Nat} (k:Nat) (ho:o.op = .makeSlice t x y) (hu:P.underlying t=some (.slice e)) (hi:P.info? e=some inf) (hz:inf.zero=some z) (hzc:z.cells = #[z]) (hs:inf.size=1)
 (hx:ev S x=some (.int kl n)) (hy:ev S y=some (.int kc cap)) (hnc:n<=cap) (hb:inf.bytes*cap<=281474976710656) (hm:cap<=maxLen) (hk:S.rows k=none) (hkl:k≠cd) (hd:dm X o.dst):cf P X o S (put (setRow S k ⟨e,1,n,List.replicate n (ij z)⟩) o.dst (.own k)):=by
 intro a w ⟨L,r⟩;have d:(cap:Int)<=9223372036854775807:=by simp only [maxLen] at hm;omega
 have c:(inf.bytes:Int)*(cap:Int)<=281474976710656:=by rw [<- Int.natCast_mul];omega
 have hr:=run_make (P:=P) w t e inf z hu hi hz kl kc n cap Q2 Q2 c d;simp only [Int.toNat_natCast] at hr;have b:(madeCells z.cells (cap*inf.size)).size=cap*1:=by rw [size_madeCells,hs]
 have r2:=r.newRow hk hkl (madeCells z.cells (cap*inf.size)) e 1 n cap (List.replicate n (ij z)) Q3 b hnc hm (fun i h=>by
  have h':i<n:=by simpa using h
  have e1:(madeCells z.cells (cap*inf.size)).getD i undef=z:=by
   rw [hzc,hs,Vs];have:=toList_madeCells_one z cap;rw [Q9,<- V1,this,Ye,Qk Q2];rfl
  rw [e1];simp only [Xp];exact jT _ _ _)
 refine cW (v:=.slice (some ⟨w.heap.size,0,none⟩) n cap) ?_ ⟨_,r2.put hd ?_⟩
 ·simp only [execOp,ho,(r.ev hx).lit,(r.ev hy).lit];simp [hr]
 have:(.slice (some ⟨w.heap.size,0,none⟩) n cap:Value)=bh L k (.slice (some ⟨w.heap.size,0,none⟩) n cap) k:=by simp [bh]
 conv=>arg 5;rw [this]
 exact .own (r:=⟨e,1,n,List.replicate n (ij z)⟩) (by simp [setRow])
end
def iC (place:Nat->Option (Nat×Nat)) (cells:List CV):List (Nat×List CV)->Option (List CV)
 | []=>some cells
 | (i,vs) :: rest =>
  match place i with
  | none=>none
  | some (off,size)=>if vs.length≠size∨off+vs.length>cells.length then none else iC place (cells.take off++vs++cells.drop (off+vs.length)) rest
theorem L6 (off:Nat):∀ (l:List Value) (s:Nat) (cells:Array Value),off+s+l.length<=cells.size ->
 let r:=(l.zipIdx s).foldl (fun cs (x:Value×Nat)=>cs.setIfInBounds (off+x.2) x.1) cells
 r.size=cells.size/\∀ i,r.getD i undef=if off+s<=i/\i<off+s+l.length then l.getD (i-off-s) undef else cells.getD i undef:=by
 intro l
 induction l with
 | nil =>
  intro s cells _;simp;intro i h1 h2;omega
 | cons v l ih =>
  intro s cells h;simp only [List.length_cons] at h;obtain ⟨h1,h2⟩:=ih (s+1) (cells.setIfInBounds (off+s) v) (by simp;omega);simp only [List.zipIdx_cons,List.foldl_cons];refine ⟨by rw [h1];simp,fun i=>?_⟩;rw [h2]
  by_cases c1:i=off+s
  ·subst c1;rw [Qc Q2,Qk Q3,ug _ _ _ _ Q2,Qk rfl];have:off+s-off-s=0:=Q2;rw [this];rfl
  rw [ug _ _ _ _ Q2,Qc c1]
  by_cases c2:off+s<=i/\i<off+s+(v :: l).length
  ·rw [Qk c2,Qk (by simp only [List.length_cons] at c2;omega)];have:i-off-s=(i-off-(s+1))+1:=Q2;rw [this];rfl
  rw [Qc c2,Qc (by simp only [List.length_cons] at c2;omega)]
theorem yG {w:World} {F:Fo} (place:Nat->Option (Nat×Nat)):∀ (ps:List (Nat×Value)) (qs:List (Nat×List CV)) (cells:Array Value) (cs cs':List CV),ps.length=qs.length ->
 (∀ j (h:j<qs.length) (h':j<ps.length),ps[j].1=qs[j].1/\ps[j].2.cells.size=qs[j].2.length/\∀ i (hi:i<qs[j].2.length),Den w F (ps[j].2.cells.getD i undef) qs[j].2[i]) ->
 cells.size=cs.length->(∀ i (h:i<cs.length),Den w F (cells.getD i undef) cs[i])->iC place cs qs=some cs' ->
 ∃ cells',Instr.fill place cells ps=some cells'/\cells'.size=cs'.length/\∀ i (h:i<cs'.length),Den w F (cells'.getD i undef) cs'[i]:=by
 intro ps
 induction ps with
 | nil =>
  intro qs cells cs cs' hl _ hs hd hf;cases qs with
  | nil=>simp only [iC,Qj] at hf;subst hf;exact ⟨cells,rfl,hs,hd⟩
  | cons q qs=>simp at hl
 | cons p ps ih =>
  intro qs cells cs cs' hl hp hs hd hf;cases qs with
  | nil=>simp at hl
  | cons q qs =>
   obtain ⟨i,v⟩:=p;obtain ⟨i',vs⟩:=q;obtain ⟨e1,e2,e3⟩:=hp 0 Q3 Q3;simp only [List.getElem_cons_zero] at e1 e2 e3;subst e1;simp only [iC] at hf;cases hpl:place i with
   | none=>simp [hpl] at hf
   | some os =>
    obtain ⟨a,size⟩:=os;simp only [hpl] at hf;split at hf
    ·cases hf
    rename_i c;have c1:vs.length=size:=Q2;have c2:a+vs.length<=cs.length:=Q2;obtain ⟨g1,g2⟩:=L6 a v.cells.toList 0 cells (by simp;omega);have:=ih qs _ (cs.take a++vs++cs.drop (a+vs.length)) cs' (by simpa using hl) (fun j h h'=>hp (j+1) (by simp;omega) (by simp;omega)) (by rw [g1];simp;omega) (fun j hj=>?_) hf
    ·obtain ⟨cells',k1,k2,k3⟩:=this;refine ⟨cells',?_,k2,k3⟩;simp only [Instr.fill,hpl];rw [Qc (by simp;omega)];rw [<- Array.foldl_toList,Array.toList_zipIdx];exact k1
    rw [g2];simp only [Qf,Qd,Qq] at hj
    by_cases d1:a+0<=j/\j<a+0+v.cells.toList.length
    ·rw [Qk d1];have b:j-a-0<vs.length:=by simp at d1;omega
     have:=e3 (j-a-0) b;have e4:(cs.take a++vs++cs.drop (a+vs.length))[j]'(by simp;omega)=vs[j-a-0]'b:=by
      rw [QC (by simp;omega),QR (by simp;omega)];congr 1;simp;omega
     rw [e4];simpa [Q9,Q6] using this
    rw [Qc d1];simp only [Array.length_toList] at d1
    by_cases d2:j<a
    ·have e4:(cs.take a++vs++cs.drop (a+vs.length))[j]'(by simp;omega)=cs[j]'Q2:=by
      rw [QC (by simp;omega),QC (by simp;omega)];simp
     rw [e4];exact hd j Q2
    have e4:(cs.take a++vs++cs.drop (a+vs.length))[j]'(by simp;omega)=cs[j]'Q2:=by
     rw [QR (by simp;omega),V0];congr 1;simp;omega
    rw [e4];exact hd j Q2
section
variable {P:Program} {X:Ctx} {S:St} {o:Oper}
def parts (S:St):List (Nat×Operand)->Option (List (Nat×List CV))
 | []=>some []
 | (i,x) :: rest=>match (ev S x).bind eA,parts S rest with
  | some cs,some r=>some ((i,cs) :: r)
  | _,_=>none
theorem rD {L:mJ} {a:Act} {w:World} (r:cM X S L a w):∀ (ps:List (Nat×Operand)) (qs:List (Nat×List CV)),parts S ps=some qs ->
 ps.length=qs.length/\∀ j (h:j<qs.length) (h':j<ps.length),ps[j].1=qs[j].1/\(a.eval ps[j].2).cells.size=qs[j].2.length/\∀ i (hi:i<qs[j].2.length),Den w (Still X S.rows L w) ((a.eval ps[j].2).cells.getD i undef) qs[j].2[i]
 | [],qs,h=>by simp only [parts,Qj] at h;subst h;exact ⟨rfl,fun j h=>by simp at h⟩
 | (i,x) :: ps,qs,h=>by
  simp only [parts] at h;split at h
  ·rename_i cs rest h1 h2;cases h;obtain ⟨p,hp,hc⟩:=Q5 h1;obtain ⟨g1,g2⟩:=rD r ps rest h2;refine ⟨by simp [g1],fun j hj hj'=>?_⟩;cases j with
   | zero=>exact ⟨rfl,uo (r.ev hp) hc⟩
   | succ j=>exact g2 j (by simpa using hj) (by simpa using hj')
  cases h
def mK (z:Value):List CV:=z.cells.toList.map ij
theorem Fc (w:World) (F:Fo) (z:Value):z.cells.size=(mK z).length/\∀ i (h:i<(mK z).length),Den w F (z.cells.getD i undef) (mK z)[i]:=by
 refine ⟨by simp [mK],fun i h=>?_⟩;have h':i<z.cells.size:=by simpa [mK] using h
 have e:z.cells.getD i undef=z.cells[i]:=by rw [Q9,Qg h'];rfl
 rw [e];simp only [mK,Qz];exact jT _ _ _
theorem sK {t:TypeId} {ps:Array (Nat×Operand)} {fs:Array Field} {inf:TypeInfo} {z:Value} {places:List (Nat×Nat)} {qs:List (Nat×List CV)} {cs:List CV} (ho:o.op = .build t ps) (hu:P.underlying t=some (.struct fs)) (hi:P.info? t=some inf) (hz:inf.zero=some z)
 (hp:fs.toList.mapM (fun f=>(P.info? f.type).map fun i=>(f.offset,i.size))=some places) (hq:parts S ps.toList=some qs) (hf:iC (places.toArray[·]?) (mK z) qs=some cs):Pure P X o S (.ag cs):=by
 intro L a w r;obtain ⟨g1,g2⟩:=rD r _ _ hq;obtain ⟨z1,z2⟩:=Fc w (Still X S.rows L w) z;obtain ⟨cells,k1,k2,k3⟩:=yG (w:=w) (F:=Still X S.rows L w) (places.toArray[·]?) (ps.toList.map fun x=>(x.1,a.eval x.2)) qs z.cells (mK z) cs (by simpa using g1) (fun j h h'=>by
  have:=g2 j h (by simpa using h');simpa using this) z1 z2 hf
 refine ⟨.agg cells,?_,.ag k2 k3⟩;have hb:P.built t (ps.map fun (x:Nat×Operand)=>(x.1,a.eval x.2)).toList=some cells:=by
  unfold Program.built;simp only [hu,hi,hz,hp];simpa using k1
 have:=run_build (P:=P) w t (ps.map fun (x:Nat×Operand)=>(x.1,a.eval x.2)) cells hb;simp [execOp,ho,this]
end
theorem cQ.ux {w w':World} {F F':Fo} {rows rows':Nat->Option Row} {L:mJ} {v:Value} {p:PV} (h:cQ w F rows L v p) (hF:F.le F') (hw:∀ b,F b->w'.heap[b]?=w.heap[b]?)
 (hr:∀ k r,rows k=some r->∃ r',rows' k=some r'/\r'.sz=r.sz/\r'.data.length=r.data.length):cQ w' F' rows' L v p:=by
 induction h with
 | cv h=>exact .cv (h.mono hF hw)
 | ag hl h=>exact .ag hl (fun i hi=>(h i hi).mono hF hw)
 | tup hl h ih=>exact .tup hl ih
 | @own k r h=>obtain ⟨r',h1,h2,h3⟩:=hr k r h;exact .own h1
 | @win a k off n g m cap c r h hL ho hn hb ha=>obtain ⟨r',h1,h2,h3⟩:=hr k r h;exact .win h1 hL ho hn hb (by rw [h2];exact ha)
 | pr vs hs hF' hc hd=>exact .pr vs hs (hF.b _ hF') (fun i hi=>(World.cell?_of_block (by rw [block_add];exact hw _ hF')).trans (hc i hi)) (fun i hi=>(hd i hi).mono hF.shut hw)
 | @po k off g m cap r h hL ho=>obtain ⟨r',h1,h2,h3⟩:=hr k r h;exact .po h1 hL (by rw [h3];exact ho)
 | map hF' hn hb he=>exact .map (hF.b _ hF') (hF.n _ hn) ((hw _ hF').trans hb) he
def fA (k:Nat):PV->Bool
 | .own j=>j==k
 | .win j _ _=>j==k
 | .po j _=>j==k
 | .tup _=>true
 | .cv c=>iN k c
 | .ag cs=>cs.any (iN k)
 | _=>false
theorem HJ {k j:Nat} (h:iN k (.own j)=false):j≠k:=fun e=>by subst e;rw [qh.2 rfl] at h;cases h
theorem cQ.jg {w w':World} {F F':Fo} {rows rows':Nat->Option Row} {L L':mJ} {v:Value} {p:PV} {k:Nat} (h:cQ w F rows L v p) (hu:fA k p=false) (hF:∀ b,F b->F' b) (ho:∀ j u,j≠k->F.o j u->F'.o j u) (hn0:∀ b,F.n b->F'.n b) (hw:∀ b,F b->w'.heap[b]?=w.heap[b]?)
 (hr:∀ j r,j≠k->rows j=some r->(∃ r',rows' j=some r'/\r'.sz=r.sz/\r'.data.length=r.data.length)/\L' j=L j):cQ w' F' rows' L' v p:=by
 cases h with
 | cv h=>exact .cv (h.sC hF (fun j u e=>ho j u (by subst e;exact HJ hu)) hw)
 | ag hl h=>exact .ag hl (fun i hi=>(h i hi).sC hF (fun j u e=>ho j u (by
  simp only [fA,VD] at hu;have:=hu _ (Qi hi);rw [e] at this;exact HJ (Yf _ ▸ this))) hw)
 | tup hl h=>simp [fA] at hu
 | @own j r h =>
  have hj:j≠k:=by simpa [fA] using hu
  obtain ⟨⟨r',h1,h2,h3⟩,h4⟩:=hr j r hj h;rw [<- h4];exact .own h1
 | @win a j off n g m cap c r h hL ho hn hb ha =>
  have hj:j≠k:=by simpa [fA] using hu
  obtain ⟨⟨r',h1,h2,h3⟩,h4⟩:=hr j r hj h;exact .win h1 (by rw [h4];exact hL) ho hn hb (by rw [h2];exact ha)
 | pr vs hs hF' hc hd=>exact .pr vs hs (hF _ hF') (fun i hi=>(World.cell?_of_block (by rw [block_add];exact hw _ hF')).trans (hc i hi)) (fun i hi=>(hd i hi).mono (Fo.jG hF) hw)
 | @po j off g m cap r h hL ho =>
  have hj:j≠k:=by simpa [fA] using hu
  obtain ⟨⟨r',h1,h2,h3⟩,h4⟩:=hr j r hj h;exact .po h1 (by rw [h4];exact hL) (by rw [h3];exact ho)
 | map hF' hn hb he=>exact .map (hF _ hF') (hn0 _ hn) ((hw _ hF').trans hb) he
def mE (k:Nat):CV->CV
 | .own j=>bif Nat.beq j k then .any else .own j
 | c=>c
def fh (k j:Nat) (r:Row):Row:=bif Nat.ble opened j then { r with data:=r.data.map (mE k) } else r
def kill (S:St) (k:Nat):St:={ env:=fun t=>match S.env t with | some p=>if fA k p then none else some p | none=>none,rows:=fun j=>(S.rows j).map (fh k j) }
theorem ud {S:St} {k t:Nat} {p:PV} (h:(kill S k).env t=some p):S.env t=some p/\fA k p=false:=by
 simp only [kill] at h;split at h
 ·rename_i q hq;split at h
  ·cases h
  rename_i hu;cases h;exact ⟨hq,by simpa using hu⟩
 cases h
theorem nK (k j:Nat) (r:Row):(fh k j r).e=r.e/\(fh k j r).sz=r.sz/\(fh k j r).n=r.n/\(fh k j r).data.length=r.data.length:=by
 unfold fh;cases Nat.ble opened j<;>simp
theorem Den.kill {w w':World} {F F':Fo} {v:Value} {c:CV} {k:Nat} (h:Den w F v c) (hF:∀ b,F b->F' b) (ho:∀ j u,j≠k->F.o j u->F'.o j u) (hw:∀ b,F b->w'.heap[b]?=w.heap[b]?):Den w' F' v (mE k c):=by
 cases h with
 | lit v=>exact .lit v
 | nil a c h=>exact .nil a c h
 | row ad n c cs vs hs hF' hn hc hd=>exact (Den.row ad n c cs vs hs hF' hn hc hd:Den w F _ _).sC hF (fun _ _ e=>by cases e) hw
 | @own _ j _ h h1 h2 =>
  show Den w' F' v (bif Nat.beq j k then .any else .own j);cases c:Nat.beq j k with
  | true=>exact .any h1 h2
  | false=>exact .own (ho _ _ (Xq c) h) h1 h2
 | any h1 h2=>exact .any h1 h2
theorem ri.kill {X:Ctx} {w w':World} {F F':Fo} {L L':mJ} {k j:Nat} {r:Row} (h:ri X w F L j r) (hF:∀ b,F b->F' b) (ho:∀ j u,j≠k->F.o j u->F'.o j u) (hw:∀ b,F b->w'.heap[b]?=w.heap[b]?) (hL:L' j=L j)
 {row:Option Nat} (hg:w.grownBy w' row) (hne:(L j).ownBlock=none∨(L j).ownBlock≠row):ri X w' F' L' j (fh k j r):=by
 obtain ⟨xs,h1,h2,h3⟩:=h;obtain ⟨s1,s2,s3,s4⟩:=nK k j r;refine ⟨xs,by rw [hL,s1,s2,s3];exact h1.kept hg hne,by rw [s4];exact h2,fun i hi=>?_⟩;have c:i<r.data.length:=by rw [s4] at hi;exact hi
 have h4:=h3 i c;have a:∀ b,(F.at j) b->w'.heap[b]?=w.heap[b]?:=fun b hb=>hw b (by rw [<- F.E2 j];exact hb);cases e:Nat.ble opened j with
 | false =>
  have e1:(fh k j r).data[i]=r.data[i]:=by simp only [fh,e,cond_false]
  rw [e1];simp only [Fo.at,e,cond_false] at h4 a ⊢;exact h4.mono (Fo.jG hF) a
 | true =>
  have e1:(fh k j r).data[i]=mE k r.data[i]:=by simp only [fh,e,cond_true,Qz]
  rw [e1];simp only [Fo.at,e,cond_true] at h4 a ⊢;exact h4.kill hF ho a
section
variable {P:Program} {X:Ctx} {S:St} {o:Oper} {L:mJ} {a:Act} {w w':World} {k:Nat} {d d':Row}
theorem cM.oG (r:cM X S L a w) (hk:S.rows k=some d):∀ b,(L k).ownBlock=some b->(X.B<=b∨(k=cd/\X.G=some b))/\b<w.heap.size:=by
 obtain ⟨xs,g1,_⟩:=r.row k d hk;exact fun b h=>⟨r.mine k d b hk h,(g1.lt b h).2⟩
theorem cM.Fe (r:cM X S L a w) (hk:S.rows k=some d) {v':Value} (hkl:k=cd->v'=L k∨∀ v,X.pin v) (hg:w.grownBy w' (L k).ownBlock) {xs:List Value} (hown:w'.ownsRow X.lo d'.e d'.sz v' d'.n xs) (hl:xs.length=d'.data.length) (hv:∀ b,v'.ownBlock=some b->(L k).ownBlock=some b∨w.heap.size<=b)
 (hd:(∀ b,Still X S.rows L w b->Still X (setRow (kill S k) k d').rows (bh L k v') w' b)->(∀ j u,j≠k->(Still X S.rows L w).o j u->(Still X (setRow (kill S k) k d').rows (bh L k v') w').o j u)->(∀ b,Still X S.rows L w b->w'.heap[b]?=w.heap[b]?)->∀ i (h:i<d'.data.length),Den w' ((Still X (setRow (kill S k) k d').rows (bh L k v') w').at k) (xs.getD i undef) d'.data[i]):cM X (setRow (kill S k) k d') (bh L k v') a w':=by
 have g:∀ j e,(setRow (kill S k) k d').rows j=some e->(j=k/\e=d')∨(j≠k/\∃ e0,S.rows j=some e0/\e=fh k j e0):=by
  intro j e h;simp only [setRow,kill] at h
  by_cases c:j=k
  ·rw [Qk c] at h;cases h;exact .inl ⟨c,rfl⟩
  rw [Qc c] at h;obtain ⟨e0,y,x⟩:=Qr.1 h;exact .inr ⟨c,e0,y,x.symm⟩
 have f:∀ j,j≠k->bh L k v' j=L j:=fun j h=>by simp only [bh];rw [Qc h]
 have l:bh L k v' k=v':=by simp only [bh,Qk]
 have st:∀ b,Still X S.rows L w b->Still X (setRow (kill S k) k d').rows (bh L k v') w' b:=by
  intro b h;have s:=Still.lt r.below h;refine ⟨?_,?_⟩
  ·rcases h.1 with y | ⟨y,x⟩
   ·exact .inl y
   exact .inr ⟨y,QN x hg.size⟩
  rintro ⟨j,e,y,x⟩;rcases g j e y with ⟨rfl,rfl⟩ | ⟨c,e0,h3,_⟩
  ·rw [l] at x;rcases hv b x with h3 | h3
   ·exact h.2 ⟨j,d,hk,h3⟩
   omega
  rw [f j c] at x;exact h.2 ⟨j,e0,h3,x⟩
 have q:∀ j u,j≠k->(Still X S.rows L w).o j u->(Still X (setRow (kill S k) k d').rows (bh L k v') w').o j u:=by
  intro j u c h;obtain ⟨⟨e,y⟩,x⟩:=h;refine ⟨⟨fh k j e,?_⟩,by rw [f j c];exact x⟩;simp only [setRow,kill];rw [Qc c,y];rfl
 have m:∀ b,Still X S.rows L w b->w'.heap[b]?=w.heap[b]?:=fun b h=>hg.block b (Still.lt r.below h) (fun e=>h.2 ⟨k,d,hk,e.symm⟩);refine ⟨r.size,r.defers,oS r.below hg (fun b h=>(r.mine k d b hk h).imp id (fun h=>h.2)),?_,?_,(fun j e b y x=>?_),(fun e y=>?_),?_⟩
 case refine_3 =>
  rcases g j e y with ⟨rfl,rfl⟩ | ⟨c,e0,h3,_⟩
  ·rw [l] at x;rcases hv b x with h4 | h4
   ·exact r.mine _ d b hk h4
   exact .inl (Qu r.below.size h4)
  rw [f j c] at x;exact r.mine j e0 b h3 x
 case refine_4 =>
  rcases g cd e y with ⟨c,rfl⟩ | ⟨c,e0,h3,_⟩
  ·subst c;rw [l];rcases hkl rfl with z | z
   ·rw [z];exact r.pin d hk
   exact z _
  rw [f _ c];exact r.pin e0 h3
 ·intro j e h;rcases g j e h with ⟨rfl,rfl⟩ | ⟨c,e0,h3,rfl⟩
  ·exact ⟨xs,by rw [l];exact hown,hl,hd st q m⟩
  refine (r.row j e0 h3).kill st q m (f j c) hg ?_;cases hb:(L j).ownBlock with
  | none=>exact .inl rfl
  | some b =>
   refine .inr (fun z=>c ?_);exact r.apart j k e0 d b h3 hk hb z.symm
 ·intro j j' e e' b h h' hb hb';rcases g j e h with ⟨rfl,rfl⟩ | ⟨c,e0,h3,_⟩
  ·rcases g j' e' h' with ⟨rfl,rfl⟩ | ⟨c',e0',h3',_⟩
   ·rfl
   rw [l] at hb;rw [f j' c'] at hb';rcases hv b hb with h4 | h4
   ·exact r.apart _ _ _ _ b hk h3' h4 hb'
   have:=(r.oG h3' b hb').2;omega
  rcases g j' e' h' with ⟨rfl,rfl⟩ | ⟨c',e0',h3',_⟩
  ·rw [l] at hb';rw [f j c] at hb;rcases hv b hb' with h4 | h4
   ·exact r.apart _ _ _ _ b h3 hk hb h4
   have:=(r.oG h3 b hb).2;omega
  rw [f j c] at hb;rw [f j' c'] at hb';exact r.apart _ _ _ _ b h3 h3' hb hb'
 intro t p h;obtain ⟨y,x⟩:=ud h;obtain ⟨h3,h4⟩:=r.env t p y;refine ⟨h3,h4.jg x st q (fun _ h=>h) m (fun j e c h=>⟨⟨fh k j e,?_,(nK k j e).2.1,(nK k j e).2.2.2⟩,f j c⟩)⟩;simp only [setRow,kill];rw [Qc c,h];rfl
theorem cM.Kn (r:cM X S L a w) (hk:S.rows k=some d) {v':Value} (hkl:k=cd->v'=L k∨∀ v,X.pin v) (hg:w.grownBy w' (L k).ownBlock) {xs:List Value} (hown:w'.ownsRow X.lo d'.e d'.sz v' d'.n xs) (hl:xs.length=d'.data.length) (hv:∀ b,v'.ownBlock=some b->(L k).ownBlock=some b∨w.heap.size<=b)
 (hd:∀ i (h:i<d'.data.length),Den w (Still X S.rows L w).shut (xs.getD i undef) d'.data[i]):cM X (setRow (kill S k) k d') (bh L k v') a w' :=
 r.Fe hk hkl hg hown hl hv (fun st sto same i hi=>((hd i hi).mono (Fo.jG st) same).mono (Fo.ks _ _) (fun _ _=>rfl))
theorem cM.set' (r:cM X S L a w) (hk:S.rows k=some d) (hg:w.grownBy w' (L k).ownBlock) {xs:List Value} (hown:w'.ownsRow X.lo d'.e d'.sz (L k) d'.n xs) (hl:xs.length=d'.data.length) (hs:d'.sz=d.sz) (hdl:d'.data.length=d.data.length)
 (hd:(Still X S.rows L w).le (Still X (setRow S k d').rows L w')->(∀ b,Still X S.rows L w b->w'.heap[b]?=w.heap[b]?)->∀ i (h:i<d'.data.length),Den w' ((Still X (setRow S k d').rows L w').at k) (xs.getD i undef) d'.data[i]):cM X (setRow S k d') L a w':=by
 have l:∀ j q,S.rows j=some q->∃ q',(setRow S k d').rows j=some q'/\q'.sz=q.sz/\q'.data.length=q.data.length:=by
  intro j q h;simp only [setRow]
  by_cases c:j=k
  ·subst c;rw [Qk rfl];rw [hk] at h;cases h;exact ⟨d',rfl,hs,hdl⟩
  rw [Qc c];exact ⟨q,h,rfl,rfl⟩
 have o:∀ j e,(setRow S k d').rows j=some e->(j=k/\e=d')∨(j≠k/\S.rows j=some e):=by
  intro j e h;simp only [setRow] at h
  by_cases c:j=k
  ·rw [Qk c] at h;cases h;exact .inl ⟨c,rfl⟩
  rw [Qc c] at h;exact .inr ⟨c,h⟩
 have f:∀ j e,(setRow S k d').rows j=some e->∃ e0,S.rows j=some e0:=fun j e h=>by
  rcases o j e h with ⟨rfl,_⟩ | ⟨_,h3⟩
  ·exact ⟨d,hk⟩
  exact ⟨e,h3⟩
 have st:∀ b,Still X S.rows L w b->Still X (setRow S k d').rows L w' b:=by
  intro b h;refine ⟨?_,?_⟩
  ·rcases h.1 with s | ⟨s,v⟩
   ·exact .inl s
   exact .inr ⟨s,QN v hg.size⟩
  rintro ⟨j,q,s,v⟩;obtain ⟨q0,h3⟩:=f j q s;exact h.2 ⟨j,q0,h3,v⟩
 have m:(Still X S.rows L w).le (Still X (setRow S k d').rows L w'):=⟨st,fun j u h=>by
  obtain ⟨⟨q,s⟩,v⟩:=h;obtain ⟨q',h3,_⟩:=l j q s;exact ⟨⟨q',h3⟩,v⟩,fun _ h=>h⟩
 have g:∀ b,Still X S.rows L w b->w'.heap[b]?=w.heap[b]?:=fun b h=>hg.block b (Still.lt r.below h) (fun e=>h.2 ⟨k,d,hk,e.symm⟩);refine ⟨r.size,r.defers,oS r.below hg (fun b h=>(r.mine k d b hk h).imp id (fun h=>h.2)),?_,?_,(fun j e b s v=>?_),(fun e s=>?_),?_⟩
 case refine_3 =>
  obtain ⟨e0,h3⟩:=f j e s;exact r.mine j e0 b h3 v
 case refine_4 =>
  obtain ⟨e0,h3⟩:=f cd e s;exact r.pin e0 h3
 ·intro j e h;rcases o j e h with ⟨rfl,rfl⟩ | ⟨c,h3⟩
  ·exact ⟨xs,hown,hl,hd m g⟩
  refine (r.row j e h3).mono m g rfl hg ?_;cases hb:(L j).ownBlock with
  | none=>exact .inl rfl
  | some b=>exact .inr (fun x=>c (r.apart j k e d b h3 hk hb x.symm))
 ·intro j j' e e' b h h' hb hb';obtain ⟨e0,h3⟩:=f j e h;obtain ⟨e1,h4⟩:=f j' e' h';exact r.apart j j' e0 e1 b h3 h4 hb hb'
 exact fun t p h=>⟨(r.env t p h).1,(r.env t p h).2.ux m g l⟩
theorem cM.set (r:cM X S L a w) (hk:S.rows k=some d) (hg:w.grownBy w' (L k).ownBlock) {xs:List Value} (hown:w'.ownsRow X.lo d'.e d'.sz (L k) d'.n xs) (hl:xs.length=d'.data.length) (hs:d'.sz=d.sz) (hdl:d'.data.length=d.data.length)
 (hd:∀ i (h:i<d'.data.length),Den w ((Still X S.rows L w).at k) (xs.getD i undef) d'.data[i]):cM X (setRow S k d') L a w':=r.set' hk hg hown hl hs hdl (fun st same i hi=>(hd i hi).mono (st.at k) (fun b hb=>same b (by rw [<- Fo.E2 _ k];exact hb)))
def one:CV->Bool
 | .lit v=>v.oneCell'
 | _=>true
theorem Den.one {F:Fo} {v:Value} {c:CV} (h:Den w F v c) (hc:one c=true):v.oneCell'=true:=by
 cases h with
 | lit v=>exact hc
 | nil=>rfl
 | row=>rfl
 | own h h1 h2=>exact h1
 | any h1 h2=>exact h1
end
section
variable {P:Program} {X:Ctx} {S:St} {o:Oper} {L:mJ} {a:Act} {w w':World} {k:Nat} {d d':Row}
def splice (l:List CV) (off:Nat) (cs:List CV):List CV:=l.take off++cs++l.drop (off+cs.length)
theorem length_splice (l:List CV) (off:Nat) (cs:List CV) (h:off+cs.length<=l.length):(splice l off cs).length=l.length:=by simp [splice];omega
theorem mH {F:Fo} {vs:Array Value} {cs:List CV} (hl:vs.size=cs.length) (h:∀ i (h:i<cs.length),Den w F (vs.getD i undef) cs[i]) (c:cs.all one=true):∀ v∈vs.toList,v.oneCell'=true:=by
 intro v hv;obtain ⟨i,hi,rfl⟩:=QL hv;have a:i<cs.length:=by simpa [hl] using hi
 have:=(h i a).one (by rw [QA] at c;exact c _ (Qi a));have b:i<vs.size:=by simpa using hi
 simpa [Q9,Qg b] using this
theorem G6 {F:Fo} {xs:List Value} {cs ncs:List CV} {news:List Value} {off:Nat} (hl:xs.length=cs.length) (hd:∀ i (h:i<cs.length),Den w F (xs.getD i undef) cs[i]) (hn:news.length=ncs.length) (hnd:∀ i (h:i<ncs.length),Den w F (news.getD i undef) ncs[i]) (ho:off+ncs.length<=cs.length) :
 ∀ i (h:i<(splice cs off ncs).length),Den w F ((xs.take off++news++xs.drop (off+news.length)).getD i undef) (splice cs off ncs)[i]:=by
 intro i h;have h':i<cs.length:=by rw [<- length_splice cs off ncs ho];exact h
 have hm:min off cs.length=off:=Q2;simp only [splice,Q6]
 by_cases c1:i<off
 ·rw [QC (by simp;omega),QC (by simp;omega),Vm (by simp;omega),Vm (by simp;omega),V6,List.getElem?_take,Qk c1];have:=hd i h'
  rwa [Q6] at this
 by_cases c2:i<off+ncs.length
 ·rw [QC (by simp;omega),QR (by simp;omega),Vm (by simp;omega),Vj (by simp;omega)];have e1:i-(List.take off cs).length=i-off:=by simp;omega
  have e2:i-(List.take off xs).length=i-off:=by simp;omega
  rw [e2];have:=hnd (i-off) Q2;rw [Q6] at this;have e3:i-min off cs.length=i-off:=Q2;simpa [e3] using this
 rw [QR (by simp;omega),Vj (by simp;omega),V0,WI];have e1:off+ncs.length+(i-(List.take off cs++ncs).length)=i:=by simp;omega
 have e2:off+news.length+(i-(List.take off xs++news).length)=i:=by simp;omega
 rw [e2];have:=hd i h';rw [Q6] at this;have e3:off+ncs.length+(i-(min off cs.length+ncs.length))=i:=Q2;simpa [e3] using this
theorem zj {o:Oper} {K:Act->World->Prop} {Q:Exit->Act->World->Prop} (w':World) (h:(execOp a.eval o).run P w = .ok .skip w') (hk:K (a.put o.dst undef) w'):o.wp P a w K Q:=by
 unfold Oper.wp;rw [h];exact hk
theorem tz {t:TypeId} {inf:TypeInfo} {x y:Operand} {off:Nat} {p:PV} {cs:List CV} (ho:o.op = .store t x y) (hi:P.info? t=some inf) (hx:ev S x=some (.po k off)) (hd:S.rows k=some d) (hy:ev S y=some p) (hc:eA p=some cs) (h1:cs.all one=true) (hs:cs.length=inf.size) (hl:off+cs.length<=d.data.length) (hsh:(Nat.ble opened k||cs.all gj)=true) :
 cf P X o S (drop (setRow S k { d with data:=splice d.data off cs }) o.dst):=by
 intro a w ⟨L,r⟩;obtain ⟨g1,g2⟩:=uo (r.ev hy) hc;have h:=r.ev hx;generalize hv:a.eval x=v at h;cases h with
 | @po _ _ g m cap r' h hL _ =>
  obtain ⟨xs,q1,q2,q3⟩:=r.row k d hd;have c:=q1;rw [hL] at c;rcases c.2 with ⟨b1,b2⟩ | ⟨g',c',cur,b1,b2,b3,b4,b5,b6,b7⟩
  ·cases b1
  cases b1;have z:xs.length=d.n*d.sz:=c.1;have u:cur.size=cap*d.sz:=b6;have f:d.n*d.sz<=cap*d.sz:=QJ _ b4;have q:=run_storeCells_at P g off d.e (a.eval y).cells.toList 0 cur w b3 (by rw [Array.length_toList,g1];rw [<- c.1,q2] at f;omega) (mH g1 g2 h1);simp only [Nat.add_zero] at q;have hg:w.grownBy (w.setRow g (cur.toList.take off++(a.eval y).cells.toList++cur.toList.drop (off+(a.eval y).cells.toList.length)).toArray) (L k).ownBlock:=by
   rw [hL];exact ⟨rfl,rfl,rfl,by simp [World.setRow],fun j _ hj=>setRow_other w g j _ (fun e=>hj (by rw [e];rfl))⟩
  have b:(a.eval y).cells.toList.length=cs.length:=by simpa using g1
  have s:(w.setRow g (cur.toList.take off++(a.eval y).cells.toList++cur.toList.drop (off+(a.eval y).cells.toList.length)).toArray).ownsRow X.lo d.e d.sz (L k) d.n (xs.take off++(a.eval y).cells.toList++xs.drop (off+(a.eval y).cells.toList.length)):=by
   rw [hL];refine ⟨by simp only [Qf,Qd,Qq];rw [b];rw [<- c.1];omega,.inr ⟨g,cap,_,rfl,b2,setRow_heap w g cur _ d.e _ b3,b4,b5,?_,?_⟩⟩
   ·simp only [Y6,Qf,Qd,Qq,Array.length_toList];rw [<- Array.length_toList (xs:=(a.eval y).cells),b];rw [<- c.1,q2] at f;omega
   rw [<- b7];rw [b];rw [WG,WG,Qp (l:=(a.eval y).cells.toList) (by rw [b];simp only [Qd,Array.length_toList];rw [<- c.1,q2] at f ⊢;omega)];rw [<- c.1,q2] at f ⊢;have e1:List.take d.data.length (List.take off cur.toList)=List.take off (List.take d.data.length cur.toList):=by
    rw [W3,W3,Nat.min_comm]
   rw [e1];congr 1;simp only [Qf,Qd,Array.length_toList];rw [<- Array.length_toList (xs:=(a.eval y).cells),b,VM];congr 1;omega
  refine zj (w.setRow g (cur.toList.take off++(a.eval y).cells.toList++cur.toList.drop (off+(a.eval y).cells.toList.length)).toArray) ?_ ?_
  ·have e:¬ ((a.eval y).cells.size≠inf.size):=by omega
   simp [execOp,ho,Instr.storeAt,Instr.sureAddr,hv,storeVar,sizeOf,typeInfo,hi,e,q]
  refine ⟨L,(r.set (d':={ d with data:=splice d.data off cs }) hd hg s ?_ rfl (length_splice _ _ _ hl) ?_).drop _ _⟩
  ·simp only [Qf,Qd,Qq];rw [length_splice _ _ _ hl,b];omega
  exact G6 q2 q3 b (fun i hi=>by simpa [Q9,Q6] using (g2 i hi).at (k:=k) (AP hsh hi)) hl
def conv (k:Nat) (d:Row):PV->Option PV
 | .own j=>if j=k then some (.cv (.row d.n d.data)) else some (.own j)
 | .win j off n=>if j=k then some (.cv (.row n ((d.data.drop (off*d.sz)).take (n*d.sz)))) else some (.win j off n)
 | .po j off=>if j=k then none else some (.po j off)
 | .tup _=>none
 | .cv c=>bif iN k c then none else some (.cv c)
 | .ag cs=>bif cs.any (iN k) then none else some (.ag cs)
 | p=>some p
def As (k:Nat) (d:Row):CV->CV
 | .own j=>bif Nat.beq j k then .row d.n d.data else .own j
 | c=>c
def jU (k:Nat) (d:Row) (j:Nat) (r:Row):Row:=bif Nat.ble opened j then { r with data:=r.data.map (As k d) } else r
def freeze (S:St) (k:Nat) (d:Row):St:={ env:=fun t=>(S.env t).bind (conv k d),rows:=fun j=>if j=k then none else (S.rows j).map (jU k d j) }
theorem yO (k:Nat) (d:Row) (j:Nat) (r:Row):(jU k d j r).e=r.e/\(jU k d j r).sz=r.sz/\(jU k d j r).n=r.n/\(jU k d j r).data.length=r.data.length:=by
 unfold jU;cases Nat.ble opened j<;>simp
theorem qS {F:Fo} {B:Nat} {e:TypeId} {sz n:Nat} {v:Value} {xs:List Value} {cs:List CV} (h:w.ownsRow B e sz v n xs) (hl:xs.length=cs.length) (hd:∀ i (h:i<cs.length),Den w F.shut (xs.getD i undef) cs[i]) (hF:∀ b,v.ownBlock=some b->F b):Den w F v (.row n cs):=by
 rcases h.2 with ⟨rfl,rfl⟩ | ⟨g,cap,cur,rfl,h2,h3,h4,h5,h6,h7⟩
 ·have:cs=[]:=by
   apply QY;rw [<- hl,h.1];omega
  subst this;exact .nil _ _ (fun _=>rfl)
 refine .row _ _ _ _ (fun i=>xs.getD i undef) rfl (hF g rfl) h4 (fun i hi=>?_) hd;rw [add_plain,QS,h.cellAt i (by rw [<- h.1,hl];exact hi)];have:i<xs.length:=Q2;simp [Q6,Qh this]
theorem cM.freeze (r:cM X S L a w) (hk:S.rows k=some d) (hkl:k≠cd) (hko:Nat.ble opened k=false):cM X (freeze S k d) L a w:=by
 have f:∀ j e,(V.freeze S k d).rows j=some e->j≠k/\∃ e0,S.rows j=some e0/\e=jU k d j e0:=fun j e h=>by
  simp only [V.freeze] at h
  by_cases c:j=k
  ·rw [Qk c] at h;cases h
  rw [Qc c] at h;obtain ⟨e0,h1,h2⟩:=Qr.1 h;exact ⟨c,e0,h1,h2.symm⟩
 have st:∀ b,Still X S.rows L w b->Still X (V.freeze S k d).rows L w b:=by
  intro b h;refine ⟨h.1,?_⟩;rintro ⟨j,e,h1,h2⟩;obtain ⟨_,e0,h3,_⟩:=f j e h1;exact h.2 ⟨j,e0,h3,h2⟩
 have z:∀ b,(L k).ownBlock=some b->Still X (V.freeze S k d).rows L w b:=by
  intro b h;refine ⟨.inr ⟨(r.mine k d b hk h).resolve_right (fun h=>hkl h.1),(r.oG hk b h).2⟩,?_⟩;rintro ⟨j,e,h1,h2⟩;obtain ⟨c,e0,h3,_⟩:=f j e h1;exact c (r.apart j k e0 d b h3 hk h2 h)
 have A:∀ j u,j≠k->(Still X S.rows L w).o j u->(Still X (V.freeze S k d).rows L w).o j u:=by
  intro j u c h;obtain ⟨⟨e,h1⟩,h2⟩:=h;refine ⟨⟨jU k d j e,?_⟩,h2⟩;simp only [V.freeze];rw [Qc c,h1];rfl
 have x:∀ j q,j≠k->S.rows j=some q->(∃ q',(V.freeze S k d).rows j=some q'/\q'.sz=q.sz/\q'.data.length=q.data.length)/\L j=L j:=fun j q c h=>⟨⟨jU k d j q,by simp only [V.freeze];rw [Qc c,h];rfl,(yO k d j q).2.1,(yO k d j q).2.2.2⟩,rfl⟩;obtain ⟨xs,q1,q2,q3⟩:=r.row k d hk;have y:∀ i (h:i<d.data.length),Den w (Still X (V.freeze S k d).rows L w).shut (xs.getD i undef) d.data[i]:=fun i hi=>by
  have h:=q3 i hi;simp only [Fo.at,hko,cond_false] at h;exact h.mono (Fo.jG st) (fun _ _=>rfl)
 have l:Den w (Still X (V.freeze S k d).rows L w) (L k) (.row d.n d.data):=qS q1 q2 y z;have B:∀ {v:Value} {c:CV},Den w (Still X S.rows L w) v c->Den w (Still X (V.freeze S k d).rows L w) v (As k d c):=fun {v c} h=>by
  cases h with
  | lit v=>exact .lit v
  | nil a c h=>exact .nil a c h
  | row ad n c cs vs hs hF' hn hc hd=>exact (Den.row ad n c cs vs hs hF' hn hc hd:Den w (Still X S.rows L w) _ _).sC st (fun _ _ e=>by cases e) (fun _ _=>rfl)
  | @own _ j _ h h1 h2 =>
   show Den w _ v (bif Nat.beq j k then .row d.n d.data else .own j);cases c:Nat.beq j k with
   | true =>
    have e:=Qt c;subst e;have e2:v=L j:=h.2;rw [e2];exact l
   | false=>exact .own (A j v (Xq c) h) h1 h2
  | any h1 h2=>exact .any h1 h2
 refine ⟨r.size,r.defers,r.below,?_,?_,(fun j e b h h2=>?_),(fun e h=>?_),?_⟩
 case refine_3 =>
  obtain ⟨_,e0,h3,_⟩:=f j e h;exact r.mine j e0 b h3 h2
 case refine_4 =>
  obtain ⟨_,e0,h3,_⟩:=f cd e h;exact r.pin e0 h3
 ·intro j e h;obtain ⟨c,e0,h3,rfl⟩:=f j e h;obtain ⟨ys,p1,p2,p3⟩:=r.row j e0 h3;obtain ⟨s1,s2,s3,s4⟩:=yO k d j e0;refine ⟨ys,by rw [s1,s2,s3];exact p1,by rw [s4];exact p2,fun i hi=>?_⟩;have s:i<e0.data.length:=by rw [s4] at hi;exact hi
  have h4:=p3 i s;cases e:Nat.ble opened j with
  | false =>
   have e1:(jU k d j e0).data[i]=e0.data[i]:=by simp only [jU,e,cond_false]
   rw [e1];simp only [Fo.at,e,cond_false] at h4 ⊢;exact h4.mono (Fo.jG st) (fun _ _=>rfl)
  | true =>
   have e1:(jU k d j e0).data[i]=As k d e0.data[i]:=by simp only [jU,e,cond_true,Qz]
   rw [e1];simp only [Fo.at,e,cond_true] at h4 ⊢;exact B h4
 ·intro j j' e e' b h h' hb hb';obtain ⟨_,e0,h3,_⟩:=f j e h;obtain ⟨_,e1,h4,_⟩:=f j' e' h';exact r.apart j j' e0 e1 b h3 h4 hb hb'
 intro t p h;obtain ⟨p0,h1,h2⟩:=Q5 h;obtain ⟨h3,h4⟩:=r.env t p0 h1;refine ⟨h3,?_⟩
 by_cases hu:fA k p0=false
 ·have e:p=p0:=by
   cases p0<;>simp only [fA,QE,ne_eq,reduceCtorEq] at hu<;>simp only [conv,Qj,reduceCtorEq] at h2
   all_goals first | exact h2.symm | (rw [Qc hu] at h2;exact (QF h2).symm) | (rw [hu] at h2;exact (QF h2).symm)
  rw [e];exact h4.jg hu st A (fun _ h=>h) (fun _ _=>rfl) x
 generalize a.tmps.getD t undef=v at h4;cases h4 with
 | cv=>simp only [fA,Y7] at hu;simp only [conv,hu,cond_true,reduceCtorEq] at h2
 | ag=>simp only [fA,Y7] at hu;simp only [conv,hu,cond_true,reduceCtorEq] at h2
 | tup=>simp [conv] at h2
 | pr=>simp [fA] at hu
 | @own j q hj =>
  have c:j=k:=by simpa [fA] using hu
  subst c;simp only [conv,Qk,Qj] at h2
  subst h2;exact .cv l
 | @win b j off n g m cap c q hj hL ho hn hb ha =>
  have cj:j=k:=by simpa [fA] using hu
  subst cj;rw [hk] at hj;cases hj;simp only [conv,Qk,Qj] at h2
  subst h2;have hm:m=d.n:=by
   rw [hL] at q1;rcases q1.2 with ⟨b1,_⟩ | ⟨g',c',cur,b1,_⟩
   ·cases b1
   cases b1;rfl
  subst hm;have C:n*d.sz+off*d.sz<=d.data.length:=by
   rw [<- q2,q1.1,<- Xm];exact QJ _ Q2
  by_cases hz:n=0
  ·subst hz;rw [WZ,List.take_zero];exact .cv (.nil _ _ hb)
  rw [ha Q2];refine .cv (.row _ _ _ _ (fun i=>xs.getD (off*d.sz+i) undef) rfl (z g (by rw [hL];rfl)) hn (fun i hi=>?_) (fun i hi=>?_))
  ·simp only [Qd,Qq] at hi;rw [hL] at q1;rw [add_plain,q1.cellAt _ (by rw [<- q1.1,q2];omega)];have:off*d.sz+i<xs.length:=Q2;simp [Q6,Qh this]
  have s:=hi;simp only [Qd,Qq] at s;have:=y (off*d.sz+i) Q2;simpa [V6,V0] using this
 | po h hL ho =>
  rename_i j off g m cap q;have cj:j=k:=by simpa [fA] using hu
  subst cj;simp [conv] at h2
 | map=>simp [fA] at hu
theorem dF (hk:S.rows k=some d) (hkl:k≠cd:=by decide) (hko:Nat.ble opened k=false:=by rfl):∀ a w,Rel X S a w->Rel X (freeze S k d) a w:=fun a w ⟨L,r⟩=>⟨L,r.freeze hk hkl hko⟩
end
abbrev nr:Nat->Option Row:=fun _=>none
abbrev nl:mJ:=fun _=>undef
def closed:PV->Bool
 | .cv c=>gj c
 | .ag cs=>cs.all gj
 | .pr _=>true
 | _=>false
theorem cQ.shut {w:World} {F:Fo} {rows:Nat->Option Row} {L:mJ} {v:Value} {p:PV} (h:cQ w F rows L v p) (hcl:closed p=true):cQ w F.shut nr nl v p:=by
 cases h with
 | cv h=>exact .cv (h.shut hcl)
 | ag hl h=>exact .ag hl (fun i hi=>(h i hi).shut (by rw [closed,QA] at hcl;exact hcl _ (Qi hi)))
 | pr vs hs hF hc hd=>exact .pr vs hs hF hc hd
 | tup=>simp [closed] at hcl
 | own=>simp [closed] at hcl
 | win=>simp [closed] at hcl
 | po=>simp [closed] at hcl
 | map=>simp [closed] at hcl
def Fn (P:Program) (f:FuncId) (args:List PV) (p:PV):Prop:=∀ (F:Nat->Prop) (w:World) (vs:Array Value),(∀ b,F b->b<w.heap.size)->vs.size=args.length->(∀ i (h:i<args.length),cQ w (.of F) nr nl (vs.getD i undef) args[i]) ->
 Calls P f vs w fun e w'=>∃ v,e = .returned v/\Below w.heap.size w w'/\cQ w' (.of fun b=>F b∨(w.heap.size<=b/\b<w'.heap.size)) nr nl v p
section
variable {P:Program} {X:Ctx} {S:St} {o:Oper} {L:mJ} {a:Act} {w w':World}
theorem cM.wide (r:cM X S L a w) (hb:Below w.heap.size w w'):cM X S L a w' :=
 r.grow hb rfl (fun k d h=>⟨h,rfl⟩) (fun k d h h'=>by rw [h'] at h;cases h) (fun k k' d d' b h h' h0 h0' _ _=>by rw [h0] at h;cases h) (fun h=>h)
theorem jq (r:cM X S L a w) (hb:Below w.heap.size w w') (b:Nat) (h:Still X S.rows L w b∨(w.heap.size<=b/\b<w'.heap.size)):Still X S.rows L w' b:=by
 rcases h with h | ⟨h1,h2⟩
 ·exact j6 (S':=S) (L':=L) r hb.size (fun _ _ _=>rfl) (fun k d b h h' _=>by rw [h'] at h;cases h) b h
 refine ⟨.inr ⟨Qu r.below.size h1,h2⟩,?_⟩;rintro ⟨k,d,h3,h4⟩;have:=(r.oG h3 b h4).2;omega
def aV (S:St):List Operand->Option (List PV)
 | []=>some []
 | x :: xs=>match ev S x,aV S xs with
  | some p,some ps=>some (p :: ps)
  | _,_=>none
theorem wQ (r:cM X S L a w):∀ (xs:List Operand) (ps:List PV),aV S xs=some ps->ps.all closed=true->xs.length=ps.length/\∀ i (h:i<ps.length) (h':i<xs.length),cQ w (Still X S.rows L w).shut nr nl (a.eval xs[i]) ps[i]
 | [],ps,h,_=>by simp only [aV,Qj] at h;subst h;exact ⟨rfl,fun i h=>by simp at h⟩
 | x :: xs,ps,h,hc=>by
  simp only [aV] at h;split at h
  ·rename_i p ps' h1 h2;cases h;simp only [List.all_cons,Qm] at hc;obtain ⟨g1,g2⟩:=wQ r xs ps' h2 hc.2;refine ⟨by simp [g1],fun i hi hi'=>?_⟩;cases i with
   | zero=>exact (r.ev h1).shut hc.1
   | succ i=>exact g2 i (by simpa using hi) (by simpa using hi')
  cases h
theorem Ht {c:Call} {f:FuncId} {fn:Func} {args:List PV} {p:PV} {x:Operand} (ho:o.op = .call c) (hc:c.callee = .value x) (hx:x = .func f∨ev S x=some (.cv (.lit (.func (.func f) #[] #[])))) (hf:P.funcs[f]?=some fn) (hn:fn.name≠"runtime.NumGoroutine") (hb:fn.body≠none)
 (ha:aV S c.args.toList=some args) (hcl:args.all closed=true) (h:Fn P f args p) (hd:dm X o.dst):cf P X o S (put S o.dst p):=by
 intro a w ⟨L,r⟩;obtain ⟨g1,g2⟩:=wQ r _ _ ha hcl;have j:a.eval x = .func (.func f) #[] #[]:=by
  rcases hx with rfl | hx
  ·rfl
  exact (r.ev hx).lit
 have hr:(execOp a.eval o).run P w = .ok (.enter f (c.args.map a.eval)) w:=by
  simp [execOp,ho,resolve,hc,j,Deferred.ofValue,invoke,callFunc,hf,hn,hb]
 unfold Oper.wp;rw [hr,Oper.upon_enter];refine (h (Still X S.rows L w).b w (c.args.map a.eval) (fun b hb=>Still.lt r.below hb) (by simpa using g1) (fun i hi=>?_)).mono ?_
 ·have g:i<c.args.size:=by
   have:c.args.size=args.length:=by simpa using g1
   omega
  have:=g2 i hi (by simpa using g);show cQ w (Still X S.rows L w).shut nr nl ((c.args.map a.eval).getD i undef) args[i];simpa [Q9,Qg g] using this
 rintro e w' ⟨v,rfl,hb',hv⟩;exact ⟨L,(r.wide hb').put hd (hv.mono ⟨fun b h=>jq r hb' b h,fun _ _ h=>h.elim,fun _ h=>h.elim⟩ (fun _ _=>rfl) (fun k d h=>by cases h))⟩
inductive kV (P:Program) (S:St):ResultVar->PV->Prop where
 | tmp {t:Tmp} {p:PV} (h:S.env t=some p):kV P S (.tmp t) p
 | cell {t:Tmp} {ty:TypeId} {ds:TypeDesc} {k off:Nat} {d:Row} {c:CV} (h:S.env t=some (.po k off)) (hu:P.underlying ty=some ds) (hds:(match ds with | .struct _ | .array _ _=>true | _=>false)=false) (hd:S.rows k=some d) (hc:d.data[off]?=some c):kV P S (.cell t ty) (.cv c)
 | agg {t:Tmp} {ty:TypeId} {fs:Array Field} {inf:TypeInfo} {k off:Nat} {d:Row} (h:S.env t=some (.po k off)) (hu:P.underlying ty=some (.struct fs)) (hi:P.info? ty=some inf) (hd:S.rows k=some d) (hl:off+inf.size<=d.data.length):kV P S (.cell t ty) (.ag ((d.data.drop off).take inf.size))
def qg (tmps:Array Value):ResultVar->Sem Value
 | .tmp t=>pure (tmps.getD t undef)
 | .cell a t=>do loadVar t (<- asAddr (tmps.getD a undef))
theorem kV.run (r:cM X S L a w) {q:ResultVar} {p:PV} (h:kV P S q p):∃ v,(qg a.tmps q).run P w = .ok v w/\cQ w (Still X S.rows L w) S.rows L v p:=by
 cases h with
 | tmp h=>exact ⟨_,rfl,(r.env _ _ h).2⟩
 | @cell t ty ds k off d c h hu hds hd hc =>
  have hv:=(r.env _ _ h).2;obtain ⟨hb,rfl⟩:=Qx.1 hc;generalize he:a.tmps.getD t undef=v at hv;cases hv with
  | @po _ _ g m cap r' h hL _ =>
   obtain ⟨xs,h1,h2⟩:=r.qp hd hL;obtain ⟨e,e2⟩:=h2 off hb;refine ⟨xs.getD off undef,?_,.cv e2⟩;cases ds<;>simp at hds<;>simp [qg,he,asAddr,loadVar,isAgg,run_underlying hu,load,Sem.run,e]
 | @agg t ty fs inf k off d h hu hi hd hl =>
  have hv:=(r.env _ _ h).2;generalize he:a.tmps.getD t undef=v at hv;cases hv with
  | @po _ _ g m cap r' h hL _ =>
   obtain ⟨xs,h1,h2⟩:=r.qp hd hL;refine ⟨.agg ((List.range inf.size).map fun j=>xs.getD (off+j) undef).toArray,?_,.ag (by simp;omega) (fun i hj=>?_)⟩
   ·have e:=run_loadCells (P:=P) (w:=w) ⟨g,off,none⟩ inf.size (fun j=>xs.getD (off+j) undef) (fun j hj=>by rw [add_plain];exact (h2 (off+j) Q2).1);simp [qg,he,asAddr,loadVar,isAgg,run_underlying hu,sizeOf,typeInfo,hi,e]
   simp only [Qd,Qq] at hj;have b:i<inf.size:=Q2;have:=(h2 (off+i) Q2).2;simpa [Q9,b,V6,V0] using this
inductive ig (P:Program) (S:St):List ResultVar->PV->Prop where
 | zero:ig P S [] (.tup [])
 | one {r:ResultVar} {p:PV} (h:kV P S r p) (hc:closed p=true):ig P S [r] p
 | two {r s:ResultVar} {p q:PV} (h:kV P S r p) (h':kV P S s q) (hc:closed p=true) (hc':closed q=true):ig P S [r,s] (.tup [p,q])
 | three {r s t:ResultVar} {p q u:PV} (h:kV P S r p) (h':kV P S s q) (h'':kV P S t u) (hc:closed p=true) (hc':closed q=true) (hc'':closed u=true):ig P S [r,s,t] (.tup [p,q,u])
theorem lL (fn:Func) (tmps:Array Value):results fn tmps=(do let vs <- fn.results.mapM (qg tmps);pure (if h:vs.size=1 then vs[0] else .tuple vs)):=by
 unfold results qg;rfl
theorem ig.run (r:cM X S L a w) {fn:Func} {p:PV} (h:ig P S fn.results.toList p):∃ v,(results fn a.tmps).run P w = .ok v w/\cQ w (Still X S.rows L w).shut nr nl v p:=by
 rw [lL];generalize hq:fn.results.toList=l at h;have hr:fn.results=l.toArray:=by rw [<- hq]
 rw [hr];cases h with
 | zero=>exact ⟨.tuple #[],Q3,.tup rfl (fun i hi=>by simp at hi)⟩
 | one h hc =>
  obtain ⟨v,h1,h2⟩:=h.run r;exact ⟨v,by simp [h1],h2.shut hc⟩
 | two h h' hc hc' =>
  obtain ⟨v,h1,h2⟩:=h.run r;obtain ⟨v',b,h2'⟩:=h'.run r;refine ⟨.tuple #[v,v'],by simp [h1,b],.tup rfl (fun i hi=>?_)⟩
  match i,hi with
  | 0,_=>exact h2.shut hc
  | 1,_=>exact h2'.shut hc'
 | three h h' h'' hc hc' hc'' =>
  obtain ⟨v,h1,h2⟩:=h.run r;obtain ⟨v',b,h2'⟩:=h'.run r;obtain ⟨d,c,h2''⟩:=h''.run r;refine ⟨.tuple #[v,v',d],by simp [h1,b,c],.tup rfl (fun i hi=>?_)⟩
  match i,hi with
  | 0,_=>exact h2.shut hc
  | 1,_=>exact h2'.shut hc'
  | 2,_=>exact h2''.shut hc''
def uk (args:List PV):Nat->Option PV:=fun t=>args[t]?
theorem bU {f:FuncId} {fn:Func} {c:Code} {args:List PV} {p:PV} (hf:P.funcs[f]?=some fn) (hb:fn.body=some c) (hn:args.length<=fn.ntmps)
 (h:∀ X:Ctx,X.nt=fn.ntmps->kp P X c ⟨uk args,nr⟩ (fun e S=>(e = .ret∨e = .normal)/\ig P S fn.results.toList p)):Fn P f args p:=by
 intro F w vs hF hs ha
 let X:Ctx:=⟨w,fn.ntmps,F,hF,none,w.heap.size,Qn _,fun _=>True⟩
 have st:∀ b,F b->Still X nr nl w b:=fun b h=>⟨.inl h,fun ⟨k,d,h,_⟩=>by cases h⟩;have r0:cM X ⟨uk args,nr⟩ nl { tmps:=vs++Array.replicate (fn.ntmps-vs.size) undef,defers:=[] } w:=by
  refine ⟨by simp;show vs.size+(fn.ntmps-vs.size)=fn.ntmps;omega,rfl,World.grownBy.refl _ _,(fun k d h=>by cases h),(fun k k' d d' b h=>by cases h),(fun k d b h=>by cases h),(fun d h=>by cases h),fun t q hq=>?_⟩;obtain ⟨ht,rfl⟩:=Qx.1 hq;refine ⟨by show t<fn.ntmps;omega,?_⟩;have hv:=(ha t ht).mono (F':=Still X nr nl w) (w':=w) (rows':=nr) (L':=nl) ⟨st,fun _ _ h=>h.elim,fun _ h=>h.elim⟩ (fun _ _=>rfl) (fun k r h=>⟨h,rfl⟩);have e:(vs++Array.replicate (fn.ntmps-vs.size) undef).getD t undef=vs.getD t undef:=by
   simp only [Q9];rw [Wc Q2]
  show cQ w (Still X nr nl w) nr nl ((vs++Array.replicate (fn.ntmps-vs.size) undef).getD t undef) args[t];rw [e];exact hv
 refine calls_of_wp hf hb (Code.wp_mono ?_ (h X rfl _ _ ⟨nl,r0⟩));rintro e a w' ⟨S,⟨he,hr⟩,L,r⟩;obtain ⟨v,h1,h2⟩:=hr.run r;have g:a.defers=[]/\∃ v,(results fn a.tmps).run P w' = .ok v w'/\∃ u,Ending.returned v = .returned u/\Below w.heap.size w w'/\cQ w' (.of fun b=>F b∨(w.heap.size<=b/\b<w'.heap.size)) nr nl u p :=
  ⟨r.defers,v,h1,v,rfl,⟨r.below.os,r.below.tape,r.below.output,r.below.size,fun k hk=>r.below.block k hk (by simp [X])⟩,h2.mono ⟨fun b h=>h.1,fun _ _ h=>h.elim,fun _ h=>h.elim⟩ (fun _ _=>rfl) (fun k r h=>by cases h)⟩
 rcases he with rfl | rfl
 ·exact g
 exact g
end
section
variable {P:Program} {X:Ctx} {S:St} {o:Oper} {L:mJ} {a:Act} {w w':World} {k:Nat} {d d':Row}
theorem qW (h:w.grownBy w' none):Below w.heap.size w w':=⟨h.os,h.tape,h.output,h.size,fun k hk=>h.block k hk Q3⟩
theorem jm {c:Call} {x y:Operand} {t:TypeId} (ho:o.op = .call c) (hc:c.callee = .builtin .append) (ha:c.args = #[x,y]) (ht:c.argTypes = #[t,t]) {v:Value} (h:(Builtin.append_ #[t,t] o.type #[a.eval x,a.eval y]).run P w = .ok v w'):(execOp a.eval o).run P w = .ok (.value v) w':=by
 simp [execOp,ho,resolve,hc,ha,ht,invoke,builtin,h]
theorem xi {c:Call} {x y:Operand} {t e:TypeId} {inf:TypeInfo} {z:Value} {m:Nat} {ncs:List CV} (ho:o.op = .call c) (hc:c.callee = .builtin .append) (ha:c.args = #[x,y]) (ht:c.argTypes = #[t,t]) (hu:P.underlying t=some (.slice e)) (hi:P.info? e=some inf) (hz:inf.zero=some z) (hzs:z.cells.size=inf.size) (hsz:0<inf.size)
 (hx:ev S x=some (.own k)) (hk:S.rows k=some d) (hde:d.e=e) (hds:d.sz=inf.size) (hy:ev S y=some (.cv (.row m ncs))) (hm:ncs.length=m*inf.size) (h1:ncs.all one=true) (h63:d.n+m<=maxLen) (hb:(d.n+m)*inf.bytes<=140737488355328) (hkl:k=cd->∀ v,X.pin v) (hko:Nat.ble opened k=false) (hd:dm X o.dst) :
 cf P X o S (put (setRow (kill S k) k ⟨e,inf.size,d.n+m,d.data++ncs⟩) o.dst (.own k)):=by
 intro a w ⟨L,r⟩;obtain ⟨xs,q1,q2,q3⟩:=r.row k d hk;have B:=r.ev hx;have A:=r.ev hy;generalize hvx:a.eval x=vx at B;generalize hvy:a.eval y=vy at A;rw [hde,hds] at q1;have s:∀ (news:List Value),news.length=ncs.length->(∀ i (h:i<ncs.length),Den w (Still X S.rows L w).shut (news.getD i undef) ncs[i])->∀ v' w',(Builtin.append_ #[t,t] o.type #[vx,vy]).run P w = .ok v' w'->w'.ownsRow X.lo e inf.size v' (d.n+m) (xs++news)->w.grownBy w' (L k).ownBlock->(∀ b,v'.ownBlock=some b->(L k).ownBlock=some b∨w.heap.size<=b) ->
  o.wp P a w (fun a' w'=>Rel X (put (setRow (kill S k) k ⟨e,inf.size,d.n+m,d.data++ncs⟩) o.dst (.own k)) a' w') (fun _ _ _=>False):=by
  intro news hnl hnd v' w' hrun hown hg hv';refine cW (jm ho hc ha ht (by rw [hvx,hvy];exact hrun)) ⟨_,(r.Kn (d':=⟨e,inf.size,d.n+m,d.data++ncs⟩) hk (fun h=>.inr (hkl h)) hg hown (by simp [q2,hnl]) hv' (fun i hi=>?_)).put hd ?_⟩
  ·simp only [Qf] at hi
   by_cases c1:i<d.data.length
   ·have:=q3 i c1;simp only [Fo.at,hko,cond_false] at this;have c2:i<xs.length:=Q2;simp only [Q6] at this ⊢;rw [Vm c2,QC c1];exact this
   have:=hnd (i-d.data.length) Q2;simp only [Q6] at this ⊢;rw [Vj Q2,QR Q2,q2];exact this
  have e1:v'=bh L k v' k:=by simp [bh]
  conv=>arg 5;rw [e1]
  exact .own (r:=⟨e,inf.size,d.n+m,d.data++ncs⟩) (by simp [setRow])
 have own:vx=L k:=by cases B with | own h=>rfl
 have go:∀ (ad:Addr) (c':Nat) (news:List Value),vy = .slice (some ad) m c'->news.length=ncs.length->(∀ i (h:i<ncs.length),Den w (Still X S.rows L w).shut (news.getD i undef) ncs[i])->(∀ j u,news[j]?=some u->w.cell? (ad.add j)=some u) ->
  o.wp P a w (fun a' w'=>Rel X (put (setRow (kill S k) k ⟨e,inf.size,d.n+m,d.data++ncs⟩) o.dst (.own k)) a' w') (fun _ _ _=>False):=by
  intro ad c' news hvy' hnl hnd hcell;have f:∀ u∈news,u.oneCell'=true:=by
   have:=mH (vs:=news.toArray) (cs:=ncs) (by simpa using hnl) (fun i hi=>by simpa [Q9,Q6] using hnd i hi) h1;simpa using this
  obtain ⟨v',w',g1,g2,g3,g4⟩:=run_append_own (P:=P) w X.lo t o.type e inf z inf.size inf.bytes hu hi hz rfl rfl hzs hsz (L k) d.n xs q1 ad m c' news (by rw [hnl,hm]) hcell f h63 hb (Qu X.hlo r.below.size);refine s news hnl hnd v' w' (by rw [own,hvy'];exact g1) g2 g3 (fun b hb'=>?_);have F:=g2.lt b hb';rcases We b w.heap.size with hbl | hbl
  ·left;rcases q1.2 with ⟨hn,h0⟩ | ⟨g,cap,cur,hL,p1,p2,p3,p4,p5,p6⟩
   ·have q1':w.ownsRow w.heap.size e inf.size (L k) d.n xs:=⟨q1.1,.inl ⟨hn,h0⟩⟩;obtain ⟨v2,w2,k1,k2,k3,k4⟩:=run_append_own (P:=P) w w.heap.size t o.type e inf z inf.size inf.bytes hu hi hz rfl rfl hzs hsz (L k) d.n xs q1' ad m c' news (by rw [hnl,hm]) hcell f h63 hb (Qn _);rw [g1] at k1;cases k1;have:=(k2.lt b hb').1;omega
   have l:news.length=m*inf.size:=by rw [hnl,hm]
   by_cases hroom:d.n+m<=cap
   ·have C:d.n*inf.size+news.length<=cur.size:=by rw [l,p5,<- Xm];exact QJ _ hroom
    have k1:=run_append_room (P:=P) w t o.type e inf hu hi g d.n cap cur p2 ad m c' news l hcell f hroom C;rw [<- hL,g1] at k1;cases k1;rw [hL];exact hb'
   have p:∀ j u,xs[j]?=some u->w.cell? ((⟨g,0,none⟩:Addr).add j)=some u:=by
    have q1':=q1;rw [hL] at q1';exact q1'.cells (g:=g) rfl
   have k1:=run_append_grow (P:=P) w t o.type e inf z hu hi hz ⟨g,0,none⟩ d.n cap xs q1.1 p ad m c' news l hcell Q2 (by simp only [maxLen] at h63;omega) (growslice_fits Q2 hb);rw [<- hL,g1] at k1;cases k1;simp only [Value.ownBlock,Qj] at hb';omega
  exact .inr hbl
 cases A with
 | cv hden =>
  cases hden with
  | nil b c' hb' =>
   cases b with
   | none =>
    have:c'=0:=hb' rfl;subst this;have g1:=run_append_owned_none (P:=P) w X.lo t o.type e inf inf.size hu hi (L k) d.n xs q1;refine s [] rfl (fun i h=>by simp at h) (L k) w (by rw [own];exact g1) (by simpa using q1) ⟨rfl,rfl,rfl,Qn _,fun _ _ _=>rfl⟩ (fun b h=>.inl h)
   | some ad=>exact go ad c' [] rfl rfl (fun i h=>by simp at h) (fun j u h=>by simp at h)
  | row ad n c' cs vs hs hF hn hcc hdd =>
   refine go ad c' ((List.range ncs.length).map vs) rfl Q3 (fun i hi=>?_) (fun j u hj=>?_)
   ·simpa [Q6,hi] using hdd i hi
   simp only [VJ,Qr] at hj;obtain ⟨i,D,q⟩:=hj;obtain ⟨h3,rfl⟩:=Qx.1 D;simp at h3 q;subst q;exact hcc j h3
theorem zq {c:Call} {x y:Operand} {t e:TypeId} {inf:TypeInfo} {z:Value} {m:Nat} {ncs:List CV} (ho:o.op = .call c) (hc:c.callee = .builtin .append) (ha:c.args = #[x,y]) (ht:c.argTypes = #[t,t]) (hu:P.underlying t=some (.slice e)) (hi:P.info? e=some inf) (hz:inf.zero=some z) (hzs:z.cells.size=inf.size) (hsz:0<inf.size)
 (hx:ev S x=some (.own k)) (hk:S.rows k=some d) (hde:d.e=e) (hds:d.sz=inf.size) (hy:ev S y=some (.cv (.row m ncs))) (hm:ncs.length=m*inf.size) (b:ncs.all one=true) (a:d.n+m<=maxLen) (hb:(d.n+m)*inf.bytes<=140737488355328) (hkl:k≠cd) (hko:Nat.ble opened k=false) (hd:dm X o.dst) :
 cf P X o S (put (setRow (kill S k) k ⟨e,inf.size,d.n+m,d.data++ncs⟩) o.dst (.own k)):=xi ho hc ha ht hu hi hz hzs hsz hx hk hde hds hy hm b a hb (fun h=>absurd h hkl) hko hd
end
section
variable {P:Program} {X:Ctx} {S:St} {o:Oper} {L:mJ} {a:Act} {w w':World} {k:Nat} {d d':Row}
theorem CA {c:Call} {y:Operand} {t e:TypeId} {inf:TypeInfo} {z:Value} {m:Nat} {ncs:List CV} (ho:o.op = .call c) (hc:c.callee = .builtin .append) (ha:c.args = #[.const (.slice none 0 0),y]) (ht:c.argTypes = #[t,t]) (hu:P.underlying t=some (.slice e)) (hi:P.info? e=some inf) (hz:inf.zero=some z) (hzs:z.cells.size=inf.size) (hsz:0<inf.size)
 (hy:ev S y=some (.cv (.row m ncs))) (hm:ncs.length=m*inf.size) (p:ncs.all one=true) (l:m<=maxLen) (hb:m*inf.bytes<=140737488355328) (hd:dm X o.dst) :
 cf P X o S (put S o.dst (.cv (.row m ncs))):=by
 intro a w ⟨L,r⟩;have f:=r.ev hy;generalize hvy:a.eval y=vy at f;have hx:a.eval (.const (.slice none 0 0)) = .slice none 0 0:=rfl;have q1:w.ownsRow w.heap.size e inf.size (.slice none 0 0) 0 []:=World.ownsRow_nil w _ _ _;have go:∀ (ad:Addr) (c':Nat) (news:List Value),vy = .slice (some ad) m c'->news.length=ncs.length->(∀ i (h:i<ncs.length),Den w (Still X S.rows L w).shut (news.getD i undef) ncs[i])->(∀ j u,news[j]?=some u->w.cell? (ad.add j)=some u) ->
  o.wp P a w (fun a' w'=>Rel X (put S o.dst (.cv (.row m ncs))) a' w') (fun _ _ _=>False):=by
  intro ad c' news hvy' hnl hnd hcell;have g:∀ u∈news,u.oneCell'=true:=by
   have:=mH (vs:=news.toArray) (cs:=ncs) (by simpa using hnl) (fun i hi=>by simpa [Q9,Q6] using hnd i hi) p;simpa using this
  obtain ⟨v',w',g1,g2,g3,g4⟩:=run_append_own (P:=P) w w.heap.size t o.type e inf z inf.size inf.bytes hu hi hz rfl rfl hzs hsz (.slice none 0 0) 0 [] q1 ad m c' news (by rw [hnl,hm]) hcell g Q2 (by simpa using hb) (Qn _);have hbw:=qW (w':=w') g3;rw [QS,List.nil_append] at g2;refine cW (jm ho hc ha ht (by rw [hx,hvy,hvy'];exact g1)) ⟨L,(r.wide hbw).put hd (.cv ?_)⟩;exact qS g2 hnl (fun i hi=>(hnd i hi).mono (Fo.jG fun b h=>jq r hbw b (.inl h)) (fun b h=>hbw.block b (Still.lt r.below h))) (fun b hb'=>jq r hbw b (.inr (g2.lt b hb')))
 cases f with
 | cv hden =>
  cases hden with
  | nil b c' hb' =>
   cases b with
   | none =>
    have:c'=0:=hb' rfl;subst this;have g1:=run_append_owned_none (P:=P) w w.heap.size t o.type e inf inf.size hu hi (.slice none 0 0) 0 [] q1;exact cW (jm ho hc ha ht (by rw [hx,hvy];exact g1)) ⟨L,r.put hd (.cv (.nil _ _ (fun _=>rfl)))⟩
   | some ad=>exact go ad c' [] rfl rfl (fun i h=>by simp at h) (fun j u h=>by simp at h)
  | row ad n c' cs vs hs hF hn hcc hdd =>
   refine go ad c' ((List.range ncs.length).map vs) rfl Q3 (fun i hi=>?_) (fun j u hj=>?_)
   ·simpa [Q6,hi] using hdd i hi
   simp only [VJ,Qr] at hj;obtain ⟨i,k,d⟩:=hj;obtain ⟨h3,rfl⟩:=Qx.1 k;simp at h3 d;subst d;exact hcc j h3
theorem Hr (k:Nat) (e:TypeId) (sz:Nat) (ho:o.op = .move (.const (.slice none 0 0))∨o.op = .assign (.const (.slice none 0 0))) (hk:S.rows k=none) (hkl:k≠cd) (hd:dm X o.dst):cf P X o S (put (setRow S k ⟨e,sz,0,[]⟩) o.dst (.own k)):=by
 intro a w ⟨L,r⟩;have jg:∀ j q,S.rows j=some q->(setRow S k ⟨e,sz,0,[]⟩).rows j=some q/\bh L k (.slice none 0 0) j=L j:=by
  intro j q h;have:j≠k:=fun e=>by subst e;rw [hk] at h;cases h
  exact ⟨by simp only [setRow];rw [Qc this];exact h,by simp only [bh];rw [Qc this]⟩
 have only:∀ j q,(setRow S k ⟨e,sz,0,[]⟩).rows j=some q->S.rows j=none->j=k/\q=⟨e,sz,0,[]⟩:=by
  intro j q h d;simp only [setRow] at h
  by_cases c:j=k
  ·rw [Qk c] at h;cases h;exact ⟨c,rfl⟩
  rw [Qc c,d] at h;cases h
 have r2:cM X (setRow S k ⟨e,sz,0,[]⟩) (bh L k (.slice none 0 0)) a w:=by
  refine r.grow (Below.refl _ _) rfl jg (fun j q h d=>?_) (fun j j' q q' b h h' d h0' _ _=>by rw [(only j q h d).1,(only j' q' h' h0').1]) (fun h=>by simp only [setRow];rw [Qc (Yn hkl)];exact h);obtain ⟨rfl,rfl⟩:=only j q h d;refine ⟨⟨[],?_,rfl,fun i hi=>by simp at hi⟩,fun b hb=>by simp [bh,Value.ownBlock] at hb⟩;simp only [bh,Qk];exact World.ownsRow_nil _ _ _ _
 refine cW (v:=.slice none 0 0) (w':=w) ?_ ⟨_,r2.put hd ?_⟩
 ·rcases ho with ho | ho<;>simp [execOp,ho,Act.eval]
 have e1:(.slice none 0 0:Value)=bh L k (.slice none 0 0) k:=by simp [bh]
 conv=>arg 5;rw [e1]
 exact .own (r:=⟨e,sz,0,[]⟩) (by simp [setRow])
theorem qc (r:cM X S L a w) {t e:TypeId} {inf:TypeInfo} {z:Value} {n:Nat} {ps:Array (Nat×Operand)} {qs:List (Nat×List CV)} {cs:List CV} (ho:o.op = .buildSlice t n ps) (hu:P.underlying t=some (.slice e)) (hi:P.info? e=some inf) (hz:inf.zero=some z) (hsz:0<inf.size) (hlim:n*inf.size<=16777216)
 (hq:parts S ps.toList=some qs) (hf:iC (fun i=>some (i*inf.size,inf.size)) ((madeCells z.cells (n*inf.size)).toList.map ij) qs=some cs) :
 ∃ cells:Array Value,(execOp a.eval o).run P w = .ok (.value (.slice (some ⟨w.heap.size,0,none⟩) n n)) (w.alloc (.cells cells e))/\cells.size=cs.length/\cs.length=n*inf.size/\∀ i (h:i<cs.length),Den w (Still X S.rows L w) (cells.getD i undef) cs[i]:=by
 obtain ⟨g1,g2⟩:=rD r _ _ hq;have z1:(madeCells z.cells (n*inf.size)).size=((madeCells z.cells (n*inf.size)).toList.map ij).length:=Q3;have z2:∀ i (h:i<((madeCells z.cells (n*inf.size)).toList.map ij).length),Den w (Still X S.rows L w) ((madeCells z.cells (n*inf.size)).getD i undef) ((madeCells z.cells (n*inf.size)).toList.map ij)[i]:=by
  intro i h;have h':i<(madeCells z.cells (n*inf.size)).size:=by simpa using h
  have e1:(madeCells z.cells (n*inf.size)).getD i undef=(madeCells z.cells (n*inf.size))[i]:=by rw [Q9,Qg h'];rfl
  rw [e1];simp only [Qz];exact jT _ _ _
 obtain ⟨cells,k1,k2,k3⟩:=yG (w:=w) (F:=Still X S.rows L w) (fun i=>some (i*inf.size,inf.size)) (ps.toList.map fun x=>(x.1,a.eval x.2)) qs _ _ cs (by simpa using g1) (fun j h h'=>by
  have:=g2 j h (by simpa using h');simpa using this) z1 z2 hf
 have f:cs.length=n*inf.size:=by
  have:∀ (pl:Nat->Option (Nat×Nat)) (qs:List (Nat×List CV)) (c c':List CV),iC pl c qs=some c'->c'.length=c.length:=by
   intro pl qs
   induction qs with
   | nil=>intro c c' h;simp only [iC,Qj] at h;rw [h]
   | cons q qs ih =>
    obtain ⟨i,vs⟩:=q;intro c c' h;simp only [iC] at h;split at h
    ·cases h
    split at h
    ·cases h
    rename_i hc;have:=ih _ _ h;rw [this];simp;omega
  rw [this _ _ _ _ hf];simp [size_madeCells]
 refine ⟨cells,?_,k2,f,k3⟩;have b:Instr.fill (fun i=>some (i*inf.size,inf.size)) (madeCells z.cells (n*inf.size)) (ps.map fun (x:Nat×Operand)=>(x.1,a.eval x.2)).toList=some cells:=by simpa using k1
 have hl:¬ (16777216<n*inf.size):=Q2
 by_cases h0:n*inf.size=0
 ·have hn:n=0:=by
   rcases X0 n with c | c
   ·exact c
   exact absurd h0 (Nat.ne_of_gt (Nat.mul_pos c hsz))
  subst hn;have e1:madeCells z.cells (0*inf.size) = #[]:=by simp [madeCells]
  rw [e1] at b;simp [execOp,ho,Instr.buildSlice,run_underlying hu,sizeOf,typeInfo,hi,newRow,Array.range_zero'] at b ⊢;simp [b]
 have d:Instr.fill (fun i=>some (i*inf.size,inf.size)) (Array.map (fun x=>z.cells[x % z.cells.size]!) (Array.range (n*inf.size))) (ps.map fun (x:Nat×Operand)=>(x.1,a.eval x.2)).toList=some cells:=b;simp [execOp,ho,Instr.buildSlice,run_underlying hu,sizeOf,typeInfo,hi,newRow,zeroValue,hz,hl,h0] at d ⊢;simp [d]
theorem KB {t e:TypeId} {inf:TypeInfo} {z:Value} {n:Nat} {ps:Array (Nat×Operand)} {qs:List (Nat×List CV)} {cs:List CV} (ho:o.op = .buildSlice t n ps) (hu:P.underlying t=some (.slice e)) (hi:P.info? e=some inf) (hz:inf.zero=some z) (hsz:0<inf.size) (hlim:n*inf.size<=16777216) (hq:parts S ps.toList=some qs)
 (hf:iC (fun i=>some (i*inf.size,inf.size)) ((madeCells z.cells (n*inf.size)).toList.map ij) qs=some cs) (hd:dm X o.dst) (hsh:cs.all gj=true):cf P X o S (put S o.dst (.cv (.row n cs))):=by
 intro a w ⟨L,r⟩;obtain ⟨cells,h1,h2,h3,h4⟩:=qc r ho hu hi hz hsz hlim hq hf;have hb:Below w.heap.size w (w.alloc (.cells cells e)):=⟨rfl,rfl,rfl,Q3,fun k hk=>Below.heap_alloc _ _ _ Q2⟩;refine cW h1 ⟨L,(r.wide hb).put hd (.cv (.row _ _ _ _ (fun i=>cells.getD i undef) rfl (jq r hb _ (.inr ⟨Qn _,Q3⟩)) (Qn _) (fun i hi=>?_) (fun i hi=>?_)))⟩
 ·rw [add_plain,QS];have c:i<cells.size:=Q2;rw [cell_of_row (w.alloc (.cells cells e)) w.heap.size i cells e (0,0) (heap_alloc_new w _)];simp [Q9,Qg c]
 exact ((h4 i hi).shut (by rw [QA] at hsh;exact hsh _ (Qi hi))).mono (Fo.jG fun b h=>jq r hb b (.inl h)) (fun b h=>hb.block b (Still.lt r.below h))
theorem sD {t e:TypeId} {inf:TypeInfo} {z:Value} {n:Nat} {ps:Array (Nat×Operand)} {qs:List (Nat×List CV)} {cs:List CV} (k:Nat) (ho:o.op = .buildSlice t n ps) (hu:P.underlying t=some (.slice e)) (hi:P.info? e=some inf) (hz:inf.zero=some z) (hsz:0<inf.size) (hlim:n*inf.size<=16777216) (hm:n<=maxLen) (hq:parts S ps.toList=some qs)
 (hf:iC (fun i=>some (i*inf.size,inf.size)) ((madeCells z.cells (n*inf.size)).toList.map ij) qs=some cs) (hk:S.rows k=none) (hkl:k≠cd) (hd:dm X o.dst) (hsh:(Nat.ble opened k||cs.all gj)=true):cf P X o S (put (setRow S k ⟨e,inf.size,n,cs⟩) o.dst (.own k)):=by
 intro a w ⟨L,r⟩;obtain ⟨cells,h1,h2,h3,h4⟩:=qc r ho hu hi hz hsz hlim hq hf;refine cW h1 ⟨_,(r.newRow hk hkl cells e inf.size n n cs h3 Q2 (Qn _) hm (fun i hi=>(h4 i hi).at (AP hsh hi))).put hd ?_⟩;have e1:(.slice (some ⟨w.heap.size,0,none⟩) n n:Value)=bh L k (.slice (some ⟨w.heap.size,0,none⟩) n n) k:=by simp [bh]
 conv=>arg 5;rw [e1]
 exact .own (r:=⟨e,inf.size,n,cs⟩) (by simp [setRow])
end
section
variable {σ:Type} (δ:Nat->σ->σ)
def ik (D:Nat->Bool):List Nat->σ->σ
 | [],s=>s
 | i :: l,s=>ik D l (if D i=true then δ i s else s)
variable {δ}
theorem rz {D:Nat->Bool} {j:Nat}:∀ (l:List Nat) (s:σ),(∀ k∈l,D k=true->∀ s,δ k (δ j s)=δ j (δ k s))->ik δ D l (δ j s)=δ j (ik δ D l s)
 | [],s,_=>rfl
 | i :: l,s,h=>by
  simp only [ik]
  by_cases c:D i=true
  ·rw [Qk c,Qk c,h i Q3 c];exact rz l _ (fun k hk=>h k (by simp [hk]))
  rw [Qc c,Qc c];exact rz l _ (fun k hk=>h k (by simp [hk]))
theorem xu {D:Nat->Bool} {Ok:σ->Prop}:∀ (l:List Nat) (s:σ),l.Pairwise (fun j k=>D j=false->D k=true->∀ s,δ k (δ j s)=δ j (δ k s))->(∀ j∈l,D j=false->∀ s,Ok (δ j s)->Ok s)->Ok (ik δ (fun _=>true) l s)->Ok (ik δ D l s)
 | [],s,_,_,h=>h
 | j :: l,s,hp,hs,h=>by
  rw [Qv] at hp;simp only [ik,Xh] at h ⊢;have ih:=xu (D:=D) l (δ j s) hp.2 (fun k hk=>hs k (by simp [hk])) h
  by_cases c:D j=true
  ·rw [Qk c];exact ih
  rw [Qc c];have c':D j=false:=by simpa using c
  rw [rz l s (fun k hk hD=>hp.1 k hk c' hD)] at ih;exact hs j Q3 c' _ ih
theorem zG {D:Nat->Bool} {Ok:σ->Prop}:∀ (l:List Nat) (s:σ),(∀ k∈l,D k=true->∀ s,Ok s->Ok (δ k s))->Ok s->Ok (ik δ D l s)
 | [],s,_,h=>h
 | k :: l,s,hs,h=>by
  simp only [ik];refine zG l _ (fun j hj=>hs j (by simp [hj])) ?_
  by_cases c:D k=true
  ·rw [Qk c];exact hs k Q3 c _ h
  rw [Qc c];exact h
theorem qf {D:Nat->Bool} (l m:List Nat) (s:σ):ik δ D (l++m) s=ik δ D m (ik δ D l s):=by
 induction l generalizing s with
 | nil=>rfl
 | cons i l ih=>simp only [List.cons_append,ik];exact ih _
theorem oA {D D':Nat->Bool}:∀ (l:List Nat) (s:σ),(∀ k∈l,D k=D' k)->ik δ D l s=ik δ D' l s
 | [],s,_=>rfl
 | k :: l,s,h=>by
  simp only [ik];rw [h k Q3];exact oA l _ (fun j hj=>h j (by simp [hj]))
end
section
variable {σ:Type} {δ:Nat->σ->σ} {Ok:Nat->σ->Prop} {D:Nat->Bool} {n:Nat}
theorem Dk {n i:Nat} (h:i<n):List.range n=List.range i++i :: (List.range' (i+1) (n-i-1)):=by
 have e:n=i+(1+(n-i-1)):=Q2
 conv=>lhs;rw [e,List.range_add]
 congr 1;rw [Yz 1,List.range_succ_eq_map];simp only [QV,Nat.add_zero,YA];congr 1;rw [List.range'_eq_map_range];apply WA;intro x _;simp;omega
theorem FV {i:Nat} (hi:i<n) (hD:D i=false) (lF:Nat->Nat->Bool) (s:σ) (hcomm:∀ j k,j<k->k<n->lF j k=false->∀ s,δ k (δ j s)=δ j (δ k s)) (hst:∀ j k,j<n->k<n->j≠k->lF (min j k) (max j k)=false->∀ s,(Ok j (δ k s)↔Ok j s))
 (hbi:∀ j,j<i->lF j i=true->D j=true) (hbj:∀ j k,j<k->k<n->D k=true->lF j k=true->D j=true) (ht:Ok i (ik δ (fun _=>true) (List.range i) s)) :
 Ok i (ik δ D (List.range n) s)/\δ i (ik δ D (List.range n) s)=ik δ (fun k=>if k=i then true else D k) (List.range n) s:=by
 have e:Ok i (ik δ D (List.range i) s):=by
  refine xu _ _ ?_ ?_ ht
  ·refine Xg (R:=fun a b=>a<b) ?_ List.pairwise_lt_range;intro j k hj hk hlt h0 g;have c:k<i:=by simpa using hk
   refine hcomm j k hlt Q2 ?_;cases hc:lF j k with
   | false=>rfl
   | true =>
    have:=hbj j k hlt Q2 g hc;rw [h0] at this;cases this
  intro j hj h0 s' h;have f:j<i:=by simpa using hj
  refine (hst i j hi Q2 Q2 ?_ s').1 h;rw [Nat.min_eq_right Q2,Nat.max_eq_left Q2];cases hc:lF j i with
  | false=>rfl
  | true =>
   have:=hbi j f hc;rw [h0] at this;cases this
 have d:∀ k∈List.range' (i+1) (n-i-1),D k=true->lF i k=false/\i<k/\k<n:=by
  intro k hk g;have c:i<k/\k<n:=by simp at hk;omega
  refine ⟨?_,c⟩;cases hc:lF i k with
  | false=>rfl
  | true =>
   have:=hbj i k c.1 c.2 g hc;rw [hD] at this;cases this
 rw [Dk hi,qf,qf];simp only [ik,hD,Xh,Xr,Vo];have e1:ik δ (fun k=>if k=i then true else D k) (List.range i) s=ik δ D (List.range i) s:=oA _ _ (fun k hk=>by
  have:k≠i:=by simp at hk;omega
  rw [Qc this])
 have e2:∀ t,ik δ (fun k=>if k=i then true else D k) (List.range' (i+1) (n-i-1)) t=ik δ D (List.range' (i+1) (n-i-1)) t:=fun t=>oA _ _ (fun k hk=>by
  have:k≠i:=by simp at hk;omega
  rw [Qc this])
 rw [e1,e2];refine ⟨zG _ _ (fun k hk g s' h=>?_) e,(rz _ _ (fun k hk g s'=>?_)).symm⟩
 ·obtain ⟨c1,c2,c3⟩:=d k hk g;exact (hst i k hi c3 Q2 (by rw [QO Q2,Nat.max_eq_right Q2];exact c1) s').2 h
 obtain ⟨c1,c2,c3⟩:=d k hk g;exact hcomm i k c2 c3 c1 s'
end
theorem An {i:Nat} {p q:Nat->Bool}:∀ (l:List Nat),i∈l->p i=false->q i=true->(∀ j,p j=true->q j=true)->l.countP p<l.countP q
 | [],h,_,_,_=>by simp at h
 | x :: l,h,h1,h2,h3=>by
  have hle:l.countP p<=l.countP q:=List.countP_mono_left (fun x _ hx=>h3 x hx);simp only [List.countP_cons]
  by_cases c:x=i
  ·subst c;simp only [h1,h2,Xh];simp;omega
  have hm:i∈l:=by
   rcases Qo.1 h with e | e
   ·exact absurd e.symm c
   exact e
  have:=An l hm h1 h2 h3;cases hp:p x with
  | false=>simp;split<;>omega
  | true=>simp [h3 x hp];exact this
theorem zF {σ:Type} {δ:Nat->σ->σ} {D:Nat->Bool}:∀ (l:List Nat) (s:σ),(∀ k∈l,D k=false)->ik δ D l s=s
 | [],s,_=>rfl
 | k :: l,s,h=>by
  simp only [ik,h k Q3];exact zF l s (fun j hj=>h j (by simp [hj]))
section
variable {P:Program} {X:Ctx}
theorem IY {ops:Array Oper} {i:Nat} {a:Act} {w:World} {K K':Act->World->Prop} {Q:Exit->Act->World->Prop} (h:∀ a w,K a w->K' a w) (hh:wpOp P ops (fun _ _ _=>False) i K a w):wpOp P ops Q i K' a w:=by
 unfold wpOp at *
 split at hh
 ·exact h _ _ hh
 rename_i o ho;split at hh
 ·rename_i hw;rw [Qk hw];rcases hh with hh | ⟨_,_,_,hf⟩
  ·exact .inl (Oper.rm h (fun _ _ _ h=>h.elim) hh)
  exact hf.elim
 rename_i hw;rw [Qc hw];exact h _ _ hh
theorem Jb {id:Nat} {ops:Array Oper} {S0:St} {Q:gM} (hm:P.follows .mixedOrders=true) (δ:Nat->St->St) (Ok:Nat->St->Prop) (lF:Nat->Nat->Bool) (before:Nat->List Nat)
 (hfw:∀ j o,ops[j]?=some o->∀ e∈o.after,Region.binds .any e=true->e.on<j)
 (hanc:∀ j o,ops[j]?=some o->∀ x∈before j,∃ e∈o.after,Region.binds .any e=true/\(e.on=x∨x∈before e.on))
 (hord:∀ j k,j<k->k<ops.size->lF j k=true->j∈before k)
 (hcomm:∀ j k,j<k->k<ops.size->lF j k=false->∀ s,δ k (δ j s)=δ j (δ k s))
 (hst:∀ j k,j<ops.size->k<ops.size->j≠k->lF (min j k) (max j k)=false->∀ s,(Ok j (δ k s)↔Ok j s))
 (hop:∀ i,i<ops.size->∀ S,Ok i S->∀ a w,Rel X S a w->wpOp P ops (fun _ _ _=>False) i (fun a' w'=>Rel X (δ i S) a' w') a w)
 (ht:∀ i,i<ops.size->Ok i (ik δ (fun _=>true) (List.range i) S0))
 (hQ:Q .normal (ik δ (fun _=>true) (List.range ops.size) S0)):kp P X (.region id ops true) S0 Q:=by
 have t:∀ (fuel:Nat) (listed:Array Bool) (a:Act) (w:World),listed.size=ops.size->(List.range ops.size).countP (fun i=>!listed.getD i true)<=fuel ->
  (∀ j o,ops[j]?=some o->listed.getD j false=true->∀ e∈o.after,Region.binds .any e=true->listed.getD e.on false=true) ->
  Rel X (ik δ (fun k=>listed.getD k false) (List.range ops.size) S0) a w->wpAny P .any ops (Cl X Q) fuel listed a w:=by
  intro fuel;have f:∀ (listed:Array Bool),listed.size=ops.size->∀ j,j<ops.size->listed.getD j true=listed.getD j false:=by
   intro listed hs j hj;have:j<listed.size:=Q2;simp [Q9,Qg this]
  have g:∀ (listed:Array Bool) (a:Act) (w:World),listed.size=ops.size->Region.ready .any ops listed=[]->Rel X (ik δ (fun k=>listed.getD k false) (List.range ops.size) S0) a w->Cl X Q .normal a w:=by
   intro listed a w hs hr hrel;have p:∀ j,j<ops.size->listed.getD j false=true:=by
    intro j
    induction j using Nat.strongRecOn with
    | _ j ih =>
     intro hj;cases hc:listed.getD j false with
     | true=>rfl
     | false =>
      have:j∈Region.ready .any ops listed:=by
       rw [mem_ready];refine ⟨by rw [f listed hs j hj];exact hc,ops[j],Qg hj,fun e he hb=>?_⟩;have:=hfw j ops[j] (Qg hj) e he hb;exact ih e.on this Q2
      rw [hr] at this;cases this
   have e1:ik δ (fun k=>listed.getD k false) (List.range ops.size) S0=ik δ (fun _=>true) (List.range ops.size) S0:=oA _ _ (fun k hk=>p k (by simpa using hk));rw [e1] at hrel;exact ⟨_,hQ,hrel⟩
  induction fuel with
  | zero =>
   intro listed a w hs hc hdc hrel;have hr:Region.ready .any ops listed=[]:=by
    cases hr:Region.ready .any ops listed with
    | nil=>rfl
    | cons i l =>
     have hi:i∈Region.ready .any ops listed:=by rw [hr];simp
     obtain ⟨h1,o,h2,_⟩:=mem_ready.1 hi;have b:i<ops.size:=(QW.1 h2).1;have:0<(List.range ops.size).countP (fun i=>!listed.getD i true):=List.countP_pos_iff.2 ⟨i,by simpa using b,by simp [h1]⟩;omega
   exact ⟨hr,g listed a w hs hr hrel⟩
  | succ fuel ih =>
   intro listed a w hs hc hdc hrel;refine ⟨fun hr=>g listed a w hs hr hrel,fun i hi=>?_⟩;obtain ⟨h1,o,h2,h3⟩:=mem_ready.1 hi;have b:i<ops.size:=(QW.1 h2).1;have q:listed.getD i false=false:=by rw [<- f listed hs i b];exact h1
   have n:∀ k,k<ops.size->(listed.getD k false=true∨k=i)->∀ x∈before k,listed.getD x false=true:=by
    intro k
    induction k using Nat.strongRecOn with
    | _ k ihk =>
     intro hk hd x hx;have d:=Qg hk;obtain ⟨e,he,hb,m⟩:=hanc k ops[k] d x hx;have hl:listed.getD e.on false=true:=by
      rcases hd with hd | rfl
      ·exact hdc k ops[k] d hd e he hb
      rw [d] at h2;cases h2;exact h3 e he hb
     rcases m with rfl | m
     ·exact hl
     exact ihk e.on (hfw k ops[k] d e he hb) (by have:=hfw k ops[k] d e he hb;omega) (.inl hl) x m
   obtain ⟨g1,g2⟩:=FV (δ:=δ) (Ok:=Ok) (D:=fun k=>listed.getD k false) b q lF S0 hcomm hst
    (fun j hj hc=>n i b (.inr rfl) j (hord j i hj b hc)) (fun j k hj hk hD hc=>n k hk (.inl hD) j (hord j k hj hk hc)) (ht i b)
   refine IY (fun a' w' hrel'=>?_) (hop i b _ g1 a w hrel);have h:∀ k,(listed.setIfInBounds i true).getD k false=if k=i then true else listed.getD k false:=by
    intro k
    by_cases c:k=i
    ·subst c;rw [Qk rfl];simp [Q9,show k<listed.size by omega]
    rw [Qc c];simp only [Q9,VH];rw [Qc (fun e=>c e.symm)]
   refine ih _ a' w' (by simpa using hs) ?_ ?_ ?_
   ·have u:(List.range ops.size).countP (fun k=>!(listed.setIfInBounds i true).getD k true)<(List.range ops.size).countP (fun k=>!listed.getD k true):=by
     refine An _ (i:=i) (by simpa using b) ?_ (by simp [h1]) (fun j hj=>?_)
     ·simp [Q9,show i<listed.size by omega]
     by_cases c:j=i
     ·subst c;simp [Q9,show j<listed.size by omega] at hj
     rw [getD_set_ne true (Yn c)] at hj;exact hj
    omega
   ·intro j o' hj' hd e he hb;rw [h] at hd ⊢
    by_cases c:j=i
    ·subst c;rw [h2] at hj';cases hj';have:=h3 e he hb;split<;>simp_all
    rw [Qc c] at hd;have:=hdc j o' hj' hd e he hb;split<;>simp_all
   rw [g2] at hrel';have e1:(fun k=>(listed.setIfInBounds i true).getD k false)=(fun k=>if k=i then true else listed.getD k false):=funext h;rw [e1];exact hrel'
 intro a w ⟨L,r⟩;refine wp_region_any hm (t ops.size _ a _ Q3 ?_ ?_ ?_)
 ·exact Qu List.countP_le_length Q3
 ·intro j o h1 h2;have:j<ops.size:=(QW.1 h1).1;simp [Q9,Yc,this] at h2
 rw [zF _ _ (fun k hk=>by
  have:k<ops.size:=by simpa using hk
  simp [Q9,Yc,this])]
 exact ⟨L,r.wide ⟨rfl,rfl,rfl,Qn _,fun _ _=>rfl⟩⟩
end
end Go.Proofs.YtfbgaddecbiimaaGreatDoor.V
end
section
set_option linter.unusedVariables false
set_option linter.unusedSimpArgs false
namespace Go.Proofs.YtfbgaddecbiimaaGreatDoorW.PrintWords
open Go.RowKit
def rd (xs:List Int) (i:Int):Int:=xs.getD i.toNat 0
def bt (s:ByteArray) (i:Int):Int:=if h:i.toNat<s.size then ((s[i.toNat]'h).toNat:Int) else 0
theorem bt_at (s:ByteArray) (i:Int):∀ h:i.toNat<s.size,((s[i.toNat]'h).toNat:Int)=bt s i:=fun h=>by simp [bt,h]
def JE (k:IntKind) (xs:List Int):List Value:=xs.map fun x=>.int k x
theorem vX {w W:World} (h:Below w.heap.size w W) (o:Obj):Below w.heap.size w (W.alloc o):=h.alloc h.size o
theorem za {w b:World} (h:Below w.heap.size w b) {a:Addr} {v:Value} (hc:w.cell? a=some v):b.cell? a=some v:=(h.cell (World.block_lt_of_cell? w a hc)).trans hc
theorem add_plain (g j:Nat):(⟨g,0,none⟩:Addr).add j=⟨g,j,none⟩:=by unfold Addr.add;split<;>simp_all
theorem Lu {w:World} {base:Nat} {e:TypeId} {size n:Nat} {v:Value} {xs:List Value} (h:w.ownsRow base e size v n xs) (k:Nat) (hk:v.ownBlock=some k):base<=k:=by
 rcases h.2 with ⟨rfl,_⟩ | ⟨g,cap,cur,rfl,hb,_⟩
 ·simp [Value.ownBlock] at hk
 have:g=k:=by simpa [Value.ownBlock] using hk
 omega
theorem own_lt {w:World} {base:Nat} {e:TypeId} {size n:Nat} {v:Value} {xs:List Value} (h:w.ownsRow base e size v n xs) (k:Nat) (hk:v.ownBlock=some k):k<w.heap.size:=by
 rcases h.2 with ⟨rfl,_⟩ | ⟨g,cap,cur,rfl,hb,hh,_⟩
 ·simp [Value.ownBlock] at hk
 have:g=k:=by simpa [Value.ownBlock] using hk
 subst this;exact (Array.getElem?_eq_some_iff.1 hh).1
theorem zX {w:World} {base n:Nat} {e:TypeId} {size:Nat} {v:Value} {xs:List Value} (h:w.ownsRow base e size v n xs):∃ A c,v = .slice A n c:=by
 rcases h.2 with ⟨rfl,rfl⟩ | ⟨g,cap,cur,rfl,_⟩
 ·exact ⟨none,0,rfl⟩
 exact ⟨_,cap,rfl⟩
theorem Gp {P:Program} {w:World} {base n:Nat} {e' src dst e:TypeId} {v:Value} {xs:List Int} (hs:P.underlying src=some (.slice e)) (he:P.underlying e=some (.int .u8)) (hd:P.underlying dst=some .string)
 (h:w.ownsRow base e' 1 v n (JE .u8 xs)):(convert src dst v).run P w = .ok (.string (strOfNums xs)) w:=by
 have hl:xs.length=n:=by have:=h.1;simp [JE] at this;exact this
 rcases h.2 with ⟨rfl,rfl⟩ | ⟨g,cap,cur,rfl,_⟩
 ·obtain rfl:xs=[]:=List.eq_nil_of_length_eq_zero hl;exact run_convert_bytes_nil w src e hs he 0 0 dst hd
 refine run_convert_bytes_arg w src e hs he g 0 n cap xs hl (fun i hi=>?_) dst hd;have hc:=h.cells (g:=g) rfl i (.int .u8 (xs.getD i 0)) (by simp [JE,List.getElem?_eq_getElem (show i<xs.length by omega),List.getD_eq_getElem?_getD]);have ha:(⟨g,0,none⟩:Addr).add i=⟨g,0+i,none⟩:=by unfold Addr.add;split<;>simp_all
 rwa [ha] at hc
def yW {α:Type} (R:α->List Value->Prop) (size:Nat) (ps:List α) (cs:List Value):Prop :=
 cs.length=ps.length*size/\∀ j p,ps[j]?=some p->R p ((cs.drop (j*size)).take size)
theorem yW.s9 {α:Type} {R R':α->List Value->Prop} {size:Nat} {ps:List α} {cs:List Value} (h:yW R size ps cs) (hR:∀ p c,R p c->R' p c):yW R' size ps cs:=⟨h.1,fun j p hj=>hR _ _ (h.2 j p hj)⟩
def l9 {α:Type} (R:α->List Value->Prop) (size:Nat) (w:World) (A:Option Addr) (n:Nat) (ps:List α):Prop :=
 ps.length=n/\n<=9223372036854775807/\(0<n->∃ ad,A=some ad/\∀ j p,ps[j]?=some p->∃ c,c.length=size/\R p c/\∀ i u,c[i]?=some u->w.cell? (ad.add (j*size+i))=some u)
theorem l9.s9 {α:Type} {R R':α->List Value->Prop} {size:Nat} {w a:World} {A:Option Addr} {n:Nat} {ps:List α} (h:l9 R size w A n ps) (hb:Below w.heap.size w a) (hR:∀ p c,R p c->R' p c):l9 R' size a A n ps :=
 ⟨h.1,h.2.1,fun hn=>by
  obtain ⟨ad,e,hc⟩:=h.2.2 hn;refine ⟨ad,e,fun j p hj=>?_⟩;obtain ⟨c,hs,hr,hcell⟩:=hc j p hj;exact ⟨c,hs,hR _ _ hr,fun i u hu=>za hb (hcell i u hu)⟩⟩
theorem zg {α:Type} {R:α->List Value->Prop} {w:World} {base n size:Nat} {e:TypeId} {v:Value} {ps:List α} {cs:List Value} (h:w.ownsRow base e size v n cs) (hR:yW R size ps cs) (hn:ps.length=n) :
 ∃ A c,v = .slice A n c/\l9 R size w A n ps:=by
 rcases Nat.eq_zero_or_pos n with h0 | h0
 ·rcases h.2 with ⟨rfl,rfl⟩ | ⟨g,a,cur,rfl,_⟩
  ·exact ⟨none,0,rfl,hn,by omega,fun hp=>absurd hp (by omega)⟩
  exact ⟨_,a,rfl,hn,by omega,fun hp=>absurd hp (by omega)⟩
 obtain ⟨g,a,rfl,_,_⟩:=h.form h0;have hm:n<=9223372036854775807:=by
  rcases h.2 with ⟨_,h1⟩ | ⟨g',cap',cur,he,_,_,h1,h2,_⟩
  ·omega
  simp only [maxLen] at h2;omega
 refine ⟨_,a,rfl,hn,hm,fun _=>⟨_,rfl,fun j p hj=>⟨(cs.drop (j*size)).take size,?_,hR.2 j p hj,fun i u hu=>?_⟩⟩⟩
 ·have b:=(List.getElem?_eq_some_iff.1 hj).1;have h1:j*size+size<=cs.length:=by rw [hR.1,<- Nat.succ_mul];exact Nat.mul_le_mul_right _ b
  rw [List.length_take,List.length_drop];omega
 refine h.cells (g:=g) rfl _ u ?_;rw [List.getElem?_take] at hu;split at hu
 ·rw [List.getElem?_drop] at hu;exact hu
 cases hu
def Ev {α:Type} (g:Nat->Option α) (r:α):Prop:=∃ K,∀ k,K<=k->g k=some r
theorem Ev.rounds {α:Type} {g:Nat->Option α} {r:α} (h:Ev g r):∃ k,g k=some r:=by
 obtain ⟨K,h⟩:=h;exact ⟨K,h K (Nat.le_refl _)⟩
theorem Ev.bind {α β:Type} {g:Nat->Option α} {f:Nat->α->Option β} {a:α} {r:β} (h:Ev g a) (k:Ev (fun n=>f n a) r):Ev (fun n=>(g n).bind (f n)) r:=by
 obtain ⟨K,h⟩:=h;obtain ⟨K',k⟩:=k;refine ⟨max K K',fun n hn=>?_⟩;have h1:=h n (by omega);have h2:=k n (by omega);simp only [h1,Option.bind_some];exact h2
theorem Ev.step {α:Type} {g f:Nat->Option α} {r:α} (h:∀ k,g (k+1)=f k) (k:Ev f r):Ev g r:=by
 obtain ⟨K,k⟩:=k;refine ⟨K+1,fun n hn=>?_⟩;obtain ⟨m,rfl⟩:∃ m,n=m+1:=⟨n-1,by omega⟩;rw [h];exact k m (by omega)
theorem Ev.congr {α:Type} {g f:Nat->Option α} {r:α} (h:∀ k,g k=f k) (k:Ev f r):Ev g r:=by
 obtain ⟨K,k⟩:=k;exact ⟨K,fun n hn=>(h n).trans (k n hn)⟩
theorem Gn {w:World} {base base':Nat} {e:TypeId} {size n:Nat} {v:Value} {xs:List Value} (h:w.ownsRow base e size v n xs) (hb:base'<=base):w.ownsRow base' e size v n xs:=by
 obtain ⟨h1,h2⟩:=h;refine ⟨h1,?_⟩;rcases h2 with h2 | ⟨g,cap,cur,rfl,hg,r⟩
 ·exact .inl h2
 exact .inr ⟨g,cap,cur,rfl,Nat.le_trans hb hg,r⟩
theorem own_le {w:World} {base n m c size:Nat} {e:TypeId} {A:Option Addr} {xs:List Value} (h:w.ownsRow base e size (.slice A m c) n xs):m<=c:=by
 rcases h.2 with ⟨he,_⟩ | ⟨g,cap,cur,he,_,_,hnc,_⟩
 ·injection he with _ h2 h3;omega
 injection he with _ h2 h3;omega
def tt {α:Type} (R:α->List Value->Prop) (e:TypeId) (size:Nat) (w:World) (base:Nat) (v:Value) (ps:List α):Prop :=
 ∃ inner,w.ownsRow base e size v ps.length inner/\yW R size ps inner
section
variable {α:Type} {R R':α->List Value->Prop} {e:TypeId} {size:Nat} {w w1:World} {base:Nat} {v:Value} {ps:List α}
theorem tt.s9 (h:tt R e size w base v ps) (hR:∀ p c,R p c->R' p c):tt R' e size w base v ps:=by
 obtain ⟨a,ho,hr⟩:=h;exact ⟨a,ho,hr.s9 hR⟩
theorem tt.reads (h:tt R e size w base v ps):∃ A c,v = .slice A ps.length c/\ps.length<=c/\l9 R size w A ps.length ps:=by
 obtain ⟨b,ho,hr⟩:=h;obtain ⟨A,c,rfl,a⟩:=zg ho hr rfl;exact ⟨A,c,rfl,own_le ho,a⟩
end
structure Kd (α:Type) where
 sz:Nat
 E:List Nat
 K:World->α->List Value->Prop
 M:World->Nat->(Nat->Prop)->α->List Value->Prop
 K_len:∀ {w x cs},K w x cs->cs.length=sz
 K_one:∀ {w x cs},K w x cs->∀ u∈cs,u.oneCell'=true
 K_below:∀ {w w1:World} {x cs},Below w.heap.size w w1->K w x cs->K w1 x cs
 K_of_M:∀ {w base ok x cs},M w base ok x cs->K w x cs
 M_mono:∀ {w base ok ok' x cs},(∀ k,ok k->ok' k)->M w base ok x cs->M w base ok' x cs
 M_bound:∀ {w:World} {base ok x cs},M w base ok x cs->M w base (fun k=>ok k/\base<=k/\k<w.heap.size/\∃ q,q∈E/\∃ cells,w.heap[k]?=some (.cells cells q (0,0))) x cs
 M_move:∀ {w w1:World} {base ok x cs},(∀ k,ok k->w1.heap[k]?=w.heap[k]?)->M w base ok x cs->M w1 base ok x cs
 M_lower:∀ {w base base' ok x cs},base'<=base->M w base ok x cs->M w base' ok x cs
theorem Ls {w a:World} {base:Nat} {e:TypeId} {size n:Nat} {v:Value} {xs:List Value} (h:w.ownsRow base e size v n xs) (hm:∀ k,v.ownBlock=some k->a.heap[k]?=w.heap[k]?):a.ownsRow base e size v n xs:=by
 obtain ⟨h1,h2⟩:=h;refine ⟨h1,?_⟩;rcases h2 with h2 | ⟨g,cap,cur,rfl,hg,hh,r⟩
 ·exact .inl h2
 exact .inr ⟨g,cap,cur,rfl,hg,(hm g (by simp [Value.ownBlock])).trans hh,r⟩
theorem JA {w:World} {base:Nat} {e:TypeId} {size n:Nat} {v:Value} {xs:List Value} (h:w.ownsRow base e size v n xs) (k:Nat) (hk:v.ownBlock=some k):∃ cells,w.heap[k]?=some (.cells cells e (0,0)):=by
 rcases h.2 with ⟨rfl,_⟩ | ⟨g,cap,cur,rfl,hg,hh,r⟩
 ·simp [Value.ownBlock] at hk
 have:g=k:=by simpa [Value.ownBlock] using hk
 subst this;exact ⟨cur,hh⟩
namespace Kd
def C {α:Type} (d:Kd α) (w:World) (A:Option Addr) (n:Nat) (xs:List α):Prop:=l9 (d.K w) d.sz w A n xs
def R {α:Type} (d:Kd α) (e:Nat) (w:World) (base:Nat) (ok:Nat->Prop) (v:Value) (xs:List α):Prop :=
 (∀ k,v.ownBlock=some k->ok k)/\tt (d.M w base (fun k=>ok k/\some k≠v.ownBlock)) e d.sz w base v xs
section
variable {α:Type} {d:Kd α} {e:Nat} {w w1:World} {base:Nat} {ok ok':Nat->Prop} {v:Value} {xs:List α}
theorem OY {A:Option Addr} {n:Nat} (h:d.C w A n xs) (hb:Below w.heap.size w w1):d.C w1 A n xs:=l9.s9 h hb (fun _ _ hp=>d.K_below hb hp)
theorem R_mono (h:d.R e w base ok v xs) (hok:∀ k,ok k->ok' k):d.R e w base ok' v xs:=⟨fun k hk=>hok k (h.1 k hk),h.2.s9 (fun _ _ hp=>d.M_mono (fun k hk=>⟨hok k hk.1,hk.2⟩) hp)⟩
theorem OV (h:d.R e w base ok v xs):d.R e w base (fun k=>ok k/\base<=k/\k<w.heap.size/\∃ q,q∈e :: d.E/\∃ cells,w.heap[k]?=some (.cells cells q (0,0))) v xs:=by
 obtain ⟨h0,a,ho,hr⟩:=h;refine ⟨fun k hk=>?_,a,ho,hr.s9 (fun _ _ hp=>d.M_mono (fun k hk=>?_) (d.M_bound hp))⟩
 ·obtain ⟨cells,hc⟩:=JA ho k hk;exact ⟨h0 k hk,Lu ho k hk,own_lt ho k hk,e,List.mem_cons_self,cells,hc⟩
 obtain ⟨⟨h1,h2⟩,h3,h4,q,hq,hc⟩:=hk;exact ⟨⟨h1,h3,h4,q,List.mem_cons_of_mem _ hq,hc⟩,h2⟩
theorem R_move (h:d.R e w base ok v xs) (hm:∀ k,ok k->w1.heap[k]?=w.heap[k]?):d.R e w1 base ok v xs:=by
 obtain ⟨h0,a,ho,hr⟩:=h;exact ⟨h0,a,Ls ho (fun k hk=>hm k (h0 k hk)),hr.s9 (fun _ _ hp=>d.M_move (fun k hk=>hm k hk.1) hp)⟩
theorem OU {base':Nat} (h:d.R e w base ok v xs) (hb:base'<=base):d.R e w base' ok v xs:=by
 obtain ⟨h0,a,ho,hr⟩:=h;exact ⟨h0,a,Gn ho hb,hr.s9 (fun _ _ hp=>d.M_lower hb hp)⟩
theorem OT (h:d.R e w base ok v xs):∃ A c,v = .slice A xs.length c/\xs.length<=c/\d.C w A xs.length xs:=by
 obtain ⟨A,c,he,hl,hr⟩:=tt.reads h.2;exact ⟨A,c,he,hl,hr.s9 (Below.refl _ _) (fun _ _ hp=>d.K_of_M hp)⟩
end
def scalar {α:Type} (enc:α->Value) (a:∀ x,(enc x).oneCell'=true):Kd α where
 sz:=1
 E:=[]
 K:=fun _ x cs=>cs=[enc x]
 M:=fun _ _ _ x cs=>cs=[enc x]
 K_len:=fun h=>by rw [h];rfl
 K_one:=fun h u hu=>by
  rw [h] at hu;rw [List.mem_singleton.1 hu];exact a _
 K_below:=fun _ h=>h
 K_of_M:=fun h=>h
 M_mono:=fun _ h=>h
 M_bound:=fun h=>h
 M_move:=fun _ h=>h
 M_lower:=fun _ h=>h
def int (k:IntKind):Kd Int:=scalar (Value.int k) (fun _=>rfl)
def bool:Kd Bool:=scalar Value.bool (fun _=>rfl)
def string:Kd ByteArray:=scalar Value.string (fun _=>rfl)
def slice {α:Type} (e:Nat) (d:Kd α):Kd (List α) where
 sz:=1
 E:=e :: d.E
 K:=fun w xs cs=>∃ A c,cs=[.slice A xs.length c]/\xs.length<=c/\d.C w A xs.length xs
 M:=fun w base ok xs cs=>∃ v,cs=[v]/\d.R e w base ok v xs
 K_len:=by
  rintro w x cs ⟨A,c,rfl,_⟩;rfl
 K_one:=by
  rintro w x cs ⟨A,c,rfl,_⟩ u hu;rw [List.mem_singleton.1 hu];rfl
 K_below:=by
  rintro w w1 x cs hb ⟨A,c,rfl,hl,hr⟩;exact ⟨A,c,rfl,hl,OY hr hb⟩
 K_of_M:=by
  rintro w base ok x cs ⟨v,rfl,h⟩;obtain ⟨A,c,rfl,hl,hr⟩:=OT h;exact ⟨A,c,rfl,hl,hr⟩
 M_mono:=by
  rintro w base ok ok' x cs hok ⟨v,rfl,h⟩;exact ⟨v,rfl,R_mono h hok⟩
 M_bound:=by
  rintro w base ok x cs ⟨v,rfl,h⟩;exact ⟨v,rfl,OV h⟩
 M_move:=by
  rintro w w1 base ok x cs hm ⟨v,rfl,h⟩;exact ⟨v,rfl,R_move h hm⟩
 M_lower:=by
  rintro w base base' ok x cs hb ⟨v,rfl,h⟩;exact ⟨v,rfl,OU h hb⟩
def pair {α β:Type} (a:Kd α) (b:Kd β):Kd (α×β) where
 sz:=a.sz+b.sz
 E:=a.E++b.E
 K:=fun w x cs=>∃ c0 c1,cs=c0++c1/\a.K w x.1 c0/\b.K w x.2 c1
 M:=fun w base ok x cs=>∃ c0 c1,cs=c0++c1/\a.M w base ok x.1 c0/\b.M w base ok x.2 c1
 K_len:=by
  rintro w x cs ⟨c0,c1,rfl,h0,h1⟩;rw [List.length_append,a.K_len h0,b.K_len h1]
 K_one:=by
  rintro w x cs ⟨c0,c1,rfl,h0,h1⟩ u hu;rcases List.mem_append.1 hu with hu | hu
  ·exact a.K_one h0 u hu
  exact b.K_one h1 u hu
 K_below:=by
  rintro w w1 x cs hb ⟨c0,c1,rfl,h0,h1⟩;exact ⟨c0,c1,rfl,a.K_below hb h0,b.K_below hb h1⟩
 K_of_M:=by
  rintro w base ok x cs ⟨c0,c1,rfl,h0,h1⟩;exact ⟨c0,c1,rfl,a.K_of_M h0,b.K_of_M h1⟩
 M_mono:=by
  rintro w base ok ok' x cs hok ⟨c0,c1,rfl,h0,h1⟩;exact ⟨c0,c1,rfl,a.M_mono hok h0,b.M_mono hok h1⟩
 M_bound:=by
  rintro w base ok x cs ⟨c0,c1,rfl,h0,h1⟩;refine ⟨c0,c1,rfl,a.M_mono ?_ (a.M_bound h0),b.M_mono ?_ (b.M_bound h1)⟩
  ·rintro k ⟨h2,h3,h4,q,hq,hc⟩;exact ⟨h2,h3,h4,q,List.mem_append_left _ hq,hc⟩
  rintro k ⟨h2,h3,h4,q,hq,hc⟩;exact ⟨h2,h3,h4,q,List.mem_append_right _ hq,hc⟩
 M_move:=by
  rintro w w1 base ok x cs hm ⟨c0,c1,rfl,h0,h1⟩;exact ⟨c0,c1,rfl,a.M_move hm h0,b.M_move hm h1⟩
 M_lower:=by
  rintro w base base' ok x cs hb ⟨c0,c1,rfl,h0,h1⟩;exact ⟨c0,c1,rfl,a.M_lower hb h0,b.M_lower hb h1⟩
def bot {α:Type} (sz:Nat) (E:List Nat):Kd α where
 sz:=sz
 E:=E
 K:=fun _ _ _=>False
 M:=fun _ _ _ _ _=>False
 K_len:=fun h=>h.elim
 K_one:=fun h=>h.elim
 K_below:=fun _ h=>h
 K_of_M:=fun h=>h
 M_mono:=fun _ h=>h
 M_bound:=fun h=>h
 M_move:=fun _ h=>h
 M_lower:=fun _ h=>h
def upto {α:Type} (F:Kd α->Kd α) (sz:Nat) (E:List Nat):Nat->Kd α
 | 0=>bot sz E
 | n+1=>F (upto F sz E n)
end Kd
namespace Kd
def Sub {α β:Type} (F:Kd α->Kd β) (E:List Nat):Prop:=∀ d:Kd α,(∀ q,q∈d.E->q∈E)->∀ q,q∈(F d).E->q∈E
end Kd
def QRow (w:World) (base:Nat) (e:TypeId) (size:Nat) (v:Value) (n:Nat) (xs:List Value):Prop :=
 xs.length=n*size /\
 ((n=0/\∃ A,v = .slice A 0 0/\∀ a,A=some a->base<=a.block/\∃ cur,w.heap[a.block]?=some (.cells cur e (0,0))) ∨
  ∃ g off cap cur,v = .slice (some ⟨g,off*size,none⟩) n cap/\base<=g/\w.heap[g]?=some (.cells cur e (0,0))/\n<=cap/\off+cap<=maxLen/\cur.size=(off+cap)*size/\(cur.toList.drop (off*size)).take (n*size)=xs)
namespace Kd
def Q {α:Type} (d:Kd α) (e:Nat) (w:World) (base:Nat) (ok:Nat->Prop) (v:Value) (xs:List α):Prop :=
 (∀ k,v.ownBlock=some k->ok k)/\∃ inner,QRow w base e d.sz v xs.length inner/\yW (d.M w base (fun k=>ok k/\some k≠v.ownBlock)) d.sz xs inner
end Kd
theorem Nt {α:Type} (a seg:List α) (o:Nat) (h:o+seg.length<=a.length) (q:Nat) :
 (a.take o++seg++a.drop (o+seg.length))[q]?=if q<o then a[q]? else if q<o+seg.length then seg[q-o]? else a[q]?:=by
 have hl:(a.take o).length=o:=by rw [List.length_take];omega
 rw [List.append_assoc]
 by_cases h1:q<o
 ·rw [if_pos h1,List.getElem?_append_left (by omega),List.getElem?_take,if_pos h1]
 rw [if_neg h1,List.getElem?_append_right (by omega),hl]
 by_cases h2:q<o+seg.length
 ·rw [if_pos h2,List.getElem?_append_left (by omega)]
 rw [if_neg h2,List.getElem?_append_right (by omega),List.getElem?_drop];congr 1;omega
theorem add_add (a:Addr) (i j:Nat):(a.add i).add j=a.add (i+j):=by
 unfold Addr.add
 by_cases h1:i=0<;>by_cases h2:j=0<;>simp [h1,h2,Nat.add_assoc]
end Go.Proofs.YtfbgaddecbiimaaGreatDoorW.PrintWords
end
section
namespace Go.Proofs.YtfbgaddecbiimaaGreatDoor.V
open Go.RowKit Go.Proofs.YtfbgaddecbiimaaGreatDoorW.PrintWords
def Info (P:Program) (t:TypeId) (z:Value) (sz by_:Nat):Prop:=(P.info? t).map (fun i=>(i.zero,i.size,i.bytes))=some (some z,sz,by_)
theorem Info.parts {P:Program} {t:TypeId} {z:Value} {sz by_:Nat} (h:Info P t z sz by_):∃ inf,P.info? t=some inf/\inf.zero=some z/\inf.size=sz/\inf.bytes=by_:=by
 unfold Info at h;cases hi:P.info? t with
 | none=>simp [hi] at h
 | some inf=>simp [hi] at h;exact ⟨inf,rfl,h.1,h.2.1,h.2.2⟩
def ints (k:IntKind) (l:List Int):List CV:=l.map (fun n=>.lit (.int k n))
abbrev PV.ints (k:IntKind) (l:List Int):PV:=.cv (.row l.length (V.ints k l))
abbrev dw (e:TypeId) (k:IntKind) (l:List Int):Row:=⟨e,1,l.length,ints k l⟩
theorem Ek (k:IntKind) (l:List Int):(ints k l).all one=true:=by
 unfold ints;rw [List.all_map];exact QA.2 (fun x _=>rfl)
theorem bW (k:IntKind) (l:List Int):(ints k l).length=l.length:=by simp [ints]
theorem ints_at (k:IntKind) (l:List Int) (i:Int) (a:0<=i) (b:i<l.length):((ints k l).drop (i.toNat*1)).take 1=[.lit (.int k (rd l i))]:=by
 have h:i.toNat<l.length:=Q2;have e:l.drop i.toNat=l[i.toNat] :: l.drop (i.toNat+1):=QD h;rw [Vs,ints,<- List.map_drop,e];simp only [QV,List.take_succ_cons,List.take_zero];simp [rd,h]
theorem LY (k:IntKind) (l:List Int) (i:Int) (a:0<=i) (b:i<l.length):(ints k l)[i.toNat*1]?=some (.lit (.int k (rd l i))):=by
 have h:i.toNat<l.length:=Q2;simp [ints,rd,h]
theorem ints_set (k:IntKind) (l:List Int) (i v:Int) (a:0<=i) (b:i<l.length):splice (ints k l) (i.toNat*1) [.lit (.int k v)]=ints k (l.set i.toNat v):=by
 have h:i.toNat<l.length:=Q2;unfold splice ints;rw [Vs,<- List.map_take,<- List.map_drop,List.length_singleton,Xo,Qk h];simp
section
variable {P:Program} {X:Ctx} {S:St} {o:Oper} {k:Nat} {d:Row}
theorem i_len {c:Call} {x:Operand} {t e:TypeId} {q:IntKind} {l:List Int} (ho:o.op = .call c) (hc:c.callee = .builtin .len) (ha:c.args = #[x]) (ht:c.argTypes = #[t]) (hu:P.underlying t=some (.slice e)) (hx:ev S x=some (.ints q l)):Pure P X o S (.int .i64 l.length):=lO ho hc ha ht hu hx rfl
theorem Af {c:Call} {x:Operand} {t e e':TypeId} {q:IntKind} {l:List Int} (ho:o.op = .call c) (hc:c.callee = .builtin .len) (ha:c.args = #[x]) (ht:c.argTypes = #[t]) (hu:P.underlying t=some (.slice e)) (hx:ev S x=some (.own k)) (hk:S.rows k=some (dw e' q l)):Pure P X o S (.int .i64 l.length):=lO ho hc ha ht hu hx (by simp [rP,hk])
theorem i_at {t e:TypeId} {z:Value} {b:Nat} {x y:Operand} {q kk:IntKind} {l:List Int} {i:Int} (ho:o.op = .indexAddr t x y) (hu:P.underlying t=some (.slice e)) (hi:Info P e z 1 b) (hx:ev S x=some (.ints q l)) (hy:ev S y=some (.int kk i)) (c:0<=i) (d:i<l.length):Pure P X o S (.pr [.lit (.int q (rd l i))]):=by
 obtain ⟨a,g1,g2,g3,g4⟩:=hi.parts;have:=HQ (X:=X) ho hu g1 hx hy c d (by rw [g3,bW,Vs]);rw [g3,ints_at q l i c d] at this;exact this
theorem Ep {t e e':TypeId} {z:Value} {b:Nat} {x y:Operand} {q kk:IntKind} {l:List Int} {i:Int} (ho:o.op = .indexAddr t x y) (hu:P.underlying t=some (.slice e)) (hi:Info P e z 1 b) (hx:ev S x=some (.own k)) (hk:S.rows k=some (dw e' q l)) (hy:ev S y=some (.int kk i)) (c:0<=i) (d:i<l.length):Pure P X o S (.po k (i.toNat*1)):=by
 obtain ⟨a,g1,g2,g3,g4⟩:=hi.parts;have:=vH (X:=X) ho hu g1 hx hy hk c d g3.symm Q2;rw [g3] at this;exact this
theorem i_load {t:TypeId} {ds:TypeDesc} {x:Operand} {c:CV} (ho:o.op = .load t x) (hu:P.underlying t=some ds) (hd:(match ds with | .struct _ | .array _ _=>true | _=>false)=false) (hx:ev S x=some (.pr [c])):Pure P X o S (.cv c):=uJ ho hu hd hx
theorem yv {t e:TypeId} {ds:TypeDesc} {x:Operand} {q:IntKind} {l:List Int} {i:Int} (ho:o.op = .load t x) (hu:P.underlying t=some ds) (hd:(match ds with | .struct _ | .array _ _=>true | _=>false)=false) (hx:ev S x=some (.po k (i.toNat*1))) (hk:S.rows k=some (dw e q l)) (a:0<=i) (b:i<l.length):Pure P X o S (.int q (rd l i)) :=
 gV ho hu hd hx hk (LY q l i a b)
theorem BG {t e:TypeId} {z:Value} {b:Nat} {x y:Operand} {q:IntKind} {l:List Int} {i v:Int} (ho:o.op = .store t x y) (hi:Info P t z 1 b) (hx:ev S x=some (.po k (i.toNat*1))) (hk:S.rows k=some (dw e q l)) (hy:ev S y=some (.int q v)) (c:0<=i) (d:i<l.length):cf P X o S (drop (setRow S k (dw e q (l.set i.toNat v))) o.dst):=by
 obtain ⟨a,g1,g2,g3,g4⟩:=hi.parts;have:=tz (X:=X) ho g1 hx hk hy (cs:=[.lit (.int q v)]) rfl rfl (by simp [g3]) (by rw [bW];simp;omega) (by simp [gj]);rw [ints_set q l i v c d] at this;have e1:({ dw e q l with data:=ints q (l.set i.toNat v) }:Row)=dw e q (l.set i.toNat v):=by simp [dw]
 rw [e1] at this;exact this
theorem wN {t e:TypeId} {z:Value} {b:Nat} {x:Operand} {lo hi:Option Operand} {q:IntKind} {l:List Int} {i j:Int} (ho:o.op = .slice t x lo hi none) (hu:P.underlying t=some (.slice e)) (hi':Info P e z 1 b) (hx:ev S x=some (.ints q l)) (hl:bound S 0 lo=some i) (hh:bound S l.length hi=some j) (d:0<=i) (f:i<=j) (c:j<=l.length) :
 Pure P X o S (.ints q ((l.take j.toNat).drop i.toNat)):=by
 obtain ⟨a,g1,g2,g3,g4⟩:=hi'.parts;have:=xE (X:=X) ho hu g1 hx (by rw [g3,bW,Vs]) hl hh d f c;rw [g3,Vs,Vs] at this;have e1:((ints q l).drop i.toNat).take (j.toNat-i.toNat)=ints q ((l.take j.toNat).drop i.toNat):=by simp [ints,VM]
 have e2:((l.take j.toNat).drop i.toNat).length=j.toNat-i.toNat:=by simp;omega
 rw [e1] at this;unfold PV.ints;rw [e2];exact this
theorem En {t e:TypeId} {z:Value} {b:Nat} {x:Operand} {hi:Option Operand} {q:IntKind} {l:List Int} {j:Int} (ho:o.op = .slice t x none hi none) (hu:P.underlying t=some (.slice e)) (hi':Info P e z 1 b) (hx:ev S x=some (.ints q l)) (hh:bound S l.length hi=some j) (c:0<=j) (a:j<=l.length) :
 Pure P X o S (.ints q (l.take j.toNat)):=wN (i:=0) ho hu hi' hx rfl hh (Vl _) c a
theorem Em {t e:TypeId} {z:Value} {b:Nat} {x:Operand} {lo:Option Operand} {q:IntKind} {l:List Int} {i:Int} (ho:o.op = .slice t x lo none none) (hu:P.underlying t=some (.slice e)) (hi':Info P e z 1 b) (hx:ev S x=some (.ints q l)) (hl:bound S 0 lo=some i) (a:0<=i) (c:i<=l.length) :
 Pure P X o S (.ints q (l.drop i.toNat)):=by
 have:=wN (X:=X) (j:=l.length) ho hu hi' hx hl rfl a c (Vl _)
 rwa [Int.toNat_natCast,Qw] at this
theorem Er {c:Call} {x y:Operand} {t e:TypeId} {z:Value} {b:Nat} {q:IntKind} {l m:List Int} (ho:o.op = .call c) (hc:c.callee = .builtin .append) (ha:c.args = #[x,y]) (ht:c.argTypes = #[t,t]) (hu:P.underlying t=some (.slice e)) (hi:Info P e z 1 b) (hz:z.cells.size=1)
 (hx:ev S x=some (.own k)) (hk:S.rows k=some (dw e q l)) (hy:ev S y=some (.ints q m)) (d:l.length+m.length<=maxLen) (hb:(l.length+m.length)*b<=140737488355328) (hkl:k≠cd) (hd:dm X o.dst) (hko:Nat.ble opened k=false:=by rfl) :
 cf P X o S (put (setRow (kill S k) k (dw e q (l++m))) o.dst (.own k)):=by
 obtain ⟨a,g1,g2,g3,g4⟩:=hi.parts;have:=zq (X:=X) ho hc ha ht hu g1 g2 (by rw [hz,g3]) Q2 hx hk rfl g3.symm hy (by rw [g3,bW,Vs]) (Ek q m) d (by rw [g4];exact hb) hkl hko hd;rw [g3] at this;have e1:ints q l++ints q m=ints q (l++m):=by simp [ints]
 have e2:l.length+m.length=(l++m).length:=Q3;rw [e1] at this;unfold dw at this ⊢;rw [<- e2];exact this
theorem N8 {c:Call} {y:Operand} {t e:TypeId} {z:Value} {b:Nat} {q:IntKind} {m:List Int} (ho:o.op = .call c) (hc:c.callee = .builtin .append) (ha:c.args = #[.const (.slice none 0 0),y]) (ht:c.argTypes = #[t,t]) (hu:P.underlying t=some (.slice e)) (hi:Info P e z 1 b) (hz:z.cells.size=1) (hy:ev S y=some (.ints q m)) (d:m.length<=maxLen) (hb:m.length*b<=140737488355328) (hd:dm X o.dst) :
 cf P X o S (put S o.dst (.ints q m)):=by
 obtain ⟨a,g1,g2,g3,g4⟩:=hi.parts;exact CA (X:=X) ho hc ha ht hu g1 g2 (by rw [hz,g3]) Q2 hy (by rw [g3,bW,Vs]) (Ek q m) d (by rw [g4];exact hb) hd
theorem i_make {t e:TypeId} {b:Nat} {x y:Operand} {kl kc q:IntKind} {n cap:Nat} (k:Nat) (ho:o.op = .makeSlice t x y) (hu:P.underlying t=some (.slice e)) (hi:Info P e (.int q 0) 1 b) (hx:ev S x=some (.int kl n)) (hy:ev S y=some (.int kc cap)) (hnc:n<=cap) (hb:b*cap<=281474976710656) (hm:cap<=maxLen) (hk:S.rows k=none) (hkl:k≠cd) (hd:dm X o.dst) :
 cf P X o S (put (setRow S k (dw e q (List.replicate n 0))) o.dst (.own k)):=by
 obtain ⟨a,g1,g2,g3,g4⟩:=hi.parts;have:=Nh (X:=X) k ho hu g1 g2 rfl g3 hx hy hnc (by rw [g4];exact hb) hm hk hkl hd;have e1:ints q (List.replicate n 0)=List.replicate n (ij (.int q 0)):=by simp [ints,ij]
 have e2:(List.replicate n (0:Int)).length=n:=Q3;unfold dw;rw [e1,e2];exact this
end
class UL (P:Program) (t:TypeId) (d:outParam TypeDesc):Prop where
 h:P.underlying t=some d
class IF (P:Program) (t:TypeId) (z:outParam Value) (sz b:outParam Nat):Prop where
 h:Info P t z sz b
theorem ib {X:Ctx} {n d:Nat} (hX:X.nt=n) (h:d<n):dm X (some d):=by show d<X.nt;rw [hX];exact h
theorem aj {α:Type} {c:Prop} [Decidable c] {x:Option α} {r:α} (h:(if c then x else none)=some r):c/\x=some r:=by
 by_cases hc:c
 ·rw [Qk hc] at h;exact ⟨hc,h⟩
 rw [Qc hc] at h;cases h
def look {α:Type}:List (Nat×α)->Nat->Option α
 | [],_=>none
 | (a,x) :: l,t=>if t=a then some x else look l t
theorem nJ {α:Type}:∀ {l:List (Nat×α)} {t:Nat} {x:α},look l t=some x->(t,x)∈l
 | [],_,_,h=>by cases h
 | (a,y) :: l,t,x,h=>by
  simp only [look] at h;split at h
  ·rename_i e;cases h;subst e;exact Q7
  exact Qa _ (nJ h)
def within (ys:List (Nat×Row)):PV->Bool
 | .own k=>(look ys k).isSome
 | .win k _ _=>(look ys k).isSome
 | .po k _=>(look ys k).isSome
 | .tup _=>false
 | .cv c=>gj c
 | .ag cs=>cs.all gj
 | .pr _=>true
 | .map _=>true
def Gl (ys:List (Nat×Row)):Bool:=ys.all fun y=>!Nat.ble opened y.1
theorem zx {j:Nat} {c:CV} (h:gj c=true):iN j c=false:=by cases c<;>first | rfl | cases h
def has (S:St):List (Nat×PV)->Prop
 | []=>True
 | x :: l=>S.env x.1=some x.2/\has S l
def Oc (S:St):List (Nat×Row)->Prop
 | []=>True
 | x :: l=>S.rows x.1=some x.2/\Oc S l
theorem Ij {S:St}:∀ {l:List (Nat×PV)} {x:Nat×PV},has S l->x∈l->S.env x.1=some x.2
 | y :: l,x,h,hx=>by
  rcases Qo.1 hx with rfl | hx
  ·exact h.1
  exact Ij h.2 hx
theorem Es {S:St}:∀ {l:List (Nat×Row)} {x:Nat×Row},Oc S l->x∈l->S.rows x.1=some x.2
 | y :: l,x,h,hx=>by
  rcases Qo.1 hx with rfl | hx
  ·exact h.1
  exact Es h.2 hx
theorem aY {X:Ctx} {S:St} (xs:List (Nat×PV)) (ys:List (Nat×Row)) (hx:has S xs) (hy:Oc S ys) (hw:(xs.all (fun x=>within ys x.2)&&Gl ys)=true):∀ a w,Rel X S a w->Rel X ⟨look xs,look ys⟩ a w:=by
 intro a w h;have hr:∀ k r,look ys k=some r->S.rows k=some r:=fun k r h=>Es hy (nJ h);rw [Qm] at hw;obtain ⟨hw,hp⟩:=hw;refine h.less (S':=⟨look xs,look ys⟩) (fun t p h=>Ij hx (nJ h)) hr ?_ (fun j r _=>.inr ⟨fun k r b f=>?_,fun t p b=>?_⟩)
 rotate_left
 ·rw [Gl,QA] at hp;have:=hp _ (nJ b);rw [f] at this;cases this
 ·rw [QA] at hw;have hk:=hw (t,p) (nJ b);cases p<;>simp only [within] at hk<;>simp only [refs]
  ·exact zx hk
  ·rw [VD];rw [QA] at hk;exact fun c hc=>by rw [zx (hk c hc)];decide
  cases hk
 intro t p ht w F L v hv;rw [QA] at hw;have hk:within ys p=true:=hw (t,p) (nJ ht);have jg:∀ k d,S.rows k=some d->(look ys k).isSome=true->look ys k=some d:=by
  intro k d b f;obtain ⟨e,he⟩:=Option.isSome_iff_exists.1 f;have:=hr k e he;rw [b] at this;cases this;exact he
 cases hv with
 | cv h=>exact .cv h
 | ag hl h=>exact .ag hl h
 | tup=>simp [within] at hk
 | own h=>exact .own (jg _ _ h hk)
 | win h hL ho hn hb ha=>exact .win (jg _ _ h hk) hL ho hn hb ha
 | pr vs hs hF hc hd=>exact .pr vs hs hF hc hd
 | po h hL ho=>exact .po (jg _ _ h hk) hL ho
 | map hF hn hb he=>exact .map hF hn hb he
end Go.Proofs.YtfbgaddecbiimaaGreatDoor.V
end
section
namespace Go.Proofs.YtfbgaddecbiimaaGreatDoorW.PrintLast
section
variable {P:Program} {ops:Array Oper} {Q:Exit->Act->World->Prop} {md:Region.Mode} {S:World->Prop} {ds:List Nat}
def Region.mQ (md:Region.Mode) (ops:Array Oper) (i:Nat):Nat->Nat->Bool
 | 0,_=>false
 | fuel+1,d=>match ops[d]? with
  | some o=>o.after.any fun e=>Region.binds md e&&(e.on==i||Region.mQ md ops i fuel e.on)
  | none=>false
def Region.B6 (md:Region.Mode) (ops:Array Oper) (listed:Array Bool):Bool :=
 (List.range ops.size).all fun j=>!listed.getD j false||match ops[j]? with
  | some o=>o.after.all fun e=>!Region.binds md e||listed.getD e.on false
  | none=>true
def Region.lastB (md:Region.Mode) (ops:Array Oper) (listed:Array Bool) (ds:List Nat) (i:Nat):Bool :=
 ds.all fun d=>listed.getD d true||Region.mQ md ops i ops.size d
def gN (md:Region.Mode) (ops:Array Oper) (listed:Array Bool):Prop :=
 ∀ j oj,ops[j]?=some oj->listed.getD j false=true->∀ e∈oj.after,Region.binds md e=true->listed.getD e.on false=true
theorem Region.B5 {listed:Array Bool} (h:Region.B6 md ops listed=true):gN md ops listed:=by
 intro j oj hj hl e he hb;have a:j<ops.size:=(Array.getElem?_eq_some_iff.1 hj).1;have h1:=List.all_eq_true.1 h j (List.mem_range.2 a);simp only [hl,hj,Bool.not_true,Bool.false_or] at h1;have h2:=Array.all_eq_true_iff_forall_mem.1 h1 e he;simpa [hb] using h2
theorem gN.set {listed:Array Bool} {i:Nat} (h:gN md ops listed) (hi:i∈Region.ready md ops listed):gN md ops (listed.setIfInBounds i true):=by
 obtain ⟨_,oi,b,a⟩:=mem_ready.1 hi;intro j oj hj hl e he hb
 by_cases hij:i=j
 ·subst hij;have:oj=oi:=Option.some.inj (hj.symm.trans b);subst this;exact getD_set_true (a e he hb)
 rw [getD_set_ne false hij] at hl;exact getD_set_true (h j oj hj hl e he hb)
theorem Region.tF {listed:Array Bool} {i:Nat} (hc:gN md ops listed):∀ (fuel d:Nat),Region.mQ md ops i fuel d=true->listed.getD d false=true->listed.getD i false=true
 | 0,_,h,_=>by simp [Region.mQ] at h
 | fuel+1,d,h,hl=>by
  unfold Region.mQ at h;cases ho:ops[d]? with
  | none=>rw [ho] at h;simp at h
  | some o =>
   rw [ho] at h;obtain ⟨e,he,h1⟩:=Array.any_eq_true'.1 h;simp only [Bool.and_eq_true,Bool.or_eq_true,beq_iff_eq] at h1;have hle:=hc d o ho hl e he h1.1;rcases h1.2 with h2 | h2
   ·rw [<- h2];exact hle
   exact Region.tF hc fuel e.on h2 hle
theorem Region.wc {listed:Array Bool} {i d fuel:Nat} (hc:gN md ops listed) (hr:Region.mQ md ops i fuel d=true) (hun:listed.getD i true=false):d ∉ Region.ready md ops listed:=by
 intro hd;obtain ⟨_,o,ho,b⟩:=mem_ready.1 hd;have hi:listed.getD i false=true:=by
  cases fuel with
  | zero=>simp [Region.mQ] at hr
  | succ n =>
   unfold Region.mQ at hr;rw [ho] at hr;obtain ⟨e,he,h1⟩:=Array.any_eq_true'.1 hr;simp only [Bool.and_eq_true,Bool.or_eq_true,beq_iff_eq] at h1;have a:=b e he h1.1;rcases h1.2 with h2 | h2
   ·rw [<- h2];exact a
   exact Region.tF hc n e.on h2 a
 rcases Nat.lt_or_ge i listed.size with h' | h'
 ·simp [h'] at hun hi;rw [hun] at hi;cases hi
 simp [Array.getElem?_eq_none h'] at hun
def j5 (P:Program) (md:Region.Mode) (ops:Array Oper) (Q:Exit->Act->World->Prop) (S:World->Prop) (ds:List Nat):Nat->Array Bool->Act->World->Prop
 | 0,listed,a,w=>Region.ready md ops listed=[]/\Q .normal a w
 | fuel+1,listed,a,w =>
  (Region.ready md ops listed=[]->Q .normal a w) /\
  ∀ i∈Region.ready md ops listed,wpOp P ops Q i (fun a' w'=>(i ∉ ds->S w->S w')/\j5 P md ops Q S ds fuel (listed.setIfInBounds i true) a' w') a w
theorem vZ {i:Nat} {oi:Oper} {v:Value} (hi:ops[i]?=some oi) (hsel:∀ (j:Nat) (o:Oper) cs b,ops[j]?=some o->o.op≠.select cs b)
 (hQ:∀ c a w,Q (.panic c) (a.put oi.dst v) w->Q (.panic c) a w) (n:Nat) :
 ∀ (fuel:Nat) (listed:Array Bool) (a:Act) (w:World),
  (∀ j oj,ops[j]?=some oj->j≠i->listed.getD j true=false->(∀ e∈oj.after,Region.binds md e=true->e.on≠i)->oi.apart ops oj=true) ->
  gN md ops listed->(∀ d∈ds,listed.getD d true=false->Region.mQ md ops i n d=true) ->
  i∈Region.ready md ops listed->YieldsIf P ops S oi v a->S w ->
  j5 P md ops Q S ds fuel (listed.setIfInBounds i true) (a.put oi.dst v) w->j5 P md ops Q S ds (fuel+1) listed a w:=by
 intro fuel
 induction fuel with
 | zero =>
  intro listed a w _ _ _ hr hy hS H;refine ⟨fun h=>(by rw [h] at hr;cases hr),fun j hj=>?_⟩
  by_cases hji:j=i
  ·subst hji;exact hy.wpOp hi hS ⟨fun _ h=>h,H⟩
  have:=ready_mono hj hji;rw [H.1] at this;cases this
 | succ fuel ih =>
  intro listed a w hfree hc hd hr hy hS H;refine ⟨fun h=>(by rw [h] at hr;cases hr),fun j hj=>?_⟩
  by_cases hji:j=i
  ·subst hji;exact hy.wpOp hi hS ⟨fun _ h=>h,H⟩
  have h1:=H.2 j (ready_mono hj hji);obtain ⟨f,oj,m,q⟩:=mem_ready.1 hj;have g:=(mem_ready.1 hr).1;have p:∀ e∈oj.after,Region.binds md e=true->e.on≠i:=fun e he hb heq=>by
   have h1:=q e he hb;rw [heq] at h1;rcases Nat.lt_or_ge i listed.size with h' | h'
   ·simp [h'] at g h1;rw [g] at h1;cases h1
   simp [Array.getElem?_eq_none h'] at h1
  have s:j ∉ ds:=fun hm=>Region.wc hc (hd j hm f) g hj;have h2:=wpOp_putIf m (hfree j oj m hji f p) (fun cs b=>hsel i oi cs b hi) (fun cs b=>hsel j oj cs b m) hQ hy h1;have l:∀ k ok,ops[k]?=some ok->k≠i->(listed.setIfInBounds j true).getD k true=false ->
   (∀ e∈ok.after,Region.binds md e=true->e.on≠i)->oi.apart ops ok=true:=fun k ok hk hki hun hno=>by
   refine hfree k ok hk hki ?_ hno
   by_cases hjk:j=k
   ·subst hjk;exact f
   rw [getD_set_ne true hjk] at hun;exact hun
  have r:∀ d∈ds,(listed.setIfInBounds j true).getD d true=false->Region.mQ md ops i n d=true:=fun d hm hun=>by
   refine hd d hm ?_
   by_cases hjk:j=d
   ·subst hjk;exact f
   rw [getD_set_ne true hjk] at hun;exact hun
  refine wpOp_mono (fun a' w' t=>⟨t.2.1,ih (listed.setIfInBounds j true) a' w' l (hc.set hj) r (ready_mono hr (Ne.symm hji)) t.1 (t.2.1 s hS) ?_⟩) h2;rw [Array.setIfInBounds_comm _ _ hji];exact t.2.2
theorem wW {i:Nat} {oi:Oper} {v:Value} {fuel:Nat} {listed:Array Bool} {a:Act} {w:World} (hi:ops[i]?=some oi)
 (hs:Region.noSelect ops=true) (hf:Region.free md ops listed i=true) (hr:(Region.ready md ops listed).contains i=true)
 (hc:Region.B6 md ops listed=true) (hl:Region.lastB md ops listed ds i=true)
 (hQ:∀ c a w,Q (.panic c) (a.put oi.dst v) w->Q (.panic c) a w) (hy:YieldsIf P ops S oi v a) (hS:S w)
 (h:j5 P md ops Q S ds fuel (listed.setIfInBounds i true) (a.put oi.dst v) w):j5 P md ops Q S ds (fuel+1) listed a w :=
 vZ hi (Region.noSelect_spec hs) hQ ops.size fuel listed a w (Region.free_spec hi hf) (Region.B5 hc)
  (fun d hm hun=>by have:=List.all_eq_true.1 hl d hm;rw [hun] at this;simpa using this) (by simpa using hr) hy hS h
end
section
variable {P:Program} {ops:Array Oper} {Q:Exit->Act->World->Prop} {md:Region.Mode} {S:World->Prop} {ds:List Nat}
def takeB (md:Region.Mode) (ops:Array Oper) (ds:List Nat) (l l':Array Bool) (i:Nat):Bool :=
 Region.noSelect ops&&Region.free md ops l i&&(Region.ready md ops l).contains i&&Region.B6 md ops l&&Region.lastB md ops l ds i&&(l.setIfInBounds i true==l')
theorem KE {i:Nat} {N:Option Tmp} {oi:Oper} {v:Value} {fuel:Nat} {l:Array Bool} {a:Act} {w:World} (l':Array Bool) (hi:ops[i]?=some oi) (hN:oi.dst=N) (hc:takeB md ops ds l l' i=true)
 (hQ:∀ c a w,Q (.panic c) (a.put oi.dst v) w->Q (.panic c) a w) (hy:YieldsIf P ops S oi v a) (hS:S w) {a':Act} (ha:a.put N v=a')
 (h:j5 P md ops Q S ds fuel l' a' w):j5 P md ops Q S ds (fuel+1) l a w:=by
 subst ha;subst hN;simp only [takeB,Bool.and_eq_true,beq_iff_eq] at hc;obtain ⟨⟨⟨⟨⟨h1,h2⟩,h3⟩,h4⟩,h5⟩,h6⟩:=hc;subst h6;exact wW hi h1 h2 h3 h4 h5 hQ hy hS h
end
end Go.Proofs.YtfbgaddecbiimaaGreatDoorW.PrintLast
end
section
namespace Go.Proofs.YtfbgaddecbiimaaGreatDoorW.PrintWords
open Go.RowKit
namespace Kd
def tag {α:Type} (f:Nat->Nat) (d:Kd α):Kd (α×Nat) where
 sz:=d.sz
 E:=d.E
 K:=fun w x cs=>d.K w x.1 cs
 M:=fun w base ok x cs=>d.M w base (fun k=>ok k/\f k=x.2) x.1 cs
 K_len:=fun h=>d.K_len h
 K_one:=fun h=>d.K_one h
 K_below:=fun hb h=>d.K_below hb h
 K_of_M:=fun h=>d.K_of_M h
 M_mono:=fun hok h=>d.M_mono (fun k hk=>⟨hok k hk.1,hk.2⟩) h
 M_bound:=fun h=>d.M_mono (fun _ hk=>⟨⟨hk.1.1,hk.2⟩,hk.1.2⟩) (d.M_bound h)
 M_move:=fun hm h=>d.M_move (fun k hk=>hm k hk.1) h
 M_lower:=fun hb h=>d.M_lower hb h
def raw (sz:Nat):Kd (List Value) where
 sz:=sz
 E:=[]
 K:=fun _ x cs=>cs=x/\cs.length=sz/\∀ u∈cs,u.oneCell'=true
 M:=fun _ _ _ x cs=>cs=x/\cs.length=sz/\∀ u∈cs,u.oneCell'=true
 K_len:=fun h=>h.2.1
 K_one:=fun h=>h.2.2
 K_below:=fun _ h=>h
 K_of_M:=fun h=>h
 M_mono:=fun _ h=>h
 M_bound:=fun h=>h
 M_move:=fun _ h=>h
 M_lower:=fun _ h=>h
def S {α:Type} (d:Kd α) (e:Nat) (w:World) (base:Nat) (ok:Nat->Prop) (v:Value) (xs:List α):Prop:=∃ f,(tag f d).R e w base ok v xs.zipIdx
def gap {α:Type} (f:Nat->Nat) (d:Kd α) (i:Nat) (c:List Value):Kd (α×Nat) where
 sz:=d.sz
 E:=d.E
 K:=fun w x cs=>(x.2=i->cs=c/\cs.length=d.sz/\∀ u∈cs,u.oneCell'=true)/\(x.2≠i->d.K w x.1 cs)
 M:=fun w base ok x cs=>(x.2=i->cs=c/\cs.length=d.sz/\∀ u∈cs,u.oneCell'=true)/\(x.2≠i->d.M w base (fun k=>ok k/\f k=x.2) x.1 cs)
 K_len:=fun {w x cs} h=>by
  by_cases hx:x.2=i
  ·exact (h.1 hx).2.1
  exact d.K_len (h.2 hx)
 K_one:=fun {w x cs} h=>by
  by_cases hx:x.2=i
  ·exact (h.1 hx).2.2
  exact d.K_one (h.2 hx)
 K_below:=fun hb h=>⟨h.1,fun hx=>d.K_below hb (h.2 hx)⟩
 K_of_M:=fun h=>⟨h.1,fun hx=>d.K_of_M (h.2 hx)⟩
 M_mono:=fun hok h=>⟨h.1,fun hx=>d.M_mono (fun k hk=>⟨hok k hk.1,hk.2⟩) (h.2 hx)⟩
 M_bound:=fun h=>⟨h.1,fun hx=>d.M_mono (fun _ hk=>⟨⟨hk.1.1,hk.2⟩,hk.1.2⟩) (d.M_bound (h.2 hx))⟩
 M_move:=fun hm h=>⟨h.1,fun hx=>d.M_move (fun k hk=>hm k hk.1) (h.2 hx)⟩
 M_lower:=fun hb h=>⟨h.1,fun hx=>d.M_lower hb (h.2 hx)⟩
def H {α:Type} (d:Kd α) (e:Nat) (w:World) (base:Nat) (ok:Nat->Prop) (v:Value) (xs:List α) (i:Int) (oki:Nat->Prop) (c:List Value):Prop :=
 (∀ k,oki k->ok k)/\∃ f,(gap f d i.toNat c).R e w base (fun k=>ok k/\¬ oki k) v xs.zipIdx
end Kd
end Go.Proofs.YtfbgaddecbiimaaGreatDoorW.PrintWords
end
section
namespace Go.Proofs.YtfbgaddecbiimaaGreatDoorW.PrintWords
open Go.RowKit
namespace Kd
theorem K8 {α:Type} {R:α->List Value->Prop} {size:Nat} {ps:List α} {cs:List Value} (h:yW R size ps cs) (hs0:0<size) (hR:∀ p c,R p c->∀ u∈c,u.oneCell'=true):∀ u∈cs,u.oneCell'=true:=by
 intro u hu;obtain ⟨q,hq,rfl⟩:=List.mem_iff_getElem.1 hu;have a:q / size<ps.length:=by
  rw [Nat.div_lt_iff_lt_mul hs0,<- h.1];exact hq
 refine hR _ _ (h.2 (q / size) _ (List.getElem?_eq_getElem a)) _ ?_;rw [List.mem_iff_getElem?];refine ⟨q % size,?_⟩;rw [List.getElem?_take,if_pos (Nat.mod_lt _ hs0),List.getElem?_drop,Nat.mul_comm,Nat.div_add_mod,List.getElem?_eq_getElem hq]
theorem K7 {α:Type} {R:α->List Value->Prop} {size:Nat} {ps:List α} {cs:List Value} (h:yW R size ps cs) {i:Nat} (hi:i<ps.length) {x:α} {seg:List Value} (hx:R x seg) (hl:seg.length=size):yW R size (ps.set i x) (cs.take (i*size)++seg++cs.drop (i*size+seg.length)):=by
 have b:i*size+size<=cs.length:=by rw [h.1,<- Nat.succ_mul];exact Nat.mul_le_mul_right _ hi
 refine ⟨?_,fun m p hm=>?_⟩
 ·rw [List.length_set,<- h.1];simp only [List.length_append,List.length_take,List.length_drop];omega
 have a:m<ps.length:=by
  have:=(List.getElem?_eq_some_iff.1 hm).1
  rwa [List.length_set] at this
 by_cases hmi:m=i
 ·subst hmi;rw [List.getElem?_set_self a] at hm;injection hm with hm;subst hm;rw [show ((cs.take (m*size)++seg++cs.drop (m*size+seg.length)).drop (m*size)).take size=seg by
   rw [List.append_assoc,List.drop_left' (by rw [List.length_take];omega),List.take_left' hl]]
  exact hx
 rw [List.getElem?_set_ne (Ne.symm hmi)] at hm;have c:m*size+size<=cs.length:=by rw [h.1,<- Nat.succ_mul];exact Nat.mul_le_mul_right _ a
 rw [show ((cs.take (i*size)++seg++cs.drop (i*size+seg.length)).drop (m*size)).take size=(cs.drop (m*size)).take size from by
  apply List.ext_getElem?;intro q;rw [List.getElem?_take,List.getElem?_take,List.getElem?_drop,List.getElem?_drop,Nt cs seg _ (by omega)]
  by_cases hq:q<size
  ·rw [if_pos hq,if_pos hq];rcases Nat.lt_or_gt_of_ne hmi with hlt | hgt
   ·have:m*size+size<=i*size:=by rw [<- Nat.succ_mul];exact Nat.mul_le_mul_right _ hlt
    rw [if_pos (by omega)]
   have:i*size+size<=m*size:=by rw [<- Nat.succ_mul];exact Nat.mul_le_mul_right _ hgt
   rw [if_neg (by omega),if_neg (by omega)]
  rw [if_neg hq,if_neg hq]]
 exact h.2 m p hm
def arr {α:Type} (n:Nat) (d:Kd α) (hs:0<d.sz):Kd (List α) where
 sz:=n*d.sz
 E:=d.E
 K:=fun w xs cs=>xs.length=n/\yW (d.K w) d.sz xs cs
 M:=fun w base ok xs cs=>xs.length=n/\yW (d.M w base ok) d.sz xs cs
 K_len:=fun h=>by rw [<- h.1];exact h.2.1
 K_one:=fun h=>K8 h.2 hs (fun _ _ hk=>d.K_one hk)
 K_below:=fun hb h=>⟨h.1,h.2.s9 (fun _ _ hk=>d.K_below hb hk)⟩
 K_of_M:=fun h=>⟨h.1,h.2.s9 (fun _ _ hk=>d.K_of_M hk)⟩
 M_mono:=fun hok h=>⟨h.1,h.2.s9 (fun _ _ hk=>d.M_mono hok hk)⟩
 M_bound:=fun h=>⟨h.1,h.2.s9 (fun _ _ hk=>d.M_bound hk)⟩
 M_move:=fun hm h=>⟨h.1,h.2.s9 (fun _ _ hk=>d.M_move hm hk)⟩
 M_lower:=fun hb h=>⟨h.1,h.2.s9 (fun _ _ hk=>d.M_lower hb hk)⟩
section
variable {α:Type} {n:Nat} {d:Kd α} {hs:0<d.sz} {w:World} {base:Nat} {ok:Nat->Prop} {xs:List α} {cs:List Value}
theorem IM (h:(arr n d hs).M w base ok xs cs) (i:Int) (a:0<=i) (b:i<n) {x':α} {seg:List Value} (hx:d.M w base ok x' seg):(arr n d hs).M w base ok (xs.set i.toNat x') (cs.take (i.toNat*d.sz)++seg++cs.drop (i.toNat*d.sz+seg.length)) :=
 ⟨by rw [List.length_set];exact h.1,K7 h.2 (by have:=h.1;omega) hx (d.K_len (d.K_of_M hx))⟩
end
end Kd
end Go.Proofs.YtfbgaddecbiimaaGreatDoorW.PrintWords
end
section
namespace Go.Proofs.YtfbgaddecbiimaaGreatDoorW.PrintWords
open Go.RowKit
def uw (P:World->Prop) (W:World) (ok:Nat->Prop):Prop:=∀ W':World,(∀ k,ok k->k<W.heap.size->W'.heap[k]?=W.heap[k]?)->P W'
theorem Ob {W W1:World} {k:Nat} (h:W1.heap[k]?=W.heap[k]?) (hlt:k<W.heap.size):k<W1.heap.size:=by
 rw [Array.getElem?_eq_getElem hlt] at h;exact (Array.getElem?_eq_some_iff.1 h).1
namespace uw
variable {P Q:World->Prop} {W W1:World} {ok ok':Nat->Prop}
theorem mono (h:uw P W ok) (hok:∀ k,ok k->ok' k):uw P W ok':=fun W' hW=>h W' (fun k hk hlt=>hW k (hok k hk) hlt)
theorem bound (h:uw P W ok):uw P W (fun k=>ok k/\k<W.heap.size):=fun W' hW=>h W' (fun k hk hlt=>hW k ⟨hk,hlt⟩ hlt)
theorem step (h:uw P W ok) (hm:∀ k,ok k->k<W.heap.size->W1.heap[k]?=W.heap[k]?):uw P W1 ok:=fun W' hW=>h W' (fun k hk hlt=>(hW k hk (Ob (hm k hk hlt) hlt)).trans (hm k hk hlt))
theorem imp (h:uw P W ok) (hi:∀ W',P W'->Q W'):uw Q W ok:=fun W' hW=>hi W' (h W' hW)
theorem sM (h:uw P W ok) (hb:Below W.heap.size W W1):uw P W1 (fun k=>ok k/\k<W.heap.size):=(h.bound).step (fun k _ hlt=>hb.block k hlt)
end uw
namespace Kd
def F {α:Type} (d:Kd α) (W:World) (ok:Nat->Prop) (A:Option Addr) (n:Nat) (xs:List α):Prop:=uw (fun W=>d.C W A n xs) W ok
def FK {α:Type} (d:Kd α) (W:World) (ok:Nat->Prop) (x:α) (c:List Value):Prop:=uw (fun W=>d.K W x c) W ok
end Kd
end Go.Proofs.YtfbgaddecbiimaaGreatDoorW.PrintWords
end
section
namespace Go.Proofs.YtfbgaddecbiimaaGreatDoorW.PrintWords
open Go.RowKit
namespace Kd
section
variable {α:Type} {d:Kd α} {e base n cc g:Nat} {ok ok' okp S:Nat->Prop} {w w1 W W1:World} {A:Option Addr} {u v v1:Value} {xs:List α} {x:α} {c:List Value}
def N {α:Type} (d:Kd α) (e:Nat) (w:World) (base:Nat) (ok:Nat->Prop) (v:Value) (xs:List α):Prop :=
 (∀ k,v.ownBlock=some k->ok k)/\∃ rows:List (List Value),rows.length=xs.length/\(raw d.sz).R e w base (fun k=>some k=v.ownBlock) v rows/\∀ (j:Nat) (x:α) (c:List Value),xs[j]?=some x->rows[j]?=some c->FK d w (fun k=>ok k/\some k≠v.ownBlock) x c
end
end Kd
end Go.Proofs.YtfbgaddecbiimaaGreatDoorW.PrintWords
end
section
namespace Go.Proofs.YtfbgaddecbiimaaGreatDoorW.PrintMore
open Go.RowKit Go.Proofs.YtfbgaddecbiimaaGreatDoorW.PrintWords
theorem ye (k k':IntKind) (x y:Int):Builtin.max2 (.int k x) (.int k' y)=pure (.int k (if x<y then y else x)):=by simp only [Builtin.max2,gt_iff_lt]
theorem yc (k k':IntKind) (x y:Int):Builtin.min2 (.int k x) (.int k' y)=pure (.int k (if y<x then y else x)):=by simp only [Builtin.min2]
theorem BC (ats:Array TypeId) (ty:TypeId) (a b:Value):Builtin.max_ ats ty #[a,b]=(Builtin.max2 a b >>= fun s=>pure s):=by simp only [Builtin.max_,List.foldlM_cons,List.foldlM_nil]
theorem BA (ats:Array TypeId) (ty:TypeId) (a b:Value):Builtin.min_ ats ty #[a,b]=(Builtin.min2 a b >>= fun s=>pure s):=by simp only [Builtin.min_,List.foldlM_cons,List.foldlM_nil]
theorem Aa (ats:Array TypeId) (ty:TypeId) (a b c:Value):Builtin.max_ ats ty #[a,b,c]=(Builtin.max2 a b >>= fun s=>Builtin.max2 s c >>= fun s=>pure s):=by simp only [Builtin.max_,List.foldlM_cons,List.foldlM_nil]
theorem z8 (ats:Array TypeId) (ty:TypeId) (a b c:Value):Builtin.min_ ats ty #[a,b,c]=(Builtin.min2 a b >>= fun s=>Builtin.min2 s c >>= fun s=>pure s):=by simp only [Builtin.min_,List.foldlM_cons,List.foldlM_nil]
theorem D4 (ats:Array TypeId) (ty:TypeId) (a b c d:Value):Builtin.max_ ats ty #[a,b,c,d]=(Builtin.max2 a b >>= fun s=>Builtin.max2 s c >>= fun s=>Builtin.max2 s d >>= fun s=>pure s):=by simp only [Builtin.max_,List.foldlM_cons,List.foldlM_nil]
theorem D2 (ats:Array TypeId) (ty:TypeId) (a b c d:Value):Builtin.min_ ats ty #[a,b,c,d]=(Builtin.min2 a b >>= fun s=>Builtin.min2 s c >>= fun s=>Builtin.min2 s d >>= fun s=>pure s):=by simp only [Builtin.min_,List.foldlM_cons,List.foldlM_nil]
end Go.Proofs.YtfbgaddecbiimaaGreatDoorW.PrintMore
namespace Go.Proofs.YtfbgaddecbiimaaGreatDoorW.PrintWords
open Go.RowKit
def mx (a b:Int):Int:=if a<b then b else a
def mn (a b:Int):Int:=if b<a then b else a
def shl (k:IntKind) (x y:Int):Int:=k.wrap (x*2 ^ min y.toNat k.bits)
def shr (k:IntKind) (x y:Int):Int:=x / 2 ^ min y.toNat k.bits
end Go.Proofs.YtfbgaddecbiimaaGreatDoorW.PrintWords
namespace Go.Proofs.YtfbgaddecbiimaaGreatDoorW.PrintWords
open Go.RowKit
namespace Kd
def V {α:Type} (d:Kd α) (_e:Nat) (W:World) (_base:Nat) (ok:Nat->Prop) (v:Value) (xs:List α):Prop:=∃ A c,v = .slice A xs.length c/\xs.length<=c/\F d W ok A xs.length xs
end Kd
end Go.Proofs.YtfbgaddecbiimaaGreatDoorW.PrintWords
end
section
namespace Go.Proofs.YtfbgaddecbiimaaGreatDoor.V
open Go.RowKit Go.Proofs.YtfbgaddecbiimaaGreatDoorW.PrintWords Go.Proofs.YtfbgaddecbiimaaGreatDoorW.PrintMore
theorem BH (n:Int):IntKind.i64.wrap n=wrap64 n:=by unfold wrap64;exact IntKind.wrap_i64 n
class Pw (n:Nat) (m:outParam Int):Prop where
 h:(2:Int) ^ n=m
instance:Pw 0 1:=⟨by decide⟩
instance:Pw 1 2:=⟨by decide⟩
instance:Pw 2 4:=⟨by decide⟩
instance:Pw 3 8:=⟨by decide⟩
instance:Pw 4 16:=⟨by decide⟩
instance:Pw 5 32:=⟨by decide⟩
instance:Pw 8 256:=⟨by decide⟩
instance:Pw 16 65536:=⟨by decide⟩
instance:Pw 24 16777216:=⟨by decide⟩
instance:Pw 31 2147483648:=⟨by decide⟩
instance:Pw 32 4294967296:=⟨by decide⟩
instance:Pw 48 281474976710656:=⟨by decide⟩
instance:Pw 63 9223372036854775808:=⟨by decide⟩
section
variable {P:Program} {X:Ctx} {S:St} {o:Oper} {t t':TypeId} {x y:Operand} {a b:Int}
theorem a64 (ho:o.op = .binOp .add t x y t') (hx:ev S x=some (.int .i64 a)) (hy:ev S y=some (.int .i64 b)):Pure P X o S (.int .i64 (wrap64 (a+b))):=by
 have:=e8 (P:=P) (X:=X) ho hx hy (.inl rfl) rfl
 rwa [BH] at this
theorem s64 (ho:o.op = .binOp .sub t x y t') (hx:ev S x=some (.int .i64 a)) (hy:ev S y=some (.int .i64 b)):Pure P X o S (.int .i64 (wrap64 (a-b))):=by
 have:=e8 (P:=P) (X:=X) ho hx hy (.inl rfl) rfl
 rwa [BH] at this
theorem m64 (ho:o.op = .binOp .mul t x y t') (hx:ev S x=some (.int .i64 a)) (hy:ev S y=some (.int .i64 b)):Pure P X o S (.int .i64 (wrap64 (a*b))):=by
 have:=e8 (P:=P) (X:=X) ho hx hy (.inl rfl) rfl
 rwa [BH] at this
theorem q64 (ho:o.op = .binOp .quo t x y t') (hx:ev S x=some (.int .i64 a)) (hy:ev S y=some (.int .i64 b)) (c:¬ b=0):Pure P X o S (.int .i64 (wrap64 (Int.tdiv a b))):=by
 have:=e8 (P:=P) (X:=X) ho hx hy (.inl rfl) (v:=.int .i64 (IntKind.i64.wrap (a.tdiv b))) (by simp [JQ,c])
 rwa [BH] at this
theorem rem_ {k:IntKind} (ho:o.op = .binOp .rem t x y t') (hx:ev S x=some (.int k a)) (hy:ev S y=some (.int k b)) (c:¬ b=0):Pure P X o S (.int k (Int.tmod a b)) :=
 e8 (P:=P) (X:=X) ho hx hy (.inl rfl) (by simp [JQ,c])
theorem quoU {k:IntKind} (ho:o.op = .binOp .quo t x y t') (hx:ev S x=some (.int k a)) (hy:ev S y=some (.int k b)) (c:¬ b=0):Pure P X o S (.int k (k.wrap (Int.tdiv a b))) :=
 e8 (P:=P) (X:=X) ho hx hy (.inl rfl) (by simp [JQ,c])
theorem a32 (ho:o.op = .binOp .add t x y t') (hx:ev S x=some (.int .u32 a)) (hy:ev S y=some (.int .u32 b)):Pure P X o S (.int .u32 ((a+b) % 4294967296)):=by
 have:=e8 (P:=P) (X:=X) ho hx hy (.inl rfl) rfl
 rwa [IntKind.wrap_u32] at this
theorem s32 (ho:o.op = .binOp .sub t x y t') (hx:ev S x=some (.int .u32 a)) (hy:ev S y=some (.int .u32 b)):Pure P X o S (.int .u32 ((a-b) % 4294967296)):=by
 have:=e8 (P:=P) (X:=X) ho hx hy (.inl rfl) rfl
 rwa [IntKind.wrap_u32] at this
theorem m32 (ho:o.op = .binOp .mul t x y t') (hx:ev S x=some (.int .u32 a)) (hy:ev S y=some (.int .u32 b)):Pure P X o S (.int .u32 ((a*b) % 4294967296)):=by
 have:=e8 (P:=P) (X:=X) ho hx hy (.inl rfl) rfl
 rwa [IntKind.wrap_u32] at this
theorem c64 {s d:TypeId} {k:IntKind} {ds:TypeDesc} [UL P s ds] [UL P d (.int .i64)] (ho:o.op = .convert s d x) (hx:ev S x=some (.int k a)):Pure P X o S (.int .i64 (wrap64 a)):=by
 have:=j8 (P:=P) (X:=X) ho (UL.h (t:=s)) (UL.h (t:=d)) hx
 rwa [BH] at this
theorem c32 {s d:TypeId} {k:IntKind} {ds:TypeDesc} [UL P s ds] [UL P d (.int .u32)] (ho:o.op = .convert s d x) (hx:ev S x=some (.int k a)):Pure P X o S (.int .u32 (a % 4294967296)):=by
 have:=j8 (P:=P) (X:=X) ho (UL.h (t:=s)) (UL.h (t:=d)) hx
 rwa [IntKind.wrap_u32] at this
theorem cv_ {s d:TypeId} {k k':IntKind} {ds:TypeDesc} [UL P s ds] [UL P d (.int k')] (ho:o.op = .convert s d x) (hx:ev S x=some (.int k a)):Pure P X o S (.int k' (k'.wrap a)) :=
 j8 (P:=P) (X:=X) ho (UL.h (t:=s)) (UL.h (t:=d)) hx
theorem n64 (ho:o.op = .unOp .neg t x) (hx:ev S x=some (.int .i64 a)):Pure P X o S (.int .i64 (wrap64 (-a))):=by
 have:=Dz (P:=P) (X:=X) ho hx
 rwa [BH] at this
theorem c8 {s d:TypeId} {k:IntKind} {ds:TypeDesc} [UL P s ds] [UL P d (.int .u8)] (ho:o.op = .convert s d x) (hx:ev S x=some (.int k a)):Pure P X o S (.int .u8 (a % 256)):=by
 have:=j8 (P:=P) (X:=X) ho (UL.h (t:=s)) (UL.h (t:=d)) hx
 rwa [IntKind.wrap_u8] at this
theorem Fk (n:Int):0<=IntKind.u64.wrap n:=by rw [IntKind.wrap_u64];omega
theorem shlV {k k':IntKind} (ho:o.op = .binOp .shl t x y t') (hx:ev S x=some (.int k a)) (hy:ev S y=some (.int k' b)) (c:0<=b):Pure P X o S (.int k (shl k a b)) :=
 e8 (P:=P) (X:=X) ho hx hy (.inr (.inl rfl)) (by simp only [JQ,Qc (show ¬ b<0 by omega)];rfl)
theorem shrV {k k':IntKind} (ho:o.op = .binOp .shr t x y t') (hx:ev S x=some (.int k a)) (hy:ev S y=some (.int k' b)) (c:0<=b):Pure P X o S (.int k (shr k a b)):=by
 refine e8 (P:=P) (X:=X) ho hx hy (.inr (.inr rfl)) ?_;have h1:(0:Int)<=2 ^ (min b.toNat k.bits):=Vz (Vu (by decide));simp only [JQ,Qc (show ¬ b<0 by omega),XT _ h1];rfl
theorem Eo {s:ByteArray} {k:IntKind} {i:Int} [UL P t .string] (ho:o.op = .index t x y) (hx:ev S x=some (.str s)) (hy:ev S y=some (.int k i)) (b:0<=i) (c:i<(s.size:Int)):Pure P X o S (.int .u8 (bt s i)):=by
 have a:i.toNat<s.size:=Q2;have:=Du (P:=P) (X:=X) ho (UL.h (t:=t)) hx hy b a;rw [bt_at] at this;exact this
theorem shrC {k k':IntKind} {n:Nat} {m:Int} [hp:Pw n m] (ho:o.op = .binOp .shr t x y t') (hx:ev S x=some (.int k a)) (hy:ev S y=some (.int k' (OfNat.ofNat n))) (hn:n<=k.bits):Pure P X o S (.int k (a / m)):=by
 have e:(OfNat.ofNat n:Int)=(n:Int):=rfl;rw [e] at hy;refine e8 (P:=P) (X:=X) ho hx hy (.inr (.inr rfl)) ?_;have h0:¬ ((n:Int)<0):=Q2;have h1:(0:Int)<=2 ^ n:=Vz (Vu (by decide));simp only [JQ,Qc h0,Int.toNat_natCast,QO hn];rw [XT _ h1,hp.h]
theorem shlC {k k':IntKind} {n:Nat} {m:Int} [hp:Pw n m] (ho:o.op = .binOp .shl t x y t') (hx:ev S x=some (.int k a)) (hy:ev S y=some (.int k' (OfNat.ofNat n))) (hn:n<=k.bits):Pure P X o S (.int k (k.wrap (a*m))):=by
 have e:(OfNat.ofNat n:Int)=(n:Int):=rfl;rw [e] at hy;refine e8 (P:=P) (X:=X) ho hx hy (.inr (.inl rfl)) ?_;have h0:¬ ((n:Int)<0):=Q2;simp only [JQ,Qc h0,Int.toNat_natCast,QO hn];rw [hp.h]
theorem pickT {c:Operand} {b:Bool} {p:PV} (ho:o.op = .pick c x y) (hc:ev S c=some (.bool b)) (hb:b=true) (hx:ev S x=some p):Pure P X o S p:=rB ho hc (fun _=>hx) (fun h=>by rw [hb] at h;cases h)
theorem pickF {c:Operand} {b:Bool} {p:PV} (ho:o.op = .pick c x y) (hc:ev S c=some (.bool b)) (hb:b=false) (hy:ev S y=some p):Pure P X o S p:=rB ho hc (fun h=>by rw [hb] at h;cases h) (fun _=>hy)
end
section
variable {P:Program} {X:Ctx} {ops:Array Oper} {o:Oper} {l:List Oper} {S S':St} {Q:St->Prop}
theorem pux {p:PV} (h:Pure P X o S p:=by first
 | exact nB (.inl rfl) rfl
 | exact nB (.inr rfl) rfl
 | exact i_len rfl rfl rfl rfl UL.h rfl
 | exact Af rfl rfl rfl rfl UL.h rfl rfl
 | exact a64 rfl rfl rfl
 | exact s64 rfl rfl rfl
 | exact m64 rfl rfl rfl
 | exact q64 rfl rfl rfl (by first | assumption | decide | omega)
 | exact rem_ rfl rfl rfl (by first | assumption | decide | omega)
 | exact a32 rfl rfl rfl
 | exact s32 rfl rfl rfl
 | exact m32 rfl rfl rfl
 | exact shrC rfl rfl rfl (by decide)
 | exact shlC rfl rfl rfl (by decide)
 | exact shlV rfl rfl rfl (by first | assumption | exact Fk _ | omega)
 | exact shrV rfl rfl rfl (by first | assumption | exact Fk _ | omega)
 | exact quoU rfl rfl rfl (by first | assumption | decide | omega)
 | exact e8 rfl rfl rfl (.inl rfl) rfl
 | exact c64 rfl rfl
 | exact c32 rfl rfl
 | exact c8 rfl rfl
 | exact cv_ rfl rfl
 | exact zM rfl rfl rfl rfl UL.h rfl
 | exact Eo rfl rfl rfl (by first | assumption | omega) (by first | assumption | omega)
 | exact n64 rfl rfl
 | exact Dw rfl rfl
 | exact i_at rfl UL.h IF.h rfl rfl (by first | assumption | omega) (by first | assumption | omega)
 | exact Ep rfl UL.h IF.h rfl rfl rfl (by first | assumption | omega) (by first | assumption | omega)
 | exact i_load rfl UL.h rfl rfl
 | exact yv rfl UL.h rfl rfl rfl (by first | assumption | omega) (by first | assumption | omega)
 | exact En rfl UL.h IF.h rfl rfl (by first | assumption | omega) (by first | assumption | omega)
 | exact Em rfl UL.h IF.h rfl rfl (by first | assumption | omega) (by first | assumption | omega)
 | exact wN rfl UL.h IF.h rfl rfl rfl (by first | assumption | omega) (by first | assumption | omega) (by first | assumption | omega)
 | exact pickT rfl rfl (by first | rfl | assumption) rfl
 | exact pickF rfl rfl (by first | rfl | assumption) rfl
 | exact tM rfl rfl rfl):Pure P X o S p:=h
theorem opx (h:cf P X o S S':=by first
 | (apply Pure.to (hd:=ib hX (by decide));exact pux)
 | exact BG rfl IF.h rfl rfl rfl (by first | assumption | omega) (by first | assumption | omega)):cf P X o S S':=h
theorem opT {oj:Oper} {j:Nat} {t:Tmp} {b b':Bool} (hl:eu P X ops l S' Q) (hg:o.guard=some (j,b):=by rfl) (hj:ops[j]?=some oj:=by rfl) (ht:oj.dst=some t:=by rfl) (he:S.env t=some (.cv (.lit (.bool b'))):=by rfl) (hb:b'=b:=by first | assumption | rfl) (h:cf P X o S S':=by exact opx) (hd:dm X o.dst:=by exact ib hX (by decide)):eu P X ops (o :: l) S Q :=
 iU hg hj ht he hd (fun _=>⟨h,hl⟩) (fun h=>absurd hb h)
theorem Cn {oj:Oper} {j:Nat} {t:Tmp} {b b':Bool} (hl:eu P X ops l (put S o.dst (.cv (.lit undef))) Q) (hg:o.guard=some (j,b):=by rfl) (hj:ops[j]?=some oj:=by rfl) (ht:oj.dst=some t:=by rfl) (he:S.env t=some (.cv (.lit (.bool b'))):=by rfl) (hb:b' = !b:=by first | assumption | rfl) (hd:dm X o.dst:=by exact ib hX (by decide)):eu P X ops (o :: l) S Q :=
 iU (S':=S) hg hj ht he hd (fun h=>by rw [hb] at h;cases b<;>cases h) (fun _=>hl)
theorem opU {oj:Oper} {j:Nat} {t:Tmp} {b:Bool} (hl:eu P X ops l (put S o.dst (.cv (.lit undef))) Q) (hg:o.guard=some (j,b):=by rfl) (hj:ops[j]?=some oj:=by rfl) (ht:oj.dst=some t:=by rfl) (he:S.env t=some (.cv (.lit undef)):=by rfl) (hd:dm X o.dst:=by exact ib hX (by decide)):eu P X ops (o :: l) S Q:=p9 hg hj ht he hd hl
theorem og {oj:Oper} {j:Nat} {t:Tmp} {b b':Bool} (hg:o.guard=some (j,b)) (hj:ops[j]?=some oj) (ht:oj.dst=some t) (he:S.env t=some (.cv (.lit (.bool b')))) (h:b'=b->eu P X ops (o :: l) S Q) (hn:b' = !b->eu P X ops (o :: l) S Q):eu P X ops (o :: l) S Q:=by
 by_cases c:b'=b
 ·exact h c
 exact hn (by cases b<;>cases b'<;>simp_all)
end
end Go.Proofs.YtfbgaddecbiimaaGreatDoor.V
end
section
namespace Go.Proofs.YtfbgaddecbiimaaGreatDoor.V
open Go.RowKit Go.Proofs.YtfbgaddecbiimaaGreatDoorW.PrintWords
class FN (P:Program) (f:FuncId):Prop where
 h:∃ fn,P.funcs[f]?=some fn/\fn.name≠"runtime.NumGoroutine"/\fn.body≠none
section
variable {P:Program} {X:Ctx} {S S':St} {Q:gM} {o:Oper} {ops:Array Oper} {l:List Oper} {q:St->Prop}
theorem bP {c:Code} {D:Type} (F:D->St) (H:Nat->D->Prop) (h:∀ k,(∀ k',k'<k->∀ d,H k' d->wA P X c (F d) Q)->∀ d,H k d->wA P X c (F d) Q) (k:Nat) (d:D) (hk:H k d) (hw:∀ a w,Rel X S a w->Rel X (F d) a w):wA P X c S Q:=by
 have b:∀ k d,H k d->wA P X c (F d) Q:=by
  intro k
  induction k using Nat.strongRecOn with
  | _ k ih=>exact h k ih
 exact ru hw (b k d hk)
theorem iG {x:Code} {D:Type} (F:D->St) (H:D->Prop) (hy:∀ d,H d->Q .normal (F d)) (hx:kp P X x S (gM.then (fun S'=>∃ d,H d/\∀ a w,Rel X S' a w->Rel X (F d) a w) Q)):kp P X x S Q:=fun a w r =>
 Code.wp_mono (fun e a w ⟨S',q,r'⟩=>by
  cases e with
  | normal=>obtain ⟨d,h1,h2⟩:=q;exact ⟨F d,hy d h1,h2 a w r'⟩
  | _=>exact ⟨S',q,r'⟩) (hx a w r)
theorem xf {c:Call} {f:FuncId} {args:List PV} {p:PV} [hF:FN P f] (h:Fn P f args p) (ho:o.op = .call c) (hc:c.callee = .value (.func f)) (ha:aV S c.args.toList=some args) (hcl:args.all closed=true) (hd:dm X o.dst):cf P X o S (put S o.dst p):=by
 obtain ⟨fn,h1,h2,h3⟩:=hF.h;exact Ht ho hc (.inl rfl) h1 h2 h3 ha hcl h hd
theorem il {c:Call} {f:FuncId} {args:List PV} {p:PV} {d:Tmp} [hF:FN P f] (h:Fn P f args p) (hl:eu P X ops l (put S (some d) p) q) (hg:o.guard=none:=by rfl) (ho:o.op = .call c:=by rfl) (hc:c.callee = .value (.func f):=by rfl) (hdd:o.dst=some d:=by rfl) (ha:aV S c.args.toList=some args:=by rfl) (hcl:args.all closed=true:=by rfl) (hd:dm X (some d):=by exact ib hX (by decide)):eu P X ops (o :: l) S q :=
 dE hg (by have:=xf (X:=X) (S:=S) h ho hc ha hcl (by rw [hdd];exact hd);rw [hdd] at this;exact this) hl
theorem opCT {c:Call} {f:FuncId} {args:List PV} {p:PV} {d:Tmp} {oj:Oper} {j:Nat} {t:Tmp} {b b':Bool} [hF:FN P f] (h:Fn P f args p) (hl:eu P X ops l (put S (some d) p) q) (hg:o.guard=some (j,b):=by rfl) (hj:ops[j]?=some oj:=by rfl) (ht:oj.dst=some t:=by rfl) (he:S.env t=some (.cv (.lit (.bool b'))):=by rfl) (hb:b'=b:=by first | assumption | rfl)
 (ho:o.op = .call c:=by rfl) (hc:c.callee = .value (.func f):=by rfl) (hdd:o.dst=some d:=by rfl) (ha:aV S c.args.toList=some args:=by rfl) (hcl:args.all closed=true:=by rfl) (hd:dm X (some d):=by exact ib hX (by decide)):eu P X ops (o :: l) S q :=
 opT hl hg hj ht he hb (hd:=by rw [hdd];exact hd) (h:=by have:=xf (X:=X) (S:=S) h ho hc ha hcl (by rw [hdd];exact hd);rw [hdd] at this;exact this)
theorem x_make {t e:TypeId} {b:Nat} {x y:Operand} {kl kc q:IntKind} {n cap:Int} {k:Tmp} {d:TypeDesc} [hu:UL P t (.slice e)] [hi:IF P e (.int q 0) 1 b] (ho:o.op = .makeSlice t x y) (hk':o.dst=some k) (hx:ev S x=some (.int kl n)) (hy:ev S y=some (.int kc cap)) (f:0<=n) (hnc:n<=cap) (hb:b*cap.toNat<=281474976710656) (hm:cap.toNat<=maxLen) (hk:S.rows k=none) (hd:dm X (some k)) (hkl:k≠cd:=by decide) :
 cf P X o S (put (setRow S k (dw e q (List.replicate n.toNat 0))) (some k) (.own k)):=by
 have c:ev S x=some (.int kl (n.toNat:Int)):=by rw [hx,WC f]
 have a:ev S y=some (.int kc (cap.toNat:Int)):=by rw [hy,WC Q2]
 have:=i_make (X:=X) (S:=S) k ho hu.h hi.h c a Q2 hb hm hk hkl (by rw [hk'];exact hd);rw [hk'] at this;exact this
theorem sB {k:Tmp} (e:TypeId) (q:IntKind) (ho:o.op = .move (.const (.slice none 0 0))∨o.op = .assign (.const (.slice none 0 0))) (hk':o.dst=some k) (hk:S.rows k=none) (hd:dm X (some k)) (hkl:k≠cd:=by decide):cf P X o S (put (setRow S k (dw e q [])) (some k) (.own k)):=by
 have:=Hr (P:=P) (X:=X) (S:=S) k e 1 ho hk hkl (by rw [hk'];exact hd);rw [hk'] at this;exact this
theorem Hm {t e:TypeId} {z:Value} {b n:Nat} {ps:Array (Nat×Operand)} {qs:List (Nat×List CV)} {cs:List CV} [hu:UL P t (.slice e)] [hi:IF P e z 1 b] (ho:o.op = .buildSlice t n ps) (hzc:z.cells = #[z]) (hlim:n<=16777216) (hq:parts S ps.toList=some qs) (hf:iC (fun i=>some (i*1,1)) (List.replicate n (ij z)) qs=some cs) (hd:dm X o.dst) (hsh:cs.all gj=true:=by rfl) :
 cf P X o S (put S o.dst (.cv (.row n cs))):=by
 obtain ⟨a,g1,g2,g3,g4⟩:=hi.h.parts;refine KB (X:=X) (S:=S) ho hu.h g1 g2 Q2 (by rw [g3];omega) hq ?_ hd hsh;rw [g3,hzc,Vs,toList_madeCells_one,List.map_replicate];exact hf
theorem x_lit0 {t e:TypeId} {b:Nat} {q:IntKind} [hu:UL P t (.slice e)] [hi:IF P e (.int q 0) 1 b] (ho:o.op = .buildSlice t 0 #[]) (hd:dm X o.dst):cf P X o S (put S o.dst (.ints q [])):=Hm (cs:=[]) ho rfl (by decide) rfl rfl hd
theorem x_lit1 {t e:TypeId} {b:Nat} {q:IntKind} {x:Operand} {a:Int} [hu:UL P t (.slice e)] [hi:IF P e (.int q 0) 1 b] (ho:o.op = .buildSlice t 1 #[(0,x)]) (hx:ev S x=some (.int q a)) (hd:dm X o.dst):cf P X o S (put S o.dst (.ints q [a])) :=
 Hm (qs:=[(0,[.lit (.int q a)])]) (cs:=[.lit (.int q a)]) ho rfl Q3 (by simp [parts,hx,eA]) rfl hd
theorem x_lit2 {t e:TypeId} {b:Nat} {q:IntKind} {x y:Operand} {a c:Int} [hu:UL P t (.slice e)] [hi:IF P e (.int q 0) 1 b] (ho:o.op = .buildSlice t 2 #[(0,x),(1,y)]) (hx:ev S x=some (.int q a)) (hy:ev S y=some (.int q c)) (hd:dm X o.dst):cf P X o S (put S o.dst (.ints q [a,c])) :=
 Hm (qs:=[(0,[.lit (.int q a)]),(1,[.lit (.int q c)])]) (cs:=[.lit (.int q a),.lit (.int q c)]) ho rfl Q3 (by simp [parts,hx,hy,eA]) rfl hd
end
theorem EY {α β:Type} {x:α} {f:α->Option β} {r:β} (h:(some x).bind f=some r):f x=some r:=h
theorem tkT {α:Type} {c:Prop} [Decidable c] {x y:Option α} {r:α} {b v:Bool} (h:(if c then x else y)=some r) (hb:b=v) (g:b=v->c:=by intro hb;first | exact VE hb | exact hb | exact eq_of_beq hb | exact Xe.1 hb | exact WS.1 hb | (exact XF (Wo hb)) | (exact Vk.1 hb) | (simp at hb;first | exact hb | omega)):c/\x=some r:=by
 rw [Qk (g hb)] at h;exact ⟨g hb,h⟩
theorem tkF {α:Type} {c:Prop} [Decidable c] {x y:Option α} {r:α} {b v:Bool} (h:(if c then x else y)=some r) (hb:b=v) (g:b=v->¬ c:=by intro hb;first | exact Wo hb | exact QE.1 hb | exact WS.1 hb | exact Vk.1 hb | (exact (by rw [hb];decide)) | (simp at hb;first | exact hb | omega | (simp [hb];done))):¬ c/\y=some r:=by
 rw [Qc (g hb)] at h;exact ⟨g hb,h⟩
theorem jC {α:Type} {c:Prop} [Decidable c] {x:Option α} {r:α} (h:(if c then none else x)=some r):¬ c/\x=some r:=by
 by_cases hc:c
 ·rw [Qk hc] at h;cases h
 rw [Qc hc] at h;exact ⟨hc,h⟩
theorem aO {P:Program} {X:Ctx} {c:Code} {S:St} {Q:gM} {xs:List (Nat×PV)} {ys:List (Nat×Row)} (h:wA P X c ⟨look xs,look ys⟩ Q) (hx:has S xs) (hy:Oc S ys) (hw:(xs.all (fun x=>within ys x.2)&&Gl ys)=true):wA P X c S Q:=ru (aY xs ys hx hy hw) h
section
variable {P:Program} {X:Ctx} {S:St} {Q:gM} {o:Oper} {ops:Array Oper} {l:List Oper} {q:St->Prop}
def Av (P:Program) (X:Ctx) (ops:Array Oper) (l:List Oper) (S:St) (q:St->Prop):Prop:=∀ L a w,cM X S L a w->wpStill P ops w (fun a'=>∃ S',q S'/\cM X S' L a' w) l a
theorem lI (h:q S):Av P X ops [] S q:=fun L a w r=>⟨S,h,r⟩
theorem st1 {p:PV} (hl:Av P X ops l (put S o.dst p) q) (hg:o.guard=none:=by rfl) (h:Pure P X o S p:=by exact pux) (hd:dm X o.dst:=by exact ib hX (by decide)):Av P X ops (o :: l) S q:=by
 intro L a w r;obtain ⟨v,h1,h2⟩:=h L a w r;have hw:Region.wanted o (yielded ops a.tmps)=true:=by simp [Region.wanted,hg]
 unfold wpStill;rw [Qk hw];unfold Oper.still;rw [h1,Oper.stillUpon_value];exact hl L _ w (r.put hd h2)
theorem gw {id:Nat} {ops:List Oper} (h:Av P X ops.toArray ops S (fun S'=>Q .normal S')) (hm:P.follows .mixedOrders=true:=by kernel_rfl) (hB:Region.lexB .any ops.toArray=true:=by kernel_rfl):kp P X (.region id ops.toArray true) S Q:=by
 intro a w ⟨L,r⟩;have r2:=r.wide (w':={ w with drawn:=w.drawn+1 }) ⟨rfl,rfl,rfl,Qn _,fun _ _=>rfl⟩;refine wp_region_still_lit hm hB ?_;have:=h L a _ r2;have b:∀ (l:List Oper) (a:Act) (K K':Act->Prop),(∀ a,K a->K' a)->wpStill P ops.toArray { w with drawn:=w.drawn+1 } K l a->wpStill P ops.toArray { w with drawn:=w.drawn+1 } K' l a:=by
  intro l
  induction l with
  | nil=>intro a K K' hk h;exact hk a h
  | cons o l ih =>
   intro a K K' hk h;unfold wpStill at h ⊢;split
   ·rename_i hw;rw [Qk hw] at h;exact Oper.still_mono (fun a=>ih a K K' hk) h
   rename_i hw;rw [Qc hw] at h;exact ih _ K K' hk h
 exact b _ _ _ _ (fun a' ⟨S',h1,h2⟩=>⟨S',h1,L,h2⟩) this
end
def dz (R:Row):Nat->Option Row:=fun k=>if k=cd then some R else none
abbrev dH (l:Value):mJ:=fun k=>if k=cd then l else undef
def Holds (lo:Nat) (w:World) (F:Nat->Prop) (l:Value) (R:Row):Prop:=∃ xs,w.ownsRow lo R.e R.sz l R.n xs/\xs.length=R.data.length/\∀ i (h:i<R.data.length),Den w (.of F) (xs.getD i undef) R.data[i]
def FnW (P:Program) (f:FuncId) (args:List PV) (R:Row) (p:PV) (R':Row):Prop:=R'.sz=R.sz/\∀ (F:Nat->Prop) (w:World) (vs:Array Value) (l:Value) (lo:Nat),(∀ b,F b->b<w.heap.size)->lo<=w.heap.size->vs.size=args.length->(∀ i (h:i<args.length),cQ w (.of F) (dz R) (dH l) (vs.getD i undef) args[i]) ->
 Holds lo w F l R->(∀ b,l.ownBlock=some b->¬ F b) ->
 Calls P f vs w fun e w'=>∃ v,e = .returned v/\w.grownBy w' l.ownBlock/\cQ w' (.of fun b=>F b∨(w.heap.size<=b/\b<w'.heap.size)) nr nl v p/\Holds lo w' (fun b=>F b∨(w.heap.size<=b/\b<w'.heap.size)) l R'/\R'.data.length=R.data.length
theorem Oa {lo lo':Nat} {w w':World} {F F':Nat->Prop} {l:Value} {R R':Row} (h:Holds lo w F l R) (h':Holds lo' w' F' l R'):R'.n=R.n:=by
 obtain ⟨xs,h1,_⟩:=h;obtain ⟨b,a,_⟩:=h';rcases h1.2 with ⟨a1,a2⟩ | ⟨g,cap,cur,a1,_⟩
 ·rcases a.2 with ⟨b1,b2⟩ | ⟨g',cap',cur',b1,_⟩
  ·omega
  rw [a1] at b1;cases b1
 rcases a.2 with ⟨b1,b2⟩ | ⟨g',cap',cur',b1,_⟩
 ·rw [a1] at b1;cases b1
 rw [a1] at b1;injection b1 with _ b2;exact b2.symm
theorem Ag {lo:Nat} {w:World} {F:Nat->Prop} {l:Value} {R:Row} (h:Holds lo w F l R):R.data.length=R.n*R.sz:=by
 obtain ⟨xs,h1,h2,_⟩:=h;rw [<- h2];exact h1.1
section
variable {P:Program} {X:Ctx} {S:St} {o:Oper} {L:mJ} {a:Act} {w w':World}
theorem th {f:FuncId} {fn:Func} {c:Code} {args:List PV} {R R':Row} {p:PV} (hf:P.funcs[f]?=some fn) (hb:fn.body=some c) (hn:args.length<=fn.ntmps) (hsz:R'.sz=R.sz)
 (h:∀ X:Ctx,X.nt=fn.ntmps->kp P X c ⟨uk args,dz R⟩ (fun e S=>(e = .ret∨e = .normal)/\ig P S fn.results.toList p/\S.rows cd=some R')):FnW P f args R p R':=by
 refine ⟨hsz,?_⟩;intro F w vs l lo hF hlo hs ha hR hlF
 let X:Ctx:=⟨w,fn.ntmps,F,hF,l.ownBlock,lo,hlo,fun v=>v=l⟩
 have only:∀ k d,dz R k=some d->k=cd/\d=R:=by
  intro k d h;unfold dz at h;split at h
  ·rename_i e;exact ⟨e,by cases h;rfl⟩
  cases h
 have j:∀ b,MX (dz R) (dH l) b->l.ownBlock=some b:=by
  rintro b ⟨k,d,h,m⟩;obtain ⟨rfl,rfl⟩:=only k d h;simpa [dH] using m
 have st:∀ b,F b->Still X (dz R) (dH l) w b:=fun b h=>⟨.inl h,fun m=>hlF b (j b m) h⟩;have r0:cM X ⟨uk args,dz R⟩ (dH l) { tmps:=vs++Array.replicate (fn.ntmps-vs.size) undef,defers:=[] } w:=by
  refine ⟨by simp;show vs.size+(fn.ntmps-vs.size)=fn.ntmps;omega,rfl,World.grownBy.refl _ _,(fun k d h=>?_),(fun k k' d d' b h h' _ _=>by rw [(only k d h).1,(only k' d' h').1]),(fun k d b h m=>?_),(fun d h=>by simp [dH,X]),fun t q hq=>?_⟩
  ·obtain ⟨rfl,rfl⟩:=only k d h;obtain ⟨xs,h1,m,h3⟩:=hR;exact ⟨xs,by simpa [dH] using h1,m,fun i hi=>((h3 i hi).mono (Fo.jG (F:=.of F) st) (fun _ _=>rfl)).mono (Fo.ks _ _) (fun _ _=>rfl)⟩
  ·obtain ⟨rfl,rfl⟩:=only k d h;exact .inr ⟨rfl,by simpa [dH] using m⟩
  obtain ⟨ht,rfl⟩:=Qx.1 hq;refine ⟨by show t<fn.ntmps;omega,?_⟩;have hv:=(ha t ht).mono (F':=Still X (dz R) (dH l) w) (w':=w) (rows':=dz R) (L':=dH l) ⟨st,fun _ _ h=>h.elim,fun _ h=>h.elim⟩ (fun _ _=>rfl) (fun k r h=>⟨h,rfl⟩);have e:(vs++Array.replicate (fn.ntmps-vs.size) undef).getD t undef=vs.getD t undef:=by
   simp only [Q9];rw [Wc Q2]
  show cQ w (Still X (dz R) (dH l) w) (dz R) (dH l) ((vs++Array.replicate (fn.ntmps-vs.size) undef).getD t undef) args[t];rw [e];exact hv
 refine calls_of_wp hf hb (Code.wp_mono ?_ (h X rfl _ _ ⟨dH l,r0⟩));rintro e a w' ⟨S,⟨he,hr,hR'⟩,L,r⟩;obtain ⟨v,h1,m⟩:=hr.run r;have hL:L cd=l:=r.pin R' hR';have hH:Holds lo w' (fun b=>F b∨(w.heap.size<=b/\b<w'.heap.size)) l R':=by
  obtain ⟨xs,q1,q2,q3⟩:=r.row cd R' hR';rw [hL] at q1;exact ⟨xs,q1,q2,fun i hi=>(show Den w' (Still X S.rows L w').shut _ _ from q3 i hi).mono ⟨fun b h=>h.1,fun _ _ h=>h.elim,fun _ h=>h.elim⟩ (fun _ _=>rfl)⟩
 have g:a.defers=[]/\∃ v,(results fn a.tmps).run P w' = .ok v w'/\∃ u,Ending.returned v = .returned u/\w.grownBy w' l.ownBlock/\cQ w' (.of fun b=>F b∨(w.heap.size<=b/\b<w'.heap.size)) nr nl u p/\Holds lo w' (fun b=>F b∨(w.heap.size<=b/\b<w'.heap.size)) l R'/\R'.data.length=R.data.length :=
  ⟨r.defers,v,h1,v,rfl,r.below,m.mono ⟨fun b h=>h.1,fun _ _ h=>h.elim,fun _ h=>h.elim⟩ (fun _ _=>rfl) (fun k r h=>by cases h),hH,by rw [Ag hH,Ag hR,Oa hR hH,hsz]⟩
 rcases he with rfl | rfl
 ·exact g
 exact g
def Jf (k:Nat):PV->PV
 | .own _=>.own k
 | .win _ o n=>.win k o n
 | .po _ o=>.po k o
 | p=>p
def e9:PV->Bool
 | .own j=>j==cd
 | .win j _ _=>j==cd
 | .po j _=>j==cd
 | .tup _=>false
 | .cv c=>gj c
 | .ag cs=>cs.all gj
 | .pr _=>true
 | .map _=>false
theorem cQ.lend {F:Fo} {k:Nat} {R:Row} {v:Value} {p q:PV} (h:cQ w F S.rows L v q) (hq:q=Jf k p) (hp:e9 p=true) (hk:S.rows k=some R):cQ w F.shut (dz R) (dH (L k)) v p:=by
 have hr:dz R cd=some R:=by simp [dz]
 have hl:dH (L k) cd=L k:=by simp [dH]
 cases p with
 | cv c=>subst hq;cases h with | cv h=>exact .cv (h.shut hp)
 | ag c=>subst hq;cases h with | ag hl h=>exact .ag hl (fun i hi=>(h i hi).shut (by rw [e9,QA] at hp;exact hp _ (Qi hi)))
 | pr c=>subst hq;cases h with | pr vs hs hF hc hd=>exact .pr vs hs hF hc hd
 | tup c=>simp [e9] at hp
 | map c=>simp [e9] at hp
 | own j =>
  have:j=cd:=by simpa [e9] using hp
  subst this;subst hq;cases h with
  | own h =>
   rw [<- hl];exact .own hr
 | win j off n =>
  have:j=cd:=by simpa [e9] using hp
  subst this;subst hq;cases h with
  | win h hL ho hn hb ha =>
   rw [hk] at h;cases h;exact .win hr (by rw [hl];exact hL) ho hn hb ha
 | po j off =>
  have:j=cd:=by simpa [e9] using hp
  subst this;subst hq;cases h with
  | po h hL ho =>
   rw [hk] at h;cases h;exact .po hr (by rw [hl];exact hL) ho
theorem BO (r:cM X S L a w):∀ (xs:List Operand) (ps:List PV),aV S xs=some ps->xs.length=ps.length/\∀ i (h:i<ps.length) (h':i<xs.length),cQ w (Still X S.rows L w) S.rows L (a.eval xs[i]) ps[i]
 | [],ps,h=>by simp only [aV,Qj] at h;subst h;exact ⟨rfl,fun i h=>by simp at h⟩
 | x :: xs,ps,h=>by
  simp only [aV] at h;split at h
  ·rename_i p ps' h1 h2;cases h;obtain ⟨g1,g2⟩:=BO r xs ps' h2;refine ⟨by simp [g1],fun i hi hi'=>?_⟩;cases i with
   | zero=>exact r.ev h1
   | succ i=>exact g2 i (by simpa using hi) (by simpa using hi')
  cases h
theorem CC {c:Call} {f:FuncId} {fn:Func} {args args':List PV} {p:PV} {k:Nat} {R R' R0:Row} (ho:o.op = .call c) (hc:c.callee = .value (.func f)) (hf:P.funcs[f]?=some fn) (hn:fn.name≠"runtime.NumGoroutine") (hb:fn.body≠none)
 (h:FnW P f args R p R') (hk:S.rows k=some R0) (hR:R0=R) (ha:aV S c.args.toList=some args') (hargs:args'=args.map (Jf k)) (hlend:args.all e9=true) (hd:dm X o.dst) (hko:Nat.ble opened k=false:=by rfl):cf P X o S (put (setRow S k R') o.dst p):=by
 subst hR;intro a w ⟨L,r⟩;obtain ⟨g1,g2⟩:=BO r _ _ ha;have hr:(execOp a.eval o).run P w = .ok (.enter f (c.args.map a.eval)) w:=by
  have t:a.eval (.func f) = .func (.func f) #[] #[]:=rfl;simp [execOp,ho,resolve,hc,t,Deferred.ofValue,invoke,callFunc,hf,hn,hb]
 have g:c.args.toList.length=args.length:=by rw [g1,hargs];simp
 unfold Oper.wp;rw [hr,Oper.upon_enter];obtain ⟨n,h⟩:=h;refine (h (Still X S.rows L w).b w (c.args.map a.eval) (L k) X.lo (fun b hb=>Still.lt r.below hb) (Qu X.hlo r.below.size) (by simpa using g) (fun i hi=>?_) (by obtain ⟨xs,q1,q2,q3⟩:=r.row k _ hk;simp only [Fo.at,hko,cond_false] at q3;exact ⟨xs,q1,q2,q3⟩) (fun b hb hs=>hs.2 ⟨k,_,hk,hb⟩)).mono ?_
 ·have m:i<c.args.size:=by
   have:c.args.size=args.length:=by simpa using g
   omega
  have s:i<args'.length:=by rw [hargs];simpa using hi
  have:=g2 i s (by simpa using m);have e:args'[i]=Jf k args[i]:=by simp [hargs]
  have hp:e9 args[i]=true:=QA.1 hlend _ (Qi hi);have:=this.lend e hp hk;show cQ w (Still X S.rows L w).shut (dz R0) (dH (L k)) ((c.args.map a.eval).getD i undef) args[i];simpa [Q9,Qg m] using this
 rintro e w' ⟨v,rfl,hg,hv,⟨xs,q1,q2,q3⟩,hdl⟩;have l:∀ b,(Still X S.rows L w b->Still X (setRow S k R').rows L w' b)->(Still X S.rows L w b∨(w.heap.size<=b/\b<w'.heap.size))->Still X (setRow S k R').rows L w' b:=by
  intro b st h;rcases h with h | ⟨h1,h2⟩
  ·exact st h
  refine ⟨.inr ⟨Qu r.below.size h1,h2⟩,?_⟩;rintro ⟨j,d,h3,h4⟩;simp only [setRow] at h3
  by_cases c:j=k
  ·subst c;have:=(r.oG hk b h4).2;omega
  rw [Qc c] at h3;have:=(r.oG h3 b h4).2;omega
 have st:∀ b,Still X S.rows L w b->Still X (setRow S k R').rows L w' b:=by
  intro b h;refine ⟨?_,?_⟩
  ·rcases h.1 with h1 | ⟨h1,h2⟩
   ·exact .inl h1
   exact .inr ⟨h1,QN h2 hg.size⟩
  rintro ⟨j,q,h1,h2⟩;simp only [setRow] at h1
  by_cases c:j=k
  ·subst c;exact h.2 ⟨j,_,hk,h2⟩
  rw [Qc c] at h1;exact h.2 ⟨j,q,h1,h2⟩
 have r2:cM X (setRow S k R') L a w':=r.set' (d':=R') hk hg q1 q2 n hdl (fun _ _ i hi=>((q3 i hi).mono (F':=(Still X (setRow S k R').rows L w').shut) ⟨fun b h=>l b (st b) h,fun _ _ h=>h.elim,fun _ h=>h.elim⟩ (fun _ _=>rfl)).mono (Fo.ks _ _) (fun _ _=>rfl));exact ⟨L,r2.put hd (hv.mono ⟨fun b h=>l b (st b) h,fun _ _ h=>h.elim,fun _ h=>h.elim⟩ (fun _ _=>rfl) (fun k d h=>by cases h))⟩
theorem NQ {ops:Array Oper} {l:List Oper} {q:St->Prop} {c:Call} {f:FuncId} {args args':List PV} {p:PV} {d:Tmp} {k:Nat} {R R' R0:Row} [hF:FN P f] (h:FnW P f args R p R') (hR:R0=R) (hargs:args'=args.map (Jf k)) (hl:eu P X ops l (put (setRow S k R') (some d) p) q) (hk:S.rows k=some R0:=by rfl) (hg:o.guard=none:=by rfl) (ho:o.op = .call c:=by rfl) (hc:c.callee = .value (.func f):=by rfl) (hdd:o.dst=some d:=by rfl) (ha:aV S c.args.toList=some args':=by rfl) (hlend:args.all e9=true:=by rfl) (hd:dm X (some d):=by exact ib hX (by decide)) (hko:Nat.ble opened k=false:=by rfl):eu P X ops (o :: l) S q:=by
 obtain ⟨fn,h1,h2,h3⟩:=hF.h;exact dE hg (by have:=CC (X:=X) (S:=S) (o:=o) ho hc h1 h2 h3 h hk hR ha hargs hlend (by rw [hdd];exact hd) hko;rw [hdd] at this;exact this) hl
section
variable {t e e':TypeId} {x y:Operand} {q kk:IntKind} {i:Int} {k:Nat}
theorem w_at {z:Value} {b off n:Nat} {d:Row} (ho:o.op = .indexAddr t x y) (hu:P.underlying t=some (.slice e)) (hi:Info P e z 1 b) (hx:ev S x=some (.win k off n)) (hk:S.rows k=some d) (hs:d.sz=1) (hy:ev S y=some (.int kk i)) (l:0<=i) (p:i<n):Pure P X o S (.po k (off+i.toNat)):=by
 obtain ⟨j,g1,g2,g3,g4⟩:=hi.parts;intro L a w r;have h:=r.ev hx;generalize hv:a.eval x=v at h;obtain ⟨xs,p1,p2,p3⟩:=r.row k d hk;cases h with
 | @win a' _ _ _ g m cap c d' h hL ho' hn hb ha =>
  rw [hk] at h;cases h;have f:=ha Q2;subst f;rw [hs,Vs] at *
  refine ⟨.pointer (some ⟨g,off+i.toNat,none⟩),?_,.po hk hL ?_⟩
  ·simp [execOp,ho,Instr.indexAt,asIntOf,hv,(r.ev hy).lit,run_underlying hu,sizeOf,typeInfo,g1,g3,l,p,add_plain]
  rw [<- p2,p1.1,hs,Vs];rw [hL] at p1;rcases p1.2 with ⟨b1,_⟩ | ⟨g',c',cur,b1,_⟩
  ·cases b1
  cases b1;omega
theorem rd_mid (pre l post:List Int) (i:Nat) (h:i<l.length):(pre++l++post)[pre.length+i]?=some (rd l i):=by
 rw [Vb,Vj Q2,Vm Q2];simp [rd,h]
theorem w_load {ds:TypeDesc} {pre l post:List Int} (ho:o.op = .load t x) (hu:P.underlying t=some ds) (hd:(match ds with | .struct _ | .array _ _=>true | _=>false)=false) (hx:ev S x=some (.po k (pre.length+i.toNat))) (hk:S.rows k=some (dw e q (pre++l++post))) (a:0<=i) (b:i<l.length):Pure P X o S (.int q (rd l i)):=by
 refine gV ho hu hd hx hk ?_;have:=rd_mid pre l post i.toNat Q2;simp only [ints,VJ,this,WC a];rfl
theorem Hv (pre l post:List Int) (i:Nat) (v:Int) (h:i<l.length):(pre++l++post).set (pre.length+i) v=pre++l.set i v++post:=by
 rw [Vb,Vb,Xy _ _ Q2,Yg,List.set_append_left _ _ h]
theorem Na {z:Value} {b:Nat} {v:Int} {pre l post:List Int} (ho:o.op = .store t x y) (hi:Info P t z 1 b) (hx:ev S x=some (.po k (pre.length+i.toNat))) (hk:S.rows k=some (dw e q (pre++l++post))) (hy:ev S y=some (.int q v)) (c:0<=i) (d:i<l.length):cf P X o S (drop (setRow S k (dw e q (pre++l.set i.toNat v++post))) o.dst):=by
 have a:ev S x=some (.po k (((pre.length+i.toNat:Nat):Int).toNat*1)):=by rw [hx,Int.toNat_natCast,Vs]
 have:=BG (X:=X) (S:=S) ho hi a hk hy Q2 (by simp only [Qf];omega);rw [Int.toNat_natCast,Hv pre l post i.toNat v Q2] at this;exact this
end
end
end Go.Proofs.YtfbgaddecbiimaaGreatDoor.V
end
section
set_option linter.unusedVariables false
set_option linter.unusedSimpArgs false
namespace Go.Proofs.YtfbgaddecbiimaaGreatDoorW.PrintMore
open Go.RowKit Go.Proofs.YtfbgaddecbiimaaGreatDoorW.PrintWords
def kN (xs ys:List Int):List Int:=ys.take (min ys.length xs.length)++xs.drop (min ys.length xs.length)
def wx (xs ys:List Int):Int:=((min ys.length xs.length:Nat):Int)
section
variable {k:IntKind} {pre post:List Int} {hc e:Nat} {w w1:World} {base:Nat} {ok ok':Nat->Prop} {v:Value} {xs:List Int}
theorem Hv (pre xs post:List Int) (i:Nat) (x:Int) (hi:i<xs.length):(pre++xs++post).set (pre.length+i) x=pre++xs.set i x++post:=by
 rw [List.append_assoc,List.set_append_right _ _ (by omega),show pre.length+i-pre.length=i by omega,List.set_append_left _ _ hi,List.append_assoc]
end
end Go.Proofs.YtfbgaddecbiimaaGreatDoorW.PrintMore
end
section
namespace Go.Proofs.YtfbgaddecbiimaaGreatDoor.V
open Go.RowKit Go.Proofs.YtfbgaddecbiimaaGreatDoorW.PrintWords Go.Proofs.YtfbgaddecbiimaaGreatDoorW.PrintMore
theorem BU {w:World} {F:Fo} {v:Value} {n:Nat} {cs:List CV} (h:Den w F v (.row n cs)):∃ sp sc,v = .slice sp n sc/\(0<cs.length->∃ (ad:Addr) (vs:Nat->Value),sp=some ad/\(∀ i,i<cs.length->w.cell? (ad.add i)=some (vs i))/\∀ i (h:i<cs.length),Den w F.shut (vs i) cs[i]):=by
 cases h with
 | nil a c h=>exact ⟨a,c,rfl,fun h=>by simp at h⟩
 | row ad n c cs vs hs hF hn hc hd=>exact ⟨some ad,c,rfl,fun _=>⟨ad,vs,rfl,hc,hd⟩⟩
section
variable {P:Program} {X:Ctx} {S:St} {o:Oper} {k:Nat}
theorem setRow_self {d:Row} (hk:S.rows k=some d):setRow S k d=S:=by
 cases S with
 | mk env rows =>
  simp only [setRow,St.mk.injEq,true_and];funext j;split
  ·rename_i h;rw [h];exact hk.symm
  rfl
theorem i_copy {c:Call} {x y:Operand} {t s e e':TypeId} {z:Value} {b:Nat} {q:IntKind} {l m:List Int} (ho:o.op = .call c) (hc:c.callee = .builtin .copy) (ha:c.args = #[x,y]) (ht:c.argTypes = #[t,s]) (hu:P.underlying t=some (.slice e)) (hi:Info P e z 1 b)
 (hx:ev S x=some (.own k)) (hk:S.rows k=some (dw e' q l)) (hy:ev S y=some (.ints q m)) (hd:dm X o.dst):cf P X o S (put (setRow S k (dw e' q (kN l m))) o.dst (.int .i64 (wx l m))):=by
 obtain ⟨Z,g1,g2,g3,g4⟩:=hi.parts;have H:(P.info? e).map (·.size)=some 1:=by rw [g1];simp [g3]
 intro a w ⟨L,r⟩;obtain ⟨xs,q1,q2,q3⟩:=r.row k _ hk;have K:=r.ev hx;have J:=r.ev hy;generalize hvx:a.eval x=vx at K;generalize hvy:a.eval y=vy at J;have own:vx=L k:=by cases K with | own h=>rfl
 have B:∀ w' v,(Builtin.copy_ #[t,s] o.type #[vx,vy]).run P w = .ok v w'->v = .int .i64 (wx l m)->cM X (setRow S k (dw e' q (kN l m))) L a w'->o.wp P a w (fun a' w'=>Rel X (put (setRow S k (dw e' q (kN l m))) o.dst (.int .i64 (wx l m))) a' w') (fun _ _ _=>False):=by
  rintro w' v h1 rfl h2;refine cW (v:=.int .i64 (wx l m)) (w':=w') ?_ ⟨L,h2.put hd (.cv (.lit _))⟩;simp [execOp,ho,resolve,hc,ha,ht,invoke,builtin,hvx,hvy,h1]
 have C:∃ sp sc,vy = .slice sp m.length sc/\(0<m.length->∃ (ad:Addr) (vs:Nat->Value),sp=some ad/\(∀ i,i<m.length->w.cell? (ad.add i)=some (vs i))/\∀ i (h:i<m.length),Den w (Still X S.rows L w).shut (vs i) (.lit (.int q m[i]))):=by
  cases J with
  | cv hden =>
   obtain ⟨sp,sc,h1,h2⟩:=BU hden;refine ⟨sp,sc,h1,fun h0=>?_⟩;obtain ⟨ad,vs,h3,h4,h5⟩:=h2 (by rw [bW];exact h0);refine ⟨ad,vs,h3,fun i hi=>h4 i (by rw [bW];exact hi),fun i hi=>?_⟩;have:=h5 i (by rw [bW];exact hi);simpa [ints] using this
 obtain ⟨sp,sc,A,M⟩:=C
 by_cases h0:min m.length l.length=0
 ·have U:∃ dp dc,L k = .slice dp l.length dc:=by
   rcases q1.2 with ⟨b1,b2⟩ | ⟨g,cap,cur,b1,_⟩
   ·exact ⟨none,0,by rw [b1,show l.length=0 from b2]⟩
   exact ⟨_,_,b1⟩
  obtain ⟨dp,dc,Q⟩:=U;have p:=run_copy_none (P:=P) w t s o.type e dp sp l.length dc m.length sc hu H h0;have e1:kN l m=l:=by simp [kN,h0]
  refine B w _ (by rw [own,Q,A];exact p) (by simp [wx,h0];rfl) ?_;rw [e1,setRow_self hk];exact r
 obtain ⟨ad,vs,rfl,R,I⟩:=M Q2;rcases q1.2 with ⟨b1,b2⟩ | ⟨g,cap,cur,b1,b2,b3,b4,b5,b6,b7⟩
 ·have:l.length=0:=b2;omega
 have W:min m.length l.length<=m.length:=Nat.min_le_left _ _;have V:min m.length l.length<=l.length:=Nat.min_le_right _ _;simp only [Vs] at b6 b7;have Y:l.length<=cur.size:=by rw [b6];exact b4
 have G:xs.length=l.length:=by rw [q2,bW]
 let cs:=(List.range (min m.length l.length)).map vs
 have f:cs.length=min m.length l.length:=by simp [cs]
 have N:∀ v∈cs,v.oneCell'=true:=by
  intro v hv;simp only [cs,Qs,Wu] at hv;obtain ⟨i,hi,rfl⟩:=hv;exact (I i Q2).one rfl
 have D:∀ j v,cs[j]?=some v->w.cell? (ad.add j)=some v:=by
  intro j v hj;simp only [cs,VJ,Qr] at hj;obtain ⟨i,O,F⟩:=hj;obtain ⟨h3,rfl⟩:=Qx.1 O;simp at h3 F;subst F;exact R j Q2
 have p:=run_copy_row (P:=P) w t s o.type e g 0 l.length cap ad m.length sc cur e' cs hu H b3 f D (by rw [f];omega) N;have hg:w.grownBy (w.setRow g (cur.toList.take 0++cs++cur.toList.drop (0+cs.length)).toArray) (L k).ownBlock:=by
  rw [b1];exact ⟨rfl,rfl,rfl,by simp [World.setRow],fun j _ hj=>setRow_other w g j _ (fun e=>hj (by rw [e];rfl))⟩
 have d:(kN l m).length=l.length:=by
  simp only [kN,Qf,Qd,Qq];omega
 have u:(dw e' q (kN l m)).n=(dw e' q l).n:=d;refine B _ _ (by rw [own,b1,A];exact p) (by rw [f];rfl) (r.set (d':=dw e' q (kN l m)) (xs:=cs++xs.drop cs.length) hk hg ?_ ?_ rfl ?_ ?_)
 ·rw [b1];refine ⟨?_,.inr ⟨g,cap,_,by rw [u],b2,setRow_heap w g cur _ e' _ b3,by rw [u];exact b4,b5,?_,?_⟩⟩
  ·simp only [Qf,Qq,f,G,Vs,d];omega
  ·simp only [List.take_zero,List.nil_append,Y6,Qf,Qq,Array.length_toList,f];omega
  simp only [List.take_zero,List.nil_append,QS,Vs,d];rw [WG,Qp (by rw [f];omega),<- b7];simp only [VM]
 ·simp only [Qf,Qq,f,G,bW,d];omega
 ·simp only [bW,d]
 intro i hi;simp only [bW,d] at hi
 by_cases c1:i<cs.length
 ·have h2:=I i Q2;have e1:(cs++xs.drop cs.length).getD i undef=vs i:=by
   simp only [Q6];rw [Vm c1];simp [cs,show i<min m.length l.length by omega]
  have e2:(ints q (kN l m))[i]'(by rw [bW,d];exact hi) = .lit (.int q (m[i]'Q2)):=by
   simp only [ints,Qz,kN];rw [QC (by simp;omega)];simp
  show Den w _ _ ((ints q (kN l m))[i]'(by rw [bW,d];exact hi));rw [e1,e2];exact h2.mono (Fo.ks _ _) (fun _ _=>rfl)
 have h2:=q3 i (by simp only [bW];exact hi);have e1:(cs++xs.drop cs.length).getD i undef=xs.getD i undef:=by
  simp only [Q6];rw [Vj Q2,WI];congr 2;omega
 have e2:(ints q (kN l m))[i]'(by rw [bW,d];exact hi)=(ints q l)[i]'(by rw [bW];exact hi):=by
  simp only [ints,Qz,kN];rw [QR (by simp;omega)];simp only [V0,Qd];congr 2;congr 1;omega
 show Den w _ _ ((ints q (kN l m))[i]'(by rw [bW,d];exact hi));rw [e1,e2];exact h2
end
def L5 (P:Program) (s:TypeId) (i:Nat):Option (Nat×Nat) :=
 match P.underlying s with
 | some (.struct fs)=>(fs[i]?).bind fun f=>(P.info? f.type).map fun inf=>(f.offset,inf.size)
 | _=>none
class FP (P:Program) (s:TypeId) (i:Nat) (off:outParam Nat) (sz:outParam Nat):Prop where
 h:L5 P s i=some (off,sz)
 pos:sz≠0
theorem FP.parts {P:Program} {s:TypeId} {i off sz:Nat} (h:FP P s i off sz):∃ fs f inf,P.underlying s=some (.struct fs)/\fs[i]?=some f/\P.info? f.type=some inf/\f.offset=off/\inf.size=sz/\inf.size≠0:=by
 have h1:=h.h;unfold L5 at h1;split at h1
 ·rename_i fs hu;obtain ⟨f,hf,h2⟩:=Q5 h1;obtain ⟨inf,hi,h3⟩:=Qr.1 h2;cases h3;exact ⟨fs,f,inf,hu,hf,hi,rfl,rfl,h.pos⟩
 cases h1
def sinfo (P:Program) (s:TypeId):Option (Nat×List CV×List (Nat×Nat)) :=
 match P.underlying s with
 | some (.struct fs)=>(P.info? s).bind fun inf=>inf.zero.bind fun z=>(match z with | .agg vs=>some (vs.toList.map ij) | _=>none).bind fun cs=>(fs.toList.mapM (fun f:Field=>(P.info? f.type).map fun (i:TypeInfo)=>(f.offset,i.size))).map fun pl=>(inf.size,cs,pl)
 | _=>none
class SI (P:Program) (s:TypeId) (sz:outParam Nat) (cs:outParam (List CV)) (pl:outParam (List (Nat×Nat))):Prop where
 h:sinfo P s=some (sz,cs,pl)
theorem SI.parts {P:Program} {s:TypeId} {sz:Nat} {cs:List CV} {pl:List (Nat×Nat)} (h:SI P s sz cs pl):∃ fs inf vs,P.underlying s=some (.struct fs)/\P.info? s=some inf/\inf.zero=some (.agg vs)/\inf.size=sz/\vs.toList.map ij=cs/\fs.toList.mapM (fun f=>(P.info? f.type).map fun i=>(f.offset,i.size))=some pl:=by
 have h1:=h.h;unfold sinfo at h1;split at h1
 ·rename_i fs hu;obtain ⟨inf,hi,h2⟩:=Q5 h1;obtain ⟨z,hz,h3⟩:=Q5 h2;obtain ⟨a,hc,h4⟩:=Q5 h3;obtain ⟨b,hp,h5⟩:=Qr.1 h4;cases h5;split at hc
  ·cases hc;exact ⟨fs,inf,_,hu,hi,hz,rfl,rfl,hp⟩
  cases hc
 cases h1
class SZ (P:Program) (t:TypeId) (sz:outParam Nat):Prop where
 h:(P.info? t).map (·.size)=some sz
theorem SZ.parts {P:Program} {t:TypeId} {sz:Nat} (h:SZ P t sz):∃ inf,P.info? t=some inf/\inf.size=sz:=by
 have:=h.h;cases hi:P.info? t with
 | none=>simp [hi] at this
 | some inf=>simp [hi] at this;exact ⟨inf,rfl,this⟩
def plain:TypeDesc->Bool
 | .struct _=>false
 | .array _ _=>false
 | _=>true
section
variable {P:Program} {X:Ctx} {S:St} {o:Oper} {k:Nat} {d:Row}
theorem f_at {s:TypeId} {x:Operand} {i k off fo sz:Nat} [hF:FP P s i fo sz] (ho:o.op = .fieldAddr s x i) (hx:ev S x=some (.po k off)) (hd:S.rows k=some d) (hl:off+fo<d.data.length):Pure P X o S (.po k (off+fo)):=by
 obtain ⟨fs,f,a,h1,h2,h3,rfl,h5,h6⟩:=hF.parts;exact lP ho h1 h2 h3 h6 hx hd hl
theorem Oi {s:TypeId} {x:Operand} {i fo sz:Nat} {cs:List CV} [hF:FP P s i fo sz] (ho:o.op = .fieldAddr s x i) (hx:ev S x=some (.pr cs)):Pure P X o S (.pr ((cs.drop fo).take sz)):=by
 obtain ⟨fs,f,a,h1,h2,h3,rfl,rfl,h6⟩:=hF.parts;exact my ho h1 h2 h3 h6 hx
theorem f_load {t:TypeId} {ds:TypeDesc} {x:Operand} {off:Nat} {c:CV} [hu:UL P t ds] (ho:o.op = .load t x) (hds:plain ds=true) (hx:ev S x=some (.po k off)) (hd:S.rows k=some d) (hc:d.data[off]?=some c):Pure P X o S (.cv c):=by
 have a:=hu.h;cases ds<;>first | (cases hds;done) | exact gV ho a rfl hx hd hc
theorem JY {t:TypeId} {ds:TypeDesc} {x:Operand} {c:CV} {cs:List CV} [hu:UL P t ds] (ho:o.op = .load t x) (hds:plain ds=true) (hx:ev S x=some (.pr cs)) (hc:cs=[c]):Pure P X o S (.cv c):=by
 subst hc;have a:=hu.h;cases ds<;>first | (cases hds;done) | exact uJ ho a rfl hx
theorem JZ {t:TypeId} {x:Operand} {off sz:Nat} {z:List CV} {pl:List (Nat×Nat)} [hS:SI P t sz z pl] (ho:o.op = .load t x) (hx:ev S x=some (.po k off)) (hd:S.rows k=some d) (hl:(off+sz).ble d.data.length=true):Pure P X o S (.ag ((d.data.drop off).take sz)):=by
 obtain ⟨fs,a,vs,h1,h2,h3,rfl,h5,h6⟩:=hS.parts;exact nC ho h1 h2 hx hd (Qe hl)
theorem BM {t:TypeId} {x:Operand} {sz:Nat} {z cs:List CV} {pl:List (Nat×Nat)} [hS:SI P t sz z pl] (ho:o.op = .load t x) (hx:ev S x=some (.pr cs)) (hl:cs.length=sz):Pure P X o S (.ag cs):=by
 obtain ⟨fs,a,vs,h1,h2,h3,rfl,h5,h6⟩:=hS.parts;exact tL ho h1 h2 hl hx
theorem f_get {s:TypeId} {x:Operand} {i fo sz:Nat} {cs:List CV} {c:CV} {ds:TypeDesc} {ft:TypeId} [hF:FP P s i fo sz] (ho:o.op = .field s x i) (hx:ev S x=some (.ag cs)) (hft:(match P.underlying s with | some (.struct fs)=>(fs[i]?).bind fun f=>P.underlying f.type | _=>none)=some ds) (hds:plain ds=true) (hc:cs[fo]?=some c):Pure P X o S (.cv c):=by
 obtain ⟨fs,f,a,h1,h2,h3,rfl,h5,h6⟩:=hF.parts;rw [h1] at hft;simp only [h2,Option.bind_some] at hft;cases ds<;>first | (cases hds;done) | exact xH ho h1 h2 hft rfl hx hc
theorem Oh {t:TypeId} {ps:Array (Nat×Operand)} {sz:Nat} {z cs:List CV} {pl:List (Nat×Nat)} {qs:List (Nat×List CV)} [hS:SI P t sz z pl] (ho:o.op = .build t ps) (hq:parts S ps.toList=some qs) (hf:iC (pl.toArray[·]?) z qs=some cs):Pure P X o S (.ag cs):=by
 obtain ⟨fs,a,vs,h1,h2,h3,h4,rfl,h6⟩:=hS.parts;exact sK ho h1 h2 h3 h6 hq hf
theorem x_box {e:TypeId} {x:Operand} {p:PV} {cs:List CV} {k:Tmp} (ho:o.op = .box e x) (hk':o.dst=some k) (hx:ev S x=some p) (hc:eA p=some cs) (hp:Nat.ble 1 cs.length=true) (hk:S.rows k=none) (hd:dm X (some k)) (hkl:k≠cd:=by decide) (hsh:(Nat.ble opened k||cs.all gj)=true:=by rfl):cf P X o S (put (setRow S k ⟨e,cs.length,1,cs⟩) (some k) (.po k 0)):=by
 have:=to_box (P:=P) (X:=X) (S:=S) k ho hx hc (Qe hp) hk hkl (by rw [hk'];exact hd) hsh;rw [hk'] at this;exact this
theorem M6 {e:TypeId} {k:Tmp} {sz:Nat} {z:List CV} {pl:List (Nat×Nat)} [hS:SI P e sz z pl] (ho:o.op = .alloc e) (hk':o.dst=some k) (hp:Nat.ble 1 z.length=true) (hk:S.rows k=none) (hd:dm X (some k)) (hkl:k≠cd:=by decide):cf P X o S (put (setRow S k ⟨e,z.length,1,z⟩) (some k) (.po k 0)):=by
 obtain ⟨fs,a,vs,h1,h2,h3,h4,rfl,h6⟩:=hS.parts;have:=CD (P:=P) (X:=X) (S:=S) k ho h2 h3 (cs:=vs.toList.map ij) rfl (by
  refine ⟨by simp [Value.cells],fun i h=>?_⟩;have h':i<vs.size:=by simpa using h
  have e:(Value.agg vs).cells.getD i undef=vs[i]:=by
   show vs.getD i undef=_;rw [Q9,Qg h'];rfl
  rw [e];simp) (Qe hp) hk hkl (by rw [hk'];exact hd)
 rw [hk'] at this;exact this
theorem Og {t:TypeId} {x y:Operand} {off sz:Nat} {p:PV} {cs:List CV} [hZ:SZ P t sz] (ho:o.op = .store t x y) (hx:ev S x=some (.po k off)) (hd:S.rows k=some d) (hy:ev S y=some p) (hc:eA p=some cs) (b:cs.all one=true) (hs:cs.length=sz) (hl:(off+cs.length).ble d.data.length=true) (hsh:(Nat.ble opened k||cs.all gj)=true:=by rfl):cf P X o S (drop (setRow S k { d with data:=splice d.data off cs }) o.dst):=by
 obtain ⟨a,g1,rfl⟩:=hZ.parts;exact tz ho g1 hx hd hy hc b hs (Qe hl) hsh
theorem Nv {t:TypeId} {x:Operand} {lo hi:Option Operand} {s:ByteArray} {l h:Int} [hu:UL P t .string] (ho:o.op = .slice t x lo hi none) (hx:ev S x=some (.str s)) (hl:bound S 0 lo=some l) (hh:bound S s.size hi=some h) (a:0<=l) (b:l<=h) (c:h<=s.size):Pure P X o S (.str (s.extract l.toNat h.toNat)):=jy ho hu.h hx hl hh a b c
theorem KW {t:TypeId} {x:Operand} {lo:Option Operand} {s:ByteArray} {l:Int} [hu:UL P t .string] (ho:o.op = .slice t x lo none none) (hx:ev S x=some (.str s)) (hl:bound S 0 lo=some l) (a:0<=l) (b:l<=s.size):Pure P X o S (.str (s.extract l.toNat s.size)):=by
 have:=jy (X:=X) ho hu.h hx hl rfl a b (Vl _)
 rwa [Int.toNat_natCast] at this
theorem KX {t:TypeId} {x:Operand} {hi:Option Operand} {s:ByteArray} {h:Int} [hu:UL P t .string] (ho:o.op = .slice t x none hi none) (hx:ev S x=some (.str s)) (hh:bound S s.size hi=some h) (b:0<=h) (a:h<=s.size):Pure P X o S (.str (s.extract 0 h.toNat)):=jy (X:=X) (l:=0) ho hu.h hx rfl hh (Vl _) b a
theorem s_eq {t t':TypeId} {x y:Operand} {a b:ByteArray} (ho:o.op = .binOp .eql t x y t') (hx:ev S x=some (.str a)) (hy:ev S y=some (.str b)):Pure P X o S (.bool (a.toList==b.toList)):=tJ ho hx hy (.inl ⟨rfl,rfl⟩)
theorem s_ne {t t':TypeId} {x y:Operand} {a b:ByteArray} (ho:o.op = .binOp .neq t x y t') (hx:ev S x=some (.str a)) (hy:ev S y=some (.str b)):Pure P X o S (.bool (!(a.toList==b.toList))):=tJ ho hx hy (.inr ⟨rfl,rfl⟩)
theorem toList_data (b:ByteArray):b.toList=b.data.toList:=Lib.toList_data b
theorem s_eqC {t t':TypeId} {x:Operand} {a b:ByteArray} (ho:o.op = .binOp .eql t x (.const (.string b)) t') (hx:ev S x=some (.str a)) {l:List UInt8} (hl:b.data.toList=l):Pure P X o S (.bool (a.toList==l)):=by
 rw [<- hl,<- toList_data];exact s_eq ho hx rfl
theorem s_neC {t t':TypeId} {x:Operand} {a b:ByteArray} (ho:o.op = .binOp .neq t x (.const (.string b)) t') (hx:ev S x=some (.str a)) {l:List UInt8} (hl:b.data.toList=l):Pure P X o S (.bool (a.toList != l)):=by
 rw [<- hl,<- toList_data];exact s_ne ho hx rfl
section
variable {t t':TypeId} {x y:Operand} {a b:Int}
theorem a8 (ho:o.op = .binOp .add t x y t') (hx:ev S x=some (.int .u8 a)) (hy:ev S y=some (.int .u8 b)):Pure P X o S (.int .u8 ((a+b) % 256)):=by
 have:=e8 (P:=P) (X:=X) ho hx hy (.inl rfl) rfl
 rwa [IntKind.wrap_u8] at this
theorem s8 (ho:o.op = .binOp .sub t x y t') (hx:ev S x=some (.int .u8 a)) (hy:ev S y=some (.int .u8 b)):Pure P X o S (.int .u8 ((a-b) % 256)):=by
 have:=e8 (P:=P) (X:=X) ho hx hy (.inl rfl) rfl
 rwa [IntKind.wrap_u8] at this
theorem m8 (ho:o.op = .binOp .mul t x y t') (hx:ev S x=some (.int .u8 a)) (hy:ev S y=some (.int .u8 b)):Pure P X o S (.int .u8 ((a*b) % 256)):=by
 have:=e8 (P:=P) (X:=X) ho hx hy (.inl rfl) rfl
 rwa [IntKind.wrap_u8] at this
end
class Fits (m:Nat) (k:IntKind):Prop where
 h:∀ n:Int,0<=n->n<m->k.wrap n=n
instance:Fits 4294967296 .u64:=⟨fun n h0 h1=>by rw [IntKind.wrap_u64];omega⟩
instance:Fits 4294967296 .i64:=⟨fun n h0 h1=>by rw [BH];unfold wrap64;omega⟩
instance:Fits 256 .u64:=⟨fun n h0 h1=>by rw [IntKind.wrap_u64];omega⟩
instance:Fits 256 .i64:=⟨fun n h0 h1=>by rw [BH];unfold wrap64;omega⟩
instance:Fits 256 .u32:=⟨fun n h0 h1=>by rw [IntKind.wrap_u32];omega⟩
theorem cm32 {s d':TypeId} {x:Operand} {a:Int} {k k':IntKind} {ds:TypeDesc} [UL P s ds] [UL P d' (.int k')] [hf:Fits 4294967296 k'] (ho:o.op = .convert s d' x) (hx:ev S x=some (.int k (a % 4294967296))):Pure P X o S (.int k' (a % 4294967296)):=by
 have:=j8 (P:=P) (X:=X) ho (UL.h (t:=s)) (UL.h (t:=d')) hx
 rwa [hf.h _ Q2 Q2] at this
theorem cm8 {s d':TypeId} {x:Operand} {a:Int} {k k':IntKind} {ds:TypeDesc} [UL P s ds] [UL P d' (.int k')] [hf:Fits 256 k'] (ho:o.op = .convert s d' x) (hx:ev S x=some (.int k (a % 256))):Pure P X o S (.int k' (a % 256)):=by
 have:=j8 (P:=P) (X:=X) ho (UL.h (t:=s)) (UL.h (t:=d')) hx
 rwa [hf.h _ Q2 Q2] at this
theorem w_win {t e e':TypeId} {z:Value} {b:Nat} {x:Operand} {lo hi:Option Operand} {q:IntKind} {l:List Int} {i j:Int} [hu:UL P t (.slice e)] [hi':IF P e z 1 b] (ho:o.op = .slice t x lo hi none) (hx:ev S x=some (.own k)) (hk:S.rows k=some (dw e' q l)) (hl:bound S 0 lo=some i) (hh:bound S l.length hi=some j) (hn:0<l.length) (d:0<=i) (f:i<=j) (c:j<=l.length):Pure P X o S (.win k i.toNat (j.toNat-i.toNat)):=by
 obtain ⟨a,g1,g2,g3,g4⟩:=hi'.h.parts;exact Ll (X:=X) ho hu.h g1 hx hk (by rw [g3]) hn hl hh d f c
theorem JS {c:Call} {x:Operand} {t e e':TypeId} {q:IntKind} {l m:List Int} [hu:UL P t (.slice e)] (ho:o.op = .call c) (hc:c.callee = .builtin .len) (ha:c.args = #[x]) (ht:c.argTypes = #[t]) (hx:ev S x=some (.own k)) (hk:S.rows k=some (dw e' q (kN l m))):Pure P X o S (.int .i64 l.length):=by
 have e1:(kN l m).length=l.length:=by
  simp only [kN,Qf,Qd,Qq];omega
 rw [<- e1];exact Af ho hc ha ht hu.h hx hk
theorem b_eq {t t':TypeId} {x y:Operand} {a b:Bool} [hu:UL P t .bool] (ho:o.op = .binOp .eql t x y t') (hx:ev S x=some (.bool a)) (hy:ev S y=some (.bool b)):Pure P X o S (.bool (a==b)):=tN ho hu.h hx hy (.inl ⟨rfl,rfl⟩)
theorem b_ne {t t':TypeId} {x y:Operand} {a b:Bool} [hu:UL P t .bool] (ho:o.op = .binOp .neq t x y t') (hx:ev S x=some (.bool a)) (hy:ev S y=some (.bool b)):Pure P X o S (.bool (a != b)):=tN ho hu.h hx hy (.inr ⟨rfl,rfl⟩)
theorem s_of {s d':TypeId} {x:Operand} {e:TypeId} {xs:List Int} [hs:UL P s (.slice e)] [hd:UL P d' .string] [he:UL P e (.int .u8)] (ho:o.op = .convert s d' x) (hx:ev S x=some (.ints .u8 xs)):Pure P X o S (.str (strOfNums xs)):=by
 intro L a w r;have h:=r.ev hx;generalize hv:a.eval x=v at h;cases h with
 | cv hden =>
  obtain ⟨sp,sc,rfl,h2⟩:=BU hden;refine ⟨.string (strOfNums xs),?_,.cv (.lit _)⟩;have hr:(convert s d' (.slice sp xs.length sc)).run P w = .ok (.string (strOfNums xs)) w:=by
   rcases X0 xs.length with h0 | h0
   ·obtain rfl:xs=[]:=QY h0;cases sp with
    | none=>exact run_convert_bytes_nil w s e hs.h he.h 0 sc d' hd.h
    | some ad =>
     have hl:(loadCells ad 0).run P w = .ok (([]:List Int).map (Value.int .u8)).toArray w:=run_loadCells_list (P:=P) w ad [] (fun j v hj=>by simp at hj);rw [show ([]:List Int).length=0 from rfl,run_convert_bytes_string w s d' e _ 0 sc hs.h he.h hd.h,run_bytesToString w ad 0 sc _ hl,foldl_push_bytes];simp [strOfNums,ByteArray.empty,ByteArray.emptyWithCapacity];rfl
   obtain ⟨ad,vs,rfl,h3,h4⟩:=h2 (by rw [bW];exact h0);have hl:(loadCells ad xs.length).run P w = .ok (xs.map (Value.int .u8)).toArray w:=by
    have:=run_loadCells_list (P:=P) w ad (xs.map (Value.int .u8)) (fun j v hj=>by
     obtain ⟨c,rfl⟩:=Qx.1 hj;have b:j<(ints .u8 xs).length:=by simpa [ints] using c
     rw [h3 j b];have h5:=h4 j b;simp only [ints,Qz] at h5 ⊢;rw [(cQ.cv (rows:=nr) (L:=nl) h5).lit])
    simpa using this
   rw [run_convert_bytes_string w s d' e _ xs.length sc hs.h he.h hd.h,run_bytesToString w ad xs.length sc xs hl,foldl_push_bytes];simp [strOfNums,ByteArray.empty,ByteArray.emptyWithCapacity];rfl
  simp [execOp,ho,hv,hr]
theorem JR (q:IntKind) (xs:List Int) (vs:List Value) (w:World) (F:Fo) (hl:vs.length=xs.length) (h:∀ i (h:i<(ints q xs).length),Den w F (vs.getD i undef) (ints q xs)[i]):vs=JE q xs:=by
 refine QP (by simp [JE,hl]) (fun i a b=>?_);have:=h i (by rw [bW];omega);simp only [ints,Qz] at this;have e:=(cQ.cv (rows:=nr) (L:=nl) this).lit;simp only [Q6,Qh a,Option.getD_some] at e;rw [e];simp [JE]
theorem KY {s d':TypeId} {x:Operand} {e e':TypeId} {xs:List Int} [hs:UL P s (.slice e)] [hd:UL P d' .string] [he:UL P e (.int .u8)] (ho:o.op = .convert s d' x) (hx:ev S x=some (.own k)) (hk:S.rows k=some (dw e' .u8 xs)):Pure P X o S (.str (strOfNums xs)):=by
 intro L a w r;have h:=r.ev hx;obtain ⟨ys,q1,q2,q3⟩:=r.row k _ hk;generalize hv:a.eval x=v at h;have own:v=L k:=by cases h with | own h=>rfl
 have e1:=JR .u8 xs ys w _ (by rw [q2,bW]) q3;rw [e1] at q1;have hr:=Gp (P:=P) (w:=w) (src:=s) (dst:=d') hs.h he.h hd.h q1;refine ⟨.string (strOfNums xs),?_,.cv (.lit _)⟩;rw [<- own] at hr;simp [execOp,ho,hv,hr]
theorem o_max {c:Call} {x y:Operand} {ts:Array TypeId} {kk:IntKind} {a b:Int} (ho:o.op = .call c) (hc:c.callee = .builtin .max) (ha:c.args = #[x,y]) (hx:ev S x=some (.int kk a)) (hy:ev S y=some (.int kk b)):Pure P X o S (.int kk (mx a b)):=by
 intro L z w r;refine ⟨.int kk (mx a b),?_,.cv (.lit _)⟩;simp [execOp,ho,resolve,hc,ha,invoke,builtin,(r.ev hx).lit,(r.ev hy).lit,BC,ye,mx]
theorem o_min {c:Call} {x y:Operand} {ts:Array TypeId} {kk:IntKind} {a b:Int} (ho:o.op = .call c) (hc:c.callee = .builtin .min) (ha:c.args = #[x,y]) (hx:ev S x=some (.int kk a)) (hy:ev S y=some (.int kk b)):Pure P X o S (.int kk (mn a b)):=by
 intro L z w r;refine ⟨.int kk (mn a b),?_,.cv (.lit _)⟩;simp [execOp,ho,resolve,hc,ha,invoke,builtin,(r.ev hx).lit,(r.ev hy).lit,BA,yc,mn]
theorem Hl {t e:TypeId} {b:Nat} {q:IntKind} {k:Tmp} [hu:UL P t (.slice e)] [hi:IF P e (.int q 0) 1 b] (ho:o.op = .buildSlice t 0 #[]) (hk':o.dst=some k) (hk:S.rows k=none) (hd:dm X (some k)) (hkl:k≠cd:=by decide):cf P X o S (put (setRow S k (dw e q [])) (some k) (.own k)):=by
 obtain ⟨a,g1,g2,g3,g4⟩:=hi.h.parts;have:=sD (X:=X) (S:=S) (P:=P) (cs:=[]) (qs:=[]) k ho hu.h g1 g2 Q2 Q2 (by decide) rfl (by rw [g3,show (Value.int q 0).cells = #[Value.int q 0] from rfl,Vs,toList_madeCells_one,List.map_replicate];rfl) hk hkl (by rw [hk'];exact hd) Q3;rw [hk',g3] at this;exact this
end
def nk {α:Type}:List (Nat×α)->(Nat->α)->Nat->α
 | [],e=>e
 | x :: l,e=>fun t=>if t=x.1 then x.2 else nk l e t
def ux (l:List (Nat×Option PV)) (m:List (Nat×Option Row)) (S:St):St:=⟨nk l S.env,nk m S.rows⟩
def fN {α:Type}:List (Nat×α)->(Nat->α)->Prop
 | [],_=>True
 | x :: l,e=>e x.1=x.2/\fN l e
structure Meta where
 rt:List Nat
 rr:List Nat
 wt:List Nat
 wr:List Nat
 kl:Option Nat:=none
 rf:Option (List Nat):=none
abbrev m4 (rt rr wt wr:List Nat):Meta:=⟨rt,rr,wt,wr,none,none⟩
structure wz where
 rT:List (Nat×Option PV)
 rR:List (Nat×Option Row)
 wT:List (Nat×Option PV)
 wR:List (Nat×Option Row)
 rS:List (Nat×Row):=[]
 kl:Option Nat:=none
def lY:CV->CV->Prop
 | .any,c=>c = .any∨∃ j,c = .own j
 | c,c'=>c'=c
structure j4 (d d':Row):Prop where
 e:d'.e=d.e
 sz:d'.sz=d.sz
 n:d'.n=d.n
 len:d'.data.length=d.data.length
 le:∀ i (h:i<d.data.length) (h':i<d'.data.length),lY d.data[i] d'.data[i]
theorem mI (c:CV):lY c c:=by
 cases c<;>first | rfl | exact .inl rfl
theorem j4.refl (d:Row):j4 d d:=⟨rfl,rfl,rfl,rfl,fun i h h'=>mI _⟩
def nL (k:Option Nat) (S:St):St:=match k with
 | some k=>kill S k
 | none=>S
def zW (cs:List CV) (l:List Nat):Prop:=∀ k,cs.any (iN k)=true->k∈l
structure Calm (s:wz) (l:List Nat):Prop where
 rT:∀ x∈s.rT,∃ p,x.2=some p/\∀ k,fA k p=true->k∈l
 rR:∀ x∈s.rR,Nat.ble opened x.1=true->x.2=none
 rS:∀ x∈s.rS,zW x.2.data l
 wT:∀ x∈s.wT,∀ p,x.2=some p->∀ k,fA k p=true->k∈l
 wR:∀ x∈s.wR,∀ d,x.2=some d->Nat.ble opened x.1=true->zW d.data l
structure vD (s:wz) (m:Meta):Prop where
 kl:s.kl=m.kl
 rS:∀ x∈s.rS,x.1∈m.rr
 calm:∀ l,m.rf=some l->Calm s l
def iF {α:Type} (l:List (Nat×α)) (m:List Nat):Bool:=l.all fun x=>m.contains x.1
def kQ (s:wz) (m:Meta):Bool:=iF s.rT m.rt&&iF s.rR m.rr&&iF s.wT m.wt&&iF s.wR m.wr
section
variable {α:Type}
theorem uA:∀ {l:List (Nat×α)} {e:Nat->α},fN l e->nk l e=e
 | [],e,_=>rfl
 | x :: l,e,h=>by
  simp only [nk];rw [uA h.2];funext t;split
  ·rename_i c;rw [c];exact h.1.symm
  rfl
theorem uB:∀ {l:List (Nat×α)} {e:Nat->α} {t:Nat} {m:List Nat},iF l m=true->m.contains t=false->nk l e t=e t
 | [],e,t,m,_,_=>rfl
 | x :: l,e,t,m,h,hm=>by
  simp only [iF,List.all_cons,Qm] at h;simp only [nk];rw [Qc (fun c=>by subst c;rw [h.1] at hm;cases hm)];exact uB (m:=m) h.2 hm
theorem xc:∀ {l:List (Nat×α)} {e e':Nat->α} {t:Nat},(l.map (·.1)).contains t=true->nk l e t=nk l e' t
 | [],e,e',t,h=>by simp at h
 | x :: l,e,e',t,h=>by
  simp only [nk]
  by_cases c:t=x.1
  ·rw [Qk c,Qk c]
  rw [Qc c,Qc c];refine xc ?_;simp only [QV,List.contains_cons,Yr,W7] at h;exact h.resolve_left c
theorem nj:∀ {l:List (Nat×α)} {e:Nat->α} {t:Nat},(l.map (·.1)).contains t=false->nk l e t=e t
 | [],e,t,h=>rfl
 | x :: l,e,t,h=>by
  simp only [QV,List.contains_cons,W9,QE] at h;simp only [nk];rw [Qc h.1];exact nj h.2
theorem zr {l:List (Nat×α)} {m:List Nat} {t:Nat} (h:iF l m=true) (ht:(l.map (·.1)).contains t=true):m.contains t=true:=by
 simp only [iF,QA] at h;simp only [List.contains_iff_mem,Qs] at ht;obtain ⟨x,hx,rfl⟩:=ht;exact h x hx
theorem zp {l l':List (Nat×α)} {m m':List Nat} (h:iF l m=true) (h':iF l' m'=true) (hd:m.any (m'.contains ·)=false) (e:Nat->α):nk l (nk l' e)=nk l' (nk l e):=by
 funext t
 by_cases c:(l.map (·.1)).contains t=true
 ·have c':(l'.map (·.1)).contains t=false:=by
   cases hc:(l'.map (·.1)).contains t with
   | false=>rfl
   | true =>
    have h1:=zr h c;have h2:=zr h' hc;rw [VD] at hd;exact absurd h2 (by simpa using hd t (by simpa using h1))
  rw [nj c',xc c]
 have c1:(l.map (·.1)).contains t=false:=by simpa using c
 rw [nj c1]
 by_cases c':(l'.map (·.1)).contains t=true
 ·exact xc c'
 have c2:(l'.map (·.1)).contains t=false:=by simpa using c'
 rw [nj c2,nj c2,nj c1]
theorem rJ {l l':List (Nat×α)} {m m':List Nat} (h:iF l m=true) (h':iF l' m'=true) (hd:m.any (m'.contains ·)=false) (e:Nat->α):fN l (nk l' e)↔fN l e:=by
 have a:∀ (l:List (Nat×α)),iF l m=true->(fN l (nk l' e)↔fN l e):=by
  intro l
  induction l with
  | nil=>intro _;exact YJ
  | cons x l ih =>
   intro h;simp only [iF,List.all_cons,Qm] at h;simp only [fN];have hx:m'.contains x.1=false:=by
    rw [VD] at hd;simpa using hd x.1 (by simpa using h.1)
   rw [uB h' hx,ih h.2]
 exact a l h
end
def wz.go (s:wz) (S:St):St:=ux s.wT s.wR (nL s.kl S)
structure wz.fits (s:wz) (S:St):Prop where
 rT:fN s.rT S.env
 rR:fN s.rR S.rows
 rS:∀ x∈s.rS,∃ d,S.rows x.1=some d/\j4 x.2 d
theorem Kw {l:List (Nat×Option PV)} {m:List (Nat×Option Row)} {S:St} (h:fN l S.env) (h':fN m S.rows):ux l m S=S:=by
 unfold ux;rw [uA h,uA h']
def meets (a b:List Nat):Bool:=a.any (b.contains ·)
def sZ (k:Option Nat) (rf:Option (List Nat)):Bool:=match k,rf with
 | none,_=>false
 | some _,none=>true
 | some k,some l=>l.contains k
def Meta.lF (a b:Meta):Bool:=meets a.wt b.wt||meets a.wr b.wr||meets a.rt b.wt||meets a.rr b.wr||meets b.rt a.wt||meets b.rr a.wr||sZ a.kl b.rf||sZ b.kl a.rf
theorem pY {S S':St} (h:S.env=S'.env) (h':S.rows=S'.rows):S=S':=by
 cases S;cases S';cases h;cases h';rfl
theorem JL (S:St) (k j:Nat):kill (kill S k) j=kill (kill S j) k:=by
 have e1:(kill (kill S k) j).env=(kill (kill S j) k).env:=by
  funext t;simp only [kill];cases S.env t with
  | none=>rfl
  | some p=>by_cases h1:fA k p=true<;>by_cases h2:fA j p=true<;>simp [h1,h2]
 have e2:(kill (kill S k) j).rows=(kill (kill S j) k).rows:=by
  funext i;simp only [kill,Option.map_map];congr 1;funext d;simp only [Function.comp,fh];cases Nat.ble opened i with
  | false=>rfl
  | true =>
   simp only [cond_true,YA];congr 1;refine WA (fun c _=>?_);cases c with
   | own q=>cases h1:Nat.beq q k<;>cases h2:Nat.beq q j<;>simp [Function.comp,mE,h1,h2]
   | _=>rfl
 exact pY e1 e2
theorem GW (S:St) (k j:Option Nat):nL j (nL k S)=nL k (nL j S):=by
 cases k with
 | none=>rfl
 | some k=>cases j with
  | none=>rfl
  | some j=>exact JL S k j
theorem yq {k j:Nat} {d:Row} (h:Nat.ble opened j=true->d.data.any (iN k)=false):fh k j d=d:=by
 unfold fh;cases e:Nat.ble opened j with
 | false=>rfl
 | true =>
  simp only [cond_true];have h:=h e;rw [VD] at h;have:d.data.map (mE k)=d.data:=by
   conv=>rhs;rw [<- List.map_id d.data]
   refine WA (fun c hc=>?_);cases c with
   | own q =>
    have:=h _ hc;simp only [iN,Yf] at this;simp only [mE,this,cond_false,id]
   | _=>rfl
  rw [this]
theorem LS {k:Nat} {S:St} {l:List (Nat×Option PV)} {m:List (Nat×Option Row)} (h:∀ x∈l,∀ p,x.2=some p->fA k p=false) (h':∀ x∈m,∀ d,x.2=some d->Nat.ble opened x.1=true->d.data.any (iN k)=false):kill (ux l m S) k=ux l m (kill S k):=by
 have e1:(kill (ux l m S) k).env=(ux l m (kill S k)).env:=by
  funext t;simp only [kill,ux]
  induction l with
  | nil=>rfl
  | cons x l ih =>
   simp only [nk]
   by_cases c:t=x.1
   ·rw [Qk c,Qk c];cases hx:x.2 with
    | none=>rfl
    | some p=>simp [h x Q7 p hx]
   rw [Qc c,Qc c];exact ih (fun y hy=>h y (Qa _ hy))
 have e2:(kill (ux l m S) k).rows=(ux l m (kill S k)).rows:=by
  clear e1;funext t;simp only [kill,ux]
  induction m with
  | nil=>rfl
  | cons x m ih =>
   simp only [nk]
   by_cases c:t=x.1
   ·rw [Qk c,Qk c];cases hx:x.2 with
    | none=>rfl
    | some d =>
     simp only [Option.map_some,Qj];exact yq (fun ho=>h' x Q7 d hx (by rw [<- c];exact ho))
   rw [Qc c,Qc c];exact ih (fun y hy=>h' y (Qa _ hy))
 exact pY e1 e2
theorem Cx {k:Nat} {p:PV} {l:List Nat} (h:∀ k,fA k p=true->k∈l) (hk:l.contains k=false):fA k p=false:=by
 cases c:fA k p with
 | false=>rfl
 | true =>
  have:=h k c;simp [this] at hk
theorem DL {k:Nat} {cs:List CV} {l:List Nat} (h:zW cs l) (hk:l.contains k=false):cs.any (iN k)=false:=by
 cases c:cs.any (iN k) with
 | false=>rfl
 | true =>
  have:=h k c;simp [this] at hk
theorem Calm.go {s:wz} {l:List Nat} (h:Calm s l) {k:Nat} (hk:l.contains k=false) (S:St):kill (ux s.wT s.wR S) k=ux s.wT s.wR (kill S k) :=
 LS (fun x hx p hp=>Cx (h.wT x hx p hp) hk) (fun x hx d hd ho=>DL (h.wR x hx d hd ho) hk)
theorem LU {k:Nat} {c d:CV} (h:iN k d=false):lY d (mE k c)↔lY d c:=by
 cases c with
 | own q =>
  cases hq:Nat.beq q k with
  | false=>simp only [mE,hq,cond_false]
  | true =>
   simp only [mE,hq,cond_true];have e:=Qt hq;subst e;cases d with
   | any =>
    constructor
    ·intro _;exact Or.inr ⟨q,rfl⟩
    intro _;exact Or.inl rfl
   | own j =>
    constructor
    ·intro h2;cases h2
    intro h2;have e:CV.own q=CV.own j:=h2;cases e;simp only [iN,hq] at h;cases h
   | lit v =>
    constructor
    ·intro h2;cases h2
    intro h2;cases h2
   | row n cs =>
    constructor
    ·intro h2;cases h2
    intro h2;cases h2
 | _=>exact YJ
theorem Eh {k j:Nat} {d x:Row} (h:d.data.any (iN k)=false):j4 d (fh k j x)↔j4 d x:=by
 obtain ⟨s1,s2,s3,s4⟩:=nK k j x;have a:∀ i (b:i<d.data.length) (c:i<x.data.length) (f:i<(fh k j x).data.length),lY d.data[i] (fh k j x).data[i]↔lY d.data[i] x.data[i]:=by
  intro i b c f;rw [VD] at h;have hd:=h _ (Qi b);cases e:Nat.ble opened j with
  | false =>
   have e1:(fh k j x).data[i]=x.data[i]:=by simp only [fh,e,cond_false]
   rw [e1]
  | true =>
   have e1:(fh k j x).data[i]=mE k x.data[i]:=by simp only [fh,e,cond_true,Qz]
   rw [e1];exact LU (by simpa using hd)
 constructor
 ·intro g;exact ⟨s1 ▸ g.e,s2 ▸ g.sz,s3 ▸ g.n,s4 ▸ g.len,fun i b c=>(a i b c Q2).1 (g.le i b Q2)⟩
 intro g;exact ⟨s1.trans g.e,s2.trans g.sz,s3.trans g.n,s4.trans g.len,fun i b c=>(a i b Q2 c).2 (g.le i b Q2)⟩
theorem Calm.fits {s:wz} {l:List Nat} (h:Calm s l) {k:Nat} (hk:l.contains k=false) (S:St):s.fits (kill S k)↔s.fits S:=by
 have a1:fN s.rT (kill S k).env↔fN s.rT S.env:=by
  have a:∀ l:List (Nat×Option PV),(∀ x∈l,∃ p,x.2=some p/\fA k p=false)->(fN l (kill S k).env↔fN l S.env):=by
   intro l
   induction l with
   | nil=>intro _;exact YJ
   | cons x l ih =>
    intro h;simp only [fN];rw [ih (fun y hy=>h y (Qa _ hy))];obtain ⟨p,hp,hu⟩:=h x Q7;have:(kill S k).env x.1=x.2↔S.env x.1=x.2:=by
     rw [hp];constructor
     ·exact fun h=>(ud h).1
     intro h;simp only [kill,h,hu];rfl
    rw [this]
  exact a _ (fun x hx=>by obtain ⟨p,hp,hu⟩:=h.rT x hx;exact ⟨p,hp,Cx hu hk⟩)
 have a2:fN s.rR (kill S k).rows↔fN s.rR S.rows:=by
  have a:∀ l:List (Nat×Option Row),(∀ x∈l,Nat.ble opened x.1=true->x.2=none)->(fN l (kill S k).rows↔fN l S.rows):=by
   intro l
   induction l with
   | nil=>intro _;exact YJ
   | cons x l ih =>
    intro h;simp only [fN];rw [ih (fun y hy=>h y (Qa _ hy))];have:(kill S k).rows x.1=x.2↔S.rows x.1=x.2:=by
     cases e:Nat.ble opened x.1 with
     | true =>
      rw [h x Q7 e];simp [kill]
     | false =>
      have:(kill S k).rows x.1=S.rows x.1:=by
       simp only [kill];cases S.rows x.1 with
       | none=>rfl
       | some d=>simp only [Option.map_some];rw [yq (fun h=>by rw [e] at h;cases h)]
      rw [this]
    rw [this]
  exact a _ h.rR
 have a3:(∀ x∈s.rS,∃ d,(kill S k).rows x.1=some d/\j4 x.2 d)↔(∀ x∈s.rS,∃ d,S.rows x.1=some d/\j4 x.2 d):=by
  refine forall_congr' (fun x=>forall_congr' (fun hx=>?_));have hc:=DL (h.rS x hx) hk;constructor
  ·rintro ⟨d,h1,h2⟩;simp only [kill] at h1;obtain ⟨d0,h3,rfl⟩:=Qr.1 h1;exact ⟨d0,h3,(Eh hc).1 h2⟩
  rintro ⟨d,h1,h2⟩;exact ⟨fh k x.1 d,by simp only [kill,h1,Option.map_some],(Eh hc).2 h2⟩
 constructor
 ·rintro ⟨g1,g2,g3⟩;exact ⟨a1.1 g1,a2.1 g2,a3.1 g3⟩
 rintro ⟨g1,g2,g3⟩;exact ⟨a1.2 g1,a2.2 g2,a3.2 g3⟩
section
variable {P:Program} {X:Ctx} {S:St} {Q:gM} {o:Oper} {ops:Array Oper} {q:St->Prop}
def pf (P:Program) (X:Ctx) (ops:Array Oper) (i:Nat) (S S':St):Prop:=∀ a w,Rel X S a w->wpOp P ops (fun _ _ _=>False) i (fun a' w'=>Rel X S' a' w') a w
def yY (P:Program) (X:Ctx) (ops:Array Oper):Nat->List Meta->St->(St->Prop)->Prop
 | i,[],S,q=>i=ops.size/\q S
 | i,m :: ms,S,q=>∃ s:wz,kQ s m=true/\vD s m/\s.fits S/\(∀ S0,s.fits S0->pf P X ops i S0 (s.go S0))/\yY P X ops (i+1) ms (s.go S) q
def FU:List wz->St->St
 | [],S=>S
 | s :: l,S=>FU l (s.go S)
theorem vV:∀ (ms:List Meta) (i:Nat) (S:St),yY P X ops i ms S q->∃ ss:List wz,ss.length=ms.length/\i+ms.length=ops.size/\(∀ j (h:j<ss.length) (h':j<ms.length),(kQ ss[j] ms[j]=true/\vD ss[j] ms[j])/\(∀ S0,ss[j].fits S0->pf P X ops (i+j) S0 (ss[j].go S0))/\ss[j].fits (FU (ss.take j) S))/\q (FU ss S)
 | [],i,S,h=>⟨[],rfl,by simpa using h.1,fun j h=>by simp at h,h.2⟩
 | m :: ms,i,S,h=>by
  obtain ⟨s,h1,h1',h2,h3,h4⟩:=h;obtain ⟨ss,g1,g2,g3,g4⟩:=vV ms (i+1) _ h4;refine ⟨s :: ss,by simp [g1],by simp;omega,fun j hj hj'=>?_,g4⟩;cases j with
  | zero=>exact ⟨⟨h1,h1'⟩,h3,h2⟩
  | succ j =>
   obtain ⟨k1,k2,k3⟩:=g3 j (by simpa using hj) (by simpa using hj');refine ⟨k1,?_,k3⟩;have e:i+(j+1)=i+1+j:=Q2;rw [e];exact k2
def Bs (ops:List Oper) (B:List (List Nat)):Bool :=
 (List.range ops.length).all fun j=>match ops[j]? with
  | none=>true
  | some o=>(o.after.toList.all fun e=>!Region.binds .any e||decide (e.on<j))&&((B.getD j []).all fun x=>o.after.toList.any fun e=>Region.binds .any e&&(e.on==x||(B.getD e.on []).contains x))
def Br (ms:List Meta) (B:List (List Nat)):Bool :=
 (List.range ms.length).all fun k=>(List.range k).all fun j=>match ms[j]?,ms[k]? with
  | some a,some b=>!a.lF b||(B.getD k []).contains j
  | _,_=>true
theorem zD (ss:List wz) (S:St):∀ n,n<=ss.length->ik (fun i s=>((ss[i]?).map (·.go s)).getD s) (fun _=>true) (List.range n) S=FU (ss.take n) S:=by
 have a:∀ (l:List wz) (s:wz) (S:St),FU (l++[s]) S=s.go (FU l S):=by
  intro l
  induction l with
  | nil=>intro s S;rfl
  | cons x l ih=>intro s S;exact ih s _
 intro n
 induction n with
 | zero=>intro _;rfl
 | succ n ih =>
  intro h;have hn:n<ss.length:=Q2;rw [List.range_succ,qf,ih Q2,List.take_add_one,Qh hn];simp only [Option.toList_some,a,ik,Xh,Qh hn,Option.map_some,Option.getD_some]
theorem tq {a b:Meta} (h:a.lF b=false):meets a.wt b.wt=false/\meets a.wr b.wr=false/\meets a.rt b.wt=false/\meets a.rr b.wr=false/\meets b.rt a.wt=false/\meets b.rr a.wr=false/\sZ a.kl b.rf=false/\sZ b.kl a.rf=false:=by
 simp only [Meta.lF,W9] at h;obtain ⟨⟨⟨⟨⟨⟨⟨h1,h2⟩,h3⟩,h4⟩,h5⟩,h6⟩,h7⟩,h8⟩:=h;exact ⟨h1,h2,h3,h4,h5,h6,h7,h8⟩
theorem Ih {s:wz} {m:Meta} (h:vD s m) {k:Option Nat} (hk:sZ k m.rf=false) (S:St):nL k (ux s.wT s.wR S)=ux s.wT s.wR (nL k S):=by
 cases k with
 | none=>rfl
 | some k =>
  cases hr:m.rf with
  | none=>rw [hr] at hk;cases hk
  | some l =>
   rw [hr] at hk;exact (h.calm l hr).go hk S
theorem JK {s:wz} {m:Meta} (h:vD s m) {k:Option Nat} (hk:sZ k m.rf=false) (S:St):s.fits (nL k S)↔s.fits S:=by
 cases k with
 | none=>exact YJ
 | some k =>
  cases hr:m.rf with
  | none=>rw [hr] at hk;cases hk
  | some l =>
   rw [hr] at hk;exact (h.calm l hr).fits hk S
theorem FI {id:Nat} {ops:List Oper} (ms:List Meta) (B:List (List Nat)) (h:yY P X ops.toArray 0 ms S (fun S'=>Q .normal S')) (hA:Bs ops B=true:=by kernel_rfl) (hO:Br ms B=true:=by kernel_rfl) (hm:P.follows .mixedOrders=true:=by kernel_rfl):kp P X (.region id ops.toArray true) S Q:=by
 obtain ⟨ss,h1,h2,h3,h4⟩:=vV ms 0 S h;have hn:ss.length=ops.toArray.size:=Q2;simp only [QS] at h3;have q:∀ j o,ops[j]?=some o->(∀ e∈o.after,Region.binds .any e=true->e.on<j)/\∀ x∈B.getD j [],∃ e∈o.after,Region.binds .any e=true/\(e.on=x∨x∈B.getD e.on []):=by
  intro j o ho;have hj:j<ops.length:=(Qx.1 ho).1;simp only [Bs,QA] at hA;have:=hA j (by simpa using hj);rw [ho] at this;simp only [Qm,QA,WU] at this;refine ⟨fun e he hb=>?_,fun x hx=>?_⟩
  ·have:=this.1 e (by simpa using he);simpa [hb] using this
  obtain ⟨e,he,hb,r⟩:=this.2 x hx;refine ⟨e,by simpa using he,hb,?_⟩;simpa using r
 let lF:Nat->Nat->Bool:=fun j k=>match ms[j]?,ms[k]? with
  | some a,some b=>a.lF b
  | _,_=>false
 have f:∀ j,j<ops.toArray.size->∃ s m,ss[j]?=some s/\ms[j]?=some m/\(kQ s m=true/\vD s m)/\(∀ S0,s.fits S0->pf P X ops.toArray j S0 (s.go S0))/\s.fits (FU (ss.take j) S):=by
  intro j hj;have j1:j<ss.length:=Q2;have j2:j<ms.length:=Q2;obtain ⟨k1,k2,k3⟩:=h3 j j1 j2;exact ⟨ss[j],ms[j],Qh j1,Qh j2,k1,k2,k3⟩
 have l:∀ {s:wz} {m:Meta},kQ s m=true->iF s.rT m.rt=true/\iF s.rR m.rr=true/\iF s.wT m.wt=true/\iF s.wR m.wr=true:=by
  intro s m h;simp only [kQ,Qm] at h;exact ⟨h.1.1.1,h.1.1.2,h.1.2,h.2⟩
 have symm:∀ a b:List Nat,meets a b=false->meets b a=false:=by
  intro a b h;simp only [meets,VD] at h ⊢;intro x hx hc;have:=h x (by simpa using hc);exact this (by simpa using hx)
 refine Jb (ops:=ops.toArray) hm (fun i s=>((ss[i]?).map (·.go s)).getD s) (fun i s=>∀ x,ss[i]?=some x->x.fits s) lF (fun j=>B.getD j []) ?_ ?_ ?_ ?_ ?_ ?_ ?_ ?_
 ·intro j o ho;exact (q j o (by simpa using ho)).1
 ·intro j o ho;exact (q j o (by simpa using ho)).2
 ·intro j k hjk hk hc;simp only [Br,QA] at hO;have:=hO k (by simp;omega) j (by simpa using hjk);obtain ⟨s,m,_,n,_⟩:=f j Q2;obtain ⟨s',m',_,p,_⟩:=f k hk;simp only [lF,n,p] at hc;simp only [n,p,hc] at this;simpa using this
 ·intro j k hjk hk hc s;obtain ⟨sj,mj,e1,e2,e3,_⟩:=f j Q2;obtain ⟨sk,mk,f1,f2,f3,_⟩:=f k hk;simp only [lF,e2,f2] at hc;obtain ⟨c1,c2,_,_,_,_,c7,c8⟩:=tq hc;obtain ⟨_,_,a3,a4⟩:=l e3.1;obtain ⟨_,_,b3,b4⟩:=l f3.1;simp only [e1,f1,Option.map_some,Option.getD_some];show ux sk.wT sk.wR (nL sk.kl (ux sj.wT sj.wR (nL sj.kl s)))=ux sj.wT sj.wR (nL sj.kl (ux sk.wT sk.wR (nL sk.kl s)));rw [Ih e3.2 (by rw [f3.2.kl];exact c8),Ih f3.2 (by rw [e3.2.kl];exact c7),GW];unfold ux;rw [zp b3 a3 (symm _ _ c1),zp b4 a4 (symm _ _ c2)]
 ·intro j k hj hk hjk hc s;obtain ⟨sj,mj,e1,e2,e3,_⟩:=f j hj;obtain ⟨sk,mk,f1,f2,f3,_⟩:=f k hk;obtain ⟨a1,a2,_,_⟩:=l e3.1;obtain ⟨_,_,b3,b4⟩:=l f3.1;have g:meets mj.rt mk.wt=false/\meets mj.rr mk.wr=false/\sZ mk.kl mj.rf=false:=by
   rcases We j k with c | c
   ·rw [QO Q2,Nat.max_eq_right Q2] at hc;simp only [lF,e2,f2] at hc;obtain ⟨_,_,c3,c4,_,_,_,c8⟩:=tq hc;exact ⟨c3,c4,c8⟩
   rw [Nat.min_eq_right Q2,Nat.max_eq_left Q2] at hc;simp only [lF,e2,f2] at hc;obtain ⟨_,_,_,_,c5,c6,c7,_⟩:=tq hc;exact ⟨c5,c6,c7⟩
  simp only [e1,f1,Option.map_some,Option.getD_some,Qj,forall_eq'];rw [<- JK e3.2 (k:=sk.kl) (by rw [f3.2.kl];exact g.2.2) s];have rows:∀ x∈sj.rS,(sk.go s).rows x.1=(nL sk.kl s).rows x.1:=by
   intro x hx;have hm:mk.wr.contains x.1=false:=by
    have h1:=g.2.1;simp only [meets,VD] at h1;simpa using h1 x.1 (e3.2.rS x hx)
   exact uB b4 hm
  constructor
  ·rintro ⟨g1,g2,g3⟩;refine ⟨(rJ a1 b3 g.1 _).1 g1,(rJ a2 b4 g.2.1 _).1 g2,fun x hx=>?_⟩;obtain ⟨d,h1,h2⟩:=g3 x hx;exact ⟨d,(rows x hx).symm.trans h1,h2⟩
  rintro ⟨g1,g2,g3⟩;refine ⟨(rJ a1 b3 g.1 _).2 g1,(rJ a2 b4 g.2.1 _).2 g2,fun x hx=>?_⟩;obtain ⟨d,h1,h2⟩:=g3 x hx;exact ⟨d,(rows x hx).trans h1,h2⟩
 ·intro i hi S0 hok a w hr;obtain ⟨s,m,e1,e2,e3,e4,_⟩:=f i hi;have hf:=hok s e1;simp only [e1,Option.map_some,Option.getD_some];exact e4 S0 hf a w hr
 ·intro i hi x hx;obtain ⟨s,m,e1,e2,e3,e4,e5⟩:=f i hi;rw [e1] at hx;cases hx;rw [zD ss S i Q2];exact e5
 rw [zD ss S _ Q2,Qp Q2];exact h4
theorem bG {i:Nat} {S S' S'':St} (ho:ops[i]?=some o) (hg:o.guard=none) (h:cf P X o S S') (e:S'=S''):pf P X ops i S S'':=by
 subst e;intro a w r;unfold wpOp;rw [ho];have hw:Region.wanted o (yielded ops a.tmps)=true:=by simp [Region.wanted,hg]
 simp only [hw,Xh];exact .inl (h a w r)
theorem vE {i:Nat} {S S' S'':St} {oj:Oper} {j:Nat} {t:Tmp} {b b':Bool} (ho:ops[i]?=some o) (hg:o.guard=some (j,b)) (hj:ops[j]?=some oj) (ht:oj.dst=some t) (he:S.env t=some (.cv (.lit (.bool b')))) (hb:b'=b) (h:cf P X o S S') (e:S'=S''):pf P X ops i S S'':=by
 subst e;intro a w r;obtain ⟨L,r'⟩:=r;obtain ⟨g1,g2⟩:=r'.env t _ he;have hy:=sA hj ht (by rw [r'.size];exact g1) g2.lit;have hw:Region.wanted o (yielded ops a.tmps)=true:=by simp [Region.wanted,hg,hy,hb]
 unfold wpOp;rw [ho];simp only [hw,Xh];exact .inl (h a w ⟨L,r'⟩)
theorem AL {i:Nat} {S S'':St} {oj:Oper} {j:Nat} {t:Tmp} {b b':Bool} (ho:ops[i]?=some o) (hg:o.guard=some (j,b)) (hj:ops[j]?=some oj) (ht:oj.dst=some t) (he:S.env t=some (.cv (.lit (.bool b')))) (hb:b' = !b) (hd:dm X o.dst) (e:put S o.dst (.cv (.lit undef))=S''):pf P X ops i S S'':=by
 subst e;intro a w r;obtain ⟨L,r'⟩:=r;obtain ⟨g1,g2⟩:=r'.env t _ he;have hy:=sA hj ht (by rw [r'.size];exact g1) g2.lit;have hw:Region.wanted o (yielded ops a.tmps)=false:=by simp [Region.wanted,hg,hy,hb]
 unfold wpOp;rw [ho];simp only [hw,Vo,Xr];exact ⟨L,r'.put hd (.cv (.lit _))⟩
theorem AK {i:Nat} {S S'':St} {oj:Oper} {j:Nat} {t:Tmp} {b:Bool} (ho:ops[i]?=some o) (hg:o.guard=some (j,b)) (hj:ops[j]?=some oj) (ht:oj.dst=some t) (he:S.env t=some (.cv (.lit undef))) (hd:dm X o.dst) (e:put S o.dst (.cv (.lit undef))=S''):pf P X ops i S S'':=by
 subst e;intro a w r;obtain ⟨L,r'⟩:=r;obtain ⟨g1,g2⟩:=r'.env t _ he;have hy:=tx hj ht (by rw [r'.size];exact g1) g2.lit;have hw:Region.wanted o (yielded ops a.tmps)=false:=by simp [Region.wanted,hg,hy]
 unfold wpOp;rw [ho];simp only [hw,Vo,Xr];exact ⟨L,r'.put hd (.cv (.lit _))⟩
end
theorem Iz (l m:List Int):(kN l m).length=l.length:=by
 simp only [kN,Qf,Qd,Qq];omega
theorem bd {p:Prop} (h:p:=by first
 | assumption
 | omega
 | decide
 | (simp only [Vg,Qf,QI,Iz,List.length_cons,List.length_nil,Qd,Qq];first | assumption | omega)
 | (simp only [ne_eq,Vc,Xn,W7,WS,Yf,Y7,Classical.not_not,QE,Xe] at *;first | assumption | omega)):p:=h
theorem bl {p:Prop} (h:p:=by first
 | omega
 | (simp only [maxLen];omega)
 | (simp only [List.length_cons,List.length_nil,maxLen];omega)
 | (simp only [List.length_cons,List.length_nil];omega)
 | (simp only [List.length_nil] at *;omega)
 | (simp only [List.length_cons,List.length_nil,Qf,Vg,QI,Iz,maxLen] at *;omega)):p:=h
theorem rt {α:Type} {a b:α} (h:a=b:=by first
 | rfl
 | exact (congrArg (fun z=>some (PV.int .i64 (wrap64 (z+_)))) (by decide +kernel:wrap64 (16+8)=16+8))
 | exact (congrArg (fun z=>some (PV.int .i64 (wrap64 (z+_)))) (by decide +kernel:wrap64 (0+8)=0+8))):a=b:=h
theorem nv {p:Prop} (h:p:=by first
 | assumption
 | exact Fk _
 | omega
 | rfl
 | (simp only [Vg];done)
 | (simp only [Vg];assumption)
 | (simp only [Vg];omega)):p:=h
section
variable {P:Program} {X:Ctx} {ops:Array Oper} {o:Oper} {l:List Oper} {S S':St} {Q:St->Prop}
theorem pw {p:PV} (h:Pure P X o S p:=by first
 | exact nB (.inl rfl) rfl
 | exact nB (.inr rfl) rfl
 | exact f_at rfl rfl rfl (Qe rfl)
 | exact f_load rfl rfl rfl rfl rfl
 | exact JS rfl rfl rfl rfl rfl rfl
 | exact cm32 rfl rfl
 | exact cm8 rfl rfl
 | exact a8 rfl rfl rfl
 | exact s8 rfl rfl rfl
 | exact m8 rfl rfl rfl
 | exact pux
 | exact JZ rfl rfl rfl rfl
 | exact Oh rfl rfl rfl
 | exact Oi rfl rfl
 | exact JY rfl rfl rfl rfl
 | exact BM rfl rfl rfl
 | exact f_get rfl rfl rfl rfl rfl
 | exact b_eq rfl rfl rfl
 | exact b_ne rfl rfl rfl
 | exact s_eqC rfl rfl rfl
 | exact s_neC rfl rfl rfl
 | exact s_eq rfl rfl rfl
 | exact s_ne rfl rfl rfl
 | exact KX rfl rfl rfl bd bd
 | exact KW rfl rfl rfl bd bd
 | exact Nv rfl rfl rfl rfl bd bd bd
 | exact s_of rfl rfl
 | exact KY rfl rfl rfl
 | exact zN rfl rfl rfl (by first | assumption | omega)
 | exact o_max (ts:=#[]) rfl rfl rfl rfl rfl
 | exact o_min (ts:=#[]) rfl rfl rfl rfl rfl
 | exact i_at rfl UL.h IF.h rfl rfl bd bd
 | exact Ep rfl UL.h IF.h rfl rfl rfl bd bd
 | exact yv rfl UL.h rfl rfl rfl bd bd
 | exact w_at rfl UL.h IF.h rfl rfl rfl rfl bd bd
 | exact w_load rfl UL.h rfl rfl rfl bd bd
 | exact lO rfl rfl rfl rfl UL.h rfl rfl
 | exact w_win rfl rfl rfl rfl rfl bd bd bd bd
 | exact En rfl UL.h IF.h rfl rfl bd bd
 | exact Em rfl UL.h IF.h rfl rfl bd bd
 | exact wN rfl UL.h IF.h rfl rfl rfl bd bd bd
 | exact q64 rfl rfl rfl bd
 | exact rem_ rfl rfl rfl bd
 | exact quoU rfl rfl rfl bd
 | exact shlV rfl rfl rfl bd
 | exact shrV rfl rfl rfl bd):Pure P X o S p:=h
theorem ow (h:cf P X o S S':=by first
 | (apply Pure.to (hd:=ib hX (by decide));exact pw)
 | exact Og rfl rfl rfl rfl rfl rfl rfl rfl
 | exact BG rfl IF.h rfl rfl rfl bd bd
 | exact x_box rfl rfl rfl rfl rfl rfl (ib hX (by decide))
 | exact M6 rfl rfl rfl rfl (ib hX (by decide))
 | exact Na rfl IF.h rfl rfl rfl bd bd
 | exact x_lit0 rfl (ib hX (by decide))
 | exact x_lit1 rfl rfl (ib hX (by decide))
 | exact x_lit2 rfl rfl rfl (ib hX (by decide))
 | exact Er rfl rfl rfl rfl UL.h IF.h rfl rfl rfl rfl bl bl (by decide) (ib hX (by decide))
 | exact N8 rfl rfl rfl rfl UL.h IF.h rfl rfl bl bl (ib hX (by decide))
 | exact i_copy rfl rfl rfl rfl UL.h IF.h rfl rfl rfl (ib hX (by decide))
 | exact Hm rfl rfl (by decide) rfl rfl (ib hX (by decide))
 | exact x_make (d:=.bool) rfl rfl rfl rfl bd bd Q2 (by simp only [maxLen];omega) rfl (ib hX (by decide))):cf P X o S S':=h
theorem o1 (hl:eu P X ops l S' Q) (hg:o.guard=none:=by rfl) (h:cf P X o S S':=by exact ow):eu P X ops (o :: l) S Q:=dE hg h hl
theorem oT {oj:Oper} {j:Nat} {t:Tmp} {b b':Bool} (hl:eu P X ops l S' Q) (hg:o.guard=some (j,b):=by rfl) (hj:ops[j]?=some oj:=by rfl) (ht:oj.dst=some t:=by rfl) (he:S.env t=some (.cv (.lit (.bool b'))):=by rfl) (hb:b'=b:=by first | assumption | rfl) (h:cf P X o S S':=by exact ow) (hd:dm X o.dst:=by exact ib hX (by decide)):eu P X ops (o :: l) S Q :=
 iU hg hj ht he hd (fun _=>⟨h,hl⟩) (fun h=>absurd hb h)
theorem s1 {p:PV} (hl:Av P X ops l (put S o.dst p) Q) (hg:o.guard=none:=by rfl) (h:Pure P X o S p:=by exact pw) (hd:dm X o.dst:=by exact ib hX (by decide)):Av P X ops (o :: l) S Q:=st1 hl hg h hd
theorem oc {c:Call} {f:FuncId} {args:List PV} {p:PV} {d:Tmp} [hF:FN P f] (h:Fn P f args p) (ho:o.op = .call c:=by rfl) (hc:c.callee = .value (.func f):=by rfl) (hdd:o.dst=some d:=by rfl) (ha:aV S c.args.toList=some args:=by rfl) (hcl:args.all closed=true:=by rfl) (hd:dm X (some d):=by exact ib hX (Qe rfl)):cf P X o S (put S (some d) p):=by
 have:=xf (X:=X) (S:=S) (o:=o) h ho hc ha hcl (by rw [hdd];exact hd);rw [hdd] at this;exact this
theorem dn {i:Nat} (h:Q S) (hi:i=ops.size:=by rfl):yY P X ops i [] S Q:=⟨hi,h⟩
theorem dG {i:Nat} {m:Meta} {ms:List Meta} (rT:List (Nat×Option PV)) (rR:List (Nat×Option Row)) (wT:List (Nat×Option PV)) (wR:List (Nat×Option Row)) (hr:fN rT S.env) (hR:fN rR S.rows) (ok:∀ S0,pf P X ops i (ux rT rR S0) (ux wT wR (ux rT rR S0))) (hl:yY P X ops (i+1) ms (ux wT wR S) Q) (hk:kQ ⟨rT,rR,wT,wR,[],none⟩ m=true:=by rfl) (hkl:m.kl=none/\m.rf=none:=by exact ⟨rfl,rfl⟩):yY P X ops i (m :: ms) S Q:=⟨⟨rT,rR,wT,wR,[],none⟩,hk,⟨hkl.1.symm,(fun x hx=>by cases hx),(fun l h=>by rw [hkl.2] at h;cases h)⟩,⟨hr,hR,(fun x hx=>by cases hx)⟩,fun S0 hf=>by have:=ok S0;rw [Kw hf.rT hf.rR] at this;exact this,hl⟩
end
def FnO (P:Program) (f:FuncId) (args:List PV) (R:Row):Prop:=∀ (F:Nat->Prop) (w:World) (vs:Array Value),(∀ b,F b->b<w.heap.size)->vs.size=args.length->(∀ i (h:i<args.length),cQ w (.of F) nr nl (vs.getD i undef) args[i]) ->
 Calls P f vs w fun e w'=>∃ v,e = .returned v/\Below w.heap.size w w'/\∃ xs,w'.ownsRow w.heap.size R.e R.sz v R.n xs/\xs.length=R.data.length/\∀ i (h:i<R.data.length),Den w' (.of fun b=>(F b∨(w.heap.size<=b/\b<w'.heap.size))/\v.ownBlock≠some b) (xs.getD i undef) R.data[i]
theorem zT {w:World} {B B':Nat} {e:TypeId} {sz n:Nat} {v:Value} {xs:List Value} (h:w.ownsRow B e sz v n xs) (hB:B'<=B):w.ownsRow B' e sz v n xs:=by
 refine ⟨h.1,?_⟩;rcases h.2 with h | ⟨g,cap,cur,h1,h2,h3⟩
 ·exact .inl h
 exact .inr ⟨g,cap,cur,h1,Qu hB h2,h3⟩
section
variable {P:Program} {X:Ctx} {S:St} {o:Oper} {L:mJ} {a:Act} {w w':World}
theorem KC {c:Call} {f:FuncId} {fn:Func} {args:List PV} {R:Row} {k:Nat} (ho:o.op = .call c) (hc:c.callee = .value (.func f)) (hf:P.funcs[f]?=some fn) (hn:fn.name≠"runtime.NumGoroutine") (hb:fn.body≠none)
 (ha:aV S c.args.toList=some args) (hcl:args.all closed=true) (h:FnO P f args R) (hk:S.rows k=none) (hkl:k≠cd) (hd:dm X o.dst):cf P X o S (put (setRow S k R) o.dst (.own k)):=by
 intro a w ⟨L,r⟩;obtain ⟨g1,g2⟩:=wQ r _ _ ha hcl;have hr:(execOp a.eval o).run P w = .ok (.enter f (c.args.map a.eval)) w:=by
  have l:a.eval (.func f) = .func (.func f) #[] #[]:=rfl;simp [execOp,ho,resolve,hc,l,Deferred.ofValue,invoke,callFunc,hf,hn,hb]
 unfold Oper.wp;rw [hr,Oper.upon_enter];refine (h (Still X S.rows L w).b w (c.args.map a.eval) (fun b hb=>Still.lt r.below hb) (by simpa using g1) (fun i hi=>?_)).mono ?_
 ·have g:i<c.args.size:=by
   have:c.args.size=args.length:=by simpa using g1
   omega
  have:=g2 i hi (by simpa using g);show cQ w (Still X S.rows L w).shut nr nl ((c.args.map a.eval).getD i undef) args[i];simpa [Q9,Qg g] using this
 rintro e w' ⟨v,rfl,hb',xs,q1,q2,q3⟩;have jg:∀ j d,S.rows j=some d->(setRow S k R).rows j=some d/\bh L k v j=L j:=by
  intro j d h;have:j≠k:=fun e=>by subst e;rw [hk] at h;cases h
  exact ⟨by simp only [setRow];rw [Qc this];exact h,by simp only [bh];rw [Qc this]⟩
 have only:∀ j d,(setRow S k R).rows j=some d->S.rows j=none->j=k/\d=R:=by
  intro j d h h0;simp only [setRow] at h
  by_cases c:j=k
  ·rw [Qk c] at h;cases h;exact ⟨c,rfl⟩
  rw [Qc c,h0] at h;cases h
 have hL:bh L k v k=v:=by simp [bh]
 have hn:∀ j d b,(setRow S k R).rows j=some d->S.rows j=none->(bh L k v j).ownBlock=some b->w.heap.size<=b:=by
  intro j d b h h0 hb;obtain ⟨rfl,rfl⟩:=only j d h h0;rw [hL] at hb;exact (q1.lt b hb).1
 have st:=j6 (S':=setRow S k R) (L':=bh L k v) (w':=w') r hb'.size (fun j d h=>(jg j d h).2) hn;have r2:cM X (setRow S k R) (bh L k v) a w':=by
  refine r.grow hb' rfl jg (fun j d h h0=>?_) (fun j j' d d' b h h' h0 h0' _ _=>by rw [(only j d h h0).1,(only j' d' h' h0').1]) (fun h=>by simp only [setRow];rw [Qc (Yn hkl)];exact h);obtain ⟨rfl,rfl⟩:=only j d h h0;refine ⟨⟨xs,by rw [hL];exact zT q1 (Qu X.hlo r.below.size),q2,fun i hi=>((q3 i hi).mono (F':=(Still X (setRow S j d).rows (bh L j v) w').shut) ⟨fun b hb=>?_,fun _ _ h=>h.elim,fun _ h=>h.elim⟩ (fun _ _=>rfl)).mono (Fo.ks _ _) (fun _ _=>rfl)⟩,fun b hb=>by rw [hL] at hb;exact (q1.lt b hb).1⟩;rcases hb.1 with h1 | ⟨h1,h2⟩
  ·exact st b h1
  refine ⟨.inr ⟨Qu r.below.size h1,h2⟩,?_⟩;rintro ⟨i,d',h3,h4⟩
  by_cases c:i=j
  ·subst c;rw [hL] at h4;exact hb.2 h4
  simp only [setRow] at h3;rw [Qc c] at h3;simp only [bh] at h4;rw [Qc c] at h4;have:=(r.oG h3 b h4).2;omega
 refine ⟨_,r2.put hd ?_⟩
 conv=>arg 5;rw [<- hL]
 exact .own (r:=R) (by simp [setRow])
theorem opCO {ops:Array Oper} {l:List Oper} {q:St->Prop} {c:Call} {f:FuncId} {args:List PV} {R:Row} {d:Tmp} [hF:FN P f] (h:FnO P f args R) (hl:eu P X ops l (put (setRow S d R) (some d) (.own d)) q) (hg:o.guard=none:=by rfl) (ho:o.op = .call c:=by rfl) (hc:c.callee = .value (.func f):=by rfl) (hdd:o.dst=some d:=by rfl) (ha:aV S c.args.toList=some args:=by rfl) (hcl:args.all closed=true:=by rfl) (hk:S.rows d=none:=by rfl) (hkl:d≠cd:=by decide) (hd:dm X (some d):=by exact ib hX (by decide)):eu P X ops (o :: l) S q:=by
 obtain ⟨fn,h1,h2,h3⟩:=hF.h;exact dE hg (by have:=KC (X:=X) (S:=S) (o:=o) ho hc h1 h2 h3 ha hcl h hk hkl (by rw [hdd];exact hd);rw [hdd] at this;exact this) hl
theorem yD {f:FuncId} {fn:Func} {c:Code} {args:List PV} {R:Row} {t:Tmp} (hf:P.funcs[f]?=some fn) (hb:fn.body=some c) (hn:args.length<=fn.ntmps) (hres:fn.results = #[.tmp t])
 (h:∀ X:Ctx,X.nt=fn.ntmps->kp P X c ⟨uk args,nr⟩ (fun e S=>(e = .ret∨e = .normal)/\∃ k,k<cd/\S.env t=some (.own k)/\S.rows k=some R)):FnO P f args R:=by
 intro F w vs hF hs ha
 let X:Ctx:=⟨w,fn.ntmps,F,hF,none,w.heap.size,Qn _,fun _=>True⟩
 have st:∀ b,F b->Still X nr nl w b:=fun b h=>⟨.inl h,fun ⟨k,d,h,_⟩=>by cases h⟩;have r0:cM X ⟨uk args,nr⟩ nl { tmps:=vs++Array.replicate (fn.ntmps-vs.size) undef,defers:=[] } w:=by
  refine ⟨by simp;show vs.size+(fn.ntmps-vs.size)=fn.ntmps;omega,rfl,World.grownBy.refl _ _,(fun k d h=>by cases h),(fun k k' d d' b h=>by cases h),(fun k d b h=>by cases h),(fun d h=>by cases h),fun t q hq=>?_⟩;obtain ⟨ht,rfl⟩:=Qx.1 hq;refine ⟨by show t<fn.ntmps;omega,?_⟩;have hv:=(ha t ht).mono (F':=Still X nr nl w) (w':=w) (rows':=nr) (L':=nl) ⟨st,fun _ _ h=>h.elim,fun _ h=>h.elim⟩ (fun _ _=>rfl) (fun k r h=>⟨h,rfl⟩);have e:(vs++Array.replicate (fn.ntmps-vs.size) undef).getD t undef=vs.getD t undef:=by
   simp only [Q9];rw [Wc Q2]
  show cQ w (Still X nr nl w) nr nl ((vs++Array.replicate (fn.ntmps-vs.size) undef).getD t undef) args[t];rw [e];exact hv
 refine calls_of_wp hf hb (Code.wp_mono ?_ (h X rfl _ _ ⟨nl,r0⟩));rintro e a w' ⟨S,⟨he,k,hkl,hek,hrk⟩,L,r⟩;have hv:=(r.env t _ hek).2;obtain ⟨xs,q1,q2,q3⟩:=r.row k R hrk;have l:Nat.ble opened k=false:=by
  cases hc:Nat.ble opened k with
  | false=>rfl
  | true=>exact absurd (Qu (Qe hc) (Vn hkl)) (by decide)
 have j:∀ i (h:i<R.data.length),Den w' (Still X S.rows L w').shut (xs.getD i undef) R.data[i]:=fun i hi=>by
  have h:=q3 i hi;simp only [Fo.at,l,cond_false] at h;exact h
 have hr:(results fn a.tmps).run P w' = .ok (a.tmps.getD t undef) w':=by
  rw [lL,hres];simp [qg]
 generalize a.tmps.getD t undef=v at hv hr;have hL:v=L k:=by cases hv with | own h=>rfl
 have g:a.defers=[]/\∃ v,(results fn a.tmps).run P w' = .ok v w'/\∃ u,Ending.returned v = .returned u/\Below w.heap.size w w'/\∃ xs,w'.ownsRow w.heap.size R.e R.sz u R.n xs/\xs.length=R.data.length/\∀ i (h:i<R.data.length),Den w' (.of fun b=>(F b∨(w.heap.size<=b/\b<w'.heap.size))/\u.ownBlock≠some b) (xs.getD i undef) R.data[i] :=
  ⟨r.defers,v,hr,v,rfl,⟨r.below.os,r.below.tape,r.below.output,r.below.size,fun k hk=>r.below.block k hk (by simp [X])⟩,xs,by rw [hL];exact q1,q2,fun i hi=>(j i hi).mono ⟨fun b hb=>⟨hb.1,fun e=>hb.2 ⟨k,R,hrk,by rw [<- hL];exact e⟩⟩,fun _ _ h=>h.elim,fun _ h=>h.elim⟩ (fun _ _=>rfl)⟩
 rcases he with rfl | rfl
 ·exact g
 exact g
theorem Lz {ops:Array Oper} {l:List Oper} {q:St->Prop} {t e t':TypeId} {x:Operand} {n:Nat} {cs:List CV} (hg:o.guard=none) (ho:o.op = .binOp .eql t x (.const (.slice none 0 0)) t') (hu:P.underlying t=some (.slice e)) (hx:ev S x=some (.cv (.row n cs))) (hd:dm X o.dst)
 (hl:∀ b:Bool,(b=true->n=0/\cs=[])->eu P X ops l (put S o.dst (.bool b)) q):eu P X ops (o :: l) S q:=by
 intro a w ⟨L,r⟩;have h:=r.ev hx;generalize hv:a.eval x=v at h;cases h with
 | cv hden =>
  obtain ⟨sp,sc,h1,h2⟩:∃ sp sc,v = .slice sp n sc/\(sp=none->n=0/\cs=[]):=by
   cases hden with
   | nil a' c' hb'=>exact ⟨a',c',rfl,fun _=>⟨rfl,rfl⟩⟩
   | row ad n c' cs vs hs hF hn hcc hdd=>exact ⟨some ad,c',rfl,fun h=>by cases h⟩
  subst h1;have hr:(execOp a.eval o).run P w = .ok (.value (.bool sp.isNone)) w:=by
   have e1:=Lib.run_eql_slice_nil (P:=P) w t e sp n sc 0 0 hu;have e2:a.eval (.const (.slice none 0 0)) = .slice none 0 0:=rfl;simp [execOp,ho,hv,e2,eqGuard,e1]
  have hS:eu P X ops l (put S o.dst (.bool sp.isNone)) q:=hl _ (fun h=>h2 (by simpa using h));have hw:Region.wanted o (yielded ops a.tmps)=true:=by simp [Region.wanted,hg]
  have:=hS _ w ⟨L,r.put hd (.cv (.lit (.bool sp.isNone)))⟩;unfold wpList;simp only [hw,Xh];exact .inl (cW hr this)
theorem JV {f:FuncId} {args:List PV} {R:Row} (h:FnO P f args R):Fn P f args (.cv (.row R.n R.data)):=by
 intro F w vs hF hs ha;refine (h F w vs hF hs ha).mono ?_;rintro e w' ⟨v,rfl,hb,xs,q1,q2,q3⟩;exact ⟨v,rfl,hb,.cv (qS q1 q2 (F:=.of _) (fun i hi=>(q3 i hi).mono ⟨fun b hb=>hb.1,fun _ _ h=>h.elim,fun _ h=>h.elim⟩ (fun _ _=>rfl)) (fun b hb=>.inr (q1.lt b hb)))⟩
theorem hv {α:Type} {a b:α} (h:a=b:=by first
 | rfl
 | exact congrArg (fun z=>some (PV.int .u64 z)) (by simp only [IntKind.wrap_u64];omega)
 | exact congrArg (fun z=>some (PV.int .i64 z)) (by unfold wrap64;omega)):a=b:=h
end
def mA:PV->PV
 | .own k=>.cv (.own k)
 | p=>p
def Cq (S:St):St:=⟨fun t=>(S.env t).map mA,S.rows⟩
section
variable {P:Program} {X:Ctx} {S:St} {o:Oper} {L:mJ} {a:Act} {w w':World} {k:Nat} {d d':Row}
theorem zX {B:Nat} {e:TypeId} {sz n:Nat} {v:Value} {xs:List Value} (h:w.ownsRow B e sz v n xs):v.oneCell'=true/\v.cells = #[v]:=by
 rcases h.2 with ⟨rfl,_⟩ | ⟨g,cap,cur,rfl,_⟩
 ·exact ⟨rfl,rfl⟩
 exact ⟨rfl,rfl⟩
theorem cM.DM (r:cM X S L a w) (hk:S.rows k=some d):Den w (Still X S.rows L w) (L k) (.own k):=by
 obtain ⟨xs,q1,_⟩:=r.row k d hk;obtain ⟨h1,h2⟩:=zX q1;exact .own ⟨⟨d,hk⟩,rfl⟩ h1 h2
theorem rZ {F:Fo} {rows:Nat->Option Row} (hF:∀ j u,F.o j u->(∃ r,rows j=some r)/\u=L j) {v:Value} {p:PV} (h:cQ w F rows L v (mA p)):cQ w F rows L v p:=by
 cases p with
 | own k =>
  cases h with
  | cv h =>
   cases h with
   | own h h1 h2 =>
    obtain ⟨⟨r,hr⟩,rfl⟩:=hF _ _ h;exact .own hr
 | _=>exact h
theorem cM.Hs (r:cM X S L a w):cM X (Cq S) L a w:=by
 refine ⟨r.size,r.defers,r.below,r.row,r.apart,r.mine,r.pin,fun t p h=>?_⟩;obtain ⟨q,h1,rfl⟩:=Qr.1 h;obtain ⟨h2,h3⟩:=r.env t q h1;refine ⟨h2,?_⟩;clear h h1;generalize a.tmps.getD t undef=v at h3;cases h3 with
 | own h=>exact .cv (r.DM h)
 | cv h=>exact .cv h
 | ag hl h=>exact .ag hl h
 | tup hl h=>exact .tup hl h
 | win h hL ho hn hb ha=>exact .win h hL ho hn hb ha
 | pr vs hs hF hc hd=>exact .pr vs hs hF hc hd
 | po h hL ho=>exact .po h hL ho
 | map hF hn hb he=>exact .map hF hn hb he
theorem cM.LD (r:cM X (Cq S) L a w):cM X S L a w:=by
 refine ⟨r.size,r.defers,r.below,r.row,r.apart,r.mine,r.pin,fun t p h=>?_⟩;obtain ⟨h2,h3⟩:=r.env t (mA p) (by simp only [Cq,h,Option.map_some]);exact ⟨h2,rZ (fun j u h=>h) h3⟩
theorem Rel.Hs (r:Rel X S a w):Rel X (Cq S) a w:=let ⟨L,r⟩:=r;⟨L,r.Hs⟩
theorem Rel.LD (r:Rel X (Cq S) a w):Rel X S a w:=let ⟨L,r⟩:=r;⟨L,r.LD⟩
theorem Mf {x:Operand} {p:PV} (h:ev S x=some p):ev (Cq S) x=some (mA p):=by
 cases x with
 | tmp t =>
  have h':S.env t=some p:=h;show (S.env t).map mA=_;rw [h'];rfl
 | const v =>
  cases h;show some (E9 v)=some (mA (E9 v));have:∀ v:Value,mA (E9 v)=E9 v:=by
   intro v;unfold E9;split<;>rfl
  rw [this]
 | func f=>cases h;rfl
 | global g=>cases h
theorem HY {S':St} (h:cf P X o (Cq S) (Cq S')):cf P X o S S':=fun a w r=>Oper.rm (fun _ _ h=>h.LD) (fun _ _ _ h=>h.elim) (h a w r.Hs)
theorem NK {p:PV} (h:Pure P X o (Cq S) p):Pure P X o S p:=fun L a w r=>h L a w r.Hs
theorem zb {k:Nat} (h:Pure P X o S (.cv (.own k))):Pure P X o S (.own k):=fun L a w r=>by
 obtain ⟨v,h1,h2⟩:=h L a w r;exact ⟨v,h1,rZ (p:=.own k) (fun j u h=>h) h2⟩
def jS (S:St) (k:Nat):St:=⟨(kill S k).env,fun j=>if j=k then none else (kill S k).rows j⟩
theorem cM.jS (r:cM X S L a w) (k:Nat):cM X (jS S k) L a w:=by
 have d:∀ j e,(V.jS S k).rows j=some e->j≠k/\∃ e0,S.rows j=some e0/\e=fh k j e0:=fun j e h=>by
  simp only [V.jS] at h
  by_cases c:j=k
  ·rw [Qk c] at h;cases h
  rw [Qc c] at h;obtain ⟨e0,h1,i⟩:=Qr.1 h;exact ⟨c,e0,h1,i.symm⟩
 have st:∀ b,Still X S.rows L w b->Still X (V.jS S k).rows L w b:=by
  intro b h;refine ⟨h.1,?_⟩;rintro ⟨j,e,h1,i⟩;obtain ⟨_,e0,h3,_⟩:=d j e h1;exact h.2 ⟨j,e0,h3,i⟩
 have g:∀ j u,j≠k->(Still X S.rows L w).o j u->(Still X (V.jS S k).rows L w).o j u:=by
  intro j u c h;obtain ⟨⟨e,h1⟩,i⟩:=h;refine ⟨⟨fh k j e,?_⟩,i⟩;simp only [V.jS,kill];rw [Qc c,h1];rfl
 have f:∀ j q,j≠k->S.rows j=some q->(∃ q',(V.jS S k).rows j=some q'/\q'.sz=q.sz/\q'.data.length=q.data.length)/\L j=L j:=fun j q c h=>⟨⟨fh k j q,by simp only [V.jS,kill];rw [Qc c,h];rfl,(nK k j q).2.1,(nK k j q).2.2.2⟩,rfl⟩;refine ⟨r.size,r.defers,r.below,?_,?_,(fun j e b h i=>?_),(fun e h=>?_),?_⟩
 case refine_3 =>
  obtain ⟨_,e0,h3,_⟩:=d j e h;exact r.mine j e0 b h3 i
 case refine_4 =>
  obtain ⟨_,e0,h3,_⟩:=d cd e h;exact r.pin e0 h3
 ·intro j e h;obtain ⟨c,e0,h3,rfl⟩:=d j e h;exact (r.row j e0 h3).kill (row:=none) st g (fun _ _=>rfl) rfl (World.grownBy.refl _ _) (by
   cases hb:(L j).ownBlock with
   | none=>exact .inl rfl
   | some b=>exact .inr Q3)
 ·intro j j' e e' b h h' hb hb';obtain ⟨_,e0,h3,_⟩:=d j e h;obtain ⟨_,e1,h4,_⟩:=d j' e' h';exact r.apart j j' e0 e1 b h3 h4 hb hb'
 intro t p h;obtain ⟨h1,i⟩:=ud h;obtain ⟨h3,h4⟩:=r.env t p h1;exact ⟨h3,h4.jg i st g (fun _ h=>h) (fun _ _=>rfl) f⟩
theorem Jg (k:Nat):∀ a w,Rel X S a w->Rel X (jS S k) a w:=fun a w ⟨L,r⟩=>⟨L,r.jS k⟩
theorem J2 {k:Nat} {R:Row} {p:PV} (h:fA k p=false):conv k R p=some p:=by
 cases p with
 | cv c=>simp only [fA] at h;simp only [conv,h,cond_false]
 | ag cs=>simp only [fA] at h;simp only [conv,h,cond_false]
 | tup ps=>simp [fA] at h
 | own j=>simp only [fA,QE] at h;simp only [conv];rw [Qc h]
 | win j o n=>simp only [fA,QE] at h;simp only [conv];rw [Qc h]
 | po j o=>simp only [fA,QE] at h;simp only [conv];rw [Qc h]
 | pr cs=>rfl
 | map l=>rfl
theorem xh {c:Call} {x y:Operand} {t e:TypeId} {inf:TypeInfo} {z:Value} {m:Nat} {ncs:List CV} (ho:o.op = .call c) (hc:c.callee = .builtin .append) (ha:c.args = #[x,y]) (ht:c.argTypes = #[t,t]) (hu:P.underlying t=some (.slice e)) (hi:P.info? e=some inf) (hz:inf.zero=some z) (hzs:z.cells.size=inf.size) (hsz:0<inf.size)
 (hx:ev S x=some (.own k)) (hk:S.rows k=some d) (hde:d.e=e) (hds:d.sz=inf.size) (hy:ev S y=some (.cv (.row m ncs))) (hm:ncs.length=m*inf.size) (i:ncs.all one=true) (g:d.n+m<=maxLen) (hb:(d.n+m)*inf.bytes<=140737488355328) (hkl:k≠cd) (hko:Nat.ble opened k=false) (hd:dm X o.dst) :
 cf P X o S (put (jS S k) o.dst (.cv (.row (d.n+m) (d.data++ncs)))):=by
 intro a w r;refine Oper.rm (fun a' w' h=>?_) (fun _ _ _ h=>h) (zq ho hc ha ht hu hi hz hzs hsz hx hk hde hds hy hm i g hb hkl hko hd a w r);have f:(put (setRow (kill S k) k ⟨e,inf.size,d.n+m,d.data++ncs⟩) o.dst (.own k)).rows k=some ⟨e,inf.size,d.n+m,d.data++ncs⟩:=by
  cases o.dst<;>simp [V.put,setRow]
 have h2:=dF (X:=X) f hkl hko a' w' h;have rows:∀ d0:Option Tmp,∀ j,(freeze (put (setRow (kill S k) k ⟨e,inf.size,d.n+m,d.data++ncs⟩) d0 (.own k)) k ⟨e,inf.size,d.n+m,d.data++ncs⟩).rows j=(jS S k).rows j:=by
  intro d0 j;have e1:∀ S':St,(put S' d0 (.own k)).rows=S'.rows:=fun S'=>by cases d0<;>rfl
  simp only [freeze,jS,e1]
  by_cases c:j=k
  ·rw [Qk c,Qk c]
  rw [Qc c,Qc c];simp only [setRow,kill];rw [Qc c];cases S.rows j with
  | none=>rfl
  | some r0 =>
   simp only [Option.map_some,Qj];unfold jU;cases ho:Nat.ble opened j with
   | false=>rfl
   | true =>
    simp only [cond_true,fh,ho,YA];congr 1;refine WA (fun c _=>?_);cases c with
    | own q =>
     cases hq:Nat.beq q k with
     | true=>simp only [Function.comp,mE,hq,cond_true];rfl
     | false=>simp only [Function.comp,mE,hq,cond_false,As]
    | _=>rfl
 have b:∀ t,((kill S k).env t).bind (conv k ⟨e,inf.size,d.n+m,d.data++ncs⟩)=(kill S k).env t:=by
  intro t;cases hq:(kill S k).env t with
  | none=>rfl
  | some p=>exact J2 (ud hq).2
 have e:freeze (put (setRow (kill S k) k ⟨e,inf.size,d.n+m,d.data++ncs⟩) o.dst (.own k)) k ⟨e,inf.size,d.n+m,d.data++ncs⟩=put (jS S k) o.dst (.cv (.row (d.n+m) (d.data++ncs))):=by
  cases hdd:o.dst with
  | none=>exact pY (funext fun t=>b t) (funext fun j=>rows none j)
  | some dd =>
   refine pY (funext fun t=>?_) (funext fun j=>rows (some dd) j);simp only [freeze,V.put]
   by_cases c:t=dd
   ·rw [Qk c,Qk c];simp [conv]
   rw [Qc c,Qc c];exact b t
 rw [<- e];exact h2
theorem cM.blur (r:cM X (setRow S k d) L a w) (hle:j4 d' d) (hko:Nat.ble opened k=true):cM X (setRow S k d') L a w:=by
 have rows:∀ j e',(setRow S k d').rows j=some e'->∃ e,(setRow S k d).rows j=some e/\(j≠k->e'=e)/\(j=k->e'=d'/\e=d):=by
  intro j e' h;simp only [setRow] at h ⊢
  by_cases c:j=k
  ·rw [Qk c] at h ⊢;cases h;exact ⟨d,rfl,fun h=>absurd c h,fun _=>⟨rfl,rfl⟩⟩
  rw [Qc c] at h ⊢;exact ⟨e',h,fun _=>rfl,fun h=>absurd h c⟩
 have f:∀ j e,(setRow S k d).rows j=some e->∃ e',(setRow S k d').rows j=some e'/\e'.sz=e.sz/\e'.data.length=e.data.length:=by
  intro j e h;simp only [setRow] at h ⊢
  by_cases c:j=k
  ·rw [Qk c] at h ⊢;cases h;exact ⟨d',rfl,hle.sz.symm,hle.len.symm⟩
  rw [Qc c] at h ⊢;exact ⟨e,h,rfl,rfl⟩
 have st:∀ b,Still X (setRow S k d).rows L w b->Still X (setRow S k d').rows L w b:=by
  intro b h;refine ⟨h.1,?_⟩;rintro ⟨j,e',h1,l⟩;obtain ⟨e,h3,_⟩:=rows j e' h1;exact h.2 ⟨j,e,h3,l⟩
 have stF:(Still X (setRow S k d).rows L w).le (Still X (setRow S k d').rows L w):=⟨st,fun j u h=>by
  obtain ⟨⟨e,h1⟩,l⟩:=h;obtain ⟨e',h3,_⟩:=f j e h1;exact ⟨⟨e',h3⟩,l⟩,fun _ h=>h⟩
 refine ⟨r.size,r.defers,r.below,?_,?_,(fun j e b h l=>?_),(fun e h=>?_),?_⟩
 case refine_3 =>
  obtain ⟨e0,h3,_⟩:=rows j e h;exact r.mine j e0 b h3 l
 case refine_4 =>
  obtain ⟨e0,h3,_⟩:=rows cd e h;exact r.pin e0 h3
 ·intro j e' h;obtain ⟨e,h3,h4,h5⟩:=rows j e' h;obtain ⟨xs,q1,q2,q3⟩:=r.row j e h3
  by_cases c:j=k
  ·obtain ⟨rfl,rfl⟩:=h5 c;subst c;refine ⟨xs,by rw [<- hle.e,<- hle.sz,<- hle.n];exact q1,by rw [<- hle.len];exact q2,fun i hi=>?_⟩;have g:i<e.data.length:=by rw [hle.len];exact hi
   have h6:=(q3 i g).mono (stF.at j) (fun _ _=>rfl);have h7:=hle.le i hi g;generalize xs.getD i undef=v at h6;generalize e.data[i]=c at h6 h7;generalize e'.data[i]=c' at h7;cases c' with
   | any =>
    rcases h7 with rfl | ⟨q,rfl⟩
    ·exact h6
    cases h6 with
    | own _ h1 l=>exact .any h1 l
   | lit v=>cases h7;exact h6
   | row n cs=>cases h7;exact h6
   | own q=>cases h7;exact h6
  have e1:=h4 c;subst e1;exact ⟨xs,q1,q2,fun i hi=>(q3 i hi).mono (stF.at j) (fun _ _=>rfl)⟩
 ·intro j j' e e' b h h' hb hb';obtain ⟨e0,h3,_⟩:=rows j e h;obtain ⟨e1,h4,_⟩:=rows j' e' h';exact r.apart j j' e0 e1 b h3 h4 hb hb'
 intro t p h;obtain ⟨h3,h4⟩:=r.env t p h;refine ⟨h3,?_⟩;clear h;generalize a.tmps.getD t undef=v at h4
 induction h4 with
 | cv h=>exact .cv (h.mono stF (fun _ _=>rfl))
 | ag hl h=>exact .ag hl (fun i hi=>(h i hi).mono stF (fun _ _=>rfl))
 | tup hl h ih=>exact .tup hl ih
 | own h=>obtain ⟨e',h1,_⟩:=f _ _ h;exact .own h1
 | win h hL ho hn hb ha=>obtain ⟨e',h1,l,h3⟩:=f _ _ h;exact .win h1 hL ho hn hb (by rw [l];exact ha)
 | pr vs hs hF hc hd=>exact .pr vs hs (st _ hF) hc (fun i hi=>(hd i hi).mono stF.shut (fun _ _=>rfl))
 | po h hL ho=>obtain ⟨e',h1,l,h3⟩:=f _ _ h;exact .po h1 hL (by rw [h3];exact ho)
 | map hF hn hb he=>exact .map (st _ hF) (stF.n _ hn) hb he
theorem K9 (hle:j4 d' d) (hko:Nat.ble opened k=true):∀ a w,Rel X (setRow S k d) a w->Rel X (setRow S k d') a w:=fun a w ⟨L,r⟩=>⟨L,r.blur hle hko⟩
theorem cM.sO (r:cM X S L a w) (hk:S.rows k=none) (hkl:k≠cd) (e:TypeId) (sz:Nat):cM X (setRow S k ⟨e,sz,0,[]⟩) (bh L k (.slice none 0 0)) a w:=by
 have jg:∀ j q,S.rows j=some q->(setRow S k ⟨e,sz,0,[]⟩).rows j=some q/\bh L k (.slice none 0 0) j=L j:=by
  intro j q h;have:j≠k:=fun e=>by subst e;rw [hk] at h;cases h
  exact ⟨by simp only [setRow];rw [Qc this];exact h,by simp only [bh];rw [Qc this]⟩
 have only:∀ j q,(setRow S k ⟨e,sz,0,[]⟩).rows j=some q->S.rows j=none->j=k/\q=⟨e,sz,0,[]⟩:=by
  intro j q h d;simp only [setRow] at h
  by_cases c:j=k
  ·rw [Qk c] at h;cases h;exact ⟨c,rfl⟩
  rw [Qc c,d] at h;cases h
 refine r.grow (Below.refl _ _) rfl jg (fun j q h d=>?_) (fun j j' q q' b h h' d h0' _ _=>by rw [(only j q h d).1,(only j' q' h' h0').1]) (fun h=>by simp only [setRow];rw [Qc (Yn hkl)];exact h);obtain ⟨rfl,rfl⟩:=only j q h d;refine ⟨⟨[],?_,rfl,fun i hi=>by simp at hi⟩,fun b hb=>by simp [bh,Value.ownBlock] at hb⟩;simp only [bh,Qk];exact World.ownsRow_nil _ _ _ _
theorem xg {t:TypeId} {ps:Array (Nat×Operand)} {fs:Array Field} {inf:TypeInfo} {z:Value} {places:List (Nat×Nat)} {qs:List (Nat×List CV)} {zs cs:List CV} (e:TypeId) (sz:Nat) (ho:o.op = .build t ps) (hu:P.underlying t=some (.struct fs)) (hi:P.info? t=some inf) (hz:inf.zero=some z)
 (hp:fs.toList.mapM (fun f=>(P.info? f.type).map fun i=>(f.offset,i.size))=some places) (hq:parts S ps.toList=some qs) (hzs:z.cells.size=zs.length/\∀ i (h:i<zs.length),zs[i]=ij (z.cells.getD i undef)∨(zs[i] = .own k/\z.cells.getD i undef = .slice none 0 0)) (hf:iC (places.toArray[·]?) zs qs=some cs)
 (hk:S.rows k=none) (hkl:k≠cd) (hd:dm X o.dst):cf P X o S (put (setRow S k ⟨e,sz,0,[]⟩) o.dst (.ag cs)):=by
 intro a w ⟨L,r⟩;obtain ⟨g1,g2⟩:=rD r _ _ hq;have r2:=r.sO hk hkl e sz;have jg:∀ j q,S.rows j=some q->(setRow S k ⟨e,sz,0,[]⟩).rows j=some q/\bh L k (.slice none 0 0) j=L j:=by
  intro j q h;have:j≠k:=fun e=>by subst e;rw [hk] at h;cases h
  exact ⟨by simp only [setRow];rw [Qc this];exact h,by simp only [bh];rw [Qc this]⟩
 have st:=j6 (S':=setRow S k ⟨e,sz,0,[]⟩) (L':=bh L k (.slice none 0 0)) (w':=w) r (Qn _) (fun j d h=>(jg j d h).2) (fun j d b h n hb=>by
  simp only [setRow] at h
  by_cases c:j=k
  ·subst c;simp [bh,Value.ownBlock] at hb
  rw [Qc c,n] at h;cases h)
 have m:(Still X S.rows L w).le (Still X (setRow S k ⟨e,sz,0,[]⟩).rows (bh L k (.slice none 0 0)) w):=⟨st,fun q v h=>by
  obtain ⟨⟨d,h1⟩,h2⟩:=h;exact ⟨⟨d,(jg q d h1).1⟩,by rw [(jg q d h1).2];exact h2⟩,fun _ h=>h⟩
 have g:Den w (Still X (setRow S k ⟨e,sz,0,[]⟩).rows (bh L k (.slice none 0 0)) w) (.slice none 0 0) (.own k):=by
  have:=r2.DM (k:=k) (d:=⟨e,sz,0,[]⟩) (by simp [setRow]);simpa [bh] using this
 obtain ⟨cells,k1,k2,k3⟩:=yG (w:=w) (F:=Still X (setRow S k ⟨e,sz,0,[]⟩).rows (bh L k (.slice none 0 0)) w) (places.toArray[·]?) (ps.toList.map fun x=>(x.1,a.eval x.2)) qs z.cells zs cs (by simpa using g1) (fun j h h'=>by
  have h3:=g2 j h (by simpa using h');refine ⟨by simpa using h3.1,by simpa using h3.2.1,fun i hi=>?_⟩;have:=(h3.2.2 i hi).mono m (fun _ _=>rfl);simpa using this) hzs.1 (fun i h=>by
   rcases hzs.2 i h with h2 | ⟨h2,h3⟩
   ·rw [h2];exact jT _ _ _
   rw [h2,h3];exact g) hf
 have hb:P.built t (ps.map fun (x:Nat×Operand)=>(x.1,a.eval x.2)).toList=some cells:=by
  unfold Program.built;simp only [hu,hi,hz,hp];simpa using k1
 have l:=run_build (P:=P) w t (ps.map fun (x:Nat×Operand)=>(x.1,a.eval x.2)) cells hb;exact cW (v:=.agg cells) (w':=w) (by simp [execOp,ho,l]) ⟨_,r2.put hd (.ag k2 k3)⟩
end
end Go.Proofs.YtfbgaddecbiimaaGreatDoor.V
end
