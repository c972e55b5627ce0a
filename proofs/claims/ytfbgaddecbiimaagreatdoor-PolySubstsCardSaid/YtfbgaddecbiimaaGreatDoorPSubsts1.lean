/- An evaluator of the program's code, what its functions come to, and what they mean: text 1. No condition. -/
import Derived.Below
import Derived.OwnWalk
import Derived.Laws.MakeOwn
import Derived.Laws.OwnMore
import Derived.Laws.CopyOwn
import Derived.Deep.AppendLies
import Derived.Orders
import Derived.Tactics2
import Derived.Laws.Entries
import Derived.Laws.Small
import Derived.Laws.Tables
import Derived.ChangeKeysEq
import Derived.Deep.Draws
import Derived.Maps.AppendAt
import Derived.Laws.BytesArg
import Derived.Deep.OwnRows
import Derived.Tactics
import Derived.Lib.ConvBytes
import Derived.Laws.Slices
import Derived.WalkKit
import Derived.KernelRfl
import Derived.RowKit3
import Derived.Deep.LoopGhost
import Derived.Deep.QuietTactic
import Derived.BigQuiet
import Derived.WideLaws
import Derived.Deep.DeepCutAuto
import Derived.Deep.CutBlock
import Derived.Deep.RegionHeld3
import Derived.Laws.Rows
import Derived.Lib.AppendStr
import Derived.ArgAppend
import Derived.Laws.IdiomCopy
import Derived.RowKit
import Derived.OrdersHeld
import Derived.Laws.BitsLemmas
import Derived.Still
import Derived.Lib.Strings
import Derived.Lib.SliceRun
import Derived.Scope
import Derived.Carry
import Derived.MapKept
import Derived.Laws.StructEq
set_option linter.unusedSimpArgs false
set_option linter.unusedSectionVars false
set_option linter.unusedVariables false
set_option maxRecDepth 100000
set_option maxHeartbeats 4000000
namespace Go.Proofs.YtfbgaddecbiimaaGreatDoor
end Go.Proofs.YtfbgaddecbiimaaGreatDoor
namespace Go.Proofs.YtfbgaddecbiimaaGreatDoor.E
end Go.Proofs.YtfbgaddecbiimaaGreatDoor.E
namespace Go.Proofs.YtfbgaddecbiimaaGreatDoor.G
end Go.Proofs.YtfbgaddecbiimaaGreatDoor.G
namespace Go.Proofs.YtfbgaddecbiimaaGreatDoor.P
end Go.Proofs.YtfbgaddecbiimaaGreatDoor.P
namespace Go.Proofs.YtfbgaddecbiimaaGreatDoor.Q
end Go.Proofs.YtfbgaddecbiimaaGreatDoor.Q
namespace Go.Proofs.YtfbgaddecbiimaaGreatDoor.V
end Go.Proofs.YtfbgaddecbiimaaGreatDoor.V
namespace Go.Proofs.YtfbgaddecbiimaaGreatDoor.polySubsts
end Go.Proofs.YtfbgaddecbiimaaGreatDoor.polySubsts
namespace Go.Proofs.YtfbgaddecbiimaaGreatDoorW.PrintLast
end Go.Proofs.YtfbgaddecbiimaaGreatDoorW.PrintLast
namespace Go.Proofs.YtfbgaddecbiimaaGreatDoorW.PrintMore
end Go.Proofs.YtfbgaddecbiimaaGreatDoorW.PrintMore
namespace Go.Proofs.YtfbgaddecbiimaaGreatDoorW.PrintMore.Kd
end Go.Proofs.YtfbgaddecbiimaaGreatDoorW.PrintMore.Kd
namespace Go.Proofs.YtfbgaddecbiimaaGreatDoorW.PrintWords
end Go.Proofs.YtfbgaddecbiimaaGreatDoorW.PrintWords
namespace Go.Proofs.YtfbgaddecbiimaaGreatDoorW.PrintWords.Kd
end Go.Proofs.YtfbgaddecbiimaaGreatDoorW.PrintWords.Kd
namespace Go.Proofs.YtfbgaddecbiimaaGreatDoorW.PrintWords.sN
end Go.Proofs.YtfbgaddecbiimaaGreatDoorW.PrintWords.sN
namespace Go.Proofs.YtfbgaddecbiimaaGreatDoor
theorem Q2 {p:Prop} (h:p:=by omega):p:=h
theorem Q3 {p:Prop} (h:p:=by simp):p:=h
end Go.Proofs.YtfbgaddecbiimaaGreatDoor
section
namespace Go.Proofs.YtfbgaddecbiimaaGreatDoor.V
open Go.RowKit
inductive CV where
 | lit (v:Value)
 | row (n:Nat) (cs:List CV)
 | own (k:Nat)
 | any
structure Fo where
 b:Nat->Prop
 o:Nat->Value->Prop
 n:Nat->Prop
instance:CoeFun Fo (fun _=>Nat->Prop):=⟨Fo.b⟩
abbrev Fo.of (B:Nat->Prop):Fo:=⟨B,fun _ _=>False,fun _=>False⟩
def Fo.shut (F:Fo):Fo:=.of F.b
structure Fo.le (F F':Fo):Prop where
 b:∀ b,F b->F' b
 o:∀ j v,F.o j v->F'.o j v
 n:∀ b,F.n b->F'.n b
theorem Fo.le.shut {F F':Fo} (h:F.le F'):F.shut.le F'.shut:=⟨h.b,fun _ _ h=>h,fun _ h=>h⟩
theorem Fo.le.refl (F:Fo):F.le F:=⟨fun _ h=>h,fun _ _ h=>h,fun _ h=>h⟩
theorem Fo.yX (F:Fo):F.shut.le F:=⟨fun _ h=>h,fun _ _ h=>h.elim,fun _ h=>h.elim⟩
theorem Fo.ja {F F':Fo} (h:∀ b,F b->F' b):F.shut.le F'.shut:=⟨h,fun _ _ h=>h,fun _ h=>h⟩
inductive Den (w:World):Fo->Value->CV->Prop where
 | lit {F:Fo} (v:Value):Den w F v (.lit v)
 | nil {F:Fo} (a:Option Addr) (c:Nat) (h:a=none->c=0):Den w F (.slice a 0 c) (.row 0 [])
 | row {F:Fo} (ad:Addr) (n c:Nat) (cs:List CV) (vs:Nat->Value) (hs:ad.spot=none) (hF:F ad.block) (hn:n<=c) (hc:∀ i,i<cs.length->w.cell? (ad.add i)=some (vs i))
  (hd:∀ i (h:i<cs.length),Den w F.shut (vs i) cs[i]):Den w F (.slice (some ad) n c) (.row n cs)
 | own {F:Fo} {j:Nat} {v:Value} (h:F.o j v) (h1:v.oneCell'=true) (h2:v.cells = #[v]):Den w F v (.own j)
 | any {F:Fo} {v:Value} (h1:v.oneCell'=true) (h2:v.cells = #[v]):Den w F v .any
theorem block_add (a:Addr) (i:Nat):(a.add i).block=a.block:=by unfold Addr.add;split<;>rfl
theorem Den.qB {w w':World} {F:Fo} {v:Value} {c:CV} (h:Den w F v c):∀ {F':Fo},(∀ b,F b->F' b)->(∀ j u,c = .own j->F.o j u->F'.o j u)->(∀ b,F b->w'.heap[b]?=w.heap[b]?)->Den w' F' v c:=by
 induction h with
 | lit v=>exact fun _ _ _=>.lit v
 | nil a c h=>exact fun _ _ _=>.nil a c h
 | row ad n c cs vs hs hF' hn hc hd ih=>exact fun hF _ hw=>.row ad n c cs vs hs (hF _ hF') hn (fun i hi=>(World.cell?_of_block (by rw [block_add];exact hw _ hF')).trans (hc i hi)) (fun i hi=>ih i hi hF (fun _ _ _ h=>h) hw)
 | own h h1 h2=>exact fun _ ho _=>.own (ho _ _ rfl h) h1 h2
 | any h1 h2=>exact fun _ _ _=>.any h1 h2
theorem Den.mono {w w':World} {F F':Fo} {v:Value} {c:CV} (h:Den w F v c) (hF:F.le F') (hw:∀ b,F b->w'.heap[b]?=w.heap[b]?):Den w' F' v c:=h.qB hF.b (fun _ _ _=>hF.o _ _) hw
def fN:CV->Bool
 | .own _=>false
 | _=>true
theorem Den.shut {w:World} {F:Fo} {v:Value} {c:CV} (h:Den w F v c) (hsh:fN c=true):Den w F.shut v c:=by
 cases h with
 | lit v=>exact .lit v
 | nil a c h=>exact .nil a c h
 | row ad n c cs vs hs hF' hn hc hd=>exact .row ad n c cs vs hs hF' hn hc hd
 | own h h1 h2=>cases hsh
 | any h1 h2=>exact .any h1 h2
theorem Den.open {w:World} {F:Fo} {v:Value} {c:CV} (h:Den w F.shut v c):Den w F v c:=h.mono (Fo.yX F) (fun _ _=>rfl)
inductive PV where
 | cv (c:CV)
 | ag (cs:List CV)
 | tup (ps:List PV)
 | own (k:Nat)
 | win (k off n:Nat)
 | pr (cs:List CV)
 | po (k off:Nat)
 | map (l:List (ByteArray×Int))
structure Row where
 e:TypeId
 sz:Nat
 n:Nat
 data:List CV
structure St where
 env:Nat->Option PV
 rows:Nat->Option Row
abbrev lE:=Nat->Value
inductive cO (w:World) (F:Fo) (rows:Nat->Option Row) (L:lE):Value->PV->Prop where
 | cv {v:Value} {c:CV} (h:Den w F v c):cO w F rows L v (.cv c)
 | ag {vs:Array Value} {cs:List CV} (hl:vs.size=cs.length) (h:∀ i (h:i<cs.length),Den w F (vs.getD i undef) cs[i]):cO w F rows L (.agg vs) (.ag cs)
 | tup {vs:Array Value} {ps:List PV} (hl:vs.size=ps.length) (h:∀ i (h:i<ps.length),cO w F rows L (vs.getD i undef) ps[i]):cO w F rows L (.tuple vs) (.tup ps)
 | own {k:Nat} {r:Row} (h:rows k=some r):cO w F rows L (L k) (.own k)
 | win {a:Option Addr} {k off n g m cap c:Nat} {r:Row} (h:rows k=some r) (hL:L k = .slice (some ⟨g,0,none⟩) m cap) (ho:off+n<=m) (hn:n<=c) (hb:a=none->c=0) (ha:0<n->a=some ⟨g,off*r.sz,none⟩):cO w F rows L (.slice a n c) (.win k off n)
 | pr {ad:Addr} {cs:List CV} (vs:Nat->Value) (hs:ad.spot=none) (hF:F ad.block) (hc:∀ i,i<cs.length->w.cell? (ad.add i)=some (vs i)) (hd:∀ i (h:i<cs.length),Den w F.shut (vs i) cs[i]) :
  cO w F rows L (.pointer (some ad)) (.pr cs)
 | po {k off g m cap:Nat} {r:Row} (h:rows k=some r) (hL:L k = .slice (some ⟨g,0,none⟩) m cap) (ho:off<r.data.length):cO w F rows L (.pointer (some ⟨g,off,none⟩)) (.po k off)
 | map {b clock:Nat} {arr:Array MapEntry} {l:List (ByteArray×Int)} (hF:F b) (hn:F.n b) (hb:w.heap[b]?=some (.map arr clock)) (he:arr.toList.map (fun e=>(e.key,e.val))=l.map fun x=>(.string x.1,.int .i64 x.2)):cO w F rows L (.map (some b)) (.map l)
theorem cO.mono {w w':World} {F F':Fo} {rows rows':Nat->Option Row} {L L':lE} {v:Value} {p:PV} (h:cO w F rows L v p) (hF:F.le F') (hw:∀ b,F b->w'.heap[b]?=w.heap[b]?)
 (hr:∀ k r,rows k=some r->rows' k=some r/\L' k=L k):cO w' F' rows' L' v p:=by
 induction h with
 | cv h=>exact .cv (h.mono hF hw)
 | ag hl h=>exact .ag hl (fun i hi=>(h i hi).mono hF hw)
 | tup hl h ih=>exact .tup hl ih
 | @own k r h=>rw [<- (hr _ _ h).2];exact .own (hr _ _ h).1
 | @win a k off n g m cap c r h hL ho hn hb ha=>exact .win (hr _ _ h).1 (by rw [(hr _ _ h).2];exact hL) ho hn hb ha
 | pr vs hs hF' hc hd=>exact .pr vs hs (hF.b _ hF') (fun i hi=>(World.cell?_of_block (by rw [block_add];exact hw _ hF')).trans (hc i hi)) (fun i hi=>(hd i hi).mono hF.shut hw)
 | @po k off g m cap r h hL ho=>exact .po (hr _ _ h).1 (by rw [(hr _ _ h).2];exact hL) ho
 | map hF' hn hb he=>exact .map (hF.b _ hF') (hF.n _ hn) ((hw _ hF').trans hb) he
structure Ctx where
 w0:World
 nt:Nat
 F0:Nat->Prop
 lt:∀ b,F0 b->b<w0.heap.size
 G:Option Nat
 lo:Nat
 hlo:lo<=w0.heap.size
 pin:Value->Prop
abbrev bY:Nat:=1000000
abbrev Ctx.B (X:Ctx):Nat:=X.w0.heap.size
def Kc (rows:Nat->Option Row) (L:lE) (b:Nat):Prop:=∃ k r,rows k=some r/\(L k).ownBlock=some b
def Still (X:Ctx) (rows:Nat->Option Row) (L:lE) (w:World):Fo:=⟨fun b=>(X.F0 b∨(X.B<=b/\b<w.heap.size))/\¬ Kc rows L b,fun j v=>(∃ r,rows j=some r)/\v=L j,fun b=>X.B<=b⟩
abbrev opened:Nat:=2000000
def Fo.at (F:Fo) (k:Nat):Fo:=bif Nat.ble opened k then F else F.shut
theorem Fo.at_le (F:Fo) (k:Nat):(F.at k).le F:=by
 unfold Fo.at
 cases Nat.ble opened k with
 | true=>exact .refl _
 | false=>exact F.yX
theorem Fo.jN (F:Fo) (k:Nat):F.shut.le (F.at k):=by
 unfold Fo.at
 cases Nat.ble opened k with
 | true=>exact F.yX
 | false=>exact .refl _
theorem Fo.le.at {F F':Fo} (h:F.le F') (k:Nat):(F.at k).le (F'.at k):=by
 unfold Fo.at
 cases Nat.ble opened k with
 | true=>exact h
 | false=>exact h.shut
theorem Den.at {w:World} {F:Fo} {v:Value} {c:CV} (h:Den w F v c) {k:Nat} (hc:(Nat.ble opened k||fN c)=true):Den w (F.at k) v c:=by
 unfold Fo.at
 cases e:Nat.ble opened k with
 | true=>exact h
 | false=>rw [e,Bool.false_or] at hc;exact h.shut hc
theorem Fo.CX (F:Fo) (k b:Nat):F.at k b=F b:=by
 unfold Fo.at
 cases Nat.ble opened k<;>rfl
def pF (X:Ctx) (w:World) (F:Fo) (L:lE) (k:Nat) (r:Row):Prop :=
 ∃ xs,w.ownsRow X.lo r.e r.sz (L k) r.n xs/\xs.length=r.data.length/\∀ i (h:i<r.data.length),Den w (F.at k) (xs.getD i undef) r.data[i]
structure cL (X:Ctx) (S:St) (L:lE) (a:Act) (w:World):Prop where
 size:a.tmps.size=X.nt
 defers:a.defers=[]
 below:X.w0.grownBy w X.G
 row:∀ k r,S.rows k=some r->pF X w (Still X S.rows L w) L k r
 apart:∀ k k' r r' b,S.rows k=some r->S.rows k'=some r'->(L k).ownBlock=some b->(L k').ownBlock=some b->k=k'
 mine:∀ k r b,S.rows k=some r->(L k).ownBlock=some b->X.B<=b∨(k=bY/\X.G=some b)
 pin:∀ r,S.rows bY=some r->X.pin (L bY)
 env:∀ t p,S.env t=some p->t<X.nt/\cO w (Still X S.rows L w) S.rows L (a.tmps.getD t undef) p
def Rel (X:Ctx) (S:St) (a:Act) (w:World):Prop:=∃ L,cL X S L a w
theorem ni {w0 w w':World} {G row:Option Nat} (h:w0.grownBy w G) (hg:w.grownBy w' row) (hr:∀ b,row=some b->w0.heap.size<=b∨G=some b):w0.grownBy w' G :=
 ⟨hg.os.trans h.os,hg.tape.trans h.tape,hg.output.trans h.output,Nat.le_trans h.size hg.size,fun k hk hne=>(hg.block k (Nat.lt_of_lt_of_le hk h.size) (fun e=>by
  rcases hr k e.symm with h1 | h1
  ·omega
  exact hne h1.symm)).trans (h.block k hk hne)⟩
theorem Still.lt {X:Ctx} {rows:Nat->Option Row} {L:lE} {w:World} (hb:X.w0.grownBy w X.G) {b:Nat} (h:Still X rows L w b):b<w.heap.size:=by
 rcases h.1 with h | h
 ·exact Nat.lt_of_lt_of_le (X.lt b h) hb.size
 exact h.2
theorem pF.mono {X:Ctx} {w w':World} {F F':Fo} {L L':lE} {k:Nat} {r:Row} (h:pF X w F L k r) (hF:F.le F') (hw:∀ b,F b->w'.heap[b]?=w.heap[b]?) (hL:L' k=L k)
 {row:Option Nat} (hg:w.grownBy w' row) (hne:(L k).ownBlock=none∨(L k).ownBlock≠row):pF X w' F' L' k r:=by
 obtain ⟨xs,h1,h2,h3⟩:=h
 exact ⟨xs,by rw [hL];exact h1.kept hg hne,h2,fun i hi=>(h3 i hi).mono (hF.at k) (fun b hb=>hw b (by rw [<- F.CX k];exact hb))⟩
def ik (k:Nat):CV->Bool
 | .own j=>Nat.beq j k
 | _=>false
theorem oC {k j:Nat}:ik k (.own j)=true↔j=k:=⟨Nat.eq_of_beq_eq_true,fun h=>by subst h;exact Nat.beq_refl j⟩
def refs (k:Nat):PV->Bool
 | .cv c=>ik k c
 | .ag cs=>cs.any (ik k)
 | .tup _=>true
 | _=>false
theorem cO.qB {w w':World} {F F':Fo} {rows:Nat->Option Row} {L:lE} {v:Value} {p:PV} (h:cO w F rows L v p) (hF:∀ b,F b->F' b) (ho:∀ j u,refs j p=true->F.o j u->F'.o j u) (hn:∀ b,F.n b->F'.n b) (hw:∀ b,F b->w'.heap[b]?=w.heap[b]?):cO w' F' rows L v p:=by
 induction h with
 | cv h=>exact .cv (h.qB hF (fun j u e=>ho j u (by rw [e];exact oC.2 rfl)) hw)
 | ag hl h=>exact .ag hl (fun i hi=>(h i hi).qB hF (fun j u e=>ho j u (by
  simp only [refs,List.any_eq_true]
  exact ⟨_,List.getElem_mem hi,by rw [e];exact oC.2 rfl⟩)) hw)
 | tup hl h ih=>exact .tup hl (fun i hi=>ih i hi (fun j u _=>ho j u rfl))
 | own h=>exact .own h
 | win h hL h1 hn hb ha=>exact .win h hL h1 hn hb ha
 | pr vs hs hF' hc hd=>exact .pr vs hs (hF _ hF') (fun i hi=>(World.cell?_of_block (by rw [block_add];exact hw _ hF')).trans (hc i hi)) (fun i hi=>(hd i hi).mono (Fo.ja hF) hw)
 | po h hL h1=>exact .po h hL h1
 | map hF' hn' hb he=>exact .map (hF _ hF') (hn _ hn') ((hw _ hF').trans hb) he
def NoRef (S:St) (j:Nat):Prop:=(∀ k r,S.rows k=some r->Nat.ble opened k=true->r.data.any (ik j)=false)/\∀ t p,S.env t=some p->refs j p=false
theorem Rel.less {X:Ctx} {S S':St} {a:Act} {w:World} (h:Rel X S a w) (he:∀ t p,S'.env t=some p->S.env t=some p) (hr:∀ k r,S'.rows k=some r->S.rows k=some r)
 (hk:∀ t p,S'.env t=some p->∀ w F L v,cO w F S.rows L v p->cO w F S'.rows L v p) (ho:∀ j r,S.rows j=some r->(∃ r',S'.rows j=some r')∨NoRef S' j):Rel X S' a w:=by
 obtain ⟨L,h⟩:=h
 have d:∀ b,Kc S'.rows L b->Kc S.rows L b:=fun b ⟨k,r,h1,h2⟩=>⟨k,r,hr k r h1,h2⟩
 have st:∀ b,Still X S.rows L w b->Still X S'.rows L w b:=fun b ⟨h1,h2⟩=>⟨h1,fun h3=>h2 (d b h3)⟩
 refine ⟨L,h.size,h.defers,h.below,?_,?_,(fun k r b h1 h2=>h.mine k r b (hr k r h1) h2),(fun r h1=>h.pin r (hr _ r h1)),?_⟩
 ·intro k r h1
  obtain ⟨xs,h2,h3,h4⟩:=h.row k r (hr k r h1)
  refine ⟨xs,h2,h3,fun i hi=>(h4 i hi).qB (fun b=>by rw [Fo.CX,Fo.CX];exact st b) (fun j u e hj=>?_) (fun _ _=>rfl)⟩
  cases c:Nat.ble opened k with
  | false=>simp only [Fo.at,c,cond_false,Fo.shut] at hj
  | true =>
   simp only [Fo.at,c,cond_true] at hj ⊢
   obtain ⟨⟨r2,g1⟩,g2⟩:=hj
   rcases ho j r2 g1 with g3 | g3
   ·exact ⟨g3,g2⟩
   have:=g3.1 k r h1 c
   rw [List.any_eq_false] at this
   exact absurd (oC.2 rfl) (by have:=this _ (List.getElem_mem hi);rw [e] at this;exact this)
 ·intro k k' r r' b h1 h2
  exact h.apart k k' r r' b (hr k r h1) (hr k' r' h2)
 intro t p h1
 obtain ⟨h2,h3⟩:=h.env t p (he t p h1)
 refine ⟨h2,(hk t p h1 _ _ _ _ h3).qB st (fun j u e hj=>?_) (fun _ h=>h) (fun _ _=>rfl)⟩
 obtain ⟨⟨r2,g1⟩,g2⟩:=hj
 rcases ho j r2 g1 with g3 | g3
 ·exact ⟨g3,g2⟩
 rw [g3.2 t p h1] at e;cases e
abbrev jM:=Exit->St->Prop
def Cl (X:Ctx) (Q:jM):Exit->Act->World->Prop:=fun e a w=>∃ S,Q e S/\Rel X S a w
def nG (P:Program) (X:Ctx) (c:Code) (S:St) (Q:jM):Prop:=∀ a w,Rel X S a w->c.wp P (Cl X Q) a w
def jM.then (next:St->Prop) (Q:jM):jM
 | .normal,S=>next S
 | e,S=>Q e S
def jM.block (id:Nat) (Q:jM):jM
 | .exit i,S=>if i=id then Q .normal S else Q (.exit i) S
 | e,S=>Q e S
section
variable {P:Program} {X:Ctx} {S:St} {Q:jM}
theorem vA {c:Code} {Q':jM} (h:nG P X c S Q) (hq:∀ e S,Q e S->Q' e S):nG P X c S Q':=fun a w r=>Code.wp_mono (fun e a w ⟨S',q,r'⟩=>⟨S',hq _ _ q,r'⟩) (h a w r)
theorem eF {c:Code} {S':St} (hw:∀ a w,Rel X S a w->Rel X S' a w) (h:nG P X c S' Q):nG P X c S Q:=fun a w r=>h a w (hw a w r)
theorem aG (h:Q .normal S):nG P X .skip S Q:=fun _ _ r=>wp_skip ⟨S,h,r⟩
theorem Gs {l:Nat} (h:Q .normal S):nG P X (.label l) S Q:=fun _ _ r=>wp_label ⟨S,h,r⟩
theorem bG {i:Nat} (h:Q (.exit i) S):nG P X (.exit i) S Q:=fun _ _ r=>wp_exit ⟨S,h,r⟩
theorem aV (h:Q .ret S):nG P X .ret S Q:=fun _ _ r=>wp_ret ⟨S,h,r⟩
theorem ae {x y:Code} (h:nG P X x S (jM.then (fun S'=>nG P X y S' Q) Q)):nG P X (.seq x y) S Q:=fun a w r =>
 wp_seq (Code.wp_mono (fun e a w ⟨S',q,r'⟩=>by
  cases e with
  | normal=>exact q a w r'
  | _=>exact ⟨S',q,r'⟩) (h a w r))
theorem aD {i:Nat} {c:Code} (h:nG P X c S (jM.block i Q)):nG P X (.block i c) S Q:=fun a w r =>
 wp_block (Code.wp_mono (fun e a w ⟨S',q,r'⟩=>by
  cases e with
  | exit j =>
   replace q:if j=i then Q .normal S' else Q (.exit j) S':=q
   show if j=i then Cl X Q .normal a w else Cl X Q (.exit j) a w
   by_cases c:j=i
   ·rw [if_pos c] at q ⊢;exact ⟨S',q,r'⟩
   rw [if_neg c] at q ⊢;exact ⟨S',q,r'⟩
  | _=>exact ⟨S',q,r'⟩) (h a w r))
def gH:Value->CV
 | .slice none 0 0=>.row 0 []
 | v=>.lit v
def C3:Value->PV
 | .agg vs=>.ag (vs.toList.map gH)
 | v=>.cv (gH v)
theorem jm (w:World) (F:Fo) (v:Value):Den w F v (gH v):=by
 unfold gH
 split
 ·exact .nil _ _ (fun _=>rfl)
 exact .lit _
theorem HG (w:World) (F:Fo) (rows:Nat->Option Row) (L:lE) (v:Value):cO w F rows L v (C3 v):=by
 unfold C3
 split
 ·rename_i vs
  refine .ag Q3 (fun i hi=>?_)
  simp only [List.getElem_map]
  have h:i<vs.size:=by simpa using hi
  have e:vs.getD i undef=vs.toList[i]'(by simpa using h):=by
   rw [Array.getD_eq_getD_getElem?,Array.getElem?_eq_getElem h]
   simp
  rw [e]
  exact jm _ _ _
 exact .cv (jm _ _ _)
def ev (S:St):Operand->Option PV
 | .tmp t=>S.env t
 | .const v=>some (C3 v)
 | .func f=>some (.cv (.lit (.func (.func f) #[] #[])))
 | .global g=>none
theorem cL.ev {L:lE} {a:Act} {w:World} (h:cL X S L a w) {x:Operand} {p:PV} (hx:ev S x=some p):cO w (Still X S.rows L w) S.rows L (a.eval x) p:=by
 cases x with
 | tmp t=>exact (h.env t p hx).2
 | const v=>cases hx;exact HG _ _ _ _ _
 | func f=>cases hx;exact .cv (.lit _)
 | global g=>cases hx
theorem cO.lit {w:World} {F:Fo} {rows:Nat->Option Row} {L:lE} {v u:Value} (h:cO w F rows L v (.cv (.lit u))):v=u:=by
 cases h with
 | cv h=>cases h;rfl
theorem aC {c:Operand} {x y:Code} {b:Bool} (hc:ev S c=some (.cv (.lit (.bool b)))) (hx:b=true->nG P X x S Q) (hy:b=false->nG P X y S Q):nG P X (.cond c x y) S Q:=by
 intro a w r
 obtain ⟨L,r'⟩:=r
 exact wp_cond_split (t:=b) (r'.ev hc).lit (fun h=>hx h a w ⟨L,r'⟩) (fun h=>hy h a w ⟨L,r'⟩)
def An (P:Program) (c:Code) (Q:Exit->Act->World->Prop) (a:Act) (w:World):Prop :=
 ∀ (b:Frame) (k:List Item) (cs:List Frame),∃ e a' w',Q e a' w'/\Arrives P (lone (b.at a (.code c :: .inLoop c :: k)) cs w) b k cs e a' w'
theorem C7 {c:Code} {Q:Exit->Act->World->Prop} {a:Act} {w:World} (h:An P c Q a w):(Code.loop c).wp P Q a w:=fun b k cs =>
 let ⟨e,a',w',q,r⟩:=h b k cs;⟨e,a',w',q,.of_steps (.one step_loop) r⟩
theorem Cb {c:Code} {Q:Exit->Act->World->Prop} {a:Act} {w:World} (h:c.wp P (Exit.then (An P c Q) Q) a w):An P c Q a w:=by
 intro b k cs
 obtain ⟨e,a₁,w₁,hq,d⟩:=h b (.inLoop c :: k) cs
 cases e with
 | normal =>
  obtain ⟨e₂,a₂,w₂,g,f⟩:=hq b k cs
  exact ⟨e₂,a₂,w₂,g,.of_steps (Steps.trans d (.one step_inLoop)) f⟩
 | exit id=>exact ⟨_,a₁,w₁,hq,.pass (x:=.inLoop c) rfl (fun _ _=>.inl Q3) d⟩
 | goto l=>exact ⟨_,a₁,w₁,hq,.pass (x:=.inLoop c) rfl (fun _ _=>.inl Q3) d⟩
 | ret=>exact ⟨_,a₁,w₁,hq,.pass (x:=.inLoop c) rfl (fun _ _=>.inl Q3) d⟩
 | panic ch=>exact ⟨_,a₁,w₁,hq,.pass (x:=.inLoop c) rfl (fun _ _=>.inl Q3) d⟩
 | outgrown=>exact ⟨_,a₁,w₁,hq,.pass (x:=.inLoop c) rfl (fun _ _=>.inl Q3) d⟩
def uQ (P:Program) (X:Ctx) (c:Code) (S:St) (Q:jM):Prop:=∀ a w,Rel X S a w->An P c (Cl X Q) a w
theorem bM {c:Code} (h:uQ P X c S Q):nG P X (.loop c) S Q:=fun a w r=>C7 (h a w r)
theorem bE {c:Code} (h:nG P X c S (jM.then (fun S'=>uQ P X c S' Q) Q)):uQ P X c S Q:=fun a w r =>
 Cb (Code.wp_mono (fun e a w ⟨S',q,r'⟩=>by
  cases e with
  | normal=>exact q a w r'
  | _=>exact ⟨S',q,r'⟩) (h a w r))
theorem pN {c:Code} {S':St} (hw:∀ a w,Rel X S a w->Rel X S' a w) (h:uQ P X c S' Q):uQ P X c S Q:=fun a w r=>h a w (hw a w r)
def put (S:St) (d:Option Tmp) (p:PV):St :=
 match d with
 | some d=>{ S with env:=fun t=>if t=d then some p else S.env t }
 | none=>S
def dg (X:Ctx) (d:Option Tmp):Prop:=match d with | some d=>d<X.nt | none=>True
theorem sB (tmps:Array Value) (d t:Nat) (v:Value) (h:d<tmps.size):(tmps.setIfInBounds d v).getD t undef=if t=d then v else tmps.getD t undef:=by
 by_cases c:t=d
 ·subst c
  rw [if_pos rfl]
  simp [Array.getD_eq_getD_getElem?,h]
 rw [if_neg c]
 simp only [Array.getD_eq_getD_getElem?,Array.getElem?_setIfInBounds]
 rw [if_neg (fun e=>c e.symm)]
theorem cL.put {L:lE} {a:Act} {w:World} (h:cL X S L a w) {d:Option Tmp} (hd:dg X d) {v:Value} {p:PV} (hv:cO w (Still X S.rows L w) S.rows L v p):cL X (put S d p) L (a.put d v) w:=by
 cases d with
 | none=>exact h
 | some d =>
  refine ⟨by simp [Act.put,h.size],h.defers,h.below,h.row,h.apart,h.mine,h.pin,?_⟩
  intro t q hq
  have hs:d<a.tmps.size:=by rw [h.size];exact hd
  show t<X.nt/\cO w (Still X S.rows L w) S.rows L ((a.tmps.setIfInBounds d v).getD t undef) q
  rw [sB _ _ _ _ hs]
  simp only [V.put] at hq
  by_cases c:t=d
  ·rw [if_pos c] at hq ⊢
   cases hq
   exact ⟨by rw [c];exact hd,hv⟩
  rw [if_neg c] at hq ⊢
  exact h.env t q hq
def drop (S:St) (d:Option Tmp):St :=
 match d with
 | some d=>{ S with env:=fun t=>if t=d then none else S.env t }
 | none=>S
theorem cL.drop {L:lE} {a:Act} {w:World} (h:cL X S L a w) (d:Option Tmp) (v:Value):cL X (drop S d) L (a.put d v) w:=by
 cases d with
 | none=>exact h
 | some d =>
  refine ⟨by simp [Act.put,h.size],h.defers,h.below,h.row,h.apart,h.mine,h.pin,?_⟩
  intro t q hq
  simp only [V.drop] at hq
  by_cases c:t=d
  ·rw [if_pos c] at hq;cases hq
  rw [if_neg c] at hq
  obtain ⟨h1,h2⟩:=h.env t q hq
  refine ⟨h1,?_⟩
  show cO w (Still X S.rows L w) S.rows L ((a.tmps.setIfInBounds d v).getD t undef) q
  simp only [Array.getD_eq_getD_getElem?,Array.getElem?_setIfInBounds] at h2 ⊢
  rw [if_neg (fun e=>c e.symm)]
  exact h2
def dR (P:Program) (X:Ctx) (o:Oper) (S S':St):Prop:=∀ a w,Rel X S a w->o.wp P a w (fun a' w'=>Rel X S' a' w') (fun _ _ _=>False)
def Pure (P:Program) (X:Ctx) (o:Oper) (S:St) (p:PV):Prop:=∀ L a w,cL X S L a w->∃ v,(execOp a.eval o).run P w = .ok (.value v) w/\cO w (Still X S.rows L w) S.rows L v p
theorem Pure.to {o:Oper} {p:PV} (h:Pure P X o S p) (hd:dg X o.dst):dR P X o S (put S o.dst p):=by
 intro a w ⟨L,r⟩
 obtain ⟨v,h1,h2⟩:=h L a w r
 unfold Oper.wp
 rw [h1]
 exact ⟨L,r.put hd h2⟩
def dX (P:Program) (X:Ctx) (ops:Array Oper) (l:List Oper) (S:St) (Q:St->Prop):Prop:=∀ a w,Rel X S a w->wpList P ops (Cl X (fun e S'=>e = .normal/\Q S')) l a w
theorem aa {ops:Array Oper} {Q:St->Prop} (h:Q S):dX P X ops [] S Q:=fun a w r=>⟨S,⟨rfl,h⟩,r⟩
theorem Oper.pH {o:Oper} {a:Act} {w:World} {K K':Act->World->Prop} {Q Q':Exit->Act->World->Prop} (h:∀ a w,K a w->K' a w) (hq:∀ e a w,Q e a w->Q' e a w) (hh:o.wp P a w K Q):o.wp P a w K' Q':=by
 unfold Oper.wp at *
 generalize (execOp a.eval o).run P w=r at *
 cases r with
 | ok n w' =>
  cases n<;>simp only [Oper.upon] at hh ⊢ <;>
   first
    | exact h _ _ hh
    | exact Calls.mono hh (fun e w'' he=>by cases e<;>first | exact h _ _ he | exact hq _ _ _ he | exact (let ⟨a,w,q⟩:=he;⟨a,w,hq _ _ _ q⟩))
    | exact Rows.mono hh (fun _ _ he=>h _ _ he)
 | halt x w'=>cases x<;>simp only [Oper.upon] at hh ⊢<;>exact hq _ _ _ hh
theorem dz {ops:Array Oper} {o:Oper} {l:List Oper} {S':St} {Q:St->Prop} (hg:o.guard=none) (h:dR P X o S S') (hl:dX P X ops l S' Q):dX P X ops (o :: l) S Q:=fun a w r =>
 wpList_plain hg (fun K hK=>Oper.pH (fun a w r=>hK a w (hl a w r)) (fun _ _ _ h=>h.elim) (h a w r))
theorem qz {ops:Array Oper} {a:Act} {j:Nat} {oj:Oper} {t:Tmp} {b:Bool} (hj:ops[j]?=some oj) (ht:oj.dst=some t) (hlt:t<a.tmps.size) (h:a.tmps.getD t undef = .bool b):yielded ops a.tmps j=some b:=by
 unfold yielded
 rw [hj]
 simp only [Option.bind_some,ht]
 rw [Array.getElem?_eq_getElem hlt]
 rw [Array.getD_eq_getD_getElem?,Array.getElem?_eq_getElem hlt] at h
 simp only [Option.getD_some] at h
 rw [h]
theorem ry {ops:Array Oper} {a:Act} {j:Nat} {oj:Oper} {t:Tmp} (hj:ops[j]?=some oj) (ht:oj.dst=some t) (hlt:t<a.tmps.size) (h:a.tmps.getD t undef=undef):yielded ops a.tmps j=none:=by
 unfold yielded
 rw [hj]
 simp only [Option.bind_some,ht]
 rw [Array.getElem?_eq_getElem hlt]
 rw [Array.getD_eq_getD_getElem?,Array.getElem?_eq_getElem hlt] at h
 simp only [Option.getD_some] at h
 rw [h]
 rfl
theorem iu {ops:Array Oper} {o oj:Oper} {l:List Oper} {S':St} {Q:St->Prop} {j:Nat} {t:Tmp} {b b':Bool} (hg:o.guard=some (j,b)) (hj:ops[j]?=some oj) (ht:oj.dst=some t) (he:S.env t=some (.cv (.lit (.bool b')))) (hd:dg X o.dst)
 (h:b'=b->dR P X o S S'/\dX P X ops l S' Q) (hn:b'≠b->dX P X ops l (put S o.dst (.cv (.lit undef))) Q):dX P X ops (o :: l) S Q:=by
 intro a w r
 obtain ⟨L,r'⟩:=r
 obtain ⟨h1,h2⟩:=r'.env t _ he
 have hy:=qz hj ht (by rw [r'.size];exact h1) h2.lit
 refine wpList_step (fun K hK=>?_)
 have hw:Region.wanted o (yielded ops a.tmps)=(b'==b):=by simp [Region.wanted,hg,hy]
 rw [hw]
 by_cases c:b'=b
 ·rw [if_pos (by simp [c])]
  obtain ⟨g1,g2⟩:=h c
  exact Oper.pH (fun a w r=>hK a w (g2 a w r)) (fun _ _ _ h=>h.elim) (g1 a w ⟨L,r'⟩)
 rw [if_neg (by simp [c])]
 exact hK _ _ (hn c _ _ ⟨L,r'.put hd (.cv (.lit _))⟩)
theorem ox {ops:Array Oper} {o oj:Oper} {l:List Oper} {Q:St->Prop} {j:Nat} {t:Tmp} {b:Bool} (hg:o.guard=some (j,b)) (hj:ops[j]?=some oj) (ht:oj.dst=some t) (he:S.env t=some (.cv (.lit undef))) (hd:dg X o.dst) (hn:dX P X ops l (put S o.dst (.cv (.lit undef))) Q):dX P X ops (o :: l) S Q:=by
 intro a w r
 obtain ⟨L,r'⟩:=r
 obtain ⟨h1,h2⟩:=r'.env t _ he
 have hy:=ry hj ht (by rw [r'.size];exact h1) h2.lit
 refine wpList_step (fun K hK=>?_)
 have hw:Region.wanted o (yielded ops a.tmps)=false:=by simp [Region.wanted,hg,hy]
 rw [hw,if_neg (by decide)]
 exact hK _ _ (hn _ _ ⟨L,r'.put hd (.cv (.lit _))⟩)
theorem ab {id:Nat} {ops:List Oper} (h:dX P X ops.toArray ops S (fun S'=>Q .normal S')):nG P X (.region id ops.toArray false) S Q:=fun a w r =>
 Code.wp_mono (fun e a w ⟨S',⟨he,q⟩,r'⟩=>by subst he;exact ⟨S',q,r'⟩) (wp_region_lit (h a w r))
end
section
variable {P:Program} {X:Ctx} {S:St} {o:Oper}
theorem lZ {x:Operand} {p:PV} (ho:o.op = .move x∨o.op = .assign x) (hx:ev S x=some p):Pure P X o S p:=by
 intro L a w r
 refine ⟨a.eval x,?_,r.ev hx⟩
 rcases ho with ho | ho<;>simp [execOp,ho]
theorem pQ {c x y:Operand} {b:Bool} {p:PV} (ho:o.op = .pick c x y) (hc:ev S c=some (.cv (.lit (.bool b)))) (hx:b=true->ev S x=some p) (hy:b=false->ev S y=some p):Pure P X o S p:=by
 intro L a w r
 have h:=(r.ev hc).lit
 cases b with
 | true=>exact ⟨a.eval x,by simp [execOp,ho,h,asBool],r.ev (hx rfl)⟩
 | false=>exact ⟨a.eval y,by simp [execOp,ho,h,asBool],r.ev (hy rfl)⟩
abbrev PV.int (k:IntKind) (n:Int):PV:=.cv (.lit (.int k n))
abbrev PV.bool (b:Bool):PV:=.cv (.lit (.bool b))
abbrev PV.str (s:ByteArray):PV:=.cv (.lit (.string s))
def G4 (op:BinOp) (k:IntKind) (a b:Int):Option Value :=
 match op with
 | .add=>some (.int k (k.wrap (a+b)))
 | .sub=>some (.int k (k.wrap (a-b)))
 | .mul=>some (.int k (k.wrap (a*b)))
 | .quo=>if b=0 then none else some (.int k (k.wrap (a.tdiv b)))
 | .rem=>if b=0 then none else some (.int k (a.tmod b))
 | .eql=>some (.bool (a==b))
 | .neq=>some (.bool (a != b))
 | .lss=>some (.bool (decide (a<b)))
 | .leq=>some (.bool (decide (a<=b)))
 | .gtr=>some (.bool (decide (a>b)))
 | .geq=>some (.bool (decide (a>=b)))
 | .shl=>if b<0 then none else some (.int k (k.wrap (a*2 ^ (min b.toNat k.bits))))
 | .shr=>if b<0 then none else some (.int k (a.fdiv (2 ^ (min b.toNat k.bits))))
 | .and=>some (.int k (bits .and k a b))
 | .or=>some (.int k (bits .or k a b))
 | .xor=>some (.int k (bits .xor k a b))
 | .andNot=>some (.int k (bits .andNot k a b))
theorem KE {op:BinOp} {t:TypeId} {k k':IntKind} {a b:Int} {v:Value} (hk:k=k'∨op = .shl∨op = .shr) (h:G4 op k a b=some v) (w:World):(binOp op t (.int k a) (.int k' b)).run P w = .ok v w:=by
 cases op<;>simp only [G4,Option.some.injEq] at h
 case shl =>
  split at h
  ·cases h
  rename_i c;cases h;simp [binOp,Op.shift,c]
 case shr =>
  split at h
  ·cases h
  rename_i c;cases h;simp [binOp,Op.shift,c]
 all_goals (have hk:k=k':=by simpa using hk);subst hk
 case quo =>
  split at h
  ·cases h
  rename_i c;cases h;simp [binOp,Op.intDiv,c]
 case rem =>
  split at h
  ·cases h
  rename_i c;cases h;simp [binOp,Op.intDiv,c]
 all_goals (subst h;simp [binOp,Op.intArith,Op.intCmp,Op.intBits,bits])
theorem eN {op:BinOp} {t t':TypeId} {x y:Operand} {k k':IntKind} {a b:Int} {v:Value} (ho:o.op = .binOp op t x y t') (hx:ev S x=some (.int k a)) (hy:ev S y=some (.int k' b)) (hk:k=k'∨op = .shl∨op = .shr) (h:G4 op k a b=some v) :
 Pure P X o S (.cv (.lit v)):=by
 intro L c w r
 have h1:=(r.ev hx).lit
 have h2:=(r.ev hy).lit
 refine ⟨v,?_,.cv (.lit v)⟩
 have:=KE (P:=P) (t:=t) hk h w
 cases op<;>simp [execOp,ho,h1,h2,eqGuard,this]
theorem Bz {t:TypeId} {x:Operand} {b:Bool} (ho:o.op = .unOp .not t x) (hx:ev S x=some (.bool b)):Pure P X o S (.bool (!b)):=by
 intro L a w r
 exact ⟨.bool (!b),by simp [execOp,ho,(r.ev hx).lit,Op.unary],.cv (.lit _)⟩
theorem BA {t:TypeId} {x:Operand} {k:IntKind} {n:Int} (ho:o.op = .unOp .neg t x) (hx:ev S x=some (.int k n)):Pure P X o S (.int k (k.wrap (-n))):=by
 intro L a w r
 exact ⟨.int k (k.wrap (-n)),by simp [execOp,ho,(r.ev hx).lit,Op.unary,Op.intArith],.cv (.lit _)⟩
theorem jA {s d:TypeId} {x:Operand} {k k':IntKind} {n:Int} {ds:TypeDesc} (ho:o.op = .convert s d x) (hs:P.underlying s=some ds) (hd:P.underlying d=some (.int k')) (hx:ev S x=some (.int k n)):Pure P X o S (.int k' (k'.wrap n)):=by
 intro L a w r
 refine ⟨.int k' (k'.wrap n),?_,.cv (.lit _)⟩
 simp [execOp,ho,(r.ev hx).lit,convert,run_underlying hs,run_underlying hd,Conv.intToInt]
theorem rJ {op:BinOp} {t t':TypeId} {x y:Operand} {a b:ByteArray} {c:Bool} (ho:o.op = .binOp op t x y t') (hx:ev S x=some (.str a)) (hy:ev S y=some (.str b))
 (hc:(op = .eql/\c=(a.toList==b.toList))∨(op = .neq/\c = !(a.toList==b.toList))):Pure P X o S (.bool c):=by
 intro L z w r
 refine ⟨.bool c,?_,.cv (.lit _)⟩
 rcases hc with ⟨rfl,rfl⟩ | ⟨rfl,rfl⟩<;>simp [execOp,ho,(r.ev hx).lit,(r.ev hy).lit,eqGuard,binOp,Op.stringOp]
theorem xZ {t t':TypeId} {x y:Operand} {a b:ByteArray} (ho:o.op = .binOp .add t x y t') (hx:ev S x=some (.str a)) (hy:ev S y=some (.str b)) (hs:a.size+b.size<=9223372036854775807):Pure P X o S (.str (a++b)):=by
 intro L z w r
 refine ⟨.string (a++b),?_,.cv (.lit _)⟩
 have:¬ (9223372036854775807<(a.size:Int)+(b.size:Int)):=Q2
 simp [execOp,ho,(r.ev hx).lit,(r.ev hy).lit,eqGuard,binOp,Op.stringOp,IntKind.max,IntKind.signed,IntKind.bits,this]
theorem rN {op:BinOp} {t t':TypeId} {x y:Operand} {a b c:Bool} (ho:o.op = .binOp op t x y t') (hu:P.underlying t=some .bool) (hx:ev S x=some (.bool a)) (hy:ev S y=some (.bool b))
 (hc:(op = .eql/\c=(a==b))∨(op = .neq/\c=(a != b))):Pure P X o S (.bool c):=by
 intro L z w r
 refine ⟨.bool c,?_,.cv (.lit _)⟩
 have h:=run_equal_bool (P:=P) w t a b hu
 rcases hc with ⟨rfl,rfl⟩ | ⟨rfl,rfl⟩<;>simp [execOp,ho,(r.ev hx).lit,(r.ev hy).lit,eqGuard,binOp,h,bne]
theorem rM {x:Operand} {i:Nat} {ps:List PV} {p:PV} (ho:o.op = .extract x i) (hx:ev S x=some (.tup ps)) (hp:ps[i]?=some p):Pure P X o S p:=by
 intro L a w r
 have h:=r.ev hx
 generalize hv:a.eval x=v at h
 cases h with
 | @tup vs _ hl h =>
  obtain ⟨hi,rfl⟩:=List.getElem?_eq_some_iff.1 hp
  have b:i<vs.size:=Q2
  have e:=h i hi
  rw [Array.getD_eq_getD_getElem?,Array.getElem?_eq_getElem b] at e
  exact ⟨vs[i],by simp [execOp,ho,hv,Instr.extract,Array.getElem?_eq_getElem b],e⟩
theorem lJ {x:Operand} {p:PV} (ho:o.op = .nilCheck x) (hx:ev S x=some p) (hp:(∃ k off,p = .po k off)∨(∃ cs,p = .pr cs)):Pure P X o S p:=by
 intro L a w r
 have h:=r.ev hx
 refine ⟨a.eval x,?_,h⟩
 generalize hv:a.eval x=v at h
 rcases hp with ⟨k,off,rfl⟩ | ⟨cs,rfl⟩<;>cases h<;>simp [execOp,ho,hv]
end
section
variable {P:Program} {X:Ctx} {S:St} {o:Oper}
def qc (S:St):PV->Option Nat
 | .cv (.row n _)=>some n
 | .own k=>(S.rows k).map (·.n)
 | .win _ _ n=>some n
 | _=>none
theorem cL.len {L:lE} {a:Act} {w:World} (r:cL X S L a w) {v:Value} {p:PV} {n:Nat} (h:cO w (Still X S.rows L w) S.rows L v p) (hn:qc S p=some n):∃ b c,v = .slice b n c:=by
 cases h with
 | cv h =>
  cases h with
  | lit v=>simp [qc] at hn
  | own=>simp [qc] at hn
  | any=>simp [qc] at hn
  | nil a c=>simp only [qc,Option.some.injEq] at hn;subst hn;exact ⟨_,_,rfl⟩
  | row ad n c cs vs=>simp only [qc,Option.some.injEq] at hn;subst hn;exact ⟨_,_,rfl⟩
 | ag=>simp [qc] at hn
 | tup=>simp [qc] at hn
 | @own k q h =>
  simp only [qc,h,Option.map_some,Option.some.injEq] at hn
  subst hn
  obtain ⟨xs,h1,_⟩:=r.row k q h
  rcases h1.2 with ⟨h2,h3⟩ | ⟨g,cap,cur,h2,_⟩
  ·rw [h2,h3];exact ⟨_,_,rfl⟩
  rw [h2];exact ⟨_,_,rfl⟩
 | win=>simp only [qc,Option.some.injEq] at hn;subst hn;exact ⟨_,_,rfl⟩
 | pr=>simp [qc] at hn
 | po=>simp [qc] at hn
 | map=>simp [qc] at hn
theorem kD {c:Call} {x:Operand} {t e:TypeId} {p:PV} {n:Nat} (ho:o.op = .call c) (hc:c.callee = .builtin .len) (ha:c.args = #[x]) (ht:c.argTypes = #[t]) (hu:P.underlying t=some (.slice e)) (hx:ev S x=some p) (hn:qc S p=some n) :
 Pure P X o S (.int .i64 n):=by
 intro L a w r
 refine ⟨.int .i64 n,?_,.cv (.lit _)⟩
 obtain ⟨b,q,hv⟩:=r.len (r.ev hx) hn
 simp [execOp,ho,resolve,hc,ha,ht,invoke,builtin,Builtin.len_,hv,run_underlying hu,goInt]
theorem xY {c:Call} {x:Operand} {t:TypeId} {s:ByteArray} (ho:o.op = .call c) (hc:c.callee = .builtin .len) (ha:c.args = #[x]) (ht:c.argTypes = #[t]) (hu:P.underlying t=some .string) (hx:ev S x=some (.str s)) :
 Pure P X o S (.int .i64 s.size):=by
 intro L a w r
 refine ⟨.int .i64 s.size,?_,.cv (.lit _)⟩
 simp [execOp,ho,resolve,hc,ha,ht,invoke,builtin,Builtin.len_,(r.ev hx).lit,run_underlying hu,goInt]
theorem Bx {t:TypeId} {x y:Operand} {s:ByteArray} {k:IntKind} {i:Int} (ho:o.op = .index t x y) (hu:P.underlying t=some .string) (hx:ev S x=some (.str s)) (hy:ev S y=some (.int k i)) (h0:0<=i) (h1:i.toNat<s.size) :
 Pure P X o S (.int .u8 (s[i.toNat]'h1).toNat):=by
 intro L a w r
 refine ⟨.int .u8 (s[i.toNat]'h1).toNat,?_,.cv (.lit _)⟩
 have e:s[i.toNat]?=some s[i.toNat]:=getElem?_pos s i.toNat h1
 simp [execOp,ho,Instr.index,asIntOf,(r.ev hx).lit,(r.ev hy).lit,run_underlying hu,h0,e]
theorem add_plain (b o n:Nat):(⟨b,o,none⟩:Addr).add n=⟨b,o+n,none⟩:=by
 unfold Addr.add
 split
 ·rename_i h;subst h;rfl
 rfl
theorem add_add (a:Addr) (hs:a.spot=none) (i j:Nat):(a.add i).add j=a.add (i+j):=by
 obtain ⟨b,o,s⟩:=a
 cases hs
 rw [add_plain,add_plain,add_plain,Nat.add_assoc]
theorem ov (a:Addr) (hs:a.spot=none) (i:Nat):(a.add i).spot=none:=by
 obtain ⟨b,o,s⟩:=a
 cases hs
 rw [add_plain]
theorem Fl {t e:TypeId} {inf:TypeInfo} {x y:Operand} {n:Nat} {cs:List CV} {k:IntKind} {i:Int} (ho:o.op = .indexAddr t x y) (hu:P.underlying t=some (.slice e)) (hi:P.info? e=some inf) (hx:ev S x=some (.cv (.row n cs))) (hy:ev S y=some (.int k i))
 (h0:0<=i) (h1:i<n) (hl:cs.length=n*inf.size):Pure P X o S (.pr ((cs.drop (i.toNat*inf.size)).take inf.size)):=by
 intro L a w r
 have h:=r.ev hx
 generalize hv:a.eval x=v at h
 have hm:i.toNat*inf.size+inf.size<=cs.length:=by
  rw [hl,<- Nat.succ_mul]
  exact Nat.mul_le_mul_right _ Q2
 cases h with
 | cv h =>
  cases h with
  | nil=>omega
  | row ad n c cs vs hs hF hn hc hd =>
   refine ⟨.pointer (some (ad.add (i.toNat*inf.size))),?_,?_⟩
   ·simp [execOp,ho,Instr.indexAt,asIntOf,hv,(r.ev hy).lit,run_underlying hu,sizeOf,typeInfo,hi,h0,h1]
   refine .pr (fun j=>vs (i.toNat*inf.size+j)) (ov _ hs _) (by rw [block_add];exact hF) (fun j hj=>?_) (fun j hj=>?_)
   ·simp only [List.length_take,List.length_drop] at hj
    rw [add_add _ hs]
    exact hc _ Q2
   have b:=hj
   simp only [List.length_take,List.length_drop] at b
   have:=hd (i.toNat*inf.size+j) Q2
   simpa [List.getElem_take,List.getElem_drop] using this
theorem ue {t e:TypeId} {inf:TypeInfo} {x y:Operand} {q:Nat} {d:Row} {k:IntKind} {i:Int} (ho:o.op = .indexAddr t x y) (hu:P.underlying t=some (.slice e)) (hi:P.info? e=some inf) (hx:ev S x=some (.own q)) (hy:ev S y=some (.int k i)) (hd:S.rows q=some d)
 (h0:0<=i) (h1:i<d.n) (hs:d.sz=inf.size) (hp:0<inf.size):Pure P X o S (.po q (i.toNat*inf.size)):=by
 intro L a w r
 have h:=r.ev hx
 generalize hv:a.eval x=v at h
 obtain ⟨xs,g1,g2,g3⟩:=r.row q d hd
 cases h with
 | own h =>
  rcases g1.2 with ⟨h2,h3⟩ | ⟨g,cap,cur,h2,h3,h4,h5,h6⟩
  ·omega
  refine ⟨.pointer (some ⟨g,i.toNat*inf.size,none⟩),?_,.po hd h2 ?_⟩
  ·simp [execOp,ho,Instr.indexAt,asIntOf,hv,h2,(r.ev hy).lit,run_underlying hu,sizeOf,typeInfo,hi,h0,h1,add_plain]
  rw [<- g2,g1.1,hs]
  have:i.toNat*inf.size+inf.size<=d.n*inf.size:=by
   rw [<- Nat.succ_mul]
   exact Nat.mul_le_mul_right _ Q2
  omega
theorem s9 {t:TypeId} {d:TypeDesc} {x:Operand} {c:CV} (ho:o.op = .load t x) (hu:P.underlying t=some d) (hd:(match d with | .struct _ | .array _ _=>true | _=>false)=false) (hx:ev S x=some (.pr [c])):Pure P X o S (.cv c):=by
 intro L a w r
 have h:=r.ev hx
 generalize hv:a.eval x=v at h
 cases h with
 | pr vs hs hF hc hdn =>
  refine ⟨vs 0,?_,.cv (hdn 0 Q3).open⟩
  have e:=hc 0 Q3
  rename_i ad
  have e0:ad.add 0=ad:=by simp [Addr.add]
  rw [e0] at e
  cases d<;>simp at hd<;>simp [execOp,ho,Instr.loadAt,Instr.sureAddr,hv,loadVar,isAgg,run_underlying hu,load,Sem.run,e]
theorem rL {t:TypeId} {fs:Array Field} {inf:TypeInfo} {x:Operand} {cs:List CV} (ho:o.op = .load t x) (hu:P.underlying t=some (.struct fs)) (hi:P.info? t=some inf) (hl:cs.length=inf.size) (hx:ev S x=some (.pr cs)):Pure P X o S (.ag cs):=by
 intro L a w r
 have h:=r.ev hx
 generalize hv:a.eval x=v at h
 cases h with
 | @pr ad _ vs hs hF hc hdn =>
  refine ⟨.agg ((List.range inf.size).map vs).toArray,?_,.ag (by simp [hl]) (fun i hj=>?_)⟩
  ·have e:=run_loadCells (P:=P) (w:=w) ad inf.size vs (fun j hj=>hc j Q2)
   simp [execOp,ho,Instr.loadAt,Instr.sureAddr,hv,loadVar,isAgg,run_underlying hu,sizeOf,typeInfo,hi,e]
  have:i<inf.size:=Q2
  simpa [Array.getD_eq_getD_getElem?,this] using (hdn i hj).open
end
section
variable {P:Program} {X:Ctx} {S:St} {o:Oper}
theorem kE {s:TypeId} {fs:Array Field} {f:Field} {inf:TypeInfo} {x:Operand} {i k off:Nat} {d:Row} (ho:o.op = .fieldAddr s x i) (hu:P.underlying s=some (.struct fs)) (hf:fs[i]?=some f) (hi:P.info? f.type=some inf) (hz:inf.size≠0)
 (hx:ev S x=some (.po k off)) (hd:S.rows k=some d) (hl:off+f.offset<d.data.length):Pure P X o S (.po k (off+f.offset)):=by
 intro L a w r
 have h:=r.ev hx
 generalize hv:a.eval x=v at h
 cases h with
 | @po _ _ g m cap r' h hL hb =>
  refine ⟨.pointer (some ⟨g,off+f.offset,none⟩),?_,.po hd hL hl⟩
  simp [execOp,ho,Instr.fieldAt,Instr.sureAddr,hv,run_underlying hu,hf,fieldPlace,sizeOf,typeInfo,hi,hz,add_plain]
theorem k7 {s:TypeId} {fs:Array Field} {f:Field} {inf:TypeInfo} {x:Operand} {i:Nat} {cs:List CV} (ho:o.op = .fieldAddr s x i) (hu:P.underlying s=some (.struct fs)) (hf:fs[i]?=some f) (hi:P.info? f.type=some inf) (hz:inf.size≠0)
 (hx:ev S x=some (.pr cs)):Pure P X o S (.pr ((cs.drop f.offset).take inf.size)):=by
 intro L a w r
 have h:=r.ev hx
 generalize hv:a.eval x=v at h
 cases h with
 | @pr ad _ vs hs hF hc hd =>
  refine ⟨.pointer (some (ad.add f.offset)),?_,?_⟩
  ·simp [execOp,ho,Instr.fieldAt,Instr.sureAddr,hv,run_underlying hu,hf,fieldPlace,sizeOf,typeInfo,hi,hz]
  refine .pr (fun j=>vs (f.offset+j)) (ov _ hs _) (by rw [block_add];exact hF) (fun j hj=>?_) (fun j hj=>?_)
  ·simp only [List.length_take,List.length_drop] at hj
   rw [add_add _ hs]
   exact hc _ Q2
  have b:=hj
  simp only [List.length_take,List.length_drop] at b
  have:=hd (f.offset+j) Q2
  simpa [List.getElem_take,List.getElem_drop] using this
theorem cL.oI {L:lE} {a:Act} {w:World} (r:cL X S L a w) {k g m cap:Nat} {d:Row} (hd:S.rows k=some d) (hL:L k = .slice (some ⟨g,0,none⟩) m cap) :
 ∃ xs:List Value,xs.length=d.data.length/\(∀ i (h:i<d.data.length),w.cell? ⟨g,i,none⟩=some (xs.getD i undef)/\Den w (Still X S.rows L w) (xs.getD i undef) d.data[i]):=by
 obtain ⟨xs,g1,g2,g3⟩:=r.row k d hd
 refine ⟨xs,g2,fun i h=>⟨?_,(g3 i h).mono (Fo.at_le _ _) (fun _ _=>rfl)⟩⟩
 rw [hL] at g1
 have hm:m=d.n:=by
  rcases g1.2 with ⟨h1,h2⟩ | ⟨g',c',cur,h1,_⟩
  ·cases h1
  cases h1;rfl
 subst hm
 have hi:i<d.n*d.sz:=by rw [<- g1.1,g2];exact h
 rw [g1.cellAt i hi]
 have:i<xs.length:=Q2
 simp [List.getD_eq_getElem?_getD,List.getElem?_eq_getElem this]
theorem gw {t:TypeId} {ds:TypeDesc} {x:Operand} {k off:Nat} {d:Row} (ho:o.op = .load t x) (hu:P.underlying t=some ds) (hds:(match ds with | .struct _ | .array _ _=>true | _=>false)=false) (hx:ev S x=some (.po k off)) (hd:S.rows k=some d) {c:CV} (hc:d.data[off]?=some c):Pure P X o S (.cv c):=by
 intro L a w r
 have h:=r.ev hx
 generalize hv:a.eval x=v at h
 obtain ⟨hb,rfl⟩:=List.getElem?_eq_some_iff.1 hc
 cases h with
 | @po _ _ g m cap r' h hL _ =>
  obtain ⟨xs,h1,h2⟩:=r.oI hd hL
  obtain ⟨e,e2⟩:=h2 off hb
  refine ⟨xs.getD off undef,?_,.cv e2⟩
  cases ds<;>simp at hds<;>simp [execOp,ho,Instr.loadAt,Instr.sureAddr,hv,loadVar,isAgg,run_underlying hu,load,Sem.run,e]
theorem l5 {t:TypeId} {fs:Array Field} {inf:TypeInfo} {x:Operand} {k off:Nat} {d:Row} (ho:o.op = .load t x) (hu:P.underlying t=some (.struct fs)) (hi:P.info? t=some inf) (hx:ev S x=some (.po k off)) (hd:S.rows k=some d) (hl:off+inf.size<=d.data.length) :
 Pure P X o S (.ag ((d.data.drop off).take inf.size)):=by
 intro L a w r
 have h:=r.ev hx
 generalize hv:a.eval x=v at h
 cases h with
 | @po _ _ g m cap r' h hL _ =>
  obtain ⟨xs,h1,h2⟩:=r.oI hd hL
  refine ⟨.agg ((List.range inf.size).map fun j=>xs.getD (off+j) undef).toArray,?_,.ag (by simp;omega) (fun i hj=>?_)⟩
  ·have e:=run_loadCells (P:=P) (w:=w) ⟨g,off,none⟩ inf.size (fun j=>xs.getD (off+j) undef) (fun j hj=>by rw [add_plain];exact (h2 (off+j) Q2).1)
   simp [execOp,ho,Instr.loadAt,Instr.sureAddr,hv,loadVar,isAgg,run_underlying hu,sizeOf,typeInfo,hi,e]
  simp only [List.length_take,List.length_drop] at hj
  have b:i<inf.size:=Q2
  have:=(h2 (off+i) Q2).2
  simpa [Array.getD_eq_getD_getElem?,b,List.getElem_take,List.getElem_drop] using this
theorem vJ {s:TypeId} {fs:Array Field} {f:Field} {ds:TypeDesc} {x:Operand} {i:Nat} {cs:List CV} {c:CV} (ho:o.op = .field s x i) (hu:P.underlying s=some (.struct fs)) (hf:fs[i]?=some f) (hd:P.underlying f.type=some ds)
 (hds:(match ds with | .struct _ | .array _ _=>true | _=>false)=false) (hx:ev S x=some (.ag cs)) (hc:cs[f.offset]?=some c):Pure P X o S (.cv c):=by
 intro L a w r
 have h:=r.ev hx
 generalize hv:a.eval x=v at h
 obtain ⟨hb,rfl⟩:=List.getElem?_eq_some_iff.1 hc
 cases h with
 | @ag vs _ hl h =>
  have b:f.offset<vs.size:=Q2
  have e:=h f.offset hb
  rw [Array.getD_eq_getD_getElem?,Array.getElem?_eq_getElem b] at e
  refine ⟨vs[f.offset],?_,.cv e⟩
  cases ds<;>simp at hds<;>simp [execOp,ho,Instr.field,hv,run_underlying hu,hf,part,isAgg,run_underlying hd,asAgg,Array.getElem?_eq_getElem b]
theorem xu {s:TypeId} {fs fs':Array Field} {f:Field} {inf:TypeInfo} {x:Operand} {i:Nat} {cs:List CV} (ho:o.op = .field s x i) (hu:P.underlying s=some (.struct fs)) (hf:fs[i]?=some f) (hd:P.underlying f.type=some (.struct fs')) (hi:P.info? f.type=some inf)
 (hx:ev S x=some (.ag cs)) (hl:f.offset+inf.size<=cs.length):Pure P X o S (.ag ((cs.drop f.offset).take inf.size)):=by
 intro L a w r
 have h:=r.ev hx
 generalize hv:a.eval x=v at h
 cases h with
 | @ag vs _ hs h =>
  refine ⟨.agg (vs.extract f.offset (f.offset+inf.size)),?_,.ag (by simp;omega) (fun j hj=>?_)⟩
  ·simp [execOp,ho,Instr.field,hv,run_underlying hu,hf,part,isAgg,run_underlying hd,asAgg,sizeOf,typeInfo,hi]
  simp only [List.length_take,List.length_drop] at hj
  have:=h (f.offset+j) Q2
  have b:f.offset+j<vs.size:=Q2
  have c:j<f.offset+inf.size-f.offset:=Q2
  simp only [Array.getD_eq_getD_getElem?,Array.getElem?_eq_getElem b,Option.getD_some] at this
  simp only [Array.getD_eq_getD_getElem?,Array.getElem?_extract,List.getElem_take,List.getElem_drop]
  rw [if_pos Q2,Array.getElem?_eq_getElem b]
  exact this
def bound (S:St) (dflt:Int):Option Operand->Option Int
 | none=>some dflt
 | some x=>match ev S x with
  | some (.cv (.lit (.int _ n)))=>some n
  | _=>none
theorem sY {L:lE} {a:Act} {w:World} (r:cL X S L a w) {x:Operand} {m:Nat} {n:Int} {dflt:Int} (h:bound S dflt (some x)=some n) (h0:0<=n) (h1:n<=m) (c:BoundsCode):(Instr.sliceBound (a.eval x) m c).run P w = .ok n.toNat w:=by
 simp only [bound] at h
 split at h
 ·rename_i k n' he
  cases h
  have hv:=(r.ev he).lit
  simp [hv,Instr.sliceBound,asIntOf,h0,h1]
 cases h
theorem kz {L:lE} {a:Act} {w:World} (r:cL X S L a w) {lo hi:Option Operand} {l h:Int} {n c:Nat} (hl:bound S 0 lo=some l) (hh:bound S n hi=some h) (h0:0<=l) (h1:l<=h) (h2:h<=n) (h3:n<=c) (b:Bool) :
 (Instr.sliceBounds b n c (lo.map a.eval) (hi.map a.eval) none).run P w = .ok (l.toNat,h.toNat,c) w:=by
 cases hi with
 | none =>
  simp only [bound,Option.some.injEq] at hh
  subst hh
  cases lo with
  | none=>simp only [bound,Option.some.injEq] at hl;subst hl;simp [Instr.sliceBounds]
  | some x =>
   have e2:=sY (P:=P) (X:=X) (m:=n) r hl h0 Q2
   simp [Instr.sliceBounds,e2]
 | some y =>
  have e:=sY (P:=P) (X:=X) (m:=c) r hh Q2 Q2
  cases lo with
  | none=>simp only [bound,Option.some.injEq] at hl;subst hl;simp [Instr.sliceBounds,e]
  | some x =>
   have e2:=sY (P:=P) (X:=X) (m:=h.toNat) r hl h0 Q2
   simp [Instr.sliceBounds,e,e2]
theorem vG {t e:TypeId} {inf:TypeInfo} {x:Operand} {lo hi:Option Operand} {n:Nat} {cs:List CV} {l h:Int} (ho:o.op = .slice t x lo hi none) (hu:P.underlying t=some (.slice e)) (hi':P.info? e=some inf) (hx:ev S x=some (.cv (.row n cs))) (hlen:cs.length=n*inf.size)
 (hl:bound S 0 lo=some l) (hh:bound S n hi=some h) (h0:0<=l) (h1:l<=h) (h2:h<=n) :
 Pure P X o S (.cv (.row (h.toNat-l.toNat) ((cs.drop (l.toNat*inf.size)).take ((h.toNat-l.toNat)*inf.size)))):=by
 intro L a w r
 have e0:=@kz P X S L a w r lo hi l h n
 generalize hln:l.toNat=l' at e0 ⊢
 generalize hhn:h.toNat=h' at e0 ⊢
 have k1:l'<=h':=Q2
 have k2:h'<=n:=Q2
 have hr:=r.ev hx
 generalize hv:a.eval x=v at hr
 have hm:(h'-l')*inf.size+l'*inf.size<=cs.length:=by
  rw [hlen,<- Nat.add_mul]
  exact Nat.mul_le_mul_right _ Q2
 cases hr with
 | cv hd=>cases hd with
  | nil b c hb =>
   have g:l'=0:=Q2
   have d:h'=0:=Q2
   subst g d
   refine ⟨.slice (if c=0 then b else b.map (·.add (0*inf.size))) 0 c,?_,?_⟩
   ·have e:=e0 (c:=c) hl hh h0 h1 h2 Q2 true
    simp [execOp,ho,Instr.sliceAt,run_underlying hu,Instr.slice,hv,e,sizeOf,typeInfo,hi']
   have f:(if c=0 then b else b.map (·.add (0*inf.size)))=none->c=0:=by
    by_cases hc0:c=0
    ·exact fun _=>hc0
    rw [if_neg hc0]
    cases b with
    | none=>exact fun _=>hb rfl
    | some b=>simp
   simpa using cO.cv (Den.nil _ _ f)
  | row ad n c cs vs hs hF hn hc hdn =>
   have e:=e0 (c:=c) hl hh h0 h1 h2 hn true
   refine ⟨.slice (if c=l' then some ad else some (ad.add (l'*inf.size))) (h'-l') (c-l'),?_,?_⟩
   ·simp [execOp,ho,Instr.sliceAt,run_underlying hu,Instr.slice,hv,e,sizeOf,typeInfo,hi']
   by_cases hz:h'-l'=0
   ·rw [hz,Nat.zero_mul,List.take_zero]
    refine .cv (.nil _ _ (fun h=>?_))
    split at h<;>cases h
   rw [if_neg Q2]
   refine .cv (.row _ _ _ _ (fun j=>vs (l'*inf.size+j)) (ov _ hs _) (by rw [block_add];exact hF) Q2 (fun j hj=>?_) (fun j hj=>?_))
   ·simp only [List.length_take,List.length_drop] at hj
    rw [add_add _ hs]
    exact hc _ Q2
   have i:=hj
   simp only [List.length_take,List.length_drop] at i
   have:=hdn (l'*inf.size+j) Q2
   simpa [List.getElem_take,List.getElem_drop] using this
theorem iU {t:TypeId} {x:Operand} {lo hi:Option Operand} {s:ByteArray} {l h:Int} (ho:o.op = .slice t x lo hi none) (hu:P.underlying t=some .string) (hx:ev S x=some (.str s)) (hl:bound S 0 lo=some l) (hh:bound S s.size hi=some h) (h0:0<=l) (h1:l<=h) (h2:h<=s.size) :
 Pure P X o S (.str (s.extract l.toNat h.toNat)):=by
 intro L a w r
 have e:=kz (P:=P) (n:=s.size) (c:=s.size) r hl hh h0 h1 h2 (Nat.le_refl _) false
 exact ⟨.string (s.extract l.toNat h.toNat),by simp [execOp,ho,Instr.sliceAt,run_underlying hu,Instr.slice,(r.ev hx).lit,e],.cv (.lit _)⟩
theorem II {t e:TypeId} {inf:TypeInfo} {x:Operand} {lo hi:Option Operand} {k:Nat} {d:Row} {l h:Int} (ho:o.op = .slice t x lo hi none) (hu:P.underlying t=some (.slice e)) (hi':P.info? e=some inf) (hx:ev S x=some (.own k)) (hd:S.rows k=some d) (hs:d.sz=inf.size) (hn:0<d.n)
 (hl:bound S 0 lo=some l) (hh:bound S d.n hi=some h) (h0:0<=l) (h1:l<=h) (h2:h<=d.n):Pure P X o S (.win k l.toNat (h.toNat-l.toNat)):=by
 intro L a w r
 have e0:=@kz P X S L a w r lo hi l h d.n
 generalize hln:l.toNat=l' at e0 ⊢
 generalize hhn:h.toNat=h' at e0 ⊢
 have k1:l'<=h':=Q2
 have k2:h'<=d.n:=Q2
 have hr:=r.ev hx
 generalize hv:a.eval x=v at hr
 obtain ⟨xs,g1,g2,g3⟩:=r.row k d hd
 cases hr with
 | own _ =>
  rcases g1.2 with ⟨q2,q3⟩ | ⟨g,cap,cur,q2,q3,q4,q5,q6⟩
  ·omega
  have e:=e0 (c:=cap) hl hh h0 h1 h2 q5 true
  refine ⟨.slice (if cap=l' then some ⟨g,0,none⟩ else some ((⟨g,0,none⟩:Addr).add (l'*inf.size))) (h'-l') (cap-l'),?_,.win hd q2 Q2 Q2 (fun h=>by split at h<;>cases h) (fun hp=>?_)⟩
  ·simp [execOp,ho,Instr.sliceAt,run_underlying hu,Instr.slice,hv,q2,e,sizeOf,typeInfo,hi']
  rw [if_neg Q2,add_plain,Nat.zero_add,hs]
end
section
variable {P:Program} {X:Ctx} {S S':St} {o:Oper} {L L':lE} {a:Act} {w w':World}
theorem jy (r:cL X S L a w) (hz:w.heap.size<=w'.heap.size) (hr:∀ k d,S.rows k=some d->L' k=L k)
 (hn:∀ k d b,S'.rows k=some d->S.rows k=none->(L' k).ownBlock=some b->w.heap.size<=b) (b:Nat) (h:Still X S.rows L w b):Still X S'.rows L' w' b:=by
 have c:=Still.lt r.below h
 refine ⟨?_,?_⟩
 ·rcases h.1 with h1 | ⟨h1,h2⟩
  ·exact .inl h1
  exact .inr ⟨h1,Q2⟩
 rintro ⟨k,d,h1,h2⟩
 cases hk:S.rows k with
 | some d0 =>
  rw [hr k d0 hk] at h2
  exact h.2 ⟨k,d0,hk,h2⟩
 | none =>
  have:=hn k d b h1 hk h2
  omega
theorem cL.grow (r:cL X S L a w) (hb:Below w.heap.size w w') (he:S'.env=S.env) (hr:∀ k d,S.rows k=some d->S'.rows k=some d/\L' k=L k)
 (hn:∀ k d,S'.rows k=some d->S.rows k=none->pF X w' (Still X S'.rows L' w') L' k d/\∀ b,(L' k).ownBlock=some b->w.heap.size<=b)
 (ha:∀ k k' d d' b,S'.rows k=some d->S'.rows k'=some d'->S.rows k=none->S.rows k'=none->(L' k).ownBlock=some b->(L' k').ownBlock=some b->k=k') (hl:S.rows bY=none->S'.rows bY=none):cL X S' L' a w':=by
 have st:=jy (S':=S') (L':=L') (w':=w') r hb.size (fun k d h=>(hr k d h).2) (fun k d b h1 h2 h3=>(hn k d h1 h2).2 b h3)
 have e:(Still X S.rows L w).le (Still X S'.rows L' w'):=⟨st,fun j v h=>by
  obtain ⟨⟨d,h1⟩,h2⟩:=h
  exact ⟨⟨d,(hr j d h1).1⟩,by rw [(hr j d h1).2];exact h2⟩,fun _ h=>h⟩
 have c:∀ b,Still X S.rows L w b->w'.heap[b]?=w.heap[b]?:=fun b h=>hb.block b (Still.lt r.below h)
 have hg:w.grownBy w' none:=⟨hb.os,hb.tape,hb.output,hb.size,fun k hk _=>hb.block k hk⟩
 refine ⟨r.size,r.defers,ni r.below hg (fun b h=>by cases h),?_,?_,(fun k d b h1 h2=>?_),(fun d h=>?_),?_⟩
 case refine_3 =>
  cases hk:S.rows k with
  | some d0=>rw [(hr k d0 hk).2] at h2;exact r.mine k d0 b hk h2
  | none=>exact .inl (Nat.le_trans r.below.size ((hn k d h1 hk).2 b h2))
 case refine_4 =>
  cases hk:S.rows bY with
  | some d0=>rw [(hr _ d0 hk).2];exact r.pin d0 hk
  | none=>rw [hl hk] at h;cases h
 ·intro k d h
  cases hk:S.rows k with
  | some d0 =>
   have:=(hr k d0 hk).1
   rw [h] at this
   cases this
   exact (r.row k d hk).mono e c (hr k d hk).2 hg (by cases (L k).ownBlock<;>simp)
  | none=>exact (hn k d h hk).1
 ·intro k k' d d' b h h' hb1 hb2
  have lt:∀ k d,S.rows k=some d->∀ b,(L k).ownBlock=some b->b<w.heap.size:=by
   intro k d hk b hb
   obtain ⟨xs,g1,_⟩:=r.row k d hk
   exact (g1.lt b hb).2
  cases hk:S.rows k with
  | some d0 =>
   rw [(hr k d0 hk).2] at hb1
   cases hk':S.rows k' with
   | some d1 =>
    rw [(hr k' d1 hk').2] at hb2
    exact r.apart k k' d0 d1 b hk hk' hb1 hb2
   | none =>
    have h1:=lt k d0 hk b hb1
    have h2:=(hn k' d' h' hk').2 b hb2
    omega
  | none =>
   cases hk':S.rows k' with
   | some d1 =>
    rw [(hr k' d1 hk').2] at hb2
    have h1:=lt k' d1 hk' b hb2
    have h2:=(hn k d h hk).2 b hb1
    omega
   | none=>exact ha k k' d d' b h h' hk hk' hb1 hb2
 intro t p h
 rw [he] at h
 obtain ⟨h1,h2⟩:=r.env t p h
 exact ⟨h1,h2.mono e c hr⟩
def setRow (S:St) (k:Nat) (d:Row):St:={ S with rows:=fun j=>if j=k then some d else S.rows j }
def bm (L:lE) (k:Nat) (v:Value):lE:=fun j=>if j=k then v else L j
theorem cL.newRow (r:cL X S L a w) {k:Nat} (hk:S.rows k=none) (hkl:k≠bY) (cells:Array Value) (e:TypeId) (sz n cap:Nat) (cs:List CV) (hl:cs.length=n*sz) (hs:cells.size=cap*sz) (hc:n<=cap) (hm:cap<=maxLen) (hd:∀ i (h:i<cs.length),Den w ((Still X S.rows L w).at k) (cells.getD i undef) cs[i]) :
 cL X (setRow S k ⟨e,sz,n,cs⟩) (bm L k (.slice (some ⟨w.heap.size,0,none⟩) n cap)) a (w.alloc (.cells cells e)):=by
 have hb:Below w.heap.size w (w.alloc (.cells cells e)):=⟨rfl,rfl,rfl,Q3,fun k hk=>Below.heap_alloc _ _ _ Q2⟩
 have iE:∀ j d,S.rows j=some d->(setRow S k ⟨e,sz,n,cs⟩).rows j=some d/\bm L k (.slice (some ⟨w.heap.size,0,none⟩) n cap) j=L j:=by
  intro j d h
  have:j≠k:=fun e=>by subst e;rw [hk] at h;cases h
  exact ⟨by simp only [setRow];rw [if_neg this];exact h,by simp only [bm];rw [if_neg this]⟩
 have only:∀ j d,(setRow S k ⟨e,sz,n,cs⟩).rows j=some d->S.rows j=none->j=k/\d=⟨e,sz,n,cs⟩:=by
  intro j d h h0
  simp only [setRow] at h
  by_cases c:j=k
  ·rw [if_pos c] at h;cases h;exact ⟨c,rfl⟩
  rw [if_neg c,h0] at h;cases h
 have hn:∀ j d b,(setRow S k ⟨e,sz,n,cs⟩).rows j=some d->S.rows j=none->(bm L k (.slice (some ⟨w.heap.size,0,none⟩) n cap) j).ownBlock=some b->w.heap.size<=b:=by
  intro j d b h h0 hb
  obtain ⟨rfl,rfl⟩:=only j d h h0
  simp only [bm,if_pos,Value.ownBlock,Option.some.injEq] at hb
  omega
 have st:=jy (S':=setRow S k ⟨e,sz,n,cs⟩) (L':=bm L k (.slice (some ⟨w.heap.size,0,none⟩) n cap)) (w':=w.alloc (.cells cells e)) r hb.size (fun j d h=>(iE j d h).2) hn
 have g:n*sz<=cells.size:=by rw [hs];exact Nat.mul_le_mul_right _ hc
 refine r.grow hb rfl iE (fun j d h h0=>⟨?_,fun b h1=>hn j d b h h0 h1⟩) ?_ (fun h=>by simp only [setRow];rw [if_neg (Ne.symm hkl)];exact h)
 ·obtain ⟨rfl,rfl⟩:=only j d h h0
  refine ⟨cells.toList.take (n*sz),?_,by simp;omega,fun i hi=>?_⟩
  ·simp only [bm,if_pos]
   exact ⟨by simp;omega,.inr ⟨w.heap.size,cap,cells,rfl,Nat.le_trans X.hlo r.below.size,heap_alloc_new w _,hc,hm,hs,rfl⟩⟩
  have stF:(Still X S.rows L w).le (Still X (setRow S j ⟨e,sz,n,cs⟩).rows (bm L j (.slice (some ⟨w.heap.size,0,none⟩) n cap)) (w.alloc (.cells cells e))):=⟨st,fun q v h=>by
   obtain ⟨⟨d,h1⟩,h2⟩:=h
   exact ⟨⟨d,(iE q d h1).1⟩,by rw [(iE q d h1).2];exact h2⟩,fun _ h=>h⟩
  have h1:=(hd i hi).mono (stF.at j) (fun b hb'=>hb.block b (Still.lt r.below (by rw [<- Fo.CX _ j];exact hb')))
  have f:i<n*sz:=by rw [<- hl];exact hi
  simpa [Array.getD_eq_getD_getElem?,List.getD_eq_getElem?_getD,List.getElem?_take,f] using h1
 intro j j' d d' b h h' h0 h0' _ _
 rw [(only j d h h0).1,(only j' d' h' h0').1]
theorem cU {o:Oper} {v:Value} {K:Act->World->Prop} {Q:Exit->Act->World->Prop} (h:(execOp a.eval o).run P w = .ok (.value v) w') (hk:K (a.put o.dst v) w'):o.wp P a w K Q:=by
 unfold Oper.wp
 rw [h]
 exact hk
def dZ:PV->Option (List CV)
 | .cv (.lit (.agg _))=>none
 | .cv (.lit (.tuple _))=>none
 | .cv c=>some [c]
 | .ag cs=>some cs
 | _=>none
theorem sI {F:Fo} {rows:Nat->Option Row} {v:Value} {p:PV} {cs:List CV} (h:cO w F rows L v p) (hc:dZ p=some cs):v.cells.size=cs.length/\∀ i (hi:i<cs.length),Den w F (v.cells.getD i undef) cs[i]:=by
 cases h with
 | @cv v c h =>
  have a:∀ u:Value,u.cells = #[u]->Den w F u c->u.cells.size=[c].length/\∀ i (hi:i<[c].length),Den w F (u.cells.getD i undef) [c][i]:=by
   intro u hu hd
   rw [hu]
   refine ⟨rfl,fun i hi=>?_⟩
   have:i=0:=by simp at hi;exact hi
   subst this
   exact hd
  cases h with
  | lit v =>
   cases v<;>simp only [dZ,Option.some.injEq,reduceCtorEq] at hc<;>(subst hc;exact a _ rfl (.lit _))
  | nil b c hb=>simp only [dZ,Option.some.injEq] at hc;subst hc;exact a _ rfl (.nil _ _ hb)
  | own g h1 h2=>simp only [dZ,Option.some.injEq] at hc;subst hc;exact a _ h2 (.own g h1 h2)
  | any h1 h2=>simp only [dZ,Option.some.injEq] at hc;subst hc;exact a _ h2 (.any h1 h2)
  | row ad n c cs vs hs hF hn hcc hd=>simp only [dZ,Option.some.injEq] at hc;subst hc;exact a _ rfl (.row ad n c cs vs hs hF hn hcc hd)
 | ag hl h=>simp only [dZ,Option.some.injEq] at hc;subst hc;exact ⟨hl,h⟩
 | tup=>simp [dZ] at hc
 | own=>simp [dZ] at hc
 | win=>simp [dZ] at hc
 | pr=>simp [dZ] at hc
 | po=>simp [dZ] at hc
 | map=>simp [dZ] at hc
theorem yY {b:Bool} {cs:List CV} (h:(b||cs.all fN)=true) {i:Nat} (hi:i<cs.length):(b||fN cs[i])=true:=by
 cases b with
 | true=>rfl
 | false=>rw [Bool.false_or,List.all_eq_true] at h;exact h _ (List.getElem_mem hi)
theorem to_box {e:TypeId} {x:Operand} {p:PV} {cs:List CV} (k:Nat) (ho:o.op = .box e x) (hx:ev S x=some p) (hc:dZ p=some cs) (hp:0<cs.length) (hk:S.rows k=none) (hkl:k≠bY) (hd:dg X o.dst) (hsh:(Nat.ble opened k||cs.all fN)=true):dR P X o S (put (setRow S k ⟨e,cs.length,1,cs⟩) o.dst (.po k 0)):=by
 intro a w ⟨L,r⟩
 obtain ⟨h1,h2⟩:=sI (r.ev hx) hc
 have r2:=r.newRow hk hkl (a.eval x).cells e cs.length 1 1 cs Q2 Q2 Q2 (by decide) (fun i hi=>(h2 i hi).at (yY hsh hi))
 refine cU (v:=.pointer (some ⟨w.heap.size,0,none⟩)) (w':=w.alloc (.cells (a.eval x).cells e)) ?_ ⟨_,r2.put hd ?_⟩
 ·simp [execOp,ho,Instr.box,newVar,newRow]
 refine .po (r:=⟨e,cs.length,1,cs⟩) (m:=1) (cap:=1) (by simp [setRow]) (by simp [bm]) hp
theorem AG {e:TypeId} {inf:TypeInfo} {z:Value} {cs:List CV} (k:Nat) (ho:o.op = .alloc e) (hi:P.info? e=some inf) (hz:inf.zero=some z) (hc:dZ (C3 z)=some cs) (hcl:z.cells.size=cs.length/\∀ i (h:i<cs.length),gH (z.cells.getD i undef)=cs[i]) (hp:0<cs.length) (hk:S.rows k=none) (hkl:k≠bY) (hd:dg X o.dst) :
 dR P X o S (put (setRow S k ⟨e,cs.length,1,cs⟩) o.dst (.po k 0)):=by
 intro a w ⟨L,r⟩
 have r2:=r.newRow hk hkl z.cells e cs.length 1 1 cs Q2 Q2 Q2 (by decide) (fun i h=>by rw [<- hcl.2 i h];exact jm _ _ _)
 refine cU (v:=.pointer (some ⟨w.heap.size,0,none⟩)) (w':=w.alloc (.cells z.cells e)) ?_ ⟨_,r2.put hd ?_⟩
 ·simp [execOp,ho,Instr.alloc,zeroValue,typeInfo,hi,hz,newVar,newRow]
 refine .po (r:=⟨e,cs.length,1,cs⟩) (m:=1) (cap:=1) (by simp [setRow]) (by simp [bm]) hp
theorem Kp {t e:TypeId} {inf:TypeInfo} {z:Value} {x y:Operand} {kl kc:IntKind} {n cap:Nat} (k:Nat) (ho:o.op = .makeSlice t x y) (hu:P.underlying t=some (.slice e)) (hi:P.info? e=some inf) (hz:inf.zero=some z) (hzc:z.cells = #[z]) (hs:inf.size=1)
 (hx:ev S x=some (.int kl n)) (hy:ev S y=some (.int kc cap)) (hnc:n<=cap) (hb:inf.bytes*cap<=281474976710656) (hm:cap<=maxLen) (hk:S.rows k=none) (hkl:k≠bY) (hd:dg X o.dst):dR P X o S (put (setRow S k ⟨e,1,n,List.replicate n (gH z)⟩) o.dst (.own k)):=by
 intro a w ⟨L,r⟩
 have d:(cap:Int)<=9223372036854775807:=by simp only [maxLen] at hm;omega
 have b:(inf.bytes:Int)*(cap:Int)<=281474976710656:=by rw [<- Int.natCast_mul];omega
 have hr:=run_make (P:=P) w t e inf z hu hi hz kl kc n cap Q2 Q2 b d
 simp only [Int.toNat_natCast] at hr
 have c:(madeCells z.cells (cap*inf.size)).size=cap*1:=by rw [size_madeCells,hs]
 have r2:=r.newRow hk hkl (madeCells z.cells (cap*inf.size)) e 1 n cap (List.replicate n (gH z)) Q3 c hnc hm (fun i h=>by
  have h':i<n:=by simpa using h
  have e1:(madeCells z.cells (cap*inf.size)).getD i undef=z:=by
   rw [hzc,hs,Nat.mul_one]
   have:=toList_madeCells_one z cap
   rw [Array.getD_eq_getD_getElem?,<- Array.getElem?_toList,this,List.getElem?_replicate,if_pos Q2]
   rfl
  rw [e1]
  simp only [List.getElem_replicate]
  exact jm _ _ _)
 refine cU (v:=.slice (some ⟨w.heap.size,0,none⟩) n cap) ?_ ⟨_,r2.put hd ?_⟩
 ·simp only [execOp,ho,(r.ev hx).lit,(r.ev hy).lit]
  simp [hr]
 have:(.slice (some ⟨w.heap.size,0,none⟩) n cap:Value)=bm L k (.slice (some ⟨w.heap.size,0,none⟩) n cap) k:=by simp [bm]
 conv=>arg 5;rw [this]
 exact .own (r:=⟨e,1,n,List.replicate n (gH z)⟩) (by simp [setRow])
end
def gT (place:Nat->Option (Nat×Nat)) (cells:List CV):List (Nat×List CV)->Option (List CV)
 | []=>some cells
 | (i,vs) :: rest =>
  match place i with
  | none=>none
  | some (off,size)=>if vs.length≠size∨off+vs.length>cells.length then none else gT place (cells.take off++vs++cells.drop (off+vs.length)) rest
theorem Jp (off:Nat):∀ (l:List Value) (s:Nat) (cells:Array Value),off+s+l.length<=cells.size ->
 let r:=(l.zipIdx s).foldl (fun cs (x:Value×Nat)=>cs.setIfInBounds (off+x.2) x.1) cells
 r.size=cells.size/\∀ i,r.getD i undef=if off+s<=i/\i<off+s+l.length then l.getD (i-off-s) undef else cells.getD i undef:=by
 intro l
 induction l with
 | nil =>
  intro s cells _
  simp
  intro i h1 h2
  omega
 | cons v l ih =>
  intro s cells h
  simp only [List.length_cons] at h
  obtain ⟨h1,h2⟩:=ih (s+1) (cells.setIfInBounds (off+s) v) (by simp;omega)
  simp only [List.zipIdx_cons,List.foldl_cons]
  refine ⟨by rw [h1];simp,fun i=>?_⟩
  rw [h2]
  by_cases c1:i=off+s
  ·subst c1
   rw [if_neg Q2,if_pos Q3,sB _ _ _ _ Q2,if_pos rfl]
   have:off+s-off-s=0:=Q2
   rw [this];rfl
  rw [sB _ _ _ _ Q2,if_neg c1]
  by_cases c2:off+s<=i/\i<off+s+(v :: l).length
  ·rw [if_pos c2,if_pos (by simp only [List.length_cons] at c2;omega)]
   have:i-off-s=(i-off-(s+1))+1:=Q2
   rw [this];rfl
  rw [if_neg c2,if_neg (by simp only [List.length_cons] at c2;omega)]
theorem wK {w:World} {F:Fo} (place:Nat->Option (Nat×Nat)):∀ (ps:List (Nat×Value)) (qs:List (Nat×List CV)) (cells:Array Value) (cs cs':List CV),ps.length=qs.length ->
 (∀ j (h:j<qs.length) (h':j<ps.length),ps[j].1=qs[j].1/\ps[j].2.cells.size=qs[j].2.length/\∀ i (hi:i<qs[j].2.length),Den w F (ps[j].2.cells.getD i undef) qs[j].2[i]) ->
 cells.size=cs.length->(∀ i (h:i<cs.length),Den w F (cells.getD i undef) cs[i])->gT place cs qs=some cs' ->
 ∃ cells',Instr.fill place cells ps=some cells'/\cells'.size=cs'.length/\∀ i (h:i<cs'.length),Den w F (cells'.getD i undef) cs'[i]:=by
 intro ps
 induction ps with
 | nil =>
  intro qs cells cs cs' hl _ hs hd hf
  cases qs with
  | nil=>simp only [gT,Option.some.injEq] at hf;subst hf;exact ⟨cells,rfl,hs,hd⟩
  | cons q qs=>simp at hl
 | cons p ps ih =>
  intro qs cells cs cs' hl hp hs hd hf
  cases qs with
  | nil=>simp at hl
  | cons q qs =>
   obtain ⟨i,v⟩:=p
   obtain ⟨i',vs⟩:=q
   obtain ⟨e1,e2,e3⟩:=hp 0 Q3 Q3
   simp only [List.getElem_cons_zero] at e1 e2 e3
   subst e1
   simp only [gT] at hf
   cases hpl:place i with
   | none=>simp [hpl] at hf
   | some os =>
    obtain ⟨a,size⟩:=os
    simp only [hpl] at hf
    split at hf
    ·cases hf
    rename_i c
    have c1:vs.length=size:=Q2
    have c2:a+vs.length<=cs.length:=Q2
    obtain ⟨g1,g2⟩:=Jp a v.cells.toList 0 cells (by simp;omega)
    have:=ih qs _ (cs.take a++vs++cs.drop (a+vs.length)) cs' (by simpa using hl) (fun j h h'=>hp (j+1) (by simp;omega) (by simp;omega)) (by rw [g1];simp;omega) (fun j hj=>?_) hf
    ·obtain ⟨cells',k1,k2,k3⟩:=this
     refine ⟨cells',?_,k2,k3⟩
     simp only [Instr.fill,hpl]
     rw [if_neg (by simp;omega)]
     rw [<- Array.foldl_toList,Array.toList_zipIdx]
     exact k1
    rw [g2]
    simp only [List.length_append,List.length_take,List.length_drop] at hj
    by_cases d1:a+0<=j/\j<a+0+v.cells.toList.length
    ·rw [if_pos d1]
     have b:j-a-0<vs.length:=by simp at d1;omega
     have:=e3 (j-a-0) b
     have e4:(cs.take a++vs++cs.drop (a+vs.length))[j]'(by simp;omega)=vs[j-a-0]'b:=by
      rw [List.getElem_append_left (by simp;omega),List.getElem_append_right (by simp;omega)]
      congr 1
      simp;omega
     rw [e4]
     simpa [Array.getD_eq_getD_getElem?,List.getD_eq_getElem?_getD] using this
    rw [if_neg d1]
    simp only [Array.length_toList] at d1
    by_cases d2:j<a
    ·have e4:(cs.take a++vs++cs.drop (a+vs.length))[j]'(by simp;omega)=cs[j]'Q2:=by
      rw [List.getElem_append_left (by simp;omega),List.getElem_append_left (by simp;omega)]
      simp
     rw [e4]
     exact hd j Q2
    have e4:(cs.take a++vs++cs.drop (a+vs.length))[j]'(by simp;omega)=cs[j]'Q2:=by
     rw [List.getElem_append_right (by simp;omega),List.getElem_drop]
     congr 1
     simp;omega
    rw [e4]
    exact hd j Q2
section
variable {P:Program} {X:Ctx} {S:St} {o:Oper}
def parts (S:St):List (Nat×Operand)->Option (List (Nat×List CV))
 | []=>some []
 | (i,x) :: rest=>match (ev S x).bind dZ,parts S rest with
  | some cs,some r=>some ((i,cs) :: r)
  | _,_=>none
theorem pU {L:lE} {a:Act} {w:World} (r:cL X S L a w):∀ (ps:List (Nat×Operand)) (qs:List (Nat×List CV)),parts S ps=some qs ->
 ps.length=qs.length/\∀ j (h:j<qs.length) (h':j<ps.length),ps[j].1=qs[j].1/\(a.eval ps[j].2).cells.size=qs[j].2.length/\∀ i (hi:i<qs[j].2.length),Den w (Still X S.rows L w) ((a.eval ps[j].2).cells.getD i undef) qs[j].2[i]
 | [],qs,h=>by simp only [parts,Option.some.injEq] at h;subst h;exact ⟨rfl,fun j h=>by simp at h⟩
 | (i,x) :: ps,qs,h=>by
  simp only [parts] at h
  split at h
  ·rename_i cs rest h1 h2
   cases h
   obtain ⟨p,hp,hc⟩:=Option.bind_eq_some_iff.1 h1
   obtain ⟨g1,g2⟩:=pU r ps rest h2
   refine ⟨by simp [g1],fun j hj hj'=>?_⟩
   cases j with
   | zero=>exact ⟨rfl,sI (r.ev hp) hc⟩
   | succ j=>exact g2 j (by simpa using hj) (by simpa using hj')
  cases h
def lF (z:Value):List CV:=z.cells.toList.map gH
theorem C5 (w:World) (F:Fo) (z:Value):z.cells.size=(lF z).length/\∀ i (h:i<(lF z).length),Den w F (z.cells.getD i undef) (lF z)[i]:=by
 refine ⟨by simp [lF],fun i h=>?_⟩
 have h':i<z.cells.size:=by simpa [lF] using h
 have e:z.cells.getD i undef=z.cells[i]:=by rw [Array.getD_eq_getD_getElem?,Array.getElem?_eq_getElem h'];rfl
 rw [e]
 simp only [lF,List.getElem_map]
 exact jm _ _ _
theorem qI {t:TypeId} {ps:Array (Nat×Operand)} {fs:Array Field} {inf:TypeInfo} {z:Value} {places:List (Nat×Nat)} {qs:List (Nat×List CV)} {cs:List CV} (ho:o.op = .build t ps) (hu:P.underlying t=some (.struct fs)) (hi:P.info? t=some inf) (hz:inf.zero=some z)
 (hp:fs.toList.mapM (fun f=>(P.info? f.type).map fun i=>(f.offset,i.size))=some places) (hq:parts S ps.toList=some qs) (hf:gT (places.toArray[·]?) (lF z) qs=some cs):Pure P X o S (.ag cs):=by
 intro L a w r
 obtain ⟨g1,g2⟩:=pU r _ _ hq
 obtain ⟨z1,z2⟩:=C5 w (Still X S.rows L w) z
 obtain ⟨cells,k1,k2,k3⟩:=wK (w:=w) (F:=Still X S.rows L w) (places.toArray[·]?) (ps.toList.map fun x=>(x.1,a.eval x.2)) qs z.cells (lF z) cs (by simpa using g1) (fun j h h'=>by
  have:=g2 j h (by simpa using h')
  simpa using this) z1 z2 hf
 refine ⟨.agg cells,?_,.ag k2 k3⟩
 have hb:P.built t (ps.map fun (x:Nat×Operand)=>(x.1,a.eval x.2)).toList=some cells:=by
  unfold Program.built
  simp only [hu,hi,hz,hp]
  simpa using k1
 have:=run_build (P:=P) w t (ps.map fun (x:Nat×Operand)=>(x.1,a.eval x.2)) cells hb
 simp [execOp,ho,this]
end
theorem cO.sO {w w':World} {F F':Fo} {rows rows':Nat->Option Row} {L:lE} {v:Value} {p:PV} (h:cO w F rows L v p) (hF:F.le F') (hw:∀ b,F b->w'.heap[b]?=w.heap[b]?)
 (hr:∀ k r,rows k=some r->∃ r',rows' k=some r'/\r'.sz=r.sz/\r'.data.length=r.data.length):cO w' F' rows' L v p:=by
 induction h with
 | cv h=>exact .cv (h.mono hF hw)
 | ag hl h=>exact .ag hl (fun i hi=>(h i hi).mono hF hw)
 | tup hl h ih=>exact .tup hl ih
 | @own k r h=>obtain ⟨r',h1,h2,h3⟩:=hr k r h;exact .own h1
 | @win a k off n g m cap c r h hL ho hn hb ha=>obtain ⟨r',h1,h2,h3⟩:=hr k r h;exact .win h1 hL ho hn hb (by rw [h2];exact ha)
 | pr vs hs hF' hc hd=>exact .pr vs hs (hF.b _ hF') (fun i hi=>(World.cell?_of_block (by rw [block_add];exact hw _ hF')).trans (hc i hi)) (fun i hi=>(hd i hi).mono hF.shut hw)
 | @po k off g m cap r h hL ho=>obtain ⟨r',h1,h2,h3⟩:=hr k r h;exact .po h1 hL (by rw [h3];exact ho)
 | map hF' hn hb he=>exact .map (hF.b _ hF') (hF.n _ hn) ((hw _ hF').trans hb) he
def fm (k:Nat):PV->Bool
 | .own j=>j==k
 | .win j _ _=>j==k
 | .po j _=>j==k
 | .tup _=>true
 | .cv c=>ik k c
 | .ag cs=>cs.any (ik k)
 | _=>false
theorem Ff {k j:Nat} (h:ik k (.own j)=false):j≠k:=fun e=>by subst e;rw [oC.2 rfl] at h;cases h
theorem cO.iE {w w':World} {F F':Fo} {rows rows':Nat->Option Row} {L L':lE} {v:Value} {p:PV} {k:Nat} (h:cO w F rows L v p) (hu:fm k p=false) (hF:∀ b,F b->F' b) (ho:∀ j u,j≠k->F.o j u->F'.o j u) (hn0:∀ b,F.n b->F'.n b) (hw:∀ b,F b->w'.heap[b]?=w.heap[b]?)
 (hr:∀ j r,j≠k->rows j=some r->(∃ r',rows' j=some r'/\r'.sz=r.sz/\r'.data.length=r.data.length)/\L' j=L j):cO w' F' rows' L' v p:=by
 cases h with
 | cv h=>exact .cv (h.qB hF (fun j u e=>ho j u (by subst e;exact Ff hu)) hw)
 | ag hl h=>exact .ag hl (fun i hi=>(h i hi).qB hF (fun j u e=>ho j u (by
  simp only [fm,List.any_eq_false] at hu
  have:=hu _ (List.getElem_mem hi)
  rw [e] at this
  exact Ff (Bool.not_eq_true _ ▸ this))) hw)
 | tup hl h=>simp [fm] at hu
 | @own j r h =>
  have hj:j≠k:=by simpa [fm] using hu
  obtain ⟨⟨r',h1,h2,h3⟩,h4⟩:=hr j r hj h
  rw [<- h4];exact .own h1
 | @win a j off n g m cap c r h hL ho hn hb ha =>
  have hj:j≠k:=by simpa [fm] using hu
  obtain ⟨⟨r',h1,h2,h3⟩,h4⟩:=hr j r hj h
  exact .win h1 (by rw [h4];exact hL) ho hn hb (by rw [h2];exact ha)
 | pr vs hs hF' hc hd=>exact .pr vs hs (hF _ hF') (fun i hi=>(World.cell?_of_block (by rw [block_add];exact hw _ hF')).trans (hc i hi)) (fun i hi=>(hd i hi).mono (Fo.ja hF) hw)
 | @po j off g m cap r h hL ho =>
  have hj:j≠k:=by simpa [fm] using hu
  obtain ⟨⟨r',h1,h2,h3⟩,h4⟩:=hr j r hj h
  exact .po h1 (by rw [h4];exact hL) (by rw [h3];exact ho)
 | map hF' hn hb he=>exact .map (hF _ hF') (hn0 _ hn) ((hw _ hF').trans hb) he
def lk (k:Nat):CV->CV
 | .own j=>bif Nat.beq j k then .any else .own j
 | c=>c
def eV (k j:Nat) (r:Row):Row:=bif Nat.ble opened j then { r with data:=r.data.map (lk k) } else r
def kill (S:St) (k:Nat):St:={ env:=fun t=>match S.env t with | some p=>if fm k p then none else some p | none=>none,rows:=fun j=>(S.rows j).map (eV k j) }
theorem su {S:St} {k t:Nat} {p:PV} (h:(kill S k).env t=some p):S.env t=some p/\fm k p=false:=by
 simp only [kill] at h
 split at h
 ·rename_i q hq
  split at h
  ·cases h
  rename_i hu;cases h;exact ⟨hq,by simpa using hu⟩
 cases h
theorem mb (k j:Nat) (r:Row):(eV k j r).e=r.e/\(eV k j r).sz=r.sz/\(eV k j r).n=r.n/\(eV k j r).data.length=r.data.length:=by
 unfold eV
 cases Nat.ble opened j<;>simp
theorem Den.kill {w w':World} {F F':Fo} {v:Value} {c:CV} {k:Nat} (h:Den w F v c) (hF:∀ b,F b->F' b) (ho:∀ j u,j≠k->F.o j u->F'.o j u) (hw:∀ b,F b->w'.heap[b]?=w.heap[b]?):Den w' F' v (lk k c):=by
 cases h with
 | lit v=>exact .lit v
 | nil a c h=>exact .nil a c h
 | row ad n c cs vs hs hF' hn hc hd=>exact (Den.row ad n c cs vs hs hF' hn hc hd:Den w F _ _).qB hF (fun _ _ e=>by cases e) hw
 | @own _ j _ h h1 h2 =>
  show Den w' F' v (bif Nat.beq j k then .any else .own j)
  cases c:Nat.beq j k with
  | true=>exact .any h1 h2
  | false=>exact .own (ho _ _ (Nat.ne_of_beq_eq_false c) h) h1 h2
 | any h1 h2=>exact .any h1 h2
theorem pF.kill {X:Ctx} {w w':World} {F F':Fo} {L L':lE} {k j:Nat} {r:Row} (h:pF X w F L j r) (hF:∀ b,F b->F' b) (ho:∀ j u,j≠k->F.o j u->F'.o j u) (hw:∀ b,F b->w'.heap[b]?=w.heap[b]?) (hL:L' j=L j)
 {row:Option Nat} (hg:w.grownBy w' row) (hne:(L j).ownBlock=none∨(L j).ownBlock≠row):pF X w' F' L' j (eV k j r):=by
 obtain ⟨xs,h1,h2,h3⟩:=h
 obtain ⟨s1,s2,s3,s4⟩:=mb k j r
 refine ⟨xs,by rw [hL,s1,s2,s3];exact h1.kept hg hne,by rw [s4];exact h2,fun i hi=>?_⟩
 have c:i<r.data.length:=by rw [s4] at hi;exact hi
 have h4:=h3 i c
 have a:∀ b,(F.at j) b->w'.heap[b]?=w.heap[b]?:=fun b hb=>hw b (by rw [<- F.CX j];exact hb)
 cases e:Nat.ble opened j with
 | false =>
  have e1:(eV k j r).data[i]=r.data[i]:=by simp only [eV,e,cond_false]
  rw [e1]
  simp only [Fo.at,e,cond_false] at h4 a ⊢
  exact h4.mono (Fo.ja hF) a
 | true =>
  have e1:(eV k j r).data[i]=lk k r.data[i]:=by simp only [eV,e,cond_true,List.getElem_map]
  rw [e1]
  simp only [Fo.at,e,cond_true] at h4 a ⊢
  exact h4.kill hF ho a
section
variable {P:Program} {X:Ctx} {S:St} {o:Oper} {L:lE} {a:Act} {w w':World} {k:Nat} {d d':Row}
theorem cL.mW (r:cL X S L a w) (hk:S.rows k=some d):∀ b,(L k).ownBlock=some b->(X.B<=b∨(k=bY/\X.G=some b))/\b<w.heap.size:=by
 obtain ⟨xs,g1,_⟩:=r.row k d hk
 exact fun b h=>⟨r.mine k d b hk h,(g1.lt b h).2⟩
theorem cL.C6 (r:cL X S L a w) (hk:S.rows k=some d) {v':Value} (hkl:k=bY->v'=L k∨∀ v,X.pin v) (hg:w.grownBy w' (L k).ownBlock) {xs:List Value} (hown:w'.ownsRow X.lo d'.e d'.sz v' d'.n xs) (hl:xs.length=d'.data.length) (hv:∀ b,v'.ownBlock=some b->(L k).ownBlock=some b∨w.heap.size<=b)
 (hd:(∀ b,Still X S.rows L w b->Still X (setRow (kill S k) k d').rows (bm L k v') w' b)->(∀ j u,j≠k->(Still X S.rows L w).o j u->(Still X (setRow (kill S k) k d').rows (bm L k v') w').o j u)->(∀ b,Still X S.rows L w b->w'.heap[b]?=w.heap[b]?)->∀ i (h:i<d'.data.length),Den w' ((Still X (setRow (kill S k) k d').rows (bm L k v') w').at k) (xs.getD i undef) d'.data[i]):cL X (setRow (kill S k) k d') (bm L k v') a w':=by
 have g:∀ j e,(setRow (kill S k) k d').rows j=some e->(j=k/\e=d')∨(j≠k/\∃ e0,S.rows j=some e0/\e=eV k j e0):=by
  intro j e h
  simp only [setRow,kill] at h
  by_cases c:j=k
  ·rw [if_pos c] at h;cases h;exact .inl ⟨c,rfl⟩
  rw [if_neg c] at h
  obtain ⟨e0,h1,h2⟩:=Option.map_eq_some_iff.1 h
  exact .inr ⟨c,e0,h1,h2.symm⟩
 have f:∀ j,j≠k->bm L k v' j=L j:=fun j h=>by simp only [bm];rw [if_neg h]
 have l:bm L k v' k=v':=by simp only [bm,if_pos]
 have st:∀ b,Still X S.rows L w b->Still X (setRow (kill S k) k d').rows (bm L k v') w' b:=by
  intro b h
  have s:=Still.lt r.below h
  refine ⟨?_,?_⟩
  ·rcases h.1 with h1 | ⟨h1,h2⟩
   ·exact .inl h1
   exact .inr ⟨h1,Nat.lt_of_lt_of_le h2 hg.size⟩
  rintro ⟨j,e,h1,h2⟩
  rcases g j e h1 with ⟨rfl,rfl⟩ | ⟨c,e0,h3,_⟩
  ·rw [l] at h2
   rcases hv b h2 with h3 | h3
   ·exact h.2 ⟨j,d,hk,h3⟩
   omega
  rw [f j c] at h2
  exact h.2 ⟨j,e0,h3,h2⟩
 have q:∀ j u,j≠k->(Still X S.rows L w).o j u->(Still X (setRow (kill S k) k d').rows (bm L k v') w').o j u:=by
  intro j u c h
  obtain ⟨⟨e,h1⟩,h2⟩:=h
  refine ⟨⟨eV k j e,?_⟩,by rw [f j c];exact h2⟩
  simp only [setRow,kill]
  rw [if_neg c,h1]
  rfl
 have m:∀ b,Still X S.rows L w b->w'.heap[b]?=w.heap[b]?:=fun b h=>hg.block b (Still.lt r.below h) (fun e=>h.2 ⟨k,d,hk,e.symm⟩)
 refine ⟨r.size,r.defers,ni r.below hg (fun b h=>(r.mine k d b hk h).imp id (fun h=>h.2)),?_,?_,(fun j e b h1 h2=>?_),(fun e h1=>?_),?_⟩
 case refine_3 =>
  rcases g j e h1 with ⟨rfl,rfl⟩ | ⟨c,e0,h3,_⟩
  ·rw [l] at h2
   rcases hv b h2 with h4 | h4
   ·exact r.mine _ d b hk h4
   exact .inl (Nat.le_trans r.below.size h4)
  rw [f j c] at h2
  exact r.mine j e0 b h3 h2
 case refine_4 =>
  rcases g bY e h1 with ⟨c,rfl⟩ | ⟨c,e0,h3,_⟩
  ·subst c
   rw [l]
   rcases hkl rfl with e2 | e2
   ·rw [e2];exact r.pin d hk
   exact e2 _
  rw [f _ c]
  exact r.pin e0 h3
 ·intro j e h
  rcases g j e h with ⟨rfl,rfl⟩ | ⟨c,e0,h3,rfl⟩
  ·exact ⟨xs,by rw [l];exact hown,hl,hd st q m⟩
  refine (r.row j e0 h3).kill st q m (f j c) hg ?_
  cases hb:(L j).ownBlock with
  | none=>exact .inl rfl
  | some b =>
   refine .inr (fun e2=>c ?_)
   exact r.apart j k e0 d b h3 hk hb e2.symm
 ·intro j j' e e' b h h' hb hb'
  rcases g j e h with ⟨rfl,rfl⟩ | ⟨c,e0,h3,_⟩
  ·rcases g j' e' h' with ⟨rfl,rfl⟩ | ⟨c',e0',h3',_⟩
   ·rfl
   rw [l] at hb
   rw [f j' c'] at hb'
   rcases hv b hb with h4 | h4
   ·exact r.apart _ _ _ _ b hk h3' h4 hb'
   have:=(r.mW h3' b hb').2
   omega
  rcases g j' e' h' with ⟨rfl,rfl⟩ | ⟨c',e0',h3',_⟩
  ·rw [l] at hb'
   rw [f j c] at hb
   rcases hv b hb' with h4 | h4
   ·exact r.apart _ _ _ _ b h3 hk hb h4
   have:=(r.mW h3 b hb).2
   omega
  rw [f j c] at hb
  rw [f j' c'] at hb'
  exact r.apart _ _ _ _ b h3 h3' hb hb'
 intro t p h
 obtain ⟨h1,h2⟩:=su h
 obtain ⟨h3,h4⟩:=r.env t p h1
 refine ⟨h3,h4.iE h2 st q (fun _ h=>h) m (fun j e c h=>⟨⟨eV k j e,?_,(mb k j e).2.1,(mb k j e).2.2.2⟩,f j c⟩)⟩
 simp only [setRow,kill]
 rw [if_neg c,h]
 rfl
theorem cL.HA (r:cL X S L a w) (hk:S.rows k=some d) {v':Value} (hkl:k=bY->v'=L k∨∀ v,X.pin v) (hg:w.grownBy w' (L k).ownBlock) {xs:List Value} (hown:w'.ownsRow X.lo d'.e d'.sz v' d'.n xs) (hl:xs.length=d'.data.length) (hv:∀ b,v'.ownBlock=some b->(L k).ownBlock=some b∨w.heap.size<=b)
 (hd:∀ i (h:i<d'.data.length),Den w (Still X S.rows L w).shut (xs.getD i undef) d'.data[i]):cL X (setRow (kill S k) k d') (bm L k v') a w' :=
 r.C6 hk hkl hg hown hl hv (fun st sto same i hi=>((hd i hi).mono (Fo.ja st) same).mono (Fo.jN _ _) (fun _ _=>rfl))
theorem cL.set' (r:cL X S L a w) (hk:S.rows k=some d) (hg:w.grownBy w' (L k).ownBlock) {xs:List Value} (hown:w'.ownsRow X.lo d'.e d'.sz (L k) d'.n xs) (hl:xs.length=d'.data.length) (hs:d'.sz=d.sz) (hdl:d'.data.length=d.data.length)
 (hd:(Still X S.rows L w).le (Still X (setRow S k d').rows L w')->(∀ b,Still X S.rows L w b->w'.heap[b]?=w.heap[b]?)->∀ i (h:i<d'.data.length),Den w' ((Still X (setRow S k d').rows L w').at k) (xs.getD i undef) d'.data[i]):cL X (setRow S k d') L a w':=by
 have l:∀ j q,S.rows j=some q->∃ q',(setRow S k d').rows j=some q'/\q'.sz=q.sz/\q'.data.length=q.data.length:=by
  intro j q h
  simp only [setRow]
  by_cases c:j=k
  ·subst c
   rw [if_pos rfl]
   rw [hk] at h
   cases h
   exact ⟨d',rfl,hs,hdl⟩
  rw [if_neg c]
  exact ⟨q,h,rfl,rfl⟩
 have o:∀ j e,(setRow S k d').rows j=some e->(j=k/\e=d')∨(j≠k/\S.rows j=some e):=by
  intro j e h
  simp only [setRow] at h
  by_cases c:j=k
  ·rw [if_pos c] at h;cases h;exact .inl ⟨c,rfl⟩
  rw [if_neg c] at h;exact .inr ⟨c,h⟩
 have f:∀ j e,(setRow S k d').rows j=some e->∃ e0,S.rows j=some e0:=fun j e h=>by
  rcases o j e h with ⟨rfl,_⟩ | ⟨_,h3⟩
  ·exact ⟨d,hk⟩
  exact ⟨e,h3⟩
 have st:∀ b,Still X S.rows L w b->Still X (setRow S k d').rows L w' b:=by
  intro b h
  refine ⟨?_,?_⟩
  ·rcases h.1 with h1 | ⟨h1,h2⟩
   ·exact .inl h1
   exact .inr ⟨h1,Nat.lt_of_lt_of_le h2 hg.size⟩
  rintro ⟨j,q,h1,h2⟩
  obtain ⟨q0,h3⟩:=f j q h1
  exact h.2 ⟨j,q0,h3,h2⟩
 have m:(Still X S.rows L w).le (Still X (setRow S k d').rows L w'):=⟨st,fun j u h=>by
  obtain ⟨⟨q,h1⟩,h2⟩:=h
  obtain ⟨q',h3,_⟩:=l j q h1
  exact ⟨⟨q',h3⟩,h2⟩,fun _ h=>h⟩
 have g:∀ b,Still X S.rows L w b->w'.heap[b]?=w.heap[b]?:=fun b h=>hg.block b (Still.lt r.below h) (fun e=>h.2 ⟨k,d,hk,e.symm⟩)
 refine ⟨r.size,r.defers,ni r.below hg (fun b h=>(r.mine k d b hk h).imp id (fun h=>h.2)),?_,?_,(fun j e b h1 h2=>?_),(fun e h1=>?_),?_⟩
 case refine_3 =>
  obtain ⟨e0,h3⟩:=f j e h1
  exact r.mine j e0 b h3 h2
 case refine_4 =>
  obtain ⟨e0,h3⟩:=f bY e h1
  exact r.pin e0 h3
 ·intro j e h
  rcases o j e h with ⟨rfl,rfl⟩ | ⟨c,h3⟩
  ·exact ⟨xs,hown,hl,hd m g⟩
  refine (r.row j e h3).mono m g rfl hg ?_
  cases hb:(L j).ownBlock with
  | none=>exact .inl rfl
  | some b=>exact .inr (fun e2=>c (r.apart j k e d b h3 hk hb e2.symm))
 ·intro j j' e e' b h h' hb hb'
  obtain ⟨e0,h3⟩:=f j e h
  obtain ⟨e1,h4⟩:=f j' e' h'
  exact r.apart j j' e0 e1 b h3 h4 hb hb'
 exact fun t p h=>⟨(r.env t p h).1,(r.env t p h).2.sO m g l⟩
theorem cL.set (r:cL X S L a w) (hk:S.rows k=some d) (hg:w.grownBy w' (L k).ownBlock) {xs:List Value} (hown:w'.ownsRow X.lo d'.e d'.sz (L k) d'.n xs) (hl:xs.length=d'.data.length) (hs:d'.sz=d.sz) (hdl:d'.data.length=d.data.length)
 (hd:∀ i (h:i<d'.data.length),Den w ((Still X S.rows L w).at k) (xs.getD i undef) d'.data[i]):cL X (setRow S k d') L a w':=r.set' hk hg hown hl hs hdl (fun st same i hi=>(hd i hi).mono (st.at k) (fun b hb=>same b (by rw [<- Fo.CX _ k];exact hb)))
def one:CV->Bool
 | .lit v=>v.oneCell'
 | _=>true
theorem Den.one {F:Fo} {v:Value} {c:CV} (h:Den w F v c) (hc:one c=true):v.oneCell'=true:=by
 cases h with
 | lit v=>exact hc
 | nil=>rfl
 | row=>rfl
 | own h h1 h2=>exact h1
 | any h1 h2=>exact h1
end
section
variable {P:Program} {X:Ctx} {S:St} {o:Oper} {L:lE} {a:Act} {w w':World} {k:Nat} {d d':Row}
def splice (l:List CV) (off:Nat) (cs:List CV):List CV:=l.take off++cs++l.drop (off+cs.length)
theorem length_splice (l:List CV) (off:Nat) (cs:List CV) (h:off+cs.length<=l.length):(splice l off cs).length=l.length:=by simp [splice];omega
theorem lB {F:Fo} {vs:Array Value} {cs:List CV} (hl:vs.size=cs.length) (h:∀ i (h:i<cs.length),Den w F (vs.getD i undef) cs[i]) (h1:cs.all one=true):∀ v∈vs.toList,v.oneCell'=true:=by
 intro v hv
 obtain ⟨i,hi,rfl⟩:=List.getElem_of_mem hv
 have a:i<cs.length:=by simpa [hl] using hi
 have:=(h i a).one (by rw [List.all_eq_true] at h1;exact h1 _ (List.getElem_mem a))
 have b:i<vs.size:=by simpa using hi
 simpa [Array.getD_eq_getD_getElem?,Array.getElem?_eq_getElem b] using this
theorem EH {F:Fo} {xs:List Value} {cs ncs:List CV} {news:List Value} {off:Nat} (hl:xs.length=cs.length) (hd:∀ i (h:i<cs.length),Den w F (xs.getD i undef) cs[i]) (hn:news.length=ncs.length) (hnd:∀ i (h:i<ncs.length),Den w F (news.getD i undef) ncs[i]) (ho:off+ncs.length<=cs.length) :
 ∀ i (h:i<(splice cs off ncs).length),Den w F ((xs.take off++news++xs.drop (off+news.length)).getD i undef) (splice cs off ncs)[i]:=by
 intro i h
 have h':i<cs.length:=by rw [<- length_splice cs off ncs ho];exact h
 have hm:min off cs.length=off:=Q2
 simp only [splice,List.getD_eq_getElem?_getD]
 by_cases c1:i<off
 ·rw [List.getElem_append_left (by simp;omega),List.getElem_append_left (by simp;omega),List.getElem?_append_left (by simp;omega),List.getElem?_append_left (by simp;omega),List.getElem_take,List.getElem?_take,if_pos c1]
  have:=hd i h'
  rwa [List.getD_eq_getElem?_getD] at this
 by_cases c2:i<off+ncs.length
 ·rw [List.getElem_append_left (by simp;omega),List.getElem_append_right (by simp;omega),List.getElem?_append_left (by simp;omega),List.getElem?_append_right (by simp;omega)]
  have e1:i-(List.take off cs).length=i-off:=by simp;omega
  have e2:i-(List.take off xs).length=i-off:=by simp;omega
  rw [e2]
  have:=hnd (i-off) Q2
  rw [List.getD_eq_getElem?_getD] at this
  have e3:i-min off cs.length=i-off:=Q2
  simpa [e3] using this
 rw [List.getElem_append_right (by simp;omega),List.getElem?_append_right (by simp;omega),List.getElem_drop,List.getElem?_drop]
 have e1:off+ncs.length+(i-(List.take off cs++ncs).length)=i:=by simp;omega
 have e2:off+news.length+(i-(List.take off xs++news).length)=i:=by simp;omega
 rw [e2]
 have:=hd i h'
 rw [List.getD_eq_getElem?_getD] at this
 have e3:off+ncs.length+(i-(min off cs.length+ncs.length))=i:=Q2
 simpa [e3] using this
theorem xy {o:Oper} {K:Act->World->Prop} {Q:Exit->Act->World->Prop} (w':World) (h:(execOp a.eval o).run P w = .ok .skip w') (hk:K (a.put o.dst undef) w'):o.wp P a w K Q:=by
 unfold Oper.wp
 rw [h]
 exact hk
theorem rz {t:TypeId} {inf:TypeInfo} {x y:Operand} {off:Nat} {p:PV} {cs:List CV} (ho:o.op = .store t x y) (hi:P.info? t=some inf) (hx:ev S x=some (.po k off)) (hd:S.rows k=some d) (hy:ev S y=some p) (hc:dZ p=some cs) (h1:cs.all one=true) (hs:cs.length=inf.size) (hl:off+cs.length<=d.data.length) (hsh:(Nat.ble opened k||cs.all fN)=true) :
 dR P X o S (drop (setRow S k { d with data:=splice d.data off cs }) o.dst):=by
 intro a w ⟨L,r⟩
 obtain ⟨g1,g2⟩:=sI (r.ev hy) hc
 have h:=r.ev hx
 generalize hv:a.eval x=v at h
 cases h with
 | @po _ _ g m cap r' h hL _ =>
  obtain ⟨xs,q1,q2,q3⟩:=r.row k d hd
  have c:=q1
  rw [hL] at c
  rcases c.2 with ⟨b1,b2⟩ | ⟨g',c',cur,b1,b2,b3,b4,b5,b6,b7⟩
  ·cases b1
  cases b1
  have u:xs.length=d.n*d.sz:=c.1
  have z:cur.size=cap*d.sz:=b6
  have f:d.n*d.sz<=cap*d.sz:=Nat.mul_le_mul_right _ b4
  have q:=run_storeCells_at P g off d.e (a.eval y).cells.toList 0 cur w b3 (by rw [Array.length_toList,g1];rw [<- c.1,q2] at f;omega) (lB g1 g2 h1)
  simp only [Nat.add_zero] at q
  have hg:w.grownBy (w.setRow g (cur.toList.take off++(a.eval y).cells.toList++cur.toList.drop (off+(a.eval y).cells.toList.length)).toArray) (L k).ownBlock:=by
   rw [hL]
   exact ⟨rfl,rfl,rfl,by simp [World.setRow],fun j _ hj=>setRow_other w g j _ (fun e=>hj (by rw [e];rfl))⟩
  have b:(a.eval y).cells.toList.length=cs.length:=by simpa using g1
  have s:(w.setRow g (cur.toList.take off++(a.eval y).cells.toList++cur.toList.drop (off+(a.eval y).cells.toList.length)).toArray).ownsRow X.lo d.e d.sz (L k) d.n (xs.take off++(a.eval y).cells.toList++xs.drop (off+(a.eval y).cells.toList.length)):=by
   rw [hL]
   refine ⟨by simp only [List.length_append,List.length_take,List.length_drop];rw [b];rw [<- c.1];omega,.inr ⟨g,cap,_,rfl,b2,setRow_heap w g cur _ d.e _ b3,b4,b5,?_,?_⟩⟩
   ·simp only [List.size_toArray,List.length_append,List.length_take,List.length_drop,Array.length_toList]
    rw [<- Array.length_toList (xs:=(a.eval y).cells),b]
    rw [<- c.1,q2] at f
    omega
   rw [<- b7]
   rw [b]
   rw [List.take_append,List.take_append,List.take_of_length_le (l:=(a.eval y).cells.toList) (by rw [b];simp only [List.length_take,Array.length_toList];rw [<- c.1,q2] at f ⊢;omega)]
   rw [<- c.1,q2] at f ⊢
   have e1:List.take d.data.length (List.take off cur.toList)=List.take off (List.take d.data.length cur.toList):=by
    rw [List.take_take,List.take_take,Nat.min_comm]
   rw [e1]
   congr 1
   simp only [List.length_append,List.length_take,Array.length_toList]
   rw [<- Array.length_toList (xs:=(a.eval y).cells),b,List.drop_take]
   congr 1
   omega
  refine xy (w.setRow g (cur.toList.take off++(a.eval y).cells.toList++cur.toList.drop (off+(a.eval y).cells.toList.length)).toArray) ?_ ?_
  ·have e:¬ ((a.eval y).cells.size≠inf.size):=by omega
   simp [execOp,ho,Instr.storeAt,Instr.sureAddr,hv,storeVar,sizeOf,typeInfo,hi,e,q]
  refine ⟨L,(r.set (d':={ d with data:=splice d.data off cs }) hd hg s ?_ rfl (length_splice _ _ _ hl) ?_).drop _ _⟩
  ·simp only [List.length_append,List.length_take,List.length_drop]
   rw [length_splice _ _ _ hl,b]
   omega
  exact EH q2 q3 b (fun i hi=>by simpa [Array.getD_eq_getD_getElem?,List.getD_eq_getElem?_getD] using (g2 i hi).at (k:=k) (yY hsh hi)) hl
def conv (k:Nat) (d:Row):PV->Option PV
 | .own j=>if j=k then some (.cv (.row d.n d.data)) else some (.own j)
 | .win j off n=>if j=k then some (.cv (.row n ((d.data.drop (off*d.sz)).take (n*d.sz)))) else some (.win j off n)
 | .po j off=>if j=k then none else some (.po j off)
 | .tup _=>none
 | .cv c=>bif ik k c then none else some (.cv c)
 | .ag cs=>bif cs.any (ik k) then none else some (.ag cs)
 | p=>some p
def yE (k:Nat) (d:Row):CV->CV
 | .own j=>bif Nat.beq j k then .row d.n d.data else .own j
 | c=>c
def jn (k:Nat) (d:Row) (j:Nat) (r:Row):Row:=bif Nat.ble opened j then { r with data:=r.data.map (yE k d) } else r
def freeze (S:St) (k:Nat) (d:Row):St:={ env:=fun t=>(S.env t).bind (conv k d),rows:=fun j=>if j=k then none else (S.rows j).map (jn k d j) }
theorem wW (k:Nat) (d:Row) (j:Nat) (r:Row):(jn k d j r).e=r.e/\(jn k d j r).sz=r.sz/\(jn k d j r).n=r.n/\(jn k d j r).data.length=r.data.length:=by
 unfold jn
 cases Nat.ble opened j<;>simp
theorem pq {F:Fo} {B:Nat} {e:TypeId} {sz n:Nat} {v:Value} {xs:List Value} {cs:List CV} (h:w.ownsRow B e sz v n xs) (hl:xs.length=cs.length) (hd:∀ i (h:i<cs.length),Den w F.shut (xs.getD i undef) cs[i]) (hF:∀ b,v.ownBlock=some b->F b):Den w F v (.row n cs):=by
 rcases h.2 with ⟨rfl,rfl⟩ | ⟨g,cap,cur,rfl,h2,h3,h4,h5,h6,h7⟩
 ·have:cs=[]:=by
   apply List.eq_nil_of_length_eq_zero
   rw [<- hl,h.1];omega
  subst this
  exact .nil _ _ (fun _=>rfl)
 refine .row _ _ _ _ (fun i=>xs.getD i undef) rfl (hF g rfl) h4 (fun i hi=>?_) hd
 rw [add_plain,Nat.zero_add,h.cellAt i (by rw [<- h.1,hl];exact hi)]
 have:i<xs.length:=Q2
 simp [List.getD_eq_getElem?_getD,List.getElem?_eq_getElem this]
theorem cL.freeze (r:cL X S L a w) (hk:S.rows k=some d) (hkl:k≠bY) (hko:Nat.ble opened k=false):cL X (freeze S k d) L a w:=by
 have f:∀ j e,(V.freeze S k d).rows j=some e->j≠k/\∃ e0,S.rows j=some e0/\e=jn k d j e0:=fun j e h=>by
  simp only [V.freeze] at h
  by_cases c:j=k
  ·rw [if_pos c] at h;cases h
  rw [if_neg c] at h
  obtain ⟨e0,h1,h2⟩:=Option.map_eq_some_iff.1 h
  exact ⟨c,e0,h1,h2.symm⟩
 have st:∀ b,Still X S.rows L w b->Still X (V.freeze S k d).rows L w b:=by
  intro b h
  refine ⟨h.1,?_⟩
  rintro ⟨j,e,h1,h2⟩
  obtain ⟨_,e0,h3,_⟩:=f j e h1
  exact h.2 ⟨j,e0,h3,h2⟩
 have z:∀ b,(L k).ownBlock=some b->Still X (V.freeze S k d).rows L w b:=by
  intro b h
  refine ⟨.inr ⟨(r.mine k d b hk h).resolve_right (fun h=>hkl h.1),(r.mW hk b h).2⟩,?_⟩
  rintro ⟨j,e,h1,h2⟩
  obtain ⟨c,e0,h3,_⟩:=f j e h1
  exact c (r.apart j k e0 d b h3 hk h2 h)
 have y:∀ j u,j≠k->(Still X S.rows L w).o j u->(Still X (V.freeze S k d).rows L w).o j u:=by
  intro j u c h
  obtain ⟨⟨e,h1⟩,h2⟩:=h
  refine ⟨⟨jn k d j e,?_⟩,h2⟩
  simp only [V.freeze]
  rw [if_neg c,h1]
  rfl
 have x:∀ j q,j≠k->S.rows j=some q->(∃ q',(V.freeze S k d).rows j=some q'/\q'.sz=q.sz/\q'.data.length=q.data.length)/\L j=L j:=fun j q c h=>⟨⟨jn k d j q,by simp only [V.freeze];rw [if_neg c,h];rfl,(wW k d j q).2.1,(wW k d j q).2.2.2⟩,rfl⟩
 obtain ⟨xs,q1,q2,q3⟩:=r.row k d hk
 have A:∀ i (h:i<d.data.length),Den w (Still X (V.freeze S k d).rows L w).shut (xs.getD i undef) d.data[i]:=fun i hi=>by
  have h:=q3 i hi
  simp only [Fo.at,hko,cond_false] at h
  exact h.mono (Fo.ja st) (fun _ _=>rfl)
 have l:Den w (Still X (V.freeze S k d).rows L w) (L k) (.row d.n d.data):=pq q1 q2 A z
 have B:∀ {v:Value} {c:CV},Den w (Still X S.rows L w) v c->Den w (Still X (V.freeze S k d).rows L w) v (yE k d c):=fun {v c} h=>by
  cases h with
  | lit v=>exact .lit v
  | nil a c h=>exact .nil a c h
  | row ad n c cs vs hs hF' hn hc hd=>exact (Den.row ad n c cs vs hs hF' hn hc hd:Den w (Still X S.rows L w) _ _).qB st (fun _ _ e=>by cases e) (fun _ _=>rfl)
  | @own _ j _ h h1 h2 =>
   show Den w _ v (bif Nat.beq j k then .row d.n d.data else .own j)
   cases c:Nat.beq j k with
   | true =>
    have e:=Nat.eq_of_beq_eq_true c
    subst e
    have e2:v=L j:=h.2
    rw [e2]
    exact l
   | false=>exact .own (y j v (Nat.ne_of_beq_eq_false c) h) h1 h2
  | any h1 h2=>exact .any h1 h2
 refine ⟨r.size,r.defers,r.below,?_,?_,(fun j e b h h2=>?_),(fun e h=>?_),?_⟩
 case refine_3 =>
  obtain ⟨_,e0,h3,_⟩:=f j e h
  exact r.mine j e0 b h3 h2
 case refine_4 =>
  obtain ⟨_,e0,h3,_⟩:=f bY e h
  exact r.pin e0 h3
 ·intro j e h
  obtain ⟨c,e0,h3,rfl⟩:=f j e h
  obtain ⟨ys,p1,p2,p3⟩:=r.row j e0 h3
  obtain ⟨s1,s2,s3,s4⟩:=wW k d j e0
  refine ⟨ys,by rw [s1,s2,s3];exact p1,by rw [s4];exact p2,fun i hi=>?_⟩
  have s:i<e0.data.length:=by rw [s4] at hi;exact hi
  have h4:=p3 i s
  cases e:Nat.ble opened j with
  | false =>
   have e1:(jn k d j e0).data[i]=e0.data[i]:=by simp only [jn,e,cond_false]
   rw [e1]
   simp only [Fo.at,e,cond_false] at h4 ⊢
   exact h4.mono (Fo.ja st) (fun _ _=>rfl)
  | true =>
   have e1:(jn k d j e0).data[i]=yE k d e0.data[i]:=by simp only [jn,e,cond_true,List.getElem_map]
   rw [e1]
   simp only [Fo.at,e,cond_true] at h4 ⊢
   exact B h4
 ·intro j j' e e' b h h' hb hb'
  obtain ⟨_,e0,h3,_⟩:=f j e h
  obtain ⟨_,e1,h4,_⟩:=f j' e' h'
  exact r.apart j j' e0 e1 b h3 h4 hb hb'
 intro t p h
 obtain ⟨p0,h1,h2⟩:=Option.bind_eq_some_iff.1 h
 obtain ⟨h3,h4⟩:=r.env t p0 h1
 refine ⟨h3,?_⟩
 by_cases hu:fm k p0=false
 ·have e:p=p0:=by
   cases p0<;>simp only [fm,beq_eq_false_iff_ne,ne_eq,reduceCtorEq] at hu<;>simp only [conv,Option.some.injEq,reduceCtorEq] at h2
   all_goals first | exact h2.symm | (rw [if_neg hu] at h2;exact (Option.some.inj h2).symm) | (rw [hu] at h2;exact (Option.some.inj h2).symm)
  rw [e]
  exact h4.iE hu st y (fun _ h=>h) (fun _ _=>rfl) x
 generalize a.tmps.getD t undef=v at h4
 cases h4 with
 | cv=>simp only [fm,Bool.not_eq_false] at hu;simp only [conv,hu,cond_true,reduceCtorEq] at h2
 | ag=>simp only [fm,Bool.not_eq_false] at hu;simp only [conv,hu,cond_true,reduceCtorEq] at h2
 | tup=>simp [conv] at h2
 | pr=>simp [fm] at hu
 | @own j q hj =>
  have c:j=k:=by simpa [fm] using hu
  subst c
  simp only [conv,if_pos,Option.some.injEq] at h2
  subst h2
  exact .cv l
 | @win b j off n g m cap c q hj hL ho hn hb ha =>
  have cj:j=k:=by simpa [fm] using hu
  subst cj
  rw [hk] at hj
  cases hj
  simp only [conv,if_pos,Option.some.injEq] at h2
  subst h2
  have hm:m=d.n:=by
   rw [hL] at q1
   rcases q1.2 with ⟨b1,_⟩ | ⟨g',c',cur,b1,_⟩
   ·cases b1
   cases b1;rfl
  subst hm
  have C:n*d.sz+off*d.sz<=d.data.length:=by
   rw [<- q2,q1.1,<- Nat.add_mul]
   exact Nat.mul_le_mul_right _ Q2
  by_cases hz:n=0
  ·subst hz
   rw [Nat.zero_mul,List.take_zero]
   exact .cv (.nil _ _ hb)
  rw [ha Q2]
  refine .cv (.row _ _ _ _ (fun i=>xs.getD (off*d.sz+i) undef) rfl (z g (by rw [hL];rfl)) hn (fun i hi=>?_) (fun i hi=>?_))
  ·simp only [List.length_take,List.length_drop] at hi
   rw [hL] at q1
   rw [add_plain,q1.cellAt _ (by rw [<- q1.1,q2];omega)]
   have:off*d.sz+i<xs.length:=Q2
   simp [List.getD_eq_getElem?_getD,List.getElem?_eq_getElem this]
  have s:=hi
  simp only [List.length_take,List.length_drop] at s
  have:=A (off*d.sz+i) Q2
  simpa [List.getElem_take,List.getElem_drop] using this
 | po h hL ho =>
  rename_i j off g m cap q
  have cj:j=k:=by simpa [fm] using hu
  subst cj
  simp [conv] at h2
 | map=>simp [fm] at hu
theorem dA (hk:S.rows k=some d) (hkl:k≠bY:=by decide) (hko:Nat.ble opened k=false:=by rfl):∀ a w,Rel X S a w->Rel X (freeze S k d) a w:=fun a w ⟨L,r⟩=>⟨L,r.freeze hk hkl hko⟩
end
abbrev nr:Nat->Option Row:=fun _=>none
abbrev nl:lE:=fun _=>undef
def closed:PV->Bool
 | .cv c=>fN c
 | .ag cs=>cs.all fN
 | .pr _=>true
 | _=>false
theorem cO.shut {w:World} {F:Fo} {rows:Nat->Option Row} {L:lE} {v:Value} {p:PV} (h:cO w F rows L v p) (hcl:closed p=true):cO w F.shut nr nl v p:=by
 cases h with
 | cv h=>exact .cv (h.shut hcl)
 | ag hl h=>exact .ag hl (fun i hi=>(h i hi).shut (by rw [closed,List.all_eq_true] at hcl;exact hcl _ (List.getElem_mem hi)))
 | pr vs hs hF hc hd=>exact .pr vs hs hF hc hd
 | tup=>simp [closed] at hcl
 | own=>simp [closed] at hcl
 | win=>simp [closed] at hcl
 | po=>simp [closed] at hcl
 | map=>simp [closed] at hcl
def Fn (P:Program) (f:FuncId) (args:List PV) (p:PV):Prop:=∀ (F:Nat->Prop) (w:World) (vs:Array Value),(∀ b,F b->b<w.heap.size)->vs.size=args.length->(∀ i (h:i<args.length),cO w (.of F) nr nl (vs.getD i undef) args[i]) ->
 Calls P f vs w fun e w'=>∃ v,e = .returned v/\Below w.heap.size w w'/\cO w' (.of fun b=>F b∨(w.heap.size<=b/\b<w'.heap.size)) nr nl v p
section
variable {P:Program} {X:Ctx} {S:St} {o:Oper} {L:lE} {a:Act} {w w':World}
theorem cL.wide (r:cL X S L a w) (hb:Below w.heap.size w w'):cL X S L a w' :=
 r.grow hb rfl (fun k d h=>⟨h,rfl⟩) (fun k d h h'=>by rw [h'] at h;cases h) (fun k k' d d' b h h' h0 h0' _ _=>by rw [h0] at h;cases h) (fun h=>h)
theorem iL (r:cL X S L a w) (hb:Below w.heap.size w w') (b:Nat) (h:Still X S.rows L w b∨(w.heap.size<=b/\b<w'.heap.size)):Still X S.rows L w' b:=by
 rcases h with h | ⟨h1,h2⟩
 ·exact jy (S':=S) (L':=L) r hb.size (fun _ _ _=>rfl) (fun k d b h h' _=>by rw [h'] at h;cases h) b h
 refine ⟨.inr ⟨Nat.le_trans r.below.size h1,h2⟩,?_⟩
 rintro ⟨k,d,h3,h4⟩
 have:=(r.mW h3 b h4).2
 omega
def aX (S:St):List Operand->Option (List PV)
 | []=>some []
 | x :: xs=>match ev S x,aX S xs with
  | some p,some ps=>some (p :: ps)
  | _,_=>none
theorem uZ (r:cL X S L a w):∀ (xs:List Operand) (ps:List PV),aX S xs=some ps->ps.all closed=true->xs.length=ps.length/\∀ i (h:i<ps.length) (h':i<xs.length),cO w (Still X S.rows L w).shut nr nl (a.eval xs[i]) ps[i]
 | [],ps,h,_=>by simp only [aX,Option.some.injEq] at h;subst h;exact ⟨rfl,fun i h=>by simp at h⟩
 | x :: xs,ps,h,hc=>by
  simp only [aX] at h
  split at h
  ·rename_i p ps' h1 h2
   cases h
   simp only [List.all_cons,Bool.and_eq_true] at hc
   obtain ⟨g1,g2⟩:=uZ r xs ps' h2 hc.2
   refine ⟨by simp [g1],fun i hi hi'=>?_⟩
   cases i with
   | zero=>exact (r.ev h1).shut hc.1
   | succ i=>exact g2 i (by simpa using hi) (by simpa using hi')
  cases h
theorem E3 {c:Call} {f:FuncId} {fn:Func} {args:List PV} {p:PV} {x:Operand} (ho:o.op = .call c) (hc:c.callee = .value x) (hx:x = .func f∨ev S x=some (.cv (.lit (.func (.func f) #[] #[])))) (hf:P.funcs[f]?=some fn) (hn:fn.name≠"runtime.NumGoroutine") (hb:fn.body≠none)
 (ha:aX S c.args.toList=some args) (hcl:args.all closed=true) (h:Fn P f args p) (hd:dg X o.dst):dR P X o S (put S o.dst p):=by
 intro a w ⟨L,r⟩
 obtain ⟨g1,g2⟩:=uZ r _ _ ha hcl
 have j:a.eval x = .func (.func f) #[] #[]:=by
  rcases hx with rfl | hx
  ·rfl
  exact (r.ev hx).lit
 have hr:(execOp a.eval o).run P w = .ok (.enter f (c.args.map a.eval)) w:=by
  simp [execOp,ho,resolve,hc,j,Deferred.ofValue,invoke,callFunc,hf,hn,hb]
 unfold Oper.wp
 rw [hr,Oper.upon_enter]
 refine (h (Still X S.rows L w).b w (c.args.map a.eval) (fun b hb=>Still.lt r.below hb) (by simpa using g1) (fun i hi=>?_)).mono ?_
 ·have g:i<c.args.size:=by
   have:c.args.size=args.length:=by simpa using g1
   omega
  have:=g2 i hi (by simpa using g)
  show cO w (Still X S.rows L w).shut nr nl ((c.args.map a.eval).getD i undef) args[i]
  simpa [Array.getD_eq_getD_getElem?,Array.getElem?_eq_getElem g] using this
 rintro e w' ⟨v,rfl,hb',hv⟩
 exact ⟨L,(r.wide hb').put hd (hv.mono ⟨fun b h=>iL r hb' b h,fun _ _ h=>h.elim,fun _ h=>h.elim⟩ (fun _ _=>rfl) (fun k d h=>by cases h))⟩
inductive kg (P:Program) (S:St):ResultVar->PV->Prop where
 | tmp {t:Tmp} {p:PV} (h:S.env t=some p):kg P S (.tmp t) p
 | cell {t:Tmp} {ty:TypeId} {ds:TypeDesc} {k off:Nat} {d:Row} {c:CV} (h:S.env t=some (.po k off)) (hu:P.underlying ty=some ds) (hds:(match ds with | .struct _ | .array _ _=>true | _=>false)=false) (hd:S.rows k=some d) (hc:d.data[off]?=some c):kg P S (.cell t ty) (.cv c)
 | agg {t:Tmp} {ty:TypeId} {fs:Array Field} {inf:TypeInfo} {k off:Nat} {d:Row} (h:S.env t=some (.po k off)) (hu:P.underlying ty=some (.struct fs)) (hi:P.info? ty=some inf) (hd:S.rows k=some d) (hl:off+inf.size<=d.data.length):kg P S (.cell t ty) (.ag ((d.data.drop off).take inf.size))
def oB (tmps:Array Value):ResultVar->Sem Value
 | .tmp t=>pure (tmps.getD t undef)
 | .cell a t=>do loadVar t (<- asAddr (tmps.getD a undef))
theorem kg.run (r:cL X S L a w) {q:ResultVar} {p:PV} (h:kg P S q p):∃ v,(oB a.tmps q).run P w = .ok v w/\cO w (Still X S.rows L w) S.rows L v p:=by
 cases h with
 | tmp h=>exact ⟨_,rfl,(r.env _ _ h).2⟩
 | @cell t ty ds k off d c h hu hds hd hc =>
  have hv:=(r.env _ _ h).2
  obtain ⟨hb,rfl⟩:=List.getElem?_eq_some_iff.1 hc
  generalize he:a.tmps.getD t undef=v at hv
  cases hv with
  | @po _ _ g m cap r' h hL _ =>
   obtain ⟨xs,h1,h2⟩:=r.oI hd hL
   obtain ⟨e,e2⟩:=h2 off hb
   refine ⟨xs.getD off undef,?_,.cv e2⟩
   cases ds<;>simp at hds<;>simp [oB,he,asAddr,loadVar,isAgg,run_underlying hu,load,Sem.run,e]
 | @agg t ty fs inf k off d h hu hi hd hl =>
  have hv:=(r.env _ _ h).2
  generalize he:a.tmps.getD t undef=v at hv
  cases hv with
  | @po _ _ g m cap r' h hL _ =>
   obtain ⟨xs,h1,h2⟩:=r.oI hd hL
   refine ⟨.agg ((List.range inf.size).map fun j=>xs.getD (off+j) undef).toArray,?_,.ag (by simp;omega) (fun i hj=>?_)⟩
   ·have e:=run_loadCells (P:=P) (w:=w) ⟨g,off,none⟩ inf.size (fun j=>xs.getD (off+j) undef) (fun j hj=>by rw [add_plain];exact (h2 (off+j) Q2).1)
    simp [oB,he,asAddr,loadVar,isAgg,run_underlying hu,sizeOf,typeInfo,hi,e]
   simp only [List.length_take,List.length_drop] at hj
   have b:i<inf.size:=Q2
   have:=(h2 (off+i) Q2).2
   simpa [Array.getD_eq_getD_getElem?,b,List.getElem_take,List.getElem_drop] using this
inductive gG (P:Program) (S:St):List ResultVar->PV->Prop where
 | zero:gG P S [] (.tup [])
 | one {r:ResultVar} {p:PV} (h:kg P S r p) (hc:closed p=true):gG P S [r] p
 | two {r s:ResultVar} {p q:PV} (h:kg P S r p) (h':kg P S s q) (hc:closed p=true) (hc':closed q=true):gG P S [r,s] (.tup [p,q])
 | three {r s t:ResultVar} {p q u:PV} (h:kg P S r p) (h':kg P S s q) (h'':kg P S t u) (hc:closed p=true) (hc':closed q=true) (hc'':closed u=true):gG P S [r,s,t] (.tup [p,q,u])
theorem kA (fn:Func) (tmps:Array Value):results fn tmps=(do let vs <- fn.results.mapM (oB tmps);pure (if h:vs.size=1 then vs[0] else .tuple vs)):=by
 unfold results oB
 rfl
theorem gG.run (r:cL X S L a w) {fn:Func} {p:PV} (h:gG P S fn.results.toList p):∃ v,(results fn a.tmps).run P w = .ok v w/\cO w (Still X S.rows L w).shut nr nl v p:=by
 rw [kA]
 generalize hq:fn.results.toList=l at h
 have hr:fn.results=l.toArray:=by rw [<- hq]
 rw [hr]
 cases h with
 | zero=>exact ⟨.tuple #[],Q3,.tup rfl (fun i hi=>by simp at hi)⟩
 | one h hc =>
  obtain ⟨v,h1,h2⟩:=h.run r
  exact ⟨v,by simp [h1],h2.shut hc⟩
 | two h h' hc hc' =>
  obtain ⟨v,h1,h2⟩:=h.run r
  obtain ⟨v',b,h2'⟩:=h'.run r
  refine ⟨.tuple #[v,v'],by simp [h1,b],.tup rfl (fun i hi=>?_)⟩
  match i,hi with
  | 0,_=>exact h2.shut hc
  | 1,_=>exact h2'.shut hc'
 | three h h' h'' hc hc' hc'' =>
  obtain ⟨v,h1,h2⟩:=h.run r
  obtain ⟨v',b,h2'⟩:=h'.run r
  obtain ⟨d,c,h2''⟩:=h''.run r
  refine ⟨.tuple #[v,v',d],by simp [h1,b,c],.tup rfl (fun i hi=>?_)⟩
  match i,hi with
  | 0,_=>exact h2.shut hc
  | 1,_=>exact h2'.shut hc'
  | 2,_=>exact h2''.shut hc''
def sF (args:List PV):Nat->Option PV:=fun t=>args[t]?
theorem bU {f:FuncId} {fn:Func} {c:Code} {args:List PV} {p:PV} (hf:P.funcs[f]?=some fn) (hb:fn.body=some c) (hn:args.length<=fn.ntmps)
 (h:∀ X:Ctx,X.nt=fn.ntmps->nG P X c ⟨sF args,nr⟩ (fun e S=>(e = .ret∨e = .normal)/\gG P S fn.results.toList p)):Fn P f args p:=by
 intro F w vs hF hs ha
 let X:Ctx:=⟨w,fn.ntmps,F,hF,none,w.heap.size,Nat.le_refl _,fun _=>True⟩
 have st:∀ b,F b->Still X nr nl w b:=fun b h=>⟨.inl h,fun ⟨k,d,h,_⟩=>by cases h⟩
 have r0:cL X ⟨sF args,nr⟩ nl { tmps:=vs++Array.replicate (fn.ntmps-vs.size) undef,defers:=[] } w:=by
  refine ⟨by simp;show vs.size+(fn.ntmps-vs.size)=fn.ntmps;omega,rfl,World.grownBy.refl _ _,(fun k d h=>by cases h),(fun k k' d d' b h=>by cases h),(fun k d b h=>by cases h),(fun d h=>by cases h),fun t q hq=>?_⟩
  obtain ⟨ht,rfl⟩:=List.getElem?_eq_some_iff.1 hq
  refine ⟨by show t<fn.ntmps;omega,?_⟩
  have hv:=(ha t ht).mono (F':=Still X nr nl w) (w':=w) (rows':=nr) (L':=nl) ⟨st,fun _ _ h=>h.elim,fun _ h=>h.elim⟩ (fun _ _=>rfl) (fun k r h=>⟨h,rfl⟩)
  have e:(vs++Array.replicate (fn.ntmps-vs.size) undef).getD t undef=vs.getD t undef:=by
   simp only [Array.getD_eq_getD_getElem?]
   rw [Array.getElem?_append_left Q2]
  show cO w (Still X nr nl w) nr nl ((vs++Array.replicate (fn.ntmps-vs.size) undef).getD t undef) args[t]
  rw [e]
  exact hv
 refine calls_of_wp hf hb (Code.wp_mono ?_ (h X rfl _ _ ⟨nl,r0⟩))
 rintro e a w' ⟨S,⟨he,hr⟩,L,r⟩
 obtain ⟨v,h1,h2⟩:=hr.run r
 have g:a.defers=[]/\∃ v,(results fn a.tmps).run P w' = .ok v w'/\∃ u,Ending.returned v = .returned u/\Below w.heap.size w w'/\cO w' (.of fun b=>F b∨(w.heap.size<=b/\b<w'.heap.size)) nr nl u p :=
  ⟨r.defers,v,h1,v,rfl,⟨r.below.os,r.below.tape,r.below.output,r.below.size,fun k hk=>r.below.block k hk (by simp [X])⟩,h2.mono ⟨fun b h=>h.1,fun _ _ h=>h.elim,fun _ h=>h.elim⟩ (fun _ _=>rfl) (fun k r h=>by cases h)⟩
 rcases he with rfl | rfl
 ·exact g
 exact g
end
section
variable {P:Program} {X:Ctx} {S:St} {o:Oper} {L:lE} {a:Act} {w w':World} {k:Nat} {d d':Row}
theorem pA (h:w.grownBy w' none):Below w.heap.size w w':=⟨h.os,h.tape,h.output,h.size,fun k hk=>h.block k hk Q3⟩
theorem iJ {c:Call} {x y:Operand} {t:TypeId} (ho:o.op = .call c) (hc:c.callee = .builtin .append) (ha:c.args = #[x,y]) (ht:c.argTypes = #[t,t]) {v:Value} (h:(Builtin.append_ #[t,t] o.type #[a.eval x,a.eval y]).run P w = .ok v w'):(execOp a.eval o).run P w = .ok (.value v) w':=by
 simp [execOp,ho,resolve,hc,ha,ht,invoke,builtin,h]
theorem vm {c:Call} {x y:Operand} {t e:TypeId} {inf:TypeInfo} {z:Value} {m:Nat} {ncs:List CV} (ho:o.op = .call c) (hc:c.callee = .builtin .append) (ha:c.args = #[x,y]) (ht:c.argTypes = #[t,t]) (hu:P.underlying t=some (.slice e)) (hi:P.info? e=some inf) (hz:inf.zero=some z) (hzs:z.cells.size=inf.size) (hsz:0<inf.size)
 (hx:ev S x=some (.own k)) (hk:S.rows k=some d) (hde:d.e=e) (hds:d.sz=inf.size) (hy:ev S y=some (.cv (.row m ncs))) (hm:ncs.length=m*inf.size) (h1:ncs.all one=true) (h63:d.n+m<=maxLen) (hb:(d.n+m)*inf.bytes<=140737488355328) (hkl:k=bY->∀ v,X.pin v) (hko:Nat.ble opened k=false) (hd:dg X o.dst) :
 dR P X o S (put (setRow (kill S k) k ⟨e,inf.size,d.n+m,d.data++ncs⟩) o.dst (.own k)):=by
 intro a w ⟨L,r⟩
 obtain ⟨xs,q1,q2,q3⟩:=r.row k d hk
 have s:=r.ev hx
 have A:=r.ev hy
 generalize hvx:a.eval x=vx at s
 generalize hvy:a.eval y=vy at A
 rw [hde,hds] at q1
 have B:∀ (news:List Value),news.length=ncs.length->(∀ i (h:i<ncs.length),Den w (Still X S.rows L w).shut (news.getD i undef) ncs[i])->∀ v' w',(Builtin.append_ #[t,t] o.type #[vx,vy]).run P w = .ok v' w'->w'.ownsRow X.lo e inf.size v' (d.n+m) (xs++news)->w.grownBy w' (L k).ownBlock->(∀ b,v'.ownBlock=some b->(L k).ownBlock=some b∨w.heap.size<=b) ->
  o.wp P a w (fun a' w'=>Rel X (put (setRow (kill S k) k ⟨e,inf.size,d.n+m,d.data++ncs⟩) o.dst (.own k)) a' w') (fun _ _ _=>False):=by
  intro news hnl hnd v' w' hrun hown hg hv'
  refine cU (iJ ho hc ha ht (by rw [hvx,hvy];exact hrun)) ⟨_,(r.HA (d':=⟨e,inf.size,d.n+m,d.data++ncs⟩) hk (fun h=>.inr (hkl h)) hg hown (by simp [q2,hnl]) hv' (fun i hi=>?_)).put hd ?_⟩
  ·simp only [List.length_append] at hi
   by_cases c1:i<d.data.length
   ·have:=q3 i c1
    simp only [Fo.at,hko,cond_false] at this
    have c2:i<xs.length:=Q2
    simp only [List.getD_eq_getElem?_getD] at this ⊢
    rw [List.getElem?_append_left c2,List.getElem_append_left c1]
    exact this
   have:=hnd (i-d.data.length) Q2
   simp only [List.getD_eq_getElem?_getD] at this ⊢
   rw [List.getElem?_append_right Q2,List.getElem_append_right Q2,q2]
   exact this
  have e1:v'=bm L k v' k:=by simp [bm]
  conv=>arg 5;rw [e1]
  exact .own (r:=⟨e,inf.size,d.n+m,d.data++ncs⟩) (by simp [setRow])
 have own:vx=L k:=by cases s with | own h=>rfl
 have go:∀ (ad:Addr) (c':Nat) (news:List Value),vy = .slice (some ad) m c'->news.length=ncs.length->(∀ i (h:i<ncs.length),Den w (Still X S.rows L w).shut (news.getD i undef) ncs[i])->(∀ j u,news[j]?=some u->w.cell? (ad.add j)=some u) ->
  o.wp P a w (fun a' w'=>Rel X (put (setRow (kill S k) k ⟨e,inf.size,d.n+m,d.data++ncs⟩) o.dst (.own k)) a' w') (fun _ _ _=>False):=by
  intro ad c' news hvy' hnl hnd hcell
  have f:∀ u∈news,u.oneCell'=true:=by
   have:=lB (vs:=news.toArray) (cs:=ncs) (by simpa using hnl) (fun i hi=>by simpa [Array.getD_eq_getD_getElem?,List.getD_eq_getElem?_getD] using hnd i hi) h1
   simpa using this
  obtain ⟨v',w',g1,g2,g3,g4⟩:=run_append_own (P:=P) w X.lo t o.type e inf z inf.size inf.bytes hu hi hz rfl rfl hzs hsz (L k) d.n xs q1 ad m c' news (by rw [hnl,hm]) hcell f h63 hb (Nat.le_trans X.hlo r.below.size)
  refine B news hnl hnd v' w' (by rw [own,hvy'];exact g1) g2 g3 (fun b hb'=>?_)
  have F:=g2.lt b hb'
  rcases Nat.lt_or_ge b w.heap.size with hbl | hbl
  ·left
   rcases q1.2 with ⟨hn,h0⟩ | ⟨g,cap,cur,hL,p1,p2,p3,p4,p5,p6⟩
   ·have q1':w.ownsRow w.heap.size e inf.size (L k) d.n xs:=⟨q1.1,.inl ⟨hn,h0⟩⟩
    obtain ⟨v2,w2,k1,k2,k3,k4⟩:=run_append_own (P:=P) w w.heap.size t o.type e inf z inf.size inf.bytes hu hi hz rfl rfl hzs hsz (L k) d.n xs q1' ad m c' news (by rw [hnl,hm]) hcell f h63 hb (Nat.le_refl _)
    rw [g1] at k1
    cases k1
    have:=(k2.lt b hb').1
    omega
   have l:news.length=m*inf.size:=by rw [hnl,hm]
   by_cases hroom:d.n+m<=cap
   ·have C:d.n*inf.size+news.length<=cur.size:=by rw [l,p5,<- Nat.add_mul];exact Nat.mul_le_mul_right _ hroom
    have k1:=run_append_room (P:=P) w t o.type e inf hu hi g d.n cap cur p2 ad m c' news l hcell f hroom C
    rw [<- hL,g1] at k1
    cases k1
    rw [hL]
    exact hb'
   have p:∀ j u,xs[j]?=some u->w.cell? ((⟨g,0,none⟩:Addr).add j)=some u:=by
    have q1':=q1
    rw [hL] at q1'
    exact q1'.cells (g:=g) rfl
   have k1:=run_append_grow (P:=P) w t o.type e inf z hu hi hz ⟨g,0,none⟩ d.n cap xs q1.1 p ad m c' news l hcell Q2 (by simp only [maxLen] at h63;omega) (growslice_fits Q2 hb)
   rw [<- hL,g1] at k1
   cases k1
   simp only [Value.ownBlock,Option.some.injEq] at hb'
   omega
  exact .inr hbl
 cases A with
 | cv hden =>
  cases hden with
  | nil b c' hb' =>
   cases b with
   | none =>
    have:c'=0:=hb' rfl
    subst this
    have g1:=run_append_owned_none (P:=P) w X.lo t o.type e inf inf.size hu hi (L k) d.n xs q1
    refine B [] rfl (fun i h=>by simp at h) (L k) w (by rw [own];exact g1) (by simpa using q1) ⟨rfl,rfl,rfl,Nat.le_refl _,fun _ _ _=>rfl⟩ (fun b h=>.inl h)
   | some ad=>exact go ad c' [] rfl rfl (fun i h=>by simp at h) (fun j u h=>by simp at h)
  | row ad n c' cs vs hs hF hn hcc hdd =>
   refine go ad c' ((List.range ncs.length).map vs) rfl Q3 (fun i hi=>?_) (fun j u hj=>?_)
   ·simpa [List.getD_eq_getElem?_getD,hi] using hdd i hi
   simp only [List.getElem?_map,Option.map_eq_some_iff] at hj
   obtain ⟨i,D,q⟩:=hj
   obtain ⟨h3,rfl⟩:=List.getElem?_eq_some_iff.1 D
   simp at h3 q
   subst q
   exact hcc j h3
theorem xE {c:Call} {x y:Operand} {t e:TypeId} {inf:TypeInfo} {z:Value} {m:Nat} {ncs:List CV} (ho:o.op = .call c) (hc:c.callee = .builtin .append) (ha:c.args = #[x,y]) (ht:c.argTypes = #[t,t]) (hu:P.underlying t=some (.slice e)) (hi:P.info? e=some inf) (hz:inf.zero=some z) (hzs:z.cells.size=inf.size) (hsz:0<inf.size)
 (hx:ev S x=some (.own k)) (hk:S.rows k=some d) (hde:d.e=e) (hds:d.sz=inf.size) (hy:ev S y=some (.cv (.row m ncs))) (hm:ncs.length=m*inf.size) (h1:ncs.all one=true) (h63:d.n+m<=maxLen) (hb:(d.n+m)*inf.bytes<=140737488355328) (hkl:k≠bY) (hko:Nat.ble opened k=false) (hd:dg X o.dst) :
 dR P X o S (put (setRow (kill S k) k ⟨e,inf.size,d.n+m,d.data++ncs⟩) o.dst (.own k)):=vm ho hc ha ht hu hi hz hzs hsz hx hk hde hds hy hm h1 h63 hb (fun h=>absurd h hkl) hko hd
end
section
variable {P:Program} {X:Ctx} {S:St} {o:Oper} {L:lE} {a:Act} {w w':World} {k:Nat} {d d':Row}
theorem AE {c:Call} {y:Operand} {t e:TypeId} {inf:TypeInfo} {z:Value} {m:Nat} {ncs:List CV} (ho:o.op = .call c) (hc:c.callee = .builtin .append) (ha:c.args = #[.const (.slice none 0 0),y]) (ht:c.argTypes = #[t,t]) (hu:P.underlying t=some (.slice e)) (hi:P.info? e=some inf) (hz:inf.zero=some z) (hzs:z.cells.size=inf.size) (hsz:0<inf.size)
 (hy:ev S y=some (.cv (.row m ncs))) (hm:ncs.length=m*inf.size) (h1:ncs.all one=true) (h63:m<=maxLen) (hb:m*inf.bytes<=140737488355328) (hd:dg X o.dst) :
 dR P X o S (put S o.dst (.cv (.row m ncs))):=by
 intro a w ⟨L,r⟩
 have d:=r.ev hy
 generalize hvy:a.eval y=vy at d
 have hx:a.eval (.const (.slice none 0 0)) = .slice none 0 0:=rfl
 have q1:w.ownsRow w.heap.size e inf.size (.slice none 0 0) 0 []:=World.ownsRow_nil w _ _ _
 have go:∀ (ad:Addr) (c':Nat) (news:List Value),vy = .slice (some ad) m c'->news.length=ncs.length->(∀ i (h:i<ncs.length),Den w (Still X S.rows L w).shut (news.getD i undef) ncs[i])->(∀ j u,news[j]?=some u->w.cell? (ad.add j)=some u) ->
  o.wp P a w (fun a' w'=>Rel X (put S o.dst (.cv (.row m ncs))) a' w') (fun _ _ _=>False):=by
  intro ad c' news hvy' hnl hnd hcell
  have g:∀ u∈news,u.oneCell'=true:=by
   have:=lB (vs:=news.toArray) (cs:=ncs) (by simpa using hnl) (fun i hi=>by simpa [Array.getD_eq_getD_getElem?,List.getD_eq_getElem?_getD] using hnd i hi) h1
   simpa using this
  obtain ⟨v',w',g1,g2,g3,g4⟩:=run_append_own (P:=P) w w.heap.size t o.type e inf z inf.size inf.bytes hu hi hz rfl rfl hzs hsz (.slice none 0 0) 0 [] q1 ad m c' news (by rw [hnl,hm]) hcell g Q2 (by simpa using hb) (Nat.le_refl _)
  have hbw:=pA (w':=w') g3
  rw [Nat.zero_add,List.nil_append] at g2
  refine cU (iJ ho hc ha ht (by rw [hx,hvy,hvy'];exact g1)) ⟨L,(r.wide hbw).put hd (.cv ?_)⟩
  exact pq g2 hnl (fun i hi=>(hnd i hi).mono (Fo.ja fun b h=>iL r hbw b (.inl h)) (fun b h=>hbw.block b (Still.lt r.below h))) (fun b hb'=>iL r hbw b (.inr (g2.lt b hb')))
 cases d with
 | cv hden =>
  cases hden with
  | nil b c' hb' =>
   cases b with
   | none =>
    have:c'=0:=hb' rfl
    subst this
    have g1:=run_append_owned_none (P:=P) w w.heap.size t o.type e inf inf.size hu hi (.slice none 0 0) 0 [] q1
    exact cU (iJ ho hc ha ht (by rw [hx,hvy];exact g1)) ⟨L,r.put hd (.cv (.nil _ _ (fun _=>rfl)))⟩
   | some ad=>exact go ad c' [] rfl rfl (fun i h=>by simp at h) (fun j u h=>by simp at h)
  | row ad n c' cs vs hs hF hn hcc hdd =>
   refine go ad c' ((List.range ncs.length).map vs) rfl Q3 (fun i hi=>?_) (fun j u hj=>?_)
   ·simpa [List.getD_eq_getElem?_getD,hi] using hdd i hi
   simp only [List.getElem?_map,Option.map_eq_some_iff] at hj
   obtain ⟨i,k,f⟩:=hj
   obtain ⟨h3,rfl⟩:=List.getElem?_eq_some_iff.1 k
   simp at h3 f
   subst f
   exact hcc j h3
theorem E1 (k:Nat) (e:TypeId) (sz:Nat) (ho:o.op = .move (.const (.slice none 0 0))∨o.op = .assign (.const (.slice none 0 0))) (hk:S.rows k=none) (hkl:k≠bY) (hd:dg X o.dst):dR P X o S (put (setRow S k ⟨e,sz,0,[]⟩) o.dst (.own k)):=by
 intro a w ⟨L,r⟩
 have iE:∀ j q,S.rows j=some q->(setRow S k ⟨e,sz,0,[]⟩).rows j=some q/\bm L k (.slice none 0 0) j=L j:=by
  intro j q h
  have:j≠k:=fun e=>by subst e;rw [hk] at h;cases h
  exact ⟨by simp only [setRow];rw [if_neg this];exact h,by simp only [bm];rw [if_neg this]⟩
 have only:∀ j q,(setRow S k ⟨e,sz,0,[]⟩).rows j=some q->S.rows j=none->j=k/\q=⟨e,sz,0,[]⟩:=by
  intro j q h h0
  simp only [setRow] at h
  by_cases c:j=k
  ·rw [if_pos c] at h;cases h;exact ⟨c,rfl⟩
  rw [if_neg c,h0] at h;cases h
 have r2:cL X (setRow S k ⟨e,sz,0,[]⟩) (bm L k (.slice none 0 0)) a w:=by
  refine r.grow (Below.refl _ _) rfl iE (fun j q h h0=>?_) (fun j j' q q' b h h' h0 h0' _ _=>by rw [(only j q h h0).1,(only j' q' h' h0').1]) (fun h=>by simp only [setRow];rw [if_neg (Ne.symm hkl)];exact h)
  obtain ⟨rfl,rfl⟩:=only j q h h0
  refine ⟨⟨[],?_,rfl,fun i hi=>by simp at hi⟩,fun b hb=>by simp [bm,Value.ownBlock] at hb⟩
  simp only [bm,if_pos]
  exact World.ownsRow_nil _ _ _ _
 refine cU (v:=.slice none 0 0) (w':=w) ?_ ⟨_,r2.put hd ?_⟩
 ·rcases ho with ho | ho<;>simp [execOp,ho,Act.eval]
 have e1:(.slice none 0 0:Value)=bm L k (.slice none 0 0) k:=by simp [bm]
 conv=>arg 5;rw [e1]
 exact .own (r:=⟨e,sz,0,[]⟩) (by simp [setRow])
theorem oz (r:cL X S L a w) {t e:TypeId} {inf:TypeInfo} {z:Value} {n:Nat} {ps:Array (Nat×Operand)} {qs:List (Nat×List CV)} {cs:List CV} (ho:o.op = .buildSlice t n ps) (hu:P.underlying t=some (.slice e)) (hi:P.info? e=some inf) (hz:inf.zero=some z) (hsz:0<inf.size) (hlim:n*inf.size<=16777216)
 (hq:parts S ps.toList=some qs) (hf:gT (fun i=>some (i*inf.size,inf.size)) ((madeCells z.cells (n*inf.size)).toList.map gH) qs=some cs) :
 ∃ cells:Array Value,(execOp a.eval o).run P w = .ok (.value (.slice (some ⟨w.heap.size,0,none⟩) n n)) (w.alloc (.cells cells e))/\cells.size=cs.length/\cs.length=n*inf.size/\∀ i (h:i<cs.length),Den w (Still X S.rows L w) (cells.getD i undef) cs[i]:=by
 obtain ⟨g1,g2⟩:=pU r _ _ hq
 have z1:(madeCells z.cells (n*inf.size)).size=((madeCells z.cells (n*inf.size)).toList.map gH).length:=Q3
 have z2:∀ i (h:i<((madeCells z.cells (n*inf.size)).toList.map gH).length),Den w (Still X S.rows L w) ((madeCells z.cells (n*inf.size)).getD i undef) ((madeCells z.cells (n*inf.size)).toList.map gH)[i]:=by
  intro i h
  have h':i<(madeCells z.cells (n*inf.size)).size:=by simpa using h
  have e1:(madeCells z.cells (n*inf.size)).getD i undef=(madeCells z.cells (n*inf.size))[i]:=by rw [Array.getD_eq_getD_getElem?,Array.getElem?_eq_getElem h'];rfl
  rw [e1]
  simp only [List.getElem_map]
  exact jm _ _ _
 obtain ⟨cells,k1,k2,k3⟩:=wK (w:=w) (F:=Still X S.rows L w) (fun i=>some (i*inf.size,inf.size)) (ps.toList.map fun x=>(x.1,a.eval x.2)) qs _ _ cs (by simpa using g1) (fun j h h'=>by
  have:=g2 j h (by simpa using h')
  simpa using this) z1 z2 hf
 have f:cs.length=n*inf.size:=by
  have:∀ (pl:Nat->Option (Nat×Nat)) (qs:List (Nat×List CV)) (c c':List CV),gT pl c qs=some c'->c'.length=c.length:=by
   intro pl qs
   induction qs with
   | nil=>intro c c' h;simp only [gT,Option.some.injEq] at h;rw [h]
   | cons q qs ih =>
    obtain ⟨i,vs⟩:=q
    intro c c' h
    simp only [gT] at h
    split at h
    ·cases h
    split at h
    ·cases h
    rename_i hc
    have:=ih _ _ h
    rw [this]
    simp
    omega
  rw [this _ _ _ _ hf]
  simp [size_madeCells]
 refine ⟨cells,?_,k2,f,k3⟩
 have b:Instr.fill (fun i=>some (i*inf.size,inf.size)) (madeCells z.cells (n*inf.size)) (ps.map fun (x:Nat×Operand)=>(x.1,a.eval x.2)).toList=some cells:=by simpa using k1
 have hl:¬ (16777216<n*inf.size):=Q2
 by_cases h0:n*inf.size=0
 ·have hn:n=0:=by
   rcases Nat.eq_zero_or_pos n with c | c
   ·exact c
   exact absurd h0 (Nat.ne_of_gt (Nat.mul_pos c hsz))
  subst hn
  have e1:madeCells z.cells (0*inf.size) = #[]:=by simp [madeCells]
  rw [e1] at b
  simp [execOp,ho,Instr.buildSlice,run_underlying hu,sizeOf,typeInfo,hi,newRow,Array.range_zero'] at b ⊢
  simp [b]
 have d:Instr.fill (fun i=>some (i*inf.size,inf.size)) (Array.map (fun x=>z.cells[x % z.cells.size]!) (Array.range (n*inf.size))) (ps.map fun (x:Nat×Operand)=>(x.1,a.eval x.2)).toList=some cells:=b
 simp [execOp,ho,Instr.buildSlice,run_underlying hu,sizeOf,typeInfo,hi,newRow,zeroValue,hz,hl,h0] at d ⊢
 simp [d]
theorem HS {t e:TypeId} {inf:TypeInfo} {z:Value} {n:Nat} {ps:Array (Nat×Operand)} {qs:List (Nat×List CV)} {cs:List CV} (ho:o.op = .buildSlice t n ps) (hu:P.underlying t=some (.slice e)) (hi:P.info? e=some inf) (hz:inf.zero=some z) (hsz:0<inf.size) (hlim:n*inf.size<=16777216) (hq:parts S ps.toList=some qs)
 (hf:gT (fun i=>some (i*inf.size,inf.size)) ((madeCells z.cells (n*inf.size)).toList.map gH) qs=some cs) (hd:dg X o.dst) (hsh:cs.all fN=true):dR P X o S (put S o.dst (.cv (.row n cs))):=by
 intro a w ⟨L,r⟩
 obtain ⟨cells,h1,h2,h3,h4⟩:=oz r ho hu hi hz hsz hlim hq hf
 have hb:Below w.heap.size w (w.alloc (.cells cells e)):=⟨rfl,rfl,rfl,Q3,fun k hk=>Below.heap_alloc _ _ _ Q2⟩
 refine cU h1 ⟨L,(r.wide hb).put hd (.cv (.row _ _ _ _ (fun i=>cells.getD i undef) rfl (iL r hb _ (.inr ⟨Nat.le_refl _,Q3⟩)) (Nat.le_refl _) (fun i hi=>?_) (fun i hi=>?_)))⟩
 ·rw [add_plain,Nat.zero_add]
  have c:i<cells.size:=Q2
  rw [cell_of_row (w.alloc (.cells cells e)) w.heap.size i cells e (0,0) (heap_alloc_new w _)]
  simp [Array.getD_eq_getD_getElem?,Array.getElem?_eq_getElem c]
 exact ((h4 i hi).shut (by rw [List.all_eq_true] at hsh;exact hsh _ (List.getElem_mem hi))).mono (Fo.ja fun b h=>iL r hb b (.inl h)) (fun b h=>hb.block b (Still.lt r.below h))
theorem qC {t e:TypeId} {inf:TypeInfo} {z:Value} {n:Nat} {ps:Array (Nat×Operand)} {qs:List (Nat×List CV)} {cs:List CV} (k:Nat) (ho:o.op = .buildSlice t n ps) (hu:P.underlying t=some (.slice e)) (hi:P.info? e=some inf) (hz:inf.zero=some z) (hsz:0<inf.size) (hlim:n*inf.size<=16777216) (hm:n<=maxLen) (hq:parts S ps.toList=some qs)
 (hf:gT (fun i=>some (i*inf.size,inf.size)) ((madeCells z.cells (n*inf.size)).toList.map gH) qs=some cs) (hk:S.rows k=none) (hkl:k≠bY) (hd:dg X o.dst) (hsh:(Nat.ble opened k||cs.all fN)=true):dR P X o S (put (setRow S k ⟨e,inf.size,n,cs⟩) o.dst (.own k)):=by
 intro a w ⟨L,r⟩
 obtain ⟨cells,h1,h2,h3,h4⟩:=oz r ho hu hi hz hsz hlim hq hf
 refine cU h1 ⟨_,(r.newRow hk hkl cells e inf.size n n cs h3 Q2 (Nat.le_refl _) hm (fun i hi=>(h4 i hi).at (yY hsh hi))).put hd ?_⟩
 have e1:(.slice (some ⟨w.heap.size,0,none⟩) n n:Value)=bm L k (.slice (some ⟨w.heap.size,0,none⟩) n n) k:=by simp [bm]
 conv=>arg 5;rw [e1]
 exact .own (r:=⟨e,inf.size,n,cs⟩) (by simp [setRow])
end
section
variable {σ:Type} (δ:Nat->σ->σ)
def gJ (D:Nat->Bool):List Nat->σ->σ
 | [],s=>s
 | i :: l,s=>gJ D l (if D i=true then δ i s else s)
variable {δ}
theorem pO {D:Nat->Bool} {j:Nat}:∀ (l:List Nat) (s:σ),(∀ k∈l,D k=true->∀ s,δ k (δ j s)=δ j (δ k s))->gJ δ D l (δ j s)=δ j (gJ δ D l s)
 | [],s,_=>rfl
 | i :: l,s,h=>by
  simp only [gJ]
  by_cases c:D i=true
  ·rw [if_pos c,if_pos c,h i Q3 c]
   exact pO l _ (fun k hk=>h k (by simp [hk]))
  rw [if_neg c,if_neg c]
  exact pO l _ (fun k hk=>h k (by simp [hk]))
theorem vB {D:Nat->Bool} {Ok:σ->Prop}:∀ (l:List Nat) (s:σ),l.Pairwise (fun j k=>D j=false->D k=true->∀ s,δ k (δ j s)=δ j (δ k s))->(∀ j∈l,D j=false->∀ s,Ok (δ j s)->Ok s)->Ok (gJ δ (fun _=>true) l s)->Ok (gJ δ D l s)
 | [],s,_,_,h=>h
 | j :: l,s,hp,hs,h=>by
  rw [List.pairwise_cons] at hp
  simp only [gJ,if_true] at h ⊢
  have ih:=vB (D:=D) l (δ j s) hp.2 (fun k hk=>hs k (by simp [hk])) h
  by_cases c:D j=true
  ·rw [if_pos c];exact ih
  rw [if_neg c]
  have c':D j=false:=by simpa using c
  rw [pO l s (fun k hk hD=>hp.1 k hk c' hD)] at ih
  exact hs j Q3 c' _ ih
theorem xT {D:Nat->Bool} {Ok:σ->Prop}:∀ (l:List Nat) (s:σ),(∀ k∈l,D k=true->∀ s,Ok s->Ok (δ k s))->Ok s->Ok (gJ δ D l s)
 | [],s,_,h=>h
 | k :: l,s,hs,h=>by
  simp only [gJ]
  refine xT l _ (fun j hj=>hs j (by simp [hj])) ?_
  by_cases c:D k=true
  ·rw [if_pos c];exact hs k Q3 c _ h
  rw [if_neg c];exact h
theorem oA {D:Nat->Bool} (l m:List Nat) (s:σ):gJ δ D (l++m) s=gJ δ D m (gJ δ D l s):=by
 induction l generalizing s with
 | nil=>rfl
 | cons i l ih=>simp only [List.cons_append,gJ];exact ih _
theorem mP {D D':Nat->Bool}:∀ (l:List Nat) (s:σ),(∀ k∈l,D k=D' k)->gJ δ D l s=gJ δ D' l s
 | [],s,_=>rfl
 | k :: l,s,h=>by
  simp only [gJ]
  rw [h k Q3]
  exact mP l _ (fun j hj=>h j (by simp [hj]))
end
section
variable {σ:Type} {δ:Nat->σ->σ} {Ok:Nat->σ->Prop} {D:Nat->Bool} {n:Nat}
theorem Bq {n i:Nat} (h:i<n):List.range n=List.range i++i :: (List.range' (i+1) (n-i-1)):=by
 have e:n=i+(1+(n-i-1)):=Q2
 conv=>lhs;rw [e,List.range_add]
 congr 1
 rw [Nat.add_comm 1,List.range_succ_eq_map]
 simp only [List.map_cons,Nat.add_zero,List.map_map]
 congr 1
 rw [List.range'_eq_map_range]
 apply List.map_congr_left
 intro x _
 simp
 omega
theorem DC {i:Nat} (hi:i<n) (hD:D i=false) (kv:Nat->Nat->Bool) (s:σ) (hcomm:∀ j k,j<k->k<n->kv j k=false->∀ s,δ k (δ j s)=δ j (δ k s)) (hst:∀ j k,j<n->k<n->j≠k->kv (min j k) (max j k)=false->∀ s,(Ok j (δ k s)↔Ok j s))
 (hbi:∀ j,j<i->kv j i=true->D j=true) (hbj:∀ j k,j<k->k<n->D k=true->kv j k=true->D j=true) (ht:Ok i (gJ δ (fun _=>true) (List.range i) s)) :
 Ok i (gJ δ D (List.range n) s)/\δ i (gJ δ D (List.range n) s)=gJ δ (fun k=>if k=i then true else D k) (List.range n) s:=by
 have e:Ok i (gJ δ D (List.range i) s):=by
  refine vB _ _ ?_ ?_ ht
  ·refine List.Pairwise.imp_of_mem (R:=fun a b=>a<b) ?_ List.pairwise_lt_range
   intro j k hj hk hlt h0 h1
   have d:k<i:=by simpa using hk
   refine hcomm j k hlt Q2 ?_
   cases hc:kv j k with
   | false=>rfl
   | true =>
    have:=hbj j k hlt Q2 h1 hc
    rw [h0] at this;cases this
  intro j hj h0 s' h
  have f:j<i:=by simpa using hj
  refine (hst i j hi Q2 Q2 ?_ s').1 h
  rw [Nat.min_eq_right Q2,Nat.max_eq_left Q2]
  cases hc:kv j i with
  | false=>rfl
  | true =>
   have:=hbi j f hc
   rw [h0] at this;cases this
 have c:∀ k∈List.range' (i+1) (n-i-1),D k=true->kv i k=false/\i<k/\k<n:=by
  intro k hk h1
  have d:i<k/\k<n:=by simp at hk;omega
  refine ⟨?_,d⟩
  cases hc:kv i k with
  | false=>rfl
  | true =>
   have:=hbj i k d.1 d.2 h1 hc
   rw [hD] at this;cases this
 rw [Bq hi,oA,oA]
 simp only [gJ,hD,if_true,if_false,Bool.false_eq_true]
 have e1:gJ δ (fun k=>if k=i then true else D k) (List.range i) s=gJ δ D (List.range i) s:=mP _ _ (fun k hk=>by
  have:k≠i:=by simp at hk;omega
  rw [if_neg this])
 have e2:∀ t,gJ δ (fun k=>if k=i then true else D k) (List.range' (i+1) (n-i-1)) t=gJ δ D (List.range' (i+1) (n-i-1)) t:=fun t=>mP _ _ (fun k hk=>by
  have:k≠i:=by simp at hk;omega
  rw [if_neg this])
 rw [e1,e2]
 refine ⟨xT _ _ (fun k hk h1 s' h=>?_) e,(pO _ _ (fun k hk h1 s'=>?_)).symm⟩
 ·obtain ⟨c1,c2,c3⟩:=c k hk h1
  exact (hst i k hi c3 Q2 (by rw [Nat.min_eq_left Q2,Nat.max_eq_right Q2];exact c1) s').2 h
 obtain ⟨c1,c2,c3⟩:=c k hk h1
 exact hcomm i k c2 c3 c1 s'
end
theorem yB {i:Nat} {p q:Nat->Bool}:∀ (l:List Nat),i∈l->p i=false->q i=true->(∀ j,p j=true->q j=true)->l.countP p<l.countP q
 | [],h,_,_,_=>by simp at h
 | x :: l,h,h1,h2,h3=>by
  have hle:l.countP p<=l.countP q:=List.countP_mono_left (fun x _ hx=>h3 x hx)
  simp only [List.countP_cons]
  by_cases c:x=i
  ·subst c;simp only [h1,h2,if_true];simp;omega
  have hm:i∈l:=by
   rcases List.mem_cons.1 h with e | e
   ·exact absurd e.symm c
   exact e
  have:=yB l hm h1 h2 h3
  cases hp:p x with
  | false=>simp;split<;>omega
  | true=>simp [h3 x hp];exact this
theorem xS {σ:Type} {δ:Nat->σ->σ} {D:Nat->Bool}:∀ (l:List Nat) (s:σ),(∀ k∈l,D k=false)->gJ δ D l s=s
 | [],s,_=>rfl
 | k :: l,s,h=>by
  simp only [gJ,h k Q3]
  exact xS l s (fun j hj=>h j (by simp [hj]))
section
variable {P:Program} {X:Ctx}
theorem Gg {ops:Array Oper} {i:Nat} {a:Act} {w:World} {K K':Act->World->Prop} {Q:Exit->Act->World->Prop} (h:∀ a w,K a w->K' a w) (hh:wpOp P ops (fun _ _ _=>False) i K a w):wpOp P ops Q i K' a w:=by
 unfold wpOp at *
 split at hh
 ·exact h _ _ hh
 rename_i o ho
 split at hh
 ·rename_i hw
  rw [if_pos hw]
  rcases hh with hh | ⟨_,_,_,hf⟩
  ·exact .inl (Oper.pH h (fun _ _ _ h=>h.elim) hh)
  exact hf.elim
 rename_i hw
 rw [if_neg hw]
 exact h _ _ hh
theorem Gt {id:Nat} {ops:Array Oper} {S0:St} {Q:jM} (hm:P.follows .mixedOrders=true) (δ:Nat->St->St) (Ok:Nat->St->Prop) (kv:Nat->Nat->Bool) (before:Nat->List Nat)
 (hfw:∀ j o,ops[j]?=some o->∀ e∈o.after,Region.binds .any e=true->e.on<j)
 (hanc:∀ j o,ops[j]?=some o->∀ x∈before j,∃ e∈o.after,Region.binds .any e=true/\(e.on=x∨x∈before e.on))
 (hord:∀ j k,j<k->k<ops.size->kv j k=true->j∈before k)
 (hcomm:∀ j k,j<k->k<ops.size->kv j k=false->∀ s,δ k (δ j s)=δ j (δ k s))
 (hst:∀ j k,j<ops.size->k<ops.size->j≠k->kv (min j k) (max j k)=false->∀ s,(Ok j (δ k s)↔Ok j s))
 (hop:∀ i,i<ops.size->∀ S,Ok i S->∀ a w,Rel X S a w->wpOp P ops (fun _ _ _=>False) i (fun a' w'=>Rel X (δ i S) a' w') a w)
 (ht:∀ i,i<ops.size->Ok i (gJ δ (fun _=>true) (List.range i) S0))
 (hQ:Q .normal (gJ δ (fun _=>true) (List.range ops.size) S0)):nG P X (.region id ops true) S0 Q:=by
 have q:∀ (fuel:Nat) (listed:Array Bool) (a:Act) (w:World),listed.size=ops.size->(List.range ops.size).countP (fun i=>!listed.getD i true)<=fuel ->
  (∀ j o,ops[j]?=some o->listed.getD j false=true->∀ e∈o.after,Region.binds .any e=true->listed.getD e.on false=true) ->
  Rel X (gJ δ (fun k=>listed.getD k false) (List.range ops.size) S0) a w->wpAny P .any ops (Cl X Q) fuel listed a w:=by
  intro fuel
  have g:∀ (listed:Array Bool),listed.size=ops.size->∀ j,j<ops.size->listed.getD j true=listed.getD j false:=by
   intro listed hs j hj
   have:j<listed.size:=Q2
   simp [Array.getD_eq_getD_getElem?,Array.getElem?_eq_getElem this]
  have f:∀ (listed:Array Bool) (a:Act) (w:World),listed.size=ops.size->Region.ready .any ops listed=[]->Rel X (gJ δ (fun k=>listed.getD k false) (List.range ops.size) S0) a w->Cl X Q .normal a w:=by
   intro listed a w hs hr hrel
   have p:∀ j,j<ops.size->listed.getD j false=true:=by
    intro j
    induction j using Nat.strongRecOn with
    | _ j ih =>
     intro hj
     cases hc:listed.getD j false with
     | true=>rfl
     | false =>
      have:j∈Region.ready .any ops listed:=by
       rw [mem_ready]
       refine ⟨by rw [g listed hs j hj];exact hc,ops[j],Array.getElem?_eq_getElem hj,fun e he hb=>?_⟩
       have:=hfw j ops[j] (Array.getElem?_eq_getElem hj) e he hb
       exact ih e.on this Q2
      rw [hr] at this
      cases this
   have e1:gJ δ (fun k=>listed.getD k false) (List.range ops.size) S0=gJ δ (fun _=>true) (List.range ops.size) S0:=mP _ _ (fun k hk=>p k (by simpa using hk))
   rw [e1] at hrel
   exact ⟨_,hQ,hrel⟩
  induction fuel with
  | zero =>
   intro listed a w hs hc hdc hrel
   have hr:Region.ready .any ops listed=[]:=by
    cases hr:Region.ready .any ops listed with
    | nil=>rfl
    | cons i l =>
     have hi:i∈Region.ready .any ops listed:=by rw [hr];simp
     obtain ⟨h1,o,h2,_⟩:=mem_ready.1 hi
     have b:i<ops.size:=(Array.getElem?_eq_some_iff.1 h2).1
     have:0<(List.range ops.size).countP (fun i=>!listed.getD i true):=List.countP_pos_iff.2 ⟨i,by simpa using b,by simp [h1]⟩
     omega
   exact ⟨hr,f listed a w hs hr hrel⟩
  | succ fuel ih =>
   intro listed a w hs hc hdc hrel
   refine ⟨fun hr=>f listed a w hs hr hrel,fun i hi=>?_⟩
   obtain ⟨h1,o,h2,h3⟩:=mem_ready.1 hi
   have b:i<ops.size:=(Array.getElem?_eq_some_iff.1 h2).1
   have t:listed.getD i false=false:=by rw [<- g listed hs i b];exact h1
   have n:∀ k,k<ops.size->(listed.getD k false=true∨k=i)->∀ x∈before k,listed.getD x false=true:=by
    intro k
    induction k using Nat.strongRecOn with
    | _ k ihk =>
     intro hk hd x hx
     have d:=Array.getElem?_eq_getElem hk
     obtain ⟨e,he,hb,m⟩:=hanc k ops[k] d x hx
     have hl:listed.getD e.on false=true:=by
      rcases hd with hd | rfl
      ·exact hdc k ops[k] d hd e he hb
      rw [d] at h2;cases h2;exact h3 e he hb
     rcases m with rfl | m
     ·exact hl
     exact ihk e.on (hfw k ops[k] d e he hb) (by have:=hfw k ops[k] d e he hb;omega) (.inl hl) x m
   obtain ⟨g1,g2⟩:=DC (δ:=δ) (Ok:=Ok) (D:=fun k=>listed.getD k false) b t kv S0 hcomm hst
    (fun j hj hc=>n i b (.inr rfl) j (hord j i hj b hc)) (fun j k hj hk hD hc=>n k hk (.inl hD) j (hord j k hj hk hc)) (ht i b)
   refine Gg (fun a' w' hrel'=>?_) (hop i b _ g1 a w hrel)
   have h:∀ k,(listed.setIfInBounds i true).getD k false=if k=i then true else listed.getD k false:=by
    intro k
    by_cases c:k=i
    ·subst c
     rw [if_pos rfl]
     simp [Array.getD_eq_getD_getElem?,show k<listed.size by omega]
    rw [if_neg c]
    simp only [Array.getD_eq_getD_getElem?,Array.getElem?_setIfInBounds]
    rw [if_neg (fun e=>c e.symm)]
   refine ih _ a' w' (by simpa using hs) ?_ ?_ ?_
   ·have u:(List.range ops.size).countP (fun k=>!(listed.setIfInBounds i true).getD k true)<(List.range ops.size).countP (fun k=>!listed.getD k true):=by
     refine yB _ (i:=i) (by simpa using b) ?_ (by simp [h1]) (fun j hj=>?_)
     ·simp [Array.getD_eq_getD_getElem?,show i<listed.size by omega]
     by_cases c:j=i
     ·subst c
      simp [Array.getD_eq_getD_getElem?,show j<listed.size by omega] at hj
     rw [getD_set_ne true (Ne.symm c)] at hj
     exact hj
    omega
   ·intro j o' hj' hd e he hb
    rw [h] at hd ⊢
    by_cases c:j=i
    ·subst c
     rw [h2] at hj'
     cases hj'
     have:=h3 e he hb
     split<;>simp_all
    rw [if_neg c] at hd
    have:=hdc j o' hj' hd e he hb
    split<;>simp_all
   rw [g2] at hrel'
   have e1:(fun k=>(listed.setIfInBounds i true).getD k false)=(fun k=>if k=i then true else listed.getD k false):=funext h
   rw [e1]
   exact hrel'
 intro a w ⟨L,r⟩
 refine wp_region_any hm (q ops.size _ a _ Q3 ?_ ?_ ?_)
 ·exact Nat.le_trans List.countP_le_length Q3
 ·intro j o h1 h2
  have:j<ops.size:=(Array.getElem?_eq_some_iff.1 h1).1
  simp [Array.getD_eq_getD_getElem?,Array.getElem?_replicate,this] at h2
 rw [xS _ _ (fun k hk=>by
  have:k<ops.size:=by simpa using hk
  simp [Array.getD_eq_getD_getElem?,Array.getElem?_replicate,this])]
 exact ⟨L,r.wide ⟨rfl,rfl,rfl,Nat.le_refl _,fun _ _=>rfl⟩⟩
end
end Go.Proofs.YtfbgaddecbiimaaGreatDoor.V
end
section
set_option linter.unusedVariables false
set_option linter.unusedSimpArgs false
namespace Go.Proofs.YtfbgaddecbiimaaGreatDoorW.PrintWords
open Go.RowKit
def rd (xs:List Int) (i:Int):Int:=xs.getD i.toNat 0
def bt (s:ByteArray) (i:Int):Int:=if h:i.toNat<s.size then ((s[i.toNat]'h).toNat:Int) else 0
theorem bt_at (s:ByteArray) (i:Int):∀ h:i.toNat<s.size,((s[i.toNat]'h).toNat:Int)=bt s i:=fun h=>by simp [bt,h]
def GS (k:IntKind) (xs:List Int):List Value:=xs.map fun x=>.int k x
theorem uz {w W:World} (h:Below w.heap.size w W) (o:Obj):Below w.heap.size w (W.alloc o):=h.alloc h.size o
theorem xq {w w1:World} (h:Below w.heap.size w w1) {a:Addr} {v:Value} (hc:w.cell? a=some v):w1.cell? a=some v:=(h.cell (World.block_lt_of_cell? w a hc)).trans hc
theorem add_plain (g j:Nat):(⟨g,0,none⟩:Addr).add j=⟨g,j,none⟩:=by unfold Addr.add;split<;>simp_all
theorem IU {w:World} {base:Nat} {e:TypeId} {size n:Nat} {v:Value} {xs:List Value} (h:w.ownsRow base e size v n xs) (k:Nat) (hk:v.ownBlock=some k):base<=k:=by
 rcases h.2 with ⟨rfl,_⟩ | ⟨g,cap,cur,rfl,hb,_⟩
 ·simp [Value.ownBlock] at hk
 have:g=k:=by simpa [Value.ownBlock] using hk
 omega
theorem own_lt {w:World} {base:Nat} {e:TypeId} {size n:Nat} {v:Value} {xs:List Value} (h:w.ownsRow base e size v n xs) (k:Nat) (hk:v.ownBlock=some k):k<w.heap.size:=by
 rcases h.2 with ⟨rfl,_⟩ | ⟨g,cap,cur,rfl,hb,hh,_⟩
 ·simp [Value.ownBlock] at hk
 have:g=k:=by simpa [Value.ownBlock] using hk
 subst this
 exact (Array.getElem?_eq_some_iff.1 hh).1
theorem yj {w:World} {base n:Nat} {e:TypeId} {size:Nat} {v:Value} {xs:List Value} (h:w.ownsRow base e size v n xs):∃ A c,v = .slice A n c:=by
 rcases h.2 with ⟨rfl,rfl⟩ | ⟨g,cap,cur,rfl,_⟩
 ·exact ⟨none,0,rfl⟩
 exact ⟨_,cap,rfl⟩
theorem D3 {P:Program} {w:World} {base n:Nat} {e' src dst e:TypeId} {v:Value} {xs:List Int} (hs:P.underlying src=some (.slice e)) (he:P.underlying e=some (.int .u8)) (hd:P.underlying dst=some .string)
 (h:w.ownsRow base e' 1 v n (GS .u8 xs)):(convert src dst v).run P w = .ok (.string (strOfNums xs)) w:=by
 have hl:xs.length=n:=by have:=h.1;simp [GS] at this;exact this
 rcases h.2 with ⟨rfl,rfl⟩ | ⟨g,cap,cur,rfl,_⟩
 ·obtain rfl:xs=[]:=List.eq_nil_of_length_eq_zero hl
  exact run_convert_bytes_nil w src e hs he 0 0 dst hd
 refine run_convert_bytes_arg w src e hs he g 0 n cap xs hl (fun i hi=>?_) dst hd
 have hc:=h.cells (g:=g) rfl i (.int .u8 (xs.getD i 0)) (by simp [GS,List.getElem?_eq_getElem (show i<xs.length by omega),List.getD_eq_getElem?_getD])
 have ha:(⟨g,0,none⟩:Addr).add i=⟨g,0+i,none⟩:=by unfold Addr.add;split<;>simp_all
 rwa [ha] at hc
def xg {α:Type} (R:α->List Value->Prop) (size:Nat) (ps:List α) (cs:List Value):Prop :=
 cs.length=ps.length*size/\∀ j p,ps[j]?=some p->R p ((cs.drop (j*size)).take size)
theorem xg.qU {α:Type} {R R':α->List Value->Prop} {size:Nat} {ps:List α} {cs:List Value} (h:xg R size ps cs) (hR:∀ p c,R p c->R' p c):xg R' size ps cs:=⟨h.1,fun j p hj=>hR _ _ (h.2 j p hj)⟩
def kS {α:Type} (R:α->List Value->Prop) (size:Nat) (w:World) (A:Option Addr) (n:Nat) (ps:List α):Prop :=
 ps.length=n/\n<=9223372036854775807/\(0<n->∃ ad,A=some ad/\∀ j p,ps[j]?=some p->∃ c,c.length=size/\R p c/\∀ i u,c[i]?=some u->w.cell? (ad.add (j*size+i))=some u)
theorem kS.qU {α:Type} {R R':α->List Value->Prop} {size:Nat} {w w1:World} {A:Option Addr} {n:Nat} {ps:List α} (h:kS R size w A n ps) (hb:Below w.heap.size w w1) (hR:∀ p c,R p c->R' p c):kS R' size w1 A n ps :=
 ⟨h.1,h.2.1,fun hn=>by
  obtain ⟨ad,e,hc⟩:=h.2.2 hn
  refine ⟨ad,e,fun j p hj=>?_⟩
  obtain ⟨c,hs,hr,hcell⟩:=hc j p hj
  exact ⟨c,hs,hR _ _ hr,fun i u hu=>xq hb (hcell i u hu)⟩⟩
theorem xw {α:Type} {R:α->List Value->Prop} {w:World} {base n size:Nat} {e:TypeId} {v:Value} {ps:List α} {cs:List Value} (h:w.ownsRow base e size v n cs) (hR:xg R size ps cs) (hn:ps.length=n) :
 ∃ A c,v = .slice A n c/\kS R size w A n ps:=by
 rcases Nat.eq_zero_or_pos n with h0 | h0
 ·rcases h.2 with ⟨rfl,rfl⟩ | ⟨g,a,cur,rfl,_⟩
  ·exact ⟨none,0,rfl,hn,by omega,fun hp=>absurd hp (by omega)⟩
  exact ⟨_,a,rfl,hn,by omega,fun hp=>absurd hp (by omega)⟩
 obtain ⟨g,a,rfl,_,_⟩:=h.form h0
 have hm:n<=9223372036854775807:=by
  rcases h.2 with ⟨_,h1⟩ | ⟨g',cap',cur,he,_,_,h1,h2,_⟩
  ·omega
  simp only [maxLen] at h2
  omega
 refine ⟨_,a,rfl,hn,hm,fun _=>⟨_,rfl,fun j p hj=>⟨(cs.drop (j*size)).take size,?_,hR.2 j p hj,fun i u hu=>?_⟩⟩⟩
 ·have b:=(List.getElem?_eq_some_iff.1 hj).1
  have h1:j*size+size<=cs.length:=by rw [hR.1,<- Nat.succ_mul];exact Nat.mul_le_mul_right _ b
  rw [List.length_take,List.length_drop]
  omega
 refine h.cells (g:=g) rfl _ u ?_
 rw [List.getElem?_take] at hu
 split at hu
 ·rw [List.getElem?_drop] at hu
  exact hu
 cases hu
def Ev {α:Type} (g:Nat->Option α) (r:α):Prop:=∃ K,∀ k,K<=k->g k=some r
theorem Ev.rounds {α:Type} {g:Nat->Option α} {r:α} (h:Ev g r):∃ k,g k=some r:=by
 obtain ⟨K,h⟩:=h
 exact ⟨K,h K (Nat.le_refl _)⟩
theorem Ev.bind {α β:Type} {g:Nat->Option α} {f:Nat->α->Option β} {a:α} {r:β} (h:Ev g a) (k:Ev (fun n=>f n a) r):Ev (fun n=>(g n).bind (f n)) r:=by
 obtain ⟨K,h⟩:=h
 obtain ⟨K',k⟩:=k
 refine ⟨max K K',fun n hn=>?_⟩
 have h1:=h n (by omega)
 have h2:=k n (by omega)
 simp only [h1,Option.bind_some]
 exact h2
theorem Ev.step {α:Type} {g f:Nat->Option α} {r:α} (h:∀ k,g (k+1)=f k) (k:Ev f r):Ev g r:=by
 obtain ⟨K,k⟩:=k
 refine ⟨K+1,fun n hn=>?_⟩
 obtain ⟨m,rfl⟩:∃ m,n=m+1:=⟨n-1,by omega⟩
 rw [h]
 exact k m (by omega)
theorem Ev.congr {α:Type} {g f:Nat->Option α} {r:α} (h:∀ k,g k=f k) (k:Ev f r):Ev g r:=by
 obtain ⟨K,k⟩:=k
 exact ⟨K,fun n hn=>(h n).trans (k n hn)⟩
theorem D2 {w:World} {base base':Nat} {e:TypeId} {size n:Nat} {v:Value} {xs:List Value} (h:w.ownsRow base e size v n xs) (hb:base'<=base):w.ownsRow base' e size v n xs:=by
 obtain ⟨h1,h2⟩:=h
 refine ⟨h1,?_⟩
 rcases h2 with h2 | ⟨g,cap,cur,rfl,hg,r⟩
 ·exact .inl h2
 exact .inr ⟨g,cap,cur,rfl,Nat.le_trans hb hg,r⟩
theorem own_le {w:World} {base n m c size:Nat} {e:TypeId} {A:Option Addr} {xs:List Value} (h:w.ownsRow base e size (.slice A m c) n xs):m<=c:=by
 rcases h.2 with ⟨he,_⟩ | ⟨g,cap,cur,he,_,_,hnc,_⟩
 ·injection he with _ h2 h3
  omega
 injection he with _ h2 h3
 omega
def rm {α:Type} (R:α->List Value->Prop) (e:TypeId) (size:Nat) (w:World) (base:Nat) (v:Value) (ps:List α):Prop :=
 ∃ inner,w.ownsRow base e size v ps.length inner/\xg R size ps inner
section
variable {α:Type} {R R':α->List Value->Prop} {e:TypeId} {size:Nat} {w w1:World} {base:Nat} {v:Value} {ps:List α}
theorem rm.qU (h:rm R e size w base v ps) (hR:∀ p c,R p c->R' p c):rm R' e size w base v ps:=by
 obtain ⟨a,ho,hr⟩:=h
 exact ⟨a,ho,hr.qU hR⟩
theorem rm.reads (h:rm R e size w base v ps):∃ A c,v = .slice A ps.length c/\ps.length<=c/\kS R size w A ps.length ps:=by
 obtain ⟨b,ho,hr⟩:=h
 obtain ⟨A,c,rfl,a⟩:=xw ho hr rfl
 exact ⟨A,c,rfl,own_le ho,a⟩
end
structure Kd (α:Type) where
 sz:Nat
 E:List Nat
 K:World->α->List Value->Prop
 M:World->Nat->(Nat->Prop)->α->List Value->Prop
 K_len:∀ {w x cs},K w x cs->cs.length=sz
 K_one:∀ {w x cs},K w x cs->∀ u∈cs,u.oneCell'=true
 K_below:∀ {w w1:World} {x cs},Below w.heap.size w w1->K w x cs->K w1 x cs
 K_of_M:∀ {w base ok x cs},M w base ok x cs->K w x cs
 M_mono:∀ {w base ok ok' x cs},(∀ k,ok k->ok' k)->M w base ok x cs->M w base ok' x cs
 M_bound:∀ {w:World} {base ok x cs},M w base ok x cs->M w base (fun k=>ok k/\base<=k/\k<w.heap.size/\∃ q,q∈E/\∃ cells,w.heap[k]?=some (.cells cells q (0,0))) x cs
 M_move:∀ {w w1:World} {base ok x cs},(∀ k,ok k->w1.heap[k]?=w.heap[k]?)->M w base ok x cs->M w1 base ok x cs
 M_lower:∀ {w base base' ok x cs},base'<=base->M w base ok x cs->M w base' ok x cs
theorem IQ {w w1:World} {base:Nat} {e:TypeId} {size n:Nat} {v:Value} {xs:List Value} (h:w.ownsRow base e size v n xs) (hm:∀ k,v.ownBlock=some k->w1.heap[k]?=w.heap[k]?):w1.ownsRow base e size v n xs:=by
 obtain ⟨h1,h2⟩:=h
 refine ⟨h1,?_⟩
 rcases h2 with h2 | ⟨g,cap,cur,rfl,hg,hh,r⟩
 ·exact .inl h2
 exact .inr ⟨g,cap,cur,rfl,hg,(hm g (by simp [Value.ownBlock])).trans hh,r⟩
theorem GO {w:World} {base:Nat} {e:TypeId} {size n:Nat} {v:Value} {xs:List Value} (h:w.ownsRow base e size v n xs) (k:Nat) (hk:v.ownBlock=some k):∃ cells,w.heap[k]?=some (.cells cells e (0,0)):=by
 rcases h.2 with ⟨rfl,_⟩ | ⟨g,cap,cur,rfl,hg,hh,r⟩
 ·simp [Value.ownBlock] at hk
 have:g=k:=by simpa [Value.ownBlock] using hk
 subst this
 exact ⟨cur,hh⟩
namespace Kd
def C {α:Type} (d:Kd α) (w:World) (A:Option Addr) (n:Nat) (xs:List α):Prop:=kS (d.K w) d.sz w A n xs
def R {α:Type} (d:Kd α) (e:Nat) (w:World) (base:Nat) (ok:Nat->Prop) (v:Value) (xs:List α):Prop :=
 (∀ k,v.ownBlock=some k->ok k)/\rm (d.M w base (fun k=>ok k/\some k≠v.ownBlock)) e d.sz w base v xs
section
variable {α:Type} {d:Kd α} {e:Nat} {w w1:World} {base:Nat} {ok ok':Nat->Prop} {v:Value} {xs:List α}
theorem L3 {A:Option Addr} {n:Nat} (h:d.C w A n xs) (hb:Below w.heap.size w w1):d.C w1 A n xs:=kS.qU h hb (fun _ _ hp=>d.K_below hb hp)
theorem R_mono (h:d.R e w base ok v xs) (hok:∀ k,ok k->ok' k):d.R e w base ok' v xs:=⟨fun k hk=>hok k (h.1 k hk),h.2.qU (fun _ _ hp=>d.M_mono (fun k hk=>⟨hok k hk.1,hk.2⟩) hp)⟩
theorem LX (h:d.R e w base ok v xs):d.R e w base (fun k=>ok k/\base<=k/\k<w.heap.size/\∃ q,q∈e :: d.E/\∃ cells,w.heap[k]?=some (.cells cells q (0,0))) v xs:=by
 obtain ⟨h0,a,ho,hr⟩:=h
 refine ⟨fun k hk=>?_,a,ho,hr.qU (fun _ _ hp=>d.M_mono (fun k hk=>?_) (d.M_bound hp))⟩
 ·obtain ⟨cells,hc⟩:=GO ho k hk
  exact ⟨h0 k hk,IU ho k hk,own_lt ho k hk,e,List.mem_cons_self,cells,hc⟩
 obtain ⟨⟨h1,h2⟩,h3,h4,q,hq,hc⟩:=hk
 exact ⟨⟨h1,h3,h4,q,List.mem_cons_of_mem _ hq,hc⟩,h2⟩
theorem R_move (h:d.R e w base ok v xs) (hm:∀ k,ok k->w1.heap[k]?=w.heap[k]?):d.R e w1 base ok v xs:=by
 obtain ⟨h0,a,ho,hr⟩:=h
 exact ⟨h0,a,IQ ho (fun k hk=>hm k (h0 k hk)),hr.qU (fun _ _ hp=>d.M_move (fun k hk=>hm k hk.1) hp)⟩
theorem LW {base':Nat} (h:d.R e w base ok v xs) (hb:base'<=base):d.R e w base' ok v xs:=by
 obtain ⟨h0,a,ho,hr⟩:=h
 exact ⟨h0,a,D2 ho hb,hr.qU (fun _ _ hp=>d.M_lower hb hp)⟩
theorem LV (h:d.R e w base ok v xs):∃ A c,v = .slice A xs.length c/\xs.length<=c/\d.C w A xs.length xs:=by
 obtain ⟨A,c,he,hl,hr⟩:=rm.reads h.2
 exact ⟨A,c,he,hl,hr.qU (Below.refl _ _) (fun _ _ hp=>d.K_of_M hp)⟩
end
def scalar {α:Type} (enc:α->Value) (h1:∀ x,(enc x).oneCell'=true):Kd α where
 sz:=1
 E:=[]
 K:=fun _ x cs=>cs=[enc x]
 M:=fun _ _ _ x cs=>cs=[enc x]
 K_len:=fun h=>by rw [h];rfl
 K_one:=fun h u hu=>by
  rw [h] at hu
  rw [List.mem_singleton.1 hu]
  exact h1 _
 K_below:=fun _ h=>h
 K_of_M:=fun h=>h
 M_mono:=fun _ h=>h
 M_bound:=fun h=>h
 M_move:=fun _ h=>h
 M_lower:=fun _ h=>h
def int (k:IntKind):Kd Int:=scalar (Value.int k) (fun _=>rfl)
def bool:Kd Bool:=scalar Value.bool (fun _=>rfl)
def string:Kd ByteArray:=scalar Value.string (fun _=>rfl)
def slice {α:Type} (e:Nat) (d:Kd α):Kd (List α) where
 sz:=1
 E:=e :: d.E
 K:=fun w xs cs=>∃ A c,cs=[.slice A xs.length c]/\xs.length<=c/\d.C w A xs.length xs
 M:=fun w base ok xs cs=>∃ v,cs=[v]/\d.R e w base ok v xs
 K_len:=by
  rintro w x cs ⟨A,c,rfl,_⟩
  rfl
 K_one:=by
  rintro w x cs ⟨A,c,rfl,_⟩ u hu
  rw [List.mem_singleton.1 hu]
  rfl
 K_below:=by
  rintro w w1 x cs hb ⟨A,c,rfl,hl,hr⟩
  exact ⟨A,c,rfl,hl,L3 hr hb⟩
 K_of_M:=by
  rintro w base ok x cs ⟨v,rfl,h⟩
  obtain ⟨A,c,rfl,hl,hr⟩:=LV h
  exact ⟨A,c,rfl,hl,hr⟩
 M_mono:=by
  rintro w base ok ok' x cs hok ⟨v,rfl,h⟩
  exact ⟨v,rfl,R_mono h hok⟩
 M_bound:=by
  rintro w base ok x cs ⟨v,rfl,h⟩
  exact ⟨v,rfl,LX h⟩
 M_move:=by
  rintro w w1 base ok x cs hm ⟨v,rfl,h⟩
  exact ⟨v,rfl,R_move h hm⟩
 M_lower:=by
  rintro w base base' ok x cs hb ⟨v,rfl,h⟩
  exact ⟨v,rfl,LW h hb⟩
def pair {α β:Type} (a:Kd α) (b:Kd β):Kd (α×β) where
 sz:=a.sz+b.sz
 E:=a.E++b.E
 K:=fun w x cs=>∃ c0 c1,cs=c0++c1/\a.K w x.1 c0/\b.K w x.2 c1
 M:=fun w base ok x cs=>∃ c0 c1,cs=c0++c1/\a.M w base ok x.1 c0/\b.M w base ok x.2 c1
 K_len:=by
  rintro w x cs ⟨c0,c1,rfl,h0,h1⟩
  rw [List.length_append,a.K_len h0,b.K_len h1]
 K_one:=by
  rintro w x cs ⟨c0,c1,rfl,h0,h1⟩ u hu
  rcases List.mem_append.1 hu with hu | hu
  ·exact a.K_one h0 u hu
  exact b.K_one h1 u hu
 K_below:=by
  rintro w w1 x cs hb ⟨c0,c1,rfl,h0,h1⟩
  exact ⟨c0,c1,rfl,a.K_below hb h0,b.K_below hb h1⟩
 K_of_M:=by
  rintro w base ok x cs ⟨c0,c1,rfl,h0,h1⟩
  exact ⟨c0,c1,rfl,a.K_of_M h0,b.K_of_M h1⟩
 M_mono:=by
  rintro w base ok ok' x cs hok ⟨c0,c1,rfl,h0,h1⟩
  exact ⟨c0,c1,rfl,a.M_mono hok h0,b.M_mono hok h1⟩
 M_bound:=by
  rintro w base ok x cs ⟨c0,c1,rfl,h0,h1⟩
  refine ⟨c0,c1,rfl,a.M_mono ?_ (a.M_bound h0),b.M_mono ?_ (b.M_bound h1)⟩
  ·rintro k ⟨h2,h3,h4,q,hq,hc⟩
   exact ⟨h2,h3,h4,q,List.mem_append_left _ hq,hc⟩
  rintro k ⟨h2,h3,h4,q,hq,hc⟩
  exact ⟨h2,h3,h4,q,List.mem_append_right _ hq,hc⟩
 M_move:=by
  rintro w w1 base ok x cs hm ⟨c0,c1,rfl,h0,h1⟩
  exact ⟨c0,c1,rfl,a.M_move hm h0,b.M_move hm h1⟩
 M_lower:=by
  rintro w base base' ok x cs hb ⟨c0,c1,rfl,h0,h1⟩
  exact ⟨c0,c1,rfl,a.M_lower hb h0,b.M_lower hb h1⟩
def bot {α:Type} (sz:Nat) (E:List Nat):Kd α where
 sz:=sz
 E:=E
 K:=fun _ _ _=>False
 M:=fun _ _ _ _ _=>False
 K_len:=fun h=>h.elim
 K_one:=fun h=>h.elim
 K_below:=fun _ h=>h
 K_of_M:=fun h=>h
 M_mono:=fun _ h=>h
 M_bound:=fun h=>h
 M_move:=fun _ h=>h
 M_lower:=fun _ h=>h
def upto {α:Type} (F:Kd α->Kd α) (sz:Nat) (E:List Nat):Nat->Kd α
 | 0=>bot sz E
 | n+1=>F (upto F sz E n)
end Kd
namespace Kd
def Sub {α β:Type} (F:Kd α->Kd β) (E:List Nat):Prop:=∀ d:Kd α,(∀ q,q∈d.E->q∈E)->∀ q,q∈(F d).E->q∈E
end Kd
def QRow (w:World) (base:Nat) (e:TypeId) (size:Nat) (v:Value) (n:Nat) (xs:List Value):Prop :=
 xs.length=n*size /\
 ((n=0/\∃ A,v = .slice A 0 0/\∀ a,A=some a->base<=a.block/\∃ cur,w.heap[a.block]?=some (.cells cur e (0,0))) ∨
  ∃ g off cap cur,v = .slice (some ⟨g,off*size,none⟩) n cap/\base<=g/\w.heap[g]?=some (.cells cur e (0,0))/\n<=cap/\off+cap<=maxLen/\cur.size=(off+cap)*size/\(cur.toList.drop (off*size)).take (n*size)=xs)
namespace Kd
def Q {α:Type} (d:Kd α) (e:Nat) (w:World) (base:Nat) (ok:Nat->Prop) (v:Value) (xs:List α):Prop :=
 (∀ k,v.ownBlock=some k->ok k)/\∃ inner,QRow w base e d.sz v xs.length inner/\xg (d.M w base (fun k=>ok k/\some k≠v.ownBlock)) d.sz xs inner
end Kd
theorem KA {α:Type} (a seg:List α) (o:Nat) (h:o+seg.length<=a.length) (q:Nat) :
 (a.take o++seg++a.drop (o+seg.length))[q]?=if q<o then a[q]? else if q<o+seg.length then seg[q-o]? else a[q]?:=by
 have hl:(a.take o).length=o:=by rw [List.length_take];omega
 rw [List.append_assoc]
 by_cases h1:q<o
 ·rw [if_pos h1,List.getElem?_append_left (by omega),List.getElem?_take,if_pos h1]
 rw [if_neg h1,List.getElem?_append_right (by omega),hl]
 by_cases h2:q<o+seg.length
 ·rw [if_pos h2,List.getElem?_append_left (by omega)]
 rw [if_neg h2,List.getElem?_append_right (by omega),List.getElem?_drop]
 congr 1
 omega
theorem add_add (a:Addr) (i j:Nat):(a.add i).add j=a.add (i+j):=by
 unfold Addr.add
 by_cases h1:i=0<;>by_cases h2:j=0<;>simp [h1,h2,Nat.add_assoc]
end Go.Proofs.YtfbgaddecbiimaaGreatDoorW.PrintWords
end
section
namespace Go.Proofs.YtfbgaddecbiimaaGreatDoor.V
open Go.RowKit Go.Proofs.YtfbgaddecbiimaaGreatDoorW.PrintWords
def Info (P:Program) (t:TypeId) (z:Value) (sz by_:Nat):Prop:=(P.info? t).map (fun i=>(i.zero,i.size,i.bytes))=some (some z,sz,by_)
theorem Info.parts {P:Program} {t:TypeId} {z:Value} {sz by_:Nat} (h:Info P t z sz by_):∃ inf,P.info? t=some inf/\inf.zero=some z/\inf.size=sz/\inf.bytes=by_:=by
 unfold Info at h
 cases hi:P.info? t with
 | none=>simp [hi] at h
 | some inf=>simp [hi] at h;exact ⟨inf,rfl,h.1,h.2.1,h.2.2⟩
def ints (k:IntKind) (l:List Int):List CV:=l.map (fun n=>.lit (.int k n))
abbrev PV.ints (k:IntKind) (l:List Int):PV:=.cv (.row l.length (V.ints k l))
abbrev dh (e:TypeId) (k:IntKind) (l:List Int):Row:=⟨e,1,l.length,ints k l⟩
theorem Cj (k:IntKind) (l:List Int):(ints k l).all one=true:=by
 unfold ints
 rw [List.all_map]
 exact List.all_eq_true.2 (fun x _=>rfl)
theorem bW (k:IntKind) (l:List Int):(ints k l).length=l.length:=by simp [ints]
theorem ints_at (k:IntKind) (l:List Int) (i:Int) (h0:0<=i) (h1:i<l.length):((ints k l).drop (i.toNat*1)).take 1=[.lit (.int k (rd l i))]:=by
 have h:i.toNat<l.length:=Q2
 have e:l.drop i.toNat=l[i.toNat] :: l.drop (i.toNat+1):=List.drop_eq_getElem_cons h
 rw [Nat.mul_one,ints,<- List.map_drop,e]
 simp only [List.map_cons,List.take_succ_cons,List.take_zero]
 simp [rd,h]
theorem Jj (k:IntKind) (l:List Int) (i:Int) (h0:0<=i) (h1:i<l.length):(ints k l)[i.toNat*1]?=some (.lit (.int k (rd l i))):=by
 have h:i.toNat<l.length:=Q2
 simp [ints,rd,h]
theorem ints_set (k:IntKind) (l:List Int) (i:Int) (v:Int) (h0:0<=i) (h1:i<l.length):splice (ints k l) (i.toNat*1) [.lit (.int k v)]=ints k (l.set i.toNat v):=by
 have h:i.toNat<l.length:=Q2
 unfold splice ints
 rw [Nat.mul_one,<- List.map_take,<- List.map_drop,List.length_singleton,List.set_eq_take_append_cons_drop,if_pos h]
 simp
section
variable {P:Program} {X:Ctx} {S:St} {o:Oper} {k:Nat} {d:Row}
theorem i_len {c:Call} {x:Operand} {t e:TypeId} {q:IntKind} {l:List Int} (ho:o.op = .call c) (hc:c.callee = .builtin .len) (ha:c.args = #[x]) (ht:c.argTypes = #[t]) (hu:P.underlying t=some (.slice e)) (hx:ev S x=some (.ints q l)):Pure P X o S (.int .i64 l.length):=kD ho hc ha ht hu hx rfl
theorem yu {c:Call} {x:Operand} {t e e':TypeId} {q:IntKind} {l:List Int} (ho:o.op = .call c) (hc:c.callee = .builtin .len) (ha:c.args = #[x]) (ht:c.argTypes = #[t]) (hu:P.underlying t=some (.slice e)) (hx:ev S x=some (.own k)) (hk:S.rows k=some (dh e' q l)):Pure P X o S (.int .i64 l.length):=kD ho hc ha ht hu hx (by simp [qc,hk])
theorem i_at {t e:TypeId} {z:Value} {b:Nat} {x y:Operand} {q kk:IntKind} {l:List Int} {i:Int} (ho:o.op = .indexAddr t x y) (hu:P.underlying t=some (.slice e)) (hi:Info P e z 1 b) (hx:ev S x=some (.ints q l)) (hy:ev S y=some (.int kk i)) (h0:0<=i) (h1:i<l.length):Pure P X o S (.pr [.lit (.int q (rd l i))]):=by
 obtain ⟨a,g1,g2,g3,g4⟩:=hi.parts
 have:=Fl (X:=X) ho hu g1 hx hy h0 h1 (by rw [g3,bW,Nat.mul_one])
 rw [g3,ints_at q l i h0 h1] at this
 exact this
theorem Cp {t e e':TypeId} {z:Value} {b:Nat} {x y:Operand} {q kk:IntKind} {l:List Int} {i:Int} (ho:o.op = .indexAddr t x y) (hu:P.underlying t=some (.slice e)) (hi:Info P e z 1 b) (hx:ev S x=some (.own k)) (hk:S.rows k=some (dh e' q l)) (hy:ev S y=some (.int kk i)) (h0:0<=i) (h1:i<l.length):Pure P X o S (.po k (i.toNat*1)):=by
 obtain ⟨a,g1,g2,g3,g4⟩:=hi.parts
 have:=ue (X:=X) ho hu g1 hx hy hk h0 h1 g3.symm Q2
 rw [g3] at this
 exact this
theorem i_load {t:TypeId} {ds:TypeDesc} {x:Operand} {c:CV} (ho:o.op = .load t x) (hu:P.underlying t=some ds) (hd:(match ds with | .struct _ | .array _ _=>true | _=>false)=false) (hx:ev S x=some (.pr [c])):Pure P X o S (.cv c):=s9 ho hu hd hx
theorem wC {t e:TypeId} {ds:TypeDesc} {x:Operand} {q:IntKind} {l:List Int} {i:Int} (ho:o.op = .load t x) (hu:P.underlying t=some ds) (hd:(match ds with | .struct _ | .array _ _=>true | _=>false)=false) (hx:ev S x=some (.po k (i.toNat*1))) (hk:S.rows k=some (dh e q l)) (h0:0<=i) (h1:i<l.length):Pure P X o S (.int q (rd l i)) :=
 gw ho hu hd hx hk (Jj q l i h0 h1)
theorem zM {t e:TypeId} {z:Value} {b:Nat} {x y:Operand} {q:IntKind} {l:List Int} {i v:Int} (ho:o.op = .store t x y) (hi:Info P t z 1 b) (hx:ev S x=some (.po k (i.toNat*1))) (hk:S.rows k=some (dh e q l)) (hy:ev S y=some (.int q v)) (h0:0<=i) (h1:i<l.length):dR P X o S (drop (setRow S k (dh e q (l.set i.toNat v))) o.dst):=by
 obtain ⟨a,g1,g2,g3,g4⟩:=hi.parts
 have:=rz (X:=X) ho g1 hx hk hy (cs:=[.lit (.int q v)]) rfl rfl (by simp [g3]) (by rw [bW];simp;omega) (by simp [fN])
 rw [ints_set q l i v h0 h1] at this
 have e1:({ dh e q l with data:=ints q (l.set i.toNat v) }:Row)=dh e q (l.set i.toNat v):=by simp [dh]
 rw [e1] at this
 exact this
theorem uX {t e:TypeId} {z:Value} {b:Nat} {x:Operand} {lo hi:Option Operand} {q:IntKind} {l:List Int} {i j:Int} (ho:o.op = .slice t x lo hi none) (hu:P.underlying t=some (.slice e)) (hi':Info P e z 1 b) (hx:ev S x=some (.ints q l)) (hl:bound S 0 lo=some i) (hh:bound S l.length hi=some j) (h0:0<=i) (h1:i<=j) (h2:j<=l.length) :
 Pure P X o S (.ints q ((l.take j.toNat).drop i.toNat)):=by
 obtain ⟨a,g1,g2,g3,g4⟩:=hi'.parts
 have:=vG (X:=X) ho hu g1 hx (by rw [g3,bW,Nat.mul_one]) hl hh h0 h1 h2
 rw [g3,Nat.mul_one,Nat.mul_one] at this
 have e1:((ints q l).drop i.toNat).take (j.toNat-i.toNat)=ints q ((l.take j.toNat).drop i.toNat):=by simp [ints,List.drop_take]
 have e2:((l.take j.toNat).drop i.toNat).length=j.toNat-i.toNat:=by simp;omega
 rw [e1] at this
 unfold PV.ints
 rw [e2]
 exact this
theorem Cn {t e:TypeId} {z:Value} {b:Nat} {x:Operand} {hi:Option Operand} {q:IntKind} {l:List Int} {j:Int} (ho:o.op = .slice t x none hi none) (hu:P.underlying t=some (.slice e)) (hi':Info P e z 1 b) (hx:ev S x=some (.ints q l)) (hh:bound S l.length hi=some j) (h1:0<=j) (h2:j<=l.length) :
 Pure P X o S (.ints q (l.take j.toNat)):=uX (i:=0) ho hu hi' hx rfl hh (Int.le_refl _) h1 h2
theorem Cm {t e:TypeId} {z:Value} {b:Nat} {x:Operand} {lo:Option Operand} {q:IntKind} {l:List Int} {i:Int} (ho:o.op = .slice t x lo none none) (hu:P.underlying t=some (.slice e)) (hi':Info P e z 1 b) (hx:ev S x=some (.ints q l)) (hl:bound S 0 lo=some i) (h0:0<=i) (h1:i<=l.length) :
 Pure P X o S (.ints q (l.drop i.toNat)):=by
 have:=uX (X:=X) (j:=l.length) ho hu hi' hx hl rfl h0 h1 (Int.le_refl _)
 rwa [Int.toNat_natCast,List.take_length] at this
theorem Cq {c:Call} {x y:Operand} {t e:TypeId} {z:Value} {b:Nat} {q:IntKind} {l m:List Int} (ho:o.op = .call c) (hc:c.callee = .builtin .append) (ha:c.args = #[x,y]) (ht:c.argTypes = #[t,t]) (hu:P.underlying t=some (.slice e)) (hi:Info P e z 1 b) (hz:z.cells.size=1)
 (hx:ev S x=some (.own k)) (hk:S.rows k=some (dh e q l)) (hy:ev S y=some (.ints q m)) (h63:l.length+m.length<=maxLen) (hb:(l.length+m.length)*b<=140737488355328) (hkl:k≠bY) (hd:dg X o.dst) (hko:Nat.ble opened k=false:=by rfl) :
 dR P X o S (put (setRow (kill S k) k (dh e q (l++m))) o.dst (.own k)):=by
 obtain ⟨a,g1,g2,g3,g4⟩:=hi.parts
 have:=xE (X:=X) ho hc ha ht hu g1 g2 (by rw [hz,g3]) Q2 hx hk rfl g3.symm hy (by rw [g3,bW,Nat.mul_one]) (Cj q m) h63 (by rw [g4];exact hb) hkl hko hd
 rw [g3] at this
 have e1:ints q l++ints q m=ints q (l++m):=by simp [ints]
 have e2:l.length+m.length=(l++m).length:=Q3
 rw [e1] at this
 unfold dh at this ⊢
 rw [<- e2]
 exact this
theorem Lh {c:Call} {y:Operand} {t e:TypeId} {z:Value} {b:Nat} {q:IntKind} {m:List Int} (ho:o.op = .call c) (hc:c.callee = .builtin .append) (ha:c.args = #[.const (.slice none 0 0),y]) (ht:c.argTypes = #[t,t]) (hu:P.underlying t=some (.slice e)) (hi:Info P e z 1 b) (hz:z.cells.size=1) (hy:ev S y=some (.ints q m)) (h63:m.length<=maxLen) (hb:m.length*b<=140737488355328) (hd:dg X o.dst) :
 dR P X o S (put S o.dst (.ints q m)):=by
 obtain ⟨a,g1,g2,g3,g4⟩:=hi.parts
 exact AE (X:=X) ho hc ha ht hu g1 g2 (by rw [hz,g3]) Q2 hy (by rw [g3,bW,Nat.mul_one]) (Cj q m) h63 (by rw [g4];exact hb) hd
theorem i_make {t e:TypeId} {b:Nat} {x y:Operand} {kl kc q:IntKind} {n cap:Nat} (k:Nat) (ho:o.op = .makeSlice t x y) (hu:P.underlying t=some (.slice e)) (hi:Info P e (.int q 0) 1 b) (hx:ev S x=some (.int kl n)) (hy:ev S y=some (.int kc cap)) (hnc:n<=cap) (hb:b*cap<=281474976710656) (hm:cap<=maxLen) (hk:S.rows k=none) (hkl:k≠bY) (hd:dg X o.dst) :
 dR P X o S (put (setRow S k (dh e q (List.replicate n 0))) o.dst (.own k)):=by
 obtain ⟨a,g1,g2,g3,g4⟩:=hi.parts
 have:=Kp (X:=X) k ho hu g1 g2 rfl g3 hx hy hnc (by rw [g4];exact hb) hm hk hkl hd
 have e1:ints q (List.replicate n 0)=List.replicate n (gH (.int q 0)):=by simp [ints,gH]
 have e2:(List.replicate n (0:Int)).length=n:=Q3
 unfold dh
 rw [e1,e2]
 exact this
end
class UL (P:Program) (t:TypeId) (d:outParam TypeDesc):Prop where
 h:P.underlying t=some d
class IF (P:Program) (t:TypeId) (z:outParam Value) (sz b:outParam Nat):Prop where
 h:Info P t z sz b
theorem ib {X:Ctx} {n d:Nat} (hX:X.nt=n) (h:d<n):dg X (some d):=by show d<X.nt;rw [hX];exact h
theorem ak {α:Type} {c:Prop} [Decidable c] {x:Option α} {r:α} (h:(if c then x else none)=some r):c/\x=some r:=by
 by_cases hc:c
 ·rw [if_pos hc] at h;exact ⟨hc,h⟩
 rw [if_neg hc] at h;cases h
def look {α:Type}:List (Nat×α)->Nat->Option α
 | [],_=>none
 | (a,x) :: l,t=>if t=a then some x else look l t
theorem ma {α:Type}:∀ {l:List (Nat×α)} {t:Nat} {x:α},look l t=some x->(t,x)∈l
 | [],_,_,h=>by cases h
 | (a,y) :: l,t,x,h=>by
  simp only [look] at h
  split at h
  ·rename_i e;cases h;subst e;exact List.mem_cons_self
  exact List.mem_cons_of_mem _ (ma h)
def within (ys:List (Nat×Row)):PV->Bool
 | .own k=>(look ys k).isSome
 | .win k _ _=>(look ys k).isSome
 | .po k _=>(look ys k).isSome
 | .tup _=>false
 | .cv c=>fN c
 | .ag cs=>cs.all fN
 | .pr _=>true
 | .map _=>true
def DZ (ys:List (Nat×Row)):Bool:=ys.all fun y=>!Nat.ble opened y.1
theorem xK {j:Nat} {c:CV} (h:fN c=true):ik j c=false:=by cases c<;>first | rfl | cases h
def has (S:St):List (Nat×PV)->Prop
 | []=>True
 | x :: l=>S.env x.1=some x.2/\has S l
def Ll (S:St):List (Nat×Row)->Prop
 | []=>True
 | x :: l=>S.rows x.1=some x.2/\Ll S l
theorem FJ {S:St}:∀ {l:List (Nat×PV)} {x:Nat×PV},has S l->x∈l->S.env x.1=some x.2
 | y :: l,x,h,hx=>by
  rcases List.mem_cons.1 hx with rfl | hx
  ·exact h.1
  exact FJ h.2 hx
theorem Cr {S:St}:∀ {l:List (Nat×Row)} {x:Nat×Row},Ll S l->x∈l->S.rows x.1=some x.2
 | y :: l,x,h,hx=>by
  rcases List.mem_cons.1 hx with rfl | hx
  ·exact h.1
  exact Cr h.2 hx
theorem aZ {X:Ctx} {S:St} (xs:List (Nat×PV)) (ys:List (Nat×Row)) (hx:has S xs) (hy:Ll S ys) (hw:(xs.all (fun x=>within ys x.2)&&DZ ys)=true):∀ a w,Rel X S a w->Rel X ⟨look xs,look ys⟩ a w:=by
 intro a w h
 have hr:∀ k r,look ys k=some r->S.rows k=some r:=fun k r h=>Cr hy (ma h)
 rw [Bool.and_eq_true] at hw
 obtain ⟨hw,hp⟩:=hw
 refine h.less (S':=⟨look xs,look ys⟩) (fun t p h=>FJ hx (ma h)) hr ?_ (fun j r _=>.inr ⟨fun k r h1 h2=>?_,fun t p h1=>?_⟩)
 rotate_left
 ·rw [DZ,List.all_eq_true] at hp
  have:=hp _ (ma h1)
  rw [h2] at this
  cases this
 ·rw [List.all_eq_true] at hw
  have hk:=hw (t,p) (ma h1)
  cases p<;>simp only [within] at hk<;>simp only [refs]
  ·exact xK hk
  ·rw [List.any_eq_false]
   rw [List.all_eq_true] at hk
   exact fun c hc=>by rw [xK (hk c hc)];decide
  cases hk
 intro t p ht w F L v hv
 rw [List.all_eq_true] at hw
 have hk:within ys p=true:=hw (t,p) (ma ht)
 have iE:∀ k d,S.rows k=some d->(look ys k).isSome=true->look ys k=some d:=by
  intro k d h1 h2
  obtain ⟨e,he⟩:=Option.isSome_iff_exists.1 h2
  have:=hr k e he
  rw [h1] at this
  cases this
  exact he
 cases hv with
 | cv h=>exact .cv h
 | ag hl h=>exact .ag hl h
 | tup=>simp [within] at hk
 | own h=>exact .own (iE _ _ h hk)
 | win h hL ho hn hb ha=>exact .win (iE _ _ h hk) hL ho hn hb ha
 | pr vs hs hF hc hd=>exact .pr vs hs hF hc hd
 | po h hL ho=>exact .po (iE _ _ h hk) hL ho
 | map hF hn hb he=>exact .map hF hn hb he
end Go.Proofs.YtfbgaddecbiimaaGreatDoor.V
end
section
namespace Go.Proofs.YtfbgaddecbiimaaGreatDoorW.PrintLast
section
variable {P:Program} {ops:Array Oper} {Q:Exit->Act->World->Prop} {md:Region.Mode} {S:World->Prop} {ds:List Nat}
def Region.lI (md:Region.Mode) (ops:Array Oper) (i:Nat):Nat->Nat->Bool
 | 0,_=>false
 | fuel+1,d=>match ops[d]? with
  | some o=>o.after.any fun e=>Region.binds md e&&(e.on==i||Region.lI md ops i fuel e.on)
  | none=>false
def Region.Ad (md:Region.Mode) (ops:Array Oper) (listed:Array Bool):Bool :=
 (List.range ops.size).all fun j=>!listed.getD j false||match ops[j]? with
  | some o=>o.after.all fun e=>!Region.binds md e||listed.getD e.on false
  | none=>true
def Region.lastB (md:Region.Mode) (ops:Array Oper) (listed:Array Bool) (ds:List Nat) (i:Nat):Bool :=
 ds.all fun d=>listed.getD d true||Region.lI md ops i ops.size d
def gi (md:Region.Mode) (ops:Array Oper) (listed:Array Bool):Prop :=
 ∀ j oj,ops[j]?=some oj->listed.getD j false=true->∀ e∈oj.after,Region.binds md e=true->listed.getD e.on false=true
theorem Region.Ac {listed:Array Bool} (h:Region.Ad md ops listed=true):gi md ops listed:=by
 intro j oj hj hl e he hb
 have a:j<ops.size:=(Array.getElem?_eq_some_iff.1 hj).1
 have h1:=List.all_eq_true.1 h j (List.mem_range.2 a)
 simp only [hl,hj,Bool.not_true,Bool.false_or] at h1
 have h2:=Array.all_eq_true_iff_forall_mem.1 h1 e he
 simpa [hb] using h2
theorem gi.set {listed:Array Bool} {i:Nat} (h:gi md ops listed) (hi:i∈Region.ready md ops listed):gi md ops (listed.setIfInBounds i true):=by
 obtain ⟨_,oi,b,a⟩:=mem_ready.1 hi
 intro j oj hj hl e he hb
 by_cases hij:i=j
 ·subst hij
  have:oj=oi:=Option.some.inj (hj.symm.trans b)
  subst this
  exact getD_set_true (a e he hb)
 rw [getD_set_ne false hij] at hl
 exact getD_set_true (h j oj hj hl e he hb)
theorem Region.rE {listed:Array Bool} {i:Nat} (hc:gi md ops listed):∀ (fuel d:Nat),Region.lI md ops i fuel d=true->listed.getD d false=true->listed.getD i false=true
 | 0,_,h,_=>by simp [Region.lI] at h
 | fuel+1,d,h,hl=>by
  unfold Region.lI at h
  cases ho:ops[d]? with
  | none=>rw [ho] at h;simp at h
  | some o =>
   rw [ho] at h
   obtain ⟨e,he,h1⟩:=Array.any_eq_true'.1 h
   simp only [Bool.and_eq_true,Bool.or_eq_true,beq_iff_eq] at h1
   have hle:=hc d o ho hl e he h1.1
   rcases h1.2 with h2 | h2
   ·rw [<- h2];exact hle
   exact Region.rE hc fuel e.on h2 hle
theorem Region.uF {listed:Array Bool} {i d fuel:Nat} (hc:gi md ops listed) (hr:Region.lI md ops i fuel d=true) (hun:listed.getD i true=false):d ∉ Region.ready md ops listed:=by
 intro hd
 obtain ⟨_,o,ho,b⟩:=mem_ready.1 hd
 have hi:listed.getD i false=true:=by
  cases fuel with
  | zero=>simp [Region.lI] at hr
  | succ n =>
   unfold Region.lI at hr
   rw [ho] at hr
   obtain ⟨e,he,h1⟩:=Array.any_eq_true'.1 hr
   simp only [Bool.and_eq_true,Bool.or_eq_true,beq_iff_eq] at h1
   have a:=b e he h1.1
   rcases h1.2 with h2 | h2
   ·rw [<- h2];exact a
   exact Region.rE hc n e.on h2 a
 rcases Nat.lt_or_ge i listed.size with h' | h'
 ·simp [h'] at hun hi
  rw [hun] at hi
  cases hi
 simp [Array.getElem?_eq_none h'] at hun
def jv (P:Program) (md:Region.Mode) (ops:Array Oper) (Q:Exit->Act->World->Prop) (S:World->Prop) (ds:List Nat):Nat->Array Bool->Act->World->Prop
 | 0,listed,a,w=>Region.ready md ops listed=[]/\Q .normal a w
 | fuel+1,listed,a,w =>
  (Region.ready md ops listed=[]->Q .normal a w) /\
  ∀ i∈Region.ready md ops listed,wpOp P ops Q i (fun a' w'=>(i ∉ ds->S w->S w')/\jv P md ops Q S ds fuel (listed.setIfInBounds i true) a' w') a w
theorem uB {i:Nat} {oi:Oper} {v:Value} (hi:ops[i]?=some oi) (hsel:∀ (j:Nat) (o:Oper) cs b,ops[j]?=some o->o.op≠.select cs b)
 (hQ:∀ c a w,Q (.panic c) (a.put oi.dst v) w->Q (.panic c) a w) (n:Nat) :
 ∀ (fuel:Nat) (listed:Array Bool) (a:Act) (w:World),
  (∀ j oj,ops[j]?=some oj->j≠i->listed.getD j true=false->(∀ e∈oj.after,Region.binds md e=true->e.on≠i)->oi.apart ops oj=true) ->
  gi md ops listed->(∀ d∈ds,listed.getD d true=false->Region.lI md ops i n d=true) ->
  i∈Region.ready md ops listed->YieldsIf P ops S oi v a->S w ->
  jv P md ops Q S ds fuel (listed.setIfInBounds i true) (a.put oi.dst v) w->jv P md ops Q S ds (fuel+1) listed a w:=by
 intro fuel
 induction fuel with
 | zero =>
  intro listed a w _ _ _ hr hy hS H
  refine ⟨fun h=>(by rw [h] at hr;cases hr),fun j hj=>?_⟩
  by_cases hji:j=i
  ·subst hji;exact hy.wpOp hi hS ⟨fun _ h=>h,H⟩
  have:=ready_mono hj hji
  rw [H.1] at this
  cases this
 | succ fuel ih =>
  intro listed a w hfree hc hd hr hy hS H
  refine ⟨fun h=>(by rw [h] at hr;cases hr),fun j hj=>?_⟩
  by_cases hji:j=i
  ·subst hji;exact hy.wpOp hi hS ⟨fun _ h=>h,H⟩
  have h1:=H.2 j (ready_mono hj hji)
  obtain ⟨f,oj,m,p⟩:=mem_ready.1 hj
  have g:=(mem_ready.1 hr).1
  have q:∀ e∈oj.after,Region.binds md e=true->e.on≠i:=fun e he hb heq=>by
   have h1:=p e he hb
   rw [heq] at h1
   rcases Nat.lt_or_ge i listed.size with h' | h'
   ·simp [h'] at g h1;rw [g] at h1;cases h1
   simp [Array.getElem?_eq_none h'] at h1
  have r:j ∉ ds:=fun hm=>Region.uF hc (hd j hm f) g hj
  have h2:=wpOp_putIf m (hfree j oj m hji f q) (fun cs b=>hsel i oi cs b hi) (fun cs b=>hsel j oj cs b m) hQ hy h1
  have l:∀ k ok,ops[k]?=some ok->k≠i->(listed.setIfInBounds j true).getD k true=false ->
   (∀ e∈ok.after,Region.binds md e=true->e.on≠i)->oi.apart ops ok=true:=fun k ok hk hki hun hno=>by
   refine hfree k ok hk hki ?_ hno
   by_cases hjk:j=k
   ·subst hjk;exact f
   rw [getD_set_ne true hjk] at hun;exact hun
  have s:∀ d∈ds,(listed.setIfInBounds j true).getD d true=false->Region.lI md ops i n d=true:=fun d hm hun=>by
   refine hd d hm ?_
   by_cases hjk:j=d
   ·subst hjk;exact f
   rw [getD_set_ne true hjk] at hun;exact hun
  refine wpOp_mono (fun a' w' h3=>⟨h3.2.1,ih (listed.setIfInBounds j true) a' w' l (hc.set hj) s (ready_mono hr (Ne.symm hji)) h3.1 (h3.2.1 r hS) ?_⟩) h2
  rw [Array.setIfInBounds_comm _ _ hji]
  exact h3.2.2
theorem u9 {i:Nat} {oi:Oper} {v:Value} {fuel:Nat} {listed:Array Bool} {a:Act} {w:World} (hi:ops[i]?=some oi)
 (hs:Region.noSelect ops=true) (hf:Region.free md ops listed i=true) (hr:(Region.ready md ops listed).contains i=true)
 (hc:Region.Ad md ops listed=true) (hl:Region.lastB md ops listed ds i=true)
 (hQ:∀ c a w,Q (.panic c) (a.put oi.dst v) w->Q (.panic c) a w) (hy:YieldsIf P ops S oi v a) (hS:S w)
 (h:jv P md ops Q S ds fuel (listed.setIfInBounds i true) (a.put oi.dst v) w):jv P md ops Q S ds (fuel+1) listed a w :=
 uB hi (Region.noSelect_spec hs) hQ ops.size fuel listed a w (Region.free_spec hi hf) (Region.Ac hc)
  (fun d hm hun=>by have:=List.all_eq_true.1 hl d hm;rw [hun] at this;simpa using this) (by simpa using hr) hy hS h
end
section
variable {P:Program} {ops:Array Oper} {Q:Exit->Act->World->Prop} {md:Region.Mode} {S:World->Prop} {ds:List Nat}
def takeB (md:Region.Mode) (ops:Array Oper) (ds:List Nat) (l l':Array Bool) (i:Nat):Bool :=
 Region.noSelect ops&&Region.free md ops l i&&(Region.ready md ops l).contains i&&Region.Ad md ops l&&Region.lastB md ops l ds i&&(l.setIfInBounds i true==l')
theorem HY {i:Nat} {N:Option Tmp} {oi:Oper} {v:Value} {fuel:Nat} {l:Array Bool} {a:Act} {w:World} (l':Array Bool) (hi:ops[i]?=some oi) (hN:oi.dst=N) (hc:takeB md ops ds l l' i=true)
 (hQ:∀ c a w,Q (.panic c) (a.put oi.dst v) w->Q (.panic c) a w) (hy:YieldsIf P ops S oi v a) (hS:S w) {a':Act} (ha:a.put N v=a')
 (h:jv P md ops Q S ds fuel l' a' w):jv P md ops Q S ds (fuel+1) l a w:=by
 subst ha
 subst hN
 simp only [takeB,Bool.and_eq_true,beq_iff_eq] at hc
 obtain ⟨⟨⟨⟨⟨h1,h2⟩,h3⟩,h4⟩,h5⟩,h6⟩:=hc
 subst h6
 exact u9 hi h1 h2 h3 h4 h5 hQ hy hS h
end
end Go.Proofs.YtfbgaddecbiimaaGreatDoorW.PrintLast
end
section
namespace Go.Proofs.YtfbgaddecbiimaaGreatDoorW.PrintWords
open Go.RowKit
namespace Kd
def tag {α:Type} (f:Nat->Nat) (d:Kd α):Kd (α×Nat) where
 sz:=d.sz
 E:=d.E
 K:=fun w x cs=>d.K w x.1 cs
 M:=fun w base ok x cs=>d.M w base (fun k=>ok k/\f k=x.2) x.1 cs
 K_len:=fun h=>d.K_len h
 K_one:=fun h=>d.K_one h
 K_below:=fun hb h=>d.K_below hb h
 K_of_M:=fun h=>d.K_of_M h
 M_mono:=fun hok h=>d.M_mono (fun k hk=>⟨hok k hk.1,hk.2⟩) h
 M_bound:=fun h=>d.M_mono (fun _ hk=>⟨⟨hk.1.1,hk.2⟩,hk.1.2⟩) (d.M_bound h)
 M_move:=fun hm h=>d.M_move (fun k hk=>hm k hk.1) h
 M_lower:=fun hb h=>d.M_lower hb h
def raw (sz:Nat):Kd (List Value) where
 sz:=sz
 E:=[]
 K:=fun _ x cs=>cs=x/\cs.length=sz/\∀ u∈cs,u.oneCell'=true
 M:=fun _ _ _ x cs=>cs=x/\cs.length=sz/\∀ u∈cs,u.oneCell'=true
 K_len:=fun h=>h.2.1
 K_one:=fun h=>h.2.2
 K_below:=fun _ h=>h
 K_of_M:=fun h=>h
 M_mono:=fun _ h=>h
 M_bound:=fun h=>h
 M_move:=fun _ h=>h
 M_lower:=fun _ h=>h
def S {α:Type} (d:Kd α) (e:Nat) (w:World) (base:Nat) (ok:Nat->Prop) (v:Value) (xs:List α):Prop:=∃ f,(tag f d).R e w base ok v xs.zipIdx
def gap {α:Type} (f:Nat->Nat) (d:Kd α) (i:Nat) (c:List Value):Kd (α×Nat) where
 sz:=d.sz
 E:=d.E
 K:=fun w x cs=>(x.2=i->cs=c/\cs.length=d.sz/\∀ u∈cs,u.oneCell'=true)/\(x.2≠i->d.K w x.1 cs)
 M:=fun w base ok x cs=>(x.2=i->cs=c/\cs.length=d.sz/\∀ u∈cs,u.oneCell'=true)/\(x.2≠i->d.M w base (fun k=>ok k/\f k=x.2) x.1 cs)
 K_len:=fun {w x cs} h=>by
  by_cases hx:x.2=i
  ·exact (h.1 hx).2.1
  exact d.K_len (h.2 hx)
 K_one:=fun {w x cs} h=>by
  by_cases hx:x.2=i
  ·exact (h.1 hx).2.2
  exact d.K_one (h.2 hx)
 K_below:=fun hb h=>⟨h.1,fun hx=>d.K_below hb (h.2 hx)⟩
 K_of_M:=fun h=>⟨h.1,fun hx=>d.K_of_M (h.2 hx)⟩
 M_mono:=fun hok h=>⟨h.1,fun hx=>d.M_mono (fun k hk=>⟨hok k hk.1,hk.2⟩) (h.2 hx)⟩
 M_bound:=fun h=>⟨h.1,fun hx=>d.M_mono (fun _ hk=>⟨⟨hk.1.1,hk.2⟩,hk.1.2⟩) (d.M_bound (h.2 hx))⟩
 M_move:=fun hm h=>⟨h.1,fun hx=>d.M_move (fun k hk=>hm k hk.1) (h.2 hx)⟩
 M_lower:=fun hb h=>⟨h.1,fun hx=>d.M_lower hb (h.2 hx)⟩
def H {α:Type} (d:Kd α) (e:Nat) (w:World) (base:Nat) (ok:Nat->Prop) (v:Value) (xs:List α) (i:Int) (oki:Nat->Prop) (c:List Value):Prop :=
 (∀ k,oki k->ok k)/\∃ f,(gap f d i.toNat c).R e w base (fun k=>ok k/\¬ oki k) v xs.zipIdx
end Kd
end Go.Proofs.YtfbgaddecbiimaaGreatDoorW.PrintWords
end
section
namespace Go.Proofs.YtfbgaddecbiimaaGreatDoorW.PrintWords
open Go.RowKit
namespace Kd
theorem Iu {α:Type} {R:α->List Value->Prop} {size:Nat} {ps:List α} {cs:List Value} (h:xg R size ps cs) (hs0:0<size) (hR:∀ p c,R p c->∀ u∈c,u.oneCell'=true):∀ u∈cs,u.oneCell'=true:=by
 intro u hu
 obtain ⟨q,hq,rfl⟩:=List.mem_iff_getElem.1 hu
 have a:q / size<ps.length:=by
  rw [Nat.div_lt_iff_lt_mul hs0,<- h.1]
  exact hq
 refine hR _ _ (h.2 (q / size) _ (List.getElem?_eq_getElem a)) _ ?_
 rw [List.mem_iff_getElem?]
 refine ⟨q % size,?_⟩
 rw [List.getElem?_take,if_pos (Nat.mod_lt _ hs0),List.getElem?_drop,Nat.mul_comm,Nat.div_add_mod,List.getElem?_eq_getElem hq]
theorem It {α:Type} {R:α->List Value->Prop} {size:Nat} {ps:List α} {cs:List Value} (h:xg R size ps cs) {i:Nat} (hi:i<ps.length) {x:α} {seg:List Value} (hx:R x seg) (hl:seg.length=size):xg R size (ps.set i x) (cs.take (i*size)++seg++cs.drop (i*size+seg.length)):=by
 have b:i*size+size<=cs.length:=by rw [h.1,<- Nat.succ_mul];exact Nat.mul_le_mul_right _ hi
 refine ⟨?_,fun m p hm=>?_⟩
 ·rw [List.length_set,<- h.1]
  simp only [List.length_append,List.length_take,List.length_drop]
  omega
 have a:m<ps.length:=by
  have:=(List.getElem?_eq_some_iff.1 hm).1
  rwa [List.length_set] at this
 by_cases hmi:m=i
 ·subst hmi
  rw [List.getElem?_set_self a] at hm
  injection hm with hm
  subst hm
  rw [show ((cs.take (m*size)++seg++cs.drop (m*size+seg.length)).drop (m*size)).take size=seg by
   rw [List.append_assoc,List.drop_left' (by rw [List.length_take];omega),List.take_left' hl]]
  exact hx
 rw [List.getElem?_set_ne (Ne.symm hmi)] at hm
 have c:m*size+size<=cs.length:=by rw [h.1,<- Nat.succ_mul];exact Nat.mul_le_mul_right _ a
 rw [show ((cs.take (i*size)++seg++cs.drop (i*size+seg.length)).drop (m*size)).take size=(cs.drop (m*size)).take size from by
  apply List.ext_getElem?
  intro q
  rw [List.getElem?_take,List.getElem?_take,List.getElem?_drop,List.getElem?_drop,KA cs seg _ (by omega)]
  by_cases hq:q<size
  ·rw [if_pos hq,if_pos hq]
   rcases Nat.lt_or_gt_of_ne hmi with hlt | hgt
   ·have:m*size+size<=i*size:=by rw [<- Nat.succ_mul];exact Nat.mul_le_mul_right _ hlt
    rw [if_pos (by omega)]
   have:i*size+size<=m*size:=by rw [<- Nat.succ_mul];exact Nat.mul_le_mul_right _ hgt
   rw [if_neg (by omega),if_neg (by omega)]
  rw [if_neg hq,if_neg hq]]
 exact h.2 m p hm
def arr {α:Type} (n:Nat) (d:Kd α) (hs:0<d.sz):Kd (List α) where
 sz:=n*d.sz
 E:=d.E
 K:=fun w xs cs=>xs.length=n/\xg (d.K w) d.sz xs cs
 M:=fun w base ok xs cs=>xs.length=n/\xg (d.M w base ok) d.sz xs cs
 K_len:=fun h=>by rw [<- h.1];exact h.2.1
 K_one:=fun h=>Iu h.2 hs (fun _ _ hk=>d.K_one hk)
 K_below:=fun hb h=>⟨h.1,h.2.qU (fun _ _ hk=>d.K_below hb hk)⟩
 K_of_M:=fun h=>⟨h.1,h.2.qU (fun _ _ hk=>d.K_of_M hk)⟩
 M_mono:=fun hok h=>⟨h.1,h.2.qU (fun _ _ hk=>d.M_mono hok hk)⟩
 M_bound:=fun h=>⟨h.1,h.2.qU (fun _ _ hk=>d.M_bound hk)⟩
 M_move:=fun hm h=>⟨h.1,h.2.qU (fun _ _ hk=>d.M_move hm hk)⟩
 M_lower:=fun hb h=>⟨h.1,h.2.qU (fun _ _ hk=>d.M_lower hb hk)⟩
section
variable {α:Type} {n:Nat} {d:Kd α} {hs:0<d.sz} {w:World} {base:Nat} {ok:Nat->Prop} {xs:List α} {cs:List Value}
theorem Ga (h:(arr n d hs).M w base ok xs cs) (i:Int) (h0:0<=i) (h1:i<n) {x':α} {seg:List Value} (hx:d.M w base ok x' seg):(arr n d hs).M w base ok (xs.set i.toNat x') (cs.take (i.toNat*d.sz)++seg++cs.drop (i.toNat*d.sz+seg.length)) :=
 ⟨by rw [List.length_set];exact h.1,It h.2 (by have:=h.1;omega) hx (d.K_len (d.K_of_M hx))⟩
end
end Kd
end Go.Proofs.YtfbgaddecbiimaaGreatDoorW.PrintWords
end
section
namespace Go.Proofs.YtfbgaddecbiimaaGreatDoorW.PrintWords
open Go.RowKit
def sN (P:World->Prop) (W:World) (ok:Nat->Prop):Prop:=∀ W':World,(∀ k,ok k->k<W.heap.size->W'.heap[k]?=W.heap[k]?)->P W'
theorem Lk {W W1:World} {k:Nat} (h:W1.heap[k]?=W.heap[k]?) (hlt:k<W.heap.size):k<W1.heap.size:=by
 rw [Array.getElem?_eq_getElem hlt] at h
 exact (Array.getElem?_eq_some_iff.1 h).1
namespace sN
variable {P Q:World->Prop} {W W1:World} {ok ok':Nat->Prop}
theorem mono (h:sN P W ok) (hok:∀ k,ok k->ok' k):sN P W ok':=fun W' hW=>h W' (fun k hk hlt=>hW k (hok k hk) hlt)
theorem bound (h:sN P W ok):sN P W (fun k=>ok k/\k<W.heap.size):=fun W' hW=>h W' (fun k hk hlt=>hW k ⟨hk,hlt⟩ hlt)
theorem step (h:sN P W ok) (hm:∀ k,ok k->k<W.heap.size->W1.heap[k]?=W.heap[k]?):sN P W1 ok:=fun W' hW=>h W' (fun k hk hlt=>(hW k hk (Lk (hm k hk hlt) hlt)).trans (hm k hk hlt))
theorem imp (h:sN P W ok) (hi:∀ W',P W'->Q W'):sN Q W ok:=fun W' hW=>hi W' (h W' hW)
theorem qK (h:sN P W ok) (hb:Below W.heap.size W W1):sN P W1 (fun k=>ok k/\k<W.heap.size):=(h.bound).step (fun k _ hlt=>hb.block k hlt)
end sN
namespace Kd
def F {α:Type} (d:Kd α) (W:World) (ok:Nat->Prop) (A:Option Addr) (n:Nat) (xs:List α):Prop:=sN (fun W=>d.C W A n xs) W ok
def FK {α:Type} (d:Kd α) (W:World) (ok:Nat->Prop) (x:α) (c:List Value):Prop:=sN (fun W=>d.K W x c) W ok
end Kd
end Go.Proofs.YtfbgaddecbiimaaGreatDoorW.PrintWords
end
section
namespace Go.Proofs.YtfbgaddecbiimaaGreatDoorW.PrintWords
open Go.RowKit
namespace Kd
section
variable {α:Type} {d:Kd α} {e base n cc g:Nat} {ok ok' okp S:Nat->Prop} {w w1 W W1:World} {A:Option Addr} {u v v1:Value} {xs:List α} {x:α} {c:List Value}
def N {α:Type} (d:Kd α) (e:Nat) (w:World) (base:Nat) (ok:Nat->Prop) (v:Value) (xs:List α):Prop :=
 (∀ k,v.ownBlock=some k->ok k)/\∃ rows:List (List Value),rows.length=xs.length/\(raw d.sz).R e w base (fun k=>some k=v.ownBlock) v rows/\∀ (j:Nat) (x:α) (c:List Value),xs[j]?=some x->rows[j]?=some c->FK d w (fun k=>ok k/\some k≠v.ownBlock) x c
end
end Kd
end Go.Proofs.YtfbgaddecbiimaaGreatDoorW.PrintWords
end
section
namespace Go.Proofs.YtfbgaddecbiimaaGreatDoorW.PrintMore
open Go.RowKit Go.Proofs.YtfbgaddecbiimaaGreatDoorW.PrintWords
theorem wb (k k':IntKind) (x y:Int):Builtin.max2 (.int k x) (.int k' y)=pure (.int k (if x<y then y else x)):=by simp only [Builtin.max2,gt_iff_lt]
theorem vZ (k k':IntKind) (x y:Int):Builtin.min2 (.int k x) (.int k' y)=pure (.int k (if y<x then y else x)):=by simp only [Builtin.min2]
theorem zI (ats:Array TypeId) (ty:TypeId) (a b:Value):Builtin.max_ ats ty #[a,b]=(Builtin.max2 a b >>= fun s=>pure s):=by simp only [Builtin.max_,List.foldlM_cons,List.foldlM_nil]
theorem zH (ats:Array TypeId) (ty:TypeId) (a b:Value):Builtin.min_ ats ty #[a,b]=(Builtin.min2 a b >>= fun s=>pure s):=by simp only [Builtin.min_,List.foldlM_cons,List.foldlM_nil]
theorem yo (ats:Array TypeId) (ty:TypeId) (a b c:Value):Builtin.max_ ats ty #[a,b,c]=(Builtin.max2 a b >>= fun s=>Builtin.max2 s c >>= fun s=>pure s):=by simp only [Builtin.max_,List.foldlM_cons,List.foldlM_nil]
theorem yn (ats:Array TypeId) (ty:TypeId) (a b c:Value):Builtin.min_ ats ty #[a,b,c]=(Builtin.min2 a b >>= fun s=>Builtin.min2 s c >>= fun s=>pure s):=by simp only [Builtin.min_,List.foldlM_cons,List.foldlM_nil]
theorem B6 (ats:Array TypeId) (ty:TypeId) (a b c d:Value):Builtin.max_ ats ty #[a,b,c,d]=(Builtin.max2 a b >>= fun s=>Builtin.max2 s c >>= fun s=>Builtin.max2 s d >>= fun s=>pure s):=by simp only [Builtin.max_,List.foldlM_cons,List.foldlM_nil]
theorem B0 (ats:Array TypeId) (ty:TypeId) (a b c d:Value):Builtin.min_ ats ty #[a,b,c,d]=(Builtin.min2 a b >>= fun s=>Builtin.min2 s c >>= fun s=>Builtin.min2 s d >>= fun s=>pure s):=by simp only [Builtin.min_,List.foldlM_cons,List.foldlM_nil]
end Go.Proofs.YtfbgaddecbiimaaGreatDoorW.PrintMore
namespace Go.Proofs.YtfbgaddecbiimaaGreatDoorW.PrintWords
open Go.RowKit
def mx (a b:Int):Int:=if a<b then b else a
def mn (a b:Int):Int:=if b<a then b else a
def shl (k:IntKind) (x y:Int):Int:=k.wrap (x*2 ^ min y.toNat k.bits)
def shr (k:IntKind) (x y:Int):Int:=x / 2 ^ min y.toNat k.bits
end Go.Proofs.YtfbgaddecbiimaaGreatDoorW.PrintWords
namespace Go.Proofs.YtfbgaddecbiimaaGreatDoorW.PrintWords
open Go.RowKit
namespace Kd
def V {α:Type} (d:Kd α) (_e:Nat) (W:World) (_base:Nat) (ok:Nat->Prop) (v:Value) (xs:List α):Prop:=∃ A c,v = .slice A xs.length c/\xs.length<=c/\F d W ok A xs.length xs
end Kd
end Go.Proofs.YtfbgaddecbiimaaGreatDoorW.PrintWords
end
section
namespace Go.Proofs.YtfbgaddecbiimaaGreatDoor.V
open Go.RowKit Go.Proofs.YtfbgaddecbiimaaGreatDoorW.PrintWords Go.Proofs.YtfbgaddecbiimaaGreatDoorW.PrintMore
theorem zN (n:Int):IntKind.i64.wrap n=wrap64 n:=by unfold wrap64;exact IntKind.wrap_i64 n
class Pw (n:Nat) (m:outParam Int):Prop where
 h:(2:Int) ^ n=m
instance:Pw 0 1:=⟨by decide⟩
instance:Pw 1 2:=⟨by decide⟩
instance:Pw 2 4:=⟨by decide⟩
instance:Pw 3 8:=⟨by decide⟩
instance:Pw 4 16:=⟨by decide⟩
instance:Pw 5 32:=⟨by decide⟩
instance:Pw 8 256:=⟨by decide⟩
instance:Pw 16 65536:=⟨by decide⟩
instance:Pw 24 16777216:=⟨by decide⟩
instance:Pw 31 2147483648:=⟨by decide⟩
instance:Pw 32 4294967296:=⟨by decide⟩
instance:Pw 48 281474976710656:=⟨by decide⟩
instance:Pw 63 9223372036854775808:=⟨by decide⟩
section
variable {P:Program} {X:Ctx} {S:St} {o:Oper} {t t':TypeId} {x y:Operand} {a b:Int}
theorem a64 (ho:o.op = .binOp .add t x y t') (hx:ev S x=some (.int .i64 a)) (hy:ev S y=some (.int .i64 b)):Pure P X o S (.int .i64 (wrap64 (a+b))):=by
 have:=eN (P:=P) (X:=X) ho hx hy (.inl rfl) rfl
 rwa [zN] at this
theorem s64 (ho:o.op = .binOp .sub t x y t') (hx:ev S x=some (.int .i64 a)) (hy:ev S y=some (.int .i64 b)):Pure P X o S (.int .i64 (wrap64 (a-b))):=by
 have:=eN (P:=P) (X:=X) ho hx hy (.inl rfl) rfl
 rwa [zN] at this
theorem m64 (ho:o.op = .binOp .mul t x y t') (hx:ev S x=some (.int .i64 a)) (hy:ev S y=some (.int .i64 b)):Pure P X o S (.int .i64 (wrap64 (a*b))):=by
 have:=eN (P:=P) (X:=X) ho hx hy (.inl rfl) rfl
 rwa [zN] at this
theorem q64 (ho:o.op = .binOp .quo t x y t') (hx:ev S x=some (.int .i64 a)) (hy:ev S y=some (.int .i64 b)) (h0:¬ b=0):Pure P X o S (.int .i64 (wrap64 (Int.tdiv a b))):=by
 have:=eN (P:=P) (X:=X) ho hx hy (.inl rfl) (v:=.int .i64 (IntKind.i64.wrap (a.tdiv b))) (by simp [G4,h0])
 rwa [zN] at this
theorem rem_ {k:IntKind} (ho:o.op = .binOp .rem t x y t') (hx:ev S x=some (.int k a)) (hy:ev S y=some (.int k b)) (h0:¬ b=0):Pure P X o S (.int k (Int.tmod a b)) :=
 eN (P:=P) (X:=X) ho hx hy (.inl rfl) (by simp [G4,h0])
theorem quoU {k:IntKind} (ho:o.op = .binOp .quo t x y t') (hx:ev S x=some (.int k a)) (hy:ev S y=some (.int k b)) (h0:¬ b=0):Pure P X o S (.int k (k.wrap (Int.tdiv a b))) :=
 eN (P:=P) (X:=X) ho hx hy (.inl rfl) (by simp [G4,h0])
theorem a32 (ho:o.op = .binOp .add t x y t') (hx:ev S x=some (.int .u32 a)) (hy:ev S y=some (.int .u32 b)):Pure P X o S (.int .u32 ((a+b) % 4294967296)):=by
 have:=eN (P:=P) (X:=X) ho hx hy (.inl rfl) rfl
 rwa [IntKind.wrap_u32] at this
theorem s32 (ho:o.op = .binOp .sub t x y t') (hx:ev S x=some (.int .u32 a)) (hy:ev S y=some (.int .u32 b)):Pure P X o S (.int .u32 ((a-b) % 4294967296)):=by
 have:=eN (P:=P) (X:=X) ho hx hy (.inl rfl) rfl
 rwa [IntKind.wrap_u32] at this
theorem m32 (ho:o.op = .binOp .mul t x y t') (hx:ev S x=some (.int .u32 a)) (hy:ev S y=some (.int .u32 b)):Pure P X o S (.int .u32 ((a*b) % 4294967296)):=by
 have:=eN (P:=P) (X:=X) ho hx hy (.inl rfl) rfl
 rwa [IntKind.wrap_u32] at this
theorem c64 {s d:TypeId} {k:IntKind} {ds:TypeDesc} [UL P s ds] [UL P d (.int .i64)] (ho:o.op = .convert s d x) (hx:ev S x=some (.int k a)):Pure P X o S (.int .i64 (wrap64 a)):=by
 have:=jA (P:=P) (X:=X) ho (UL.h (t:=s)) (UL.h (t:=d)) hx
 rwa [zN] at this
theorem c32 {s d:TypeId} {k:IntKind} {ds:TypeDesc} [UL P s ds] [UL P d (.int .u32)] (ho:o.op = .convert s d x) (hx:ev S x=some (.int k a)):Pure P X o S (.int .u32 (a % 4294967296)):=by
 have:=jA (P:=P) (X:=X) ho (UL.h (t:=s)) (UL.h (t:=d)) hx
 rwa [IntKind.wrap_u32] at this
theorem cv_ {s d:TypeId} {k k':IntKind} {ds:TypeDesc} [UL P s ds] [UL P d (.int k')] (ho:o.op = .convert s d x) (hx:ev S x=some (.int k a)):Pure P X o S (.int k' (k'.wrap a)) :=
 jA (P:=P) (X:=X) ho (UL.h (t:=s)) (UL.h (t:=d)) hx
theorem n64 (ho:o.op = .unOp .neg t x) (hx:ev S x=some (.int .i64 a)):Pure P X o S (.int .i64 (wrap64 (-a))):=by
 have:=BA (P:=P) (X:=X) ho hx
 rwa [zN] at this
theorem c8 {s d:TypeId} {k:IntKind} {ds:TypeDesc} [UL P s ds] [UL P d (.int .u8)] (ho:o.op = .convert s d x) (hx:ev S x=some (.int k a)):Pure P X o S (.int .u8 (a % 256)):=by
 have:=jA (P:=P) (X:=X) ho (UL.h (t:=s)) (UL.h (t:=d)) hx
 rwa [IntKind.wrap_u8] at this
theorem Db (n:Int):0<=IntKind.u64.wrap n:=by rw [IntKind.wrap_u64];omega
theorem shlV {k k':IntKind} (ho:o.op = .binOp .shl t x y t') (hx:ev S x=some (.int k a)) (hy:ev S y=some (.int k' b)) (h0:0<=b):Pure P X o S (.int k (shl k a b)) :=
 eN (P:=P) (X:=X) ho hx hy (.inr (.inl rfl)) (by simp only [G4,if_neg (show ¬ b<0 by omega)];rfl)
theorem shrV {k k':IntKind} (ho:o.op = .binOp .shr t x y t') (hx:ev S x=some (.int k a)) (hy:ev S y=some (.int k' b)) (h0:0<=b):Pure P X o S (.int k (shr k a b)):=by
 refine eN (P:=P) (X:=X) ho hx hy (.inr (.inr rfl)) ?_
 have h1:(0:Int)<=2 ^ (min b.toNat k.bits):=Int.le_of_lt (Int.pow_pos (by decide))
 simp only [G4,if_neg (show ¬ b<0 by omega),Int.fdiv_eq_ediv_of_nonneg _ h1]
 rfl
theorem Co {s:ByteArray} {k:IntKind} {i:Int} [UL P t .string] (ho:o.op = .index t x y) (hx:ev S x=some (.str s)) (hy:ev S y=some (.int k i)) (h0:0<=i) (h1:i<(s.size:Int)):Pure P X o S (.int .u8 (bt s i)):=by
 have a:i.toNat<s.size:=Q2
 have:=Bx (P:=P) (X:=X) ho (UL.h (t:=t)) hx hy h0 a
 rw [bt_at] at this
 exact this
theorem shrC {k k':IntKind} {n:Nat} {m:Int} [hp:Pw n m] (ho:o.op = .binOp .shr t x y t') (hx:ev S x=some (.int k a)) (hy:ev S y=some (.int k' (OfNat.ofNat n))) (hn:n<=k.bits):Pure P X o S (.int k (a / m)):=by
 have e:(OfNat.ofNat n:Int)=(n:Int):=rfl
 rw [e] at hy
 refine eN (P:=P) (X:=X) ho hx hy (.inr (.inr rfl)) ?_
 have h0:¬ ((n:Int)<0):=Q2
 have h1:(0:Int)<=2 ^ n:=Int.le_of_lt (Int.pow_pos (by decide))
 simp only [G4,if_neg h0,Int.toNat_natCast,Nat.min_eq_left hn]
 rw [Int.fdiv_eq_ediv_of_nonneg _ h1,hp.h]
theorem shlC {k k':IntKind} {n:Nat} {m:Int} [hp:Pw n m] (ho:o.op = .binOp .shl t x y t') (hx:ev S x=some (.int k a)) (hy:ev S y=some (.int k' (OfNat.ofNat n))) (hn:n<=k.bits):Pure P X o S (.int k (k.wrap (a*m))):=by
 have e:(OfNat.ofNat n:Int)=(n:Int):=rfl
 rw [e] at hy
 refine eN (P:=P) (X:=X) ho hx hy (.inr (.inl rfl)) ?_
 have h0:¬ ((n:Int)<0):=Q2
 simp only [G4,if_neg h0,Int.toNat_natCast,Nat.min_eq_left hn]
 rw [hp.h]
theorem pickT {c:Operand} {b:Bool} {p:PV} (ho:o.op = .pick c x y) (hc:ev S c=some (.bool b)) (hb:b=true) (hx:ev S x=some p):Pure P X o S p:=pQ ho hc (fun _=>hx) (fun h=>by rw [hb] at h;cases h)
theorem pickF {c:Operand} {b:Bool} {p:PV} (ho:o.op = .pick c x y) (hc:ev S c=some (.bool b)) (hb:b=false) (hy:ev S y=some p):Pure P X o S p:=pQ ho hc (fun h=>by rw [hb] at h;cases h) (fun _=>hy)
end
section
variable {P:Program} {X:Ctx} {ops:Array Oper} {o:Oper} {l:List Oper} {S S':St} {Q:St->Prop}
theorem pux {p:PV} (h:Pure P X o S p:=by first
 | exact lZ (.inl rfl) rfl
 | exact lZ (.inr rfl) rfl
 | exact i_len rfl rfl rfl rfl UL.h rfl
 | exact yu rfl rfl rfl rfl UL.h rfl rfl
 | exact a64 rfl rfl rfl
 | exact s64 rfl rfl rfl
 | exact m64 rfl rfl rfl
 | exact q64 rfl rfl rfl (by first | assumption | decide | omega)
 | exact rem_ rfl rfl rfl (by first | assumption | decide | omega)
 | exact a32 rfl rfl rfl
 | exact s32 rfl rfl rfl
 | exact m32 rfl rfl rfl
 | exact shrC rfl rfl rfl (by decide)
 | exact shlC rfl rfl rfl (by decide)
 | exact shlV rfl rfl rfl (by first | assumption | exact Db _ | omega)
 | exact shrV rfl rfl rfl (by first | assumption | exact Db _ | omega)
 | exact quoU rfl rfl rfl (by first | assumption | decide | omega)
 | exact eN rfl rfl rfl (.inl rfl) rfl
 | exact c64 rfl rfl
 | exact c32 rfl rfl
 | exact c8 rfl rfl
 | exact cv_ rfl rfl
 | exact xY rfl rfl rfl rfl UL.h rfl
 | exact Co rfl rfl rfl (by first | assumption | omega) (by first | assumption | omega)
 | exact n64 rfl rfl
 | exact Bz rfl rfl
 | exact i_at rfl UL.h IF.h rfl rfl (by first | assumption | omega) (by first | assumption | omega)
 | exact Cp rfl UL.h IF.h rfl rfl rfl (by first | assumption | omega) (by first | assumption | omega)
 | exact i_load rfl UL.h rfl rfl
 | exact wC rfl UL.h rfl rfl rfl (by first | assumption | omega) (by first | assumption | omega)
 | exact Cn rfl UL.h IF.h rfl rfl (by first | assumption | omega) (by first | assumption | omega)
 | exact Cm rfl UL.h IF.h rfl rfl (by first | assumption | omega) (by first | assumption | omega)
 | exact uX rfl UL.h IF.h rfl rfl rfl (by first | assumption | omega) (by first | assumption | omega) (by first | assumption | omega)
 | exact pickT rfl rfl (by first | rfl | assumption) rfl
 | exact pickF rfl rfl (by first | rfl | assumption) rfl
 | exact rM rfl rfl rfl):Pure P X o S p:=h
theorem opx (h:dR P X o S S':=by first
 | (apply Pure.to (hd:=ib hX (by decide));exact pux)
 | exact zM rfl IF.h rfl rfl rfl (by first | assumption | omega) (by first | assumption | omega)):dR P X o S S':=h
theorem opT {oj:Oper} {j:Nat} {t:Tmp} {b b':Bool} (hl:dX P X ops l S' Q) (hg:o.guard=some (j,b):=by rfl) (hj:ops[j]?=some oj:=by rfl) (ht:oj.dst=some t:=by rfl) (he:S.env t=some (.cv (.lit (.bool b'))):=by rfl) (hb:b'=b:=by first | assumption | rfl) (h:dR P X o S S':=by exact opx) (hd:dg X o.dst:=by exact ib hX (by decide)):dX P X ops (o :: l) S Q :=
 iu hg hj ht he hd (fun _=>⟨h,hl⟩) (fun h=>absurd hb h)
theorem Au {oj:Oper} {j:Nat} {t:Tmp} {b b':Bool} (hl:dX P X ops l (put S o.dst (.cv (.lit undef))) Q) (hg:o.guard=some (j,b):=by rfl) (hj:ops[j]?=some oj:=by rfl) (ht:oj.dst=some t:=by rfl) (he:S.env t=some (.cv (.lit (.bool b'))):=by rfl) (hb:b' = !b:=by first | assumption | rfl) (hd:dg X o.dst:=by exact ib hX (by decide)):dX P X ops (o :: l) S Q :=
 iu (S':=S) hg hj ht he hd (fun h=>by rw [hb] at h;cases b<;>cases h) (fun _=>hl)
theorem opU {oj:Oper} {j:Nat} {t:Tmp} {b:Bool} (hl:dX P X ops l (put S o.dst (.cv (.lit undef))) Q) (hg:o.guard=some (j,b):=by rfl) (hj:ops[j]?=some oj:=by rfl) (ht:oj.dst=some t:=by rfl) (he:S.env t=some (.cv (.lit undef)):=by rfl) (hd:dg X o.dst:=by exact ib hX (by decide)):dX P X ops (o :: l) S Q:=ox hg hj ht he hd hl
theorem og {oj:Oper} {j:Nat} {t:Tmp} {b b':Bool} (hg:o.guard=some (j,b)) (hj:ops[j]?=some oj) (ht:oj.dst=some t) (he:S.env t=some (.cv (.lit (.bool b')))) (h:b'=b->dX P X ops (o :: l) S Q) (hn:b' = !b->dX P X ops (o :: l) S Q):dX P X ops (o :: l) S Q:=by
 by_cases c:b'=b
 ·exact h c
 exact hn (by cases b<;>cases b'<;>simp_all)
end
end Go.Proofs.YtfbgaddecbiimaaGreatDoor.V
end
section
namespace Go.Proofs.YtfbgaddecbiimaaGreatDoor.V
open Go.RowKit Go.Proofs.YtfbgaddecbiimaaGreatDoorW.PrintWords
class FN (P:Program) (f:FuncId):Prop where
 h:∃ fn,P.funcs[f]?=some fn/\fn.name≠"runtime.NumGoroutine"/\fn.body≠none
section
variable {P:Program} {X:Ctx} {S S':St} {Q:jM} {o:Oper} {ops:Array Oper} {l:List Oper} {q:St->Prop}
theorem bO {c:Code} {D:Type} (F:D->St) (H:Nat->D->Prop) (h:∀ k,(∀ k',k'<k->∀ d,H k' d->uQ P X c (F d) Q)->∀ d,H k d->uQ P X c (F d) Q) (k:Nat) (d:D) (hk:H k d) (hw:∀ a w,Rel X S a w->Rel X (F d) a w):uQ P X c S Q:=by
 have b:∀ k d,H k d->uQ P X c (F d) Q:=by
  intro k
  induction k using Nat.strongRecOn with
  | _ k ih=>exact h k ih
 exact pN hw (b k d hk)
theorem gY {x:Code} {D:Type} (F:D->St) (H:D->Prop) (hy:∀ d,H d->Q .normal (F d)) (hx:nG P X x S (jM.then (fun S'=>∃ d,H d/\∀ a w,Rel X S' a w->Rel X (F d) a w) Q)):nG P X x S Q:=fun a w r =>
 Code.wp_mono (fun e a w ⟨S',q,r'⟩=>by
  cases e with
  | normal=>obtain ⟨d,h1,h2⟩:=q;exact ⟨F d,hy d h1,h2 a w r'⟩
  | _=>exact ⟨S',q,r'⟩) (hx a w r)
theorem vi {c:Call} {f:FuncId} {args:List PV} {p:PV} [hF:FN P f] (h:Fn P f args p) (ho:o.op = .call c) (hc:c.callee = .value (.func f)) (ha:aX S c.args.toList=some args) (hcl:args.all closed=true) (hd:dg X o.dst):dR P X o S (put S o.dst p):=by
 obtain ⟨fn,h1,h2,h3⟩:=hF.h
 exact E3 ho hc (.inl rfl) h1 h2 h3 ha hcl h hd
theorem gK {c:Call} {f:FuncId} {args:List PV} {p:PV} {d:Tmp} [hF:FN P f] (h:Fn P f args p) (hl:dX P X ops l (put S (some d) p) q) (hg:o.guard=none:=by rfl) (ho:o.op = .call c:=by rfl) (hc:c.callee = .value (.func f):=by rfl) (hdd:o.dst=some d:=by rfl) (ha:aX S c.args.toList=some args:=by rfl) (hcl:args.all closed=true:=by rfl) (hd:dg X (some d):=by exact ib hX (by decide)):dX P X ops (o :: l) S q :=
 dz hg (by have:=vi (X:=X) (S:=S) h ho hc ha hcl (by rw [hdd];exact hd);rw [hdd] at this;exact this) hl
theorem opCT {c:Call} {f:FuncId} {args:List PV} {p:PV} {d:Tmp} {oj:Oper} {j:Nat} {t:Tmp} {b b':Bool} [hF:FN P f] (h:Fn P f args p) (hl:dX P X ops l (put S (some d) p) q) (hg:o.guard=some (j,b):=by rfl) (hj:ops[j]?=some oj:=by rfl) (ht:oj.dst=some t:=by rfl) (he:S.env t=some (.cv (.lit (.bool b'))):=by rfl) (hb:b'=b:=by first | assumption | rfl)
 (ho:o.op = .call c:=by rfl) (hc:c.callee = .value (.func f):=by rfl) (hdd:o.dst=some d:=by rfl) (ha:aX S c.args.toList=some args:=by rfl) (hcl:args.all closed=true:=by rfl) (hd:dg X (some d):=by exact ib hX (by decide)):dX P X ops (o :: l) S q :=
 opT hl hg hj ht he hb (hd:=by rw [hdd];exact hd) (h:=by have:=vi (X:=X) (S:=S) h ho hc ha hcl (by rw [hdd];exact hd);rw [hdd] at this;exact this)
theorem x_make {t e:TypeId} {b:Nat} {x y:Operand} {kl kc q:IntKind} {n cap:Int} {k:Tmp} {d:TypeDesc} [hu:UL P t (.slice e)] [hi:IF P e (.int q 0) 1 b] (ho:o.op = .makeSlice t x y) (hk':o.dst=some k) (hx:ev S x=some (.int kl n)) (hy:ev S y=some (.int kc cap)) (h0:0<=n) (hnc:n<=cap) (hb:b*cap.toNat<=281474976710656) (hm:cap.toNat<=maxLen) (hk:S.rows k=none) (hd:dg X (some k)) (hkl:k≠bY:=by decide) :
 dR P X o S (put (setRow S k (dh e q (List.replicate n.toNat 0))) (some k) (.own k)):=by
 have a:ev S x=some (.int kl (n.toNat:Int)):=by rw [hx,Int.toNat_of_nonneg h0]
 have c:ev S y=some (.int kc (cap.toNat:Int)):=by rw [hy,Int.toNat_of_nonneg Q2]
 have:=i_make (X:=X) (S:=S) k ho hu.h hi.h a c Q2 hb hm hk hkl (by rw [hk'];exact hd)
 rw [hk'] at this
 exact this
theorem qA {k:Tmp} (e:TypeId) (q:IntKind) (ho:o.op = .move (.const (.slice none 0 0))∨o.op = .assign (.const (.slice none 0 0))) (hk':o.dst=some k) (hk:S.rows k=none) (hd:dg X (some k)) (hkl:k≠bY:=by decide):dR P X o S (put (setRow S k (dh e q [])) (some k) (.own k)):=by
 have:=E1 (P:=P) (X:=X) (S:=S) k e 1 ho hk hkl (by rw [hk'];exact hd)
 rw [hk'] at this
 exact this
theorem EY {t e:TypeId} {z:Value} {b n:Nat} {ps:Array (Nat×Operand)} {qs:List (Nat×List CV)} {cs:List CV} [hu:UL P t (.slice e)] [hi:IF P e z 1 b] (ho:o.op = .buildSlice t n ps) (hzc:z.cells = #[z]) (hlim:n<=16777216) (hq:parts S ps.toList=some qs) (hf:gT (fun i=>some (i*1,1)) (List.replicate n (gH z)) qs=some cs) (hd:dg X o.dst) (hsh:cs.all fN=true:=by rfl) :
 dR P X o S (put S o.dst (.cv (.row n cs))):=by
 obtain ⟨a,g1,g2,g3,g4⟩:=hi.h.parts
 refine HS (X:=X) (S:=S) ho hu.h g1 g2 Q2 (by rw [g3];omega) hq ?_ hd hsh
 rw [g3,hzc,Nat.mul_one,toList_madeCells_one,List.map_replicate]
 exact hf
theorem x_lit0 {t e:TypeId} {b:Nat} {q:IntKind} [hu:UL P t (.slice e)] [hi:IF P e (.int q 0) 1 b] (ho:o.op = .buildSlice t 0 #[]) (hd:dg X o.dst):dR P X o S (put S o.dst (.ints q [])):=EY (cs:=[]) ho rfl (by decide) rfl rfl hd
theorem x_lit1 {t e:TypeId} {b:Nat} {q:IntKind} {x:Operand} {a:Int} [hu:UL P t (.slice e)] [hi:IF P e (.int q 0) 1 b] (ho:o.op = .buildSlice t 1 #[(0,x)]) (hx:ev S x=some (.int q a)) (hd:dg X o.dst):dR P X o S (put S o.dst (.ints q [a])) :=
 EY (qs:=[(0,[.lit (.int q a)])]) (cs:=[.lit (.int q a)]) ho rfl Q3 (by simp [parts,hx,dZ]) rfl hd
theorem x_lit2 {t e:TypeId} {b:Nat} {q:IntKind} {x y:Operand} {a c:Int} [hu:UL P t (.slice e)] [hi:IF P e (.int q 0) 1 b] (ho:o.op = .buildSlice t 2 #[(0,x),(1,y)]) (hx:ev S x=some (.int q a)) (hy:ev S y=some (.int q c)) (hd:dg X o.dst):dR P X o S (put S o.dst (.ints q [a,c])) :=
 EY (qs:=[(0,[.lit (.int q a)]),(1,[.lit (.int q c)])]) (cs:=[.lit (.int q a),.lit (.int q c)]) ho rfl Q3 (by simp [parts,hx,hy,dZ]) rfl hd
end
theorem CS {α β:Type} {x:α} {f:α->Option β} {r:β} (h:(some x).bind f=some r):f x=some r:=h
theorem tkT {α:Type} {c:Prop} [Decidable c] {x y:Option α} {r:α} {b v:Bool} (h:(if c then x else y)=some r) (hb:b=v) (g:b=v->c:=by intro hb;first | exact of_decide_eq_true hb | exact hb | exact eq_of_beq hb | exact bne_eq_false_iff_eq.1 hb | exact bne_iff_ne.1 hb | (exact Decidable.of_not_not (of_decide_eq_false hb)) | (exact Bool.eq_false_iff.1 hb) | (simp at hb;first | exact hb | omega)):c/\x=some r:=by
 rw [if_pos (g hb)] at h
 exact ⟨g hb,h⟩
theorem tkF {α:Type} {c:Prop} [Decidable c] {x y:Option α} {r:α} {b v:Bool} (h:(if c then x else y)=some r) (hb:b=v) (g:b=v->¬ c:=by intro hb;first | exact of_decide_eq_false hb | exact beq_eq_false_iff_ne.1 hb | exact bne_iff_ne.1 hb | exact Bool.eq_false_iff.1 hb | (exact (by rw [hb];decide)) | (simp at hb;first | exact hb | omega | (simp [hb];done))):¬ c/\y=some r:=by
 rw [if_neg (g hb)] at h
 exact ⟨g hb,h⟩
theorem iW {α:Type} {c:Prop} [Decidable c] {x:Option α} {r:α} (h:(if c then none else x)=some r):¬ c/\x=some r:=by
 by_cases hc:c
 ·rw [if_pos hc] at h;cases h
 rw [if_neg hc] at h;exact ⟨hc,h⟩
theorem aO {P:Program} {X:Ctx} {c:Code} {S:St} {Q:jM} {xs:List (Nat×PV)} {ys:List (Nat×Row)} (h:uQ P X c ⟨look xs,look ys⟩ Q) (hx:has S xs) (hy:Ll S ys) (hw:(xs.all (fun x=>within ys x.2)&&DZ ys)=true):uQ P X c S Q:=pN (aZ xs ys hx hy hw) h
section
variable {P:Program} {X:Ctx} {S:St} {Q:jM} {o:Oper} {ops:Array Oper} {l:List Oper} {q:St->Prop}
def yG (P:Program) (X:Ctx) (ops:Array Oper) (l:List Oper) (S:St) (q:St->Prop):Prop:=∀ L a w,cL X S L a w->wpStill P ops w (fun a'=>∃ S',q S'/\cL X S' L a' w) l a
theorem kx (h:q S):yG P X ops [] S q:=fun L a w r=>⟨S,h,r⟩
theorem st1 {p:PV} (hl:yG P X ops l (put S o.dst p) q) (hg:o.guard=none:=by rfl) (h:Pure P X o S p:=by exact pux) (hd:dg X o.dst:=by exact ib hX (by decide)):yG P X ops (o :: l) S q:=by
 intro L a w r
 obtain ⟨v,h1,h2⟩:=h L a w r
 have hw:Region.wanted o (yielded ops a.tmps)=true:=by simp [Region.wanted,hg]
 unfold wpStill
 rw [if_pos hw]
 unfold Oper.still
 rw [h1,Oper.stillUpon_value]
 exact hl L _ w (r.put hd h2)
theorem fR {id:Nat} {ops:List Oper} (h:yG P X ops.toArray ops S (fun S'=>Q .normal S')) (hm:P.follows .mixedOrders=true:=by kernel_rfl) (hB:Region.lexB .any ops.toArray=true:=by kernel_rfl):nG P X (.region id ops.toArray true) S Q:=by
 intro a w ⟨L,r⟩
 have r2:=r.wide (w':={ w with drawn:=w.drawn+1 }) ⟨rfl,rfl,rfl,Nat.le_refl _,fun _ _=>rfl⟩
 refine wp_region_still_lit hm hB ?_
 have:=h L a _ r2
 have b:∀ (l:List Oper) (a:Act) (K K':Act->Prop),(∀ a,K a->K' a)->wpStill P ops.toArray { w with drawn:=w.drawn+1 } K l a->wpStill P ops.toArray { w with drawn:=w.drawn+1 } K' l a:=by
  intro l
  induction l with
  | nil=>intro a K K' hk h;exact hk a h
  | cons o l ih =>
   intro a K K' hk h
   unfold wpStill at h ⊢
   split
   ·rename_i hw
    rw [if_pos hw] at h
    exact Oper.still_mono (fun a=>ih a K K' hk) h
   rename_i hw
   rw [if_neg hw] at h
   exact ih _ K K' hk h
 exact b _ _ _ _ (fun a' ⟨S',h1,h2⟩=>⟨S',h1,L,h2⟩) this
end
def dj (R:Row):Nat->Option Row:=fun k=>if k=bY then some R else none
abbrev dB (l:Value):lE:=fun k=>if k=bY then l else undef
def Holds (lo:Nat) (w:World) (F:Nat->Prop) (l:Value) (R:Row):Prop:=∃ xs,w.ownsRow lo R.e R.sz l R.n xs/\xs.length=R.data.length/\∀ i (h:i<R.data.length),Den w (.of F) (xs.getD i undef) R.data[i]
def FnW (P:Program) (f:FuncId) (args:List PV) (R:Row) (p:PV) (R':Row):Prop:=R'.sz=R.sz/\∀ (F:Nat->Prop) (w:World) (vs:Array Value) (l:Value) (lo:Nat),(∀ b,F b->b<w.heap.size)->lo<=w.heap.size->vs.size=args.length->(∀ i (h:i<args.length),cO w (.of F) (dj R) (dB l) (vs.getD i undef) args[i]) ->
 Holds lo w F l R->(∀ b,l.ownBlock=some b->¬ F b) ->
 Calls P f vs w fun e w'=>∃ v,e = .returned v/\w.grownBy w' l.ownBlock/\cO w' (.of fun b=>F b∨(w.heap.size<=b/\b<w'.heap.size)) nr nl v p/\Holds lo w' (fun b=>F b∨(w.heap.size<=b/\b<w'.heap.size)) l R'/\R'.data.length=R.data.length
theorem Lj {lo lo':Nat} {w w':World} {F F':Nat->Prop} {l:Value} {R R':Row} (h:Holds lo w F l R) (h':Holds lo' w' F' l R'):R'.n=R.n:=by
 obtain ⟨xs,h1,_⟩:=h
 obtain ⟨b,a,_⟩:=h'
 rcases h1.2 with ⟨a1,a2⟩ | ⟨g,cap,cur,a1,_⟩
 ·rcases a.2 with ⟨b1,b2⟩ | ⟨g',cap',cur',b1,_⟩
  ·omega
  rw [a1] at b1;cases b1
 rcases a.2 with ⟨b1,b2⟩ | ⟨g',cap',cur',b1,_⟩
 ·rw [a1] at b1;cases b1
 rw [a1] at b1;injection b1 with _ b2;exact b2.symm
theorem yv {lo:Nat} {w:World} {F:Nat->Prop} {l:Value} {R:Row} (h:Holds lo w F l R):R.data.length=R.n*R.sz:=by
 obtain ⟨xs,h1,h2,_⟩:=h
 rw [<- h2]
 exact h1.1
section
variable {P:Program} {X:Ctx} {S:St} {o:Oper} {L:lE} {a:Act} {w w':World}
theorem qY {f:FuncId} {fn:Func} {c:Code} {args:List PV} {R R':Row} {p:PV} (hf:P.funcs[f]?=some fn) (hb:fn.body=some c) (hn:args.length<=fn.ntmps) (hsz:R'.sz=R.sz)
 (h:∀ X:Ctx,X.nt=fn.ntmps->nG P X c ⟨sF args,dj R⟩ (fun e S=>(e = .ret∨e = .normal)/\gG P S fn.results.toList p/\S.rows bY=some R')):FnW P f args R p R':=by
 refine ⟨hsz,?_⟩
 intro F w vs l lo hF hlo hs ha hR hlF
 let X:Ctx:=⟨w,fn.ntmps,F,hF,l.ownBlock,lo,hlo,fun v=>v=l⟩
 have only:∀ k d,dj R k=some d->k=bY/\d=R:=by
  intro k d h
  unfold dj at h
  split at h
  ·rename_i e;exact ⟨e,by cases h;rfl⟩
  cases h
 have j:∀ b,Kc (dj R) (dB l) b->l.ownBlock=some b:=by
  rintro b ⟨k,d,h,h2⟩
  obtain ⟨rfl,rfl⟩:=only k d h
  simpa [dB] using h2
 have st:∀ b,F b->Still X (dj R) (dB l) w b:=fun b h=>⟨.inl h,fun h2=>hlF b (j b h2) h⟩
 have r0:cL X ⟨sF args,dj R⟩ (dB l) { tmps:=vs++Array.replicate (fn.ntmps-vs.size) undef,defers:=[] } w:=by
  refine ⟨by simp;show vs.size+(fn.ntmps-vs.size)=fn.ntmps;omega,rfl,World.grownBy.refl _ _,(fun k d h=>?_),(fun k k' d d' b h h' _ _=>by rw [(only k d h).1,(only k' d' h').1]),(fun k d b h h2=>?_),(fun d h=>by simp [dB,X]),fun t q hq=>?_⟩
  ·obtain ⟨rfl,rfl⟩:=only k d h
   obtain ⟨xs,h1,h2,h3⟩:=hR
   exact ⟨xs,by simpa [dB] using h1,h2,fun i hi=>((h3 i hi).mono (Fo.ja (F:=.of F) st) (fun _ _=>rfl)).mono (Fo.jN _ _) (fun _ _=>rfl)⟩
  ·obtain ⟨rfl,rfl⟩:=only k d h
   exact .inr ⟨rfl,by simpa [dB] using h2⟩
  obtain ⟨ht,rfl⟩:=List.getElem?_eq_some_iff.1 hq
  refine ⟨by show t<fn.ntmps;omega,?_⟩
  have hv:=(ha t ht).mono (F':=Still X (dj R) (dB l) w) (w':=w) (rows':=dj R) (L':=dB l) ⟨st,fun _ _ h=>h.elim,fun _ h=>h.elim⟩ (fun _ _=>rfl) (fun k r h=>⟨h,rfl⟩)
  have e:(vs++Array.replicate (fn.ntmps-vs.size) undef).getD t undef=vs.getD t undef:=by
   simp only [Array.getD_eq_getD_getElem?]
   rw [Array.getElem?_append_left Q2]
  show cO w (Still X (dj R) (dB l) w) (dj R) (dB l) ((vs++Array.replicate (fn.ntmps-vs.size) undef).getD t undef) args[t]
  rw [e]
  exact hv
 refine calls_of_wp hf hb (Code.wp_mono ?_ (h X rfl _ _ ⟨dB l,r0⟩))
 rintro e a w' ⟨S,⟨he,hr,hR'⟩,L,r⟩
 obtain ⟨v,h1,h2⟩:=hr.run r
 have hL:L bY=l:=r.pin R' hR'
 have hH:Holds lo w' (fun b=>F b∨(w.heap.size<=b/\b<w'.heap.size)) l R':=by
  obtain ⟨xs,q1,q2,q3⟩:=r.row bY R' hR'
  rw [hL] at q1
  exact ⟨xs,q1,q2,fun i hi=>(show Den w' (Still X S.rows L w').shut _ _ from q3 i hi).mono ⟨fun b h=>h.1,fun _ _ h=>h.elim,fun _ h=>h.elim⟩ (fun _ _=>rfl)⟩
 have g:a.defers=[]/\∃ v,(results fn a.tmps).run P w' = .ok v w'/\∃ u,Ending.returned v = .returned u/\w.grownBy w' l.ownBlock/\cO w' (.of fun b=>F b∨(w.heap.size<=b/\b<w'.heap.size)) nr nl u p/\Holds lo w' (fun b=>F b∨(w.heap.size<=b/\b<w'.heap.size)) l R'/\R'.data.length=R.data.length :=
  ⟨r.defers,v,h1,v,rfl,r.below,h2.mono ⟨fun b h=>h.1,fun _ _ h=>h.elim,fun _ h=>h.elim⟩ (fun _ _=>rfl) (fun k r h=>by cases h),hH,by rw [yv hH,yv hR,Lj hR hH,hsz]⟩
 rcases he with rfl | rfl
 ·exact g
 exact g
def Gw (k:Nat):PV->PV
 | .own _=>.own k
 | .win _ o n=>.win k o n
 | .po _ o=>.po k o
 | p=>p
def eO:PV->Bool
 | .own j=>j==bY
 | .win j _ _=>j==bY
 | .po j _=>j==bY
 | .tup _=>false
 | .cv c=>fN c
 | .ag cs=>cs.all fN
 | .pr _=>true
 | .map _=>false
theorem cO.lend {F:Fo} {k:Nat} {R:Row} {v:Value} {p q:PV} (h:cO w F S.rows L v q) (hq:q=Gw k p) (hp:eO p=true) (hk:S.rows k=some R):cO w F.shut (dj R) (dB (L k)) v p:=by
 have hr:dj R bY=some R:=by simp [dj]
 have hl:dB (L k) bY=L k:=by simp [dB]
 cases p with
 | cv c=>subst hq;cases h with | cv h=>exact .cv (h.shut hp)
 | ag c=>subst hq;cases h with | ag hl h=>exact .ag hl (fun i hi=>(h i hi).shut (by rw [eO,List.all_eq_true] at hp;exact hp _ (List.getElem_mem hi)))
 | pr c=>subst hq;cases h with | pr vs hs hF hc hd=>exact .pr vs hs hF hc hd
 | tup c=>simp [eO] at hp
 | map c=>simp [eO] at hp
 | own j =>
  have:j=bY:=by simpa [eO] using hp
  subst this
  subst hq
  cases h with
  | own h =>
   rw [<- hl]
   exact .own hr
 | win j off n =>
  have:j=bY:=by simpa [eO] using hp
  subst this
  subst hq
  cases h with
  | win h hL ho hn hb ha =>
   rw [hk] at h
   cases h
   exact .win hr (by rw [hl];exact hL) ho hn hb ha
 | po j off =>
  have:j=bY:=by simpa [eO] using hp
  subst this
  subst hq
  cases h with
  | po h hL ho =>
   rw [hk] at h
   cases h
   exact .po hr (by rw [hl];exact hL) ho
theorem zS (r:cL X S L a w):∀ (xs:List Operand) (ps:List PV),aX S xs=some ps->xs.length=ps.length/\∀ i (h:i<ps.length) (h':i<xs.length),cO w (Still X S.rows L w) S.rows L (a.eval xs[i]) ps[i]
 | [],ps,h=>by simp only [aX,Option.some.injEq] at h;subst h;exact ⟨rfl,fun i h=>by simp at h⟩
 | x :: xs,ps,h=>by
  simp only [aX] at h
  split at h
  ·rename_i p ps' h1 h2
   cases h
   obtain ⟨g1,g2⟩:=zS r xs ps' h2
   refine ⟨by simp [g1],fun i hi hi'=>?_⟩
   cases i with
   | zero=>exact r.ev h1
   | succ i=>exact g2 i (by simpa using hi) (by simpa using hi')
  cases h
theorem AF {c:Call} {f:FuncId} {fn:Func} {args args':List PV} {p:PV} {k:Nat} {R R' R0:Row} (ho:o.op = .call c) (hc:c.callee = .value (.func f)) (hf:P.funcs[f]?=some fn) (hn:fn.name≠"runtime.NumGoroutine") (hb:fn.body≠none)
 (h:FnW P f args R p R') (hk:S.rows k=some R0) (hR:R0=R) (ha:aX S c.args.toList=some args') (hargs:args'=args.map (Gw k)) (hlend:args.all eO=true) (hd:dg X o.dst) (hko:Nat.ble opened k=false:=by rfl):dR P X o S (put (setRow S k R') o.dst p):=by
 subst hR
 intro a w ⟨L,r⟩
 obtain ⟨g1,g2⟩:=zS r _ _ ha
 have hr:(execOp a.eval o).run P w = .ok (.enter f (c.args.map a.eval)) w:=by
  have t:a.eval (.func f) = .func (.func f) #[] #[]:=rfl
  simp [execOp,ho,resolve,hc,t,Deferred.ofValue,invoke,callFunc,hf,hn,hb]
 have g:c.args.toList.length=args.length:=by rw [g1,hargs];simp
 unfold Oper.wp
 rw [hr,Oper.upon_enter]
 obtain ⟨s,h⟩:=h
 refine (h (Still X S.rows L w).b w (c.args.map a.eval) (L k) X.lo (fun b hb=>Still.lt r.below hb) (Nat.le_trans X.hlo r.below.size) (by simpa using g) (fun i hi=>?_) (by obtain ⟨xs,q1,q2,q3⟩:=r.row k _ hk;simp only [Fo.at,hko,cond_false] at q3;exact ⟨xs,q1,q2,q3⟩) (fun b hb hs=>hs.2 ⟨k,_,hk,hb⟩)).mono ?_
 ·have l:i<c.args.size:=by
   have:c.args.size=args.length:=by simpa using g
   omega
  have n:i<args'.length:=by rw [hargs];simpa using hi
  have:=g2 i n (by simpa using l)
  have e:args'[i]=Gw k args[i]:=by simp [hargs]
  have hp:eO args[i]=true:=List.all_eq_true.1 hlend _ (List.getElem_mem hi)
  have:=this.lend e hp hk
  show cO w (Still X S.rows L w).shut (dj R0) (dB (L k)) ((c.args.map a.eval).getD i undef) args[i]
  simpa [Array.getD_eq_getD_getElem?,Array.getElem?_eq_getElem l] using this
 rintro e w' ⟨v,rfl,hg,hv,⟨xs,q1,q2,q3⟩,hdl⟩
 have m:∀ b,(Still X S.rows L w b->Still X (setRow S k R').rows L w' b)->(Still X S.rows L w b∨(w.heap.size<=b/\b<w'.heap.size))->Still X (setRow S k R').rows L w' b:=by
  intro b st h
  rcases h with h | ⟨h1,h2⟩
  ·exact st h
  refine ⟨.inr ⟨Nat.le_trans r.below.size h1,h2⟩,?_⟩
  rintro ⟨j,d,h3,h4⟩
  simp only [setRow] at h3
  by_cases c:j=k
  ·subst c
   have:=(r.mW hk b h4).2
   omega
  rw [if_neg c] at h3
  have:=(r.mW h3 b h4).2
  omega
 have st:∀ b,Still X S.rows L w b->Still X (setRow S k R').rows L w' b:=by
  intro b h
  refine ⟨?_,?_⟩
  ·rcases h.1 with h1 | ⟨h1,h2⟩
   ·exact .inl h1
   exact .inr ⟨h1,Nat.lt_of_lt_of_le h2 hg.size⟩
  rintro ⟨j,q,h1,h2⟩
  simp only [setRow] at h1
  by_cases c:j=k
  ·subst c;exact h.2 ⟨j,_,hk,h2⟩
  rw [if_neg c] at h1;exact h.2 ⟨j,q,h1,h2⟩
 have r2:cL X (setRow S k R') L a w':=r.set' (d':=R') hk hg q1 q2 s hdl (fun _ _ i hi=>((q3 i hi).mono (F':=(Still X (setRow S k R').rows L w').shut) ⟨fun b h=>m b (st b) h,fun _ _ h=>h.elim,fun _ h=>h.elim⟩ (fun _ _=>rfl)).mono (Fo.jN _ _) (fun _ _=>rfl))
 exact ⟨L,r2.put hd (hv.mono ⟨fun b h=>m b (st b) h,fun _ _ h=>h.elim,fun _ h=>h.elim⟩ (fun _ _=>rfl) (fun k d h=>by cases h))⟩
theorem KT {ops:Array Oper} {l:List Oper} {q:St->Prop} {c:Call} {f:FuncId} {args args':List PV} {p:PV} {d:Tmp} {k:Nat} {R R' R0:Row} [hF:FN P f] (h:FnW P f args R p R') (hR:R0=R) (hargs:args'=args.map (Gw k)) (hl:dX P X ops l (put (setRow S k R') (some d) p) q) (hk:S.rows k=some R0:=by rfl) (hg:o.guard=none:=by rfl) (ho:o.op = .call c:=by rfl) (hc:c.callee = .value (.func f):=by rfl) (hdd:o.dst=some d:=by rfl) (ha:aX S c.args.toList=some args':=by rfl) (hlend:args.all eO=true:=by rfl) (hd:dg X (some d):=by exact ib hX (by decide)) (hko:Nat.ble opened k=false:=by rfl):dX P X ops (o :: l) S q:=by
 obtain ⟨fn,h1,h2,h3⟩:=hF.h
 exact dz hg (by have:=AF (X:=X) (S:=S) (o:=o) ho hc h1 h2 h3 h hk hR ha hargs hlend (by rw [hdd];exact hd) hko;rw [hdd] at this;exact this) hl
section
variable {t e e':TypeId} {x y:Operand} {q kk:IntKind} {i:Int} {k:Nat}
theorem w_at {z:Value} {b:Nat} {off n:Nat} {d:Row} (ho:o.op = .indexAddr t x y) (hu:P.underlying t=some (.slice e)) (hi:Info P e z 1 b) (hx:ev S x=some (.win k off n)) (hk:S.rows k=some d) (hs:d.sz=1) (hy:ev S y=some (.int kk i)) (h0:0<=i) (h1:i<n):Pure P X o S (.po k (off+i.toNat)):=by
 obtain ⟨j,g1,g2,g3,g4⟩:=hi.parts
 intro L a w r
 have h:=r.ev hx
 generalize hv:a.eval x=v at h
 obtain ⟨xs,p1,p2,p3⟩:=r.row k d hk
 cases h with
 | @win a' _ _ _ g m cap c d' h hL ho' hn hb ha =>
  rw [hk] at h
  cases h
  have f:=ha Q2
  subst f
  rw [hs,Nat.mul_one] at *
  refine ⟨.pointer (some ⟨g,off+i.toNat,none⟩),?_,.po hk hL ?_⟩
  ·simp [execOp,ho,Instr.indexAt,asIntOf,hv,(r.ev hy).lit,run_underlying hu,sizeOf,typeInfo,g1,g3,h0,h1,add_plain]
  rw [<- p2,p1.1,hs,Nat.mul_one]
  rw [hL] at p1
  rcases p1.2 with ⟨b1,_⟩ | ⟨g',c',cur,b1,_⟩
  ·cases b1
  cases b1;omega
theorem rd_mid (pre l post:List Int) (i:Nat) (h:i<l.length):(pre++l++post)[pre.length+i]?=some (rd l i):=by
 rw [List.append_assoc,List.getElem?_append_right Q2,List.getElem?_append_left Q2]
 simp [rd,h]
theorem w_load {ds:TypeDesc} {pre l post:List Int} (ho:o.op = .load t x) (hu:P.underlying t=some ds) (hd:(match ds with | .struct _ | .array _ _=>true | _=>false)=false) (hx:ev S x=some (.po k (pre.length+i.toNat))) (hk:S.rows k=some (dh e q (pre++l++post))) (h0:0<=i) (h1:i<l.length):Pure P X o S (.int q (rd l i)):=by
 refine gw ho hu hd hx hk ?_
 have:=rd_mid pre l post i.toNat Q2
 simp only [ints,List.getElem?_map,this,Int.toNat_of_nonneg h0]
 rfl
theorem E5 (pre l post:List Int) (i:Nat) (v:Int) (h:i<l.length):(pre++l++post).set (pre.length+i) v=pre++l.set i v++post:=by
 rw [List.append_assoc,List.append_assoc,List.set_append_right _ _ Q2,Nat.add_sub_cancel_left,List.set_append_left _ _ h]
theorem Kj {z:Value} {b:Nat} {v:Int} {pre l post:List Int} (ho:o.op = .store t x y) (hi:Info P t z 1 b) (hx:ev S x=some (.po k (pre.length+i.toNat))) (hk:S.rows k=some (dh e q (pre++l++post))) (hy:ev S y=some (.int q v)) (h0:0<=i) (h1:i<l.length):dR P X o S (drop (setRow S k (dh e q (pre++l.set i.toNat v++post))) o.dst):=by
 have a:ev S x=some (.po k (((pre.length+i.toNat:Nat):Int).toNat*1)):=by rw [hx,Int.toNat_natCast,Nat.mul_one]
 have:=zM (X:=X) (S:=S) ho hi a hk hy Q2 (by simp only [List.length_append];omega)
 rw [Int.toNat_natCast,E5 pre l post i.toNat v Q2] at this
 exact this
end
end
end Go.Proofs.YtfbgaddecbiimaaGreatDoor.V
end
section
set_option linter.unusedVariables false
set_option linter.unusedSimpArgs false
namespace Go.Proofs.YtfbgaddecbiimaaGreatDoorW.PrintMore
open Go.RowKit Go.Proofs.YtfbgaddecbiimaaGreatDoorW.PrintWords
def j6 (xs ys:List Int):List Int:=ys.take (min ys.length xs.length)++xs.drop (min ys.length xs.length)
def uO (xs ys:List Int):Int:=((min ys.length xs.length:Nat):Int)
section
variable {k:IntKind} {pre post:List Int} {hc e:Nat} {w w1:World} {base:Nat} {ok ok':Nat->Prop} {v:Value} {xs:List Int}
theorem E5 (pre xs post:List Int) (i:Nat) (x:Int) (hi:i<xs.length):(pre++xs++post).set (pre.length+i) x=pre++xs.set i x++post:=by
 rw [List.append_assoc,List.set_append_right _ _ (by omega),show pre.length+i-pre.length=i by omega,List.set_append_left _ _ hi,List.append_assoc]
end
end Go.Proofs.YtfbgaddecbiimaaGreatDoorW.PrintMore
end
section
namespace Go.Proofs.YtfbgaddecbiimaaGreatDoor.V
open Go.RowKit Go.Proofs.YtfbgaddecbiimaaGreatDoorW.PrintWords Go.Proofs.YtfbgaddecbiimaaGreatDoorW.PrintMore
theorem zX {w:World} {F:Fo} {v:Value} {n:Nat} {cs:List CV} (h:Den w F v (.row n cs)):∃ sp sc,v = .slice sp n sc/\(0<cs.length->∃ (ad:Addr) (vs:Nat->Value),sp=some ad/\(∀ i,i<cs.length->w.cell? (ad.add i)=some (vs i))/\∀ i (h:i<cs.length),Den w F.shut (vs i) cs[i]):=by
 cases h with
 | nil a c h=>exact ⟨a,c,rfl,fun h=>by simp at h⟩
 | row ad n c cs vs hs hF hn hc hd=>exact ⟨some ad,c,rfl,fun _=>⟨ad,vs,rfl,hc,hd⟩⟩
section
variable {P:Program} {X:Ctx} {S:St} {o:Oper} {k:Nat}
theorem setRow_self {d:Row} (hk:S.rows k=some d):setRow S k d=S:=by
 cases S with
 | mk env rows =>
  simp only [setRow,St.mk.injEq,true_and]
  funext j
  split
  ·rename_i h;rw [h];exact hk.symm
  rfl
theorem i_copy {c:Call} {x y:Operand} {t s e e':TypeId} {z:Value} {b:Nat} {q:IntKind} {l m:List Int} (ho:o.op = .call c) (hc:c.callee = .builtin .copy) (ha:c.args = #[x,y]) (ht:c.argTypes = #[t,s]) (hu:P.underlying t=some (.slice e)) (hi:Info P e z 1 b)
 (hx:ev S x=some (.own k)) (hk:S.rows k=some (dh e' q l)) (hy:ev S y=some (.ints q m)) (hd:dg X o.dst):dR P X o S (put (setRow S k (dh e' q (j6 l m))) o.dst (.int .i64 (uO l m))):=by
 obtain ⟨Y,g1,g2,g3,g4⟩:=hi.parts
 have I:(P.info? e).map (·.size)=some 1:=by rw [g1];simp [g3]
 intro a w ⟨L,r⟩
 obtain ⟨xs,q1,q2,q3⟩:=r.row k _ hk
 have G:=r.ev hx
 have J:=r.ev hy
 generalize hvx:a.eval x=vx at G
 generalize hvy:a.eval y=vy at J
 have own:vx=L k:=by cases G with | own h=>rfl
 have u:∀ w' v,(Builtin.copy_ #[t,s] o.type #[vx,vy]).run P w = .ok v w'->v = .int .i64 (uO l m)->cL X (setRow S k (dh e' q (j6 l m))) L a w'->o.wp P a w (fun a' w'=>Rel X (put (setRow S k (dh e' q (j6 l m))) o.dst (.int .i64 (uO l m))) a' w') (fun _ _ _=>False):=by
  rintro w' v h1 rfl h2
  refine cU (v:=.int .i64 (uO l m)) (w':=w') ?_ ⟨L,h2.put hd (.cv (.lit _))⟩
  simp [execOp,ho,resolve,hc,ha,ht,invoke,builtin,hvx,hvy,h1]
 have C:∃ sp sc,vy = .slice sp m.length sc/\(0<m.length->∃ (ad:Addr) (vs:Nat->Value),sp=some ad/\(∀ i,i<m.length->w.cell? (ad.add i)=some (vs i))/\∀ i (h:i<m.length),Den w (Still X S.rows L w).shut (vs i) (.lit (.int q m[i]))):=by
  cases J with
  | cv hden =>
   obtain ⟨sp,sc,h1,h2⟩:=zX hden
   refine ⟨sp,sc,h1,fun h0=>?_⟩
   obtain ⟨ad,vs,h3,h4,h5⟩:=h2 (by rw [bW];exact h0)
   refine ⟨ad,vs,h3,fun i hi=>h4 i (by rw [bW];exact hi),fun i hi=>?_⟩
   have:=h5 i (by rw [bW];exact hi)
   simpa [ints] using this
 obtain ⟨sp,sc,A,M⟩:=C
 by_cases h0:min m.length l.length=0
 ·have Q:∃ dp dc,L k = .slice dp l.length dc:=by
   rcases q1.2 with ⟨b1,b2⟩ | ⟨g,cap,cur,b1,_⟩
   ·exact ⟨none,0,by rw [b1,show l.length=0 from b2]⟩
   exact ⟨_,_,b1⟩
  obtain ⟨dp,dc,O⟩:=Q
  have p:=run_copy_none (P:=P) w t s o.type e dp sp l.length dc m.length sc hu I h0
  have e1:j6 l m=l:=by simp [j6,h0]
  refine u w _ (by rw [own,O,A];exact p) (by simp [uO,h0];rfl) ?_
  rw [e1,setRow_self hk]
  exact r
 obtain ⟨ad,vs,rfl,R,H⟩:=M Q2
 rcases q1.2 with ⟨b1,b2⟩ | ⟨g,cap,cur,b1,b2,b3,b4,b5,b6,b7⟩
 ·have:l.length=0:=b2
  omega
 have W:min m.length l.length<=m.length:=Nat.min_le_left _ _
 have V:min m.length l.length<=l.length:=Nat.min_le_right _ _
 simp only [Nat.mul_one] at b6 b7
 have Z:l.length<=cur.size:=by rw [b6];exact b4
 have K:xs.length=l.length:=by rw [q2,bW]
 let cs:=(List.range (min m.length l.length)).map vs
 have f:cs.length=min m.length l.length:=by simp [cs]
 have N:∀ v∈cs,v.oneCell'=true:=by
  intro v hv
  simp only [cs,List.mem_map,List.mem_range] at hv
  obtain ⟨i,hi,rfl⟩:=hv
  exact (H i Q2).one rfl
 have D:∀ j v,cs[j]?=some v->w.cell? (ad.add j)=some v:=by
  intro j v hj
  simp only [cs,List.getElem?_map,Option.map_eq_some_iff] at hj
  obtain ⟨i,U,F⟩:=hj
  obtain ⟨h3,rfl⟩:=List.getElem?_eq_some_iff.1 U
  simp at h3 F
  subst F
  exact R j Q2
 have p:=run_copy_row (P:=P) w t s o.type e g 0 l.length cap ad m.length sc cur e' cs hu I b3 f D (by rw [f];omega) N
 have hg:w.grownBy (w.setRow g (cur.toList.take 0++cs++cur.toList.drop (0+cs.length)).toArray) (L k).ownBlock:=by
  rw [b1]
  exact ⟨rfl,rfl,rfl,by simp [World.setRow],fun j _ hj=>setRow_other w g j _ (fun e=>hj (by rw [e];rfl))⟩
 have d:(j6 l m).length=l.length:=by
  simp only [j6,List.length_append,List.length_take,List.length_drop]
  omega
 have B:(dh e' q (j6 l m)).n=(dh e' q l).n:=d
 refine u _ _ (by rw [own,b1,A];exact p) (by rw [f];rfl) (r.set (d':=dh e' q (j6 l m)) (xs:=cs++xs.drop cs.length) hk hg ?_ ?_ rfl ?_ ?_)
 ·rw [b1]
  refine ⟨?_,.inr ⟨g,cap,_,by rw [B],b2,setRow_heap w g cur _ e' _ b3,by rw [B];exact b4,b5,?_,?_⟩⟩
  ·simp only [List.length_append,List.length_drop,f,K,Nat.mul_one,d];omega
  ·simp only [List.take_zero,List.nil_append,List.size_toArray,List.length_append,List.length_drop,Array.length_toList,f];omega
  simp only [List.take_zero,List.nil_append,Nat.zero_add,Nat.mul_one,d]
  rw [List.take_append,List.take_of_length_le (by rw [f];omega),<- b7]
  simp only [List.drop_take]
 ·simp only [List.length_append,List.length_drop,f,K,bW,d];omega
 ·simp only [bW,d]
 intro i hi
 simp only [bW,d] at hi
 by_cases c1:i<cs.length
 ·have h2:=H i Q2
  have e1:(cs++xs.drop cs.length).getD i undef=vs i:=by
   simp only [List.getD_eq_getElem?_getD]
   rw [List.getElem?_append_left c1]
   simp [cs,show i<min m.length l.length by omega]
  have e2:(ints q (j6 l m))[i]'(by rw [bW,d];exact hi) = .lit (.int q (m[i]'Q2)):=by
   simp only [ints,List.getElem_map,j6]
   rw [List.getElem_append_left (by simp;omega)]
   simp
  show Den w _ _ ((ints q (j6 l m))[i]'(by rw [bW,d];exact hi))
  rw [e1,e2]
  exact h2.mono (Fo.jN _ _) (fun _ _=>rfl)
 have h2:=q3 i (by simp only [bW];exact hi)
 have e1:(cs++xs.drop cs.length).getD i undef=xs.getD i undef:=by
  simp only [List.getD_eq_getElem?_getD]
  rw [List.getElem?_append_right Q2,List.getElem?_drop]
  congr 2
  omega
 have e2:(ints q (j6 l m))[i]'(by rw [bW,d];exact hi)=(ints q l)[i]'(by rw [bW];exact hi):=by
  simp only [ints,List.getElem_map,j6]
  rw [List.getElem_append_right (by simp;omega)]
  simp only [List.getElem_drop,List.length_take]
  congr 2
  congr 1
  omega
 show Den w _ _ ((ints q (j6 l m))[i]'(by rw [bW,d];exact hi))
 rw [e1,e2]
 exact h2
end
def Jo (P:Program) (s:TypeId) (i:Nat):Option (Nat×Nat) :=
 match P.underlying s with
 | some (.struct fs)=>(fs[i]?).bind fun f=>(P.info? f.type).map fun inf=>(f.offset,inf.size)
 | _=>none
class FP (P:Program) (s:TypeId) (i:Nat) (off:outParam Nat) (sz:outParam Nat):Prop where
 h:Jo P s i=some (off,sz)
 pos:sz≠0
theorem FP.parts {P:Program} {s:TypeId} {i off sz:Nat} (h:FP P s i off sz):∃ fs f inf,P.underlying s=some (.struct fs)/\fs[i]?=some f/\P.info? f.type=some inf/\f.offset=off/\inf.size=sz/\inf.size≠0:=by
 have h1:=h.h
 unfold Jo at h1
 split at h1
 ·rename_i fs hu
  obtain ⟨f,hf,h2⟩:=Option.bind_eq_some_iff.1 h1
  obtain ⟨inf,hi,h3⟩:=Option.map_eq_some_iff.1 h2
  cases h3
  exact ⟨fs,f,inf,hu,hf,hi,rfl,rfl,h.pos⟩
 cases h1
def sinfo (P:Program) (s:TypeId):Option (Nat×List CV×List (Nat×Nat)) :=
 match P.underlying s with
 | some (.struct fs)=>(P.info? s).bind fun inf=>inf.zero.bind fun z=>(match z with | .agg vs=>some (vs.toList.map gH) | _=>none).bind fun cs=>(fs.toList.mapM (fun f:Field=>(P.info? f.type).map fun (i:TypeInfo)=>(f.offset,i.size))).map fun pl=>(inf.size,cs,pl)
 | _=>none
class SI (P:Program) (s:TypeId) (sz:outParam Nat) (cs:outParam (List CV)) (pl:outParam (List (Nat×Nat))):Prop where
 h:sinfo P s=some (sz,cs,pl)
theorem SI.parts {P:Program} {s:TypeId} {sz:Nat} {cs:List CV} {pl:List (Nat×Nat)} (h:SI P s sz cs pl):∃ fs inf vs,P.underlying s=some (.struct fs)/\P.info? s=some inf/\inf.zero=some (.agg vs)/\inf.size=sz/\vs.toList.map gH=cs/\fs.toList.mapM (fun f=>(P.info? f.type).map fun i=>(f.offset,i.size))=some pl:=by
 have h1:=h.h
 unfold sinfo at h1
 split at h1
 ·rename_i fs hu
  obtain ⟨inf,hi,h2⟩:=Option.bind_eq_some_iff.1 h1
  obtain ⟨z,hz,h3⟩:=Option.bind_eq_some_iff.1 h2
  obtain ⟨b,hc,h4⟩:=Option.bind_eq_some_iff.1 h3
  obtain ⟨a,hp,h5⟩:=Option.map_eq_some_iff.1 h4
  cases h5
  split at hc
  ·cases hc
   exact ⟨fs,inf,_,hu,hi,hz,rfl,rfl,hp⟩
  cases hc
 cases h1
class SZ (P:Program) (t:TypeId) (sz:outParam Nat):Prop where
 h:(P.info? t).map (·.size)=some sz
theorem SZ.parts {P:Program} {t:TypeId} {sz:Nat} (h:SZ P t sz):∃ inf,P.info? t=some inf/\inf.size=sz:=by
 have:=h.h
 cases hi:P.info? t with
 | none=>simp [hi] at this
 | some inf=>simp [hi] at this;exact ⟨inf,rfl,this⟩
def plain:TypeDesc->Bool
 | .struct _=>false
 | .array _ _=>false
 | _=>true
section
variable {P:Program} {X:Ctx} {S:St} {o:Oper} {k:Nat} {d:Row}
theorem f_at {s:TypeId} {x:Operand} {i k off fo sz:Nat} [hF:FP P s i fo sz] (ho:o.op = .fieldAddr s x i) (hx:ev S x=some (.po k off)) (hd:S.rows k=some d) (hl:off+fo<d.data.length):Pure P X o S (.po k (off+fo)):=by
 obtain ⟨fs,f,a,h1,h2,h3,rfl,h5,h6⟩:=hF.parts
 exact kE ho h1 h2 h3 h6 hx hd hl
theorem Lr {s:TypeId} {x:Operand} {i fo sz:Nat} {cs:List CV} [hF:FP P s i fo sz] (ho:o.op = .fieldAddr s x i) (hx:ev S x=some (.pr cs)):Pure P X o S (.pr ((cs.drop fo).take sz)):=by
 obtain ⟨fs,f,a,h1,h2,h3,rfl,rfl,h6⟩:=hF.parts
 exact k7 ho h1 h2 h3 h6 hx
theorem f_load {t:TypeId} {ds:TypeDesc} {x:Operand} {off:Nat} {c:CV} [hu:UL P t ds] (ho:o.op = .load t x) (hds:plain ds=true) (hx:ev S x=some (.po k off)) (hd:S.rows k=some d) (hc:d.data[off]?=some c):Pure P X o S (.cv c):=by
 have a:=hu.h
 cases ds<;>first | (cases hds;done) | exact gw ho a rfl hx hd hc
theorem Hd {t:TypeId} {ds:TypeDesc} {x:Operand} {c:CV} {cs:List CV} [hu:UL P t ds] (ho:o.op = .load t x) (hds:plain ds=true) (hx:ev S x=some (.pr cs)) (hc:cs=[c]):Pure P X o S (.cv c):=by
 subst hc
 have a:=hu.h
 cases ds<;>first | (cases hds;done) | exact s9 ho a rfl hx
theorem He {t:TypeId} {x:Operand} {off sz:Nat} {z:List CV} {pl:List (Nat×Nat)} [hS:SI P t sz z pl] (ho:o.op = .load t x) (hx:ev S x=some (.po k off)) (hd:S.rows k=some d) (hl:(off+sz).ble d.data.length=true):Pure P X o S (.ag ((d.data.drop off).take sz)):=by
 obtain ⟨fs,a,vs,h1,h2,h3,rfl,h5,h6⟩:=hS.parts
 exact l5 ho h1 h2 hx hd (Nat.le_of_ble_eq_true hl)
theorem zR {t:TypeId} {x:Operand} {sz:Nat} {z cs:List CV} {pl:List (Nat×Nat)} [hS:SI P t sz z pl] (ho:o.op = .load t x) (hx:ev S x=some (.pr cs)) (hl:cs.length=sz):Pure P X o S (.ag cs):=by
 obtain ⟨fs,a,vs,h1,h2,h3,rfl,h5,h6⟩:=hS.parts
 exact rL ho h1 h2 hl hx
theorem f_get {s:TypeId} {x:Operand} {i fo sz:Nat} {cs:List CV} {c:CV} {ds:TypeDesc} {ft:TypeId} [hF:FP P s i fo sz] (ho:o.op = .field s x i) (hx:ev S x=some (.ag cs)) (hft:(match P.underlying s with | some (.struct fs)=>(fs[i]?).bind fun (f:Field)=>P.underlying f.type | _=>none)=some ds) (hds:plain ds=true) (hc:cs[fo]?=some c):Pure P X o S (.cv c):=by
 obtain ⟨fs,f,a,h1,h2,h3,rfl,h5,h6⟩:=hF.parts
 rw [h1] at hft
 simp only [h2,Option.bind_some] at hft
 cases ds<;>first | (cases hds;done) | exact vJ ho h1 h2 hft rfl hx hc
theorem Lq {t:TypeId} {ps:Array (Nat×Operand)} {sz:Nat} {z cs:List CV} {pl:List (Nat×Nat)} {qs:List (Nat×List CV)} [hS:SI P t sz z pl] (ho:o.op = .build t ps) (hq:parts S ps.toList=some qs) (hf:gT (pl.toArray[·]?) z qs=some cs):Pure P X o S (.ag cs):=by
 obtain ⟨fs,a,vs,h1,h2,h3,h4,rfl,h6⟩:=hS.parts
 exact qI ho h1 h2 h3 h6 hq hf
theorem x_box {e:TypeId} {x:Operand} {p:PV} {cs:List CV} {k:Tmp} (ho:o.op = .box e x) (hk':o.dst=some k) (hx:ev S x=some p) (hc:dZ p=some cs) (hp:Nat.ble 1 cs.length=true) (hk:S.rows k=none) (hd:dg X (some k)) (hkl:k≠bY:=by decide) (hsh:(Nat.ble opened k||cs.all fN)=true:=by rfl):dR P X o S (put (setRow S k ⟨e,cs.length,1,cs⟩) (some k) (.po k 0)):=by
 have:=to_box (P:=P) (X:=X) (S:=S) k ho hx hc (Nat.le_of_ble_eq_true hp) hk hkl (by rw [hk'];exact hd) hsh
 rw [hk'] at this
 exact this
theorem Kg {e:TypeId} {k:Tmp} {sz:Nat} {z:List CV} {pl:List (Nat×Nat)} [hS:SI P e sz z pl] (ho:o.op = .alloc e) (hk':o.dst=some k) (hp:Nat.ble 1 z.length=true) (hk:S.rows k=none) (hd:dg X (some k)) (hkl:k≠bY:=by decide):dR P X o S (put (setRow S k ⟨e,z.length,1,z⟩) (some k) (.po k 0)):=by
 obtain ⟨fs,a,vs,h1,h2,h3,h4,rfl,h6⟩:=hS.parts
 have:=AG (P:=P) (X:=X) (S:=S) k ho h2 h3 (cs:=vs.toList.map gH) rfl (by
  refine ⟨by simp [Value.cells],fun i h=>?_⟩
  have h':i<vs.size:=by simpa using h
  have e:(Value.agg vs).cells.getD i undef=vs[i]:=by
   show vs.getD i undef=_
   rw [Array.getD_eq_getD_getElem?,Array.getElem?_eq_getElem h']
   rfl
  rw [e]
  simp) (Nat.le_of_ble_eq_true hp) hk hkl (by rw [hk'];exact hd)
 rw [hk'] at this
 exact this
theorem Lp {t:TypeId} {x y:Operand} {off sz:Nat} {p:PV} {cs:List CV} [hZ:SZ P t sz] (ho:o.op = .store t x y) (hx:ev S x=some (.po k off)) (hd:S.rows k=some d) (hy:ev S y=some p) (hc:dZ p=some cs) (h1:cs.all one=true) (hs:cs.length=sz) (hl:(off+cs.length).ble d.data.length=true) (hsh:(Nat.ble opened k||cs.all fN)=true:=by rfl):dR P X o S (drop (setRow S k { d with data:=splice d.data off cs }) o.dst):=by
 obtain ⟨a,g1,rfl⟩:=hZ.parts
 exact rz ho g1 hx hd hy hc h1 hs (Nat.le_of_ble_eq_true hl) hsh
theorem KB {t:TypeId} {x:Operand} {lo hi:Option Operand} {s:ByteArray} {l h:Int} [hu:UL P t .string] (ho:o.op = .slice t x lo hi none) (hx:ev S x=some (.str s)) (hl:bound S 0 lo=some l) (hh:bound S s.size hi=some h) (h0:0<=l) (h1:l<=h) (h2:h<=s.size):Pure P X o S (.str (s.extract l.toNat h.toNat)):=iU ho hu.h hx hl hh h0 h1 h2
theorem Il {t:TypeId} {x:Operand} {lo:Option Operand} {s:ByteArray} {l:Int} [hu:UL P t .string] (ho:o.op = .slice t x lo none none) (hx:ev S x=some (.str s)) (hl:bound S 0 lo=some l) (h0:0<=l) (h1:l<=s.size):Pure P X o S (.str (s.extract l.toNat s.size)):=by
 have:=iU (X:=X) ho hu.h hx hl rfl h0 h1 (Int.le_refl _)
 rwa [Int.toNat_natCast] at this
theorem Im {t:TypeId} {x:Operand} {hi:Option Operand} {s:ByteArray} {h:Int} [hu:UL P t .string] (ho:o.op = .slice t x none hi none) (hx:ev S x=some (.str s)) (hh:bound S s.size hi=some h) (h1:0<=h) (h2:h<=s.size):Pure P X o S (.str (s.extract 0 h.toNat)):=iU (X:=X) (l:=0) ho hu.h hx rfl hh (Int.le_refl _) h1 h2
theorem s_eq {t t':TypeId} {x y:Operand} {a b:ByteArray} (ho:o.op = .binOp .eql t x y t') (hx:ev S x=some (.str a)) (hy:ev S y=some (.str b)):Pure P X o S (.bool (a.toList==b.toList)):=rJ ho hx hy (.inl ⟨rfl,rfl⟩)
theorem s_ne {t t':TypeId} {x y:Operand} {a b:ByteArray} (ho:o.op = .binOp .neq t x y t') (hx:ev S x=some (.str a)) (hy:ev S y=some (.str b)):Pure P X o S (.bool (!(a.toList==b.toList))):=rJ ho hx hy (.inr ⟨rfl,rfl⟩)
theorem toList_data (b:ByteArray):b.toList=b.data.toList:=Lib.toList_data b
theorem s_eqC {t t':TypeId} {x:Operand} {a b:ByteArray} (ho:o.op = .binOp .eql t x (.const (.string b)) t') (hx:ev S x=some (.str a)) {l:List UInt8} (hl:b.data.toList=l):Pure P X o S (.bool (a.toList==l)):=by
 rw [<- hl,<- toList_data]
 exact s_eq ho hx rfl
theorem s_neC {t t':TypeId} {x:Operand} {a b:ByteArray} (ho:o.op = .binOp .neq t x (.const (.string b)) t') (hx:ev S x=some (.str a)) {l:List UInt8} (hl:b.data.toList=l):Pure P X o S (.bool (a.toList != l)):=by
 rw [<- hl,<- toList_data]
 exact s_ne ho hx rfl
section
variable {t t':TypeId} {x y:Operand} {a b:Int}
theorem a8 (ho:o.op = .binOp .add t x y t') (hx:ev S x=some (.int .u8 a)) (hy:ev S y=some (.int .u8 b)):Pure P X o S (.int .u8 ((a+b) % 256)):=by
 have:=eN (P:=P) (X:=X) ho hx hy (.inl rfl) rfl
 rwa [IntKind.wrap_u8] at this
theorem s8 (ho:o.op = .binOp .sub t x y t') (hx:ev S x=some (.int .u8 a)) (hy:ev S y=some (.int .u8 b)):Pure P X o S (.int .u8 ((a-b) % 256)):=by
 have:=eN (P:=P) (X:=X) ho hx hy (.inl rfl) rfl
 rwa [IntKind.wrap_u8] at this
theorem m8 (ho:o.op = .binOp .mul t x y t') (hx:ev S x=some (.int .u8 a)) (hy:ev S y=some (.int .u8 b)):Pure P X o S (.int .u8 ((a*b) % 256)):=by
 have:=eN (P:=P) (X:=X) ho hx hy (.inl rfl) rfl
 rwa [IntKind.wrap_u8] at this
end
class Fits (m:Nat) (k:IntKind):Prop where
 h:∀ n:Int,0<=n->n<m->k.wrap n=n
instance:Fits 4294967296 .u64:=⟨fun n h0 h1=>by rw [IntKind.wrap_u64];omega⟩
instance:Fits 4294967296 .i64:=⟨fun n h0 h1=>by rw [zN];unfold wrap64;omega⟩
instance:Fits 256 .u64:=⟨fun n h0 h1=>by rw [IntKind.wrap_u64];omega⟩
instance:Fits 256 .i64:=⟨fun n h0 h1=>by rw [zN];unfold wrap64;omega⟩
instance:Fits 256 .u32:=⟨fun n h0 h1=>by rw [IntKind.wrap_u32];omega⟩
theorem cm32 {s d':TypeId} {x:Operand} {a:Int} {k k':IntKind} {ds:TypeDesc} [UL P s ds] [UL P d' (.int k')] [hf:Fits 4294967296 k'] (ho:o.op = .convert s d' x) (hx:ev S x=some (.int k (a % 4294967296))):Pure P X o S (.int k' (a % 4294967296)):=by
 have:=jA (P:=P) (X:=X) ho (UL.h (t:=s)) (UL.h (t:=d')) hx
 rwa [hf.h _ Q2 Q2] at this
theorem cm8 {s d':TypeId} {x:Operand} {a:Int} {k k':IntKind} {ds:TypeDesc} [UL P s ds] [UL P d' (.int k')] [hf:Fits 256 k'] (ho:o.op = .convert s d' x) (hx:ev S x=some (.int k (a % 256))):Pure P X o S (.int k' (a % 256)):=by
 have:=jA (P:=P) (X:=X) ho (UL.h (t:=s)) (UL.h (t:=d')) hx
 rwa [hf.h _ Q2 Q2] at this
theorem w_win {t e e':TypeId} {z:Value} {b:Nat} {x:Operand} {lo hi:Option Operand} {q:IntKind} {l:List Int} {i j:Int} [hu:UL P t (.slice e)] [hi':IF P e z 1 b] (ho:o.op = .slice t x lo hi none) (hx:ev S x=some (.own k)) (hk:S.rows k=some (dh e' q l)) (hl:bound S 0 lo=some i) (hh:bound S l.length hi=some j) (hn:0<l.length) (h0:0<=i) (h1:i<=j) (h2:j<=l.length):Pure P X o S (.win k i.toNat (j.toNat-i.toNat)):=by
 obtain ⟨a,g1,g2,g3,g4⟩:=hi'.h.parts
 exact II (X:=X) ho hu.h g1 hx hk (by rw [g3]) hn hl hh h0 h1 h2
theorem G7 {c:Call} {x:Operand} {t e e':TypeId} {q:IntKind} {l m:List Int} [hu:UL P t (.slice e)] (ho:o.op = .call c) (hc:c.callee = .builtin .len) (ha:c.args = #[x]) (ht:c.argTypes = #[t]) (hx:ev S x=some (.own k)) (hk:S.rows k=some (dh e' q (j6 l m))):Pure P X o S (.int .i64 l.length):=by
 have e1:(j6 l m).length=l.length:=by
  simp only [j6,List.length_append,List.length_take,List.length_drop]
  omega
 rw [<- e1]
 exact yu ho hc ha ht hu.h hx hk
theorem b_eq {t t':TypeId} {x y:Operand} {a b:Bool} [hu:UL P t .bool] (ho:o.op = .binOp .eql t x y t') (hx:ev S x=some (.bool a)) (hy:ev S y=some (.bool b)):Pure P X o S (.bool (a==b)):=rN ho hu.h hx hy (.inl ⟨rfl,rfl⟩)
theorem b_ne {t t':TypeId} {x y:Operand} {a b:Bool} [hu:UL P t .bool] (ho:o.op = .binOp .neq t x y t') (hx:ev S x=some (.bool a)) (hy:ev S y=some (.bool b)):Pure P X o S (.bool (a != b)):=rN ho hu.h hx hy (.inr ⟨rfl,rfl⟩)
theorem s_of {s d':TypeId} {x:Operand} {e:TypeId} {xs:List Int} [hs:UL P s (.slice e)] [hd:UL P d' .string] [he:UL P e (.int .u8)] (ho:o.op = .convert s d' x) (hx:ev S x=some (.ints .u8 xs)):Pure P X o S (.str (strOfNums xs)):=by
 intro L a w r
 have h:=r.ev hx
 generalize hv:a.eval x=v at h
 cases h with
 | cv hden =>
  obtain ⟨sp,sc,rfl,h2⟩:=zX hden
  refine ⟨.string (strOfNums xs),?_,.cv (.lit _)⟩
  have hr:(convert s d' (.slice sp xs.length sc)).run P w = .ok (.string (strOfNums xs)) w:=by
   rcases Nat.eq_zero_or_pos xs.length with h0 | h0
   ·obtain rfl:xs=[]:=List.eq_nil_of_length_eq_zero h0
    cases sp with
    | none=>exact run_convert_bytes_nil w s e hs.h he.h 0 sc d' hd.h
    | some ad =>
     have hl:(loadCells ad 0).run P w = .ok (([]:List Int).map (Value.int .u8)).toArray w:=run_loadCells_list (P:=P) w ad [] (fun j v hj=>by simp at hj)
     rw [show ([]:List Int).length=0 from rfl,run_convert_bytes_string w s d' e _ 0 sc hs.h he.h hd.h,run_bytesToString w ad 0 sc _ hl,foldl_push_bytes]
     simp [strOfNums,ByteArray.empty,ByteArray.emptyWithCapacity]
     rfl
   obtain ⟨ad,vs,rfl,h3,h4⟩:=h2 (by rw [bW];exact h0)
   have hl:(loadCells ad xs.length).run P w = .ok (xs.map (Value.int .u8)).toArray w:=by
    have:=run_loadCells_list (P:=P) w ad (xs.map (Value.int .u8)) (fun j v hj=>by
     obtain ⟨c,rfl⟩:=List.getElem?_eq_some_iff.1 hj
     have b:j<(ints .u8 xs).length:=by simpa [ints] using c
     rw [h3 j b]
     have h5:=h4 j b
     simp only [ints,List.getElem_map] at h5 ⊢
     rw [(cO.cv (rows:=nr) (L:=nl) h5).lit])
    simpa using this
   rw [run_convert_bytes_string w s d' e _ xs.length sc hs.h he.h hd.h,run_bytesToString w ad xs.length sc xs hl,foldl_push_bytes]
   simp [strOfNums,ByteArray.empty,ByteArray.emptyWithCapacity]
   rfl
  simp [execOp,ho,hv,hr]
theorem G5 (q:IntKind) (xs:List Int) (vs:List Value) (w:World) (F:Fo) (hl:vs.length=xs.length) (h:∀ i (h:i<(ints q xs).length),Den w F (vs.getD i undef) (ints q xs)[i]):vs=GS q xs:=by
 refine List.ext_getElem (by simp [GS,hl]) (fun i h1 h2=>?_)
 have:=h i (by rw [bW];omega)
 simp only [ints,List.getElem_map] at this
 have e:=(cO.cv (rows:=nr) (L:=nl) this).lit
 simp only [List.getD_eq_getElem?_getD,List.getElem?_eq_getElem h1,Option.getD_some] at e
 rw [e]
 simp [GS]
theorem Io {s d':TypeId} {x:Operand} {e e':TypeId} {xs:List Int} [hs:UL P s (.slice e)] [hd:UL P d' .string] [he:UL P e (.int .u8)] (ho:o.op = .convert s d' x) (hx:ev S x=some (.own k)) (hk:S.rows k=some (dh e' .u8 xs)):Pure P X o S (.str (strOfNums xs)):=by
 intro L a w r
 have h:=r.ev hx
 obtain ⟨ys,q1,q2,q3⟩:=r.row k _ hk
 generalize hv:a.eval x=v at h
 have own:v=L k:=by cases h with | own h=>rfl
 have e1:=G5 .u8 xs ys w _ (by rw [q2,bW]) q3
 rw [e1] at q1
 have hr:=D3 (P:=P) (w:=w) (src:=s) (dst:=d') hs.h he.h hd.h q1
 refine ⟨.string (strOfNums xs),?_,.cv (.lit _)⟩
 rw [<- own] at hr
 simp [execOp,ho,hv,hr]
theorem o_max {c:Call} {x y:Operand} {ts:Array TypeId} {kk:IntKind} {a b:Int} (ho:o.op = .call c) (hc:c.callee = .builtin .max) (ha:c.args = #[x,y]) (hx:ev S x=some (.int kk a)) (hy:ev S y=some (.int kk b)):Pure P X o S (.int kk (mx a b)):=by
 intro L z w r
 refine ⟨.int kk (mx a b),?_,.cv (.lit _)⟩
 simp [execOp,ho,resolve,hc,ha,invoke,builtin,(r.ev hx).lit,(r.ev hy).lit,zI,wb,mx]
theorem o_min {c:Call} {x y:Operand} {ts:Array TypeId} {kk:IntKind} {a b:Int} (ho:o.op = .call c) (hc:c.callee = .builtin .min) (ha:c.args = #[x,y]) (hx:ev S x=some (.int kk a)) (hy:ev S y=some (.int kk b)):Pure P X o S (.int kk (mn a b)):=by
 intro L z w r
 refine ⟨.int kk (mn a b),?_,.cv (.lit _)⟩
 simp [execOp,ho,resolve,hc,ha,invoke,builtin,(r.ev hx).lit,(r.ev hy).lit,zH,vZ,mn]
theorem EX {t e:TypeId} {b:Nat} {q:IntKind} {k:Tmp} [hu:UL P t (.slice e)] [hi:IF P e (.int q 0) 1 b] (ho:o.op = .buildSlice t 0 #[]) (hk':o.dst=some k) (hk:S.rows k=none) (hd:dg X (some k)) (hkl:k≠bY:=by decide):dR P X o S (put (setRow S k (dh e q [])) (some k) (.own k)):=by
 obtain ⟨a,g1,g2,g3,g4⟩:=hi.h.parts
 have:=qC (X:=X) (S:=S) (P:=P) (cs:=[]) (qs:=[]) k ho hu.h g1 g2 Q2 Q2 (by decide) rfl (by rw [g3,show (Value.int q 0).cells = #[Value.int q 0] from rfl,Nat.mul_one,toList_madeCells_one,List.map_replicate];rfl) hk hkl (by rw [hk'];exact hd) Q3
 rw [hk',g3] at this
 exact this
end
def lW {α:Type}:List (Nat×α)->(Nat->α)->Nat->α
 | [],e=>e
 | x :: l,e=>fun t=>if t=x.1 then x.2 else lW l e t
def sO (l:List (Nat×Option PV)) (m:List (Nat×Option Row)) (S:St):St:=⟨lW l S.env,lW m S.rows⟩
def fA {α:Type}:List (Nat×α)->(Nat->α)->Prop
 | [],_=>True
 | x :: l,e=>e x.1=x.2/\fA l e
structure Meta where
 rt:List Nat
 rr:List Nat
 wt:List Nat
 wr:List Nat
 kl:Option Nat:=none
 rf:Option (List Nat):=none
abbrev m4 (rt rr wt wr:List Nat):Meta:=⟨rt,rr,wt,wr,none,none⟩
structure uP where
 rT:List (Nat×Option PV)
 rR:List (Nat×Option Row)
 wT:List (Nat×Option PV)
 wR:List (Nat×Option Row)
 rS:List (Nat×Row):=[]
 kl:Option Nat:=none
def kN:CV->CV->Prop
 | .any,c=>c = .any∨∃ j,c = .own j
 | c,c'=>c'=c
structure ju (d d':Row):Prop where
 e:d'.e=d.e
 sz:d'.sz=d.sz
 n:d'.n=d.n
 len:d'.data.length=d.data.length
 le:∀ i (h:i<d.data.length) (h':i<d'.data.length),kN d.data[i] d'.data[i]
theorem lC (c:CV):kN c c:=by
 cases c<;>first | rfl | exact .inl rfl
theorem ju.refl (d:Row):ju d d:=⟨rfl,rfl,rfl,rfl,fun i h h'=>lC _⟩
def mc (k:Option Nat) (S:St):St:=match k with
 | some k=>kill S k
 | none=>S
def yi (cs:List CV) (l:List Nat):Prop:=∀ k,cs.any (ik k)=true->k∈l
structure Calm (s:uP) (l:List Nat):Prop where
 rT:∀ x∈s.rT,∃ p,x.2=some p/\∀ k,fm k p=true->k∈l
 rR:∀ x∈s.rR,Nat.ble opened x.1=true->x.2=none
 rS:∀ x∈s.rS,yi x.2.data l
 wT:∀ x∈s.wT,∀ p,x.2=some p->∀ k,fm k p=true->k∈l
 wR:∀ x∈s.wR,∀ d,x.2=some d->Nat.ble opened x.1=true->yi d.data l
structure tZ (s:uP) (m:Meta):Prop where
 kl:s.kl=m.kl
 rS:∀ x∈s.rS,x.1∈m.rr
 calm:∀ l,m.rf=some l->Calm s l
def gX {α:Type} (l:List (Nat×α)) (m:List Nat):Bool:=l.all fun x=>m.contains x.1
def j9 (s:uP) (m:Meta):Bool:=gX s.rT m.rt&&gX s.rR m.rr&&gX s.wT m.wt&&gX s.wR m.wr
section
variable {α:Type}
theorem sR:∀ {l:List (Nat×α)} {e:Nat->α},fA l e->lW l e=e
 | [],e,_=>rfl
 | x :: l,e,h=>by
  simp only [lW]
  rw [sR h.2]
  funext t
  split
  ·rename_i c;rw [c];exact h.1.symm
  rfl
theorem sT:∀ {l:List (Nat×α)} {e:Nat->α} {t:Nat} {m:List Nat},gX l m=true->m.contains t=false->lW l e t=e t
 | [],e,t,m,_,_=>rfl
 | x :: l,e,t,m,h,hm=>by
  simp only [gX,List.all_cons,Bool.and_eq_true] at h
  simp only [lW]
  rw [if_neg (fun c=>by subst c;rw [h.1] at hm;cases hm)]
  exact sT (m:=m) h.2 hm
theorem vg:∀ {l:List (Nat×α)} {e e':Nat->α} {t:Nat},(l.map (·.1)).contains t=true->lW l e t=lW l e' t
 | [],e,e',t,h=>by simp at h
 | x :: l,e,e',t,h=>by
  simp only [lW]
  by_cases c:t=x.1
  ·rw [if_pos c,if_pos c]
  rw [if_neg c,if_neg c]
  refine vg ?_
  simp only [List.map_cons,List.contains_cons,Bool.or_eq_true,beq_iff_eq] at h
  exact h.resolve_left c
theorem lV:∀ {l:List (Nat×α)} {e:Nat->α} {t:Nat},(l.map (·.1)).contains t=false->lW l e t=e t
 | [],e,t,h=>rfl
 | x :: l,e,t,h=>by
  simp only [List.map_cons,List.contains_cons,Bool.or_eq_false_iff,beq_eq_false_iff_ne] at h
  simp only [lW]
  rw [if_neg h.1]
  exact lV h.2
theorem xG {l:List (Nat×α)} {m:List Nat} {t:Nat} (h:gX l m=true) (ht:(l.map (·.1)).contains t=true):m.contains t=true:=by
 simp only [gX,List.all_eq_true] at h
 simp only [List.contains_iff_mem,List.mem_map] at ht
 obtain ⟨x,hx,rfl⟩:=ht
 exact h x hx
theorem xD {l l':List (Nat×α)} {m m':List Nat} (h:gX l m=true) (h':gX l' m'=true) (hd:m.any (m'.contains ·)=false) (e:Nat->α):lW l (lW l' e)=lW l' (lW l e):=by
 funext t
 by_cases c:(l.map (·.1)).contains t=true
 ·have c':(l'.map (·.1)).contains t=false:=by
   cases hc:(l'.map (·.1)).contains t with
   | false=>rfl
   | true =>
    have h1:=xG h c
    have h2:=xG h' hc
    rw [List.any_eq_false] at hd
    exact absurd h2 (by simpa using hd t (by simpa using h1))
  rw [lV c',vg c]
 have c1:(l.map (·.1)).contains t=false:=by simpa using c
 rw [lV c1]
 by_cases c':(l'.map (·.1)).contains t=true
 ·exact vg c'
 have c2:(l'.map (·.1)).contains t=false:=by simpa using c'
 rw [lV c2,lV c2,lV c1]
theorem pY {l l':List (Nat×α)} {m m':List Nat} (h:gX l m=true) (h':gX l' m'=true) (hd:m.any (m'.contains ·)=false) (e:Nat->α):fA l (lW l' e)↔fA l e:=by
 have a:∀ (l:List (Nat×α)),gX l m=true->(fA l (lW l' e)↔fA l e):=by
  intro l
  induction l with
  | nil=>intro _;exact Iff.rfl
  | cons x l ih =>
   intro h
   simp only [gX,List.all_cons,Bool.and_eq_true] at h
   simp only [fA]
   have hx:m'.contains x.1=false:=by
    rw [List.any_eq_false] at hd
    simpa using hd x.1 (by simpa using h.1)
   rw [sT h' hx,ih h.2]
 exact a l h
end
def uP.go (s:uP) (S:St):St:=sO s.wT s.wR (mc s.kl S)
structure uP.fits (s:uP) (S:St):Prop where
 rT:fA s.rT S.env
 rR:fA s.rR S.rows
 rS:∀ x∈s.rS,∃ d,S.rows x.1=some d/\ju x.2 d
theorem HN {l:List (Nat×Option PV)} {m:List (Nat×Option Row)} {S:St} (h:fA l S.env) (h':fA m S.rows):sO l m S=S:=by
 unfold sO
 rw [sR h,sR h']
def meets (a b:List Nat):Bool:=a.any (b.contains ·)
def qT (k:Option Nat) (rf:Option (List Nat)):Bool:=match k,rf with
 | none,_=>false
 | some _,none=>true
 | some k,some l=>l.contains k
def Meta.kv (a b:Meta):Bool:=meets a.wt b.wt||meets a.wr b.wr||meets a.rt b.wt||meets a.rr b.wr||meets b.rt a.wt||meets b.rr a.wr||qT a.kl b.rf||qT b.kl a.rf
theorem ou {S S':St} (h:S.env=S'.env) (h':S.rows=S'.rows):S=S':=by
 cases S
 cases S'
 cases h
 cases h'
 rfl
theorem G0 (S:St) (k j:Nat):kill (kill S k) j=kill (kill S j) k:=by
 have e1:(kill (kill S k) j).env=(kill (kill S j) k).env:=by
  funext t
  simp only [kill]
  cases S.env t with
  | none=>rfl
  | some p=>by_cases h1:fm k p=true<;>by_cases h2:fm j p=true<;>simp [h1,h2]
 have e2:(kill (kill S k) j).rows=(kill (kill S j) k).rows:=by
  funext i
  simp only [kill,Option.map_map]
  congr 1
  funext d
  simp only [Function.comp,eV]
  cases Nat.ble opened i with
  | false=>rfl
  | true =>
   simp only [cond_true,List.map_map]
   congr 1
   refine List.map_congr_left (fun c _=>?_)
   cases c with
   | own q=>cases h1:Nat.beq q k<;>cases h2:Nat.beq q j<;>simp [Function.comp,lk,h1,h2]
   | _=>rfl
 exact ou e1 e2
theorem Ew (S:St) (k j:Option Nat):mc j (mc k S)=mc k (mc j S):=by
 cases k with
 | none=>rfl
 | some k=>cases j with
  | none=>rfl
  | some j=>exact G0 S k j
theorem wy {k j:Nat} {d:Row} (h:Nat.ble opened j=true->d.data.any (ik k)=false):eV k j d=d:=by
 unfold eV
 cases e:Nat.ble opened j with
 | false=>rfl
 | true =>
  simp only [cond_true]
  have h:=h e
  rw [List.any_eq_false] at h
  have:d.data.map (lk k)=d.data:=by
   conv=>rhs;rw [<- List.map_id d.data]
   refine List.map_congr_left (fun c hc=>?_)
   cases c with
   | own q =>
    have:=h _ hc
    simp only [ik,Bool.not_eq_true] at this
    simp only [lk,this,cond_false,id]
   | _=>rfl
  rw [this]
theorem Je {k:Nat} {S:St} {l:List (Nat×Option PV)} {m:List (Nat×Option Row)} (h:∀ x∈l,∀ p,x.2=some p->fm k p=false) (h':∀ x∈m,∀ d,x.2=some d->Nat.ble opened x.1=true->d.data.any (ik k)=false):kill (sO l m S) k=sO l m (kill S k):=by
 have e1:(kill (sO l m S) k).env=(sO l m (kill S k)).env:=by
  funext t
  simp only [kill,sO]
  induction l with
  | nil=>rfl
  | cons x l ih =>
   simp only [lW]
   by_cases c:t=x.1
   ·rw [if_pos c,if_pos c]
    cases hx:x.2 with
    | none=>rfl
    | some p=>simp [h x List.mem_cons_self p hx]
   rw [if_neg c,if_neg c]
   exact ih (fun y hy=>h y (List.mem_cons_of_mem _ hy))
 have e2:(kill (sO l m S) k).rows=(sO l m (kill S k)).rows:=by
  clear e1
  funext t
  simp only [kill,sO]
  induction m with
  | nil=>rfl
  | cons x m ih =>
   simp only [lW]
   by_cases c:t=x.1
   ·rw [if_pos c,if_pos c]
    cases hx:x.2 with
    | none=>rfl
    | some d =>
     simp only [Option.map_some,Option.some.injEq]
     exact wy (fun ho=>h' x List.mem_cons_self d hx (by rw [<- c];exact ho))
   rw [if_neg c,if_neg c]
   exact ih (fun y hy=>h' y (List.mem_cons_of_mem _ hy))
 exact ou e1 e2
theorem AD {k:Nat} {p:PV} {l:List Nat} (h:∀ k,fm k p=true->k∈l) (hk:l.contains k=false):fm k p=false:=by
 cases c:fm k p with
 | false=>rfl
 | true =>
  have:=h k c
  simp [this] at hk
theorem BL {k:Nat} {cs:List CV} {l:List Nat} (h:yi cs l) (hk:l.contains k=false):cs.any (ik k)=false:=by
 cases c:cs.any (ik k) with
 | false=>rfl
 | true =>
  have:=h k c
  simp [this] at hk
theorem Calm.go {s:uP} {l:List Nat} (h:Calm s l) {k:Nat} (hk:l.contains k=false) (S:St):kill (sO s.wT s.wR S) k=sO s.wT s.wR (kill S k) :=
 Je (fun x hx p hp=>AD (h.wT x hx p hp) hk) (fun x hx d hd ho=>BL (h.wR x hx d hd ho) hk)
theorem Jf {k:Nat} {c d:CV} (h:ik k d=false):kN d (lk k c)↔kN d c:=by
 cases c with
 | own q =>
  cases hq:Nat.beq q k with
  | false=>simp only [lk,hq,cond_false]
  | true =>
   simp only [lk,hq,cond_true]
   have e:=Nat.eq_of_beq_eq_true hq
   subst e
   cases d with
   | any =>
    constructor
    ·intro _;exact Or.inr ⟨q,rfl⟩
    intro _;exact Or.inl rfl
   | own j =>
    constructor
    ·intro h2;cases h2
    intro h2
    have e:CV.own q=CV.own j:=h2
    cases e
    simp only [ik,hq] at h
    cases h
   | lit v =>
    constructor
    ·intro h2;cases h2
    intro h2;cases h2
   | row n cs =>
    constructor
    ·intro h2;cases h2
    intro h2;cases h2
 | _=>exact Iff.rfl
theorem Ch {k j:Nat} {d x:Row} (h:d.data.any (ik k)=false):ju d (eV k j x)↔ju d x:=by
 obtain ⟨s1,s2,s3,s4⟩:=mb k j x
 have a:∀ i (h1:i<d.data.length) (h2:i<x.data.length) (h3:i<(eV k j x).data.length),kN d.data[i] (eV k j x).data[i]↔kN d.data[i] x.data[i]:=by
  intro i h1 h2 h3
  rw [List.any_eq_false] at h
  have hd:=h _ (List.getElem_mem h1)
  cases e:Nat.ble opened j with
  | false =>
   have e1:(eV k j x).data[i]=x.data[i]:=by simp only [eV,e,cond_false]
   rw [e1]
  | true =>
   have e1:(eV k j x).data[i]=lk k x.data[i]:=by simp only [eV,e,cond_true,List.getElem_map]
   rw [e1]
   exact Jf (by simpa using hd)
 constructor
 ·intro g
  exact ⟨s1 ▸ g.e,s2 ▸ g.sz,s3 ▸ g.n,s4 ▸ g.len,fun i h1 h2=>(a i h1 h2 Q2).1 (g.le i h1 Q2)⟩
 intro g
 exact ⟨s1.trans g.e,s2.trans g.sz,s3.trans g.n,s4.trans g.len,fun i h1 h2=>(a i h1 Q2 h2).2 (g.le i h1 Q2)⟩
theorem Calm.fits {s:uP} {l:List Nat} (h:Calm s l) {k:Nat} (hk:l.contains k=false) (S:St):s.fits (kill S k)↔s.fits S:=by
 have a1:fA s.rT (kill S k).env↔fA s.rT S.env:=by
  have a:∀ l:List (Nat×Option PV),(∀ x∈l,∃ p,x.2=some p/\fm k p=false)->(fA l (kill S k).env↔fA l S.env):=by
   intro l
   induction l with
   | nil=>intro _;exact Iff.rfl
   | cons x l ih =>
    intro h
    simp only [fA]
    rw [ih (fun y hy=>h y (List.mem_cons_of_mem _ hy))]
    obtain ⟨p,hp,hu⟩:=h x List.mem_cons_self
    have:(kill S k).env x.1=x.2↔S.env x.1=x.2:=by
     rw [hp]
     constructor
     ·exact fun h=>(su h).1
     intro h;simp only [kill,h,hu];rfl
    rw [this]
  exact a _ (fun x hx=>by obtain ⟨p,hp,hu⟩:=h.rT x hx;exact ⟨p,hp,AD hu hk⟩)
 have a2:fA s.rR (kill S k).rows↔fA s.rR S.rows:=by
  have a:∀ l:List (Nat×Option Row),(∀ x∈l,Nat.ble opened x.1=true->x.2=none)->(fA l (kill S k).rows↔fA l S.rows):=by
   intro l
   induction l with
   | nil=>intro _;exact Iff.rfl
   | cons x l ih =>
    intro h
    simp only [fA]
    rw [ih (fun y hy=>h y (List.mem_cons_of_mem _ hy))]
    have:(kill S k).rows x.1=x.2↔S.rows x.1=x.2:=by
     cases e:Nat.ble opened x.1 with
     | true =>
      rw [h x List.mem_cons_self e]
      simp [kill]
     | false =>
      have:(kill S k).rows x.1=S.rows x.1:=by
       simp only [kill]
       cases S.rows x.1 with
       | none=>rfl
       | some d=>simp only [Option.map_some];rw [wy (fun h=>by rw [e] at h;cases h)]
      rw [this]
    rw [this]
  exact a _ h.rR
 have a3:(∀ x∈s.rS,∃ d,(kill S k).rows x.1=some d/\ju x.2 d)↔(∀ x∈s.rS,∃ d,S.rows x.1=some d/\ju x.2 d):=by
  refine forall_congr' (fun x=>forall_congr' (fun hx=>?_))
  have hc:=BL (h.rS x hx) hk
  constructor
  ·rintro ⟨d,h1,h2⟩
   simp only [kill] at h1
   obtain ⟨d0,h3,rfl⟩:=Option.map_eq_some_iff.1 h1
   exact ⟨d0,h3,(Ch hc).1 h2⟩
  rintro ⟨d,h1,h2⟩
  exact ⟨eV k x.1 d,by simp only [kill,h1,Option.map_some],(Ch hc).2 h2⟩
 constructor
 ·rintro ⟨g1,g2,g3⟩;exact ⟨a1.1 g1,a2.1 g2,a3.1 g3⟩
 rintro ⟨g1,g2,g3⟩;exact ⟨a1.2 g1,a2.2 g2,a3.2 g3⟩
section
variable {P:Program} {X:Ctx} {S:St} {Q:jM} {o:Oper} {ops:Array Oper} {q:St->Prop}
def nF (P:Program) (X:Ctx) (ops:Array Oper) (i:Nat) (S S':St):Prop:=∀ a w,Rel X S a w->wpOp P ops (fun _ _ _=>False) i (fun a' w'=>Rel X S' a' w') a w
def xi (P:Program) (X:Ctx) (ops:Array Oper):Nat->List Meta->St->(St->Prop)->Prop
 | i,[],S,q=>i=ops.size/\q S
 | i,m :: ms,S,q=>∃ s:uP,j9 s m=true/\tZ s m/\s.fits S/\(∀ S0,s.fits S0->nF P X ops i S0 (s.go S0))/\xi P X ops (i+1) ms (s.go S) q
def DB:List uP->St->St
 | [],S=>S
 | s :: l,S=>DB l (s.go S)
theorem ux:∀ (ms:List Meta) (i:Nat) (S:St),xi P X ops i ms S q->∃ ss:List uP,ss.length=ms.length/\i+ms.length=ops.size/\(∀ j (h:j<ss.length) (h':j<ms.length),(j9 ss[j] ms[j]=true/\tZ ss[j] ms[j])/\(∀ S0,ss[j].fits S0->nF P X ops (i+j) S0 (ss[j].go S0))/\ss[j].fits (DB (ss.take j) S))/\q (DB ss S)
 | [],i,S,h=>⟨[],rfl,by simpa using h.1,fun j h=>by simp at h,h.2⟩
 | m :: ms,i,S,h=>by
  obtain ⟨s,h1,h1',h2,h3,h4⟩:=h
  obtain ⟨ss,g1,g2,g3,g4⟩:=ux ms (i+1) _ h4
  refine ⟨s :: ss,by simp [g1],by simp;omega,fun j hj hj'=>?_,g4⟩
  cases j with
  | zero=>exact ⟨⟨h1,h1'⟩,h3,h2⟩
  | succ j =>
   obtain ⟨k1,k2,k3⟩:=g3 j (by simpa using hj) (by simpa using hj')
   refine ⟨k1,?_,k3⟩
   have e:i+(j+1)=i+1+j:=Q2
   rw [e]
   exact k2
def zx (ops:List Oper) (B:List (List Nat)):Bool :=
 (List.range ops.length).all fun j=>match ops[j]? with
  | none=>true
  | some o=>(o.after.toList.all fun e=>!Region.binds .any e||decide (e.on<j))&&((B.getD j []).all fun x=>o.after.toList.any fun e=>Region.binds .any e&&(e.on==x||(B.getD e.on []).contains x))
def zw (ms:List Meta) (B:List (List Nat)):Bool :=
 (List.range ms.length).all fun k=>(List.range k).all fun j=>match ms[j]?,ms[k]? with
  | some a,some b=>!a.kv b||(B.getD k []).contains j
  | _,_=>true
theorem xR (ss:List uP) (S:St):∀ n,n<=ss.length->gJ (fun i s=>((ss[i]?).map (·.go s)).getD s) (fun _=>true) (List.range n) S=DB (ss.take n) S:=by
 have a:∀ (l:List uP) (s:uP) (S:St),DB (l++[s]) S=s.go (DB l S):=by
  intro l
  induction l with
  | nil=>intro s S;rfl
  | cons x l ih=>intro s S;exact ih s _
 intro n
 induction n with
 | zero=>intro _;rfl
 | succ n ih =>
  intro h
  have hn:n<ss.length:=Q2
  rw [List.range_succ,oA,ih Q2,List.take_add_one,List.getElem?_eq_getElem hn]
  simp only [Option.toList_some,a,gJ,if_true,List.getElem?_eq_getElem hn,Option.map_some,Option.getD_some]
theorem rh {a b:Meta} (h:a.kv b=false):meets a.wt b.wt=false/\meets a.wr b.wr=false/\meets a.rt b.wt=false/\meets a.rr b.wr=false/\meets b.rt a.wt=false/\meets b.rr a.wr=false/\qT a.kl b.rf=false/\qT b.kl a.rf=false:=by
 simp only [Meta.kv,Bool.or_eq_false_iff] at h
 obtain ⟨⟨⟨⟨⟨⟨⟨h1,h2⟩,h3⟩,h4⟩,h5⟩,h6⟩,h7⟩,h8⟩:=h
 exact ⟨h1,h2,h3,h4,h5,h6,h7,h8⟩
theorem FH {s:uP} {m:Meta} (h:tZ s m) {k:Option Nat} (hk:qT k m.rf=false) (S:St):mc k (sO s.wT s.wR S)=sO s.wT s.wR (mc k S):=by
 cases k with
 | none=>rfl
 | some k =>
  cases hr:m.rf with
  | none=>rw [hr] at hk;cases hk
  | some l =>
   rw [hr] at hk
   exact (h.calm l hr).go hk S
theorem GZ {s:uP} {m:Meta} (h:tZ s m) {k:Option Nat} (hk:qT k m.rf=false) (S:St):s.fits (mc k S)↔s.fits S:=by
 cases k with
 | none=>exact Iff.rfl
 | some k =>
  cases hr:m.rf with
  | none=>rw [hr] at hk;cases hk
  | some l =>
   rw [hr] at hk
   exact (h.calm l hr).fits hk S
theorem Dv {id:Nat} {ops:List Oper} (ms:List Meta) (B:List (List Nat)) (h:xi P X ops.toArray 0 ms S (fun S'=>Q .normal S')) (hA:zx ops B=true:=by kernel_rfl) (hO:zw ms B=true:=by kernel_rfl) (hm:P.follows .mixedOrders=true:=by kernel_rfl):nG P X (.region id ops.toArray true) S Q:=by
 obtain ⟨ss,h1,h2,h3,h4⟩:=ux ms 0 S h
 have hn:ss.length=ops.toArray.size:=Q2
 simp only [Nat.zero_add] at h3
 have q:∀ j o,ops[j]?=some o->(∀ e∈o.after,Region.binds .any e=true->e.on<j)/\∀ x∈B.getD j [],∃ e∈o.after,Region.binds .any e=true/\(e.on=x∨x∈B.getD e.on []):=by
  intro j o ho
  have hj:j<ops.length:=(List.getElem?_eq_some_iff.1 ho).1
  simp only [zx,List.all_eq_true] at hA
  have:=hA j (by simpa using hj)
  rw [ho] at this
  simp only [Bool.and_eq_true,List.all_eq_true,List.any_eq_true] at this
  refine ⟨fun e he hb=>?_,fun x hx=>?_⟩
  ·have:=this.1 e (by simpa using he)
   simpa [hb] using this
  obtain ⟨e,he,hb,r⟩:=this.2 x hx
  refine ⟨e,by simpa using he,hb,?_⟩
  simpa using r
 let kv:Nat->Nat->Bool:=fun j k=>match ms[j]?,ms[k]? with
  | some a,some b=>a.kv b
  | _,_=>false
 have f:∀ j,j<ops.toArray.size->∃ s m,ss[j]?=some s/\ms[j]?=some m/\(j9 s m=true/\tZ s m)/\(∀ S0,s.fits S0->nF P X ops.toArray j S0 (s.go S0))/\s.fits (DB (ss.take j) S):=by
  intro j hj
  have j1:j<ss.length:=Q2
  have j2:j<ms.length:=Q2
  obtain ⟨k1,k2,k3⟩:=h3 j j1 j2
  exact ⟨ss[j],ms[j],List.getElem?_eq_getElem j1,List.getElem?_eq_getElem j2,k1,k2,k3⟩
 have l:∀ {s:uP} {m:Meta},j9 s m=true->gX s.rT m.rt=true/\gX s.rR m.rr=true/\gX s.wT m.wt=true/\gX s.wR m.wr=true:=by
  intro s m h
  simp only [j9,Bool.and_eq_true] at h
  exact ⟨h.1.1.1,h.1.1.2,h.1.2,h.2⟩
 have symm:∀ a b:List Nat,meets a b=false->meets b a=false:=by
  intro a b h
  simp only [meets,List.any_eq_false] at h ⊢
  intro x hx hc
  have:=h x (by simpa using hc)
  exact this (by simpa using hx)
 refine Gt (ops:=ops.toArray) hm (fun i s=>((ss[i]?).map (·.go s)).getD s) (fun i s=>∀ x,ss[i]?=some x->x.fits s) kv (fun j=>B.getD j []) ?_ ?_ ?_ ?_ ?_ ?_ ?_ ?_
 ·intro j o ho
  exact (q j o (by simpa using ho)).1
 ·intro j o ho
  exact (q j o (by simpa using ho)).2
 ·intro j k hjk hk hc
  simp only [zw,List.all_eq_true] at hO
  have:=hO k (by simp;omega) j (by simpa using hjk)
  obtain ⟨s,m,_,n,_⟩:=f j Q2
  obtain ⟨s',m',_,p,_⟩:=f k hk
  simp only [kv,n,p] at hc
  simp only [n,p,hc] at this
  simpa using this
 ·intro j k hjk hk hc s
  obtain ⟨sj,mj,e1,e2,e3,_⟩:=f j Q2
  obtain ⟨sk,mk,f1,f2,f3,_⟩:=f k hk
  simp only [kv,e2,f2] at hc
  obtain ⟨c1,c2,_,_,_,_,c7,c8⟩:=rh hc
  obtain ⟨_,_,a3,a4⟩:=l e3.1
  obtain ⟨_,_,b3,b4⟩:=l f3.1
  simp only [e1,f1,Option.map_some,Option.getD_some]
  show sO sk.wT sk.wR (mc sk.kl (sO sj.wT sj.wR (mc sj.kl s)))=sO sj.wT sj.wR (mc sj.kl (sO sk.wT sk.wR (mc sk.kl s)))
  rw [FH e3.2 (by rw [f3.2.kl];exact c8),FH f3.2 (by rw [e3.2.kl];exact c7),Ew]
  unfold sO
  rw [xD b3 a3 (symm _ _ c1),xD b4 a4 (symm _ _ c2)]
 ·intro j k hj hk hjk hc s
  obtain ⟨sj,mj,e1,e2,e3,_⟩:=f j hj
  obtain ⟨sk,mk,f1,f2,f3,_⟩:=f k hk
  obtain ⟨a1,a2,_,_⟩:=l e3.1
  obtain ⟨_,_,b3,b4⟩:=l f3.1
  have g:meets mj.rt mk.wt=false/\meets mj.rr mk.wr=false/\qT mk.kl mj.rf=false:=by
   rcases Nat.lt_or_ge j k with c | c
   ·rw [Nat.min_eq_left Q2,Nat.max_eq_right Q2] at hc
    simp only [kv,e2,f2] at hc
    obtain ⟨_,_,c3,c4,_,_,_,c8⟩:=rh hc
    exact ⟨c3,c4,c8⟩
   rw [Nat.min_eq_right Q2,Nat.max_eq_left Q2] at hc
   simp only [kv,e2,f2] at hc
   obtain ⟨_,_,_,_,c5,c6,c7,_⟩:=rh hc
   exact ⟨c5,c6,c7⟩
  simp only [e1,f1,Option.map_some,Option.getD_some,Option.some.injEq,forall_eq']
  rw [<- GZ e3.2 (k:=sk.kl) (by rw [f3.2.kl];exact g.2.2) s]
  have rows:∀ x∈sj.rS,(sk.go s).rows x.1=(mc sk.kl s).rows x.1:=by
   intro x hx
   have hm:mk.wr.contains x.1=false:=by
    have h1:=g.2.1
    simp only [meets,List.any_eq_false] at h1
    simpa using h1 x.1 (e3.2.rS x hx)
   exact sT b4 hm
  constructor
  ·rintro ⟨g1,g2,g3⟩
   refine ⟨(pY a1 b3 g.1 _).1 g1,(pY a2 b4 g.2.1 _).1 g2,fun x hx=>?_⟩
   obtain ⟨d,h1,h2⟩:=g3 x hx
   exact ⟨d,(rows x hx).symm.trans h1,h2⟩
  rintro ⟨g1,g2,g3⟩
  refine ⟨(pY a1 b3 g.1 _).2 g1,(pY a2 b4 g.2.1 _).2 g2,fun x hx=>?_⟩
  obtain ⟨d,h1,h2⟩:=g3 x hx
  exact ⟨d,(rows x hx).trans h1,h2⟩
 ·intro i hi S0 hok a w hr
  obtain ⟨s,m,e1,e2,e3,e4,_⟩:=f i hi
  have hf:=hok s e1
  simp only [e1,Option.map_some,Option.getD_some]
  exact e4 S0 hf a w hr
 ·intro i hi x hx
  obtain ⟨s,m,e1,e2,e3,e4,e5⟩:=f i hi
  rw [e1] at hx
  cases hx
  rw [xR ss S i Q2]
  exact e5
 rw [xR ss S _ Q2,List.take_of_length_le Q2]
 exact h4
theorem bD {i:Nat} {S S' S'':St} (ho:ops[i]?=some o) (hg:o.guard=none) (h:dR P X o S S') (e:S'=S''):nF P X ops i S S'':=by
 subst e
 intro a w r
 unfold wpOp
 rw [ho]
 have hw:Region.wanted o (yielded ops a.tmps)=true:=by simp [Region.wanted,hg]
 simp only [hw,if_true]
 exact .inl (h a w r)
theorem ua {i:Nat} {S S' S'':St} {oj:Oper} {j:Nat} {t:Tmp} {b b':Bool} (ho:ops[i]?=some o) (hg:o.guard=some (j,b)) (hj:ops[j]?=some oj) (ht:oj.dst=some t) (he:S.env t=some (.cv (.lit (.bool b')))) (hb:b'=b) (h:dR P X o S S') (e:S'=S''):nF P X ops i S S'':=by
 subst e
 intro a w r
 obtain ⟨L,r'⟩:=r
 obtain ⟨g1,g2⟩:=r'.env t _ he
 have hy:=qz hj ht (by rw [r'.size];exact g1) g2.lit
 have hw:Region.wanted o (yielded ops a.tmps)=true:=by simp [Region.wanted,hg,hy,hb]
 unfold wpOp
 rw [ho]
 simp only [hw,if_true]
 exact .inl (h a w ⟨L,r'⟩)
theorem yU {i:Nat} {S S'':St} {oj:Oper} {j:Nat} {t:Tmp} {b b':Bool} (ho:ops[i]?=some o) (hg:o.guard=some (j,b)) (hj:ops[j]?=some oj) (ht:oj.dst=some t) (he:S.env t=some (.cv (.lit (.bool b')))) (hb:b' = !b) (hd:dg X o.dst) (e:put S o.dst (.cv (.lit undef))=S''):nF P X ops i S S'':=by
 subst e
 intro a w r
 obtain ⟨L,r'⟩:=r
 obtain ⟨g1,g2⟩:=r'.env t _ he
 have hy:=qz hj ht (by rw [r'.size];exact g1) g2.lit
 have hw:Region.wanted o (yielded ops a.tmps)=false:=by simp [Region.wanted,hg,hy,hb]
 unfold wpOp
 rw [ho]
 simp only [hw,Bool.false_eq_true,if_false]
 exact ⟨L,r'.put hd (.cv (.lit _))⟩
theorem yT {i:Nat} {S S'':St} {oj:Oper} {j:Nat} {t:Tmp} {b:Bool} (ho:ops[i]?=some o) (hg:o.guard=some (j,b)) (hj:ops[j]?=some oj) (ht:oj.dst=some t) (he:S.env t=some (.cv (.lit undef))) (hd:dg X o.dst) (e:put S o.dst (.cv (.lit undef))=S''):nF P X ops i S S'':=by
 subst e
 intro a w r
 obtain ⟨L,r'⟩:=r
 obtain ⟨g1,g2⟩:=r'.env t _ he
 have hy:=ry hj ht (by rw [r'.size];exact g1) g2.lit
 have hw:Region.wanted o (yielded ops a.tmps)=false:=by simp [Region.wanted,hg,hy]
 unfold wpOp
 rw [ho]
 simp only [hw,Bool.false_eq_true,if_false]
 exact ⟨L,r'.put hd (.cv (.lit _))⟩
end
theorem F1 (l m:List Int):(j6 l m).length=l.length:=by
 simp only [j6,List.length_append,List.length_take,List.length_drop]
 omega
theorem bd {p:Prop} (h:p:=by first
 | assumption
 | omega
 | decide
 | (simp only [List.length_set,List.length_append,List.length_replicate,F1,List.length_cons,List.length_nil,List.length_take,List.length_drop];first | assumption | omega)
 | (simp only [ne_eq,decide_eq_true_eq,decide_eq_false_iff_not,beq_iff_eq,bne_iff_ne,Bool.not_eq_true,Bool.not_eq_false,Classical.not_not,beq_eq_false_iff_ne,bne_eq_false_iff_eq] at *;first | assumption | omega)):p:=h
theorem bl {p:Prop} (h:p:=by first
 | omega
 | (simp only [maxLen];omega)
 | (simp only [List.length_cons,List.length_nil,maxLen];omega)
 | (simp only [List.length_cons,List.length_nil];omega)
 | (simp only [List.length_nil] at *;omega)
 | (simp only [List.length_cons,List.length_nil,List.length_append,List.length_set,List.length_replicate,F1,maxLen] at *;omega)):p:=h
theorem rt {α:Type} {a b:α} (h:a=b:=by first
 | rfl
 | exact (congrArg (fun z=>some (PV.int .i64 (wrap64 (z+_)))) (by decide +kernel:wrap64 (16+8)=16+8))
 | exact (congrArg (fun z=>some (PV.int .i64 (wrap64 (z+_)))) (by decide +kernel:wrap64 (0+8)=0+8))):a=b:=h
theorem nv {p:Prop} (h:p:=by first
 | assumption
 | exact Db _
 | omega
 | rfl
 | (simp only [List.length_set];done)
 | (simp only [List.length_set];assumption)
 | (simp only [List.length_set];omega)):p:=h
section
variable {P:Program} {X:Ctx} {ops:Array Oper} {o:Oper} {l:List Oper} {S S':St} {Q:St->Prop}
theorem pw {p:PV} (h:Pure P X o S p:=by first
 | exact lZ (.inl rfl) rfl
 | exact lZ (.inr rfl) rfl
 | exact f_at rfl rfl rfl (Nat.le_of_ble_eq_true rfl)
 | exact f_load rfl rfl rfl rfl rfl
 | exact G7 rfl rfl rfl rfl rfl rfl
 | exact cm32 rfl rfl
 | exact cm8 rfl rfl
 | exact a8 rfl rfl rfl
 | exact s8 rfl rfl rfl
 | exact m8 rfl rfl rfl
 | exact pux
 | exact He rfl rfl rfl rfl
 | exact Lq rfl rfl rfl
 | exact Lr rfl rfl
 | exact Hd rfl rfl rfl rfl
 | exact zR rfl rfl rfl
 | exact f_get rfl rfl rfl rfl rfl
 | exact b_eq rfl rfl rfl
 | exact b_ne rfl rfl rfl
 | exact s_eqC rfl rfl rfl
 | exact s_neC rfl rfl rfl
 | exact s_eq rfl rfl rfl
 | exact s_ne rfl rfl rfl
 | exact Im rfl rfl rfl bd bd
 | exact Il rfl rfl rfl bd bd
 | exact KB rfl rfl rfl rfl bd bd bd
 | exact s_of rfl rfl
 | exact Io rfl rfl rfl
 | exact xZ rfl rfl rfl (by first | assumption | omega)
 | exact o_max (ts:=#[]) rfl rfl rfl rfl rfl
 | exact o_min (ts:=#[]) rfl rfl rfl rfl rfl
 | exact i_at rfl UL.h IF.h rfl rfl bd bd
 | exact Cp rfl UL.h IF.h rfl rfl rfl bd bd
 | exact wC rfl UL.h rfl rfl rfl bd bd
 | exact w_at rfl UL.h IF.h rfl rfl rfl rfl bd bd
 | exact w_load rfl UL.h rfl rfl rfl bd bd
 | exact kD rfl rfl rfl rfl UL.h rfl rfl
 | exact w_win rfl rfl rfl rfl rfl bd bd bd bd
 | exact Cn rfl UL.h IF.h rfl rfl bd bd
 | exact Cm rfl UL.h IF.h rfl rfl bd bd
 | exact uX rfl UL.h IF.h rfl rfl rfl bd bd bd
 | exact q64 rfl rfl rfl bd
 | exact rem_ rfl rfl rfl bd
 | exact quoU rfl rfl rfl bd
 | exact shlV rfl rfl rfl bd
 | exact shrV rfl rfl rfl bd):Pure P X o S p:=h
theorem ow (h:dR P X o S S':=by first
 | (apply Pure.to (hd:=ib hX (by decide));exact pw)
 | exact Lp rfl rfl rfl rfl rfl rfl rfl rfl
 | exact zM rfl IF.h rfl rfl rfl bd bd
 | exact x_box rfl rfl rfl rfl rfl rfl (ib hX (by decide))
 | exact Kg rfl rfl rfl rfl (ib hX (by decide))
 | exact Kj rfl IF.h rfl rfl rfl bd bd
 | exact x_lit0 rfl (ib hX (by decide))
 | exact x_lit1 rfl rfl (ib hX (by decide))
 | exact x_lit2 rfl rfl rfl (ib hX (by decide))
 | exact Cq rfl rfl rfl rfl UL.h IF.h rfl rfl rfl rfl bl bl (by decide) (ib hX (by decide))
 | exact Lh rfl rfl rfl rfl UL.h IF.h rfl rfl bl bl (ib hX (by decide))
 | exact i_copy rfl rfl rfl rfl UL.h IF.h rfl rfl rfl (ib hX (by decide))
 | exact EY rfl rfl (by decide) rfl rfl (ib hX (by decide))
 | exact x_make (d:=.bool) rfl rfl rfl rfl bd bd Q2 (by simp only [maxLen];omega) rfl (ib hX (by decide))):dR P X o S S':=h
theorem o1 (hl:dX P X ops l S' Q) (hg:o.guard=none:=by rfl) (h:dR P X o S S':=by exact ow):dX P X ops (o :: l) S Q:=dz hg h hl
theorem oT {oj:Oper} {j:Nat} {t:Tmp} {b b':Bool} (hl:dX P X ops l S' Q) (hg:o.guard=some (j,b):=by rfl) (hj:ops[j]?=some oj:=by rfl) (ht:oj.dst=some t:=by rfl) (he:S.env t=some (.cv (.lit (.bool b'))):=by rfl) (hb:b'=b:=by first | assumption | rfl) (h:dR P X o S S':=by exact ow) (hd:dg X o.dst:=by exact ib hX (by decide)):dX P X ops (o :: l) S Q :=
 iu hg hj ht he hd (fun _=>⟨h,hl⟩) (fun h=>absurd hb h)
theorem s1 {p:PV} (hl:yG P X ops l (put S o.dst p) Q) (hg:o.guard=none:=by rfl) (h:Pure P X o S p:=by exact pw) (hd:dg X o.dst:=by exact ib hX (by decide)):yG P X ops (o :: l) S Q:=st1 hl hg h hd
theorem oc {c:Call} {f:FuncId} {args:List PV} {p:PV} {d:Tmp} [hF:FN P f] (h:Fn P f args p) (ho:o.op = .call c:=by rfl) (hc:c.callee = .value (.func f):=by rfl) (hdd:o.dst=some d:=by rfl) (ha:aX S c.args.toList=some args:=by rfl) (hcl:args.all closed=true:=by rfl) (hd:dg X (some d):=by exact ib hX (Nat.le_of_ble_eq_true rfl)):dR P X o S (put S (some d) p):=by
 have:=vi (X:=X) (S:=S) (o:=o) h ho hc ha hcl (by rw [hdd];exact hd)
 rw [hdd] at this
 exact this
theorem dn {i:Nat} (h:Q S) (hi:i=ops.size:=by rfl):xi P X ops i [] S Q:=⟨hi,h⟩
theorem dG {i:Nat} {m:Meta} {ms:List Meta} (rT:List (Nat×Option PV)) (rR:List (Nat×Option Row)) (wT:List (Nat×Option PV)) (wR:List (Nat×Option Row)) (hr:fA rT S.env) (hR:fA rR S.rows) (ok:∀ S0,nF P X ops i (sO rT rR S0) (sO wT wR (sO rT rR S0))) (hl:xi P X ops (i+1) ms (sO wT wR S) Q) (hk:j9 ⟨rT,rR,wT,wR,[],none⟩ m=true:=by rfl) (hkl:m.kl=none/\m.rf=none:=by exact ⟨rfl,rfl⟩):xi P X ops i (m :: ms) S Q:=⟨⟨rT,rR,wT,wR,[],none⟩,hk,⟨hkl.1.symm,(fun x hx=>by cases hx),(fun l h=>by rw [hkl.2] at h;cases h)⟩,⟨hr,hR,(fun x hx=>by cases hx)⟩,fun S0 hf=>by have:=ok S0;rw [HN hf.rT hf.rR] at this;exact this,hl⟩
end
def FnO (P:Program) (f:FuncId) (args:List PV) (R:Row):Prop:=∀ (F:Nat->Prop) (w:World) (vs:Array Value),(∀ b,F b->b<w.heap.size)->vs.size=args.length->(∀ i (h:i<args.length),cO w (.of F) nr nl (vs.getD i undef) args[i]) ->
 Calls P f vs w fun e w'=>∃ v,e = .returned v/\Below w.heap.size w w'/\∃ xs,w'.ownsRow w.heap.size R.e R.sz v R.n xs/\xs.length=R.data.length/\∀ i (h:i<R.data.length),Den w' (.of fun b=>(F b∨(w.heap.size<=b/\b<w'.heap.size))/\v.ownBlock≠some b) (xs.getD i undef) R.data[i]
theorem yf {w:World} {B B':Nat} {e:TypeId} {sz n:Nat} {v:Value} {xs:List Value} (h:w.ownsRow B e sz v n xs) (hB:B'<=B):w.ownsRow B' e sz v n xs:=by
 refine ⟨h.1,?_⟩
 rcases h.2 with h | ⟨g,cap,cur,h1,h2,h3⟩
 ·exact .inl h
 exact .inr ⟨g,cap,cur,h1,Nat.le_trans hB h2,h3⟩
section
variable {P:Program} {X:Ctx} {S:St} {o:Oper} {L:lE} {a:Act} {w w':World}
theorem HU {c:Call} {f:FuncId} {fn:Func} {args:List PV} {R:Row} {k:Nat} (ho:o.op = .call c) (hc:c.callee = .value (.func f)) (hf:P.funcs[f]?=some fn) (hn:fn.name≠"runtime.NumGoroutine") (hb:fn.body≠none)
 (ha:aX S c.args.toList=some args) (hcl:args.all closed=true) (h:FnO P f args R) (hk:S.rows k=none) (hkl:k≠bY) (hd:dg X o.dst):dR P X o S (put (setRow S k R) o.dst (.own k)):=by
 intro a w ⟨L,r⟩
 obtain ⟨g1,g2⟩:=uZ r _ _ ha hcl
 have hr:(execOp a.eval o).run P w = .ok (.enter f (c.args.map a.eval)) w:=by
  have l:a.eval (.func f) = .func (.func f) #[] #[]:=rfl
  simp [execOp,ho,resolve,hc,l,Deferred.ofValue,invoke,callFunc,hf,hn,hb]
 unfold Oper.wp
 rw [hr,Oper.upon_enter]
 refine (h (Still X S.rows L w).b w (c.args.map a.eval) (fun b hb=>Still.lt r.below hb) (by simpa using g1) (fun i hi=>?_)).mono ?_
 ·have g:i<c.args.size:=by
   have:c.args.size=args.length:=by simpa using g1
   omega
  have:=g2 i hi (by simpa using g)
  show cO w (Still X S.rows L w).shut nr nl ((c.args.map a.eval).getD i undef) args[i]
  simpa [Array.getD_eq_getD_getElem?,Array.getElem?_eq_getElem g] using this
 rintro e w' ⟨v,rfl,hb',xs,q1,q2,q3⟩
 have iE:∀ j d,S.rows j=some d->(setRow S k R).rows j=some d/\bm L k v j=L j:=by
  intro j d h
  have:j≠k:=fun e=>by subst e;rw [hk] at h;cases h
  exact ⟨by simp only [setRow];rw [if_neg this];exact h,by simp only [bm];rw [if_neg this]⟩
 have only:∀ j d,(setRow S k R).rows j=some d->S.rows j=none->j=k/\d=R:=by
  intro j d h h0
  simp only [setRow] at h
  by_cases c:j=k
  ·rw [if_pos c] at h;cases h;exact ⟨c,rfl⟩
  rw [if_neg c,h0] at h;cases h
 have hL:bm L k v k=v:=by simp [bm]
 have hn:∀ j d b,(setRow S k R).rows j=some d->S.rows j=none->(bm L k v j).ownBlock=some b->w.heap.size<=b:=by
  intro j d b h h0 hb
  obtain ⟨rfl,rfl⟩:=only j d h h0
  rw [hL] at hb
  exact (q1.lt b hb).1
 have st:=jy (S':=setRow S k R) (L':=bm L k v) (w':=w') r hb'.size (fun j d h=>(iE j d h).2) hn
 have r2:cL X (setRow S k R) (bm L k v) a w':=by
  refine r.grow hb' rfl iE (fun j d h h0=>?_) (fun j j' d d' b h h' h0 h0' _ _=>by rw [(only j d h h0).1,(only j' d' h' h0').1]) (fun h=>by simp only [setRow];rw [if_neg (Ne.symm hkl)];exact h)
  obtain ⟨rfl,rfl⟩:=only j d h h0
  refine ⟨⟨xs,by rw [hL];exact yf q1 (Nat.le_trans X.hlo r.below.size),q2,fun i hi=>((q3 i hi).mono (F':=(Still X (setRow S j d).rows (bm L j v) w').shut) ⟨fun b hb=>?_,fun _ _ h=>h.elim,fun _ h=>h.elim⟩ (fun _ _=>rfl)).mono (Fo.jN _ _) (fun _ _=>rfl)⟩,fun b hb=>by rw [hL] at hb;exact (q1.lt b hb).1⟩
  rcases hb.1 with h1 | ⟨h1,h2⟩
  ·exact st b h1
  refine ⟨.inr ⟨Nat.le_trans r.below.size h1,h2⟩,?_⟩
  rintro ⟨i,d',h3,h4⟩
  by_cases c:i=j
  ·subst c
   rw [hL] at h4
   exact hb.2 h4
  simp only [setRow] at h3
  rw [if_neg c] at h3
  simp only [bm] at h4
  rw [if_neg c] at h4
  have:=(r.mW h3 b h4).2
  omega
 refine ⟨_,r2.put hd ?_⟩
 conv=>arg 5;rw [<- hL]
 exact .own (r:=R) (by simp [setRow])
theorem opCO {ops:Array Oper} {l:List Oper} {q:St->Prop} {c:Call} {f:FuncId} {args:List PV} {R:Row} {d:Tmp} [hF:FN P f] (h:FnO P f args R) (hl:dX P X ops l (put (setRow S d R) (some d) (.own d)) q) (hg:o.guard=none:=by rfl) (ho:o.op = .call c:=by rfl) (hc:c.callee = .value (.func f):=by rfl) (hdd:o.dst=some d:=by rfl) (ha:aX S c.args.toList=some args:=by rfl) (hcl:args.all closed=true:=by rfl) (hk:S.rows d=none:=by rfl) (hkl:d≠bY:=by decide) (hd:dg X (some d):=by exact ib hX (by decide)):dX P X ops (o :: l) S q:=by
 obtain ⟨fn,h1,h2,h3⟩:=hF.h
 exact dz hg (by have:=HU (X:=X) (S:=S) (o:=o) ho hc h1 h2 h3 ha hcl h hk hkl (by rw [hdd];exact hd);rw [hdd] at this;exact this) hl
theorem wI {f:FuncId} {fn:Func} {c:Code} {args:List PV} {R:Row} {t:Tmp} (hf:P.funcs[f]?=some fn) (hb:fn.body=some c) (hn:args.length<=fn.ntmps) (hres:fn.results = #[.tmp t])
 (h:∀ X:Ctx,X.nt=fn.ntmps->nG P X c ⟨sF args,nr⟩ (fun e S=>(e = .ret∨e = .normal)/\∃ k,k<bY/\S.env t=some (.own k)/\S.rows k=some R)):FnO P f args R:=by
 intro F w vs hF hs ha
 let X:Ctx:=⟨w,fn.ntmps,F,hF,none,w.heap.size,Nat.le_refl _,fun _=>True⟩
 have st:∀ b,F b->Still X nr nl w b:=fun b h=>⟨.inl h,fun ⟨k,d,h,_⟩=>by cases h⟩
 have r0:cL X ⟨sF args,nr⟩ nl { tmps:=vs++Array.replicate (fn.ntmps-vs.size) undef,defers:=[] } w:=by
  refine ⟨by simp;show vs.size+(fn.ntmps-vs.size)=fn.ntmps;omega,rfl,World.grownBy.refl _ _,(fun k d h=>by cases h),(fun k k' d d' b h=>by cases h),(fun k d b h=>by cases h),(fun d h=>by cases h),fun t q hq=>?_⟩
  obtain ⟨ht,rfl⟩:=List.getElem?_eq_some_iff.1 hq
  refine ⟨by show t<fn.ntmps;omega,?_⟩
  have hv:=(ha t ht).mono (F':=Still X nr nl w) (w':=w) (rows':=nr) (L':=nl) ⟨st,fun _ _ h=>h.elim,fun _ h=>h.elim⟩ (fun _ _=>rfl) (fun k r h=>⟨h,rfl⟩)
  have e:(vs++Array.replicate (fn.ntmps-vs.size) undef).getD t undef=vs.getD t undef:=by
   simp only [Array.getD_eq_getD_getElem?]
   rw [Array.getElem?_append_left Q2]
  show cO w (Still X nr nl w) nr nl ((vs++Array.replicate (fn.ntmps-vs.size) undef).getD t undef) args[t]
  rw [e]
  exact hv
 refine calls_of_wp hf hb (Code.wp_mono ?_ (h X rfl _ _ ⟨nl,r0⟩))
 rintro e a w' ⟨S,⟨he,k,hkl,hek,hrk⟩,L,r⟩
 have hv:=(r.env t _ hek).2
 obtain ⟨xs,q1,q2,q3⟩:=r.row k R hrk
 have l:Nat.ble opened k=false:=by
  cases hc:Nat.ble opened k with
  | false=>rfl
  | true=>exact absurd (Nat.le_trans (Nat.le_of_ble_eq_true hc) (Nat.le_of_lt hkl)) (by decide)
 have j:∀ i (h:i<R.data.length),Den w' (Still X S.rows L w').shut (xs.getD i undef) R.data[i]:=fun i hi=>by
  have h:=q3 i hi
  simp only [Fo.at,l,cond_false] at h
  exact h
 have hr:(results fn a.tmps).run P w' = .ok (a.tmps.getD t undef) w':=by
  rw [kA,hres]
  simp [oB]
 generalize a.tmps.getD t undef=v at hv hr
 have hL:v=L k:=by cases hv with | own h=>rfl
 have g:a.defers=[]/\∃ v,(results fn a.tmps).run P w' = .ok v w'/\∃ u,Ending.returned v = .returned u/\Below w.heap.size w w'/\∃ xs,w'.ownsRow w.heap.size R.e R.sz u R.n xs/\xs.length=R.data.length/\∀ i (h:i<R.data.length),Den w' (.of fun b=>(F b∨(w.heap.size<=b/\b<w'.heap.size))/\u.ownBlock≠some b) (xs.getD i undef) R.data[i] :=
  ⟨r.defers,v,hr,v,rfl,⟨r.below.os,r.below.tape,r.below.output,r.below.size,fun k hk=>r.below.block k hk (by simp [X])⟩,xs,by rw [hL];exact q1,q2,fun i hi=>(j i hi).mono ⟨fun b hb=>⟨hb.1,fun e=>hb.2 ⟨k,R,hrk,by rw [<- hL];exact e⟩⟩,fun _ _ h=>h.elim,fun _ h=>h.elim⟩ (fun _ _=>rfl)⟩
 rcases he with rfl | rfl
 ·exact g
 exact g
theorem IZ {ops:Array Oper} {l:List Oper} {q:St->Prop} {t e t':TypeId} {x:Operand} {n:Nat} {cs:List CV} (hg:o.guard=none) (ho:o.op = .binOp .eql t x (.const (.slice none 0 0)) t') (hu:P.underlying t=some (.slice e)) (hx:ev S x=some (.cv (.row n cs))) (hd:dg X o.dst)
 (hl:∀ b:Bool,(b=true->n=0/\cs=[])->dX P X ops l (put S o.dst (.bool b)) q):dX P X ops (o :: l) S q:=by
 intro a w ⟨L,r⟩
 have h:=r.ev hx
 generalize hv:a.eval x=v at h
 cases h with
 | cv hden =>
  obtain ⟨sp,sc,h1,h2⟩:∃ sp sc,v = .slice sp n sc/\(sp=none->n=0/\cs=[]):=by
   cases hden with
   | nil a' c' hb'=>exact ⟨a',c',rfl,fun _=>⟨rfl,rfl⟩⟩
   | row ad n c' cs vs hs hF hn hcc hdd=>exact ⟨some ad,c',rfl,fun h=>by cases h⟩
  subst h1
  have hr:(execOp a.eval o).run P w = .ok (.value (.bool sp.isNone)) w:=by
   have e1:=Lib.run_eql_slice_nil (P:=P) w t e sp n sc 0 0 hu
   have e2:a.eval (.const (.slice none 0 0)) = .slice none 0 0:=rfl
   simp [execOp,ho,hv,e2,eqGuard,e1]
  have hS:dX P X ops l (put S o.dst (.bool sp.isNone)) q:=hl _ (fun h=>h2 (by simpa using h))
  have hw:Region.wanted o (yielded ops a.tmps)=true:=by simp [Region.wanted,hg]
  have:=hS _ w ⟨L,r.put hd (.cv (.lit (.bool sp.isNone)))⟩
  unfold wpList
  simp only [hw,if_true]
  exact .inl (cU hr this)
theorem Ha {f:FuncId} {args:List PV} {R:Row} (h:FnO P f args R):Fn P f args (.cv (.row R.n R.data)):=by
 intro F w vs hF hs ha
 refine (h F w vs hF hs ha).mono ?_
 rintro e w' ⟨v,rfl,hb,xs,q1,q2,q3⟩
 exact ⟨v,rfl,hb,.cv (pq q1 q2 (F:=.of _) (fun i hi=>(q3 i hi).mono ⟨fun b hb=>hb.1,fun _ _ h=>h.elim,fun _ h=>h.elim⟩ (fun _ _=>rfl)) (fun b hb=>.inr (q1.lt b hb)))⟩
theorem hv {α:Type} {a b:α} (h:a=b:=by first
 | rfl
 | exact congrArg (fun z=>some (PV.int .u64 z)) (by simp only [IntKind.wrap_u64];omega)
 | exact congrArg (fun z=>some (PV.int .i64 z)) (by unfold wrap64;omega)):a=b:=h
end
def k9:PV->PV
 | .own k=>.cv (.own k)
 | p=>p
def Aw (S:St):St:=⟨fun t=>(S.env t).map k9,S.rows⟩
section
variable {P:Program} {X:Ctx} {S:St} {o:Oper} {L:lE} {a:Act} {w w':World} {k:Nat} {d d':Row}
theorem yj {B:Nat} {e:TypeId} {sz n:Nat} {v:Value} {xs:List Value} (h:w.ownsRow B e sz v n xs):v.oneCell'=true/\v.cells = #[v]:=by
 rcases h.2 with ⟨rfl,_⟩ | ⟨g,cap,cur,rfl,_⟩
 ·exact ⟨rfl,rfl⟩
 exact ⟨rfl,rfl⟩
theorem cL.BM (r:cL X S L a w) (hk:S.rows k=some d):Den w (Still X S.rows L w) (L k) (.own k):=by
 obtain ⟨xs,q1,_⟩:=r.row k d hk
 obtain ⟨h1,h2⟩:=yj q1
 exact .own ⟨⟨d,hk⟩,rfl⟩ h1 h2
theorem qk {F:Fo} {rows:Nat->Option Row} (hF:∀ j u,F.o j u->(∃ r,rows j=some r)/\u=L j) {v:Value} {p:PV} (h:cO w F rows L v (k9 p)):cO w F rows L v p:=by
 cases p with
 | own k =>
  cases h with
  | cv h =>
   cases h with
   | own h h1 h2 =>
    obtain ⟨⟨r,hr⟩,rfl⟩:=hF _ _ h
    exact .own hr
 | _=>exact h
theorem cL.E2 (r:cL X S L a w):cL X (Aw S) L a w:=by
 refine ⟨r.size,r.defers,r.below,r.row,r.apart,r.mine,r.pin,fun t p h=>?_⟩
 obtain ⟨q,h1,rfl⟩:=Option.map_eq_some_iff.1 h
 obtain ⟨h2,h3⟩:=r.env t q h1
 refine ⟨h2,?_⟩
 clear h h1
 generalize a.tmps.getD t undef=v at h3
 cases h3 with
 | own h=>exact .cv (r.BM h)
 | cv h=>exact .cv h
 | ag hl h=>exact .ag hl h
 | tup hl h=>exact .tup hl h
 | win h hL ho hn hb ha=>exact .win h hL ho hn hb ha
 | pr vs hs hF hc hd=>exact .pr vs hs hF hc hd
 | po h hL ho=>exact .po h hL ho
 | map hF hn hb he=>exact .map hF hn hb he
theorem cL.I3 (r:cL X (Aw S) L a w):cL X S L a w:=by
 refine ⟨r.size,r.defers,r.below,r.row,r.apart,r.mine,r.pin,fun t p h=>?_⟩
 obtain ⟨h2,h3⟩:=r.env t (k9 p) (by simp only [Aw,h,Option.map_some])
 exact ⟨h2,qk (fun j u h=>h) h3⟩
theorem Rel.E2 (r:Rel X S a w):Rel X (Aw S) a w:=let ⟨L,r⟩:=r;⟨L,r.E2⟩
theorem Rel.I3 (r:Rel X (Aw S) a w):Rel X S a w:=let ⟨L,r⟩:=r;⟨L,r.I3⟩
theorem Jx {x:Operand} {p:PV} (h:ev S x=some p):ev (Aw S) x=some (k9 p):=by
 cases x with
 | tmp t =>
  have h':S.env t=some p:=h
  show (S.env t).map k9=_
  rw [h']
  rfl
 | const v =>
  cases h
  show some (C3 v)=some (k9 (C3 v))
  have:∀ v:Value,k9 (C3 v)=C3 v:=by
   intro v
   unfold C3
   split<;>rfl
  rw [this]
 | func f=>cases h;rfl
 | global g=>cases h
theorem Fs {S':St} (h:dR P X o (Aw S) (Aw S')):dR P X o S S':=fun a w r=>Oper.pH (fun _ _ h=>h.I3) (fun _ _ _ h=>h.elim) (h a w r.E2)
theorem KN {p:PV} (h:Pure P X o (Aw S) p):Pure P X o S p:=fun L a w r=>h L a w r.E2
theorem xr {k:Nat} (h:Pure P X o S (.cv (.own k))):Pure P X o S (.own k):=fun L a w r=>by
 obtain ⟨v,h1,h2⟩:=h L a w r
 exact ⟨v,h1,qk (p:=.own k) (fun j u h=>h) h2⟩
def jl (S:St) (k:Nat):St:=⟨(kill S k).env,fun j=>if j=k then none else (kill S k).rows j⟩
theorem cL.jl (r:cL X S L a w) (k:Nat):cL X (jl S k) L a w:=by
 have d:∀ j e,(V.jl S k).rows j=some e->j≠k/\∃ e0,S.rows j=some e0/\e=eV k j e0:=fun j e h=>by
  simp only [V.jl] at h
  by_cases c:j=k
  ·rw [if_pos c] at h;cases h
  rw [if_neg c] at h
  obtain ⟨e0,h1,h2⟩:=Option.map_eq_some_iff.1 h
  exact ⟨c,e0,h1,h2.symm⟩
 have st:∀ b,Still X S.rows L w b->Still X (V.jl S k).rows L w b:=by
  intro b h
  refine ⟨h.1,?_⟩
  rintro ⟨j,e,h1,h2⟩
  obtain ⟨_,e0,h3,_⟩:=d j e h1
  exact h.2 ⟨j,e0,h3,h2⟩
 have g:∀ j u,j≠k->(Still X S.rows L w).o j u->(Still X (V.jl S k).rows L w).o j u:=by
  intro j u c h
  obtain ⟨⟨e,h1⟩,h2⟩:=h
  refine ⟨⟨eV k j e,?_⟩,h2⟩
  simp only [V.jl,kill]
  rw [if_neg c,h1]
  rfl
 have f:∀ j q,j≠k->S.rows j=some q->(∃ q',(V.jl S k).rows j=some q'/\q'.sz=q.sz/\q'.data.length=q.data.length)/\L j=L j:=fun j q c h=>⟨⟨eV k j q,by simp only [V.jl,kill];rw [if_neg c,h];rfl,(mb k j q).2.1,(mb k j q).2.2.2⟩,rfl⟩
 refine ⟨r.size,r.defers,r.below,?_,?_,(fun j e b h h2=>?_),(fun e h=>?_),?_⟩
 case refine_3 =>
  obtain ⟨_,e0,h3,_⟩:=d j e h
  exact r.mine j e0 b h3 h2
 case refine_4 =>
  obtain ⟨_,e0,h3,_⟩:=d bY e h
  exact r.pin e0 h3
 ·intro j e h
  obtain ⟨c,e0,h3,rfl⟩:=d j e h
  exact (r.row j e0 h3).kill (row:=none) st g (fun _ _=>rfl) rfl (World.grownBy.refl _ _) (by
   cases hb:(L j).ownBlock with
   | none=>exact .inl rfl
   | some b=>exact .inr Q3)
 ·intro j j' e e' b h h' hb hb'
  obtain ⟨_,e0,h3,_⟩:=d j e h
  obtain ⟨_,e1,h4,_⟩:=d j' e' h'
  exact r.apart j j' e0 e1 b h3 h4 hb hb'
 intro t p h
 obtain ⟨h1,h2⟩:=su h
 obtain ⟨h3,h4⟩:=r.env t p h1
 exact ⟨h3,h4.iE h2 st g (fun _ h=>h) (fun _ _=>rfl) f⟩
theorem Gx (k:Nat):∀ a w,Rel X S a w->Rel X (jl S k) a w:=fun a w ⟨L,r⟩=>⟨L,r.jl k⟩
theorem Hh {k:Nat} {R:Row} {p:PV} (h:fm k p=false):conv k R p=some p:=by
 cases p with
 | cv c=>simp only [fm] at h;simp only [conv,h,cond_false]
 | ag cs=>simp only [fm] at h;simp only [conv,h,cond_false]
 | tup ps=>simp [fm] at h
 | own j=>simp only [fm,beq_eq_false_iff_ne] at h;simp only [conv];rw [if_neg h]
 | win j o n=>simp only [fm,beq_eq_false_iff_ne] at h;simp only [conv];rw [if_neg h]
 | po j o=>simp only [fm,beq_eq_false_iff_ne] at h;simp only [conv];rw [if_neg h]
 | pr cs=>rfl
 | map l=>rfl
theorem vk {c:Call} {x y:Operand} {t e:TypeId} {inf:TypeInfo} {z:Value} {m:Nat} {ncs:List CV} (ho:o.op = .call c) (hc:c.callee = .builtin .append) (ha:c.args = #[x,y]) (ht:c.argTypes = #[t,t]) (hu:P.underlying t=some (.slice e)) (hi:P.info? e=some inf) (hz:inf.zero=some z) (hzs:z.cells.size=inf.size) (hsz:0<inf.size)
 (hx:ev S x=some (.own k)) (hk:S.rows k=some d) (hde:d.e=e) (hds:d.sz=inf.size) (hy:ev S y=some (.cv (.row m ncs))) (hm:ncs.length=m*inf.size) (h1:ncs.all one=true) (h63:d.n+m<=maxLen) (hb:(d.n+m)*inf.bytes<=140737488355328) (hkl:k≠bY) (hko:Nat.ble opened k=false) (hd:dg X o.dst) :
 dR P X o S (put (jl S k) o.dst (.cv (.row (d.n+m) (d.data++ncs)))):=by
 intro a w r
 refine Oper.pH (fun a' w' h=>?_) (fun _ _ _ h=>h) (xE ho hc ha ht hu hi hz hzs hsz hx hk hde hds hy hm h1 h63 hb hkl hko hd a w r)
 have f:(put (setRow (kill S k) k ⟨e,inf.size,d.n+m,d.data++ncs⟩) o.dst (.own k)).rows k=some ⟨e,inf.size,d.n+m,d.data++ncs⟩:=by
  cases o.dst<;>simp [V.put,setRow]
 have h2:=dA (X:=X) f hkl hko a' w' h
 have rows:∀ d0:Option Tmp,∀ j,(freeze (put (setRow (kill S k) k ⟨e,inf.size,d.n+m,d.data++ncs⟩) d0 (.own k)) k ⟨e,inf.size,d.n+m,d.data++ncs⟩).rows j=(jl S k).rows j:=by
  intro d0 j
  have e1:∀ S':St,(put S' d0 (.own k)).rows=S'.rows:=fun S'=>by cases d0<;>rfl
  simp only [freeze,jl,e1]
  by_cases c:j=k
  ·rw [if_pos c,if_pos c]
  rw [if_neg c,if_neg c]
  simp only [setRow,kill]
  rw [if_neg c]
  cases S.rows j with
  | none=>rfl
  | some r0 =>
   simp only [Option.map_some,Option.some.injEq]
   unfold jn
   cases ho:Nat.ble opened j with
   | false=>rfl
   | true =>
    simp only [cond_true,eV,ho,List.map_map]
    congr 1
    refine List.map_congr_left (fun c _=>?_)
    cases c with
    | own q =>
     cases hq:Nat.beq q k with
     | true=>simp only [Function.comp,lk,hq,cond_true];rfl
     | false=>simp only [Function.comp,lk,hq,cond_false,yE]
    | _=>rfl
 have b:∀ t,((kill S k).env t).bind (conv k ⟨e,inf.size,d.n+m,d.data++ncs⟩)=(kill S k).env t:=by
  intro t
  cases hq:(kill S k).env t with
  | none=>rfl
  | some p=>exact Hh (su hq).2
 have e:freeze (put (setRow (kill S k) k ⟨e,inf.size,d.n+m,d.data++ncs⟩) o.dst (.own k)) k ⟨e,inf.size,d.n+m,d.data++ncs⟩=put (jl S k) o.dst (.cv (.row (d.n+m) (d.data++ncs))):=by
  cases hdd:o.dst with
  | none=>exact ou (funext fun t=>b t) (funext fun j=>rows none j)
  | some dd =>
   refine ou (funext fun t=>?_) (funext fun j=>rows (some dd) j)
   simp only [freeze,V.put]
   by_cases c:t=dd
   ·rw [if_pos c,if_pos c]
    simp [conv]
   rw [if_neg c,if_neg c]
   exact b t
 rw [<- e]
 exact h2
theorem cL.blur (r:cL X (setRow S k d) L a w) (hle:ju d' d) (hko:Nat.ble opened k=true):cL X (setRow S k d') L a w:=by
 have rows:∀ j e',(setRow S k d').rows j=some e'->∃ e,(setRow S k d).rows j=some e/\(j≠k->e'=e)/\(j=k->e'=d'/\e=d):=by
  intro j e' h
  simp only [setRow] at h ⊢
  by_cases c:j=k
  ·rw [if_pos c] at h ⊢;cases h;exact ⟨d,rfl,fun h=>absurd c h,fun _=>⟨rfl,rfl⟩⟩
  rw [if_neg c] at h ⊢;exact ⟨e',h,fun _=>rfl,fun h=>absurd h c⟩
 have f:∀ j e,(setRow S k d).rows j=some e->∃ e',(setRow S k d').rows j=some e'/\e'.sz=e.sz/\e'.data.length=e.data.length:=by
  intro j e h
  simp only [setRow] at h ⊢
  by_cases c:j=k
  ·rw [if_pos c] at h ⊢;cases h;exact ⟨d',rfl,hle.sz.symm,hle.len.symm⟩
  rw [if_neg c] at h ⊢;exact ⟨e,h,rfl,rfl⟩
 have st:∀ b,Still X (setRow S k d).rows L w b->Still X (setRow S k d').rows L w b:=by
  intro b h
  refine ⟨h.1,?_⟩
  rintro ⟨j,e',h1,h2⟩
  obtain ⟨e,h3,_⟩:=rows j e' h1
  exact h.2 ⟨j,e,h3,h2⟩
 have stF:(Still X (setRow S k d).rows L w).le (Still X (setRow S k d').rows L w):=⟨st,fun j u h=>by
  obtain ⟨⟨e,h1⟩,h2⟩:=h
  obtain ⟨e',h3,_⟩:=f j e h1
  exact ⟨⟨e',h3⟩,h2⟩,fun _ h=>h⟩
 refine ⟨r.size,r.defers,r.below,?_,?_,(fun j e b h h2=>?_),(fun e h=>?_),?_⟩
 case refine_3 =>
  obtain ⟨e0,h3,_⟩:=rows j e h
  exact r.mine j e0 b h3 h2
 case refine_4 =>
  obtain ⟨e0,h3,_⟩:=rows bY e h
  exact r.pin e0 h3
 ·intro j e' h
  obtain ⟨e,h3,h4,h5⟩:=rows j e' h
  obtain ⟨xs,q1,q2,q3⟩:=r.row j e h3
  by_cases c:j=k
  ·obtain ⟨rfl,rfl⟩:=h5 c
   subst c
   refine ⟨xs,by rw [<- hle.e,<- hle.sz,<- hle.n];exact q1,by rw [<- hle.len];exact q2,fun i hi=>?_⟩
   have g:i<e.data.length:=by rw [hle.len];exact hi
   have h6:=(q3 i g).mono (stF.at j) (fun _ _=>rfl)
   have h7:=hle.le i hi g
   generalize xs.getD i undef=v at h6
   generalize e.data[i]=c at h6 h7
   generalize e'.data[i]=c' at h7
   cases c' with
   | any =>
    rcases h7 with rfl | ⟨q,rfl⟩
    ·exact h6
    cases h6 with
    | own _ h1 h2=>exact .any h1 h2
   | lit v=>cases h7;exact h6
   | row n cs=>cases h7;exact h6
   | own q=>cases h7;exact h6
  have e1:=h4 c
  subst e1
  exact ⟨xs,q1,q2,fun i hi=>(q3 i hi).mono (stF.at j) (fun _ _=>rfl)⟩
 ·intro j j' e e' b h h' hb hb'
  obtain ⟨e0,h3,_⟩:=rows j e h
  obtain ⟨e1,h4,_⟩:=rows j' e' h'
  exact r.apart j j' e0 e1 b h3 h4 hb hb'
 intro t p h
 obtain ⟨h3,h4⟩:=r.env t p h
 refine ⟨h3,?_⟩
 clear h
 generalize a.tmps.getD t undef=v at h4
 induction h4 with
 | cv h=>exact .cv (h.mono stF (fun _ _=>rfl))
 | ag hl h=>exact .ag hl (fun i hi=>(h i hi).mono stF (fun _ _=>rfl))
 | tup hl h ih=>exact .tup hl ih
 | own h=>obtain ⟨e',h1,_⟩:=f _ _ h;exact .own h1
 | win h hL ho hn hb ha=>obtain ⟨e',h1,h2,h3⟩:=f _ _ h;exact .win h1 hL ho hn hb (by rw [h2];exact ha)
 | pr vs hs hF hc hd=>exact .pr vs hs (st _ hF) hc (fun i hi=>(hd i hi).mono stF.shut (fun _ _=>rfl))
 | po h hL ho=>obtain ⟨e',h1,h2,h3⟩:=f _ _ h;exact .po h1 hL (by rw [h3];exact ho)
 | map hF hn hb he=>exact .map (st _ hF) (stF.n _ hn) hb he
theorem Iv (hle:ju d' d) (hko:Nat.ble opened k=true):∀ a w,Rel X (setRow S k d) a w->Rel X (setRow S k d') a w:=fun a w ⟨L,r⟩=>⟨L,r.blur hle hko⟩
theorem cL.qM (r:cL X S L a w) (hk:S.rows k=none) (hkl:k≠bY) (e:TypeId) (sz:Nat):cL X (setRow S k ⟨e,sz,0,[]⟩) (bm L k (.slice none 0 0)) a w:=by
 have iE:∀ j q,S.rows j=some q->(setRow S k ⟨e,sz,0,[]⟩).rows j=some q/\bm L k (.slice none 0 0) j=L j:=by
  intro j q h
  have:j≠k:=fun e=>by subst e;rw [hk] at h;cases h
  exact ⟨by simp only [setRow];rw [if_neg this];exact h,by simp only [bm];rw [if_neg this]⟩
 have only:∀ j q,(setRow S k ⟨e,sz,0,[]⟩).rows j=some q->S.rows j=none->j=k/\q=⟨e,sz,0,[]⟩:=by
  intro j q h h0
  simp only [setRow] at h
  by_cases c:j=k
  ·rw [if_pos c] at h;cases h;exact ⟨c,rfl⟩
  rw [if_neg c,h0] at h;cases h
 refine r.grow (Below.refl _ _) rfl iE (fun j q h h0=>?_) (fun j j' q q' b h h' h0 h0' _ _=>by rw [(only j q h h0).1,(only j' q' h' h0').1]) (fun h=>by simp only [setRow];rw [if_neg (Ne.symm hkl)];exact h)
 obtain ⟨rfl,rfl⟩:=only j q h h0
 refine ⟨⟨[],?_,rfl,fun i hi=>by simp at hi⟩,fun b hb=>by simp [bm,Value.ownBlock] at hb⟩
 simp only [bm,if_pos]
 exact World.ownsRow_nil _ _ _ _
theorem vj {t:TypeId} {ps:Array (Nat×Operand)} {fs:Array Field} {inf:TypeInfo} {z:Value} {places:List (Nat×Nat)} {qs:List (Nat×List CV)} {zs cs:List CV} (e:TypeId) (sz:Nat) (ho:o.op = .build t ps) (hu:P.underlying t=some (.struct fs)) (hi:P.info? t=some inf) (hz:inf.zero=some z)
 (hp:fs.toList.mapM (fun f=>(P.info? f.type).map fun i=>(f.offset,i.size))=some places) (hq:parts S ps.toList=some qs) (hzs:z.cells.size=zs.length/\∀ i (h:i<zs.length),zs[i]=gH (z.cells.getD i undef)∨(zs[i] = .own k/\z.cells.getD i undef = .slice none 0 0)) (hf:gT (places.toArray[·]?) zs qs=some cs)
 (hk:S.rows k=none) (hkl:k≠bY) (hd:dg X o.dst):dR P X o S (put (setRow S k ⟨e,sz,0,[]⟩) o.dst (.ag cs)):=by
 intro a w ⟨L,r⟩
 obtain ⟨g1,g2⟩:=pU r _ _ hq
 have r2:=r.qM hk hkl e sz
 have iE:∀ j q,S.rows j=some q->(setRow S k ⟨e,sz,0,[]⟩).rows j=some q/\bm L k (.slice none 0 0) j=L j:=by
  intro j q h
  have:j≠k:=fun e=>by subst e;rw [hk] at h;cases h
  exact ⟨by simp only [setRow];rw [if_neg this];exact h,by simp only [bm];rw [if_neg this]⟩
 have st:=jy (S':=setRow S k ⟨e,sz,0,[]⟩) (L':=bm L k (.slice none 0 0)) (w':=w) r (Nat.le_refl _) (fun j d h=>(iE j d h).2) (fun j d b h h0 hb=>by
  simp only [setRow] at h
  by_cases c:j=k
  ·subst c;simp [bm,Value.ownBlock] at hb
  rw [if_neg c,h0] at h;cases h)
 have m:(Still X S.rows L w).le (Still X (setRow S k ⟨e,sz,0,[]⟩).rows (bm L k (.slice none 0 0)) w):=⟨st,fun q v h=>by
  obtain ⟨⟨d,h1⟩,h2⟩:=h
  exact ⟨⟨d,(iE q d h1).1⟩,by rw [(iE q d h1).2];exact h2⟩,fun _ h=>h⟩
 have l:Den w (Still X (setRow S k ⟨e,sz,0,[]⟩).rows (bm L k (.slice none 0 0)) w) (.slice none 0 0) (.own k):=by
  have:=r2.BM (k:=k) (d:=⟨e,sz,0,[]⟩) (by simp [setRow])
  simpa [bm] using this
 obtain ⟨cells,k1,k2,k3⟩:=wK (w:=w) (F:=Still X (setRow S k ⟨e,sz,0,[]⟩).rows (bm L k (.slice none 0 0)) w) (places.toArray[·]?) (ps.toList.map fun x=>(x.1,a.eval x.2)) qs z.cells zs cs (by simpa using g1) (fun j h h'=>by
  have h3:=g2 j h (by simpa using h')
  refine ⟨by simpa using h3.1,by simpa using h3.2.1,fun i hi=>?_⟩
  have:=(h3.2.2 i hi).mono m (fun _ _=>rfl)
  simpa using this) hzs.1 (fun i h=>by
   rcases hzs.2 i h with h2 | ⟨h2,h3⟩
   ·rw [h2];exact jm _ _ _
   rw [h2,h3];exact l) hf
 have hb:P.built t (ps.map fun (x:Nat×Operand)=>(x.1,a.eval x.2)).toList=some cells:=by
  unfold Program.built
  simp only [hu,hi,hz,hp]
  simpa using k1
 have g:=run_build (P:=P) w t (ps.map fun (x:Nat×Operand)=>(x.1,a.eval x.2)) cells hb
 exact cU (v:=.agg cells) (w':=w) (by simp [execOp,ho,g]) ⟨_,r2.put hd (.ag k2 k3)⟩
end
end Go.Proofs.YtfbgaddecbiimaaGreatDoor.V
end
