/- An evaluator of the program's code, what its functions come to, and what they mean: text 3. No condition. -/
import Derived.Scope
import Derived.ChangeArms
import Derived.WideShapes
import Derived.KernelRfl
import Derived.Test.YtfbgaddecbiimaaGreatDoorProg
import Derived.Below
import Derived.Deep.Draws
import Derived.Deep.AppendLies
import Derived.Maps.AppendAt
import Derived.OwnWalk
import Derived.Laws.BytesArg
import Derived.Laws.MakeOwn
import Derived.Laws.OwnMore
import Derived.Deep.OwnRows
import Derived.Tactics
import Derived.Lib.ConvBytes
import Derived.Laws.Slices
import Derived.WalkKit
import Derived.RowKit3
import Derived.Deep.LoopGhost
import Derived.Deep.QuietTactic
import Derived.BigQuiet
import Derived.WideLaws
import Derived.Deep.DeepCutAuto
import Derived.Deep.CutBlock
import Derived.Deep.RegionHeld3
import Derived.Laws.Rows
import Derived.Lib.AppendStr
import Derived.ArgAppend
import Derived.Laws.IdiomCopy
import Derived.OrdersHeld
import Derived.Laws.BitsLemmas
import Derived.RowKit
import Derived.Test.YtfbgaddecbiimaaGreatDoorPTexts2
set_option linter.unusedSimpArgs false
set_option linter.unusedSectionVars false
section
namespace Go.Proofs.YtfbgaddecbiimaaGreatDoor.E
open Go.RowKit Go.Proofs.YtfbgaddecbiimaaGreatDoorW.PrintWords Go.Proofs.YtfbgaddecbiimaaGreatDoorW.PrintMore Go.Proofs.YtfbgaddecbiimaaGreatDoor.V
set_option linter.unusedVariables false
structure Sub (S:ES) (W:St):Prop where
 env:∀ t v p,find S.env t=some v→v.pv=some p→W.env t=some p
 rows:∀ k,W.rows k=(find S.rows k).map cQ.row
theorem mC (S:ES):Sub S S.st:=⟨fun t v p h h'=>by simp only [ES.st,h,Option.bind_some,h'],fun k=>rfl⟩
section
variable {T:Tab} {X:Ctx} {S:ES} {W W':St} {o:Oper} {ops:List Oper} {lim:Option (List Meta)} {i:Nat} {l:List Oper} {q:St→Prop}
theorem kX {t:Nat} {v:Val} (h:rdL lim i S t=some v):find S.env t=some v:=by
 cases lim with
 | none=>exact h
 | some ms =>
  cases hm:ms[i]? with
  | none=>simp only [rdL,hm] at h;cases h
  | some m =>
   simp only [rdL,hm] at h
   split at h
   ·split at h
    ·rename_i v' hv
     split at h
     ·cases h;exact hv
     ·cases h
    ·cases h
   ·cases h
theorem we {k:Nat} {x:Option cQ} (h:rrL lim i S k=some x):∃ rf,x=(find S.rows k).map (pR rf):=by
 cases lim with
 | none =>
  cases h
  refine ⟨none,?_⟩
  cases find S.rows k<;>rfl
 | some ms =>
  cases hm:ms[i]? with
  | none=>simp only [rrL,hm] at h;cases h
  | some m =>
   cases hb:mem m.rr k with
   | true=>simp only [rrL,hm,hb] at h;cases h;exact ⟨m.rf,rfl⟩
   | false=>simp only [rrL,hm,hb] at h;cases h
def Bs (l:List Nat):CV→CV
 | .own k=>match mem l k with
  | true=>.own k
  | false=>.any
 | c=>c
theorem jy {m:CV→CV} (hm:∀ c,fw c=true→m c=c) {cs:List CV} (h:cs.all fw=true):cs.map m=cs:=by
 conv=>rhs;rw [← List.map_id cs]
 exact List.map_congr_left (fun c hc=>hm c (List.all_eq_true.1 h c hc))
theorem Br (l:List Nat) (f:Fld):(nF l f).enc=f.enc.map (Bs l):=by
 cases f with
 | v t x=>exact (jy (fun c hc=>by cases c<;>first | rfl | cases hc) (dm t x)).symm
 | own k =>
  simp only [nF,Fld.enc,List.map_cons,List.map_nil,Bs]
  cases mem l k<;>rfl
 | hole=>rfl
theorem xm (l:List Nat) (f:Fld):(nF l f).sz=f.sz:=by
 cases f with
 | v t x=>rfl
 | own k=>simp only [nF];cases mem l k<;>rfl
 | hole=>rfl
theorem blurC_le (l:List Nat) (c:CV):jG (Bs l c) c:=by
 cases c with
 | own k =>
  simp only [Bs]
  cases mem l k with
  | true=>exact ja _
  | false=>exact .inr ⟨k,rfl⟩
 | _=>exact ja _
theorem Bq (rf:Option (List Nat)) (r:cQ):jn (pR rf r).row r.row:=by
 cases rf with
 | none=>exact .refl _
 | some l =>
  cases r with
  | obox e fs =>
   refine ⟨rfl,?_,rfl,?_,fun i h1 h2=>?_⟩
   ·exact (oM (xm l) fs).symm
   ·show (dT fs).length=(dT (wD (nF l) fs)).length
    rw [bY,bY,oM (xm l) fs]
   ·have e1:dT (wD (nF l) fs)=(dT fs).map (Bs l):=nN (Br l) fs
    have h1':i<(dT (wD (nF l) fs)).length:=h1
    show jG ((dT (wD (nF l) fs))[i]'h1') ((dT fs)[i]'h2)
    simp only [e1,List.getElem_map]
    exact blurC_le l _
  | _=>exact .refl _
theorem lT (rf:Option (List Nat)) (q:Option cQ):rowAg (q.map cQ.row) (q.map (pR rf)):=by
 cases q with
 | none=>rfl
 | some r =>
  have h:=Bq rf r
  cases r with
  | obox e fs =>
   cases rf with
   | none=>exact ⟨_,rfl,.refl _⟩
   | some l=>exact ⟨_,rfl,h⟩
  | arr e t l=>cases rf<;>exact rfl
  | box e t x=>cases rf<;>exact rfl
theorem Sub.agree (h:Sub S W):cM W (rdL lim i S) (rrL lim i S):=⟨fun t v p h1 h2=>h.env t v p (kX h1) h2,fun k x h1=>by
 obtain ⟨rf,rfl⟩:=we h1
 rw [h.rows k]
 exact lT rf _⟩
theorem Sub.put {d:Nat} {v:Val} (h:Sub S W):Sub (S.put d v) (jg W (some d) v):=by
 refine ⟨fun t u p h1 h2=>?_,fun k=>?_⟩
 ·simp only [ES.put,find] at h1
  split at h1
  ·rename_i hb
   cases h1
   have:=beq_true hb
   subst this
   simp only [jg,h2,V.put]
   rw [if_pos trivial]
  ·rename_i hb
   have:=beq_false hb
   have h3:=h.env t u p h1 h2
   cases hv:v.pv with
   | some p'=>simp only [jg,hv,V.put];rw [if_neg this];exact h3
   | none=>simp only [jg,hv,V.drop];rw [if_neg this];exact h3
 ·have:(jg W (some d) v).rows=W.rows:=by cases hv:v.pv<;>simp only [jg,hv]<;>rfl
  rw [this]
  exact h.rows k
theorem Sub.set {k:Nat} {r:cQ} (h:Sub S W):Sub (S.set k r) (setRow W k r.row):=by
 refine ⟨fun t u p h1 h2=>h.env t u p h1 h2,fun j=>?_⟩
 simp only [setRow,ES.set,find]
 by_cases c:j=k
 ·subst c
  rw [if_pos rfl,Nat.beq_refl]
  rfl
 ·rw [if_neg c]
  have:Nat.beq j k=false:=by
   cases hb:Nat.beq j k with
   | false=>rfl
   | true=>exact absurd (beq_true hb) c
  rw [this]
  exact h.rows j
theorem Sub.res {d:Option Nat} {v:Val} {r:Option (Nat×cQ)} (h:Sub S W):Sub (S.res d v r) (jg (se W r) d v):=by
 have h1:Sub (match r with | some x=>S.set x.1 x.2 | none=>S) (se W r):=by
  cases r with
  | none=>exact h
  | some x=>exact h.set
 unfold ES.res
 cases d with
 | none=>exact h1
 | some d=>exact h1.put
theorem iH (h:Sub S W):∀ a w,Rel X W a w→Rel X S.st a w:=by
 intro a w hr
 have e:W.rows=S.st.rows:=funext h.rows
 refine hr.less (fun t p h1=>?_) (fun k r h1=>by rw [e];exact h1) (fun t p _ w F L v hv=>by rw [e] at hv;exact hv) (fun j r h1=>.inl ⟨r,by rw [← e];exact h1⟩)
 simp only [ES.st] at h1
 obtain ⟨v,h2,h3⟩:=Option.bind_eq_some_iff.1 h1
 exact h.env t v p h2 h3
def DrS (P:Program) (X:Ctx) (ops:Array Oper) (ms:List Meta):Nat→List Oper→St→(St→Prop)→Prop
 | _,[],W,q=>q W
 | i,o :: l,W,q=>∃ m s,ms[i]?=some m∧ji s m=true∧qE s m∧s.fits W∧(∀ S0,s.fits S0→lL P X ops i S0 (s.go S0))∧DrS P X ops ms (i+1) l (s.go W) q
def GT (ops:List Oper) (o:Oper) (W:St):Prop:=o.guard=none∨∃ j w oj t,o.guard=some (j,w)∧ops[j]?=some oj∧oj.dst=some t∧W.env t=some (.bool w)
def GF (ops:List Oper) (o:Oper) (W:St):Prop:=∃ j w oj t,o.guard=some (j,w)∧ops[j]?=some oj∧oj.dst=some t∧(W.env t=some (.bool (!w))∨W.env t=some (.cv (.lit undef)))
inductive PlS (P:Program) (X:Ctx) (ops:List Oper):List Oper→St→(St→Prop)→Prop where
 | nil {W:St} {q:St→Prop} (h:q W):PlS P X ops [] W q
 | step {o:Oper} {l:List Oper} {W W':St} {q:St→Prop} (hg:GT ops o W) (h:dY P X o W W') (hd:inb X o.dst) (hl:PlS P X ops l W' q):PlS P X ops (o :: l) W q
 | skip {o:Oper} {l:List Oper} {W:St} {q:St→Prop} (hg:GF ops o W) (hd:inb X o.dst) (hl:PlS P X ops l (put W o.dst (.cv (.lit undef))) q):PlS P X ops (o :: l) W q
 | uf {l:List Oper} {W W':St} {q:St→Prop} (h:∀ a w,Rel X W a w→Rel X W' a w) (hl:PlS P X ops l W' q):PlS P X ops l W q
theorem pls_app {P:Program} {l l':List Oper} {W:St} {q:St→Prop} (h:PlS P X ops l W (fun W'=>PlS P X ops l' W' q)):PlS P X ops (l++l') W q:=by
 generalize hq:(fun W'=>PlS P X ops l' W' q)=q' at h
 induction h with
 | nil h=>subst hq;exact h
 | step hg h hd hl ih=>exact .step hg h hd (ih hq)
 | skip hg hd hl ih=>exact .skip hg hd (ih hq)
 | uf h hl ih=>exact .uf h (ih hq)
theorem pls_sim {P:Program} {l:List Oper} {W:St} {q:St→Prop} (h:PlS P X ops l W q):cW P X ops.toArray l W q:=by
 induction h with
 | nil h=>exact aa h
 | step hg h hd hl ih =>
  rcases hg with hg | ⟨j,w,oj,t,h1,h2,h3,h4⟩
  ·exact cp hg h ih
  ·exact fe h1 (by simpa using h2) h3 h4 hd (fun _=>⟨h,ih⟩) (fun h=>absurd rfl h)
 | skip hg hd hl ih =>
  obtain ⟨j,w,oj,t,h1,h2,h3,h4⟩:=hg
  rcases h4 with h4 | h4
  ·rename_i o l W q
   exact fe (S':=W) h1 (by simpa using h2) h3 h4 hd (fun h=>by cases w<;>cases h) (fun _=>ih)
  ·exact kf h1 (by simpa using h2) h3 h4 hd ih
 | uf h hl ih=>exact fun a w r=>ih a w (h a w r)
def Wk (P:Program) (X:Ctx) (ops:List Oper) (lim:Option (List Meta)) (i:Nat) (l:List Oper) (W:St) (q:St→Prop):Prop:=match lim with
 | none=>PlS P X ops l W q
 | some ms=>DrS P X ops.toArray ms i l W q
theorem wk_nil {P:Program} (h:q W):Wk P X ops lim i [] W q:=by
 cases lim with
 | none=>exact .nil h
 | some ms=>exact h
theorem Bb {P:Program} {ops:Array Oper} {ms:List Meta}:∀ (l l':List Oper) (i:Nat) (W:St),DrS P X ops ms i l W (fun W'=>DrS P X ops ms (i+l.length) l' W' q)→DrS P X ops ms i (l++l') W q
 | [],l',i,W,h=>h
 | o :: l,l',i,W,⟨m,s,h1,h2,h2',h3,h4,h5⟩=>⟨m,s,h1,h2,h2',h3,h4,Bb l l' (i+1) _ (by
  have e:i+(o :: l).length=i+1+l.length:=by simp;omega
  rw [e] at h5
  exact h5)⟩
theorem wk_app {P:Program} {l':List Oper} (h:Wk P X ops lim i l W (fun W'=>Wk P X ops lim (i+l.length) l' W' q)):Wk P X ops lim i (l++l') W q:=by
 cases lim with
 | none=>exact pls_app h
 | some ms=>exact Bb l l' i W h
theorem drs_dr {P:Program} {ms:List Meta} (hlen:ms.length=ops.length):∀ (l:List Oper) (i:Nat) (W:St),i+l.length=ops.length→DrS P X ops.toArray ms i l W q→vF P X ops.toArray i (ms.drop i) W q
 | [],i,W,hi,h=>by
  rw [List.drop_eq_nil_of_le (by simp at hi;omega)]
  exact ⟨by simpa using hi,h⟩
 | o :: l,i,W,hi,⟨m,s,h1,h2,h2',h3,h4,h5⟩=>by
  simp only [List.length_cons] at hi
  obtain ⟨hlt,rfl⟩:=List.getElem?_eq_some_iff.1 h1
  rw [List.drop_eq_getElem_cons hlt]
  exact ⟨s,h2,h2',h3,h4,drs_dr hlen l (i+1) _ (by omega) h5⟩
def im (T:Tab) (ops:List Oper) (lim:Option (List Meta)) (i:Nat) (o:Oper):Prop:=match lim with
 | none=>True
 | some ms=>∃ m,ms[i]?=some m∧(∀ j w,o.guard=some (j,w)→∀ t,(ops[j]?).bind (·.dst)=some t→t∈m.rt)∧(∀ d,o.dst=some d→d∈m.wt)∧(m.kl=none∨(o.guard=none∧∃ t,qm T o=some t))
theorem wB:∀ (l:List Oper) (ms:List Meta),rl T ops l ms=true→l.length=ms.length∧∀ i o,l[i]?=some o→im T ops (some ms) i o
 | [],[],h=>⟨rfl,fun i o h=>by simp at h⟩
 | o :: l,m :: ms,h=>by
  simp only [rl,Bool.and_eq_true] at h
  obtain ⟨⟨⟨h1,h2⟩,h2'⟩,h3⟩:=h
  obtain ⟨g1,g2⟩:=wB l ms h3
  refine ⟨by simp [g1],fun i o' hi=>?_⟩
  cases i with
  | zero =>
   cases hi
   refine ⟨m,rfl,fun j w hg t ht=>?_,fun d hd=>?_,?_⟩
   ·simp only [hg,ht] at h1
    exact mem_iff.1 h1
   ·simp only [hd] at h2
    exact mem_iff.1 h2
   ·cases hk:m.kl with
    | none=>exact .inl rfl
    | some k =>
     simp only [hk] at h2'
     split at h2'
     ·rename_i t hg hgd
      exact .inr ⟨hgd,t,hg⟩
     ·cases h2'
  | succ i =>
   obtain ⟨m',k1,k2⟩:=g2 i o' (by simpa using hi)
   exact ⟨m',by simpa using k1,k2⟩
 | [],_ :: _,h=>by cases h
 | _ :: _,[],h=>by cases h
theorem nJ (W:St) (d:Option Nat) (v:Val) (r:Option (Nat×cQ)):upd (d.toList.map fun d=>(d,v.pv)) (r.toList.map fun x=>(x.1,some x.2.row)) W=jg (se W r) d v:=by
 have e1:∀ W:St,upd [] (r.toList.map fun x=>(x.1,some x.2.row)) W=se W r:=by
  intro W
  cases r<;>rfl
 rw [← e1]
 cases d with
 | none=>rfl
 | some d=>cases hv:v.pv<;>simp only [jg,hv]<;>rfl
theorem rA {α:Type} (e:Nat→α):∀ l:List Nat,eQ (l.map fun t=>(t,e t)) e
 | []=>trivial
 | t :: l=>⟨rfl,rA e l⟩
theorem sub_map {α:Type} (e:Nat→α) (l:List Nat):jL (l.map fun t=>(t,e t)) l=true:=by
 simp only [jL,List.all_eq_true,List.mem_map]
 rintro x ⟨t,ht,rfl⟩
 simpa using ht
theorem gV {α:Type} {e:Nat→α}:∀ {l:List (Nat×α)},eQ l e↔∀ x∈l,e x.1=x.2
 | []=>by simp [eQ]
 | x :: l=>by simp [eQ,gV (l:=l)]
theorem vU {α:Type} {l:List (Nat×α)} {m:List Nat} (h:∀ x∈l,x.1∈m):jL l m=true:=by
 simp only [jL,List.all_eq_true]
 exact fun x hx=>by simpa using h x hx
theorem vJ {l:List Nat} {v:Val} {p:PV} (h:visV l v=true) (hp:v.pv=some p) (k:Nat) (hu:gm k p=true):k∈l:=by
 cases v with
 | v t x=>cases hp;rw [uh] at hu;cases hu
 | tup t x=>cases h
 | nilS=>cases hp;cases hu
 | undef=>cases hp;cases hu
 | any=>cases hp
 | own j=>cases hp;simp only [gm,beq_iff_eq] at hu;subst hu;exact mem_iff.1 h
 | po j off q=>cases hp;simp only [gm,beq_iff_eq] at hu;subst hu;exact mem_iff.1 h
 | pe j i sz off q=>cases hp;simp only [gm,beq_iff_eq] at hu;subst hu;exact mem_iff.1 h
 | pr t x=>cases hp;cases hu
 | st fs =>
  cases hp
  simp only [visV,List.all_eq_true] at h
  exact mem_iff.1 (h k ((eu fs k).1 hu))
 | pa j off q n i sz=>cases hp;simp only [gm,beq_iff_eq] at hu;subst hu;exact mem_iff.1 h
 | wn j n=>cases hp;simp only [gm,beq_iff_eq] at hu;subst hu;exact mem_iff.1 h
 | mp l=>cases h
theorem row_owns {l:List Nat} {r:cQ} (h:wg (some l) r=true):yn r.row.data l:=by
 intro k hk
 cases r with
 | arr e t x=>rw [show (cQ.arr e t x).row.data=x.flatMap t.enc from rfl,jN (gT x)] at hk;cases hk
 | box e t x=>rw [show (cQ.box e t x).row.data=t.enc x from rfl,fY] at hk;cases hk
 | obox e fs =>
  simp only [wg,List.all_eq_true] at h
  exact mem_iff.1 (h k ((eu fs k).1 hk))
theorem Bp (l:List Nat) (r:cQ):yn (pR (some l) r).row.data l:=by
 intro k hk
 cases r with
 | arr e t x=>rw [show (pR (some l) (cQ.arr e t x)).row.data=x.flatMap t.enc from rfl,jN (gT x)] at hk;cases hk
 | box e t x=>rw [show (pR (some l) (cQ.box e t x)).row.data=t.enc x from rfl,fY] at hk;cases hk
 | obox e fs =>
  have h2:=(eu (wD (nF l) fs) k).1 hk
  have key:∀ fs:List Fld,k∈iw (wD (nF l) fs)→k∈l:=by
   intro fs
   induction fs with
   | nil=>intro h;cases h
   | cons f fs ih =>
    intro h
    cases f with
    | v t x=>exact ih h
    | hole=>exact ih h
    | own j =>
     simp only [wD,nF] at h
     cases hb:mem l j with
     | true =>
      simp only [hb,iw,List.mem_cons] at h
      rcases h with h | h
      ·rw [h];exact mem_iff.1 hb
      ·exact ih h
     | false=>simp only [hb,iw] at h;exact ih h
  exact key fs h2
theorem wG {d d':Row} (h:jn d d') (hc:∀ c∈d.data,c≠.any):d'=d:=by
 have e1:d'.data=d.data:=by
  apply List.ext_getElem h.len
  intro i h1 h2
  exact tU (h.le i h2 h1) (hc _ (List.getElem_mem h2))
 cases d
 cases d'
 obtain ⟨e,sz,n,len,le⟩:=h
 cases e
 cases sz
 cases n
 cases e1
 rfl
theorem sD {r:cQ} (h:∀ e fs,r≠.obox e fs):∀ c∈r.row.data,c≠.any:=by
 cases r with
 | arr e t l =>
  intro c hc
  obtain ⟨x,_,hx⟩:=List.mem_flatMap.1 (show c∈l.flatMap t.enc from hc)
  exact gZ t x c hx
 | box e t x=>exact gZ t x
 | obox e fs=>exact absurd rfl (h e fs)
theorem reads {ms:List Meta} {m:Meta} {l:List Nat} (h1:ms[i]?=some m) (hrf:m.rf=some l) (hs:Sub S W) (g:List (Nat×Option PV)) (hg:∀ x∈g,x.1∈m.rt∧∃ p,x.2=some p∧(∀ k,gm k p=false)∧W.env x.1=some p) :
 ∃ (rT:List (Nat×Option PV)) (rR:List (Nat×Option Row)) (rS:List (Nat×Row)),jL rT m.rt=true∧jL rR m.rr=true∧(∀ x∈rS,x.1∈m.rr)∧(∀ x∈rT,∃ p,x.2=some p∧∀ k,gm k p=true→k∈l)∧(∀ x∈rR,Nat.ble opened x.1=true→x.2=none)∧(∀ x∈rS,yn x.2.data l) ∧
  eQ rT W.env∧eQ rR W.rows∧(∀ x∈rS,∃ d,W.rows x.1=some d∧jn x.2 d) ∧
  ∀ S0:St,eQ rT S0.env→eQ rR S0.rows→(∀ x∈rS,∃ d,S0.rows x.1=some d∧jn x.2 d)→cM S0 (rdL (some ms) i S) (rrL (some ms) i S)∧∀ x∈g,S0.env x.1=x.2:=by
 refine ⟨g++m.rt.filterMap (fun t=>((rdL (some ms) i S t).bind Val.pv).map fun p=>(t,some p)),m.rr.filterMap (fun k=>match Nat.ble opened k&&(find S.rows k).isSome with | true=>none | false=>some (k,W.rows k)),m.rr.filterMap (fun k=>match Nat.ble opened k with | true=>(find S.rows k).map fun r=>(k,(pR (some l) r).row) | false=>none),?_,?_,?_,?_,?_,?_,?_,?_,?_,?_⟩
 ·refine vU (fun x hx=>?_)
  rcases List.mem_append.1 hx with hx | hx
  ·exact (hg x hx).1
  ·obtain ⟨t,ht,h2⟩:=List.mem_filterMap.1 hx
   obtain ⟨p,_,rfl⟩:=Option.map_eq_some_iff.1 h2
   exact ht
 ·refine vU (fun x hx=>?_)
  obtain ⟨k,hk,h2⟩:=List.mem_filterMap.1 hx
  split at h2
  ·cases h2
  ·cases h2;exact hk
 ·intro x hx
  obtain ⟨k,hk,h2⟩:=List.mem_filterMap.1 hx
  split at h2
  ·obtain ⟨r,_,rfl⟩:=Option.map_eq_some_iff.1 h2
   exact hk
  ·cases h2
 ·intro x hx
  rcases List.mem_append.1 hx with hx | hx
  ·obtain ⟨_,p,h2,h3,_⟩:=hg x hx
   exact ⟨p,h2,fun k hk=>by rw [h3 k] at hk;cases hk⟩
  ·obtain ⟨t,ht,h2⟩:=List.mem_filterMap.1 hx
   obtain ⟨p,h3,rfl⟩:=Option.map_eq_some_iff.1 h2
   obtain ⟨v,h4,h5⟩:=Option.bind_eq_some_iff.1 h3
   refine ⟨p,rfl,fun k hk=>?_⟩
   have hv:visV l v=true:=by
    simp only [rdL,h1] at h4
    split at h4
    ·split at h4
     ·rename_i v' hv'
      split at h4
      ·rename_i hvis
       cases h4
       rw [hrf] at hvis
       exact hvis
      ·cases h4
     ·cases h4
    ·cases h4
   exact vJ hv h5 k hk
 ·intro x hx ho
  obtain ⟨k,hk,h2⟩:=List.mem_filterMap.1 hx
  split at h2
  ·cases h2
  ·rename_i hb
   cases h2
   rw [ho,Bool.true_and] at hb
   show W.rows k=none
   rw [hs.rows]
   cases hf:find S.rows k with
   | none=>rfl
   | some r=>rw [hf] at hb;cases hb
 ·intro x hx
  obtain ⟨k,hk,h2⟩:=List.mem_filterMap.1 hx
  split at h2
  ·obtain ⟨r,_,rfl⟩:=Option.map_eq_some_iff.1 h2
   exact Bp l r
  ·cases h2
 ·refine gV.2 (fun x hx=>?_)
  rcases List.mem_append.1 hx with hx | hx
  ·obtain ⟨_,p,h2,_,h4⟩:=hg x hx
   rw [h2];exact h4
  ·obtain ⟨t,ht,h2⟩:=List.mem_filterMap.1 hx
   obtain ⟨p,h3,rfl⟩:=Option.map_eq_some_iff.1 h2
   obtain ⟨v,h4,h5⟩:=Option.bind_eq_some_iff.1 h3
   exact hs.env t v p (kX h4) h5
 ·refine gV.2 (fun x hx=>?_)
  obtain ⟨k,hk,h2⟩:=List.mem_filterMap.1 hx
  split at h2
  ·cases h2
  ·cases h2;rfl
 ·intro x hx
  obtain ⟨k,hk,h2⟩:=List.mem_filterMap.1 hx
  split at h2
  ·obtain ⟨r,hr,rfl⟩:=Option.map_eq_some_iff.1 h2
   exact ⟨r.row,by rw [hs.rows,hr];rfl,Bq (some l) r⟩
  ·cases h2
 ·intro S0 f1 f2 f3
  have f1:=gV.1 f1
  have f2:=gV.1 f2
  refine ⟨⟨fun t v p hv hp=>?_,fun k x hx=>?_⟩,fun x hx=>f1 x (List.mem_append_left _ hx)⟩
  ·have hmem:t∈m.rt:=by
    simp only [rdL,h1] at hv
    split at hv
    ·rename_i hb;exact mem_iff.1 hb
    ·cases hv
   exact f1 (t,some p) (List.mem_append_right _ (List.mem_filterMap.2 ⟨t,hmem,by rw [hv];simp only [Option.bind_some,hp,Option.map_some]⟩))
  ·have hmem:k∈m.rr:=by
    simp only [rrL,h1] at hx
    split at hx
    ·rename_i hb;exact mem_iff.1 hb
    ·cases hx
   have hx':x=(find S.rows k).map (pR (some l)):=by
    simp only [rrL,h1,hrf] at hx
    split at hx
    ·cases hx;rfl
    ·cases hx
   subst hx'
   cases hf:find S.rows k with
   | none =>
    have:=f2 (k,W.rows k) (List.mem_filterMap.2 ⟨k,hmem,by rw [hf];simp only [Option.isSome_none,Bool.and_false]⟩)
    show S0.rows k=none
    rw [show S0.rows k=W.rows k from this,hs.rows,hf]
    rfl
   | some r =>
    cases ho:Nat.ble opened k with
    | true =>
     obtain ⟨d,g1,g2⟩:=f3 (k,(pR (some l) r).row) (List.mem_filterMap.2 ⟨k,hmem,by rw [ho,hf];rfl⟩)
     have g1:S0.rows k=some d:=g1
     rw [g1]
     cases r with
     | obox e fs=>exact ⟨d,rfl,g2⟩
     | arr e t x=>exact congrArg some (wG g2 (sD (r:=.arr e t x) (fun _ _ h=>by cases h)))
     | box e t x=>exact congrArg some (wG g2 (sD (r:=.box e t x) (fun _ _ h=>by cases h)))
    | false =>
     have:=f2 (k,W.rows k) (List.mem_filterMap.2 ⟨k,hmem,by rw [ho];rfl⟩)
     rw [show S0.rows k=W.rows k from this,hs.rows,hf]
     exact lT (some l) (some r)
theorem lQ {P:Program} {v:Val} {r:Option (Nat×cQ)} (hi:ops[i]?=some o) (hm:im T ops lim i o) (hs:Sub S W) (hg:GT ops o W) (hd:inb X o.dst) (hr:xV lim none i r=true) (hv:lR lim i v=true)
 (h:∀ W0,cM W0 (rdL lim i S) (rrL lim i S)→dY P X o W0 (jg (se W0 r) o.dst v)) (hl:Wk P X ops lim (i+1) l (jg (se W r) o.dst v) q):Wk P X ops lim i (o :: l) W q:=by
 cases lim with
 | none=>exact .step hg (h W hs.agree) hd hl
 | some ms =>
  obtain ⟨m,h1,h2,h3,_⟩:=hm
  simp only [lR,h1] at hv
  split at hv
  case h_2=>cases hv
  rename_i hkl
  have kW:jL (o.dst.toList.map fun d=>(d,v.pv)) m.wt=true:=by
   cases hdd:o.dst with
   | none=>rfl
   | some d=>simpa [jL] using h3 d hdd
  have kR:jL (r.toList.map fun x=>(x.1,some x.2.row)) m.wr=true∧∀ x,r=some x→wg m.rf x.2=true:=by
   cases r with
   | none=>exact ⟨rfl,fun x h=>by cases h⟩
   | some x =>
    simp only [xV,h1,Bool.and_eq_true] at hr
    exact ⟨by simpa [jL] using mem_iff.1 hr.1,fun y hy=>by cases hy;exact hr.2⟩
  cases hrf:m.rf with
  | none =>
   refine ⟨m,⟨m.rt.map fun t=>(t,W.env t),m.rr.map fun k=>(k,W.rows k),o.dst.toList.map fun d=>(d,v.pv),r.toList.map fun x=>(x.1,some x.2.row),[],none⟩,h1,?_,⟨hkl.symm,(fun x hx=>by cases hx),(fun l hl=>by rw [hrf] at hl;cases hl)⟩,⟨rA _ _,rA _ _,(fun x hx=>by cases hx)⟩,fun S0 hf=>?_,?_⟩
   ·simp only [ji,sub_map,Bool.true_and,Bool.and_eq_true]
    exact ⟨kW,kR.1⟩
   ·have f1:=gV.1 hf.rT
    have f2:=gV.1 hf.rR
    have e1:∀ t∈m.rt,S0.env t=W.env t:=fun t ht=>f1 (t,W.env t) (List.mem_map.2 ⟨t,ht,rfl⟩)
    have e2:∀ k∈m.rr,S0.rows k=W.rows k:=fun k hk=>f2 (k,W.rows k) (List.mem_map.2 ⟨k,hk,rfl⟩)
    have hA:cM S0 (rdL (some ms) i S) (rrL (some ms) i S):=by
     refine ⟨fun t u p g1 g2=>?_,fun k x g1=>?_⟩
     ·have hmem:t∈m.rt:=by
       simp only [rdL,h1] at g1
       split at g1
       ·rename_i hb;exact mem_iff.1 hb
       ·cases g1
      rw [e1 t hmem]
      exact hs.env t u p (kX g1) g2
     ·have hmem:k∈m.rr:=by
       simp only [rrL,h1] at g1
       split at g1
       ·rename_i hb;exact mem_iff.1 hb
       ·cases g1
      obtain ⟨rf,rfl⟩:=we g1
      rw [e2 k hmem,hs.rows]
      exact lT rf _
    have hop:=h S0 hA
    have e:jg (se S0 r) o.dst v=Stp.go ⟨m.rt.map fun t=>(t,W.env t),m.rr.map fun k=>(k,W.rows k),o.dst.toList.map fun d=>(d,v.pv),r.toList.map fun x=>(x.1,some x.2.row),[],none⟩ S0:=(nJ _ _ _ _).symm
    rcases hg with hg | ⟨j,w,oj,t,g1,g2,g3,g4⟩
    ·exact bu (by simpa using hi) hg hop e
    ·have hmem:t∈m.rt:=h2 j w g1 t (by rw [g2];exact g3)
     exact ob (by simpa using hi) g1 (by simpa using g2) g3 (b':=w) (by rw [e1 t hmem];exact g4) rfl hop e
   ·have e:Stp.go ⟨m.rt.map fun t=>(t,W.env t),m.rr.map fun k=>(k,W.rows k),o.dst.toList.map fun d=>(d,v.pv),r.toList.map fun x=>(x.1,some x.2.row),[],none⟩ W=jg (se W r) o.dst v:=nJ _ _ _ _
    rw [e]
    exact hl
  | some l0 =>
   rw [hrf] at hv kR
   obtain ⟨g,hg1,hg2⟩:∃ g:List (Nat×Option PV),(∀ x∈g,x.1∈m.rt∧∃ p,x.2=some p∧(∀ k,gm k p=false)∧W.env x.1=some p)∧(o.guard=none∨∃ j w oj t,o.guard=some (j,w)∧ops[j]?=some oj∧oj.dst=some t∧(t,some (PV.bool w))∈g):=by
    rcases hg with hg | ⟨j,w,oj,t,g1,g2,g3,g4⟩
    ·exact ⟨[],(fun x hx=>by cases hx),.inl hg⟩
    ·refine ⟨[(t,some (PV.bool w))],fun x hx=>?_,.inr ⟨j,w,oj,t,g1,g2,g3,List.mem_singleton.2 rfl⟩⟩
     rw [List.mem_singleton.1 hx]
     exact ⟨h2 j w g1 t (by rw [g2];exact g3),_,rfl,fun _=>rfl,g4⟩
   obtain ⟨rT,rR,rS,q1,q2,q3,q4,q5,q6,q7,q8,q9,q10⟩:=reads h1 hrf hs g hg1
   refine ⟨m,⟨rT,rR,o.dst.toList.map fun d=>(d,v.pv),r.toList.map fun x=>(x.1,some x.2.row),rS,none⟩,h1,?_,⟨hkl.symm,q3,fun l hl=>?_⟩,⟨q7,q8,q9⟩,fun S0 hf=>?_,?_⟩
   ·simp only [ji,q1,q2,Bool.true_and,Bool.and_eq_true]
    exact ⟨kW,kR.1⟩
   ·rw [hrf] at hl
    cases hl
    refine ⟨q4,q5,q6,fun x hx p hp k hk=>?_,fun x hx d hd' ho=>?_⟩
    ·obtain ⟨dd,_,rfl⟩:=List.mem_map.1 hx
     exact vJ hv hp k hk
    ·obtain ⟨y,hy,rfl⟩:=List.mem_map.1 hx
     cases hd'
     cases r with
     | none=>cases hy
     | some z =>
      simp only [Option.toList_some,List.mem_singleton] at hy
      subst hy
      exact row_owns (kR.2 _ rfl)
   ·obtain ⟨hA,hgs⟩:=q10 S0 hf.rT hf.rR hf.rS
    have hop:=h S0 hA
    have e:jg (se S0 r) o.dst v=Stp.go ⟨rT,rR,o.dst.toList.map fun d=>(d,v.pv),r.toList.map fun x=>(x.1,some x.2.row),rS,none⟩ S0:=(nJ _ _ _ _).symm
    rcases hg2 with hg | ⟨j,w,oj,t,g1,g2,g3,g4⟩
    ·exact bu (by simpa using hi) hg hop e
    ·exact ob (by simpa using hi) g1 (by simpa using g2) g3 (b':=w) (hgs _ g4) rfl hop e
   ·have e:Stp.go ⟨rT,rR,o.dst.toList.map fun d=>(d,v.pv),r.toList.map fun x=>(x.1,some x.2.row),rS,none⟩ W=jg (se W r) o.dst v:=nJ _ _ _ _
    rw [e]
    exact hl
theorem zd {P:Program} {j d:Nat} {R:Row} (hi:ops[i]?=some o) (hm:im T ops lim i o) (hs:Sub S W) (hg:o.guard=none) (hd:inb X o.dst) (hdd:o.dst=some d) (ha:yU lim i j=true) (hj:Nat.ble opened j=false)
 (h:∀ W0,cM W0 (rdL lim i S) (rrL lim i S)→dY P X o W0 (put (setRow (kill W0 j) j R) o.dst (.own j))) (hl:Wk P X ops lim (i+1) l (put (setRow (kill W j) j R) o.dst (.own j)) q):Wk P X ops lim i (o :: l) W q:=by
 cases lim with
 | none=>exact .step (.inl hg) (h W hs.agree) hd hl
 | some ms =>
  obtain ⟨m,h1,h2,h3,_⟩:=hm
  simp only [yU,h1] at ha
  split at ha
  case h_2=>cases ha
  rename_i k l0 hkl hrf
  simp only [Bool.and_eq_true] at ha
  obtain ⟨⟨a1,a2⟩,a3⟩:=ha
  have a1:=beq_true a1
  subst a1
  obtain ⟨rT,rR,rS,q1,q2,q3,q4,q5,q6,q7,q8,q9,q10⟩:=reads h1 hrf hs [] (fun x hx=>by cases hx)
  have e:∀ S0,Stp.go ⟨rT,rR,[(d,some (.own k))],[(k,some R)],rS,some k⟩ S0=put (setRow (kill S0 k) k R) o.dst (.own k):=by
   intro S0
   rw [hdd]
   refine mE (funext fun t=>rfl) (funext fun t=>rfl)
  refine ⟨m,⟨rT,rR,[(d,some (.own k))],[(k,some R)],rS,some k⟩,h1,?_,⟨hkl.symm,q3,fun l hl=>?_⟩,⟨q7,q8,q9⟩,fun S0 hf=>?_,?_⟩
  ·simp only [ji,q1,q2,Bool.true_and,Bool.and_eq_true]
   exact ⟨by simpa [jL] using h3 d hdd,by simpa [jL] using mem_iff.1 a2⟩
  ·rw [hrf] at hl
   cases hl
   refine ⟨q4,q5,q6,fun x hx p hp u hu=>?_,fun x hx d' hd' ho=>?_⟩
   ·rw [List.mem_singleton.1 hx] at hp
    cases hp
    simp only [gm,beq_iff_eq] at hu
    rw [← hu]
    exact mem_iff.1 a3
   ·rw [List.mem_singleton.1 hx] at ho
    rw [hj] at ho
    cases ho
  ·obtain ⟨hA,_⟩:=q10 S0 hf.rT hf.rR hf.rS
   exact bu (by simpa using hi) hg (h S0 hA) (e S0).symm
  ·rw [e]
   exact hl
theorem wk_give {P:Program} {j d:Nat} {c:CV} (hc:fw c=true) (hi:ops[i]?=some o) (hm:im T ops lim i o) (hs:Sub S W) (hg:o.guard=none) (hd:inb X o.dst) (hdd:o.dst=some d) (ha:yU lim i j=true)
 (h:∀ W0,cM W0 (rdL lim i S) (rrL lim i S)→dY P X o W0 (put (iX W0 j) o.dst (.cv c))) (hl:Wk P X ops lim (i+1) l (put (iX W j) o.dst (.cv c)) q):Wk P X ops lim i (o :: l) W q:=by
 cases lim with
 | none=>exact .step (.inl hg) (h W hs.agree) hd hl
 | some ms =>
  obtain ⟨m,h1,h2,h3,_⟩:=hm
  simp only [yU,h1] at ha
  split at ha
  case h_2=>cases ha
  rename_i k l0 hkl hrf
  simp only [Bool.and_eq_true] at ha
  obtain ⟨⟨a1,a2⟩,a3⟩:=ha
  have a1:=beq_true a1
  subst a1
  obtain ⟨rT,rR,rS,q1,q2,q3,q4,q5,q6,q7,q8,q9,q10⟩:=reads h1 hrf hs [] (fun x hx=>by cases hx)
  have e:∀ S0,Stp.go ⟨rT,rR,[(d,some (.cv c))],[(k,none)],rS,some k⟩ S0=put (iX S0 k) o.dst (.cv c):=by
   intro S0
   rw [hdd]
   refine mE (funext fun t=>rfl) (funext fun t=>rfl)
  refine ⟨m,⟨rT,rR,[(d,some (.cv c))],[(k,none)],rS,some k⟩,h1,?_,⟨hkl.symm,q3,fun l hl=>?_⟩,⟨q7,q8,q9⟩,fun S0 hf=>?_,?_⟩
  ·simp only [ji,q1,q2,Bool.true_and,Bool.and_eq_true]
   exact ⟨by simpa [jL] using h3 d hdd,by simpa [jL] using mem_iff.1 a2⟩
  ·rw [hrf] at hl
   cases hl
   refine ⟨q4,q5,q6,fun x hx p hp u hu=>?_,fun x hx d' hd' ho=>?_⟩
   ·rw [List.mem_singleton.1 hx] at hp
    cases hp
    cases c with
    | own q=>cases hc
    | _=>cases hu
   ·rw [List.mem_singleton.1 hx] at hd'
    cases hd'
  ·obtain ⟨hA,_⟩:=q10 S0 hf.rT hf.rR hf.rS
   exact bu (by simpa using hi) hg (h S0 hA) (e S0).symm
  ·rw [e]
   exact hl
theorem wk_skip {P:Program} (hi:ops[i]?=some o) (hm:im T ops lim i o) (hg:GF ops o W) (hd:inb X o.dst) (hl:Wk P X ops lim (i+1) l (put W o.dst (.cv (.lit undef))) q):Wk P X ops lim i (o :: l) W q:=by
 cases lim with
 | none=>exact .skip hg hd hl
 | some ms =>
  obtain ⟨m,h1,h2,h3,h4⟩:=hm
  obtain ⟨j,w,oj,t,g1,g2,g3,g4⟩:=hg
  have hmem:t∈m.rt:=h2 j w g1 t (by rw [g2];exact g3)
  have hkl:m.kl=none:=h4.resolve_right (fun h=>by rw [g1] at h;cases h.1)
  have e:∀ W0:St,Stp.go ⟨[(t,W.env t)],[],o.dst.toList.map fun d=>(d,Val.undef.pv),[],[],none⟩ W0=put W0 o.dst (.cv (.lit undef)):=by
   intro W0
   cases hdd:o.dst<;>rfl
  refine ⟨m,⟨[(t,W.env t)],[],o.dst.toList.map fun d=>(d,Val.undef.pv),[],[],none⟩,h1,?_,⟨hkl.symm,(fun x hx=>by cases hx),fun l0 _=>⟨fun x hx=>?_,(fun x hx=>by cases hx),(fun x hx=>by cases hx),fun x hx p hp k hk=>?_,(fun x hx=>by cases hx)⟩⟩,⟨⟨rfl,trivial⟩,trivial,(fun x hx=>by cases hx)⟩,fun S0 hf=>?_,by rw [e];exact hl⟩
  ·simp only [ji,Bool.and_eq_true]
   refine ⟨⟨⟨by simpa [jL] using hmem,rfl⟩,?_⟩,rfl⟩
   cases hdd:o.dst with
   | none=>rfl
   | some d=>simpa [jL] using h3 d hdd
  ·rw [List.mem_singleton.1 hx]
   rcases g4 with g4 | g4
   ·exact ⟨_,g4,fun k hk=>by cases hk⟩
   ·exact ⟨_,g4,fun k hk=>by cases hk⟩
  ·obtain ⟨dd,_,rfl⟩:=List.mem_map.1 hx
   cases hp
   cases hk
  ·have he:S0.env t=W.env t:=hf.rT.1
   rcases g4 with g4 | g4
   ·exact r9 (by simpa using hi) g1 (by simpa using g2) g3 (by rw [he];exact g4) rfl hd (e _).symm
   ·exact r8 (by simpa using hi) g1 (by simpa using g2) g3 (by rw [he];exact g4) hd (e _).symm
end
end Go.Proofs.YtfbgaddecbiimaaGreatDoor.E
end
section
namespace Go.Proofs.YtfbgaddecbiimaaGreatDoor.E
open Go.RowKit Go.Proofs.YtfbgaddecbiimaaGreatDoorW.PrintWords Go.Proofs.YtfbgaddecbiimaaGreatDoorW.PrintMore Go.Proofs.YtfbgaddecbiimaaGreatDoor.V
set_option linter.unusedVariables false
section
variable {T:Tab} {X:Ctx} {S:ES} {W W':St} {o:Oper}
theorem jE {α:Type} (f:α→α):∀ (l:List (Nat×α)) (t:Nat),find (ub f l) t=(find l t).map f
 | [],t=>rfl
 | x :: l,t=>by
  simp only [ub,find]
  split
  ·rfl
  ·exact jE f l t
theorem jX {α:Type} (k:Nat):∀ (l:List (Nat×α)) (t:Nat),find (jF k l) t=if t=k then none else find l t
 | [],t=>by simp [jF,find]
 | x :: l,t=>by
  simp only [jF]
  split
  ·rename_i h
   have h:=beq_true h
   rw [jX k l t]
   simp only [find]
   by_cases c:t=k
   ·rw [if_pos c,if_pos c]
   ·rw [if_neg c,if_neg c]
    split
    ·rename_i h2
     exact absurd ((beq_true h2).trans h) c
    ·rfl
  ·rename_i h
   have h:=beq_false h
   simp only [find]
   split
   ·rename_i h2
    have h2:=beq_true h2
    rw [if_neg (by omega)]
   ·exact jX k l t
theorem lF (g:Fld→Fld):∀ (l:List (Nat×cQ)) (t:Nat),find (u5 g l) t=(find l t).map (mS g t)
 | [],t=>rfl
 | x :: l,t=>by
  simp only [u5,find]
  split
  ·rename_i h
   rw [beq_true h]
   rfl
  ·exact lF g l t
theorem Bh {k:Nat} {e:TypeId} {t:Ty} {l:List t.den} (v:Val) (hw:∀ j n,v = .wn j n→j≠k):(ud k t l v).pv=v.pv.bind (conv k (cQ.arr e t l).row):=by
 cases v with
 | own j =>
  cases hb:Nat.beq j k with
  | true=>simp only [ud,hb,Val.pv,Option.bind_some,conv];rw [if_pos (beq_true hb)];rfl
  | false=>simp only [ud,hb,Val.pv,Option.bind_some,conv];rw [if_neg (beq_false hb)]
 | po j off p =>
  cases hb:Nat.beq j k with
  | true=>simp only [ud,hb,Val.pv,Option.bind_some,conv];rw [if_pos (beq_true hb)]
  | false=>simp only [ud,hb,Val.pv,Option.bind_some,conv];rw [if_neg (beq_false hb)]
 | pe j i sz off p =>
  cases hb:Nat.beq j k with
  | true=>simp only [ud,hb,Val.pv,Option.bind_some,conv];rw [if_pos (beq_true hb)]
  | false=>simp only [ud,hb,Val.pv,Option.bind_some,conv];rw [if_neg (beq_false hb)]
 | pa j off p n i sz =>
  cases hb:Nat.beq j k with
  | true=>simp only [ud,hb,Val.pv,Option.bind_some,conv];rw [if_pos (beq_true hb)]
  | false=>simp only [ud,hb,Val.pv,Option.bind_some,conv];rw [if_neg (beq_false hb)]
 | wn j n =>
  cases hb:Nat.beq j k with
  | true=>exact absurd (beq_true hb) (hw j n rfl)
  | false=>simp only [ud,hb,Val.pv,Option.bind_some,conv];rw [if_neg (beq_false hb)]
 | v c x =>
  show some (c.pv x)=conv k _ (c.pv x)
  have hu:=uh c x k
  cases c with
  | pair a b =>
   have hu:(Ty.enc (.pair a b) x).any (j7 k)=false:=hu
   show some (PV.ag (Ty.enc (.pair a b) x))=(bif (Ty.enc (.pair a b) x).any (j7 k) then none else some (PV.ag (Ty.enc (.pair a b) x)))
   rw [hu]
   rfl
  | arr n e =>
   have hu:(Ty.enc (.arr n e) x).any (j7 k)=false:=hu
   show some (PV.ag (Ty.enc (.arr n e) x))=(bif (Ty.enc (.arr n e) x).any (j7 k) then none else some (PV.ag (Ty.enc (.arr n e) x)))
   rw [hu]
   rfl
  | _=>rfl
 | st fs =>
  cases hb:mem (iw fs) k with
  | true =>
   have:(dT fs).any (j7 k)=true:=(eu fs k).2 (mem_iff.1 hb)
   simp only [ud,hb,Val.pv,Option.bind_some,conv,this,cond_true]
  | false=>simp only [ud,hb,Val.pv,Option.bind_some,conv,sX hb,cond_false]
 | _=>rfl
theorem conv_frz {k:Nat} {e:TypeId} {t:Ty} {l:List t.den} (v:Val) {p:PV} (h:(ud k t l v).pv=some p):v.pv.bind (conv k (cQ.arr e t l).row)=some p:=by
 rw [← Bh v (fun j n hv hj=>?_)]
 ·exact h
 ·subst hv hj
  simp only [ud,Nat.beq_refl,Val.pv] at h
  cases h
theorem uO {k:Nat} {e:TypeId} {t:Ty} {l:List t.den} (j:Nat) (r:cQ):(mS (frzF k t l) j r).row=jc k (cQ.arr e t l).row j r.row:=by
 have same:∀ (d:Row),d.data.all fw=true→jc k (cQ.arr e t l).row j d=d:=by
  intro d hd
  unfold jc
  cases Nat.ble opened j with
  | false=>rfl
  | true =>
   simp only [cond_true]
   rw [jy (fun c hc=>by cases c<;>first | rfl | cases hc) hd]
 cases r with
 | arr e2 t2 l2=>exact (same _ (gT l2)).symm
 | box e2 t2 x2=>exact (same _ (dm t2 x2)).symm
 | obox e2 fs =>
  cases ho:Nat.ble opened j with
  | false=>simp only [mS,jc,ho,cond_false]
  | true =>
   simp only [mS,jc,ho,cond_true,cQ.row]
   have h1:∀ f:Fld,(frzF k t l f).enc=f.enc.map (yS k (cQ.arr e t l).row):=by
    intro f
    cases f with
    | v c x=>exact (jy (fun c hc=>by cases c<;>first | rfl | cases hc) (dm c x)).symm
    | own q =>
     simp only [frzF,Fld.enc,List.map_cons,List.map_nil,yS]
     cases Nat.beq q k<;>rfl
    | hole=>rfl
   have h2:∀ f:Fld,(frzF k t l f).sz=f.sz:=by
    intro f
    cases f with
    | own q=>simp only [frzF];cases Nat.beq q k<;>rfl
    | _=>rfl
   rw [oM h2,nN h1]
   rfl
theorem frz_rel (k:Nat):∀ a w,Rel X S.st a w→Rel X (S.frz k).st a w:=by
 intro a w h
 unfold ES.frz
 split
 ·rename_i e t l hk
  split
  ·exact h
  ·rename_i hb
   rw [Bool.or_eq_false_iff] at hb
   have h2:=cD (S:=S.st) (k:=k) (d:=(cQ.arr e t l).row) (by simp only [ES.st,hk,Option.map_some]) (beq_false hb.1) hb.2 a w h
   have e1:Sub ⟨ub (ud k t l) S.env,u5 (frzF k t l) (jF k S.rows)⟩ (V.freeze S.st k (cQ.arr e t l).row):=by
    refine ⟨fun u v p f1 f2=>?_,fun j=>?_⟩
    ·simp only [jE] at f1
     obtain ⟨v0,f3,rfl⟩:=Option.map_eq_some_iff.1 f1
     have:=conv_frz (e:=e) v0 f2
     simp only [V.freeze,ES.st,f3,Option.bind_some]
     exact this
    ·simp only [V.freeze,ES.st,lF,jX]
     by_cases c:j=k
     ·rw [if_pos c,if_pos c];rfl
     ·rw [if_neg c,if_neg c]
      cases find S.rows j with
      | none=>rfl
      | some r=>simp only [Option.map_some];rw [uO]
   exact iH e1 a w h2
 ·exact h
theorem ej:∀ (xs:List Nat) (S:ES),∀ a w,Rel X S.st a w→Rel X (S.eO xs).st a w
 | [],S,a,w,h=>h
 | x :: xs,S,a,w,h=>ej xs (S.frz x) a w (frz_rel x a w h)
theorem kill_pv (k:Nat) (v:Val) (p:PV) (h:(gy k v).pv=some p):v.pv=some p∧gm k p=false:=by
 cases v with
 | own j =>
  cases hb:Nat.beq j k with
  | true=>simp only [gy,hb,Val.pv] at h;cases h
  | false=>simp only [gy,hb,Val.pv] at h;cases h;exact ⟨rfl,by simp only [gm,beq_eq_false_iff_ne];exact beq_false hb⟩
 | po j off q =>
  cases hb:Nat.beq j k with
  | true=>simp only [gy,hb,Val.pv] at h;cases h
  | false=>simp only [gy,hb,Val.pv] at h;cases h;exact ⟨rfl,by simp only [gm,beq_eq_false_iff_ne];exact beq_false hb⟩
 | pe j i sz off q =>
  cases hb:Nat.beq j k with
  | true=>simp only [gy,hb,Val.pv] at h;cases h
  | false=>simp only [gy,hb,Val.pv] at h;cases h;exact ⟨rfl,by simp only [gm,beq_eq_false_iff_ne];exact beq_false hb⟩
 | pa j off q n i sz =>
  cases hb:Nat.beq j k with
  | true=>simp only [gy,hb,Val.pv] at h;cases h
  | false=>simp only [gy,hb,Val.pv] at h;cases h;exact ⟨rfl,by simp only [gm,beq_eq_false_iff_ne];exact beq_false hb⟩
 | wn j n =>
  cases hb:Nat.beq j k with
  | true=>simp only [gy,hb,Val.pv] at h;cases h
  | false=>simp only [gy,hb,Val.pv] at h;cases h;exact ⟨rfl,by simp only [gm,beq_eq_false_iff_ne];exact beq_false hb⟩
 | v c x=>simp only [gy,Val.pv] at h;cases h;exact ⟨rfl,uh c x k⟩
 | st fs =>
  cases hb:mem (iw fs) k with
  | true=>simp only [gy,hb,Val.pv] at h;cases h
  | false=>simp only [gy,hb,Val.pv] at h;cases h;exact ⟨rfl,sX hb⟩
 | tup c x=>simp only [gy,Val.pv] at h;cases h
 | any=>cases h
 | _=>simp only [gy,Val.pv] at h;cases h;exact ⟨rfl,rfl⟩
theorem oF {k:Nat} (j:Nat) (r:cQ):(mS (kx k) j r).row=dZ k j r.row:=by
 have same:∀ (d:Row),d.data.all fw=true→dZ k j d=d:=by
  intro d hd
  unfold dZ
  cases Nat.ble opened j with
  | false=>rfl
  | true =>
   simp only [cond_true]
   rw [jy (fun c hc=>by cases c<;>first | rfl | cases hc) hd]
 cases r with
 | arr e2 t2 l2=>exact (same _ (gT l2)).symm
 | box e2 t2 x2=>exact (same _ (dm t2 x2)).symm
 | obox e2 fs =>
  cases ho:Nat.ble opened j with
  | false=>simp only [mS,dZ,ho,cond_false]
  | true =>
   simp only [mS,dZ,ho,cond_true,cQ.row]
   have h1:∀ f:Fld,(kx k f).enc=f.enc.map (lA k):=by
    intro f
    cases f with
    | v c x=>exact (jy (fun c hc=>by cases c<;>first | rfl | cases hc) (dm c x)).symm
    | own q =>
     simp only [kx,Fld.enc,List.map_cons,List.map_nil,lA]
     cases Nat.beq q k<;>rfl
    | hole=>rfl
   have h2:∀ f:Fld,(kx k f).sz=f.sz:=by
    intro f
    cases f with
    | own q=>simp only [kx];cases Nat.beq q k<;>rfl
    | _=>rfl
   rw [oM h2,nN h1]
theorem kK {k:Nat} {E:List (Nat×Val)} {R:List (Nat×cQ)} {W:St} (hs:Sub ⟨E,R⟩ W):Sub ⟨ub (gy k) E,u5 (kx k) R⟩ (kill W k):=by
 refine ⟨fun u v p f1 f2=>?_,fun j=>?_⟩
 ·rw [jE] at f1
  obtain ⟨v0,f3,rfl⟩:=Option.map_eq_some_iff.1 f1
  obtain ⟨f4,f5⟩:=kill_pv k v0 p f2
  have f6:=hs.env u v0 p f3 f4
  simp only [kill,f6,f5]
  rfl
 ·show (W.rows j).map (dZ k j)=(find (u5 (kx k) R) j).map cQ.row
  rw [lF,show W.rows j=(find R j).map cQ.row from hs.rows j]
  cases find R j with
  | none=>rfl
  | some r=>simp only [Option.map_some];rw [oF]
theorem vS {k:Nat} {E:List (Nat×Val)} {R:List (Nat×cQ)} {W:St} (hs:Sub ⟨E,R⟩ W):Sub ⟨ub (gy k) E,u5 (kx k) (jF k R)⟩ (iX W k):=by
 refine ⟨fun u v p f1 f2=>(kK (k:=k) hs).env u v p f1 f2,fun j=>?_⟩
 show (if j=k then none else (W.rows j).map (dZ k j))=(find (u5 (kx k) (jF k R)) j).map cQ.row
 rw [lF,jX]
 by_cases c:j=k
 ·rw [if_pos c,if_pos c];rfl
 ·rw [if_neg c,if_neg c,show W.rows j=(find R j).map cQ.row from hs.rows j]
  cases find R j with
  | none=>rfl
  | some r=>simp only [Option.map_some];rw [oF]
theorem me (d:Nat):∀ a w,Rel X S.st a w→Rel X (S.tM d).st a w:=by
 intro a w h
 unfold ES.tM
 split
 ·have h2:=zN (X:=X) (S:=S.st) d a w h
  exact iH (vS (k:=d) (E:=S.env) (R:=S.rows) (W:=S.st) (mC S)) a w h2
 ·exact h
theorem oW (own:List Nat) (o:Oper):∀ a w,Rel X S.st a w→Rel X (S.fresh own o).st a w:=by
 intro a w h
 unfold ES.fresh
 split
 ·split
  ·split
   ·exact me _ a w h
   ·exact me _ a w h
  ·exact me _ a w h
 ·exact h
theorem ky (own:List Nat):∀ (al:List (Nat×Nat)) (os:List Oper) (S:ES),∀ a w,Rel X S.st a w→Rel X (ES.jC T own al S os).st a w
 | _,[],S,a,w,h=>h
 | _,o :: os,S,a,w,h=>ky own _ os _ a w (oW own o a w (ej _ _ a w h))
def mr (v:Val):PV:=v.pv.getD (.tup [])
def eB (P:Program) (g:Nat):Prop:=∃ fn,P.funcs[g]?=some fn∧fn.name≠"runtime.NumGoroutine"∧fn.body≠none
def lpv:Option Val→PV
 | some (.v (.list _) _)=>.own cS
 | _=>.po cS 0
theorem lval_pv (c:Ty) (y:c.den):(lval c).pv=some (lpv (some (.v c y))):=by cases c<;>rfl
theorem lpv_lend (v:Option Val):dz (lpv v)=true:=by
 unfold lpv
 split<;>rfl
theorem lrow_sz (e:TypeId) (c:Ty) (x y:c.den):(pz e c x).row.sz=(pz e c y).row.sz:=by cases c<;>rfl
theorem tw {e:TypeId} {c:Ty} {r:cQ} {z:c.den} (h:AE e c r=some z):r=pz e c z:=by
 cases r with
 | obox e' fs=>cases h
 | arr e' t l =>
  simp only [AE] at h
  split at h
  ·rename_i hb
   obtain ⟨rfl,rfl⟩:=cA h
   rw [beq_true hb]
   rfl
  ·cases h
 | box e' t y =>
  simp only [AE] at h
  split at h
  ·rename_i hb hl
   obtain ⟨rfl,rfl⟩:=cA h
   rw [beq_true hb]
   cases t<;>first | rfl | cases hl
  ·cases h
def cJ (j:Nat) (vs:List Val):List PV:=(vs.map mr).set j (lpv vs[j]?)
def xo (T:Tab):Prop:=∀ ops draw S h y,T.hook ops draw S=some h→h.x=some y→∀ (X:Ctx) (id:Nat) (W:St) (Q:mv),(∀ (n:Nat) (o:Oper),ops[n]?=some o→inb X o.dst)→Sub S W→(∀ W',Sub (h.f y) W'→Q .normal W')→Sim T.P X (.region id ops.toArray draw) W Q
structure ie (T:Tab) (call:(g:Nat)→List Val→Option (T.out g).den):Prop where
 fn:∀ g vs r,yE T g = .no→call g vs=some r→eB T.P (real g)∧∃ p,(tZ (T.cC g) (T.out g) r).pv=some p∧V.Fn T.P (real g) (vs.map mr) p
 given:∀ g j e vs r,yE T g = .given j e→call g vs=some r→eB T.P (real g)∧T.cC g=false∧∃ (c:Ty) (y y2:List c.den),vs[j]?=some (.v (.list c) y)∧(⟨T.out g,r⟩:Σ t:Ty,t.den)=⟨.list c,y2⟩∧FnG T.P (real g) (cJ j vs) (cQ.arr e c y).row (cQ.arr e c y2).row
 cS:∀ g j e vs r v c2 y2,yE T g = .cS j e→call g vs=some r→outV (T.cC g) (T.out g) r=some (v,.v c2 y2)→eB T.P (real g)∧∃ p,v.pv=some p∧∃ y,vs[j]?=some (.v c2 y)∧FnW T.P (real g) (cJ j vs) (pz e c2 y).row p (pz e c2 y2).row
 hook:xo T
def uM (p:PV):Prop:=∃ (t:Ty) (y:t.den),p=t.pv y
theorem k8 {p:PV} (h:uM p) (k:Nat):ren k p=p∧dz p=true∧closed p=true:=by
 obtain ⟨t,y,rfl⟩:=h
 cases t with
 | pair a b=>exact ⟨rfl,dm (.pair a b) y,dm (.pair a b) y⟩
 | arr n e=>exact ⟨rfl,dm (.arr n e) y,dm (.arr n e) y⟩
 | _=>exact ⟨rfl,rfl,rfl⟩
theorem j5 {rd:Nat→Option Val} {rr:Nat→Option (Option cQ)} (hA:cM W rd rr) {ln:Option Nat}:∀ (xs:List Operand) (ts:List Ty) (i:Nat) (vs:List Val),(∀ j,ln=some j→j<i)→jj rd rr ln i xs ts=some vs→evs W xs=some (vs.map mr)∧∀ p∈vs.map mr,uM p
 | [],[],i,vs,_,h=>by simp only [jj,Option.some.injEq] at h;subst h;exact ⟨rfl,fun p hp=>by simp at hp⟩
 | x :: xs,t :: ts,i,vs,hl,h=>by
  simp only [jj] at h
  split at h
  ·rename_i v hv
   have hb:tC ln i=false:=by
    cases ln with
    | none=>rfl
    | some j =>
     have:=hl j rfl
     cases hb:Nat.beq i j with
     | false=>exact hb
     | true=>have:=beq_true hb;omega
   simp only [hb] at h
   split at h
   ·rename_i y hy
    split at h
    ·rename_i l hl'
     cases h
     obtain ⟨g1,g2⟩:=j5 hA xs ts (i+1) l (fun j hj=>by have:=hl j hj;omega) hl'
     have hx:=hA.ev hv (dV hy)
     refine ⟨?_,?_⟩
     ·simp only [evs,hx,g1,List.map_cons]
      rfl
     ·intro p hp
      rw [List.map_cons] at hp
      rcases List.mem_cons.1 hp with rfl | hp
      ·exact ⟨t,y,rfl⟩
      ·exact g2 p hp
    ·cases h
   ·cases h
  ·cases h
 | [],_ :: _,_,_,_,h=>by cases h
 | _ :: _,[],_,_,_,h=>by cases h
theorem uB {l:List PV} (h:∀ p∈l,uM p) (k:Nat):l.map (ren k)=l∧l.all dz=true∧l.all closed=true:=by
 refine ⟨?_,List.all_eq_true.2 (fun p hp=>(k8 (h p hp) k).2.1),List.all_eq_true.2 (fun p hp=>(k8 (h p hp) k).2.2)⟩
 conv=>rhs;rw [← List.map_id l]
 exact List.map_congr_left (fun p hp=>(k8 (h p hp) k).1)
theorem pn {rd rd':Nat→Option Val} {rr:Nat→Option (Option cQ)} (hA:cM W rd rr) {j k:Nat} (hrd:∀ t v,rd t=some v→rd' t=some v):∀ (xs:List Operand) (ts:List Ty) (i:Nat) (vs:List Val),i≤j→jj rd rr (some j) i xs ts=some vs→oQ rd' (j-i) xs=some k →
 evs W xs=some ((cJ (j-i) vs).map (ren k))∧(cJ (j-i) vs).all dz=true∧∃ e t y,rr k=some (some (pz e t y))∧vs[j-i]?=some (.v t y)
 | [],_,i,vs,_,_,hl=>by simp [oQ] at hl
 | x :: xs,[],i,vs,_,h,_=>by cases h
 | x :: xs,t :: ts,i,vs,hi,h,hl=>by
  simp only [jj] at h
  split at h
  ·rename_i v hv
   by_cases c:i=j
   ·subst c
    simp only [Nat.sub_self] at hl ⊢
    simp only [tC,Nat.beq_refl] at h
    split at h
    ·rename_i y' hy
     split at h
     ·rename_i l hl'
      cases h
      have key:∀ k':Nat,(v = .po k' 0 []∨v = .own k')→k'=k:=by
       intro k' hk
       cases x with
       | tmp u =>
        simp only [evo] at hv
        have:=hrd u _ hv
        rcases hk with rfl | rfl
        ·simp only [oQ,evo,this] at hl
         cases hl;rfl
        ·simp only [oQ,evo,this] at hl
         cases hl;rfl
       | const cv =>
        simp only [evo,Option.some.injEq] at hv
        subst hv
        unfold cval at hk
        split at hk<;>rcases hk with hk | hk<;>cases hk
       | func f =>
        simp only [evo,Option.some.injEq] at hv
        subst hv
        rcases hk with hk | hk<;>cases hk
       | global g=>cases hv
      obtain ⟨g1,g2⟩:=j5 hA xs ts (i+1) l (fun j hj=>by cases hj;omega) hl'
      obtain ⟨g3,g4,_⟩:=uB g2 k
      have fin:∀ (e:TypeId) (p:PV),v.pv=some (ren k p)→p=lpv (some (.v t y'))→rr k=some (some (pz e t y'))→evs W (x :: xs)=some ((cJ 0 (.v t y' :: l)).map (ren k))∧(cJ 0 (.v t y' :: l)).all dz=true∧∃ e t2 y,rr k=some (some (pz e t2 y))∧(Val.v t y' :: l)[0]?=some (.v t2 y):=by
       intro e p hp1 hp2 hk
       have hx:=hA.ev hv hp1
       subst hp2
       refine ⟨?_,?_,e,t,y',hk,rfl⟩
       ·simp only [evs,hx,g1,cJ,List.map_cons,List.set_cons_zero,g3,List.getElem?_cons_zero]
       ·simp only [cJ,List.map_cons,List.set_cons_zero,List.all_cons,g4,Bool.and_true,List.getElem?_cons_zero]
        exact lpv_lend _
      split at hy
      ·rename_i k'
       have hk':=key k' (.inl rfl)
       subst hk'
       split at hy
       ·rename_i e cc y hk
        split at hy
        ·rename_i hnl
         obtain ⟨rfl,rfl⟩:=cA hy
         have e1:pz e cc y' = .box e cc y':=by cases cc<;>first | rfl | cases hnl
         refine fin e (.po cS 0) rfl ?_ (by rw [e1];exact hk)
         cases cc<;>first | rfl | cases hnl
        ·cases hy
       ·cases hy
      ·rename_i k'
       have hk':=key k' (.inr rfl)
       subst hk'
       split at hy
       ·rename_i e cc y hk
        obtain ⟨rfl,rfl⟩:=cA hy
        exact fin e (.own cS) rfl rfl hk
       ·cases hy
      ·cases hy
     ·cases h
    ·cases h
   ·have hb:Nat.beq i j=false:=by
     cases hb:Nat.beq i j with
     | false=>rfl
     | true=>exact absurd (beq_true hb) c
    simp only [tC,hb] at h
    split at h
    ·rename_i y hy
     split at h
     ·rename_i l hl'
      cases h
      have e1:j-i=(j-(i+1))+1:=by omega
      rw [e1] at hl ⊢
      obtain ⟨g1,g2,g3⟩:=pn hA hrd xs ts (i+1) l (by omega) hl' hl
      have hx:=hA.ev hv (dV hy)
      obtain ⟨p1,p2,_⟩:=k8 (p:=t.pv y) ⟨t,y,rfl⟩ k
      refine ⟨?_,?_,g3⟩
      ·simp only [evs,hx,g1,cJ,List.map_cons,List.set_cons_succ,List.getElem?_cons_succ]
       show some (t.pv y :: _)=some (ren k (t.pv y) :: _)
       rw [p1]
      ·simp only [cJ,List.map_cons,List.set_cons_succ,List.all_cons,Bool.and_eq_true,List.getElem?_cons_succ]
       exact ⟨p2,g2⟩
     ·cases h
    ·cases h
  ·cases h
theorem rU {P:Program} {c:Call} {y:Operand} {t e:TypeId} {inf:TypeInfo} {z:Value} {m:Nat} {ncs:List CV} {k:Nat} (ho:o.op = .call c) (hc:c.callee = .builtin .append) (ha:c.args = #[.const (.slice none 0 0),y]) (ht:c.argTypes = #[t,t]) (hu:P.underlying t=some (.slice e)) (hi:P.info? e=some inf) (hz:inf.zero=some z) (hzs:z.cells.size=inf.size) (hsz:0<inf.size)
 (hy:ev W y=some (.cv (.row m ncs))) (hm:ncs.length=m*inf.size) (h1:ncs.all one=true) (h63:m≤maxLen) (hb:m*inf.bytes≤140737488355328) (hk:W.rows k=none) (hkl:k≠cS) (hd:inb X o.dst) :
 dY P X o W (put (setRow W k ⟨e,inf.size,m,ncs⟩) o.dst (.own k)):=by
 intro a w ⟨L,r⟩
 have hy':=r.ev hy
 generalize hvy:a.eval y=vy at hy'
 have hx:a.eval (.const (.slice none 0 0)) = .slice none 0 0:=rfl
 have q1:w.ownsRow w.heap.size e inf.size (.slice none 0 0) 0 []:=World.ownsRow_nil w _ _ _
 have fin:∀ (v':Value) (w':World) (news:List Value),(Builtin.append_ #[t,t] o.type #[.slice none 0 0,vy]).run P w = .ok v' w'→w'.ownsRow w.heap.size e inf.size v' m news→Below w.heap.size w w'→news.length=ncs.length→(∀ i (h:i<ncs.length),Den w (Still X W.rows L w).shut (news.getD i undef) ncs[i]) →
  o.wp P a w (fun a' w'=>Rel X (put (setRow W k ⟨e,inf.size,m,ncs⟩) o.dst (.own k)) a' w') (fun _ _ _=>False):=by
  intro v' w' news hrun hown hbw hnl hnd
  have km:∀ j d,W.rows j=some d→(setRow W k ⟨e,inf.size,m,ncs⟩).rows j=some d∧bG L k v' j=L j:=by
   intro j d h
   have:j≠k:=fun e=>by subst e;rw [hk] at h;cases h
   exact ⟨by simp only [setRow];rw [if_neg this];exact h,by simp only [bG];rw [if_neg this]⟩
  have only:∀ j d,(setRow W k ⟨e,inf.size,m,ncs⟩).rows j=some d→W.rows j=none→j=k∧d=⟨e,inf.size,m,ncs⟩:=by
   intro j d h h0
   simp only [setRow] at h
   by_cases c:j=k
   ·rw [if_pos c] at h;cases h;exact ⟨c,rfl⟩
   ·rw [if_neg c,h0] at h;cases h
  have hL:bG L k v' k=v':=by simp [bG]
  have hn:∀ j d b,(setRow W k ⟨e,inf.size,m,ncs⟩).rows j=some d→W.rows j=none→(bG L k v' j).ownBlock=some b→w.heap.size≤b:=by
   intro j d b h h0 hb
   obtain ⟨rfl,rfl⟩:=only j d h h0
   rw [hL] at hb
   exact (hown.lt b hb).1
  have st:=gA (S':=setRow W k ⟨e,inf.size,m,ncs⟩) (L':=bG L k v') (w':=w') r hbw.size (fun j d h=>(km j d h).2) hn
  have r2:dC X (setRow W k ⟨e,inf.size,m,ncs⟩) (bG L k v') a w':=by
   refine r.grow hbw rfl km (fun j d h h0=>?_) (fun j j' d d' b h h' h0 h0' _ _=>by rw [(only j d h h0).1,(only j' d' h' h0').1]) (fun h=>by simp only [setRow];rw [if_neg (Ne.symm hkl)];exact h)
   obtain ⟨rfl,rfl⟩:=only j d h h0
   refine ⟨⟨news,by rw [hL];exact sW hown (Nat.le_trans X.hlo r.below.size),hnl,fun i hi=>((hnd i hi).mono (Fo.gF st) (fun b hb=>hbw.block b (Still.lt r.below hb))).mono (Fo.iu _ _) (fun _ _=>rfl)⟩,fun b hb=>by rw [hL] at hb;exact (hown.lt b hb).1⟩
  refine cz (fg ho hc ha ht (by rw [hx,hvy];exact hrun)) ⟨_,r2.put hd ?_⟩
  conv=>arg 5;rw [← hL]
  exact .own (r:=⟨e,inf.size,m,ncs⟩) (by simp [setRow])
 have go:∀ (ad:Addr) (c':Nat) (news:List Value),vy = .slice (some ad) m c'→news.length=ncs.length→(∀ i (h:i<ncs.length),Den w (Still X W.rows L w).shut (news.getD i undef) ncs[i])→(∀ j u,news[j]?=some u→w.cell? (ad.add j)=some u) →
  o.wp P a w (fun a' w'=>Rel X (put (setRow W k ⟨e,inf.size,m,ncs⟩) o.dst (.own k)) a' w') (fun _ _ _=>False):=by
  intro ad c' news hvy' hnl hnd hcell
  have hone:∀ u∈news,u.oneCell'=true:=by
   have:=iY (vs:=news.toArray) (cs:=ncs) (by simpa using hnl) (fun i hi=>by simpa [Array.getD_eq_getD_getElem?,List.getD_eq_getElem?_getD] using hnd i hi) h1
   simpa using this
  obtain ⟨v',w',g1,g2,g3,g4⟩:=run_append_own (P:=P) w w.heap.size t o.type e inf z inf.size inf.bytes hu hi hz rfl rfl hzs hsz (.slice none 0 0) 0 [] q1 ad m c' news (by rw [hnl,hm]) hcell hone (by omega) (by simpa using hb) (Nat.le_refl _)
  rw [Nat.zero_add,List.nil_append] at g2
  exact fin v' w' news (by rw [hvy'];exact g1) g2 (kn (w':=w') g3) hnl hnd
 cases hy' with
 | cv hden =>
  cases hden with
  | nil b c' hb' =>
   cases b with
   | none =>
    have:c'=0:=hb' rfl
    subst this
    have g1:=run_append_owned_none (P:=P) w w.heap.size t o.type e inf inf.size hu hi (.slice none 0 0) 0 [] q1
    exact fin _ w [] g1 q1 (Below.refl _ _) rfl (fun i h=>by simp at h)
   | some ad=>exact go ad c' [] rfl rfl (fun i h=>by simp at h) (fun j u h=>by simp at h)
  | row ad n c' cs vs hs hF hn hcc hdd =>
   refine go ad c' ((List.range ncs.length).map vs) rfl (by simp) (fun i hi=>?_) (fun j u hj=>?_)
   ·simpa [List.getD_eq_getElem?_getD,hi] using hdd i hi
   ·simp only [List.getElem?_map,Option.map_eq_some_iff] at hj
    obtain ⟨i,h1',h2'⟩:=hj
    obtain ⟨h3,rfl⟩:=List.getElem?_eq_some_iff.1 h1'
    simp at h3 h2'
    subst h2'
    exact hcc j h3
end
end Go.Proofs.YtfbgaddecbiimaaGreatDoor.E
end
section
namespace Go.Proofs.YtfbgaddecbiimaaGreatDoor.E
open Go.RowKit Go.Proofs.YtfbgaddecbiimaaGreatDoorW.PrintWords Go.Proofs.YtfbgaddecbiimaaGreatDoorW.PrintMore Go.Proofs.YtfbgaddecbiimaaGreatDoor.V
set_option linter.unusedVariables false
section
variable {T:Tab} {X:Ctx} {S:ES} {W W':St} {o:Oper} {ops:List Oper} {lim:Option (List Meta)} {i:Nat} {l:List Oper} {q:St→Prop} {F:Nat}
def mw (ops:List Oper) (ctx:Option (Nat×Bool)) (prot:List Nat) (W:St):Prop:=match ctx with
 | none=>True
 | some (j,w)=>∃ oj t,ops[j]?=some oj∧oj.dst=some t∧t∈prot∧W.env t=some (.bool w)
def Frame (l:List Oper) (W W':St):Prop:=W'.rows=W.rows∧∀ t,(∀ o∈l,o.dst≠some t)→W'.env t=W.env t
theorem qt (l:List Oper) (W:St):Frame l W W:=⟨rfl,fun _ _=>rfl⟩
theorem nK {W:St} {d:Option Nat} {v:Val} {t:Nat} (h:d≠some t):(jg W d v).env t=W.env t:=by
 cases d with
 | none=>rfl
 | some d =>
  have h':t≠d:=fun e=>h (by rw [e])
  cases hv:v.pv<;>simp only [jg,hv,V.put,V.drop]<;>rw [if_neg h']
theorem zY {W:St} {d:Option Nat} {v:Val}:(jg W d v).rows=W.rows:=by
 cases d with
 | none=>rfl
 | some d=>cases hv:v.pv<;>simp only [jg,hv]<;>rfl
theorem oY {l:List Oper} {o:Oper} {v:Val} (h:Frame l (jg W o.dst v) W'):Frame (o :: l) W W' :=
 ⟨by rw [h.1,zY],fun t ht=>by rw [h.2 t (fun o' ho'=>ht o' (List.mem_cons_of_mem _ ho')),nK (ht o List.mem_cons_self)]⟩
theorem rG {ctx:Option (Nat×Bool)} {prot:List Nat} {d:Option Nat} {v:Val} (h:mw ops ctx prot W) (hn:jx prot d=true):mw ops ctx prot (jg W d v):=by
 cases ctx with
 | none=>trivial
 | some x =>
  obtain ⟨oj,t,h1,h2,h3,h4⟩:=h
  refine ⟨oj,t,h1,h2,h3,?_⟩
  rw [nK (fun e=>?_)]
  ·exact h4
  ·subst e
   simp only [jx,Bool.not_eq_true'] at hn
   rw [mem_iff.2 h3] at hn
   cases hn
theorem Be {ctx:Option (Nat×Bool)} {prot:List Nat} (h:mw ops ctx prot W) (hf:Frame l W W') (hn:∀ o∈l,jx prot o.dst=true):mw ops ctx prot W':=by
 cases ctx with
 | none=>trivial
 | some x =>
  obtain ⟨oj,t,h1,h2,h3,h4⟩:=h
  refine ⟨oj,t,h1,h2,h3,?_⟩
  rw [hf.2 t (fun o ho e=>?_)]
  ·exact h4
  ·have:=hn o ho
   rw [e] at this
   simp only [jx,Bool.not_eq_true'] at this
   rw [mem_iff.2 h3] at this
   cases this
theorem tL:∀ {a b:Option (Nat×Bool)},gEq a b=true→a=b
 | none,none,_=>rfl
 | some x,some y,h=>by
  simp only [gEq,Bool.and_eq_true,beq_iff_eq] at h
  obtain ⟨a,b⟩:=x
  obtain ⟨c,d⟩:=y
  have h1:a=c:=beq_true h.1
  have h2:b=d:=h.2
  rw [h1,h2]
 | none,some _,h=>by cases h
 | some _,none,h=>by cases h
theorem AO {ctx:Option (Nat×Bool)} {prot:List Nat} (h:mw ops ctx prot W) (hg:gEq o.guard ctx=true):GT ops o W:=by
 have e:=tL hg
 cases ctx with
 | none=>exact .inl e
 | some x =>
  obtain ⟨oj,t,h1,h2,h3,h4⟩:=h
  exact .inr ⟨x.1,x.2,oj,t,e,h1,h2,h4⟩
theorem Bd {t:Nat}:∀ (l G:List Oper) (pk:Oper) (rest:List Oper),cutP t l=some (G,pk,rest)→l=G++pk :: rest∧∃ x y,pk.op = .pick (.tmp t) x y
 | [],G,pk,rest,h=>by cases h
 | o :: l,G,pk,rest,h=>by
  simp only [cutP] at h
  split at h
  ·rename_i hb
   cases h
   refine ⟨rfl,?_⟩
   split at hb
   ·rename_i c x y ho
    have:=beq_true hb
    subst this
    exact ⟨x,y,ho⟩
   ·cases hb
  ·split at h
   ·rename_i x hx
    obtain ⟨G',pk',rest'⟩:=x
    cases h
    obtain ⟨h1,h2⟩:=Bd l G' pk' rest' hx
    exact ⟨by rw [h1];rfl,h2⟩
   ·cases h
theorem wJ {j:Nat} {w:Bool} {prot:List Nat}:∀ (G:List Oper) (n:Nat),inner ops j w prot i G n=true→∀ (m:Nat) (o:Oper),G[m]?=some o→jx prot o.dst=true∧∃ g,o.guard=some g∧(∃ og tg,ops[g.1]?=some og∧og.dst=some tg)∧((g.1=j∧g.2=w)∨(i≤g.1∧g.1<n+m))
 | [],n,h,m,o',hm=>by simp at hm
 | o :: G,n,h,m,o',hm=>by
  simp only [inner,Bool.and_eq_true] at h
  obtain ⟨⟨h1,h2⟩,h3⟩:=h
  cases m with
  | zero =>
   cases hm
   refine ⟨?_,?_⟩
   ·cases hd:o.dst with
    | none=>rfl
    | some d=>simp only [hd] at h2;exact h2
   ·cases hg:o.guard with
    | none=>simp only [hg] at h1;cases h1
    | some g =>
     simp only [hg,Bool.and_eq_true,Bool.or_eq_true] at h1
     obtain ⟨h4,h5⟩:=h1
     refine ⟨g,rfl,?_,?_⟩
     ·cases hb:(ops[g.1]?).bind (·.dst) with
      | none=>simp only [hb] at h5;cases h5
      | some tg =>
       obtain ⟨og,k1,k2⟩:=Option.bind_eq_some_iff.1 hb
       exact ⟨og,tg,k1,k2⟩
     ·rcases h4 with h4 | h4
      ·exact .inl ⟨beq_true h4.1,by simpa using h4.2⟩
      ·have e1:=Nat.le_of_ble_eq_true h4.1
       have e2:g.1<n:=Nat.le_of_ble_eq_true h4.2
       exact .inr ⟨e1,by omega⟩
  | succ m =>
   obtain ⟨k1,g,k2,k3,k4⟩:=wJ G (n+1) h3 m o' (by simpa using hm)
   exact ⟨k1,g,k2,k3,k4.imp id (fun h=>⟨h.1,by omega⟩)⟩
theorem vX {P:Program} {j t:Nat} {oj:Oper} {w:Bool} {prot:List Nat} (hdst:∀ (n:Nat) (o:Oper),ops[n]?=some o→dq X o) (hmeta:∀ (n:Nat) (o:Oper),ops[n]?=some o→im T ops lim n o) (hj:ops[j]?=some oj) (hjd:oj.dst=some t) (ht:t∈prot) :
 ∀ (G:List Oper) (n:Nat) (W:St),(∀ (m:Nat) (o:Oper),G[m]?=some o→ops[n+m]?=some o)→i≤n→(∀ (m:Nat) (o:Oper),G[m]?=some o→jx prot o.dst=true∧∃ g,o.guard=some g∧(∃ og tg,ops[g.1]?=some og∧og.dst=some tg)∧((g.1=j∧g.2=w)∨(i≤g.1∧g.1<n+m))) →
  W.env t=some (.bool (!w))→(∀ m,i≤m→m<n→∀ om,ops[m]?=some om→∀ d,om.dst=some d→W.env d=some (.cv (.lit undef)))→(∀ W',Frame G W W'→W'.env t=some (.bool (!w))→q W')→Wk P X ops lim n G W q
 | [],n,W,hG,hi,hin,ht',hun,hq=>wk_nil (hq W (qt _ _) ht')
 | o :: G,n,W,hG,hi,hin,ht',hun,hq=>by
  have ho:=hG 0 o rfl
  rw [Nat.add_zero] at ho
  obtain ⟨h1,g,h2,⟨og,tg,h3,h4⟩,h5⟩:=hin 0 o rfl
  have hgf:GF ops o W:=by
   refine ⟨g.1,g.2,og,tg,h2,h3,h4,?_⟩
   rcases h5 with ⟨e1,e2⟩ | ⟨e1,e2⟩
   ·rw [e1,hj] at h3
    cases h3
    rw [hjd] at h4
    cases h4
    left;rw [e2];exact ht'
   ·exact .inr (hun g.1 e1 (by omega) og h3 tg h4)
  have hne:o.dst≠some t:=by
   intro e
   rw [e] at h1
   simp only [jx,Bool.not_eq_true'] at h1
   rw [mem_iff.2 ht] at h1
   cases h1
  refine wk_skip ho (hmeta n o ho) hgf (hdst n o ho).inb ?_
  have eP:put W o.dst (.cv (.lit undef))=jg W o.dst .undef:=by cases hd:o.dst<;>rfl
  rw [eP]
  refine vX hdst hmeta hj hjd ht G (n+1) _ (fun m o' hm=>by have:=hG (m+1) o' (by simpa using hm);rw [show n+1+m=n+(m+1) by omega];exact this) (by omega) (fun m o' hm=>?_) (by rw [nK hne];exact ht') (fun m hm1 hm2 om hom d hd=>?_) (fun W' hf ht2=>hq W' (oY hf) ht2)
  ·obtain ⟨k1,g',k2,k3,k4⟩:=hin (m+1) o' (by simpa using hm)
   exact ⟨k1,g',k2,k3,k4.imp id (fun h=>⟨h.1,by omega⟩)⟩
  ·by_cases c:o.dst=some d
   ·rw [c]
    simp [jg,Val.pv,V.put]
   ·rw [nK c]
    by_cases c2:m=n
    ·subst c2
     rw [ho] at hom
     cases hom
     exact absurd hd c
    ·exact hun m hm1 (by omega) om hom d hd
theorem kB:∀ (G:List Oper) (S:ES) (t:Nat) (v:Val) (p:PV),find (S.forget G).env t=some v→v.pv=some p→(∀ o∈G,o.dst≠some t)∧find S.env t=some v
 | [],S,t,v,p,h,hp=>⟨fun o ho=>by simp at ho,h⟩
 | o :: G,S,t,v,p,h,hp=>by
  simp only [ES.forget] at h
  cases hd:o.dst with
  | none =>
   simp only [hd] at h
   obtain ⟨h1,h2⟩:=kB G S t v p h hp
   exact ⟨fun o' ho'=>by
    rcases List.mem_cons.1 ho' with rfl | ho';· rw [hd];simp
    ·exact h1 o' ho',h2⟩
  | some d =>
   simp only [hd] at h
   obtain ⟨h1,h2⟩:=kB G (S.put d .any) t v p h hp
   simp only [ES.put,find] at h2
   split at h2
   ·cases h2;cases hp
   ·rename_i hb
    exact ⟨fun o' ho'=>by
     rcases List.mem_cons.1 ho' with rfl | ho';· rw [hd];intro e;exact beq_false hb (Option.some.inj e).symm
     ·exact h1 o' ho',h2⟩
theorem oZ:∀ (G:List Oper) (S:ES),(S.forget G).rows=S.rows
 | [],S=>rfl
 | o :: G,S=>by
  simp only [ES.forget]
  cases o.dst<;>simp only [oZ G]<;>rfl
theorem gX:∀ (G:List Oper) (S:ES) (t:Nat),(∀ o∈G,o.dst≠some t)→find (S.forget G).env t=find S.env t
 | [],S,t,h=>rfl
 | o :: G,S,t,h=>by
  simp only [ES.forget]
  cases hd:o.dst with
  | none=>exact gX G S t (fun o' ho'=>h o' (List.mem_cons_of_mem _ ho'))
  | some d =>
   simp only
   rw [gX G _ t (fun o' ho'=>h o' (List.mem_cons_of_mem _ ho'))]
   have:o.dst≠some t:=h o List.mem_cons_self
   rw [hd] at this
   simp only [ES.put,find]
   split
   ·rename_i hb;exact absurd (by rw [beq_true hb]) this
   ·rfl
theorem pV {G:List Oper} (hs:Sub S W) (hf:Frame G W W'):Sub (S.forget G) W':=by
 refine ⟨fun t v p h1 h2=>?_,fun k=>?_⟩
 ·obtain ⟨h3,h4⟩:=kB G S t v p h1 h2
  rw [hf.2 t h3]
  exact hs.env t v p h4 h2
 ·rw [hf.1,oZ]
  exact hs.rows k
theorem xk {rd:Nat→Option Val} {rr:Nat→Option (Option cQ)} (hA:cM W rd rr) {x:Operand} {b:Bool} (h:pg rd x=some b):ev W x=some (.bool b):=by
 unfold pg at h
 split at h
 ·rename_i b' hb
  cases h
  exact hA.evT hb
 ·cases h
theorem z8 {P:Program} {x y:Operand} {t:Nat} {b u:Bool} {pk:Oper} {d:Nat} (hd:dq X pk) (hpd:pk.dst=some d) (ho:pk.op = .pick (.tmp t) x y) (hc:ev W (.tmp t)=some (.bool b)) (hx:b=true→ev W x=some (.bool u)) (hy:b=false→ev W y=some (.bool u)):dY P X pk W (jg (se W none) pk.dst (.v .bool u)) :=
 qP (k6 ho hc hx hy) rfl hd.inb
end
end Go.Proofs.YtfbgaddecbiimaaGreatDoor.E
end
section
namespace Go.Proofs.YtfbgaddecbiimaaGreatDoor.E
open Go.RowKit Go.Proofs.YtfbgaddecbiimaaGreatDoorW.PrintWords Go.Proofs.YtfbgaddecbiimaaGreatDoorW.PrintMore Go.Proofs.YtfbgaddecbiimaaGreatDoor.V
set_option linter.unusedVariables false
section
variable {T:Tab} {X:Ctx} {S:ES} {W W':St} {o:Oper} {ops:List Oper} {lim:Option (List Meta)} {ctx:Option (Nat×Bool)} {prot:List Nat} {i:Nat} {l:List Oper} {q:St→Prop} {F:Nat} {call:(g:Nat)→List Val→Option (T.out g).den} {β:Type}
theorem gR {c:Option Cond} {x:Option β} {r:β} (h:iteO c x=some r):(∀ c',c=some c'→c'.p)∧x=some r:=by
 cases c with
 | none=>exact ⟨fun c' h=>(by cases h),h⟩
 | some c =>
  simp only [iteO] at h
  by_cases hp:c.p
  ·rw [if_pos hp] at h
   exact ⟨fun c' hc=>by cases hc;exact hp,h⟩
  ·rw [if_neg hp] at h;cases h
theorem kL {A:ES} (hA:∀ a w,Rel X S.st a w→Rel X A.st a w) (hs:Sub S W) (hc:mw ops ctx prot W):∃ W1,Sub (kM ctx lim A S) W1∧mw ops ctx prot W1∧(ctx.isSome=true→W1=W)∧∀ l q,Wk T.P X ops lim i l W1 q→Wk T.P X ops lim i l W q:=by
 cases ctx with
 | some x=>exact ⟨W,hs,hc,fun _=>rfl,fun _ _ h=>h⟩
 | none =>
  cases lim with
  | some ms=>exact ⟨W,hs,hc,fun _=>rfl,fun _ _ h=>h⟩
  | none=>exact ⟨A.st,mC A,trivial,fun h=>(by cases h),fun l q h=>.uf (fun a w hr=>hA a w (iH hs a w hr)) h⟩
def Goes (T:Tab) (X:Ctx) (ops:List Oper) (lim:Option (List Meta)) (ctx:Option (Nat×Bool)) (prot:List Nat) (i:Nat) (o:Oper) (l:List Oper) (W:St) (q:St→Prop) (k:ES→Option β) (r:β):Prop :=
 ∀ S' W',Sub S' W'→mw ops ctx prot W'→k S'=some r→(ctx.isSome=true→∃ v,W'=jg W o.dst v)→Wk T.P X ops lim (i+1) l W' q
theorem uL (hT:cN T=true) {k:ES→Option β} {r:β} (ho:ops[i]?=some o) (hm:im T ops lim i o) (hd:dq X o) (hg:gEq o.guard ctx=true) (hn:jx prot o.dst=true) (hs:Sub S W) (hc:mw ops ctx prot W) (h:k9 T F lim ctx i o S k=some r) (hk:Goes T X ops lim ctx prot i o l W q k r):Wk T.P X ops lim i (o :: l) W q:=by
 unfold k9 at h
 split at h
 ·rename_i R hR
  split at h
  ·rename_i hrv
   rw [Bool.and_eq_true] at hrv
   obtain ⟨hrow,hval⟩:=hrv
   obtain ⟨hcond,h2⟩:=gR h
   have hrow2:xV lim none i R.r=true∧(ctx.isSome=true→R.r=none):=by
    cases hr:R.r with
    | none=>exact ⟨rfl,fun _=>rfl⟩
    | some x =>
     cases ctx with
     | none=>rw [hr] at hrow;exact ⟨hrow,fun h=>by cases h⟩
     | some c=>rw [hr] at hrow;cases hrow
   refine lQ (v:=R.v) (r:=R.r) ho hm hs (AO hc hg) hd.inb hrow2.1 hval (fun W0 hA=>uy hT hA hd hR hcond) (hk _ _ hs.res ?_ h2 (fun hx=>⟨R.v,by rw [hrow2.2 hx];rfl⟩))
   cases ctx with
   | none=>trivial
   | some c =>
    rw [hrow2.2 rfl]
    exact rG hc hn
  ·cases h
 ·cases h
theorem yi {k:ES→Option β} {r:β} {c x y:Operand} (hop:o.op = .pick c x y) (ho:ops[i]?=some o) (hm:im T ops lim i o) (hd:dq X o) (hg:gEq o.guard ctx=true) (hn:jx prot o.dst=true) (hs:Sub S W) (hc:mw ops ctx prot W) (h:yj lim i o c x y S k=some r) (hk:Goes T X ops lim ctx prot i o l W q k r):Wk T.P X ops lim i (o :: l) W q:=by
 unfold yj at h
 split at h
 ·rename_i b u v d hcv hx hy hdd
  split at h
  case h_2=>cases h
  rename_i hval0
  have hval:∀ z:Bool,lR lim i (.v .bool z)=true:=by
   intro z
   cases lim with
   | none=>rfl
   | some ms =>
    cases hm':ms[i]? with
    | none=>simp only [lR,hm'] at hval0;cases hval0
    | some m =>
     cases hk':m.kl with
     | some j=>simp only [lR,hm',hk'] at hval0;cases hval0
     | none =>
      simp only [lR,hm',hk']
      cases m.rf<;>rfl
  have key:∀ z:Bool,(b=true→u=z)→(b=false→v=z)→∀ W0,cM W0 (rdL lim i S) (rrL lim i S)→dY T.P X o W0 (jg (se W0 none) o.dst (.v .bool z)):=by
   intro z h1 h2 W0 hA
   exact qP (k6 hop (hA.evT hcv) (fun e=>by rw [← h1 e];exact hA.evT hx) (fun e=>by rw [← h2 e];exact hA.evT hy)) rfl hd.inb
  have fin:∀ z:Bool,(b=true→u=z)→(b=false→v=z)→k (S.put d (.v .bool z))=some r→Wk T.P X ops lim i (o :: l) W q:=by
   intro z h1 h2 h3
   refine lQ (v:=.v .bool z) (r:=none) ho hm hs (AO hc hg) hd.inb rfl (hval z) (key z h1 h2) (hk (S.put d (.v .bool z)) _ ?_ (rG hc hn) h3 (fun _=>⟨_,rfl⟩))
   rw [hdd]
   exact hs.put
  split at h
  ·simp only [evo,cval,Option.some.injEq] at hx
   cases hx
   exact fin _ (fun e=>by rw [e];rfl) (fun e=>by rw [e];rfl) h
  ·simp only [evo,cval,Option.some.injEq] at hy
   cases hy
   exact fin _ (fun e=>by rw [e];rfl) (fun e=>by rw [e];rfl) h
  ·exact fin _ (fun e=>by rw [e];rfl) (fun e=>by rw [e];rfl) h
 ·cases h
theorem zL (b:Bool) (t:Ty) (r:t.den):∃ p,(tZ b t r).pv=some p:=by cases b<;>exact ⟨_,rfl⟩
theorem kU {g:Nat} (h:Nat.ble 1000000 g=false):real g=g:=by unfold real realM;rw [h]
theorem Bt (m f:Nat):Nat.ble m (f+m)=true:=Nat.ble_eq_true_of_le (Nat.le_add_left m f)
theorem zT (m f:Nat):realM m (f+m)=f:=by
 unfold realM
 rw [Bt]
 exact Nat.add_sub_cancel f m
theorem zS (f:Nat):real (f+1000000)=f:=zT 1000000 f
theorem vT (own:List Nat) (f:Nat):uj own (.func f) = .const (.bool false)∨(Nat.ble 1000000 f=false∧uj own (.func f) = .func f)∨uj own (.func f) = .func (f+1000000):=by
 simp only [uj]
 cases h:Nat.ble 1000000 f with
 | true=>exact .inl rfl
 | false=>cases mem own (f+1000000000) with
  | true=>exact .inr (.inr rfl)
  | false=>exact .inr (.inl ⟨rfl,rfl⟩)
theorem sub_fn {own:List Nat} {x:Operand} {rd:Nat→Option Val} {g:Nat} (h:evo rd (uj own x)=some (.v .fn g)) (hg:Nat.ble 1000000 g=false):evo rd x=some (.v .fn g):=by
 cases x with
 | func f =>
  rcases vT own f with e | ⟨_,e⟩ | e
  ·rw [e] at h;simp [evo,cval] at h
  ·rw [e] at h;exact h
  ·rw [e] at h
   simp only [evo,Option.some.injEq,Val.v.injEq,heq_eq_eq,true_and] at h
   rw [← h,Bt] at hg;cases hg
 | _=>exact h
theorem vR {own:List Nat} {x:Operand} {g:Nat} (h:uj own x = .func g):x = .func (real g):=by
 cases x with
 | func f =>
  rcases vT own f with e | ⟨hf,e⟩ | e
  ·rw [e] at h;cases h
  ·rw [e] at h
   rw [← Operand.func.inj h,kU hf]
  ·rw [e] at h
   rw [← Operand.func.inj h,zS]
 | _=>cases h
def rL (T:Tab) (F:Nat) (X:Ctx):Prop:=oV T F=true→∀ v,X.pin v
theorem pin_of {j:Nat} {b:Bool} (hP:rL T F X) (h:(Nat.beq j cS&&!(oV T F&&b))=false):j=cS→∀ v,X.pin v:=by
 intro hj
 subst hj
 rw [Nat.beq_refl,Bool.true_and,Bool.not_eq_false',Bool.and_eq_true] at h
 exact hP h.1
theorem nil_at:∀ (j:Nat) (xs:List Operand),Ao j xs=true→xs[j]?=some (.const (.slice none 0 0))
 | _,[],h=>by simp [Ao] at h
 | 0,x :: l,h=>by
  simp only [Ao] at h
  split at h
  ·rfl
  ·cases h
 | n+1,x :: l,h=>by
  have:=nil_at n l h
  simpa using this
theorem args_at {rd:Nat→Option Val} {rr:Nat→Option (Option cQ)}:∀ (xs:List Operand) (ts:List Ty) (i:Nat) (vs:List Val) (j:Nat),jj rd rr none i xs ts=some vs→xs[j]?=some (.const (.slice none 0 0))→∀ c,ts[j]?=some (.list c)→vs[j]?=some (.v (.list c) [])
 | [],[],i,vs,j,h,hj,c,hc=>by simp at hj
 | x :: xs,t :: ts,i,vs,j,h,hj,c,hc=>by
  simp only [jj,tC] at h
  split at h
  ·rename_i v hv
   split at h
   ·rename_i y hy
    split at h
    ·rename_i l hl
     cases h
     cases j with
     | zero =>
      simp only [List.getElem?_cons_zero,Option.some.injEq] at hj hc ⊢
      subst hj hc
      simp only [evo,cval,Option.some.injEq] at hv
      subst hv
      simp only [coe,Option.some.injEq] at hy
      rw [← hy]
     | succ j =>
      simp only [List.getElem?_cons_succ] at hj hc ⊢
      exact args_at xs ts (i+1) l j hl hj c hc
    ·cases h
   ·cases h
  ·cases h
 | [],_ :: _,_,_,_,h,_,_,_=>by cases h
 | _ :: _,[],_,_,_,h,_,_,_=>by cases h
theorem vZ {t t':Ty} {r:t.den} {y2 r2:t'.den} (h:(⟨t,r⟩:Σ t:Ty,t.den)=⟨t',y2⟩) (hc:eF t' r=some r2):r2=y2:=by
 cases h
 obtain ⟨_,e⟩:=cA hc
 exact e
theorem vg (hC:ie T call) (hP:rL T F X) {k:ES→Option β} {r:β} {c:Call} {g d j:Nat} {e:TypeId} {ts:List Ty} (hop:o.op = .call c) (hcl:c.callee = .value (.func g)) (hl:yE T g = .given j e) (hlow:Nat.ble 1000000 g=false) (hdd:o.dst=some d) (ho:ops[i]?=some o) (hm:im T ops lim i o) (hd:dq X o) (hg:o.guard=none) (hs:Sub S W) (h:qn T F call lim i o c g d ts j e S k=some r)
 (hk:∀ S' W',Sub S' W'→k S'=some r→Wk T.P X ops lim (i+1) l W' q):Wk T.P X ops lim i (o :: l) W q:=by
 unfold qn at h
 split at h
 ·rename_i hnil
  have hj:=nil_at _ _ hnil
  split at h
  ·rename_i vs q' hrow hts hod hvs
   obtain ⟨rr,h1,h2⟩:=Option.bind_eq_some_iff.1 h
   split at h2
   ·rename_i r2 hr2 hsev
    obtain ⟨⟨fn,f1,f2,f3⟩,_,c0,y,y2,hv,heq,hF⟩:=hC.given g j e vs rr hl h1
    rw [kU hlow] at f1 hF
    have hv2:=args_at _ _ _ _ _ hvs hj _ hts
    rw [hv2] at hv
    cases hv
    have hr3:=vZ heq hr2
    subst hr3
    refine PlS.step (W':=put (setRow (kill W d) d (cQ.arr e q' r2).row) o.dst (.own d)) (.inl hg) ?_ hd.inb (hk _ _ ?_ h2)
    ·obtain ⟨a1,a2⟩:=j5 hs.agree (ln:=none) _ _ _ _ (fun j hj=>by cases hj) hvs
     have hrw:W.rows d=none:=by rw [hs.rows,hrow];rfl
     refine zl (X:=X) (S:=W) (R:=(cQ.arr e q' []).row) (j:=j) hop hcl f1 f2 f3 hF hrw (hd d hdd).2 rfl a1 hj ?_ (uB a2 0).2.2 hd.inb hod
     simp only [cJ,hv2]
     rfl
    ·rw [hdd]
     exact ((kK (k:=d) (E:=S.env) (R:=S.rows) (W:=W) hs).set (k:=d) (r:=.arr e q' r2)).put (d:=d) (v:=.own d)
   ·cases h2
  ·cases h
 ·split at h
  ·rename_i qq vs hlent hvs
   split at h
   ·rename_i e0 c0 l0 cj hrow htj hfl
    rw [Bool.or_eq_false_iff] at hfl
    split at h
    ·rename_i qe hee hqe hao
     obtain ⟨rr,h1,h2⟩:=Option.bind_eq_some_iff.1 h
     split at h2
     ·rename_i r2 hr2 hsev
      have he:=beq_true hee
      subst he
      have hcc:=qe.down
      subst hcc
      obtain ⟨⟨fn,f1,f2,f3⟩,_,c1,y,y2,hv,heq,hF⟩:=hC.given g j e0 vs rr hl h1
      rw [kU hlow] at f1 hF
      have key:∀ {W0:St},cM W0 (rdL lim i S) (rrL lim i S)→evs W0 c.args.toList=some ((cJ j vs).map (ren qq))∧(cJ j vs).all dz=true∧c1=c0∧HEq y l0:=by
       intro W0 hA
       obtain ⟨a1,a2,e3,t3,y5,hr3,hvs3⟩:=pn hA (j:=j) (k:=qq) (rd':=rdL lim i S) (fun t v h=>h) _ _ 0 vs (Nat.zero_le _) hvs hlent
       rw [Nat.sub_zero] at a1 a2 hvs3
       refine ⟨a1,a2,?_⟩
       rw [hrow] at hr3
       rw [hvs3] at hv
       cases hv
       have hr4:cQ.arr e0 c0 l0=pz e3 (.list c1) y:=by simpa using hr3
       simp only [pz,cQ.arr.injEq] at hr4
       exact ⟨hr4.2.1.symm,hr4.2.2.symm⟩
      obtain ⟨_,_,ec,ey⟩:=key hs.agree
      subst ec
      cases eq_of_heq ey
      have hr3:=vZ heq hr2
      subst hr3
      refine zd (j:=qq) (d:=d) (R:=(cQ.arr e0 c1 r2).row) ho hm hs hg hd.inb hdd hao hfl.2 (fun W0 hA=>?_) (hk _ _ ?_ h2)
      ·obtain ⟨a1,a2,_⟩:=key hA
       have hk0:W0.rows qq=some (cQ.arr e0 c1 y).row:=hA.rows qq _ hrow
       exact to_callG (X:=X) (S:=W0) hop hcl f1 f2 f3 hF hk0 rfl a1 rfl a2 (fun hq v=>by
        have h3:=hfl.1
        rw [hq,Nat.beq_refl,Bool.true_and,Bool.not_eq_false'] at h3
        exact hP h3 v) hd.inb hfl.2
      ·rw [hdd]
       exact ((kK (k:=qq) (E:=S.env) (R:=S.rows) (W:=W) hs).set (k:=qq) (r:=.arr e0 c1 r2)).put (d:=d) (v:=.own qq)
     ·cases h2
    ·cases h
   ·cases h
  ·cases h
theorem qM (hT:cN T=true) (hP:rL T F X) {k:ES→Option β} {r:β} {t:TypeId} {x hi:Operand} (hop:o.op = .slice t x none (some hi) none) (ho:ops[i]?=some o) (hd:dq X o) (hg:o.guard=none) (hs:Sub S W) (h:jP T F lim o t x hi S k=some r)
 (hk:∀ S' W',Sub S' W'→k S'=some r→Wk T.P X ops lim (i+1) l W' q):Wk T.P X ops lim i (o :: l) W q:=by
 unfold jP at h
 split at h
 ·rename_i d e q' j hh hdd he hx hy
  split at h
  ·rename_i e' q2 l0 hrow
   split at h
   ·rename_i l2 hl2 hee hkl
    rw [Bool.or_eq_false_iff] at hkl
    rw [Bool.and_eq_true] at hee
    obtain ⟨hcond,h2⟩:=gR h
    have hcond:=hcond _ rfl
    obtain ⟨eq2,hl3⟩:=cA hl2
    cases eq2
    have hl4:l2=l0:=hl3
    subst hl4
    have e1:=beq_true hee.1
    subst e1
    obtain ⟨hu,hM,_⟩:=mh hT he
    obtain ⟨inf,g1,g2,_⟩:=hM.info
    have hA:cM W (find S.env) (fun k=>some (find S.rows k)):=hs.agree (i:=0) (lim:=none)
    have hrw:W.rows j=some ⟨e,q'.sz,l2.length,l2.flatMap q'.enc⟩:=by rw [hs.rows,hrow];rfl
    refine PlS.step (W':=put (setRow (kill W j) j (cQ.arr e q' (l2.take hh.toNat)).row) o.dst (.own j)) (.inl hg) ?_ hd.inb (hk _ _ ?_ h2)
    ·have:=xA (X:=X) (S:=W) hop hu g1 (hA.ev hx rfl) hrw hcond.1 (fR hA hy) hcond.2.1 hcond.2.2 (fun hq v=>by
      have h3:=hkl.1
      rw [hq,Nat.beq_refl,Bool.true_and,Bool.not_eq_false'] at h3
      exact hP h3 v) hkl.2 hd.inb
     have e2:(cQ.arr e q' (l2.take hh.toNat)).row=⟨e,q'.sz,hh.toNat,(l2.flatMap q'.enc).take (hh.toNat*q'.sz)⟩:=by
      simp only [cQ.row,jD]
      rw [List.length_take,Nat.min_eq_left (by omega)]
     rw [e2]
     exact this
    ·rw [hdd]
     exact ((kK (k:=j) (E:=S.env) (R:=S.rows) (W:=W) hs).set (k:=j) (r:=.arr e q' (l2.take hh.toNat))).put (d:=d) (v:=.own j)
   ·cases h
  ·cases h
 ·cases h
theorem wx (v:Val) (p:PV) (h:(noMap v).pv=some p):v.pv=some p∧tB p=false:=by
 cases v with
 | v c x =>
  cases h
  refine ⟨rfl,?_⟩
  cases c<;>rfl
 | tup c x=>cases h
 | mp l=>cases h
 | any=>cases h
 | _=>cases h;exact ⟨rfl,rfl⟩
theorem As (hT:cN T=true) {k:ES→Option β} {r:β} {t:TypeId} {x y z:Operand} (hop:o.op = .mapUpdate t x y z) (hdst:o.dst=none) (ho:ops[i]?=some o) (hd:dq X o) (hg:o.guard=none) (hs:Sub S W) (h:yt T lim t x y z S k=some r)
 (hk:∀ S' W',Sub S' W'→k S'=some r→Wk T.P X ops lim (i+1) l W' q):Wk T.P X ops lim i (o :: l) W q:=by
 unfold yt at h
 split at h
 ·rename_i tm ll s n hmp hy hz hx
  obtain ⟨kt,et,inf,q1,q2,q3,q4⟩:=mp_m hT hmp
  have hA:cM W (find S.env) (fun k=>some (find S.rows k)):=hs.agree (i:=0) (lim:=none)
  refine PlS.step (.inl hg) (zj (P:=T.P) (X:=X) (S:=W) hop hdst q1 q2 (hA.ev hx rfl) (hA.evT hy) (hA.evT hz)) hd.inb (hk _ _ ?_ h)
  refine ⟨fun u v p f1 f2=>?_,fun j=>hs.rows j⟩
  simp only [find] at f1
  simp only [V.put]
  split at f1
  ·rename_i hb
   cases f1
   cases f2
   rw [if_pos (beq_true hb)]
  ·rename_i hb
   rw [if_neg (beq_false hb)]
   rw [jE] at f1
   obtain ⟨v0,f3,rfl⟩:=Option.map_eq_some_iff.1 f1
   obtain ⟨f4,f5⟩:=wx v0 p f2
   have:=hs.env u v0 p f3 f4
   simp only [mU,this,Option.bind_some,f5,cond_false]
 ·cases h
theorem yQ {own:List Nat} (hP:rL T F X) (hC:ie T call) {k:ES→Option β} {r:β} {c:Call} {x:Operand} (hop:o.op = .call c) (hcl:c.callee = .value x) (ho:ops[i]?=some o) (hm:im T ops lim i o) (hd:dq X o) (hg:gEq o.guard ctx=true) (hn:jx prot o.dst=true) (hs:Sub S W) (hc:mw ops ctx prot W) (h:yR T F call lim ctx i o c (uj own x) S k=some r) (hk:Goes T X ops lim ctx prot i o l W q k r):Wk T.P X ops lim i (o :: l) W q:=by
 unfold yR at h
 split at h
 ·rename_i g d hx hdd
  split at h
  ·rename_i ts hts hl
   split at h
   ·rename_i vs hlow hvs
    obtain ⟨rr,h1,h2⟩:=Option.bind_eq_some_iff.1 h
    split at h2
    case h_2=>cases h2
    rename_i hval
    have hx:=sub_fn hx hlow
    obtain ⟨⟨fn,f1,f2,f3⟩,p,hp,hF⟩:=hC.fn g vs rr hl h1
    rw [kU hlow] at f1 hF
    refine lQ (v:=tZ (T.cC g) (T.out g) rr) (r:=none) ho hm hs (AO hc hg) hd.inb rfl hval (fun W0 hA=>?_) (hk _ _ ?_ (rG hc hn) h2 (fun _=>⟨_,rfl⟩))
    ·obtain ⟨a1,a2⟩:=j5 hA _ _ _ _ (fun j hj=>by cases hj) hvs
     have:=zm (X:=X) (S:=W0) hop hcl (.inr (hA.evT hx)) f1 f2 f3 a1 (uB a2 0).2.2 hF hd.inb
     show dY T.P X o W0 (jg W0 o.dst _)
     rw [hdd] at this ⊢
     simp only [jg,hp]
     exact this
    ·rw [hdd]
     exact hs.put
   ·cases h
  ·rename_i ts j e hts hl
   split at h
   ·rename_i hfun hlow
    have hx':=sub_fn hx hlow
    have hfn:x = .func g:=by
     have h3:x = .func (real g):=by
      refine vR (own:=own) ?_
      generalize uj own x=x' at hx hfun
      cases x' with
      | func f =>
       simp only [evo,Option.some.injEq] at hx
       cases hx
       rfl
      | _=>simp at hfun
     rw [kU hlow] at h3
     exact h3
    exact vg hC hP hop (by rw [hcl,hfn]) hl hlow hdd ho hm hd (tL hg) hs h (fun S' W' g1 g2=>hk S' W' g1 trivial g2 (fun hx=>by cases hx))
   ·cases h
  ·rename_i ts j e hts hl
   split at h
   ·rename_i kk hlent hfun
    split at h
    ·rename_i r0 vs hko hrow hvs
     split at h
     ·rename_i tj htj
      split at h
      ·rename_i z0 hlc
       obtain ⟨rr,h1,h2⟩:=Option.bind_eq_some_iff.1 h
       split at h2
       ·rename_i v c2 y2 hout
        split at h2
        ·rename_i qe hqe hrv
         rw [Bool.and_eq_true] at hrv
         obtain ⟨⟨fn,f1,f2,f3⟩,p,hp,yy,hv,hF⟩:=hC.cS g j e vs rr v c2 y2 hl h1 hout
         have q2:=qe.down
         subst q2
         have hfn:x = .func (real g):=by
          refine vR (own:=own) ?_
          generalize uj own x=x' at hx hfun
          cases x' with
          | func f =>
           simp only [evo,Option.some.injEq] at hx
           cases hx
           rfl
          | _=>simp at hfun
         refine lQ (v:=v) (r:=some (kk,pz e tj y2)) ho hm hs (AO hc hg) hd.inb hrv.1 hrv.2 (fun W0 hA=>?_) (hk _ _ ?_ trivial h2 (fun hx=>by cases hx))
         ·obtain ⟨a1,a2,e3,t3,y5,hr3,hvs3⟩:=pn hA (j:=j) (k:=kk) (rd':=rdL lim i S) (fun t v h=>h) _ _ 0 vs (Nat.zero_le _) hvs hlent
          rw [Nat.sub_zero] at a1 a2 hvs3
          rw [hvs3] at hv
          cases hv
          rw [hrow] at hr3
          cases hr3
          have hlr:=tw hlc
          have he:e3=e:=by
           cases tj<;>(cases hlr;rfl)
          subst he
          have hk0:W0.rows kk=some (pz e3 tj yy).row:=by
           have:=hA.rows kk _ hrow
           cases tj<;>exact this
          have:=vP (X:=X) (S:=W0) (k:=kk) hop (by rw [hcl,hfn]) f1 f2 f3 hF hk0 rfl a1 rfl a2 hd.inb (by simpa using hko)
          rw [hdd] at this ⊢
          simp only [jg,hp,se]
          exact this
         ·rw [hdd]
          exact (hs.set (k:=kk) (r:=pz e tj y2)).put (d:=d) (v:=v)
        ·cases h2
       ·cases h2
      ·cases h
     ·cases h
    ·cases h
   ·cases h
  ·cases h
 ·cases h
theorem tW (hT:cN T=true) (hP:rL T F X) {k:ES→Option β} {r:β} {c:Call} (hop:o.op = .call c) (hcl:c.callee = .builtin .append) (ho:ops[i]?=some o) (hm:im T ops lim i o) (hd:dq X o) (hg:o.guard=none) (hs:Sub S W) (h:mu T F lim i o c S k=some r)
 (hk:∀ S' W',Sub S' W'→k S'=some r→Wk T.P X ops lim (i+1) l W' q):Wk T.P X ops lim i (o :: l) W q:=by
 unfold mu at h
 split at h
 ·rename_i x y t t' d ha ht hdd
  split at h
  ·rename_i e q' vx vy he hx hy
   split at h
   ·rename_i b mm hb hmm htt
    rw [Bool.and_eq_true] at htt
    have e0:=beq_true htt.1
    subst e0
    obtain ⟨hu,hM,_⟩:=mh hT he
    obtain ⟨⟨inf,g1,g2⟩,hb1⟩:=by_m hT hb
    obtain ⟨inf',z,k1,k2,k3,k4,k5⟩:=fN hM htt.2
    rw [g1] at k1
    cases k1
    have hsz:=(fb htt.2).2
    split at h
    ·rename_i t1 j
     split at h
     ·rename_i e' q2 l0 hrow hao
      split at h
      ·rename_i l2 hl2 hee hkl
       rw [Bool.or_eq_false_iff] at hkl
       have hcond:(l2.length+mm.length)*b≤140737488355328:=by
        split at h
        ·exact (gR h).1 _ rfl
        ·exact (gR h).1 _ rfl
       obtain ⟨eq2,hl3⟩:=cA hl2
       cases eq2
       have hl4:l2=l0:=hl3
       subst hl4
       have e1:=beq_true hee
       subst e1
       have hlen:(l2.length+mm.length)*1≤(l2.length+mm.length)*b:=Nat.mul_le_mul_left _ hb1
       have e4:(⟨e,inf.size,l2.length+mm.length,l2.flatMap q'.enc++mm.flatMap q'.enc⟩:Row)=(cQ.arr e q' (l2++mm)).row:=by
        simp only [cQ.row,List.length_append,List.flatMap_append,k3]
       split at h
       case h_2 =>
        rename_i hkp
        rw [hkp,Bool.and_false,Bool.not_false,Bool.and_true] at hkl
        obtain ⟨_,h2⟩:=gR h
        have e5:(Ty.pv (.list q') (l2++mm)) = .cv (.row (l2.length+mm.length) (l2.flatMap q'.enc++mm.flatMap q'.enc)):=by
         show PV.cv (.row (l2++mm).length ((l2++mm).flatMap q'.enc))=_
         rw [List.length_append,List.flatMap_append]
        refine wk_give (j:=j) (d:=d) (c:=.row (l2.length+mm.length) (l2.flatMap q'.enc++mm.flatMap q'.enc)) rfl ho hm hs hg hd.inb hdd hao (fun W0 hA=>?_) (hk _ _ ?_ h2)
        ·have hx':ev W0 (.tmp t1)=some (.own j):=hA.ev hx rfl
         have hy':=hA.ev hy (dV hmm)
         have hk0:W0.rows j=some ⟨e,q'.sz,l2.length,l2.flatMap q'.enc⟩:=hA.rows j _ hrow
         exact pB (X:=X) (S:=W0) hop hcl (gu ha) (gu ht) hu g1 k2 (by rw [k4,k3]) (by rw [k3];exact hsz) hx' hk0 rfl k3.symm hy' (by rw [k3,dA]) (lC mm) (by
          show l2.length+mm.length≤maxLen
          simp only [maxLen];omega) (by rw [g2];exact hcond) (beq_false hkl.1) hkl.2 hd.inb
        ·rw [hdd]
         have h5:=(vS (k:=j) (E:=S.env) (R:=S.rows) (W:=W) hs).put (d:=d) (v:=.v (.list q') (l2++mm))
         simp only [jg,Val.pv,e5] at h5
         exact h5
       obtain ⟨_,h2⟩:=gR h
       refine zd (j:=j) (d:=d) (R:=(cQ.arr e q' (l2++mm)).row) ho hm hs hg hd.inb hdd hao hkl.2 (fun W0 hA=>?_) (hk _ _ ?_ h2)
       ·have hx':ev W0 (.tmp t1)=some (.own j):=hA.ev hx rfl
        have hy':=hA.ev hy (dV hmm)
        have hk0:W0.rows j=some ⟨e,q'.sz,l2.length,l2.flatMap q'.enc⟩:=hA.rows j _ hrow
        have:=pU (X:=X) (S:=W0) hop hcl (gu ha) (gu ht) hu g1 k2 (by rw [k4,k3]) (by rw [k3];exact hsz) hx' hk0 rfl k3.symm hy' (by rw [k3,dA]) (lC mm) (by
         show l2.length+mm.length≤maxLen
         simp only [maxLen];omega) (by rw [g2];exact hcond) (pin_of hP hkl.1) hkl.2 hd.inb
        rw [← e4]
        exact this
       ·rw [hdd]
        exact ((kK (k:=j) (E:=S.env) (R:=S.rows) (W:=W) hs).set (k:=j) (r:=.arr e q' (l2++mm))).put (d:=d) (v:=.own j)
      ·cases h
     ·cases h
    ·split at h
     ·rename_i hrow hval hro
      obtain ⟨hcond,h2⟩:=gR h
      have hcond:=hcond _ rfl
      have hlen:mm.length*1≤mm.length*b:=Nat.mul_le_mul_left _ hb1
      refine lQ (v:=.own d) (r:=some (d,.arr e q' mm)) ho hm hs (.inl hg) hd.inb hro hval (fun W0 hA=>?_) (hk _ _ ?_ h2)
      ·have hy':=hA.ev hy (dV hmm)
       have hk0:W0.rows d=none:=hA.rows d _ hrow
       have:=rU (X:=X) (W:=W0) (k:=d) hop hcl (gu ha) (gu ht) hu g1 k2 (by rw [k4,k3]) (by rw [k3];exact hsz) hy' (by rw [k3,dA]) (lC mm) (by simp only [maxLen];omega) (by rw [g2];exact hcond) hk0 (hd d hdd).2 hd.inb
       rw [k3] at this
       rw [hdd] at this ⊢
       exact this
      ·rw [hdd]
       have h5:Sub (S.set d (.arr e q' mm)) (setRow W d (cQ.arr e q' mm).row):=hs.set
       exact h5.put (d:=d) (v:=.own d)
     ·cases h
    ·cases h
   ·cases h
  ·cases h
 ·cases h
end
end Go.Proofs.YtfbgaddecbiimaaGreatDoor.E
end
section
namespace Go.Proofs.YtfbgaddecbiimaaGreatDoor.E
open Go.RowKit Go.Proofs.YtfbgaddecbiimaaGreatDoorW.PrintWords Go.Proofs.YtfbgaddecbiimaaGreatDoorW.PrintMore Go.Proofs.YtfbgaddecbiimaaGreatDoor.V
set_option linter.unusedVariables false
section
variable {T:Tab} {X:Ctx} {ops:List Oper} {lim:Option (List Meta)} {F:Nat} {call:(g:Nat)→List Val→Option (T.out g).den}
theorem valOk_v {i:Nat} {o:Oper} {t:Ty} {y:t.den} (hm:im T ops lim i o) (hg:qm T o=none):lR lim i (.v t y)=true:=by
 cases lim with
 | none=>rfl
 | some ms =>
  obtain ⟨m,h1,_,_,h4⟩:=hm
  have hk:m.kl=none:=h4.resolve_right (fun h=>by obtain ⟨_,t,ht⟩:=h;rw [hg] at ht;cases ht)
  simp only [lR,h1,hk]
  cases m.rf<;>rfl
theorem zU {i:Nat} {S S':ES} {t:Nat} {v:Val} (h:rdL lim i S t=some v) {t':Nat} {u:Val} {c:Ty} {y:c.den} (hv:u = .v c y) (hf:find S'.env t'=some u) (ht:t'=t):rdL lim i S' t'=some u:=by
 subst ht
 subst hv
 cases lim with
 | none=>exact hf
 | some ms =>
  cases hm:ms[i]? with
  | none=>simp only [rdL,hm] at h;cases h
  | some m =>
   cases hb:mem m.rt t' with
   | false=>simp only [rdL,hm,hb] at h;cases h
   | true =>
    simp only [rdL,hm,hb,hf]
    cases m.rf<;>rfl
theorem op_sound (hT:cN T=true) (hC:ie T call) (hP:rL T F X) {β:Type} {S:ES} {W:St} {o:Oper} {ctx:Option (Nat×Bool)} {prot:List Nat} {i:Nat} {l:List Oper} {q:St→Prop} {k:ES→Option β} {r:β} (ho:ops[i]?=some o) (hm:im T ops lim i o) (hd:dq X o) (hg:gEq o.guard ctx=true) (hn:jx prot o.dst=true) (hs:Sub S W) (hc:mw ops ctx prot W) (h:opE T F call lim ctx i o S k=some r) (hk:Goes T X ops lim ctx prot i o l W q k r):Wk T.P X ops lim i (o :: l) W q:=by
 have plain:∀ (k':ES→Option β),k9 T F lim ctx i o (kM ctx lim ((S.eO (handed T ((find T.own F).getD []) [] S o)).fresh ((find T.own F).getD []) o) S) k=some r→Wk T.P X ops lim i (o :: l) W q:=by
  intro _ h
  obtain ⟨W1,h1,h2,h3,h4⟩:=kL (T:=T) (X:=X) (lim:=lim) (i:=i) (ctx:=ctx) (A:=(S.eO (handed T ((find T.own F).getD []) [] S o)).fresh ((find T.own F).getD []) o) (fun a w hr=>oW _ o a w (ej _ _ a w hr)) hs hc
  refine h4 _ _ (uL hT ho hm hd hg hn h1 h2 h (fun S' W' g1 g2 g3 g4=>hk S' W' g1 g2 g3 (fun hx=>?_)))
  rw [← h3 hx]
  exact g4 hx
 unfold opE at h
 split at h
 ·rename_i c hop
  split at h
  ·rename_i x hcl
   obtain ⟨W1,h1,h2,h3,h4⟩:=kL (T:=T) (X:=X) (lim:=lim) (i:=i) (ctx:=ctx) (A:=S.eO (kh S (kept T (uj ((find T.own F).getD []) x) c.args.toList))) (ej _ _) hs hc
   refine h4 _ _ (yQ hP hC hop hcl ho hm hd hg hn h1 h2 h (fun S' W' g1 g2 g3 g4=>hk S' W' g1 g2 g3 (fun hx=>?_)))
   rw [← h3 hx]
   exact g4 hx
  ·rename_i b hcl
   split at h
   ·exact plain k h
   ·rename_i hb
    split at h
    ·have hcl':c.callee = .builtin .append:=by
      rw [hcl]
      cases b<;>first | rfl | (cases hb;done)
     have hgt:o.guard=none:=tL hg
     obtain ⟨W1,h1,h2,h3,h4⟩:=kL (T:=T) (X:=X) (lim:=lim) (i:=i) (ctx:=none) (prot:=prot) (ops:=ops) (A:=(S.eO (kh S (c.args.toList.drop 1))).fresh ((find T.own F).getD []) o) (fun a w hr=>oW _ o a w (ej _ _ a w hr)) hs trivial
     exact h4 _ _ (tW hT hP hop hcl' ho hm hd hgt h1 h (fun S' W' g1 g2=>hk S' W' g1 trivial g2 (fun hx=>by cases hx)))
    ·cases h
  ·cases h
 ·rename_i c x y hop
  exact yi hop ho hm hd hg hn hs hc h hk
 ·rename_i t x y z hop
  split at h
  ·rename_i hdst
   exact As hT hop hdst ho hd (tL hg) hs h (fun S' W' g1 g2=>hk S' W' g1 trivial g2 (fun hx=>by cases hx))
  ·cases h
 ·rename_i t x hi hop
  split at h
  ·exact qM hT hP hop ho hd (tL hg) hs h (fun S' W' g1 g2=>hk S' W' g1 trivial g2 (fun hx=>by cases hx))
  ·exact plain k h
 ·exact plain k h
theorem sq (hT:cN T=true) (hC:ie T call) (hP:rL T F X) (hdst:∀ (n:Nat) (o:Oper),ops[n]?=some o→dq X o) (hmeta:∀ (n:Nat) (o:Oper),ops[n]?=some o→im T ops lim n o) :
 ∀ (n:Nat) (β:Type) (ctx:Option (Nat×Bool)) (prot:List Nat) (i:Nat) (l:List Oper) (S:ES) (K:ES→Option β) (r:β),run T F call ops lim n β ctx prot i l S K=some r→∀ (W:St) (q:St→Prop),(∀ (m:Nat) (o:Oper),l[m]?=some o→ops[i+m]?=some o)→Sub S W→mw ops ctx prot W →
  (∀ S' W',Sub S' W'→K S'=some r→(ctx.isSome=true→Frame l W W')→q W')→Wk T.P X ops lim i l W q:=by
 intro n
 induction n with
 | zero=>intro β ctx prot i l S K r h;cases h
 | succ n ih =>
  intro β ctx prot i l S K r h W q hl hs hc hK
  cases l with
  | nil=>exact wk_nil (hK S W hs h (fun _=>qt _ _))
  | cons o l' =>
   have ho:=hl 0 o rfl
   rw [Nat.add_zero] at ho
   simp only [run] at h
   split at h
   ·rename_i hg
    split at h
    ·cases h
    ·rename_i hn
     refine op_sound hT hC hP ho (hmeta i o ho) (hdst i o ho) hg hn hs hc h (fun S' W' g1 g2 g3 g4=>ih β ctx prot (i+1) l' S' K r g3 W' q (fun m o' hm=>?_) g1 g2 (fun S2 W2 k1 k2 k3=>hK S2 W2 k1 k2 (fun hx=>?_)))
     ·have:=hl (m+1) o' (by simpa using hm)
      rw [show i+1+m=i+(m+1) by omega]
      exact this
     ·obtain ⟨v,hv⟩:=g4 hx
      exact oY (v:=v) (by rw [← hv];exact k3 hx)
   ·rename_i hg
    split at h
    ·cases h
    ·rename_i j w hgd
     split at h
     ·cases h
     ·rename_i t htj
      obtain ⟨oj,hj,hjd⟩:=Option.bind_eq_some_iff.1 htj
      split at h
      ·cases h
      ·rename_i G pk rest hcut
       obtain ⟨hle,px,py,hpop⟩:=Bd _ _ _ _ hcut
       obtain ⟨W1,h1,h2,h3,h4⟩:=kL (T:=T) (X:=X) (lim:=lim) (i:=i) (ctx:=ctx) (A:=ES.jC T ((find T.own F).getD []) [] S G) (ky _ _ _ _) hs hc
       generalize kM ctx lim (ES.jC T ((find T.own F).getD []) [] S G) S=S1 at h h1
       split at h
       ·rename_i b c0 x y d hft hin hpg hpn hpo hpd
        rw [hpop] at hpo
        cases hpo
        split at h
        ·rename_i other b1 hoth htst
         obtain ⟨y',e1,e2⟩:=Option.bind_eq_some_iff.1 h
         refine h4 _ _ ?_
         rw [hle]
         have hlen:∀ (m:Nat) (o':Oper),(G++pk :: rest)[m]?=some o'→ops[i+m]?=some o':=by rw [← hle];exact hl
         have hG:∀ (m:Nat) (o':Oper),G[m]?=some o'→ops[i+m]?=some o':=fun m o' hm=>hlen m o' (by rw [List.getElem?_append_left (List.getElem?_eq_some_iff.1 hm).1];exact hm)
         have hpk:ops[i+G.length]?=some pk:=hlen G.length pk (by rw [List.getElem?_append_right (Nat.le_refl _),Nat.sub_self];rfl)
         have hrest:∀ (m:Nat) (o':Oper),rest[m]?=some o'→ops[i+G.length+1+m]?=some o':=fun m o' hm=>by
          have:=hlen (G.length+1+m) o' (by rw [List.getElem?_append_right (by omega),show G.length+1+m-G.length=m+1 by omega];simpa using hm)
          rw [show i+G.length+1+m=i+(G.length+1+m) by omega]
          exact this
         have hia:=wJ G i hin
         have hnotp:∀ o'∈G,jx (t :: prot) o'.dst=true:=fun o' ho'=>by
          obtain ⟨m,hm⟩:=List.getElem?_of_mem ho'
          exact (hia m o' hm).1
         have hnott:∀ o'∈G,o'.dst≠some t:=fun o' ho' e=>by
          have:=hnotp o' ho'
          rw [e] at this
          simp [jx,mem,Nat.beq_refl] at this
         have hnotp2:∀ o'∈G,jx prot o'.dst=true:=fun o' ho'=>by
          have:=hnotp o' ho'
          cases hd:o'.dst with
          | none=>rfl
          | some d' =>
           rw [hd] at this
           simp only [jx,Bool.not_eq_true'] at this ⊢
           cases hb:mem prot d' with
           | false=>rfl
           | true =>
            have:mem (t :: prot) d'=true:=mem_iff.2 (List.mem_cons_of_mem _ (mem_iff.1 hb))
            simp_all
         have ht1:W1.env t=some (.bool b):=h1.env t _ _ hft rfl
         have behind:∀ W',Frame G W1 W'→∀ (Sp:ES),Sub Sp W'→(∀ W0,cM W0 (rdL lim (i+G.length) Sp) (rrL lim (i+G.length) Sp)→dY T.P X pk W0 (jg (se W0 none) pk.dst (.v .bool y')))→Wk T.P X ops lim (i+G.length) (pk :: rest) W' q:=by
          intro W' hf Sp hsp hop
          have hc':=Be h2 hf hnotp2
          refine lQ (v:=.v .bool y') (r:=none) hpk (hmeta _ _ hpk) hsp (AO hc' hpg) (hdst _ _ hpk).inb rfl (valOk_v (hmeta _ _ hpk) (by rw [qm,hpop])) hop ?_
          refine ih β ctx prot (i+G.length+1) rest _ K r e2 _ q hrest ?_ (rG hc' hpn) (fun S2 W2 k1 k2 k3=>hK S2 W2 k1 k2 (fun hx=>?_))
          ·rw [hpd]
           exact (pV h1 hf).put
          ·have hf2:=oY (v:=.v .bool y') (k3 hx)
           rw [h3 hx] at hf
           rw [hle]
           exact ⟨hf2.1.trans hf.1,fun u hu=>(hf2.2 u (fun o' ho'=>hu o' (List.mem_append_right _ ho'))).trans (hf.2 u (fun o' ho'=>hu o' (List.mem_append_left _ ho')))⟩
         have htm:∀ (Sx:ES),find Sx.env t=some (.v .bool b)→rdL lim (i+G.length) Sx t=some (.v .bool b):=by
          intro Sx hx
          unfold pg at htst
          split at htst
          ·rename_i b' hb'
           exact zU (v:=.v .bool b') (t:=t) hb' rfl hx rfl
          ·cases htst
         have hft2:find (S1.forget G).env t=some (.v .bool b):=by rw [gX G S1 t hnott];exact hft
         refine wk_app ?_
         have taken:b=w→run T F call ops lim n Bool (some (j,w)) (t :: prot) i G S1 (fun S'=>pg (rdL lim (i+G.length) S') (match w with | true=>px | false=>py))=some y'→Wk T.P X ops lim i G W1 (fun W'=>Wk T.P X ops lim (i+G.length) (pk :: rest) W' q):=by
          intro hbw hrun
          refine ih Bool (some (j,w)) (t :: prot) i G S1 _ y' hrun W1 _ hG h1 ⟨oj,t,hj,hjd,List.mem_cons_self,by rw [ht1,hbw]⟩ (fun S' W' k1 k2 k3=>?_)
          have hf:=k3 rfl
          have ht':W'.env t=some (.bool b):=by rw [hf.2 t hnott];exact ht1
          have hsp:Sub (S'.put t (.v .bool b)) W':=by
           refine ⟨fun u v p f1 f2=>?_,k1.rows⟩
           simp only [ES.put,find] at f1
           split at f1
           ·rename_i hb
            cases f1
            have:=beq_true hb
            subst this
            cases f2
            exact ht'
           ·exact k1.env u v p f1 f2
          refine behind W' hf (S'.put t (.v .bool b)) hsp (fun W0 hA=>?_)
          have hc0:ev W0 (.tmp t)=some (.bool b):=hA.evT (x:=.tmp t) (htm _ (by simp [ES.put,find,Nat.beq_refl]))
          have hop:∀ z:Operand,pg (rdL lim (i+G.length) S') z=some y'→ev W0 z=some (.bool y'):=by
           intro z hz
           unfold pg at hz
           split at hz
           ·rename_i b' hb'
            cases hz
            cases z with
            | tmp u =>
             have hb2:rdL lim (i+G.length) S' u=some (.v .bool y'):=hb'
             by_cases cu:u=t
             ·subst cu
              have:=k1.env u _ _ (kX hb2) rfl
              rw [ht'] at this
              cases this
              exact hc0
             ·refine hA.evT (x:=.tmp u) (t:=.bool) (y:=y') ?_
              have hfu:find (S'.put t (.v .bool b)).env u=find S'.env u:=by
               simp only [ES.put,find]
               have:Nat.beq u t=false:=by
                cases hb:Nat.beq u t with
                | false=>rfl
                | true=>exact absurd (beq_true hb) cu
               rw [this]
              exact zU (t:=u) hb2 rfl (by rw [hfu];exact kX hb2) rfl
            | const cc=>exact hA.evT (x:=.const cc) hb'
            | func f=>cases hb'
            | global g=>cases hb'
           ·cases hz
          have hz:=hop _ k2
          refine z8 (hdst _ _ hpk) hpd hpop hc0 (fun hb=>?_) (fun hb=>?_)
          ·rw [hbw] at hb;subst hb;exact hz
          ·rw [hbw] at hb;subst hb;exact hz
         have left:b = !w→other=y'→Wk T.P X ops lim i G W1 (fun W'=>Wk T.P X ops lim (i+G.length) (pk :: rest) W' q):=by
          intro hbw hy'
          subst hy'
          refine vX (i:=i) hdst hmeta hj hjd (List.mem_cons_self (l:=prot)) G i W1 hG (Nat.le_refl _) hia (by rw [ht1,hbw]) (fun m hm1 hm2=>by omega) (fun W' hf ht'=>?_)
          refine behind W' hf (S1.forget G) (pV h1 hf) (fun W0 hA=>?_)
          have hc0:ev W0 (.tmp t)=some (.bool b):=hA.evT (x:=.tmp t) (htm _ hft2)
          have hz:=xk hA hoth
          refine z8 (hdst _ _ hpk) hpd hpop hc0 (fun hb=>?_) (fun hb=>?_)
          ·have:w=false:=by rw [hb] at hbw;cases w with
            | false=>rfl
            | true=>cases hbw
           subst this;exact hz
          ·have:w=true:=by rw [hb] at hbw;cases w with
            | false=>cases hbw
            | true=>rfl
           subst this;exact hz
         cases w with
         | true =>
          cases b with
          | true=>exact taken rfl e1
          | false=>exact left rfl (Option.some.inj e1)
         | false =>
          cases b with
          | true=>exact left rfl (Option.some.inj e1)
          | false=>exact taken rfl e1
        ·cases h
       ·cases h
end
end Go.Proofs.YtfbgaddecbiimaaGreatDoor.E
end
section
namespace Go.Proofs.YtfbgaddecbiimaaGreatDoor.E
open Go.RowKit Go.Proofs.YtfbgaddecbiimaaGreatDoorW.PrintWords Go.Proofs.YtfbgaddecbiimaaGreatDoorW.PrintMore Go.Proofs.YtfbgaddecbiimaaGreatDoor.V
set_option linter.unusedVariables false
section
variable {T:Tab} {X:Ctx} {F nt:Nat} {call:(g:Nat)→List Val→Option (T.out g).den} {β:Type}
theorem Ba:∀ (ops:List Oper),xe nt ops=true→X.nt=nt→nt≤cS→∀ (n:Nat) (o:Oper),ops[n]?=some o→dq X o
 | o :: ops,h,hX,hl,n,o',hn,d,hd=>by
  simp only [xe,Bool.and_eq_true] at h
  cases n with
  | zero =>
   cases hn
   have h1:=h.1
   simp only [hd] at h1
   have h2:d<nt:=Nat.le_of_ble_eq_true h1
   exact ⟨by rw [hX];exact h2,Nat.ne_of_lt (Nat.lt_of_lt_of_le h2 hl)⟩
  | succ n=>exact Ba ops h.2 hX hl n o' (by simpa using hn) d hd
 | [],_,_,_,n,o',hn,_,_=>by simp at hn
theorem sF (hT:cN T=true) (hC:ie T call) (hP:rL T F X) (hmix:T.P.follows .mixedOrders=true) {id:Nat} {ops:List Oper} {draw:Bool} {S:ES} {K:ES→Option β} {r:β} (hX:X.nt=nt) (h:region T F nt call ops draw S K=some r) {W:St} {Q:mv} (hs:Sub S W) (hK:∀ S' W',Sub S' W'→K S'=some r→Q .normal W'):Sim T.P X (.region id ops.toArray draw) W Q:=by
 unfold region at h
 split at h
 ·cases h
 ·rename_i hd
  rw [Bool.and_eq_true] at hd
  have hdst:=Ba (X:=X) ops hd.1 hX (Nat.le_of_ble_eq_true hd.2)
  split at h
  ·rename_i g hh
   split at h
   ·rename_i y hy
    refine hC.hook ops draw S g y hh hy X id W Q (fun n o hn=>?_) hs (fun W' h1=>hK _ _ h1 h)
    unfold inb
    cases hdd:o.dst with
    | none=>trivial
    | some d=>exact (hdst n o hn d hdd).1
   ·cases h
  split at h
  ·have:=sq (X:=X) (ops:=ops) (lim:=none) (F:=F) hT hC hP hdst (fun n o _=>trivial) _ β none [] 0 ops S K r h W (fun S'=>Q .normal S') (fun m o hm=>by rw [Nat.zero_add];exact hm) hs trivial (fun S' W' h1 h2 _=>hK S' W' h1 h2)
   exact ab (pls_sim this)
  ·dsimp only at h
   split at h
   ·rename_i hm hA hO
    obtain ⟨g1,g2⟩:=wB ops _ hm
    have:=sq (X:=X) (ops:=ops) (lim:=some _) (F:=F) hT hC hP hdst g2 _ β none [] 0 ops (ES.jC T ((find T.own F).getD []) [] S ops) K r h (ES.jC T ((find T.own F).getD []) [] S ops).st (fun S'=>Q .normal S') (fun m o hm=>by rw [Nat.zero_add];exact hm) (mC _) trivial (fun S' W' h1 h2 _=>hK S' W' h1 h2)
    refine df (fun a w hr=>ky (T:=T) ((find T.own F).getD []) [] ops S a w (iH hs a w hr)) ?_
    have hdr:=drs_dr (X:=X) (P:=T.P) (q:=fun S'=>Q .normal S') g1.symm ops 0 _ (by omega) this
    rw [List.drop_zero] at hdr
    exact zA _ _ hdr hA hO hmix
   ·cases h
theorem oI:∀ (l:List (Nat×Bool×TypeId)) (S:ES),∀ a w,Rel X S.st a w→Rel X (yr l S).st a w
 | [],S,a,w,h=>h
 | x :: l,S,a,w,h=>by
  simp only [yr]
  split
  ·exact oI l S a w h
  ·exact oI l _ a w (ej _ _ a w h)
theorem eA {S:ES}:∀ (l:List (Nat×Bool×TypeId)) (t:Nat) (v:Val),find (ix T S l) t=some v→∃ u,find S.env t=some u∧u.pv=v.pv
 | [],t,v,h=>by cases h
 | x :: l,t,v,h=>by
  simp only [ix] at h
  split at h
  ·exact eA l t v h
  ·exact eA l t v h
  ·exact eA l t v h
  ·exact eA l t v h
  ·rename_i hf
   split at h
   ·rename_i c hc
    simp only [find] at h
    split at h
    ·rename_i hb
     cases h
     rw [beq_true hb]
     exact ⟨_,hf,rfl⟩
    ·exact eA l t v h
   ·exact eA l t v h
  ·rename_i u _ _ _ _ _ hf
   simp only [find] at h
   split at h
   ·rename_i hb
    cases h
    rw [beq_true hb]
    exact ⟨_,hf,rfl⟩
   ·exact eA l t v h
  ·exact eA l t v h
theorem fP {S:ES}:∀ (l:List (Nat×Bool×TypeId)) (t:Nat) (v:Val),(t,v)∈ix T S l→(∀ fs,v≠.st fs)∧∀ c x,v≠.tup c x
 | [],t,v,h=>by cases h
 | x :: l,t,v,h=>by
  simp only [ix] at h
  split at h
  ·exact fP l t v h
  ·exact fP l t v h
  ·exact fP l t v h
  ·exact fP l t v h
  ·split at h
   ·rcases List.mem_cons.1 h with h | h
    ·cases h
     exact ⟨fun fs e=>(by cases e),fun c x e=>(by cases e)⟩
    ·exact fP l t v h
   ·exact fP l t v h
  ·rename_i u h1 h2 h3 h4 h5 hf
   rcases List.mem_cons.1 h with h | h
   ·cases h
    exact ⟨fun fs e=>h3 fs e,fun c x e=>h4 c x e⟩
   ·exact fP l t v h
  ·exact fP l t v h
theorem oy {S:ES} {acc:List (Nat×cQ)} (hacc:∀ k r,find acc k=some r→find S.rows k=some r):∀ (js:List Nat) (k:Nat) (r:cQ),find (iP S acc js) k=some r→find S.rows k=some r
 | [],k,r,h=>hacc k r h
 | j :: js,k,r,h=>by
  simp only [iP] at h
  split at h
  ·rename_i r0 hr0
   simp only [find] at h
   split at h
   ·rename_i hb
    cases h
    rw [beq_true hb]
    exact hr0
   ·exact oy hacc js k r h
  ·exact oy hacc js k r h
theorem ox {S:ES} {acc:List (Nat×cQ)} {k:Nat} {r:cQ} (h:find acc k=some r) (hr:find S.rows k=some r):∀ (js:List Nat),find (iP S acc js) k=some r
 | []=>h
 | j :: js=>by
  simp only [iP]
  split
  ·rename_i r0 hr0
   simp only [find]
   split
   ·rename_i hb
    rw [beq_true hb] at hr
    rw [← hr0,hr]
   ·exact ox h hr js
  ·exact ox h hr js
theorem lB {S:ES}:∀ (l:List (Nat×Val)) (k:Nat) (r:cQ),find (keepRows S l) k=some r→find S.rows k=some r
 | [],k,r,h=>by
  simp only [keepRows] at h
  split at h
  ·rename_i r0 hr0
   simp only [find] at h
   split at h
   ·rename_i hb
    cases h
    rw [beq_true hb]
    exact hr0
   ·cases h
  ·cases h
 | x :: l,k,r,h=>by
  simp only [keepRows] at h
  split at h
  ·exact lB l k r h
  ·split at h
   ·rename_i r0 hr0
    simp only [find] at h
    split at h
    ·rename_i hb
     cases h
     rw [beq_true hb]
     exact hr0
    ·exact oy (fun k r h=>lB l k r h) _ k r h
   ·exact lB l k r h
theorem nP {S:ES}:∀ (l:List (Nat×Val)) (t:Nat) (v:Val) (k:Nat) (r:cQ),(t,v)∈l→leadsTo v=some k→find S.rows k=some r→find (keepRows S l) k=some r
 | x :: l,t,v,k,r,hm,hv,hr=>by
  simp only [keepRows]
  rcases List.mem_cons.1 hm with h | h
  ·subst h
   simp only [hv,hr,find,Nat.beq_refl]
  ·split
   ·exact nP l t v k r h hv hr
   ·split
    ·rename_i k0 _ r0 hr0
     simp only [find]
     split
     ·rename_i hb
      have:=beq_true hb
      subst this
      rw [hr] at hr0
      exact hr0.symm
     ·exact ox (nP l t v k r h hv hr) hr _
    ·exact nP l t v k r h hv hr
theorem norm_rel (lv:List (Nat×Bool×TypeId)) (S:ES):∀ a w,Rel X S.st a w→Rel X (norm T lv S).st a w:=by
 intro a w h
 have h1:=oI lv S a w h
 unfold norm
 generalize yr lv S=S1 at h1
 dsimp only
 split
 case h_2=>exact h1
 rename_i hown
 have env:∀ t p,(ES.st ⟨ix T S1 lv,keepRows S1 (ix T S1 lv)⟩).env t=some p→S1.st.env t=some p∧∃ v,(t,v)∈ix T S1 lv∧v.pv=some p:=by
  intro t p ht
  simp only [ES.st] at ht ⊢
  obtain ⟨v,h2,h3⟩:=Option.bind_eq_some_iff.1 ht
  obtain ⟨u,h4,h5⟩:=eA lv t v h2
  exact ⟨by rw [h4];simp only [Option.bind_some,h5,h3],v,eJ h2,h3⟩
 have rows:∀ k r,(ES.st ⟨ix T S1 lv,keepRows S1 (ix T S1 lv)⟩).rows k=some r→S1.st.rows k=some r:=by
  intro k r hk
  simp only [ES.st] at hk ⊢
  obtain ⟨x,h2,rfl⟩:=Option.map_eq_some_iff.1 hk
  rw [lB _ k x h2]
  rfl
 refine h1.less (fun t p ht=>(env t p ht).1) rows (fun t p ht w F L v hv=>?_) (fun j r hj=>?_)
 ·obtain ⟨_,u,hu,hp⟩:=env t p ht
  have km:∀ k r,leadsTo u=some k→S1.st.rows k=some r→(ES.st ⟨ix T S1 lv,keepRows S1 (ix T S1 lv)⟩).rows k=some r:=by
   intro k r hk hr
   simp only [ES.st] at hr ⊢
   obtain ⟨x,h2,rfl⟩:=Option.map_eq_some_iff.1 hr
   rw [nP _ t u k x hu hk h2]
   rfl
  obtain ⟨no1,no2⟩:=fP lv t u hu
  cases u with
  | v c x =>
   cases hp
   have hpl:closed (c.pv x)=true:=ia c x
   generalize c.pv x=p at hv hpl
   cases hv with
   | cv h=>exact .cv h
   | ag hl h=>exact .ag hl h
   | pr vs hs hF hc hd=>exact .pr vs hs hF hc hd
   | tup=>cases hpl
   | own=>cases hpl
   | win=>cases hpl
   | po=>cases hpl
   | map=>cases hpl
  | tup c x=>exact absurd rfl (no2 c x)
  | st fs=>exact absurd rfl (no1 fs)
  | nilS=>cases hp;cases hv with | cv h=>exact .cv h
  | undef=>cases hp;cases hv with | cv h=>exact .cv h
  | any=>cases hp
  | own k =>
   cases hp
   cases hv with
   | own h=>exact .own (km _ _ rfl h)
  | po k off p =>
   cases hp
   cases hv with
   | po h hL ho=>exact .po (km _ _ rfl h) hL ho
  | pe k i sz off p =>
   cases hp
   cases hv with
   | po h hL ho=>exact .po (km _ _ rfl h) hL ho
  | pr c x =>
   cases hp
   cases hv with
   | pr vs hs hF hc hd=>exact .pr vs hs hF hc hd
  | pa k off p n i sz =>
   cases hp
   cases hv with
   | po h hL ho=>exact .po (km _ _ rfl h) hL ho
  | wn k n =>
   cases hp
   cases hv with
   | win h hL ho hn hb ha=>exact .win (km _ _ rfl h) hL ho hn hb ha
  | mp l =>
   cases hp
   cases hv with
   | map hF hn hb he=>exact .map hF hn hb he
 ·cases hf:find (keepRows S1 (ix T S1 lv)) j with
  | some x=>exact .inl ⟨x.row,by simp only [ES.st,hf,Option.map_some]⟩
  | none =>
   refine .inr ⟨fun k r hk ho=>?_,fun t p ht=>?_⟩
   ·simp only [ES.st] at hk
    obtain ⟨x,h2,rfl⟩:=Option.map_eq_some_iff.1 hk
    cases x with
    | arr e t l=>exact jN (gT l) j
    | box e t y=>exact fY t y j
    | obox e fs =>
     show (dT fs).any (j7 j)=false
     cases hc:(dT fs).any (j7 j) with
     | false=>rfl
     | true =>
      have hm:=(eu fs j).1 hc
      simp only [ownsOk,List.all_eq_true] at hown
      have:=hown _ (eJ h2) j hm
      simp only [ES.st] at hj
      obtain ⟨y,hy,_⟩:=Option.map_eq_some_iff.1 hj
      rw [hf,hy] at this
      cases this
   ·obtain ⟨_,u,hu,hp⟩:=env t p ht
    obtain ⟨no1,no2⟩:=fP lv t u hu
    cases u with
    | v c x =>
     cases hp
     cases c with
     | pair a b=>exact fY (.pair a b) x j
     | arr n e=>exact fY (.arr n e) x j
     | _=>rfl
    | tup c x=>exact absurd rfl (no2 c x)
    | st fs=>exact absurd rfl (no1 fs)
    | any=>cases hp
    | _=>cases hp;rfl
theorem l6 (F id:Nat) (S:ES):∀ a w,Rel X S.st a w→Rel X (kj T F id S).st a w:=by
 intro a w h
 unfold kj
 split
 ·exact h
 ·split
  ·exact h
  ·exact norm_rel _ _ a w h
def Says (T:Tab) (X:Ctx) (c:Code) (run:ES→(Exit→ES→Option β)→Option β):Prop :=
 ∀ (S:ES) (K:Exit→ES→Option β) (r:β),run S K=some r→∀ (W:St) (Q:mv),Sub S W→(∀ e S' W',Sub S' W'→K e S'=some r→Q e W')→Sim T.P X c W Q
theorem qi {c:Code} {stp:ES→(Exit→ES→Option β)→Option β} {nm:ES→ES} (hnm:∀ S a w,Rel X (ES.st S) a w→Rel X (nm S).st a w) (h:Says T X c stp):∀ (n:Nat) (S:ES) (K:Exit→ES→Option β) (r:β),tv nm stp n S K=some r→∀ (W:St) (Q:mv),Sub S W→(∀ e S' W',Sub S' W'→K e S'=some r→Q e W')→yY T.P X c W Q
 | 0,S,K,r,hr,W,Q,hs,hK=>by cases hr
 | n+1,S,K,r,hr,W,Q,hs,hK=>by
  refine bj (h S _ r hr W _ hs (fun e S' W' h1 h2=>?_))
  cases e with
  | normal=>exact kP (fun a w hr=>hnm S' a w (iH h1 a w hr)) (qi hnm h n (nm S') K r h2 _ Q (mC _) hK)
  | _=>exact hK _ _ _ h1 h2
theorem j4 (hT:cN T=true) (hC:ie T call) (hP:rL T F X) (hmix:T.P.follows .mixedOrders=true) (hX:X.nt=nt) {n:Nat}:∀ (c:Code),Says T X c (fun S (K:Exit→ES→Option β)=>code T F nt call n c S K):=by
 intro c
 induction c with
 | skip=>intro S K r h W Q hs hK;exact aN (hK _ _ _ hs h)
 | label l=>intro S K r h W Q hs hK;exact zx (hK _ _ _ hs h)
 | exit i=>intro S K r h W Q hs hK;exact bC (hK _ _ _ hs h)
 | ret=>intro S K r h W Q hs hK;exact aV (hK _ _ _ hs h)
 | region id ops draw =>
  intro S K r h W Q hs hK
  have:=sF (X:=X) (Q:=Q) (id:=id) hT hC hP hmix hX h hs (fun S' W' h1 h2=>hK _ _ _ h1 h2)
  rwa [Array.toArray_toList] at this
 | seq a b iha ihb =>
  intro S K r h W Q hs hK
  refine ae (iha S _ r h W _ hs (fun e S' W' h1 h2=>?_))
  cases e with
  | normal=>exact df (fun a w hr=>l6 _ _ S' a w (iH h1 a w hr)) (ihb _ K r h2 _ Q (mC _) hK)
  | _=>exact hK _ _ _ h1 h2
 | cond x a b iha ihb =>
  intro S K r h W Q hs hK
  simp only [code] at h
  split at h
  ·rename_i v hv
   have hA:cM W (find S.env) (fun k=>some (find S.rows k)):=hs.agree (i:=0) (lim:=none)
   refine aM (xk hA hv) (fun hb=>?_) (fun hb=>?_)
   ·rw [hb] at h;exact iha S K r h W Q hs hK
   ·rw [hb] at h;exact ihb S K r h W Q hs hK
  ·cases h
 | block i c ih =>
  intro S K r h W Q hs hK
  refine aK (ih S _ r h W _ hs (fun e S' W' h1 h2=>?_))
  cases e with
  | exit j =>
   show if j=i then Q .normal W' else Q (.exit j) W'
   dsimp only at h2
   split at h2
   ·rename_i hb
    rw [if_pos (beq_true hb)]
    exact hK _ _ _ h1 h2
   ·rename_i hb
    rw [if_neg (beq_false hb)]
    exact hK _ _ _ h1 h2
  | _=>exact hK _ _ _ h1 h2
 | scope c ih =>
  intro S K r h W Q hs hK
  have:=ih S _ r h W (fun e W'=>match e with | .goto _=>False | e=>Q e W') hs (fun e S' W' h1 h2=>by
   cases e with
   | goto l=>cases h2
   | _=>exact hK _ _ _ h1 h2)
  exact fun a w hr=>wp_scope_straight (Code.wp_mono (fun e a w ⟨S',q,r'⟩=>by
   cases e with
   | goto l=>exact q.elim
   | _=>exact ⟨S',q,r'⟩) (this a w hr))
 | loop c ih =>
  intro S K r h W Q hs hK
  refine bK (kP (fun a w hr=>l6 F (fid c) S a w (iH hs a w hr)) (qi (nm:=kj T F (fid c)) (fun S a w h=>l6 _ _ S a w h) ih n _ K r h _ Q (mC _) hK))
 | _=>intro S K r h;cases h
end
end Go.Proofs.YtfbgaddecbiimaaGreatDoor.E
end
section
namespace Go.Proofs.YtfbgaddecbiimaaGreatDoor.E
open Go.RowKit Go.Proofs.YtfbgaddecbiimaaGreatDoorW.PrintWords Go.Proofs.YtfbgaddecbiimaaGreatDoorW.PrintMore Go.Proofs.YtfbgaddecbiimaaGreatDoor.V
set_option linter.unusedVariables false
section
variable {T:Tab} {X:Ctx} {F nt:Nat}
theorem sa {P:Program} {c:Code} {W:St} {Q:mv} (h:Sim P X c W (fun e W'=>∃ W2,(∀ a w,Rel X W' a w→Rel X W2 a w)∧Q e W2)):Sim P X c W Q:=fun a w r =>
 Code.wp_mono (fun e a w ⟨S',⟨W2,h1,h2⟩,r'⟩=>⟨W2,h2,h1 a w r'⟩) (h a w r)
theorem pY (hT:cN T=true) {S:ES} {W:St} (hs:Sub S W) {x:ResultVar} {v:Val} {t:Ty} {y:t.den} (h:zM T S x=some v) (hy:coe t v=some y):kb T.P W x (t.pv y):=by
 cases x with
 | tmp u=>exact .tmp (hs.env u v _ h (dV hy))
 | cell u ty =>
  simp only [zM] at h
  split at h
  ·rename_i k c2 hk hc2
   split at h
   ·rename_i e c z hrow
    split at h
    ·rename_i z' hz hna
     cases h
     obtain ⟨rfl,rfl⟩:=cA hz
     obtain ⟨rfl,rfl⟩:=cA hy
     have hM:=ir hT hc2
     have hev:W.env u=some (.po k 0):=hs.env u _ _ hk rfl
     have hrw:W.rows k=some ⟨e,c.rsz,c.rn,c.enc y⟩:=by rw [hs.rows,hrow];rfl
     obtain ⟨ds,hu,hd⟩:=hM.und
     cases hag:c.ru with
     | true =>
      have hst:c.isSt=true:=by cases c<;>first | rfl | (cases hag;done) | (cases hna;done)
      obtain ⟨fs,rfl⟩:=rF hd hst
      obtain ⟨inf,h1,h2,_⟩:=hM.info
      have:=kb.agg (S:=W) (off:=0) hev hu h1 hrw (by rw [Nat.zero_add,h2];show c.sz≤(c.enc y).length;rw [bf];exact Nat.le_refl _)
      rw [List.drop_zero,h2,List.take_of_length_le (by show (c.enc y).length≤_;rw [bf];exact Nat.le_refl _)] at this
      rw [ot hag]
      exact this
     | false =>
      obtain ⟨cc,h1,h2⟩:=oq hag y
      rw [h2]
      have hp:=iF hd hag
      refine .cell (ds:=ds) hev hu ?_ hrw (by show (c.enc y)[0]?=_;rw [h1];rfl)
      cases ds<;>first | rfl | cases hp
    ·cases h
   ·rename_i e fs hrow
    split at h
    ·rename_i z hz
     cases h
     obtain ⟨rfl,rfl⟩:=cA hy
     have hM:=ir hT hc2
     have hev:W.env u=some (.po k 0):=hs.env u _ _ hk rfl
     obtain ⟨e1,e2,hag⟩:=qW _ _ _ hz
     have hrw:W.rows k=some ⟨e,fsz fs,1,dT fs⟩:=by rw [hs.rows,hrow];rfl
     obtain ⟨ds,hu,hd⟩:=hM.und
     obtain ⟨sf,rfl⟩:=rF hd (by cases c2<;>first | rfl | (cases fs<;>cases hz))
     obtain ⟨inf,h1,h2,_⟩:=hM.info
     have:=kb.agg (S:=W) (off:=0) hev hu h1 hrw (by rw [Nat.zero_add,h2];show _≤(dT fs).length;rw [bY,e2];exact Nat.le_refl _)
     rw [List.drop_zero,h2,List.take_of_length_le (by show (dT fs).length≤_;rw [bY,e2];exact Nat.le_refl _)] at this
     rw [ot hag,← e1]
     exact this
    ·cases h
   ·cases h
  ·cases h
theorem Ad (hT:cN T=true) {S:ES} {W:St} (hs:Sub S W) {b:Bool} {t:Ty} {l:List ResultVar} {r:t.den} (h:qZ T S b t l=some r):∃ p,(tZ b t r).pv=some p∧fv T.P W l p:=by
 cases b with
 | false =>
  simp only [qZ] at h
  split at h
  ·split at h
   ·rename_i v hv
    exact ⟨_,rfl,.one (pY hT hs hv h) (ia _ _)⟩
   ·cases h
  ·cases h
 | true =>
  have cons:∀ {t:Ty} {x:ResultVar} {l:List ResultVar} {r:t.den},yk T S t (x :: l)=some r→∃ a b,∃ (y:a.den) (z:b.den),(⟨t,r⟩:Σ t:Ty,t.den)=⟨.pair a b,(y,z)⟩∧(∃ v,zM T S x=some v∧coe a v=some y)∧yk T S b l=some z:=by
   intro t x l r h
   cases t with
   | pair a b =>
    simp only [yk] at h
    split at h
    ·rename_i v hv
     split at h
     ·rename_i y z hy hz
      cases h
      exact ⟨a,b,y,z,rfl,⟨v,hv,hy⟩,hz⟩
     ·cases h
    ·cases h
   | _=>cases h
  have nil:∀ {t:Ty} {r:t.den},yk T S t []=some r→∃ e:t = .unit,True:=by
   intro t r h
   cases t<;>first | exact ⟨rfl,trivial⟩ | cases h
  simp only [qZ] at h
  split at h
  ·cases h
  ·cases h
  ·rename_i hn1 hn2
   match l,h,hn1,hn2 with
   | [],h,_,_ =>
    obtain ⟨rfl,_⟩:=nil h
    exact ⟨_,rfl,.zero⟩
   | [x],h,hn1,_=>exact absurd rfl (hn1 x)
   | [x,y],h,_,_ =>
    obtain ⟨a,b,y1,z1,ev1,⟨v1,g1,g2⟩,h2⟩:=cons h;cases ev1
    obtain ⟨a2,b2,y2,z2,ev2,⟨v2,g3,g4⟩,h3⟩:=cons h2;cases ev2
    obtain ⟨rfl,_⟩:=nil h3
    exact ⟨_,rfl,.two (pY hT hs g1 g2) (pY hT hs g3 g4) (ia _ _) (ia _ _)⟩
   | [x,y,z],h,_,_ =>
    obtain ⟨a,b,y1,z1,ev1,⟨v1,g1,g2⟩,h2⟩:=cons h;cases ev1
    obtain ⟨a2,b2,y2,z2,ev2,⟨v2,g3,g4⟩,h3⟩:=cons h2;cases ev2
    obtain ⟨a3,b3,y3,z3,ev3,⟨v3,g5,g6⟩,h4⟩:=cons h3;cases ev3
    obtain ⟨rfl,_⟩:=nil h4
    exact ⟨_,rfl,.three (pY hT hs g1 g2) (pY hT hs g3 g4) (pY hT hs g5 g6) (ia _ _) (ia _ _) (ia _ _)⟩
   | x :: y :: z :: u :: l,h,_,hn2=>exact absurd rfl (hn2 x y z u l)
theorem iV:∀ (l:List ResultVar) (S:ES),∀ a w,Rel X S.st a w→Rel X (fm S l).st a w
 | [],S,a,w,h=>h
 | .tmp t :: l,S,a,w,h=>iV l _ a w (ej _ _ a w h)
 | .cell _ _ :: l,S,a,w,h=>iV l _ a w (ej _ _ a w h)
theorem kI:∀ (vs:List Val) (i:Nat),∀ t v,find (xt i vs) t=some v→∃ j,t=i+j∧vs[j]?=some v
 | [],i,t,v,h=>by cases h
 | x :: vs,i,t,v,h=>by
  simp only [xt,find] at h
  split at h
  ·rename_i hb
   cases h
   exact ⟨0,beq_true hb,rfl⟩
  ·obtain ⟨j,e1,e2⟩:=kI vs (i+1) t v h
   exact ⟨j+1,by omega,by simpa using e2⟩
structure OrcOk (T:Tab) (orc:List (Nat×Orc T)):Prop where
 fn:∀ g o call k vs r,find orc g=some o→yE T g = .no→ie T call→o.g call k vs=some r→eB T.P g∧∃ p,(tZ (T.cC g) o.t r).pv=some p∧V.Fn T.P g (vs.map mr) p
 low:∀ g o,find orc g=some o→real g=g
 no:∀ g,yE T g≠.no→find orc g=none
 hook:xo T
theorem pf (hN:∀ (f:Nat) (fn:Func),T.P.funcs[f]?=some fn→fn.name≠"runtime.NumGoroutine") {f:Nat} {fn:Func} {c:Code} (h:T.P.funcs[f]?=some fn) (hb:fn.body=some c):eB T.P f:=⟨fn,h,hN f fn h,by rw [hb];exact fun e=>by cases e⟩
theorem wV {orc:List (Nat×Orc T)} (hT:cN T=true) (hO:OrcOk T orc) (hmix:T.P.follows .mixedOrders=true) (hN:∀ (f:Nat) (fn:Func),T.P.funcs[f]?=some fn→fn.name≠"runtime.NumGoroutine"):∀ k,ie T (fn T orc k)
 | 0=>⟨fun g vs r _ h=>(by cases h),fun g j e vs r _ h=>(by cases h),fun g j e vs r v c2 y2 _ h=>(by cases h),hO.hook⟩
 | k+1=>by
  have ih:=wV hT hO hmix hN k
  refine ⟨fun g vs r hl h=>?_,fun g j e vs r hl h=>?_,fun g j e vs r v c2 y2 hl h hout=>?_,hO.hook⟩
  ·simp only [fn] at h
   split at h
   ·rename_i o ho
    split at h
    ·rename_i q hq
     have key:∀ (t:Ty) (e:o.t=t) (r:t.den),e ▸ o.g (fn T orc k) k vs=some r→∃ r':o.t.den,o.g (fn T orc k) k vs=some r'∧∀ b,(tZ b o.t r').pv=(tZ b t r).pv:=by
      intro t e r h
      subst e
      exact ⟨r,h,fun _=>rfl⟩
     obtain ⟨r',h1,h2⟩:=key _ q.down r h
     obtain ⟨g1,p,g2,g3⟩:=hO.fn g o _ k vs r' ho hl ih h1
     have hr:=hO.low g o ho
     exact ⟨by rw [hr];exact g1,p,by rw [← h2];exact g2,by rw [hr];exact g3⟩
    ·cases h
   ·split at h
    ·rename_i f hf
     unfold body at h
     split at h
     ·cases h
     ·rename_i c hb
      split at h
      ·cases h
      ·rename_i hlen
       simp only [hl] at h
       have main:∀ X:Ctx,X.nt=f.ntmps→Sim T.P X c ⟨xa (vs.map mr),nr⟩ (fun e W=>(e = .ret∨e = .normal)∧∃ W2,(∀ a w,Rel X W a w→Rel X W2 a w)∧∃ p,(tZ (T.cC g) (T.out g) r).pv=some p∧fv T.P W2 f.results.toList p):=by
        intro X hX
        refine j4 hT ih (fun h=>by simp only [oV,hl] at h;cases h) hmix hX c ⟨xt 0 vs,[]⟩ _ r h _ _ ⟨fun t v p h1 h2=>?_,fun k=>rfl⟩ (fun e S' W' h1 h2=>?_)
        ·obtain ⟨j,e1,e2⟩:=kI vs 0 t v h1
         rw [Nat.zero_add] at e1
         subst e1
         show (vs.map mr)[t]?=some p
         rw [List.getElem?_map,e2]
         simp only [Option.map_some,mr,h2,Option.getD_some]
        ·have fin:qZ T (fm S' f.results.toList) (T.cC g) (T.out g) f.results.toList=some r→∃ W2,(∀ a w,Rel X W' a w→Rel X W2 a w)∧∃ p,(tZ (T.cC g) (T.out g) r).pv=some p∧fv T.P W2 f.results.toList p:=by
          intro h3
          obtain ⟨p,g1,g2⟩:=Ad hT (mC (fm S' f.results.toList)) h3
          exact ⟨_,fun a w hr=>iV _ S' a w (iH h1 a w hr),p,g1,g2⟩
         cases e with
         | ret=>exact ⟨.inl rfl,fin h2⟩
         | normal=>exact ⟨.inr rfl,fin h2⟩
         | _=>cases h2
       obtain ⟨p,hp⟩:=zL (T.cC g) (T.out g) r
       refine ⟨pf hN hf hb,p,hp,bO hf hb (by rw [List.length_map];exact Nat.le_of_ble_eq_true hlen) (fun X hX=>sa (qJ (main X hX) (fun e W ⟨h1,W2,h2,p',h3,h4⟩=>⟨W2,h2,h1,?_⟩)))⟩
       rw [hp] at h3
       cases h3
       exact h4
    ·cases h
  ·simp only [fn,hO.no g (by rw [hl];exact fun e=>by cases e)] at h
   split at h
   ·rename_i f hf
    unfold body at h
    split at h
    ·cases h
    ·rename_i c hb
     split at h
     ·cases h
     ·rename_i hlen
      simp only [hl] at h
      split at h
      ·rename_i c0 y0 hv0 hsev
       split at h
       ·cases h
       ·cases h
       rename_i qo hqo hone
       have hjl:j<vs.length:=(List.getElem?_eq_some_iff.1 hv0).1
       have hlen':(cJ j vs).length≤f.ntmps:=by
        simp only [cJ,List.length_set,List.length_map]
        exact Nat.le_of_ble_eq_true hlen
       have fin:∀ S:ES,kA e S f.results.toList (T.out g)=some r→∃ y2:List c0.den,(⟨T.out g,r⟩:Σ t:Ty,t.den)=⟨.list c0,y2⟩∧∃ u k,f.results.toList=[.tmp u]∧find S.env u=some (.own k)∧find S.rows k=some (.arr e c0 y2)∧Nat.ble opened k=false:=by
        intro S hS
        have hq:=qo.down
        clear hqo
        generalize T.out g=t at r hS hq
        subst hq
        simp only [kA] at hS
        split at hS
        ·rename_i u hrs
         split at hS
         ·rename_i k hek
          split at hS
          ·rename_i e' c' l' hrow hop
           split at hS
           ·rename_i he
            obtain ⟨ec,hl2⟩:=cA hS
            cases ec
            have hl3:r=l':=hl2
            subst hl3
            have:=beq_true he
            subst this
            exact ⟨r,rfl,u,k,hrs,hek,hrow,hop⟩
           ·cases hS
          ·cases hS
         ·cases hS
        ·cases hS
       have main:∀ X:Ctx,X.nt=f.ntmps→(∀ v,X.pin v)→Sim T.P X c ⟨xa (cJ j vs),cH (cQ.arr e c0 y0).row⟩ (fun ee W=>(ee = .ret∨ee = .normal)∧∃ y2:List c0.den,(⟨T.out g,r⟩:Σ t:Ty,t.den)=⟨.list c0,y2⟩∧∃ u k,f.results.toList=[.tmp u]∧Nat.ble opened k=false∧W.env u=some (.own k)∧W.rows k=some (cQ.arr e c0 y2).row):=by
        intro X hX hpin
        refine j4 hT ih (fun _=>hpin) hmix hX c ⟨(j,.own cS) :: xt 0 vs,[(cS,.arr e c0 y0)]⟩ _ r h _ _ ⟨fun t u p h1 h2=>?_,fun k=>?_⟩ (fun ee S' W' h1 h2=>?_)
        ·show (cJ j vs)[t]?=some p
         simp only [find] at h1
         split at h1
         ·rename_i hb
          cases h1
          cases h2
          rw [beq_true hb]
          simp only [cJ,hv0]
          rw [List.getElem?_set_self (by rw [List.length_map];exact hjl)]
          rfl
         ·rename_i hb
          obtain ⟨m,e1,e2⟩:=kI vs 0 t u h1
          rw [Nat.zero_add] at e1
          subst e1
          simp only [cJ]
          rw [List.getElem?_set_ne (fun e=>beq_false hb e.symm),List.getElem?_map,e2]
          simp only [Option.map_some,mr,h2,Option.getD_some]
        ·simp only [find,cH]
         by_cases ck:k=cS
         ·subst ck
          rw [if_pos rfl,Nat.beq_refl]
          rfl
         ·rw [if_neg ck]
          have:Nat.beq k cS=false:=by
           cases hb:Nat.beq k cS with
           | false=>rfl
           | true=>exact absurd (beq_true hb) ck
          rw [this]
          rfl
        ·have go:kA e S' f.results.toList (T.out g)=some r→∃ y2:List c0.den,(⟨T.out g,r⟩:Σ t:Ty,t.den)=⟨.list c0,y2⟩∧∃ u k,f.results.toList=[.tmp u]∧Nat.ble opened k=false∧W'.env u=some (.own k)∧W'.rows k=some (cQ.arr e c0 y2).row:=by
          intro h3
          obtain ⟨y2,g1,u,k,g2,g3,g4,g5⟩:=fin S' h3
          exact ⟨y2,g1,u,k,g2,g5,h1.env u _ _ g3 rfl,by rw [h1.rows,g4];rfl⟩
         cases ee with
         | ret=>exact ⟨.inl rfl,go h2⟩
         | normal=>exact ⟨.inr rfl,go h2⟩
         | _=>cases h2
       have hq:=qo.down
       obtain ⟨y2,hy2⟩:∃ y2:List c0.den,(⟨T.out g,r⟩:Σ t:Ty,t.den)=⟨.list c0,y2⟩:=by
        clear hqo main fin h
        generalize T.out g=t at r hq
        subst hq
        exact ⟨r,rfl⟩
       obtain ⟨u,hu⟩:∃ u,f.results.toList=[.tmp u]:=by
        generalize f.results.toList=rs at hone
        unfold oneTmp at hone
        split at hone
        ·exact ⟨_,rfl⟩
        ·cases hone
       ·refine ⟨pf hN hf hb,hsev,c0,y0,y2,hv0,hy2,yK (t:=u) hf hb hlen' (gu hu) (fun X hX hpin=>qJ (main X hX hpin) (fun ee W ⟨h1,y3,h2,u',k,h3,h4,h5,h6⟩=>⟨h1,k,h4,?_,?_⟩))⟩
        ·rw [hu] at h3
         cases h3
         exact h5
        ·rw [hy2] at h2
         cases h2
         exact h6
      ·cases h
   ·cases h
  ·simp only [fn,hO.no g (by rw [hl];exact fun e=>by cases e)] at h
   split at h
   ·rename_i f hf
    unfold body at h
    split at h
    ·cases h
    ·rename_i c hb
     split at h
     ·cases h
     ·rename_i hlen
      simp only [hl] at h
      split at h
      ·rename_i c0 y0 hv0
       split at h
       ·cases h
       rename_i hfit
       have hcc:c0=c2:=by
        generalize T.out g=t at r hout hfit
        cases t with
        | pair a c1 =>
         simp only [outV,Option.some.injEq,Prod.mk.injEq] at hout
         have h2:=hout.2
         cases h2
         simp only [Ae] at hfit
         cases hq:kH c0 c2 with
         | none=>rw [hq] at hfit;cases hfit
         | some q=>exact q.down
        | _=>cases hout
       have hlen':(cJ j vs).length≤f.ntmps:=by
        simp only [cJ,List.length_set,List.length_map]
        exact Nat.le_of_ble_eq_true hlen
       have hjl:j<vs.length:=(List.getElem?_eq_some_iff.1 hv0).1
       have fin:∀ (S:ES),kz T (T.cC g) e c0 f.results.toList S (T.out g)=some r→c0=c2∧(∃ p,v.pv=some p∧fv T.P S.st f.results.toList p)∧S.st.rows cS=some (pz e c2 y2).row:=by
        intro S hS
        generalize T.out g=t at r hout hS
        cases t with
        | pair a c1 =>
         simp only [outV,Option.some.injEq,Prod.mk.injEq] at hout
         obtain ⟨rfl,h2⟩:=hout
         cases h2
         simp only [kz] at hS
         split at hS
         ·rename_i q x r0 hq hx hrow
          split at hS
          ·rename_i z hz
           cases hS
           refine ⟨q.down,Ad hT (mC S) hx,?_⟩
           simp only [ES.st,hrow,Option.map_some,tw hz]
          ·cases hS
         ·cases hS
        | _=>cases hout
       have main:∀ X:Ctx,X.nt=f.ntmps→Sim T.P X c ⟨xa (cJ j vs),cH (pz e c0 y0).row⟩ (fun ee W=>(ee = .ret∨ee = .normal)∧∃ W2,(∀ a w,Rel X W a w→Rel X W2 a w)∧c0=c2∧(∃ p,v.pv=some p∧fv T.P W2 f.results.toList p)∧W2.rows cS=some (pz e c2 y2).row):=by
        intro X hX
        refine j4 hT ih (fun h=>by simp only [oV,hl] at h;cases h) hmix hX c ⟨(j,lval c0) :: xt 0 vs,[(cS,pz e c0 y0)]⟩ _ r h _ _ ⟨fun t u p h1 h2=>?_,fun k=>?_⟩ (fun ee S' W' h1 h2=>?_)
        ·show (cJ j vs)[t]?=some p
         simp only [find] at h1
         split at h1
         ·rename_i hb
          cases h1
          rw [lval_pv c0 y0] at h2
          cases h2
          rw [beq_true hb]
          simp only [cJ,hv0]
          rw [List.getElem?_set_self (by rw [List.length_map];exact hjl)]
         ·rename_i hb
          obtain ⟨m,e1,e2⟩:=kI vs 0 t u h1
          rw [Nat.zero_add] at e1
          subst e1
          simp only [cJ]
          rw [List.getElem?_set_ne (fun e=>beq_false hb e.symm),List.getElem?_map,e2]
          simp only [Option.map_some,mr,h2,Option.getD_some]
        ·simp only [find,cH]
         by_cases ck:k=cS
         ·subst ck
          rw [if_pos rfl,Nat.beq_refl]
          rfl
         ·rw [if_neg ck]
          have:Nat.beq k cS=false:=by
           cases hb:Nat.beq k cS with
           | false=>rfl
           | true=>exact absurd (beq_true hb) ck
          rw [this]
          rfl
        ·have go:kz T (T.cC g) e c0 f.results.toList (fm S' f.results.toList) (T.out g)=some r→∃ W2,(∀ a w,Rel X W' a w→Rel X W2 a w)∧c0=c2∧(∃ p,v.pv=some p∧fv T.P W2 f.results.toList p)∧W2.rows cS=some (pz e c2 y2).row:=fun h3=>⟨_,fun a w hr=>iV _ S' a w (iH h1 a w hr),fin _ h3⟩
         cases ee with
         | ret=>exact ⟨.inl rfl,go h2⟩
         | normal=>exact ⟨.inr rfl,go h2⟩
         | _=>cases h2
       obtain ⟨p,hp⟩:∃ p,v.pv=some p:=by
        generalize T.out g=t at r hout
        cases t with
        | pair a c1 =>
         simp only [outV,Option.some.injEq,Prod.mk.injEq] at hout
         rw [← hout.1]
         exact zL _ _ _
        | _=>cases hout
       subst hcc
       refine ⟨pf hN hf hb,p,hp,y0,hv0,mf hf hb hlen' (lrow_sz e c0 y2 y0) (fun X hX=>sa (qJ (main X hX) (fun ee W ⟨h1,W2,h2,_,⟨p',h3,h4⟩,h5⟩=>⟨W2,h2,h1,?_,h5⟩)))⟩
       rw [hp] at h3
       cases h3
       exact h4
      ·cases h
   ·cases h
end
end Go.Proofs.YtfbgaddecbiimaaGreatDoor.E
end
section
namespace Go.Proofs.YtfbgaddecbiimaaGreatDoor.E
open Go.RowKit Go.Proofs.YtfbgaddecbiimaaGreatDoorW.PrintWords Go.Proofs.YtfbgaddecbiimaaGreatDoorW.PrintMore Go.Proofs.YtfbgaddecbiimaaGreatDoor.V Go.WideShapes
set_option linter.unusedVariables false
def Fine:(c:Ty)→c.den→Prop
 | .int k,n=>(Lit.int k n).wf=true
 | .str,s=>s.size≤maxLen
 | .list e,l=>l.length≤maxLen∧∀ x∈l,Fine e x
 | .pair a b,x=>Fine a x.1∧Fine b x.2
 | _,_=>True
mutual
def deep (T:Tab):Nat→TypeId→Ty→Bool
 | 0,_,_=>false
 | n+1,t,c=>(match find T.ty t with
  | some c'=>(kH c' c).isSome
  | none=>false)&&(match c with
  | .list c=>match elc T t with
   | some (e,c')=>(kH c' c).isSome&&ga c&&deep T n e c
   | none=>false
  | .pair a b=>match T.P.underlying t with
   | some (.struct fs)=>xh T n fs.toList (.pair a b)
   | _=>false
  | .int _=>true
  | .bool=>true
  | .str=>true
  | _=>false)
def xh (T:Tab):Nat→List Field→Ty→Bool
 | 0,_,_=>false
 | n+1,f :: fs,.pair a b=>deep T n f.type a&&xh T n fs b
 | _+1,[],.unit=>true
 | _,_,_=>false
end
section
variable {T:Tab} {H:Type} {enc:TypeId×Value→H} {w:World} {base:Nat} {spare:Nat→Bool} {held:Bool}
def nd (w:World) (cs:List Value) (ds:List CV):Prop:=cs.length=ds.length∧∀ i (h:i<ds.length),Den w (.of fun b=>b<w.heap.size) (cs.getD i undef) ds[i]
theorem ty_sz (hT:cN T=true) {t:TypeId} {c:Ty} (h:find T.ty t=some c):T.P.cellsOf t=c.sz:=by
 obtain ⟨inf,h1,h2,_⟩:=(ir hT h).info
 simp only [Program.cellsOf,h1,Option.map_some,Option.getD_some,h2]
theorem xj {a:Addr} {n:Nat} {l:List Value} (h:w.cells? base a n=some l):l.length=n∧∀ i,i<n→w.cell? (a.add i)=some (l.getD i undef):=by
 unfold World.cells? at h
 split at h
 ·have key:∀ (js:List Nat) (l:List Value),js.mapM (fun i=>w.cell? (a.add i))=some l→l.length=js.length∧∀ i (hi:i<js.length),w.cell? (a.add js[i])=some (l.getD i undef):=by
   intro js
   induction js with
   | nil=>intro l h;simp at h;subst h;exact ⟨rfl,fun i hi=>by simp at hi⟩
   | cons j js ih =>
    intro l h
    rw [List.mapM_cons] at h
    simp only [Option.bind_eq_bind,Option.pure_def,Option.bind_eq_some_iff] at h
    obtain ⟨v,h1,l',h2,h3⟩:=h
    cases h3
    obtain ⟨g1,g2⟩:=ih l' h2
    refine ⟨by simp [g1],fun i hi=>?_⟩
    cases i with
    | zero=>exact h1
    | succ i=>simpa using g2 i (by simpa using hi)
  obtain ⟨g1,g2⟩:=key _ l h
  refine ⟨by simpa using g1,fun i hi=>?_⟩
  have:=g2 i (by simpa using hi)
  simpa using this
 ·cases h
theorem Bm {a:Addr} {v:Value} (h:w.cell? a=some v):a.spot=none∧a.block<w.heap.size:=by
 unfold World.cell? at h
 split at h
 ·rename_i c e f hb
  split at h
  ·cases h
  ·rename_i hs
   refine ⟨by simpa using hs,?_⟩
   exact (Array.getElem?_eq_some_iff.1 hb).1
 ·cases h
theorem yM {cs cs':List Value} {ds ds':List CV} (h:nd w cs ds) (h':nd w cs' ds'):nd w (cs++cs') (ds++ds'):=by
 refine ⟨by rw [List.length_append,List.length_append,h.1,h'.1],fun i hi=>?_⟩
 rw [List.length_append] at hi
 by_cases c:i<ds.length
 ·rw [List.getElem_append_left c]
  have:=h.2 i c
  rw [List.getD_eq_getElem?_getD] at this ⊢
  rw [List.getElem?_append_left (by rw [h.1];exact c)]
  exact this
 ·rw [List.getElem_append_right (by omega)]
  have:=h'.2 (i-ds.length) (by omega)
  rw [List.getD_eq_getElem?_getD] at this ⊢
  rw [List.getElem?_append_right (by rw [h.1];omega),h.1]
  exact this
theorem trod_den (hT:cN T=true):∀ (fuel:Nat) (n:Nat) (t:TypeId) (c:Ty) (cs:List Value) (x:DataW H×List MemPlace),deep T n t c=true→DataW.trod enc T.P w base spare held fuel t cs=some x→∃ y:c.den,Fine c y∧nd w cs (c.enc y):=by
 intro fuel
 induction fuel with
 | zero=>intro n t c cs x hd h;simp [DataW.trod] at h
 | succ fuel ih =>
  intro n t c cs x hd h
  cases n with
  | zero=>cases hd
  | succ n =>
   simp only [deep,Bool.and_eq_true] at hd
   obtain ⟨hd0,hd1⟩:=hd
   have hty:find T.ty t=some c:=by
    split at hd0
    ·rename_i c' hc
     cases hq:kH c' c with
     | none=>rw [hq] at hd0;cases hd0
     | some q=>rw [← q.down];exact hc
    ·cases hd0
   have hM:=ir hT hty
   have one:∀ (v:Value) (cv:CV),cs=[v]→Den w (.of fun b=>b<w.heap.size) v cv→nd w cs [cv]:=by
    intro v cv h1 h2
    subst h1
    refine ⟨rfl,fun i hi=>?_⟩
    have:i=0:=by simp at hi;exact hi
    subst this
    exact h2
   cases c with
   | int k =>
    obtain ⟨m,h1,h2,h3⟩:=DataW.trod_int hM.int h
    exact ⟨m,h3,one _ _ h1 (.lit _)⟩
   | bool =>
    obtain ⟨b,h1,h2⟩:=DataW.trod_bool hM.bool h
    exact ⟨b,trivial,one _ _ h1 (.lit _)⟩
   | str =>
    obtain ⟨b,h1,h2,h3⟩:=DataW.trod_string hM.str h
    exact ⟨b,h3,one _ _ h1 (.lit _)⟩
   | fn=>cases hd1
   | unit=>cases hd1
   | arr n e=>cases hd1
   | list c =>
    dsimp only at hd1
    split at hd1
    ·rename_i e c' he
     simp only [Bool.and_eq_true] at hd1
     obtain ⟨⟨hq,hs⟩,hdp⟩:=hd1
     have hcc:c'=c:=by
      cases hq':kH c' c with
      | none=>rw [hq'] at hq;cases hq
      | some q=>exact q.down
     subst hcc
     obtain ⟨hu,hMe,_⟩:=mh hT he
     have hsz:=(fb hs).2
     have hce:T.P.cellsOf e=c'.sz:=by
      obtain ⟨inf,h1,h2,_⟩:=hMe.info
      simp only [Program.cellsOf,h1,Option.map_some,Option.getD_some,h2]
     rcases DataW.trod_slice hu h with ⟨h1,_⟩ | ⟨a,len,cap,elems,rest,m,hfu,h1,_,hb,hl,hm,hlen,hel,_⟩
     ·exact ⟨[],⟨Nat.zero_le _,fun x hx=>by cases hx⟩,one _ _ h1 (.nil _ _ (fun _=>rfl))⟩
     ·cases hfu
      rw [hce] at hel
      have each:∀ i,i<len→∃ l y,w.cells? base (a.add (i*c'.sz)) c'.sz=some l∧Fine c' y∧nd w l (c'.enc y):=by
       intro i hi
       have:=hel i hi
       rw [List.getElem?_eq_getElem (by omega)] at this
       obtain ⟨l,g1,g2⟩:=Option.bind_eq_some_iff.1 this
       obtain ⟨y,g3,g4⟩:=ih n e c' l _ hdp g2
       exact ⟨l,y,g1,g3,g4⟩
      rcases Nat.eq_zero_or_pos len with h0 | h0
      ·subst h0
       exact ⟨[],⟨Nat.zero_le _,fun x hx=>by cases hx⟩,one _ _ h1 (.nil _ _ (fun h=>by cases h))⟩
      ·obtain ⟨l0,y0,k1,k2,k3⟩:=each 0 h0
       have hfirst:=(xj k1).2 0 hsz
       rw [Nat.zero_mul] at hfirst
       have e0:(a.add 0).add 0=a:=by simp [Addr.add]
       rw [e0] at hfirst
       obtain ⟨hspot,hblk⟩:=Bm hfirst
       have build:∀ m,m≤len→∃ (ys:List c'.den) (vs:Nat→Value),ys.length=m∧(∀ x∈ys,Fine c' x)∧∀ i (hi:i<(ys.flatMap c'.enc).length),w.cell? (a.add i)=some (vs i)∧Den w (.of fun b=>b<w.heap.size) (vs i) (ys.flatMap c'.enc)[i]:=by
        intro m
        induction m with
        | zero=>intro _;exact ⟨[],fun _=>undef,rfl,fun x hx=>(by cases hx),fun i hi=>by simp at hi⟩
        | succ m ihm =>
         intro hmle
         obtain ⟨ys,vs,g1,g2,g3⟩:=ihm (by omega)
         obtain ⟨l,y,g4,g5,g6⟩:=each m (by omega)
         obtain ⟨g7,g8⟩:=xj g4
         have hyl:(ys.flatMap c'.enc).length=m*c'.sz:=by rw [dA,g1]
         refine ⟨ys++[y],fun i=>if i<m*c'.sz then vs i else l.getD (i-m*c'.sz) undef,by simp [g1],fun x hx=>?_,fun i hi=>?_⟩
         ·rcases List.mem_append.1 hx with hx | hx
          ·exact g2 x hx
          ·rcases List.mem_singleton.1 hx with rfl;exact g5
         ·have hfl:(ys++[y]).flatMap c'.enc=ys.flatMap c'.enc++c'.enc y:=by simp
          have hi2:i<m*c'.sz+c'.sz:=by
           rw [hfl,List.length_append,hyl,bf] at hi
           exact hi
          by_cases ci:i<m*c'.sz
          ·have:=g3 i (by rw [hyl];exact ci)
           simp only [if_pos ci]
           refine ⟨this.1,?_⟩
           have e1:((ys++[y]).flatMap c'.enc)[i]=(ys.flatMap c'.enc)[i]'(by rw [hyl];exact ci):=by
            simp only [hfl]
            rw [List.getElem_append_left]
           rw [e1]
           exact this.2
          ·simp only [if_neg ci]
           have hlt:i-m*c'.sz<c'.sz:=by omega
           have e1:=g8 (i-m*c'.sz) hlt
           rw [V.add_add a hspot,show m*c'.sz+(i-m*c'.sz)=i by omega] at e1
           refine ⟨e1,?_⟩
           have e2:((ys++[y]).flatMap c'.enc)[i]=(c'.enc y)[i-m*c'.sz]'(by rw [bf];exact hlt):=by
            simp only [hfl]
            rw [List.getElem_append_right (by rw [hyl];omega)]
            simp only [hyl]
           rw [e2]
           exact g6.2 _ (by rw [bf];exact hlt)
       obtain ⟨ys,vs,g1,g2,g3⟩:=build len (Nat.le_refl _)
       refine ⟨ys,⟨by rw [g1];omega,g2⟩,one _ _ h1 ?_⟩
       rw [show ys.length=len from g1]
       exact .row a len cap _ vs hspot hblk hl (fun i hi=>(g3 i hi).1) (fun i hi=>(g3 i hi).2)
    ·cases hd1
   | pair a b =>
    dsimp only at hd1
    obtain ⟨fs,hu,hf⟩:=hM.st rfl
    simp only [hu] at hd1
    obtain ⟨xs,m,hfu,_,hlen,hxs,hall⟩:=DataW.trod_struct hu h
    cases hfu
    have key:∀ (fl:List Field) (n:Nat) (c:Ty) (off:Nat),xh T n fl c=true→fQ T.P fl c off=true→(∀ f∈fl,∃ y,DataW.trod enc T.P w base spare held fuel f.type ((cs.drop f.offset).take (T.P.cellsOf f.type))=some y)→off+c.sz=cs.length→∃ y:c.den,Fine c y∧nd w (cs.drop off) (c.enc y):=by
     intro fl
     induction fl with
     | nil =>
      intro n c off h1 h2 h3 h4
      cases c with
      | unit=>exact ⟨(),trivial,by simp [nd,Ty.enc,Ty.sz] at h4 ⊢;omega⟩
      | _=>cases h2
     | cons f fl ihf =>
      intro n c off h1 h2 h3 h4
      cases n with
      | zero=>cases h1
      | succ n =>
       cases c with
       | pair a b =>
        simp only [xh,Bool.and_eq_true] at h1
        simp only [fQ,Bool.and_eq_true] at h2
        obtain ⟨⟨⟨k1,k2⟩,k3⟩,k4⟩:=h2
        simp only [Ty.sz] at h4
        obtain ⟨y2,g1,g2⟩:=ihf n b (off+a.sz) h1.2 k4 (fun f' hf'=>h3 f' (List.mem_cons_of_mem _ hf')) (by omega)
        obtain ⟨z,hz⟩:=h3 f List.mem_cons_self
        have hsz:T.P.cellsOf f.type=a.sz:=by
         unfold vY at k3
         split at k3
         ·rename_i inf hi
          simp only [Program.cellsOf,hi,Option.map_some,Option.getD_some,beq_true k3]
         ·cases k3
        rw [hsz,beq_true k1] at hz
        obtain ⟨y1,g3,g4⟩:=ih n f.type a _ _ h1.1 hz
        refine ⟨(y1,y2),⟨g3,g1⟩,?_⟩
        have e1:cs.drop off=(cs.drop off).take a.sz++cs.drop (off+a.sz):=by
         rw [← List.drop_drop,List.take_append_drop]
        rw [e1]
        exact yM g4 g2
       | _=>cases h2
    obtain ⟨y,g1,g2⟩:=key fs.toList n (.pair a b) 0 hd1 hf (fun f hf'=>by
     obtain ⟨i,hi⟩:=List.getElem?_of_mem hf'
     rw [Array.getElem?_toList] at hi
     have:=hall i f hi
     rw [this,List.getElem?_eq_getElem (by rw [hxs];exact (Array.getElem?_eq_some_iff.1 hi).1)]
     exact ⟨_,rfl⟩) (by rw [hlen,Nat.zero_add];exact (ty_sz hT hty).symm)
    exact ⟨y,g1,g2⟩
theorem arg_den (hT:cN T=true) {base' n:Nat} {t:TypeId} {c:Ty} {v:Value} {d:DataW H} {ps:List MemPlace} (hd:deep T n t c=true) (hty:find T.ty t=some c) (hok:Value.okWide T.P w .any base' t v) (h:DataW.Trod enc T.P w base spare held t v d ps):∃ y:c.den,Fine c y∧dD w (.of fun b=>b<w.heap.size) nr nl v (c.pv y):=by
 obtain ⟨fuel,h⟩:=h
 obtain ⟨y,h1,h2⟩:=trod_den hT fuel n t c _ _ hd h
 refine ⟨y,h1,?_⟩
 have hM:=ir hT hty
 obtain ⟨ds,hu,hdd⟩:=hM.und
 cases hag:c.ru with
 | true =>
  obtain ⟨fs,rfl⟩:=rF hdd (by cases c<;>first | rfl | (cases hag;done) | (cases n<;>simp [deep] at hd))
  obtain ⟨cs,rfl,_⟩:=okWide_struct hu hok
  rw [ot hag]
  refine .ag (by simpa [Value.cells] using h2.1) (fun i hi=>?_)
  have:=h2.2 i hi
  simpa [Value.cells,Array.getD_eq_getD_getElem?,List.getD_eq_getElem?_getD] using this
 | false =>
  obtain ⟨cc,g1,g2⟩:=oq hag y
  rw [g1] at h2
  rw [g2]
  have hv:v.cells = #[v]:=by
   cases c with
   | int k=>obtain ⟨m,rfl⟩:=okWide_int hM.int hok;rfl
   | bool=>obtain ⟨m,rfl⟩:=okWide_bool hM.bool hok;rfl
   | str=>obtain ⟨m,rfl⟩:=okWide_string hM.str hok;rfl
   | list e=>obtain ⟨e',hu'⟩:=hM.list;obtain ⟨a,len,cap,rfl⟩:=okWide_slice hu' hok;rfl
   | fn =>
    cases n with
    | zero=>cases hd
    | succ n=>simp [deep] at hd
   | _=>cases hag
  have:=h2.2 0 (by simp)
  rw [hv] at this
  exact .cv (by simpa using this)
end
end Go.Proofs.YtfbgaddecbiimaaGreatDoor.E
end
section
namespace Go.Proofs.YtfbgaddecbiimaaGreatDoor.E
open Go.RowKit Go.Proofs.YtfbgaddecbiimaaGreatDoorW.PrintWords Go.Proofs.YtfbgaddecbiimaaGreatDoorW.PrintMore Go.Proofs.YtfbgaddecbiimaaGreatDoor.V
set_option linter.unusedVariables false
def sub:Code→List Nat→Code
 | c,[]=>c
 | .seq a b,n :: p=>match n with
  | 0=>sub a p
  | _=>sub b p
 | .cond _ a b,n :: p=>match n with
  | 0=>sub a p
  | _=>sub b p
 | .block _ c,_ :: p=>sub c p
 | .loop c,_ :: p=>sub c p
 | .scope c,_ :: p=>sub c p
 | c,_=>c
def kont (T:Tab) (F nt:Nat) (call:(g:Nat)→List Val→Option (T.out g).den) (n:Nat) {β:Type}:Code→List Nat→List Nat→(Exit→ES→Option β)→(Exit→ES→Option β)
 | _,[],_,K=>K
 | .seq a b,m :: p,ns,K=>match m with
  | 0=>kont T F nt call n a p ns fun e S'=>match e with
   | .normal=>code T F nt call n b (kj T F (fid b) S') K
   | e=>K e S'
  | _=>kont T F nt call n b p ns K
 | .cond _ a b,m :: p,ns,K=>match m with
  | 0=>kont T F nt call n a p ns K
  | _=>kont T F nt call n b p ns K
 | .block i c,_ :: p,ns,K=>kont T F nt call n c p ns fun e S'=>match e with
  | .exit j=>match Nat.beq j i with
   | true=>K .normal S'
   | false=>K (.exit j) S'
  | e=>K e S'
 | .scope c,_ :: p,ns,K=>kont T F nt call n c p ns fun e S'=>match e with
  | .goto _=>none
  | e=>K e S'
 | .loop c,_ :: p,m :: ns,K=>kont T F nt call n c p ns fun e S'=>match e with
  | .normal=>tv (kj T F (fid c)) (fun S K=>code T F nt call n c S K) m (kj T F (fid c) S') K
  | e=>K e S'
 | _,_,_,K=>K
def fin (T:Tab) (F:Nat) (rs:List ResultVar) (ln:Option (TypeId×Ty)):Exit→ES→Option (T.out F).den:=match ln with
 | none=>fun e S=>match e with
  | .ret=>qZ T (fm S rs) (T.cC F) (T.out F) rs
  | .normal=>qZ T (fm S rs) (T.cC F) (T.out F) rs
  | _=>none
 | some (te,.unit)=>fun e S=>match e with
  | .ret=>kA te S rs (T.out F)
  | .normal=>kA te S rs (T.out F)
  | _=>none
 | some (te,c0)=>fun e S=>match e with
  | .ret=>kz T (T.cC F) te c0 rs (fm S rs) (T.out F)
  | .normal=>kz T (T.cC F) te c0 rs (fm S rs) (T.out F)
  | _=>none
def codeOf (f:Func):Code:=match f.body with
 | some c=>c
 | none=>.skip
def lAt (T:Tab) (orc:List (Nat×Orc T)) (k F:Nat) (f:Func) (ln:Option (TypeId×Ty)) (p:List Nat) (m:Nat) (ns:List Nat) (S:ES):Option (T.out F).den:=match sub (codeOf f) p with
 | .loop c=>tv (kj T F (fid c)) (fun S K=>code T F f.ntmps (fn T orc k) k c S K) m S (kont T F f.ntmps (fn T orc k) k (codeOf f) p ns (fin T F f.results.toList ln))
 | _=>none
end Go.Proofs.YtfbgaddecbiimaaGreatDoor.E
end
section
namespace Go.Proofs.YtfbgaddecbiimaaGreatDoor.E
open Go.RowKit Go.Proofs.YtfbgaddecbiimaaGreatDoorW.PrintWords Go.Proofs.YtfbgaddecbiimaaGreatDoorW.PrintMore Go.Proofs.YtfbgaddecbiimaaGreatDoor.V
set_option linter.unusedVariables false
variable {T:Tab}
def orc0 (ct:Ty) (f:Nat→Option ct.den):Orc T:=⟨ct,fun _ k vs=>match vs with
 | []=>f k
 | _=>none⟩
def yq (c0 ct:Ty) (f:Nat→c0.den→Option ct.den):Orc T:=⟨ct,fun _ k vs=>match vs with
 | [x0]=>match coe c0 x0 with
  | some a0=>f k a0
  | none=>none
 | _=>none⟩
def pJ (c0 c1 ct:Ty) (f:Nat→c0.den→c1.den→Option ct.den):Orc T:=⟨ct,fun _ k vs=>match vs with
 | [x0,x1]=>match coe c0 x0,coe c1 x1 with
  | some a0,some a1=>f k a0 a1
  | _,_=>none
 | _=>none⟩
def orc3 (c0 c1 c2 ct:Ty) (f:Nat→c0.den→c1.den→c2.den→Option ct.den):Orc T:=⟨ct,fun _ k vs=>match vs with
 | [x0,x1,x2]=>match coe c0 x0,coe c1 x1,coe c2 x2 with
  | some a0,some a1,some a2=>f k a0 a1 a2
  | _,_,_=>none
 | _=>none⟩
structure cI (T:Tab) (x:Nat×Orc T):Prop where
 cS:yE T x.1 = .no
 callee:eB T.P x.1
 low:real x.1=x.1
 fn:∀ call k vs r,ie T call→x.2.g call k vs=some r→∃ p,(tZ (T.cC x.1) x.2.t r).pv=some p∧V.Fn T.P x.1 (vs.map mr) p
theorem orcOk_of {orc:List (Nat×Orc T)} (h:∀ x∈orc,cI T x) (hh:xo T:=by intro _ _ _ _ _ h;cases h):OrcOk T orc :=
 ⟨fun g o call k vs r h1 h2 h3 h4=>⟨(h _ (eJ h1)).callee,(h _ (eJ h1)).fn call k vs r h3 h4⟩,
  fun g o h1=>(h _ (eJ h1)).low,
  fun g h1=>by
   cases h2:find orc g with
   | none=>rfl
   | some o=>exact absurd (h _ (eJ h2)).cS h1,hh⟩
theorem fu {c:Ty} {v:Val} {x:c.den} (h:coe c v=some x):mr v=c.pv x:=by simp only [mr,dV h,Option.getD_some]
theorem fW {g:Nat} {c0 ct:Ty} {f:Nat→c0.den→Option ct.den} (hl:yE T g = .no) (hc:eB T.P g) (hf:∀ k a0 r,f k a0=some r→∃ p,(tZ (T.cC g) ct r).pv=some p∧V.Fn T.P g [c0.pv a0] p) (hr:real g=g:=by rfl):cI T (g,yq c0 ct f) :=
 ⟨hl,hc,hr,fun call k vs r _ h=>by
  simp only [yq] at h
  split at h
  ·split at h
   ·rename_i x0 a0 h0
    simp only [List.map_cons,List.map_nil,fu h0]
    exact hf k a0 r h
   ·cases h
  ·cases h⟩
theorem cZ {g:Nat} {c0 c1 ct:Ty} {f:Nat→c0.den→c1.den→Option ct.den} (hl:yE T g = .no) (hc:eB T.P g) (hf:∀ k a0 a1 r,f k a0 a1=some r→∃ p,(tZ (T.cC g) ct r).pv=some p∧V.Fn T.P g [c0.pv a0,c1.pv a1] p) (hr:real g=g:=by rfl):cI T (g,pJ c0 c1 ct f) :=
 ⟨hl,hc,hr,fun call k vs r _ h=>by
  simp only [pJ] at h
  split at h
  ·split at h
   ·rename_i x0 x1 _ _ a0 a1 h0 h1
    simp only [List.map_cons,List.map_nil,fu h0,fu h1]
    exact hf k a0 a1 r h
   ·cases h
  ·cases h⟩
theorem Ai {g:Nat} {c0 c1 c2 ct:Ty} {f:Nat→c0.den→c1.den→c2.den→Option ct.den} (hl:yE T g = .no) (hc:eB T.P g) (hf:∀ k a0 a1 a2 r,f k a0 a1 a2=some r→∃ p,(tZ (T.cC g) ct r).pv=some p∧V.Fn T.P g [c0.pv a0,c1.pv a1,c2.pv a2] p) (hr:real g=g:=by rfl):cI T (g,orc3 c0 c1 c2 ct f) :=
 ⟨hl,hc,hr,fun call k vs r _ h=>by
  simp only [orc3] at h
  split at h
  ·split at h
   ·rename_i x0 x1 x2 _ _ _ a0 a1 a2 h0 h1 h2
    simp only [List.map_cons,List.map_nil,fu h0,fu h1,fu h2]
    exact hf k a0 a1 a2 r h
   ·cases h
  ·cases h⟩
theorem ints_enc (k:IntKind) (l:List Int):l.flatMap (Ty.enc (.int k))=V.ints k l:=by
 induction l with
 | nil=>rfl
 | cons x l ih=>rw [List.flatMap_cons,ih];rfl
theorem dj (k:IntKind) (l:List Int):PV.ints k l=(Ty.list (.int k)).pv l:=congrArg (fun z=>PV.cv (.row l.length z)) (ints_enc k l).symm
end Go.Proofs.YtfbgaddecbiimaaGreatDoor.E
end
section
namespace Go.Proofs.YtfbgaddecbiimaaGreatDoor.E
open Go.RowKit Go.Proofs.YtfbgaddecbiimaaGreatDoor.V
set_option linter.unusedVariables false
def dW:List Int→List Int→Int
 | [],_=>0
 | _ :: _,[]=>0
 | x :: l,y :: m=>if x=y then dW l m else if x<y then -1 else 1
abbrev kd:Ty:=.pair (.list (.int .i64)) (.pair (.pair .bool (.pair (.list (.int .u32)) (.pair (.list (.int .u32)) .unit))) .unit)
def insM (x:kd.den):List kd.den→List kd.den
 | []=>[x]
 | y :: l=>match decide (dW y.1 x.1>0) with
  | true=>y :: insM x l
  | false=>x :: y :: l
def kO:List kd.den→List kd.den
 | []=>[]
 | x :: l=>insM x (kO l)
def farM (x:kd.den):List kd.den→Bool
 | []=>true
 | y :: l=>match Nat.beq x.1.length y.1.length with
  | true=>match decide (x.1=y.1) with
   | true=>false
   | false=>farM x l
  | false=>false
def okM:List kd.den→Bool
 | []=>true
 | x :: l=>match farM x l with
  | true=>okM l
  | false=>false
def sortO (l:List kd.den):Option (List kd.den):=match okM l,Nat.ble l.length 1000000000,Nat.ble (l.headD (Ty.zero kd)).1.length 1000000000 with
 | true,true,true=>some (kO l)
 | _,_,_=>none
def free (S:ES):List Nat→Bool
 | []=>true
 | d :: l=>match find S.env d with
  | none=>free S l
  | some _=>false
def zw (ts tb fs fc:Nat):List Oper→Option (Nat×List Nat)
 | [o1,o2,o3,o4,o5]=>match o5.op,o1.dst,o2.dst,o3.dst,o4.dst with
  | .call c,some d1,some d2,some d3,some d4=>match c.callee,c.args.toList,o1.op,o2.op,o3.op,o4.op,o1.guard,o2.guard,o3.guard,o4.guard,o5.guard with
   | .value (.func g),[.tmp b3,.tmp b4],.fieldAddr t1 (.tmp a) 1,.load t2 (.tmp b1),.makeInterface t3 (.tmp b2),.makeFunc (.func g2) xs ys,none,none,none,none,none=>match xs.toList,ys.toList with
    | [],[.tmp a2]=>match Nat.beq g fs&&(Nat.beq b3 d3&&(Nat.beq b4 d4&&(Nat.beq t1 tb&&(Nat.beq t2 ts&&(Nat.beq t3 ts&&(Nat.beq b1 d1&&(Nat.beq b2 d2&&(Nat.beq g2 fc&&Nat.beq a2 a)))))))),Nat.beq d3 d4,o5.dst with
     | true,false,some d5=>some (a,[d1,d2,d3,d4,d5])
     | _,_,_=>none
    | _,_=>none
   | _,_,_,_,_,_,_,_,_,_,_=>none
  | _,_,_,_,_=>none
 | _=>none
def qI (ts tb te fs fc:Nat) (ops:List Oper) (draw:Bool) (S:ES):Option Hk:=match draw,zw ts tb fs fc ops with
 | false,some (a,ds)=>match find S.env a,free S ds with
  | some (.po bo 0 []),true=>match find S.rows bo,Nat.ble opened bo with
   | some (.obox e [.v (.int .i64) n,.own k]),true=>match find S.rows k,Nat.beq e tb,Nat.beq bo k with
    | some (.arr e2 c l),true,false=>match Nat.beq e2 te,eF (a:=.list c) (.list kd) l with
     | true,some l2=>some ⟨.list kd,sortO l2,fun m=>⟨S.env,(k,.arr e2 kd m) :: S.rows⟩⟩
     | _,_=>none
    | _,_,_=>none
   | _,_=>none
  | _,_=>none
 | _,_=>none
def mapAt (tm ts:Nat):List Oper→Option ((Nat×Nat×Nat)×List Nat)
 | [o1,o2,o3,o4,o5]=>match o4.op,o5.op,o1.dst,o2.dst,o3.dst,o4.dst,o5.dst with
  | .call c,.mapUpdate t (.tmp b1) (.tmp b2) (.tmp b4),some d1,some d2,some d3,some d4,none=>match c.callee,c.args.toList,c.argTypes.toList,o1.op,o2.op,o3.op,o1.guard,o2.guard,o3.guard,o4.guard,o5.guard with
   | .builtin .len,[.tmp b3],[t3],.move (.tmp x),.move (.tmp y),.move (.tmp z),none,none,none,none,none=>match Nat.beq t tm&&(Nat.beq t3 ts&&(Nat.beq b1 d1&&(Nat.beq b2 d2&&(Nat.beq b3 d3&&Nat.beq b4 d4)))),Nat.beq d1 d2||(Nat.beq d1 d3||(Nat.beq d1 d4||(Nat.beq d2 d3||(Nat.beq d2 d4||Nat.beq d3 d4)))) with
    | true,false=>some ((x,y,z),[d1,d2,d3,d4])
    | _,_=>none
   | _,_,_,_,_,_,_,_,_,_,_=>none
  | _,_,_,_,_,_,_=>none
 | _=>none
def uZ (tm ts:Nat) (ops:List Oper) (draw:Bool) (S:ES):Option Hk:=match draw,mapAt tm ts ops with
 | false,some ((x,y,z),ds)=>match find S.env x,find S.env y,find S.env z,free S ds with
  | some (.mp l),some (.v .str s),some (.own k),true=>match find S.rows k with
   | some (.arr e c r)=>some ⟨.unit,some (),fun _=>⟨(x,.mp (V.rj l s r.length)) :: ub noMap S.env,S.rows⟩⟩
   | _=>none
  | _,_,_,_=>none
 | _,_=>none
def hookS (ts tb te fs fc tm:Nat) (ops:List Oper) (draw:Bool) (S:ES):Option Hk:=match qI ts tb te fs fc ops draw S with
 | some h=>some h
 | none=>uZ tm ts ops draw S
end Go.Proofs.YtfbgaddecbiimaaGreatDoor.E
end
section
namespace Go.Proofs.YtfbgaddecbiimaaGreatDoor.E
open Go.RowKit
abbrev cm:Ty:=(.pair .fn (.pair .fn .unit))
abbrev dX:Ty:=(.pair .str (.pair (.int .u64) .unit))
abbrev aE:Ty:=(.pair .bool (.pair (.list (.int .i64)) (.pair (.list (.int .i64)) .unit)))
abbrev aB:Ty:=(.pair .bool (.pair (.list (.int .u32)) (.pair (.list (.int .u32)) .unit)))
abbrev fZ:Ty:=(.pair (.int .i64) (.pair (.int .i64) (.pair .bool (.pair (.int .u8) .unit))))
abbrev aF:Ty:=(.pair (.list (.int .i64)) (.pair aB .unit))
abbrev ax:Ty:=(.pair (.arr 8 (.int .i64)) (.pair aE .unit))
abbrev aq:Ty:=(.pair (.int .i64) (.pair (.list aF) .unit))
def tyTab:List (Nat×Ty):=[(1,.fn),(2,(.int .i64)),(3,(.int .i64)),(4,.bool),(5,(.int .u8)),(6,(.int .u8)),(7,fZ),(8,fZ),(9,.str),(10,.str),(11,.str),(12,(.int .u64)),(13,dX),(14,dX),(21,(.int .i32)),(22,(.list aF)),(23,aq),(24,aq),(25,.fn),(26,.fn),(27,(.int .i64)),(29,.fn),(30,.fn),(31,.fn),(32,(.list (.int .u8))),(34,.fn),(36,.fn),(37,.fn),(38,(.list ax)),(39,(.list ax)),(40,.fn),(41,.fn),(42,.fn),(43,.fn),(44,.fn),(45,.fn),(46,.fn),(47,(.arr 8 (.int .i64))),(48,(.list (.int .i64))),(49,(.list (.int .i64))),(50,aE),(51,aE),(52,ax),(53,ax),(54,.fn),(55,.fn),(56,.fn),(57,(.list aB)),(58,(.list aE)),(59,(.list (.int .u32))),(60,aB),(61,aB),(62,.fn),(63,.fn),(65,.fn),(66,.fn),(67,.fn),(68,.fn),(69,.fn),(71,.fn),(72,.fn),(73,.fn),(74,.fn),(75,.fn),(76,.fn),(77,.fn),(78,.fn),(79,.fn),(80,.fn),(81,.fn),(83,.fn),(84,.fn),(85,.fn),(86,.fn),(87,.fn),(88,.fn),(90,.fn),(91,.fn),(92,.fn),(93,.fn),(94,(.list .str)),(95,aF),(96,aF),(97,.fn),(98,.fn),(99,.fn),(100,.fn),(101,.fn),(102,.fn),(103,.fn),(104,.fn),(105,.fn),(106,.fn),(107,.fn),(108,.fn),(109,.fn),(110,.fn),(111,.fn),(112,.fn),(113,.fn),(114,.fn),(115,.fn),(116,.fn),(117,.fn),(118,.fn),(119,.fn),(120,.fn),(121,.fn),(122,.fn),(123,.fn),(124,.fn),(125,.fn),(126,.fn),(127,.fn),(128,.fn),(129,.fn),(130,.fn),(131,.fn),(133,.fn),(134,(.list .bool)),(135,.fn),(136,.fn),(137,.fn),(143,.fn),(144,.fn),(146,.fn),(147,.fn),(148,.fn),(149,.fn),(150,.fn),(151,(.int .u32)),(152,.fn),(153,.fn),(154,.fn),(155,.fn),(156,(.int .u64)),(157,.fn),(159,.fn),(160,.fn),(161,.fn),(162,.fn),(163,.fn),(164,.fn),(166,.fn),(167,.fn),(168,.fn),(169,.fn),(170,.fn),(172,.fn),(173,(.list (.int .u64))),(174,.fn),(175,(.int .u64)),(177,.fn),(179,.fn),(180,.fn),(182,.fn),(184,.fn),(185,.fn),(187,.fn),(188,.fn),(190,.fn),(192,.fn),(193,.fn),(194,.fn),(195,.fn),(196,.fn),(197,(.arr 24 (.int .u8))),(199,.fn),(201,.fn),(202,.fn),(208,.fn),(211,(.arr 20 (.int .u64))),(212,(.arr 65 (.int .u8))),(213,.fn),(214,.fn),(215,(.int .u64)),(218,.fn),(219,.fn),(220,.fn),(221,.fn),(222,.fn),(223,cm),(224,cm),(229,(.int .i64)),(235,(.arr 32 (.int .u8))),(236,(.arr 64 (.int .u8))),(237,(.int .u64))]
def elTab:List (Nat×Nat):=[(22,96),(32,5),(38,53),(39,53),(48,3),(49,3),(57,61),(58,51),(59,151),(94,9),(134,4),(173,175)]
def byTab:List (Nat×Nat):=[(3,8),(4,1),(5,1),(9,16),(51,56),(53,120),(61,56),(96,80),(151,4),(175,8)]
def parTab:List (Nat×List Ty):=[(3,[aq]),(4,[(.int .u8),(.list (.int .u8)),(.list (.int .u8))]),(5,[aq,(.int .i64)]),(6,[aq,aq,(.list aB)]),(7,[aq,aB,(.int .i64),(.int .i64)]),(8,[aq,aq,aB]),(9,[aq,aq,(.int .i64)]),(10,[aq,aq]),(11,[aq,aq,(.int .i64)]),(12,[]),(13,[aq,aq]),(14,[aq]),(15,[aq]),(16,[(.int .i64),(.list (.int .u8))]),(17,[aq]),(18,[aq,aq]),(19,[aq]),(20,[aq,(.list ax),(.int .i64)]),(21,[(.list ax),(.list ax)]),(22,[aq]),(23,[aq,(.int .i64),(.int .i64),(.int .i64)]),(24,[aq,(.int .i64)]),(25,[(.list ax)]),(26,[aE,aE]),(27,[]),(28,[(.list ax),(.int .i64)]),(29,[aB]),(30,[aB]),(31,[aq,(.list aB)]),(32,[aB]),(33,[aq,aq]),(34,[aB,aE]),(35,[(.list ax),(.list aE)]),(36,[aE,aE]),(37,[aE,aE]),(38,[aq]),(39,[(.int .i64),aB]),(40,[aE]),(41,[aq,(.int .i64)]),(42,[aq,(.int .i64),(.int .i64)]),(43,[aq,(.int .i64)]),(44,[(.int .i64),(.int .i64)]),(45,[(.list ax),(.int .i64)]),(46,[(.list ax),(.int .i64)]),(47,[(.int .i64)]),(48,[(.list ax),(.int .i64),(.int .i64)]),(49,[aq,aq]),(50,[aq,aB]),(51,[aq,aq]),(52,[(.list ax),(.list ax)]),(53,[(.list ax),(.list ax)]),(54,[(.list ax),aE]),(55,[aq,aq]),(56,[aq,(.int .i64),aq]),(57,[(.list ax),(.int .i64),(.list ax)]),(58,[aq,aq]),(59,[(.list ax),(.list ax)]),(60,[(.list ax),(.int .i64)]),(61,[aq]),(62,[aq]),(63,[aE]),(64,[(.int .i64)]),(65,[aq]),(66,[aB]),(67,[(.int .i64)]),(68,[(.list .str),.str]),(69,[aE]),(70,[aB,(.int .i64)]),(71,[aB]),(72,[(.list (.int .i64)),(.list (.int .i64))]),(73,[aB,(.int .i64)]),(74,[aq,aq]),(75,[aq,aq]),(76,[(.list ax),ax]),(77,[(.list ax),(.arr 8 (.int .i64)),aE]),(78,[aB,(.int .i64)]),(79,[aq,(.int .i64)]),(80,[(.arr 8 (.int .i64))]),(81,[aE]),(82,[aE,aE]),(83,[aB]),(84,[(.list (.int .u32))]),(85,[aB]),(86,[aq,(.list aB)]),(87,[(.list aF),(.list aF),.fn,.fn]),(88,[aF,aF]),(89,[aF,aF]),(90,[aB,aB]),(91,[aq]),(92,[aB,aB]),(93,[]),(94,[aE,(.int .i64)]),(95,[(.list (.int .i64)),(.list (.int .i64))]),(96,[.bool,(.list (.int .i64)),(.list (.int .i64))]),(97,[(.list (.int .i64)),(.list (.int .i64))]),(98,[(.list (.int .i64)),(.list (.int .i64))]),(99,[(.list (.int .i64)),(.list (.int .i64))]),(100,[aq]),(101,[aB]),(102,[(.int .i64),aB]),(103,[aq,(.int .i64)]),(104,[aq,(.int .i64)]),(105,[aq,(.int .i64),(.int .i64)]),(106,[aq,(.int .i64)]),(107,[(.int .i64),(.int .i64)]),(108,[aq,aq]),(109,[aq,aB]),(110,[aq,aq]),(111,[(.int .i64)]),(112,[]),(113,[aq,aq]),(114,[aq,aq]),(115,[(.list ax)]),(116,[aE,aE]),(117,[(.arr 8 (.int .i64)),(.arr 8 (.int .i64))]),(118,[(.list (.int .i64))]),(119,[(.int .i64)]),(121,[(.list (.int .u32))]),(123,[aB]),(125,[(.int .i64)]),(127,[(.list (.int .i64))]),(128,[(.list (.int .u32)),(.int .i64)]),(129,[(.list (.int .u32)),(.list (.int .u32))]),(130,[aq,aq]),(131,[aE]),(132,[(.list (.int .u32))]),(133,[(.list (.int .i64)),(.list (.int .i64))]),(134,[(.list (.int .i64)),(.int .i64),(.int .i64)]),(135,[]),(136,[aB,aB]),(137,[aB,(.int .i64)]),(138,[(.list (.int .u32)),(.list (.int .u32))]),(139,[(.list (.int .u32)),(.list (.int .u32))]),(140,[.bool,(.list (.int .u32)),(.list (.int .u32))]),(141,[(.list (.int .u32)),(.list (.int .u32))]),(142,[(.list (.int .u32)),(.list (.int .u32))]),(143,[aq]),(144,[(.list (.int .u32)),(.list (.int .u32))]),(145,[(.list (.int .i64)),(.int .i64)]),(146,[(.list (.int .i64))]),(147,[(.list (.int .i64)),(.list (.int .i64))]),(148,[(.list (.int .i64))]),(149,[(.list (.int .i64))]),(150,[aB]),(151,[(.int .i64)]),(152,[aq]),(153,[aB,aB]),(154,[aF,aF]),(155,[aq,aF]),(156,[(.list (.int .i64)),(.int .i64)]),(158,[(.list (.int .u32))]),(159,[(.int .u64)]),(160,[(.list (.int .u32)),(.list (.int .u32))]),(161,[(.list (.int .u32))]),(162,[(.int .u64),(.int .i64)]),(163,[aB]),(164,[(.int .i64),(.int .i64)]),(166,[(.list (.int .u32)),(.list (.int .u32))]),(167,[(.int .i64),(.list aF)]),(168,[(.list (.int .i64))]),(169,[(.list (.int .u32))]),(170,[(.list (.int .i64)),(.list (.int .i64))]),(171,[aB,aB]),(173,[(.list (.int .u32)),(.int .u32)]),(174,[(.int .u32)]),(175,[(.list (.int .u32)),(.int .i64)]),(176,[(.list (.int .u32)),(.list (.int .u32)),(.int .u64)]),(177,[(.list (.int .u32)),(.list (.int .u32))]),(178,[(.list (.int .u32)),(.int .i64)]),(179,[(.int .i64)]),(180,[(.int .u64)]),(181,[(.list (.int .u8)),(.int .u64)]),(182,[(.list (.int .u8)),(.int .u64),(.int .i64),.bool,.bool]),(183,[(.int .i64)]),(184,[(.list (.int .u32))]),(185,[(.list (.int .u32)),(.list (.int .u32)),(.int .i64),(.int .i64)]),(186,[(.list (.int .i64))]),(188,[(.int .i64),(.int .i64)]),(189,[aB]),(190,[(.int .u32)]),(191,[(.int .i64)]),(192,[(.int .u64)]),(193,[.bool]),(194,[(.int .i64)]),(195,[(.int .u64)]),(199,[(.int .u64)]),(200,[cm,(.int .i64),(.int .i64),(.int .i64)]),(201,[(.int .u32)]),(202,[(.int .u64)]),(212,[cm,(.int .i64),(.int .i64)]),(213,[cm,(.int .i64),(.int .i64)]),(214,[cm,(.int .i64),(.int .i64)]),(215,[cm,(.int .i64),(.int .i64)]),(216,[cm,(.int .i64),(.int .i64)]),(217,[cm,(.int .i64),(.int .i64)]),(218,[cm,(.int .i64),(.int .i64),(.int .i64)]),(219,[cm,(.int .i64),(.int .i64),(.int .i64)]),(220,[cm,(.int .i64),(.int .i64),(.int .i64)]),(221,[(.int .i64)])]
def outTab:List (Nat×(Bool×Ty)):=[(3,(false,.bool)),(4,(false,.bool)),(5,(false,.bool)),(6,(false,.bool)),(7,(false,.bool)),(8,(false,.bool)),(9,(false,.bool)),(10,(false,.bool)),(11,(false,.bool)),(12,(false,.bool)),(13,(false,.bool)),(14,(true,(.pair .str (.pair (.int .i64) .unit)))),(15,(false,.str)),(16,(true,(.pair aq (.pair (.int .i64) .unit)))),(17,(false,.bool)),(18,(true,(.pair aq (.pair (.int .i64) .unit)))),(19,(false,.bool)),(20,(false,.bool)),(21,(false,(.list ax))),(22,(false,(.list ax))),(23,(false,.bool)),(24,(true,(.pair aq (.pair (.int .i64) .unit)))),(25,(false,(.int .i64))),(26,(false,(.int .i64))),(27,(false,aE)),(28,(false,(.list ax))),(29,(false,.bool)),(30,(false,aE)),(31,(true,(.pair aB (.pair (.int .i64) .unit)))),(32,(false,.bool)),(33,(true,(.pair aq (.pair (.int .i64) .unit)))),(34,(false,.bool)),(35,(false,aE)),(36,(false,aE)),(37,(false,aE)),(38,(true,(.pair (.int .i64) (.pair (.int .i64) .unit)))),(39,(true,(.pair aq (.pair (.int .i64) .unit)))),(40,(false,(.list ax))),(41,(true,(.pair (.int .i64) (.pair (.int .i64) .unit)))),(42,(true,(.pair aq (.pair (.int .i64) .unit)))),(43,(true,(.pair aq (.pair (.int .i64) .unit)))),(44,(true,(.pair aq (.pair (.int .i64) .unit)))),(45,(false,(.int .i64))),(46,(false,(.list ax))),(47,(false,(.list ax))),(48,(false,(.list ax))),(49,(true,(.pair aq (.pair (.int .i64) .unit)))),(50,(true,(.pair aq (.pair (.int .i64) .unit)))),(51,(true,(.pair .bool (.pair (.int .i64) .unit)))),(52,(false,(.list ax))),(53,(false,(.list ax))),(54,(false,(.list ax))),(55,(false,.bool)),(56,(true,(.pair aq (.pair (.int .i64) .unit)))),(57,(false,(.list ax))),(58,(true,(.pair aq (.pair (.int .i64) .unit)))),(59,(true,(.pair (.list ax) (.pair .bool .unit)))),(60,(false,aq)),(61,(false,.bool)),(62,(false,.bool)),(63,(false,aB)),(64,(false,aE)),(65,(false,.bool)),(66,(true,(.pair .str (.pair (.int .i64) .unit)))),(67,(false,.str)),(68,(false,.str)),(69,(false,.str)),(70,(false,.bool)),(71,(false,(.int .i64))),(72,(false,(.int .i64))),(73,(false,.bool)),(74,(false,(.int .i64))),(75,(true,(.pair aq (.pair (.int .i64) .unit)))),(76,(false,(.list ax))),(77,(false,(.list ax))),(78,(false,.bool)),(79,(true,(.pair aq (.pair (.int .i64) .unit)))),(80,(false,(.int .i64))),(81,(false,(.int .i64))),(82,(false,aE)),(83,(false,.bool)),(84,(false,(.list (.int .i64)))),(85,(false,.bool)),(86,(false,aB)),(87,(false,(.list aF))),(88,(false,(.int .i64))),(89,(true,(.pair aF (.pair .bool .unit)))),(90,(false,aB)),(91,(true,(.pair aq (.pair (.int .i64) .unit)))),(92,(false,.bool)),(93,(false,aE)),(94,(false,aE)),(95,(false,(.list (.int .i64)))),(96,(false,aE)),(97,(false,(.list (.int .i64)))),(98,(false,(.int .i64))),(99,(false,(.list (.int .i64)))),(100,(false,(.int .i64))),(101,(false,.bool)),(102,(false,aq)),(103,(false,(.int .i64))),(104,(false,(.int .i64))),(105,(false,aq)),(106,(false,aq)),(107,(false,aq)),(108,(false,aq)),(109,(false,aq)),(110,(false,.bool)),(111,(false,aq)),(112,(false,aB)),(113,(false,aq)),(114,(true,(.pair aq (.pair .bool .unit)))),(115,(false,(.int .i64))),(116,(false,aE)),(117,(false,.bool)),(118,(false,(.list (.int .u32)))),(119,(false,(.list (.int .i64)))),(121,(true,(.pair .str (.pair (.int .i64) .unit)))),(123,(false,.bool)),(125,(false,.str)),(127,(false,.str)),(128,(false,.bool)),(129,(false,(.list (.int .u32)))),(130,(false,aq)),(131,(false,aE)),(132,(false,.bool)),(133,(false,(.list (.int .i64)))),(134,(false,(.list (.int .i64)))),(135,(false,aB)),(136,(false,aB)),(137,(false,aB)),(138,(false,(.int .i64))),(139,(false,(.list (.int .u32)))),(140,(false,aB)),(141,(false,(.list (.int .u32)))),(142,(false,(.list (.int .u32)))),(143,(false,aq)),(144,(false,.bool)),(145,(false,(.list (.int .i64)))),(146,(false,(.list (.int .i64)))),(147,(true,(.pair (.list (.int .i64)) (.pair (.list (.int .i64)) .unit)))),(148,(false,(.list (.int .i64)))),(149,(false,(.int .i64))),(150,(false,aB)),(151,(false,aB)),(152,(false,aq)),(153,(false,.bool)),(154,(true,(.pair aF (.pair .bool .unit)))),(155,(false,aq)),(156,(true,(.pair (.list (.int .i64)) (.pair (.int .i64) .unit)))),(158,(false,.bool)),(159,(false,(.list (.int .u32)))),(160,(true,(.pair (.list (.int .u32)) (.pair (.list (.int .u32)) .unit)))),(161,(true,(.pair (.int .u64) (.pair .bool .unit)))),(162,(false,(.list (.int .u8)))),(163,(false,.bool)),(164,(false,.str)),(166,(true,(.pair (.list (.int .u32)) (.pair (.list (.int .u32)) (.pair .bool .unit))))),(167,(false,aq)),(168,(true,(.pair (.int .i64) (.pair .bool .unit)))),(169,(false,(.list (.int .u32)))),(170,(false,(.int .i64))),(171,(false,aB)),(173,(true,(.pair (.list (.int .u32)) (.pair (.int .u32) .unit)))),(174,(false,(.int .i64))),(175,(false,(.list (.int .u32)))),(176,(false,.bool)),(177,(true,.unit)),(178,(false,(.list (.int .u32)))),(179,(false,.str)),(180,(false,(.int .i64))),(181,(true,.unit)),(182,(true,(.pair (.list (.int .u8)) (.pair .str .unit)))),(183,(false,(.list (.int .u8)))),(184,(false,(.int .i64))),(185,(false,(.list (.int .u32)))),(186,(false,.str)),(188,(false,.bool)),(189,(false,aB)),(190,(false,(.int .i64))),(191,(false,(.int .i64))),(192,(false,(.int .i64))),(193,(false,(.int .i64))),(194,(false,.bool)),(195,(false,(.int .i64))),(199,(false,(.int .i64))),(200,(true,.unit)),(201,(false,(.int .i64))),(202,(false,(.int .i64))),(212,(true,.unit)),(213,(true,.unit)),(214,(true,.unit)),(215,(true,(.pair (.int .i64) (.pair (.int .i64) .unit)))),(216,(true,.unit)),(217,(false,.bool)),(218,(false,(.int .i64))),(219,(true,(.pair (.int .i64) (.pair .bool .unit)))),(220,(true,.unit)),(221,(false,(.int .u64)))]
def ownTab:List (Nat×List Nat):=[(6,[7,42,46]),(14,[4,58,61]),(16,[10,13,25,2000006]),(21,[5,24,29]),(22,[3,18,25]),(40,[5]),(46,[5,26,36]),(48,[7,25,28]),(52,[5,8,10,17,22]),(54,[5,14,21]),(59,[7,57,60]),(60,[6,11,14,47,51,52,68,2000005,6000011]),(76,[5,31,40]),(77,[0,6,12,35,44,48,49,54,56,61]),(87,[9,41,44,52,57,63,68,71,73]),(95,[5,18,45,69]),(97,[5,44,48]),(99,[5,10,36]),(105,[10,13,30,31,35,41,2000007,6000013]),(106,[8,11,27,28,35,48,2000005,6000011]),(107,[13]),(109,[10,23,32,2000005,6000010]),(113,[12,67,77,87,94,102,109,2000005,6000012]),(114,[6,28,31]),(118,[3,6,17,20,47,50]),(119,[3,4,7,11]),(121,[4,10,34,37,45,61,63]),(127,[3,35,40]),(130,[5,15,20,28,3000000005]),(134,[7,13,25,29,35,39]),(139,[5,24,54,64]),(141,[5,19,42,50]),(142,[5,12,35]),(143,[8,17,20,29,2000003,6000008]),(147,[12,56,75]),(148,[5]),(154,[6,12,21]),(155,[8,12,22,28,44,53,2000005,6000012]),(156,[6,11,26]),(160,[4,6,33,35,64,156,162]),(162,[5,16,22,35,37]),(167,[6,37,40,41,55,67,70,2000012,6000055]),(173,[6,11,27]),(175,[7,24,36,46]),(176,[0,37,57]),(177,[0,24,32]),(178,[7,23,54]),(181,[0,42,45,55,58,68,71,81,84,110,113,123,126,145,148,162]),(182,[0,95]),(186,[3,9,16,29])]
def liveTab:List (Nat×List (Nat×List (Nat×Bool×TypeId))):=[(6,[(7,[(2,false,57),(3,false,0),(4,false,0),(7,true,58),(33,false,57),(34,false,3),(35,false,3)])]),(11,[(17,[(3,false,0),(4,false,0),(11,false,27)])]),(14,[(7,[(4,true,94),(17,false,22),(18,false,3),(19,false,3)]),(11,[(4,true,94),(7,false,9),(17,false,22),(18,false,3),(19,false,3),(30,false,48),(31,false,3),(32,false,3)]),(17,[(4,true,94),(7,false,9),(17,false,22),(18,false,3),(19,false,3),(30,false,48),(31,false,3),(32,false,3)])]),(15,[(3,[(3,false,9),(9,false,22),(10,false,3),(11,false,3)]),(7,[(3,false,9),(5,false,0),(9,false,22),(10,false,3),(11,false,3)]),(9,[(3,false,9),(9,false,22),(10,false,3),(11,false,3),(27,false,48),(28,false,3),(29,false,3)]),(13,[(3,false,9),(7,false,3),(9,false,22),(10,false,3),(11,false,3),(27,false,48),(28,false,3),(29,false,3)]),(15,[(3,false,9),(9,false,22),(10,false,3),(11,false,3),(27,false,48),(28,false,3),(29,false,3)])]),(16,[(4,[(0,false,3),(1,false,32),(4,false,0),(6,true,0),(7,false,3),(16,false,3),(17,false,3)]),(9,[(0,false,3),(1,false,32),(4,false,0),(6,true,0),(7,false,3),(16,false,3),(17,false,3)])]),(17,[(4,[(1,false,0),(23,false,22),(24,false,3),(25,false,3)]),(10,[(1,false,0),(3,false,3),(4,false,0),(5,false,3),(23,false,22),(24,false,3),(25,false,3),(49,false,48),(50,false,3),(51,false,3)])]),(21,[(3,[(1,false,39),(5,true,39),(10,false,39),(11,false,3),(12,false,3)]),(6,[(1,false,39),(5,true,39),(10,false,39),(11,false,3),(12,false,3),(18,false,39),(19,false,3),(20,false,3)])]),(22,[(3,[(3,true,39),(8,false,22),(9,false,3),(10,false,3)])]),(23,[(4,[(2,false,3),(3,false,3),(4,false,0),(27,false,22),(28,false,3),(29,false,3)])]),(25,[(3,[(3,false,3),(6,false,39),(7,false,3),(8,false,3)])]),(28,[(3,[(0,false,39),(5,false,39),(8,false,3),(9,false,3)])]),(31,[(3,[(1,false,57),(2,false,0),(4,false,0),(6,false,4),(12,false,57),(13,false,3),(14,false,3)])]),(35,[(3,[(1,false,58),(4,false,0),(5,false,0),(12,false,39),(13,false,3),(14,false,3)]),(7,[(1,false,58),(4,false,0),(5,false,0),(8,false,0),(12,false,39),(13,false,3),(14,false,3),(21,false,47),(22,false,3)]),(13,[(1,false,58),(4,false,0),(5,false,0),(8,false,0),(12,false,39),(13,false,3),(14,false,3),(21,false,47),(22,false,3)])]),(42,[(4,[(1,false,3),(2,false,3),(3,false,0),(6,false,0),(8,false,27)])]),(45,[(3,[(1,false,3),(5,false,3),(8,false,39),(9,false,3),(10,false,3)])]),(46,[(3,[(1,false,3),(5,true,39),(9,false,39),(10,false,3),(11,false,3)]),(9,[(1,false,3),(5,true,39),(9,false,39),(10,false,3),(11,false,3)])]),(48,[(3,[(1,false,3),(2,false,3),(7,true,39),(10,false,39),(11,false,3),(12,false,3)]),(8,[(1,false,3),(2,false,3),(7,true,39),(10,false,39),(11,false,3),(12,false,3)])]),(52,[(3,[(5,true,39),(11,false,39),(12,false,3),(13,false,3)])]),(54,[(3,[(3,false,0),(5,true,39),(8,false,39),(9,false,3),(10,false,3)])]),(55,[(4,[(3,false,0),(24,false,22),(25,false,3),(26,false,3)]),(10,[(3,false,0),(6,false,0),(7,false,0),(24,false,22),(25,false,3),(26,false,3),(53,false,3),(54,false,3)])]),(56,[(4,[(1,false,3),(3,false,0),(5,false,0),(6,false,0),(8,false,27)]),(9,[(1,false,3),(3,false,0),(5,false,0),(6,false,0),(9,false,0),(10,false,0),(11,false,3)]),(15,[(1,false,3),(3,false,0),(5,false,0),(6,false,0),(9,false,0),(10,false,0),(11,false,3)])]),(57,[(3,[(0,false,39),(1,false,3),(2,false,39),(7,false,39),(8,false,3)])]),(58,[(4,[(2,false,0),(3,false,0),(4,false,0),(6,false,27)])]),(59,[(4,[(0,false,39),(1,false,39),(6,false,0),(7,true,39),(8,false,3)]),(7,[(0,false,39),(1,false,39),(6,false,0),(7,true,39),(8,false,3),(9,false,0),(26,false,3)])]),(60,[(4,[(0,false,39),(1,false,3),(4,false,0),(5,true,0),(6,true,134),(16,false,3),(17,false,3)]),(7,[(0,false,39),(1,false,3),(4,false,0),(5,true,0),(6,true,134),(7,false,3),(16,false,3),(17,false,3),(19,false,39),(20,false,3),(21,false,3)]),(11,[(0,false,39),(1,false,3),(4,false,0),(5,true,0),(6,true,134),(7,false,3),(16,false,3),(17,false,3),(19,false,39),(20,false,3),(21,false,3)])]),(61,[(2,[(6,false,22),(7,false,3),(8,false,3)])]),(62,[(5,[(1,false,0),(3,false,0),(24,false,22),(25,false,3),(26,false,3)]),(11,[(1,false,0),(3,false,0),(4,false,3),(6,false,0),(24,false,22),(25,false,3),(26,false,3),(57,false,48),(58,false,3),(59,false,3)])]),(66,[(6,[(1,false,0),(4,false,0)]),(11,[(4,false,0)])]),(68,[(10,[(0,false,94),(1,false,9),(5,false,3)]),(11,[(0,false,94),(1,false,9),(5,false,3)]),(12,[(0,false,94),(1,false,9),(5,false,3),(39,false,94),(40,false,3),(41,false,3)]),(16,[(0,false,94),(1,false,9),(5,false,3),(7,false,9),(39,false,94),(40,false,3),(41,false,3)]),(22,[(1,false,9),(8,false,0),(63,false,94),(64,false,3),(65,false,3)])]),(69,[(4,[(1,false,0),(3,false,9)]),(6,[(3,false,9)])]),(72,[(2,[(1,false,48),(7,false,48),(8,false,3),(9,false,3)])]),(76,[(3,[(3,false,0),(5,true,39),(10,false,39),(11,false,3),(12,false,3)]),(7,[(3,false,0),(5,true,39),(7,false,0),(8,false,0),(10,false,39),(11,false,3),(12,false,3),(18,false,3)])]),(77,[(4,[(0,true,39),(4,false,0),(5,false,0),(14,false,3),(15,false,3)])]),(79,[(3,[(1,false,3),(2,false,0),(4,false,0),(6,false,0),(7,false,27)])]),(80,[(3,[(3,false,3),(6,false,47),(7,false,3)])]),(84,[(3,[(0,false,59),(3,false,49),(4,false,3)])]),(86,[(3,[(1,false,57),(4,false,0),(5,false,0),(13,false,22),(14,false,3),(15,false,3)]),(7,[(1,false,57),(4,false,0),(5,false,0),(8,false,0),(13,false,22),(14,false,3),(15,false,3),(22,false,48),(23,false,3),(24,false,3)]),(11,[(1,false,57),(4,false,0),(5,false,0),(8,false,0),(13,false,22),(14,false,3),(15,false,3),(22,false,48),(23,false,3),(24,false,3)])]),(87,[(2,[(0,false,22),(1,false,22),(2,false,112),(3,false,114),(9,true,22)]),(7,[(0,false,22),(1,false,22),(2,false,112),(3,false,114),(9,true,22)])]),(90,[(4,[(2,false,0),(3,false,0),(4,false,0),(5,false,59),(6,false,59),(7,false,59)])]),(95,[(3,[(1,false,49),(5,true,49),(19,false,49),(20,false,3),(21,false,3)]),(7,[(1,false,49),(5,true,49),(6,false,3),(7,false,3),(8,false,3),(19,false,49),(20,false,3),(21,false,3),(26,false,49),(27,false,3),(28,false,3)]),(14,[(1,false,49),(5,true,49),(8,false,3),(11,false,3),(19,false,49),(20,false,3),(21,false,3)])]),(97,[(4,[(0,false,49),(1,false,49),(5,true,49),(6,false,3),(7,false,3)]),(8,[(0,false,49),(1,false,49),(5,true,49),(6,false,3),(7,false,3)]),(10,[(0,false,49),(1,false,49),(5,true,49),(6,false,3),(7,false,3)])]),(98,[(6,[(0,false,49),(1,false,49),(5,false,3)])]),(99,[(4,[(1,false,49),(5,true,49),(6,false,3),(12,false,3),(13,false,3)]),(9,[(1,false,49),(5,true,49),(7,false,3),(8,false,3),(12,false,3),(13,false,3)]),(13,[(1,false,49),(5,true,49),(6,false,3),(7,false,3),(8,false,3),(12,false,3),(13,false,3)])]),(100,[(3,[(3,false,3),(7,false,22),(8,false,3),(9,false,3)])]),(104,[(3,[(1,false,3),(5,false,3),(9,false,22),(10,false,3),(11,false,3)])]),(105,[(3,[(1,false,3),(2,false,3),(6,false,0),(7,true,0),(15,false,22),(16,false,3),(17,false,3)]),(9,[(1,false,3),(2,false,3),(6,false,0),(7,true,0),(15,false,22),(16,false,3),(17,false,3)])]),(106,[(3,[(1,false,3),(4,false,0),(5,true,0),(13,false,22),(14,false,3),(15,false,3)]),(9,[(1,false,3),(4,false,0),(5,true,0),(13,false,22),(14,false,3),(15,false,3)])]),(109,[(5,[(3,false,0),(4,false,0),(5,true,0),(16,false,22),(17,false,3),(18,false,3)])]),(110,[(4,[(3,false,0),(22,false,22),(23,false,3),(24,false,3)])]),(113,[(3,[(2,false,0),(3,false,0),(4,false,0),(5,true,0),(6,false,3),(7,false,3)]),(13,[(2,false,0),(3,false,0),(4,false,0),(5,true,0),(6,false,3),(7,false,3)]),(14,[(2,false,0),(3,false,0),(4,false,0),(5,true,0),(6,false,3),(7,false,3),(8,false,3)])]),(114,[(2,[(2,false,0),(3,false,0),(4,false,0),(6,true,22)])]),(115,[(3,[(0,false,39),(3,false,3),(6,false,39),(7,false,3),(8,false,3)]),(7,[(0,false,39),(3,false,3),(6,false,39),(7,false,3),(8,false,3)])]),(117,[(2,[(2,false,0),(3,false,0),(6,false,3)])]),(118,[(2,[(0,false,49),(3,true,48)]),(8,[(3,true,48),(6,true,59),(7,false,3)]),(13,[(3,true,48),(6,true,59),(7,false,3),(8,false,151)])]),(119,[(2,[(0,false,3),(3,true,49)])]),(121,[(7,[(0,false,59),(4,true,173),(5,false,59)]),(14,[(4,true,173),(10,true,32),(11,false,3)])]),(127,[(5,[(0,false,49),(3,true,32),(4,false,3)]),(8,[(0,false,49),(3,true,32),(4,false,3),(5,false,3)]),(9,[(0,false,49),(3,true,32),(4,false,3),(5,false,3)])]),(129,[(3,[(0,false,59),(1,false,59)]),(14,[(12,false,175),(14,false,175)])]),(130,[(3,[(2,false,0),(3,false,0),(4,false,0),(5,true,22),(9,false,22),(10,false,3),(11,false,3)]),(8,[(2,false,0),(3,false,0),(4,false,0),(5,true,22),(9,false,22),(10,false,3),(11,false,3)])]),(133,[(1,[(0,false,49),(1,false,49)]),(5,[(5,false,3),(7,false,3)])]),(134,[(3,[(1,false,3),(2,false,3),(7,true,49),(14,false,49),(15,false,3),(16,false,3)]),(9,[(2,false,3),(7,true,49)])]),(137,[(2,[(1,false,3),(2,false,0),(4,false,0),(5,false,0)]),(3,[(1,false,3),(2,false,0),(4,false,0),(5,false,0)]),(6,[(1,false,3),(2,false,0),(4,false,0),(5,false,0)])]),(138,[(6,[(0,false,59),(1,false,59),(5,false,3)])]),(139,[(5,[(1,false,59),(5,true,59),(25,false,59),(26,false,3),(27,false,3)]),(9,[(1,false,59),(5,true,59),(6,false,3),(7,false,151),(8,false,175),(25,false,59),(26,false,3),(27,false,3),(32,false,59),(33,false,3),(34,false,3)])]),(140,[(7,[(0,false,4),(1,false,59),(2,false,59),(6,false,0)])]),(141,[(3,[(0,false,59),(1,false,59)]),(6,[(0,false,59),(1,false,59),(5,true,59),(6,false,175),(20,false,59),(21,false,3),(22,false,3)]),(11,[(0,false,59),(1,false,59),(5,true,59),(6,false,175),(7,false,3),(20,false,59),(21,false,3),(22,false,3)])]),(142,[(4,[(1,false,59),(5,true,59),(6,false,175),(13,false,59),(14,false,3),(15,false,3)]),(9,[(1,false,59),(5,true,59),(7,false,3),(9,false,175),(13,false,59),(14,false,3),(15,false,3)])]),(143,[(3,[(1,false,0),(2,false,0),(3,true,0),(10,false,22),(11,false,3),(12,false,3)])]),(144,[(4,[(0,false,59),(1,false,59),(12,false,3),(13,false,3)])]),(145,[(3,[(0,false,49),(5,false,49),(7,false,3),(8,false,3)])]),(146,[(2,[(0,false,49),(3,false,3)])]),(147,[(13,[(0,false,49),(1,false,49),(12,true,49),(13,false,49),(14,false,3)]),(14,[(0,false,49),(1,false,49),(12,true,49),(13,false,49),(14,false,3)])]),(149,[(3,[(3,false,3),(6,false,48),(7,false,3),(8,false,3)])]),(154,[(3,[(2,false,0),(3,false,0),(4,false,0),(6,true,48),(14,false,48),(15,false,3),(16,false,3)])]),(155,[(3,[(2,false,0),(3,false,0),(4,false,0),(5,true,0),(14,false,22),(15,false,3),(16,false,3)]),(7,[(2,false,0),(3,false,0),(4,false,0),(5,true,0),(7,false,0),(8,true,48),(14,false,22),(15,false,3),(16,false,3),(24,false,3),(25,false,3)])]),(156,[(4,[(0,false,49),(1,false,3),(6,true,49),(7,false,3),(8,false,3)])]),(160,[(14,[(4,true,59),(8,false,3),(9,false,59),(10,false,59),(11,false,3),(12,false,175),(13,false,175),(14,false,3)]),(18,[(4,true,59),(8,false,3),(9,false,59),(10,false,59),(11,false,3),(12,false,175),(13,false,175),(14,false,3),(16,false,175),(17,false,175)]),(22,[(4,true,59),(8,false,3),(9,false,59),(10,false,59),(11,false,3),(12,false,175),(13,false,175),(14,false,3),(16,false,175)]),(25,[(4,true,59),(8,false,3),(9,false,59),(10,false,59),(11,false,3),(12,false,175),(13,false,175),(14,false,3),(16,false,175)])]),(162,[(2,[(0,false,175),(1,false,3),(5,true,32)]),(6,[(5,true,32),(6,false,3),(7,false,3)])]),(164,[(8,[(0,false,2),(5,false,0),(6,false,175)])]),(166,[(8,[(0,false,59),(1,false,59),(12,false,2),(13,false,2),(14,false,2),(15,false,2),(16,false,2),(17,false,2)]),(14,[(0,false,59),(1,false,59),(12,false,2),(13,false,2),(14,false,2),(15,false,2)])]),(167,[(4,[(0,false,3),(4,false,0),(5,false,205),(6,true,22),(16,false,22),(17,false,3),(18,false,3)]),(12,[(0,false,3),(4,false,0),(5,false,205),(6,true,22),(16,false,22),(17,false,3),(18,false,3)]),(15,[(4,false,0),(12,true,0),(56,false,22),(57,false,3),(58,false,3)]),(19,[(4,false,0),(12,true,0),(56,false,22),(57,false,3),(58,false,3)])]),(168,[(5,[(0,false,49),(4,false,3),(5,false,3)])]),(169,[(1,[(0,false,59)])]),(170,[(4,[(0,false,49),(1,false,49),(5,false,3),(6,false,3),(7,false,3),(8,false,3)]),(5,[(0,false,49),(1,false,49),(5,false,3),(6,false,3),(7,false,3),(8,false,3)]),(10,[(0,false,49),(1,false,49),(5,false,3),(6,false,3),(7,false,3),(9,false,3)]),(15,[(0,false,49),(1,false,49),(6,false,3),(7,false,3)]),(16,[(0,false,49),(1,false,49),(10,false,3)]),(18,[(0,false,49),(1,false,49),(10,false,3)])]),(173,[(4,[(0,false,59),(1,false,151),(6,true,59),(7,false,175),(8,false,3)])]),(175,[(6,[(5,false,3),(6,false,156),(7,true,59),(25,false,59),(26,false,3),(27,false,3)])]),(176,[(3,[(0,true,59),(1,false,59),(2,false,175),(7,false,175),(8,false,175),(13,false,59),(14,false,3),(15,false,3)])]),(177,[(2,[(0,true,59),(1,false,59),(4,false,175),(7,false,59),(8,false,3),(9,false,3)])]),(178,[(6,[(0,false,59),(5,false,3),(6,false,156),(7,true,59),(25,false,3),(26,false,3)]),(11,[(0,false,59),(5,false,3),(6,false,156),(7,true,59),(8,false,3),(9,false,175),(25,false,3),(26,false,3)])]),(181,[(1,[(0,true,32),(1,false,175),(4,false,3)]),(20,[(0,true,32),(4,false,3),(12,false,151)]),(25,[(0,true,32),(4,false,3),(12,false,151)])]),(182,[(3,[(0,true,32),(1,false,175),(2,false,3),(3,false,4),(4,false,4),(10,false,32),(11,false,9)]),(7,[(0,true,32),(1,false,175),(2,false,3),(3,false,4),(4,false,4),(10,false,32),(11,false,9),(12,false,0),(13,false,3)]),(11,[(0,true,32),(1,false,175),(3,false,4),(4,false,4),(10,false,32),(11,false,9),(12,false,0),(13,false,3),(14,false,156),(15,false,175),(16,false,156)]),(18,[(0,true,32),(1,false,175),(3,false,4),(4,false,4),(10,false,32),(11,false,9),(12,false,0),(13,false,3),(17,false,175)]),(25,[(0,true,32),(3,false,4),(4,false,4),(10,false,32),(11,false,9),(12,false,0),(13,false,3)]),(28,[(0,true,32),(4,false,4),(10,false,32),(11,false,9),(12,false,0),(13,false,3)])]),(186,[(3,[(3,true,32),(10,false,48),(11,false,3),(12,false,3)])]),(190,[(4,[(0,false,151),(2,false,3)]),(7,[(0,false,151),(2,false,3)])]),(192,[(4,[(0,false,175),(2,false,3)]),(7,[(0,false,175),(2,false,3)]),(10,[(0,false,175),(2,false,3)])]),(200,[(3,[(1,false,3),(2,false,3),(3,false,3),(4,false,0),(8,false,4),(9,false,4)]),(11,[(1,false,3),(2,false,3),(3,false,3),(4,false,0),(8,false,4),(9,false,4),(10,false,3)]),(16,[(1,false,3),(2,false,3),(3,false,3),(4,false,0),(8,false,4),(9,false,4),(10,false,3),(11,false,3),(12,false,229)]),(18,[(1,false,3),(2,false,3),(3,false,3),(4,false,0),(8,false,4),(9,false,4),(10,false,3),(11,false,3)])]),(212,[(2,[(1,false,3),(2,false,3),(3,false,0),(6,false,3)]),(5,[(1,false,3),(2,false,3),(3,false,0),(6,false,3),(7,false,3)])]),(213,[(5,[(3,false,0),(6,false,3),(7,false,3),(8,false,3),(9,false,3)]),(9,[(3,false,0),(6,false,3),(7,false,3),(10,false,3)])]),(214,[(6,[(1,false,3),(3,false,0),(6,false,3),(7,false,0),(8,false,156),(9,false,3)]),(11,[(1,false,3),(3,false,0),(6,false,3),(7,false,0),(8,false,156),(9,false,3),(10,false,3)])]),(215,[(11,[(3,false,0),(9,false,0),(10,false,3),(11,false,3),(12,false,3)]),(12,[(9,false,0),(11,false,3)])]),(216,[(3,[(3,false,0),(6,false,3),(7,false,3)])]),(217,[(3,[(1,false,3),(2,false,3),(3,false,0),(7,false,3),(8,false,3)]),(4,[(1,false,3),(2,false,3),(3,false,0),(7,false,3),(8,false,3)]),(5,[(1,false,3),(2,false,3),(3,false,0),(7,false,3),(8,false,3)]),(14,[(1,false,3),(2,false,3),(3,false,0),(7,false,3),(8,false,3),(9,false,3)]),(18,[(1,false,3),(2,false,3),(3,false,0),(7,false,3),(8,false,3)]),(20,[(1,false,3),(2,false,3),(3,false,0),(7,false,3),(8,false,3),(10,false,3)])]),(218,[(3,[(1,false,3),(4,false,0),(9,false,3),(10,false,3)]),(5,[(1,false,3),(4,false,0),(9,false,3),(10,false,3)])]),(219,[(3,[(1,false,3),(4,false,0),(10,false,3),(11,false,3)]),(5,[(1,false,3),(4,false,0),(10,false,3),(11,false,3)]),(13,[(1,false,3),(4,false,0),(10,false,3),(11,false,3)]),(15,[(1,false,3),(4,false,0),(10,false,3),(11,false,3)])]),(220,[(2,[(2,false,3),(3,false,3),(4,false,0),(8,false,3)]),(6,[(2,false,3),(3,false,3),(4,false,0),(8,false,3),(9,false,3)])])]
def lentTab:List (Nat×(Nat×TypeId)):=[]
def arTab:List (Nat×(Nat×Nat)):=[(47,(8,3)),(197,(24,5)),(211,(20,175)),(212,(65,5)),(235,(32,5)),(236,(64,5))]
def mpTab:List Nat:=[205]
def givenTab:List (Nat×(Nat×TypeId)):=[(77,(0,53))]
noncomputable def T:Tab:={ P:=Tryz.prog,ty:=tyTab,el:=elTab,ar:=arTab,mp_:=mpTab,given_:=givenTab,by_:=byTab,par:=parTab,out_:=outTab,lent_:=lentTab,own:=ownTab,live:=liveTab,hook:=hookS 22 24 96 187 188 205 }
end Go.Proofs.YtfbgaddecbiimaaGreatDoor.E
end
namespace Go.Proofs.YtfbgaddecbiimaaGreatDoorW
open PrintWords
theorem bB {P : Prop} (h : P := by repeat (first | (with_reducible first | exact HB.out | apply PrintWords.below_alloc | apply PrintWords.pw_below_drewN | apply PrintWords.below_drew1) | exact HB.out)) : P := h
theorem dR {A B : Prop} (h : A) (g : A → B := by intro h_; (with_reducible repeat (first | apply PrintWords.Kd.R_alloc | apply PrintWords.Kd.R_drewN | apply PrintWords.Kd.R_drew)); exact h_) : B := g h
theorem dV {A B : Prop} (h : A) (g : A → B := by intro h_; (with_reducible repeat (first | apply PrintWords.Kd.V_alloc | apply PrintWords.Kd.V_drewN | apply PrintWords.Kd.V_drew)); exact h_) : B := g h
theorem dC {A B : Prop} (h : A) (g : A → B := by intro h_; repeat (first | exact h_ | (with_reducible refine PrintWords.Kd.C_alloc ?_ _) | (with_reducible refine PrintWords.Kd.C_drewN ?_ _) | (with_reducible refine PrintWords.Kd.C_drew ?_))) : B := g h
theorem dQ {P : Prop} (h : P := by first | exact ⟨rfl, _, World.drewN_drewN _ _ _⟩ | exact ⟨rfl, _, Eq.trans (World.drewN_drewN _ _ _) (congrArg (World.drewN _) (Nat.add_assoc _ _ _))⟩) : P := h
theorem aS {P : Prop} (h : P := by first | (with_reducible assumption) | assumption) : P := h
end Go.Proofs.YtfbgaddecbiimaaGreatDoorW
section
namespace Go.Proofs.YtfbgaddecbiimaaGreatDoor.P
open Go.RowKit Go.Proofs.YtfbgaddecbiimaaGreatDoorW.PrintWords Go.Proofs.YtfbgaddecbiimaaGreatDoorW.PrintLast Go.Proofs.YtfbgaddecbiimaaGreatDoorW.PrintMore Go.Proofs.YtfbgaddecbiimaaGreatDoorW
attribute [local go_sem] rm rk uY uX tr tq wC wA
set_option linter.unusedVariables false
set_option linter.unusedSimpArgs false
structure S61 where
 f0:Bool
 f1:(List Int)
 f2:(List Int)
def z61:S61:=⟨false,([]:List Int),([]:List Int)⟩
structure S96 where
 f0:(List Int)
 f1:S61
def z96:S96:=⟨([]:List Int),z61⟩
def eS (xs:List S96) (i:Int):S96:=xs.getD i.toNat z96
end Go.Proofs.YtfbgaddecbiimaaGreatDoor.P
end
