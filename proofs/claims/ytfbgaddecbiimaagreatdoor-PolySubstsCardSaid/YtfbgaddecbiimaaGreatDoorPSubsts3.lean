/- An evaluator of the program's code, what its functions come to, and what they mean: text 3. No condition. -/
import Derived.Test.YtfbgaddecbiimaaGreatDoorPSubsts2
set_option linter.unusedSimpArgs false
set_option linter.unusedSectionVars false
set_option linter.unusedVariables false
set_option maxRecDepth 100000
set_option maxHeartbeats 4000000
section
namespace Go.Proofs.YtfbgaddecbiimaaGreatDoor.E
open Go.RowKit Go.Proofs.YtfbgaddecbiimaaGreatDoorW.PrintWords Go.Proofs.YtfbgaddecbiimaaGreatDoorW.PrintMore Go.Proofs.YtfbgaddecbiimaaGreatDoor.V
section
variable {T:gv} {X:Ctx} {S:ES} {W W':St} {o:Oper} {ops:List Oper} {lim:Option (List Meta)} {ctx:Option (Nat×Bool)} {prot:List Nat} {i:Nat} {l:List Oper} {q:St->Prop} {F:Nat} {call:(g:Nat)->List cW->Option (T.out g).den} {β:Type}
theorem jF {c:Option Hw} {x:Option β} {r:β} (h:Ey c x=some r):(∀ c',c=some c'->c'.p)/\x=some r:=by
 cases c with
 | none=>exact ⟨fun c' h=>(by cases h),h⟩
 | some c =>
  simp only [Ey] at h
  by_cases hp:c.p
  ·rw [if_pos hp] at h
   exact ⟨fun c' hc=>by cases hc;exact hp,h⟩
  rw [if_neg hp] at h;cases h
theorem pM {A:ES} (hA:∀ a w,Rel X S.st a w->Rel X A.st a w) (hs:Sub S W) (hc:mH ops ctx prot W):∃ W1,Sub (mL ctx lim A S) W1/\mH ops ctx prot W1/\(ctx.isSome=true->W1=W)/\∀ l q,Wk T.P X ops lim i l W1 q->Wk T.P X ops lim i l W q:=by
 cases ctx with
 | some x=>exact ⟨W,hs,hc,fun _=>rfl,fun _ _ h=>h⟩
 | none =>
  cases lim with
  | some ms=>exact ⟨W,hs,hc,fun _=>rfl,fun _ _ h=>h⟩
  | none=>exact ⟨A.st,oo A,trivial,fun h=>(by cases h),fun l q h=>.qB (fun a w hr=>hA a w (kh hs a w hr)) h⟩
def LY (T:gv) (X:Ctx) (ops:List Oper) (lim:Option (List Meta)) (ctx:Option (Nat×Bool)) (prot:List Nat) (i:Nat) (o:Oper) (l:List Oper) (W:St) (q:St->Prop) (k:ES->Option β) (r:β):Prop :=
 ∀ S' W',Sub S' W'->mH ops ctx prot W'->k S'=some r->(ctx.isSome=true->∃ v,W'=gm W o.dst v)->Wk T.P X ops lim (i+1) l W' q
theorem BI (hT:cM T=true) {k:ES->Option β} {r:β} (ho:ops[i]?=some o) (hm:jo T ops lim i o) (hd:dS X o) (hg:Ln o.guard ctx=true) (hn:jX prot o.dst=true) (hs:Sub S W) (hc:mH ops ctx prot W) (h:tc T F lim ctx i o S k=some r) (hk:LY T X ops lim ctx prot i o l W q k r):Wk T.P X ops lim i (o :: l) W q:=by
 unfold tc at h
 split at h
 ·rename_i R hR
  split at h
  ·rename_i hrv
   rw [Bool.and_eq_true] at hrv
   obtain ⟨b,e⟩:=hrv
   obtain ⟨d,h2⟩:=jF h
   have a:xV lim none i R.r=true/\(ctx.isSome=true->R.r=none):=by
    cases hr:R.r with
    | none=>exact ⟨rfl,fun _=>rfl⟩
    | some x =>
     cases ctx with
     | none=>rw [hr] at b;exact ⟨b,fun h=>by cases h⟩
     | some c=>rw [hr] at b;cases b
   refine pI (v:=R.v) (r:=R.r) ho hm hs (Ct hc hg) hd.dg a.1 e (fun W0 hA=>AZ hT hA hd hR d) (hk _ _ hs.res ?_ h2 (fun hx=>⟨R.v,by rw [a.2 hx];rfl⟩))
   cases ctx with
   | none=>trivial
   | some c =>
    rw [a.2 rfl]
    exact u6 hc hn
  cases h
 cases h
theorem D1 {k:ES->Option β} {r:β} {c x y:Operand} (hop:o.op = .pick c x y) (ho:ops[i]?=some o) (hm:jo T ops lim i o) (hd:dS X o) (hg:Ln o.guard ctx=true) (hn:jX prot o.dst=true) (hs:Sub S W) (hc:mH ops ctx prot W) (h:IJ lim i o c x y S k=some r) (hk:LY T X ops lim ctx prot i o l W q k r):Wk T.P X ops lim i (o :: l) W q:=by
 unfold IJ at h
 split at h
 ·rename_i b u v d hcv hx hy hdd
  split at h
  case h_2=>cases h
  rename_i hval0
  have f:∀ z:Bool,lU lim i (.v .bool z)=true:=by
   intro z
   cases lim with
   | none=>rfl
   | some ms =>
    cases hm':ms[i]? with
    | none=>simp only [lU,hm'] at hval0;cases hval0
    | some m =>
     cases hk':m.kl with
     | some j=>simp only [lU,hm',hk'] at hval0;cases hval0
     | none =>
      simp only [lU,hm',hk']
      cases m.rf<;>rfl
  have g:∀ z:Bool,(b=true->u=z)->(b=false->v=z)->∀ W0,cJ W0 (kZ lim i S) (uD lim i S)->dR T.P X o W0 (gm (oy W0 none) o.dst (.v .bool z)):=by
   intro z h1 h2 W0 hA
   exact vH (pQ hop (hA.od hcv) (fun e=>by rw [<- h1 e];exact hA.od hx) (fun e=>by rw [<- h2 e];exact hA.od hy)) rfl hd.dg
  have a:∀ z:Bool,(b=true->u=z)->(b=false->v=z)->k (S.put d (.v .bool z))=some r->Wk T.P X ops lim i (o :: l) W q:=by
   intro z h1 h2 h3
   refine pI (v:=.v .bool z) (r:=none) ho hm hs (Ct hc hg) hd.dg rfl (f z) (g z h1 h2) (hk (S.put d (.v .bool z)) _ ?_ (u6 hc hn) h3 (fun _=>⟨_,rfl⟩))
   rw [hdd]
   exact hs.put
  split at h
  ·simp only [fV,zZ,Option.some.injEq] at hx
   cases hx
   exact a _ (fun e=>by rw [e];rfl) (fun e=>by rw [e];rfl) h
  ·simp only [fV,zZ,Option.some.injEq] at hy
   cases hy
   exact a _ (fun e=>by rw [e];rfl) (fun e=>by rw [e];rfl) h
  exact a _ (fun e=>by rw [e];rfl) (fun e=>by rw [e];rfl) h
 cases h
theorem Fc (b:Bool) (t:Ty) (r:t.den):∃ p,(qb b t r).pv=some p:=by cases b<;>exact ⟨_,rfl⟩
theorem oD {g:Nat} (h:Nat.ble 1000000 g=false):real g=g:=by unfold real Fg;rw [h]
theorem F5 (m f:Nat):Nat.ble m (f+m)=true:=Nat.ble_eq_true_of_le (Nat.le_add_left m f)
theorem GG (m f:Nat):Fg m (f+m)=f:=by
 unfold Fg
 rw [F5]
 exact Nat.add_sub_cancel f m
theorem GD (f:Nat):real (f+1000000)=f:=GG 1000000 f
theorem AL (own:List Nat) (f:Nat):qD own (.func f) = .const (.bool false)∨(Nat.ble 1000000 f=false/\qD own (.func f) = .func f)∨qD own (.func f) = .func (f+1000000):=by
 simp only [qD]
 cases h:Nat.ble 1000000 f with
 | true=>exact .inl rfl
 | false=>cases mem own (f+1000000000) with
  | true=>exact .inr (.inr rfl)
  | false=>exact .inr (.inl ⟨rfl,rfl⟩)
theorem H7 {own:List Nat} {x:Operand} {rd:Nat->Option cW} {g:Nat} (h:fV rd (qD own x)=some (.v .fn g)) (hg:Nat.ble 1000000 g=false):fV rd x=some (.v .fn g):=by
 cases x with
 | func f =>
  rcases AL own f with e | ⟨_,e⟩ | e
  ·rw [e] at h;simp [fV,zZ] at h
  ·rw [e] at h;exact h
  rw [e] at h
  simp only [fV,Option.some.injEq,cW.v.injEq,heq_eq_eq,true_and] at h
  rw [<- h,F5] at hg;cases hg
 | _=>exact h
theorem AJ {own:List Nat} {x:Operand} {g:Nat} (h:qD own x = .func g):x = .func (real g):=by
 cases x with
 | func f =>
  rcases AL own f with e | ⟨hf,e⟩ | e
  ·rw [e] at h;cases h
  ·rw [e] at h
   rw [<- Operand.func.inj h,oD hf]
  rw [e] at h
  rw [<- Operand.func.inj h,GD]
 | _=>cases h
def sM (T:gv) (F:Nat) (X:Ctx):Prop:=qW T F=true->∀ v,X.pin v
theorem pin_of {j:Nat} {b:Bool} (hP:sM T F X) (h:(Nat.beq j bY&&!(qW T F&&b))=false):j=bY->∀ v,X.pin v:=by
 intro hj
 subst hj
 rw [Nat.beq_refl,Bool.true_and,Bool.not_eq_false',Bool.and_eq_true] at h
 exact hP h.1
theorem I6:∀ (j:Nat) (xs:List Operand),BW j xs=true->xs[j]?=some (.const (.slice none 0 0))
 | _,[],h=>by simp [BW] at h
 | 0,x :: l,h=>by
  simp only [BW] at h
  split at h
  ·rfl
  cases h
 | n+1,x :: l,h=>by
  have:=I6 n l h
  simpa using this
theorem args_at {rd:Nat->Option cW} {rr:Nat->Option (Option bX)}:∀ (xs:List Operand) (ts:List Ty) (i:Nat) (vs:List cW) (j:Nat),kf rd rr none i xs ts=some vs->xs[j]?=some (.const (.slice none 0 0))->∀ c,ts[j]?=some (.list c)->vs[j]?=some (.v (.list c) [])
 | [],[],i,vs,j,h,hj,c,hc=>by simp at hj
 | x :: xs,t :: ts,i,vs,j,h,hj,c,hc=>by
  simp only [kf,wB] at h
  split at h
  ·rename_i v hv
   split at h
   ·rename_i y hy
    split at h
    ·rename_i l hl
     cases h
     cases j with
     | zero =>
      simp only [List.getElem?_cons_zero,Option.some.injEq] at hj hc ⊢
      subst hj hc
      simp only [fV,zZ,Option.some.injEq] at hv
      subst hv
      simp only [coe,Option.some.injEq] at hy
      rw [<- hy]
     | succ j =>
      simp only [List.getElem?_cons_succ] at hj hc ⊢
      exact args_at xs ts (i+1) l j hl hj c hc
    cases h
   cases h
  cases h
 | [],_ :: _,_,_,_,h,_,_,_=>by cases h
 | _ :: _,[],_,_,_,h,_,_,_=>by cases h
theorem Bd {t t':Ty} {r:t.den} {y2 r2:t'.den} (h:(⟨t,r⟩:Σ t:Ty,t.den)=⟨t',y2⟩) (hc:fq t' r=some r2):r2=y2:=by
 cases h
 obtain ⟨_,e⟩:=de hc
 exact e
theorem Cu (hC:iR T call) (hP:sM T F X) {k:ES->Option β} {r:β} {c:Call} {g d j:Nat} {e:TypeId} {ts:List Ty} (hop:o.op = .call c) (hcl:c.callee = .value (.func g)) (hl:tB T g = .given j e) (hlow:Nat.ble 1000000 g=false) (hdd:o.dst=some d) (ho:ops[i]?=some o) (hm:jo T ops lim i o) (hd:dS X o) (hg:o.guard=none) (hs:Sub S W) (h:EC T F call lim i o c g d ts j e S k=some r)
 (hk:∀ S' W',Sub S' W'->k S'=some r->Wk T.P X ops lim (i+1) l W' q):Wk T.P X ops lim i (o :: l) W q:=by
 unfold EC at h
 split at h
 ·rename_i hnil
  have hj:=I6 _ _ hnil
  split at h
  ·rename_i vs q' hrow hts hod hvs
   obtain ⟨rr,h1,h2⟩:=Option.bind_eq_some_iff.1 h
   split at h2
   ·rename_i r2 hr2 hsev
    obtain ⟨⟨fn,f1,f2,f3⟩,_,c0,y,y2,hv,b,hF⟩:=hC.given g j e vs rr hl h1
    rw [oD hlow] at f1 hF
    have n:=args_at _ _ _ _ _ hvs hj _ hts
    rw [n] at hv
    cases hv
    have a:=Bd b hr2
    subst a
    refine C4.step (W':=put (setRow (kill W d) d (bX.arr e q' r2).row) o.dst (.own d)) (.inl hg) ?_ hd.dg (hk _ _ ?_ h2)
    ·obtain ⟨a1,a2⟩:=nE hs.agree (ln:=none) _ _ _ _ (fun j hj=>by cases hj) hvs
     have u:W.rows d=none:=by rw [hs.rows,hrow];rfl
     refine Gl (X:=X) (S:=W) (R:=(bX.arr e q' []).row) (j:=j) hop hcl f1 f2 f3 hF u (hd d hdd).2 rfl a1 hj ?_ (zb a2 0).2.2 hd.dg hod
     simp only [dE,n]
     rfl
    rw [hdd]
    exact ((oq (k:=d) (E:=S.env) (R:=S.rows) (W:=W) hs).set (k:=d) (r:=.arr e q' r2)).put (d:=d) (v:=.own d)
   cases h2
  cases h
 split at h
 ·rename_i qq vs hlent hvs
  split at h
  ·rename_i e0 c0 l0 cj hrow htj hfl
   rw [Bool.or_eq_false_iff] at hfl
   split at h
   ·rename_i qe hee hqe hao
    obtain ⟨rr,h1,h2⟩:=Option.bind_eq_some_iff.1 h
    split at h2
    ·rename_i r2 hr2 hsev
     have he:=beq_true hee
     subst he
     have s:=qe.down
     subst s
     obtain ⟨⟨fn,f1,f2,f3⟩,_,c1,y,y2,hv,b,hF⟩:=hC.given g j e0 vs rr hl h1
     rw [oD hlow] at f1 hF
     have p:∀ {W0:St},cJ W0 (kZ lim i S) (uD lim i S)->aX W0 c.args.toList=some ((dE j vs).map (Gw qq))/\(dE j vs).all eO=true/\c1=c0/\HEq y l0:=by
      intro W0 hA
      obtain ⟨a1,a2,e3,t3,y5,a,m⟩:=tX hA (j:=j) (k:=qq) (rd':=kZ lim i S) (fun t v h=>h) _ _ 0 vs (Nat.zero_le _) hvs hlent
      rw [Nat.sub_zero] at a1 a2 m
      refine ⟨a1,a2,?_⟩
      rw [hrow] at a
      rw [m] at hv
      cases hv
      have f:bX.arr e0 c0 l0=kT e3 (.list c1) y:=by simpa using a
      simp only [kT,bX.arr.injEq] at f
      exact ⟨f.2.1.symm,f.2.2.symm⟩
     obtain ⟨_,_,ec,ey⟩:=p hs.agree
     subst ec
     cases eq_of_heq ey
     have a:=Bd b hr2
     subst a
     refine EZ (j:=qq) (d:=d) (R:=(bX.arr e0 c1 r2).row) ho hm hs hg hd.dg hdd hao hfl.2 (fun W0 hA=>?_) (hk _ _ ?_ h2)
     ·obtain ⟨a1,a2,_⟩:=p hA
      have w:W0.rows qq=some (bX.arr e0 c1 y).row:=hA.rows qq _ hrow
      exact HV (X:=X) (S:=W0) hop hcl f1 f2 f3 hF w rfl a1 rfl a2 (fun hq v=>by
       have h3:=hfl.1
       rw [hq,Nat.beq_refl,Bool.true_and,Bool.not_eq_false'] at h3
       exact hP h3 v) hd.dg hfl.2
     rw [hdd]
     exact ((oq (k:=qq) (E:=S.env) (R:=S.rows) (W:=W) hs).set (k:=qq) (r:=.arr e0 c1 r2)).put (d:=d) (v:=.own qq)
    cases h2
   cases h
  cases h
 cases h
theorem xn (hT:cM T=true) (hP:sM T F X) {k:ES->Option β} {r:β} {t:TypeId} {x hi:Operand} (hop:o.op = .slice t x none (some hi) none) (ho:ops[i]?=some o) (hd:dS X o) (hg:o.guard=none) (hs:Sub S W) (h:vD T F lim o t x hi S k=some r)
 (hk:∀ S' W',Sub S' W'->k S'=some r->Wk T.P X ops lim (i+1) l W' q):Wk T.P X ops lim i (o :: l) W q:=by
 unfold vD at h
 split at h
 ·rename_i d e q' j hh hdd he hx hy
  split at h
  ·rename_i e' q2 l0 hrow
   split at h
   ·rename_i l2 hl2 hee hkl
    rw [Bool.or_eq_false_iff] at hkl
    rw [Bool.and_eq_true] at hee
    obtain ⟨a,h2⟩:=jF h
    have a:=a _ rfl
    obtain ⟨f,g⟩:=de hl2
    cases f
    have c:l2=l0:=g
    subst c
    have e1:=beq_true hee.1
    subst e1
    obtain ⟨hu,hM,_⟩:=mC hT he
    obtain ⟨m,g1,g2,_⟩:=hM.info
    have hA:cJ W (find S.env) (fun k=>some (find S.rows k)):=hs.agree (i:=0) (lim:=none)
    have b:W.rows j=some ⟨e,q'.sz,l2.length,l2.flatMap q'.enc⟩:=by rw [hs.rows,hrow];rfl
    refine C4.step (W':=put (setRow (kill W j) j (bX.arr e q' (l2.take hh.toNat)).row) o.dst (.own j)) (.inl hg) ?_ hd.dg (hk _ _ ?_ h2)
    ·have:=Dc (X:=X) (S:=W) hop hu g1 (hA.ev hx rfl) b a.1 (iH hA hy) a.2.1 a.2.2 (fun hq v=>by
      have h3:=hkl.1
      rw [hq,Nat.beq_refl,Bool.true_and,Bool.not_eq_false'] at h3
      exact hP h3 v) hkl.2 hd.dg
     have e2:(bX.arr e q' (l2.take hh.toNat)).row=⟨e,q'.sz,hh.toNat,(l2.flatMap q'.enc).take (hh.toNat*q'.sz)⟩:=by
      simp only [bX.row,my]
      rw [List.length_take,Nat.min_eq_left Q2]
     rw [e2]
     exact this
    rw [hdd]
    exact ((oq (k:=j) (E:=S.env) (R:=S.rows) (W:=W) hs).set (k:=j) (r:=.arr e q' (l2.take hh.toNat))).put (d:=d) (v:=.own j)
   cases h
  cases h
 cases h
theorem BU (v:cW) (p:PV) (h:(Fx v).pv=some p):v.pv=some p/\wA p=false:=by
 cases v with
 | v c x =>
  cases h
  refine ⟨rfl,?_⟩
  cases c<;>rfl
 | tup c x=>cases h
 | mp l=>cases h
 | any=>cases h
 | _=>cases h;exact ⟨rfl,rfl⟩
theorem GU (hT:cM T=true) {k:ES->Option β} {r:β} {t:TypeId} {x y z:Operand} (hop:o.op = .mapUpdate t x y z) (hdst:o.dst=none) (ho:ops[i]?=some o) (hd:dS X o) (hg:o.guard=none) (hs:Sub S W) (h:I7 T lim t x y z S k=some r)
 (hk:∀ S' W',Sub S' W'->k S'=some r->Wk T.P X ops lim (i+1) l W' q):Wk T.P X ops lim i (o :: l) W q:=by
 unfold I7 at h
 split at h
 ·rename_i tm ll s n hmp hy hz hx
  obtain ⟨kt,et,a,q1,q2,q3,q4⟩:=mp_m hT hmp
  have hA:cJ W (find S.env) (fun k=>some (find S.rows k)):=hs.agree (i:=0) (lim:=none)
  refine C4.step (.inl hg) (Gk (P:=T.P) (X:=X) (S:=W) hop hdst q1 q2 (hA.ev hx rfl) (hA.od hy) (hA.od hz)) hd.dg (hk _ _ ?_ h)
  refine ⟨fun u v p f1 f2=>?_,fun j=>hs.rows j⟩
  simp only [find] at f1
  simp only [V.put]
  split at f1
  ·rename_i hb
   cases f1
   cases f2
   rw [if_pos (beq_true hb)]
  rename_i hb
  rw [if_neg (beq_false hb)]
  rw [mA] at f1
  obtain ⟨v0,f3,rfl⟩:=Option.map_eq_some_iff.1 f1
  obtain ⟨f4,f5⟩:=BU v0 p f2
  have:=hs.env u v0 p f3 f4
  simp only [oS,this,Option.bind_some,f5,cond_false]
 cases h
theorem EN {own:List Nat} (hP:sM T F X) (hC:iR T call) {k:ES->Option β} {r:β} {c:Call} {x:Operand} (hop:o.op = .call c) (hcl:c.callee = .value x) (ho:ops[i]?=some o) (hm:jo T ops lim i o) (hd:dS X o) (hg:Ln o.guard ctx=true) (hn:jX prot o.dst=true) (hs:Sub S W) (hc:mH ops ctx prot W) (h:JR T F call lim ctx i o c (qD own x) S k=some r) (hk:LY T X ops lim ctx prot i o l W q k r):Wk T.P X ops lim i (o :: l) W q:=by
 unfold JR at h
 split at h
 ·rename_i g d hx hdd
  split at h
  ·rename_i ts hts hl
   split at h
   ·rename_i vs hlow hvs
    obtain ⟨rr,h1,h2⟩:=Option.bind_eq_some_iff.1 h
    split at h2
    case h_2=>cases h2
    rename_i hval
    have hx:=H7 hx hlow
    obtain ⟨⟨fn,f1,f2,f3⟩,p,hp,hF⟩:=hC.fn g vs rr hl h1
    rw [oD hlow] at f1 hF
    refine pI (v:=qb (T.cT g) (T.out g) rr) (r:=none) ho hm hs (Ct hc hg) hd.dg rfl hval (fun W0 hA=>?_) (hk _ _ ?_ (u6 hc hn) h2 (fun _=>⟨_,rfl⟩))
    ·obtain ⟨a1,a2⟩:=nE hA _ _ _ _ (fun j hj=>by cases hj) hvs
     have:=E3 (X:=X) (S:=W0) hop hcl (.inr (hA.od hx)) f1 f2 f3 a1 (zb a2 0).2.2 hF hd.dg
     show dR T.P X o W0 (gm W0 o.dst _)
     rw [hdd] at this ⊢
     simp only [gm,hp]
     exact this
    rw [hdd]
    exact hs.put
   cases h
  ·rename_i ts j e hts hl
   split at h
   ·rename_i hfun hlow
    have u:=H7 hx hlow
    have b:x = .func g:=by
     have h3:x = .func (real g):=by
      refine AJ (own:=own) ?_
      generalize qD own x=x' at hx hfun
      cases x' with
      | func f =>
       simp only [fV,Option.some.injEq] at hx
       cases hx
       rfl
      | _=>simp at hfun
     rw [oD hlow] at h3
     exact h3
    exact Cu hC hP hop (by rw [hcl,b]) hl hlow hdd ho hm hd (wF hg) hs h (fun S' W' g1 g2=>hk S' W' g1 trivial g2 (fun hx=>by cases hx))
   cases h
  ·rename_i ts j e hts hl
   split at h
   ·rename_i kk hlent hfun
    split at h
    ·rename_i r0 vs hko hrow hvs
     split at h
     ·rename_i tj htj
      split at h
      ·rename_i z0 hlc
       obtain ⟨rr,h1,h2⟩:=Option.bind_eq_some_iff.1 h
       split at h2
       ·rename_i v c2 y2 hout
        split at h2
        ·rename_i qe hqe hrv
         rw [Bool.and_eq_true] at hrv
         obtain ⟨⟨fn,f1,f2,f3⟩,p,hp,yy,hv,hF⟩:=hC.bY g j e vs rr v c2 y2 hl h1 hout
         have q2:=qe.down
         subst q2
         have b:x = .func (real g):=by
          refine AJ (own:=own) ?_
          generalize qD own x=x' at hx hfun
          cases x' with
          | func f =>
           simp only [fV,Option.some.injEq] at hx
           cases hx
           rfl
          | _=>simp at hfun
         refine pI (v:=v) (r:=some (kk,kT e tj y2)) ho hm hs (Ct hc hg) hd.dg hrv.1 hrv.2 (fun W0 hA=>?_) (hk _ _ ?_ trivial h2 (fun hx=>by cases hx))
         ·obtain ⟨a1,a2,e3,t3,y5,m,a⟩:=tX hA (j:=j) (k:=kk) (rd':=kZ lim i S) (fun t v h=>h) _ _ 0 vs (Nat.zero_le _) hvs hlent
          rw [Nat.sub_zero] at a1 a2 a
          rw [a] at hv
          cases hv
          rw [hrow] at m
          cases m
          have n:=yq hlc
          have he:e3=e:=by
           cases tj<;>(cases n;rfl)
          subst he
          have s:W0.rows kk=some (kT e3 tj yy).row:=by
           have:=hA.rows kk _ hrow
           cases tj<;>exact this
          have:=AF (X:=X) (S:=W0) (k:=kk) hop (by rw [hcl,b]) f1 f2 f3 hF s rfl a1 rfl a2 hd.dg (by simpa using hko)
          rw [hdd] at this ⊢
          simp only [gm,hp,oy]
          exact this
         rw [hdd]
         exact (hs.set (k:=kk) (r:=kT e tj y2)).put (d:=d) (v:=v)
        cases h2
       cases h2
      cases h
     cases h
    cases h
   cases h
  cases h
 cases h
theorem Aj (hT:cM T=true) (hP:sM T F X) {k:ES->Option β} {r:β} {c:Call} (hop:o.op = .call c) (hcl:c.callee = .builtin .append) (ho:ops[i]?=some o) (hm:jo T ops lim i o) (hd:dS X o) (hg:o.guard=none) (hs:Sub S W) (h:Ak T F lim i o c S k=some r)
 (hk:∀ S' W',Sub S' W'->k S'=some r->Wk T.P X ops lim (i+1) l W' q):Wk T.P X ops lim i (o :: l) W q:=by
 unfold Ak at h
 split at h
 ·rename_i x y t t' d ha ht hdd
  split at h
  ·rename_i e q' vx vy he hx hy
   split at h
   ·rename_i b mm hb hmm htt
    rw [Bool.and_eq_true] at htt
    have e0:=beq_true htt.1
    subst e0
    obtain ⟨hu,hM,_⟩:=mC hT he
    obtain ⟨⟨inf,g1,g2⟩,p⟩:=LD hT hb
    obtain ⟨B,z,k1,k2,k3,k4,k5⟩:=iN hM htt.2
    rw [g1] at k1
    cases k1
    have m:=(gB htt.2).2
    split at h
    ·rename_i t1 j
     split at h
     ·rename_i e' q2 l0 hrow hao
      split at h
      ·rename_i l2 hl2 hee hkl
       rw [Bool.or_eq_false_iff] at hkl
       have a:(l2.length+mm.length)*b<=140737488355328:=by
        split at h
        ·exact (jF h).1 _ rfl
        exact (jF h).1 _ rfl
       obtain ⟨w,A⟩:=de hl2
       cases w
       have u:l2=l0:=A
       subst u
       have e1:=beq_true hee
       subst e1
       have s:(l2.length+mm.length)*1<=(l2.length+mm.length)*b:=Nat.mul_le_mul_left _ p
       have e4:(⟨e,inf.size,l2.length+mm.length,l2.flatMap q'.enc++mm.flatMap q'.enc⟩:Row)=(bX.arr e q' (l2++mm)).row:=by
        simp only [bX.row,List.length_append,List.flatMap_append,k3]
       split at h
       case h_2 =>
        rename_i hkp
        rw [hkp,Bool.and_false,Bool.not_false,Bool.and_true] at hkl
        obtain ⟨_,h2⟩:=jF h
        have e5:(Ty.pv (.list q') (l2++mm)) = .cv (.row (l2.length+mm.length) (l2.flatMap q'.enc++mm.flatMap q'.enc)):=by
         show PV.cv (.row (l2++mm).length ((l2++mm).flatMap q'.enc))=_
         rw [List.length_append,List.flatMap_append]
        refine Ki (j:=j) (d:=d) (c:=.row (l2.length+mm.length) (l2.flatMap q'.enc++mm.flatMap q'.enc)) rfl ho hm hs hg hd.dg hdd hao (fun W0 hA=>?_) (hk _ _ ?_ h2)
        ·have n:ev W0 (.tmp t1)=some (.own j):=hA.ev hx rfl
         have g:=hA.ev hy (fw hmm)
         have f:W0.rows j=some ⟨e,q'.sz,l2.length,l2.flatMap q'.enc⟩:=hA.rows j _ hrow
         exact vk (X:=X) (S:=W0) hop hcl (ir ha) (ir ht) hu g1 k2 (by rw [k4,k3]) (by rw [k3];exact m) n f rfl k3.symm g (by rw [k3,eQ]) (pg mm) (by
          show l2.length+mm.length<=maxLen
          simp only [maxLen];omega) (by rw [g2];exact a) (beq_false hkl.1) hkl.2 hd.dg
        rw [hdd]
        have h5:=(AK (k:=j) (E:=S.env) (R:=S.rows) (W:=W) hs).put (d:=d) (v:=.v (.list q') (l2++mm))
        simp only [gm,cW.pv,e5] at h5
        exact h5
       obtain ⟨_,h2⟩:=jF h
       refine EZ (j:=j) (d:=d) (R:=(bX.arr e q' (l2++mm)).row) ho hm hs hg hd.dg hdd hao hkl.2 (fun W0 hA=>?_) (hk _ _ ?_ h2)
       ·have n:ev W0 (.tmp t1)=some (.own j):=hA.ev hx rfl
        have g:=hA.ev hy (fw hmm)
        have f:W0.rows j=some ⟨e,q'.sz,l2.length,l2.flatMap q'.enc⟩:=hA.rows j _ hrow
        have:=vm (X:=X) (S:=W0) hop hcl (ir ha) (ir ht) hu g1 k2 (by rw [k4,k3]) (by rw [k3];exact m) n f rfl k3.symm g (by rw [k3,eQ]) (pg mm) (by
         show l2.length+mm.length<=maxLen
         simp only [maxLen];omega) (by rw [g2];exact a) (pin_of hP hkl.1) hkl.2 hd.dg
        rw [<- e4]
        exact this
       rw [hdd]
       exact ((oq (k:=j) (E:=S.env) (R:=S.rows) (W:=W) hs).set (k:=j) (r:=.arr e q' (l2++mm))).put (d:=d) (v:=.own j)
      cases h
     cases h
    ·split at h
     ·rename_i hrow hval hro
      obtain ⟨a,h2⟩:=jF h
      have a:=a _ rfl
      have s:mm.length*1<=mm.length*b:=Nat.mul_le_mul_left _ p
      refine pI (v:=.own d) (r:=some (d,.arr e q' mm)) ho hm hs (.inl hg) hd.dg hro hval (fun W0 hA=>?_) (hk _ _ ?_ h2)
      ·have g:=hA.ev hy (fw hmm)
       have f:W0.rows d=none:=hA.rows d _ hrow
       have:=yM (X:=X) (W:=W0) (k:=d) hop hcl (ir ha) (ir ht) hu g1 k2 (by rw [k4,k3]) (by rw [k3];exact m) g (by rw [k3,eQ]) (pg mm) (by simp only [maxLen];omega) (by rw [g2];exact a) f (hd d hdd).2 hd.dg
       rw [k3] at this
       rw [hdd] at this ⊢
       exact this
      rw [hdd]
      have h5:Sub (S.set d (.arr e q' mm)) (setRow W d (bX.arr e q' mm).row):=hs.set
      exact h5.put (d:=d) (v:=.own d)
     cases h
    cases h
   cases h
  cases h
 cases h
end
section
variable {T:gv} {X:Ctx} {ops:List Oper} {lim:Option (List Meta)} {F:Nat} {call:(g:Nat)->List cW->Option (T.out g).den}
theorem Kn {i:Nat} {o:Oper} {t:Ty} {y:t.den} (hm:jo T ops lim i o) (hg:tF T o=none):lU lim i (.v t y)=true:=by
 cases lim with
 | none=>rfl
 | some ms =>
  obtain ⟨m,h1,_,_,h4⟩:=hm
  have hk:m.kl=none:=h4.resolve_right (fun h=>by obtain ⟨_,t,ht⟩:=h;rw [hg] at ht;cases ht)
  simp only [lU,h1,hk]
  cases m.rf<;>rfl
theorem Fh {i:Nat} {S S':ES} {t:Nat} {v:cW} (h:kZ lim i S t=some v) {t':Nat} {u:cW} {c:Ty} {y:c.den} (hv:u = .v c y) (hf:find S'.env t'=some u) (ht:t'=t):kZ lim i S' t'=some u:=by
 subst ht
 subst hv
 cases lim with
 | none=>exact hf
 | some ms =>
  cases hm:ms[i]? with
  | none=>simp only [kZ,hm] at h;cases h
  | some m =>
   cases hb:mem m.rt t' with
   | false=>simp only [kZ,hm,hb] at h;cases h
   | true =>
    simp only [kZ,hm,hb,hf]
    cases m.rf<;>rfl
theorem IY (hT:cM T=true) (hC:iR T call) (hP:sM T F X) {β:Type} {S:ES} {W:St} {o:Oper} {ctx:Option (Nat×Bool)} {prot:List Nat} {i:Nat} {l:List Oper} {q:St->Prop} {k:ES->Option β} {r:β} (ho:ops[i]?=some o) (hm:jo T ops lim i o) (hd:dS X o) (hg:Ln o.guard ctx=true) (hn:jX prot o.dst=true) (hs:Sub S W) (hc:mH ops ctx prot W) (h:opE T F call lim ctx i o S k=some r) (hk:LY T X ops lim ctx prot i o l W q k r):Wk T.P X ops lim i (o :: l) W q:=by
 have d:∀ (k':ES->Option β),tc T F lim ctx i o (mL ctx lim ((S.gh (handed T ((find T.own F).getD []) [] S o)).fresh ((find T.own F).getD []) o) S) k=some r->Wk T.P X ops lim i (o :: l) W q:=by
  intro _ h
  obtain ⟨W1,h1,h2,h3,h4⟩:=pM (T:=T) (X:=X) (lim:=lim) (i:=i) (ctx:=ctx) (A:=(S.gh (handed T ((find T.own F).getD []) [] S o)).fresh ((find T.own F).getD []) o) (fun a w hr=>tG _ o a w (fX _ _ a w hr)) hs hc
  refine h4 _ _ (BI hT ho hm hd hg hn h1 h2 h (fun S' W' g1 g2 g3 g4=>hk S' W' g1 g2 g3 (fun hx=>?_)))
  rw [<- h3 hx]
  exact g4 hx
 unfold opE at h
 split at h
 ·rename_i c hop
  split at h
  ·rename_i x hcl
   obtain ⟨W1,h1,h2,h3,h4⟩:=pM (T:=T) (X:=X) (lim:=lim) (i:=i) (ctx:=ctx) (A:=S.gh (lK S (kept T (qD ((find T.own F).getD []) x) c.args.toList))) (fX _ _) hs hc
   refine h4 _ _ (EN hP hC hop hcl ho hm hd hg hn h1 h2 h (fun S' W' g1 g2 g3 g4=>hk S' W' g1 g2 g3 (fun hx=>?_)))
   rw [<- h3 hx]
   exact g4 hx
  ·rename_i b hcl
   split at h
   ·exact d k h
   rename_i hb
   split at h
   ·have e:c.callee = .builtin .append:=by
     rw [hcl]
     cases b<;>first | rfl | (cases hb;done)
    have f:o.guard=none:=wF hg
    obtain ⟨W1,h1,h2,h3,h4⟩:=pM (T:=T) (X:=X) (lim:=lim) (i:=i) (ctx:=none) (prot:=prot) (ops:=ops) (A:=(S.gh (lK S (c.args.toList.drop 1))).fresh ((find T.own F).getD []) o) (fun a w hr=>tG _ o a w (fX _ _ a w hr)) hs trivial
    exact h4 _ _ (Aj hT hP hop e ho hm hd f h1 h (fun S' W' g1 g2=>hk S' W' g1 trivial g2 (fun hx=>by cases hx)))
   cases h
  cases h
 ·rename_i c x y hop
  exact D1 hop ho hm hd hg hn hs hc h hk
 ·rename_i t x y z hop
  split at h
  ·rename_i hdst
   exact GU hT hop hdst ho hd (wF hg) hs h (fun S' W' g1 g2=>hk S' W' g1 trivial g2 (fun hx=>by cases hx))
  cases h
 ·rename_i t x hi hop
  split at h
  ·exact xn hT hP hop ho hd (wF hg) hs h (fun S' W' g1 g2=>hk S' W' g1 trivial g2 (fun hx=>by cases hx))
  exact d k h
 exact d k h
theorem xM (hT:cM T=true) (hC:iR T call) (hP:sM T F X) (hdst:∀ (n:Nat) (o:Oper),ops[n]?=some o->dS X o) (hmeta:∀ (n:Nat) (o:Oper),ops[n]?=some o->jo T ops lim n o) :
 ∀ (n:Nat) (β:Type) (ctx:Option (Nat×Bool)) (prot:List Nat) (i:Nat) (l:List Oper) (S:ES) (K:ES->Option β) (r:β),run T F call ops lim n β ctx prot i l S K=some r->∀ (W:St) (q:St->Prop),(∀ (m:Nat) (o:Oper),l[m]?=some o->ops[i+m]?=some o)->Sub S W->mH ops ctx prot W ->
  (∀ S' W',Sub S' W'->K S'=some r->(ctx.isSome=true->Frame l W W')->q W')->Wk T.P X ops lim i l W q:=by
 intro n
 induction n with
 | zero=>intro β ctx prot i l S K r h;cases h
 | succ n ih =>
  intro β ctx prot i l S K r h W q hl hs hc hK
  cases l with
  | nil=>exact HD (hK S W hs h (fun _=>wH _ _))
  | cons o l' =>
   have ho:=hl 0 o rfl
   rw [Nat.add_zero] at ho
   simp only [run] at h
   split at h
   ·rename_i hg
    split at h
    ·cases h
    rename_i hn
    refine IY hT hC hP ho (hmeta i o ho) (hdst i o ho) hg hn hs hc h (fun S' W' g1 g2 g3 g4=>ih β ctx prot (i+1) l' S' K r g3 W' q (fun m o' hm=>?_) g1 g2 (fun S2 W2 k1 k2 k3=>hK S2 W2 k1 k2 (fun hx=>?_)))
    ·have:=hl (m+1) o' (by simpa using hm)
     rw [show i+1+m=i+(m+1) by omega]
     exact this
    obtain ⟨v,hv⟩:=g4 hx
    exact tI (v:=v) (by rw [<- hv];exact k3 hx)
   rename_i hg
   split at h
   ·cases h
   rename_i j w hgd
   split at h
   ·cases h
   rename_i t htj
   obtain ⟨oj,hj,ab⟩:=Option.bind_eq_some_iff.1 htj
   split at h
   ·cases h
   rename_i G pk rest hcut
   obtain ⟨I,px,py,c⟩:=FZ _ _ _ _ hcut
   obtain ⟨W1,h1,h2,h3,h4⟩:=pM (T:=T) (X:=X) (lim:=lim) (i:=i) (ctx:=ctx) (A:=ES.lA T ((find T.own F).getD []) [] S G) (pf _ _ _ _) hs hc
   generalize mL ctx lim (ES.lA T ((find T.own F).getD []) [] S G) S=S1 at h h1
   split at h
   ·rename_i b c0 x y d hft hin hpg hpn hpo hpd
    rw [c] at hpo
    cases hpo
    split at h
    ·rename_i other b1 hoth htst
     obtain ⟨y',e1,e2⟩:=Option.bind_eq_some_iff.1 h
     refine h4 _ _ ?_
     rw [I]
     have s:∀ (m:Nat) (o':Oper),(G++pk :: rest)[m]?=some o'->ops[i+m]?=some o':=by rw [<- I];exact hl
     have hG:∀ (m:Nat) (o':Oper),G[m]?=some o'->ops[i+m]?=some o':=fun m o' hm=>s m o' (by rw [List.getElem?_append_left (List.getElem?_eq_some_iff.1 hm).1];exact hm)
     have a:ops[i+G.length]?=some pk:=s G.length pk (by rw [List.getElem?_append_right (Nat.le_refl _),Nat.sub_self];rfl)
     have U:∀ (m:Nat) (o':Oper),rest[m]?=some o'->ops[i+G.length+1+m]?=some o':=fun m o' hm=>by
      have:=s (G.length+1+m) o' (by rw [List.getElem?_append_right Q2,show G.length+1+m-G.length=m+1 by omega];simpa using hm)
      rw [show i+G.length+1+m=i+(G.length+1+m) by omega]
      exact this
     have aa:=Ck G i hin
     have H:∀ o'∈G,jX (t :: prot) o'.dst=true:=fun o' ho'=>by
      obtain ⟨m,hm⟩:=List.getElem?_of_mem ho'
      exact (aa m o' hm).1
     have B:∀ o'∈G,o'.dst≠some t:=fun o' ho' e=>by
      have:=H o' ho'
      rw [e] at this
      simp [jX,mem,Nat.beq_refl] at this
     have N:∀ o'∈G,jX prot o'.dst=true:=fun o' ho'=>by
      have:=H o' ho'
      cases hd:o'.dst with
      | none=>rfl
      | some d' =>
       rw [hd] at this
       simp only [jX,Bool.not_eq_true'] at this ⊢
       cases hb:mem prot d' with
       | false=>rfl
       | true =>
        have:mem (t :: prot) d'=true:=mem_iff.2 (List.mem_cons_of_mem _ (mem_iff.1 hb))
        simp_all
     have Q:W1.env t=some (.bool b):=h1.env t _ _ hft rfl
     have k:∀ W',Frame G W1 W'->∀ (Sp:ES),Sub Sp W'->(∀ W0,cJ W0 (kZ lim (i+G.length) Sp) (uD lim (i+G.length) Sp)->dR T.P X pk W0 (gm (oy W0 none) pk.dst (.v .bool y')))->Wk T.P X ops lim (i+G.length) (pk :: rest) W' q:=by
      intro W' hf Sp L O
      have Y:=Hg h2 hf N
      refine pI (v:=.v .bool y') (r:=none) a (hmeta _ _ a) L (Ct Y hpg) (hdst _ _ a).dg rfl (Kn (hmeta _ _ a) (by rw [tF,c])) O ?_
      refine ih β ctx prot (i+G.length+1) rest _ K r e2 _ q U ?_ (u6 Y hpn) (fun S2 W2 k1 k2 k3=>hK S2 W2 k1 k2 (fun hx=>?_))
      ·rw [hpd]
       exact (vr h1 hf).put
      have V:=tI (v:=.v .bool y') (k3 hx)
      rw [h3 hx] at hf
      rw [I]
      exact ⟨V.1.trans hf.1,fun u hu=>(V.2 u (fun o' ho'=>hu o' (List.mem_append_right _ ho'))).trans (hf.2 u (fun o' ho'=>hu o' (List.mem_append_left _ ho')))⟩
     have Z:∀ (Sx:ES),find Sx.env t=some (.v .bool b)->kZ lim (i+G.length) Sx t=some (.v .bool b):=by
      intro Sx hx
      unfold pz at htst
      split at htst
      ·rename_i b' hb'
       exact Fh (v:=.v .bool b') (t:=t) hb' rfl hx rfl
      cases htst
     have ac:find (S1.forget G).env t=some (.v .bool b):=by rw [kd G S1 t B];exact hft
     refine wk_app ?_
     have C:b=w->run T F call ops lim n Bool (some (j,w)) (t :: prot) i G S1 (fun S'=>pz (kZ lim (i+G.length) S') (match w with | true=>px | false=>py))=some y'->Wk T.P X ops lim i G W1 (fun W'=>Wk T.P X ops lim (i+G.length) (pk :: rest) W' q):=by
      intro hbw hrun
      refine ih Bool (some (j,w)) (t :: prot) i G S1 _ y' hrun W1 _ hG h1 ⟨oj,t,hj,ab,List.mem_cons_self,by rw [Q,hbw]⟩ (fun S' W' k1 k2 k3=>?_)
      have hf:=k3 rfl
      have R:W'.env t=some (.bool b):=by rw [hf.2 t B];exact Q
      have L:Sub (S'.put t (.v .bool b)) W':=by
       refine ⟨fun u v p f1 f2=>?_,k1.rows⟩
       simp only [ES.put,find] at f1
       split at f1
       ·rename_i hb
        cases f1
        have:=beq_true hb
        subst this
        cases f2
        exact R
       exact k1.env u v p f1 f2
      refine k W' hf (S'.put t (.v .bool b)) L (fun W0 hA=>?_)
      have D:ev W0 (.tmp t)=some (.bool b):=hA.od (x:=.tmp t) (Z _ (by simp [ES.put,find,Nat.beq_refl]))
      have O:∀ z:Operand,pz (kZ lim (i+G.length) S') z=some y'->ev W0 z=some (.bool y'):=by
       intro z hz
       unfold pz at hz
       split at hz
       ·rename_i b' hb'
        cases hz
        cases z with
        | tmp u =>
         have M:kZ lim (i+G.length) S' u=some (.v .bool y'):=hb'
         by_cases cu:u=t
         ·subst cu
          have:=k1.env u _ _ (oE M) rfl
          rw [R] at this
          cases this
          exact D
         refine hA.od (x:=.tmp u) (t:=.bool) (y:=y') ?_
         have ad:find (S'.put t (.v .bool b)).env u=find S'.env u:=by
          simp only [ES.put,find]
          have:Nat.beq u t=false:=by
           cases hb:Nat.beq u t with
           | false=>rfl
           | true=>exact absurd (beq_true hb) cu
          rw [this]
         exact Fh (t:=u) M rfl (by rw [ad];exact oE M) rfl
        | const cc=>exact hA.od (x:=.const cc) hb'
        | func f=>cases hb'
        | global g=>cases hb'
       cases hz
      have hz:=O _ k2
      refine Fm (hdst _ _ a) hpd c D (fun hb=>?_) (fun hb=>?_)
      ·rw [hbw] at hb;subst hb;exact hz
      rw [hbw] at hb;subst hb;exact hz
     have J:b = !w->other=y'->Wk T.P X ops lim i G W1 (fun W'=>Wk T.P X ops lim (i+G.length) (pk :: rest) W' q):=by
      intro hbw hy'
      subst hy'
      refine Bc (i:=i) hdst hmeta hj ab (List.mem_cons_self (l:=prot)) G i W1 hG (Nat.le_refl _) aa (by rw [Q,hbw]) (fun m hm1 hm2=>Q2) (fun W' hf R=>?_)
      refine k W' hf (S1.forget G) (vr h1 hf) (fun W0 hA=>?_)
      have D:ev W0 (.tmp t)=some (.bool b):=hA.od (x:=.tmp t) (Z _ ac)
      have hz:=CT hA hoth
      refine Fm (hdst _ _ a) hpd c D (fun hb=>?_) (fun hb=>?_)
      ·have:w=false:=by rw [hb] at hbw;cases w with
        | false=>rfl
        | true=>cases hbw
       subst this;exact hz
      have:w=true:=by rw [hb] at hbw;cases w with
       | false=>cases hbw
       | true=>rfl
      subst this;exact hz
     cases w with
     | true =>
      cases b with
      | true=>exact C rfl e1
      | false=>exact J rfl (Option.some.inj e1)
     | false =>
      cases b with
      | true=>exact J rfl (Option.some.inj e1)
      | false=>exact C rfl e1
    cases h
   cases h
end
section
variable {T:gv} {X:Ctx} {F nt:Nat} {call:(g:Nat)->List cW->Option (T.out g).den} {β:Type}
theorem FX:∀ (ops:List Oper),zU nt ops=true->X.nt=nt->nt<=bY->∀ (n:Nat) (o:Oper),ops[n]?=some o->dS X o
 | o :: ops,h,hX,hl,n,o',hn,d,hd=>by
  simp only [zU,Bool.and_eq_true] at h
  cases n with
  | zero =>
   cases hn
   have h1:=h.1
   simp only [hd] at h1
   have h2:d<nt:=Nat.le_of_ble_eq_true h1
   exact ⟨by rw [hX];exact h2,Nat.ne_of_lt (Nat.lt_of_lt_of_le h2 hl)⟩
  | succ n=>exact FX ops h.2 hX hl n o' (by simpa using hn) d hd
 | [],_,_,_,n,o',hn,_,_=>by simp at hn
theorem zc (hT:cM T=true) (hC:iR T call) (hP:sM T F X) (hmix:T.P.follows .mixedOrders=true) {id:Nat} {ops:List Oper} {draw:Bool} {S:ES} {K:ES->Option β} {r:β} (hX:X.nt=nt) (h:region T F nt call ops draw S K=some r) {W:St} {Q:jM} (hs:Sub S W) (hK:∀ S' W',Sub S' W'->K S'=some r->Q .normal W'):nG T.P X (.region id ops.toArray draw) W Q:=by
 unfold region at h
 split at h
 ·cases h
 rename_i hd
 rw [Bool.and_eq_true] at hd
 have b:=FX (X:=X) ops hd.1 hX (Nat.le_of_ble_eq_true hd.2)
 split at h
 ·rename_i g hh
  split at h
  ·rename_i y hy
   refine hC.hook ops draw S g y hh hy X id W Q (fun n o hn=>?_) hs (fun W' h1=>hK _ _ h1 h)
   unfold dg
   cases hdd:o.dst with
   | none=>trivial
   | some d=>exact (b n o hn d hdd).1
  cases h
 split at h
 ·have:=xM (X:=X) (ops:=ops) (lim:=none) (F:=F) hT hC hP b (fun n o _=>trivial) _ β none [] 0 ops S K r h W (fun S'=>Q .normal S') (fun m o hm=>by rw [Nat.zero_add];exact hm) hs trivial (fun S' W' h1 h2 _=>hK S' W' h1 h2)
  exact ab (KO this)
 dsimp only at h
 split at h
 ·rename_i hm hA hO
  obtain ⟨g1,g2⟩:=B5 ops _ hm
  have:=xM (X:=X) (ops:=ops) (lim:=some _) (F:=F) hT hC hP b g2 _ β none [] 0 ops (ES.lA T ((find T.own F).getD []) [] S ops) K r h (ES.lA T ((find T.own F).getD []) [] S ops).st (fun S'=>Q .normal S') (fun m o hm=>by rw [Nat.zero_add];exact hm) (oo _) trivial (fun S' W' h1 h2 _=>hK S' W' h1 h2)
  refine eF (fun a w hr=>pf (T:=T) ((find T.own F).getD []) [] ops S a w (kh hs a w hr)) ?_
  have c:=Jy (X:=X) (P:=T.P) (q:=fun S'=>Q .normal S') g1.symm ops 0 _ Q2 this
  rw [List.drop_zero] at c
  exact Dv _ _ c hA hO hmix
 cases h
theorem tz:∀ (l:List (Nat×Bool×TypeId)) (S:ES),∀ a w,Rel X S.st a w->Rel X (ym l S).st a w
 | [],S,a,w,h=>h
 | x :: l,S,a,w,h=>by
  simp only [ym]
  split
  ·exact tz l S a w h
  exact tz l _ a w (fX _ _ a w h)
theorem gd {S:ES}:∀ (l:List (Nat×Bool×TypeId)) (t:Nat) (v:cW),find (iD T S l) t=some v->∃ u,find S.env t=some u/\u.pv=v.pv
 | [],t,v,h=>by cases h
 | x :: l,t,v,h=>by
  simp only [iD] at h
  split at h
  ·exact gd l t v h
  ·exact gd l t v h
  ·exact gd l t v h
  ·exact gd l t v h
  ·rename_i hf
   split at h
   ·rename_i c hc
    simp only [find] at h
    split at h
    ·rename_i hb
     cases h
     rw [beq_true hb]
     exact ⟨_,hf,rfl⟩
    exact gd l t v h
   exact gd l t v h
  ·rename_i u _ _ _ _ _ hf
   simp only [find] at h
   split at h
   ·rename_i hb
    cases h
    rw [beq_true hb]
    exact ⟨_,hf,rfl⟩
   exact gd l t v h
  exact gd l t v h
theorem iC {S:ES}:∀ (l:List (Nat×Bool×TypeId)) (t:Nat) (v:cW),(t,v)∈iD T S l->(∀ fs,v≠.st fs)/\∀ c x,v≠.tup c x
 | [],t,v,h=>by cases h
 | x :: l,t,v,h=>by
  simp only [iD] at h
  split at h
  ·exact iC l t v h
  ·exact iC l t v h
  ·exact iC l t v h
  ·exact iC l t v h
  ·split at h
   ·rcases List.mem_cons.1 h with h | h
    ·cases h
     exact ⟨fun fs e=>(by cases e),fun c x e=>(by cases e)⟩
    exact iC l t v h
   exact iC l t v h
  ·rename_i u h1 h2 h3 h4 h5 hf
   rcases List.mem_cons.1 h with h | h
   ·cases h
    exact ⟨fun fs e=>h3 fs e,fun c x e=>h4 c x e⟩
   exact iC l t v h
  exact iC l t v h
theorem th {S:ES} {acc:List (Nat×bX)} (hacc:∀ k r,find acc k=some r->find S.rows k=some r):∀ (js:List Nat) (k:Nat) (r:bX),find (kI S acc js) k=some r->find S.rows k=some r
 | [],k,r,h=>hacc k r h
 | j :: js,k,r,h=>by
  simp only [kI] at h
  split at h
  ·rename_i r0 hr0
   simp only [find] at h
   split at h
   ·rename_i hb
    cases h
    rw [beq_true hb]
    exact hr0
   exact th hacc js k r h
  exact th hacc js k r h
theorem tf {S:ES} {acc:List (Nat×bX)} {k:Nat} {r:bX} (h:find acc k=some r) (hr:find S.rows k=some r):∀ (js:List Nat),find (kI S acc js) k=some r
 | []=>h
 | j :: js=>by
  simp only [kI]
  split
  ·rename_i r0 hr0
   simp only [find]
   split
   ·rename_i hb
    rw [beq_true hb] at hr
    rw [<- hr0,hr]
   exact tf h hr js
  exact tf h hr js
theorem pW {S:ES}:∀ (l:List (Nat×cW)) (k:Nat) (r:bX),find (keepRows S l) k=some r->find S.rows k=some r
 | [],k,r,h=>by
  simp only [keepRows] at h
  split at h
  ·rename_i r0 hr0
   simp only [find] at h
   split at h
   ·rename_i hb
    cases h
    rw [beq_true hb]
    exact hr0
   cases h
  cases h
 | x :: l,k,r,h=>by
  simp only [keepRows] at h
  split at h
  ·exact pW l k r h
  split at h
  ·rename_i r0 hr0
   simp only [find] at h
   split at h
   ·rename_i hb
    cases h
    rw [beq_true hb]
    exact hr0
   exact th (fun k r h=>pW l k r h) _ k r h
  exact pW l k r h
theorem sw {S:ES}:∀ (l:List (Nat×cW)) (t:Nat) (v:cW) (k:Nat) (r:bX),(t,v)∈l->leadsTo v=some k->find S.rows k=some r->find (keepRows S l) k=some r
 | x :: l,t,v,k,r,hm,hv,hr=>by
  simp only [keepRows]
  rcases List.mem_cons.1 hm with h | h
  ·subst h
   simp only [hv,hr,find,Nat.beq_refl]
  split
  ·exact sw l t v k r h hv hr
  split
  ·rename_i k0 _ r0 hr0
   simp only [find]
   split
   ·rename_i hb
    have:=beq_true hb
    subst this
    rw [hr] at hr0
    exact hr0.symm
   exact tf (sw l t v k r h hv hr) hr _
  exact sw l t v k r h hv hr
theorem I4 (lv:List (Nat×Bool×TypeId)) (S:ES):∀ a w,Rel X S.st a w->Rel X (norm T lv S).st a w:=by
 intro a w h
 have h1:=tz lv S a w h
 unfold norm
 generalize ym lv S=S1 at h1
 dsimp only
 split
 case h_2=>exact h1
 rename_i hown
 have env:∀ t p,(ES.st ⟨iD T S1 lv,keepRows S1 (iD T S1 lv)⟩).env t=some p->S1.st.env t=some p/\∃ v,(t,v)∈iD T S1 lv/\v.pv=some p:=by
  intro t p ht
  simp only [ES.st] at ht ⊢
  obtain ⟨v,h2,h3⟩:=Option.bind_eq_some_iff.1 ht
  obtain ⟨u,h4,h5⟩:=gd lv t v h2
  exact ⟨by rw [h4];simp only [Option.bind_some,h5,h3],v,gS h2,h3⟩
 have rows:∀ k r,(ES.st ⟨iD T S1 lv,keepRows S1 (iD T S1 lv)⟩).rows k=some r->S1.st.rows k=some r:=by
  intro k r hk
  simp only [ES.st] at hk ⊢
  obtain ⟨x,h2,rfl⟩:=Option.map_eq_some_iff.1 hk
  rw [pW _ k x h2]
  rfl
 refine h1.less (fun t p ht=>(env t p ht).1) rows (fun t p ht w F L v hv=>?_) (fun j r hj=>?_)
 ·obtain ⟨_,u,hu,hp⟩:=env t p ht
  have iE:∀ k r,leadsTo u=some k->S1.st.rows k=some r->(ES.st ⟨iD T S1 lv,keepRows S1 (iD T S1 lv)⟩).rows k=some r:=by
   intro k r hk hr
   simp only [ES.st] at hr ⊢
   obtain ⟨x,h2,rfl⟩:=Option.map_eq_some_iff.1 hr
   rw [sw _ t u k x hu hk h2]
   rfl
  obtain ⟨g,f⟩:=iC lv t u hu
  cases u with
  | v c x =>
   cases hp
   have d:closed (c.pv x)=true:=jK c x
   generalize c.pv x=p at hv d
   cases hv with
   | cv h=>exact .cv h
   | ag hl h=>exact .ag hl h
   | pr vs hs hF hc hd=>exact .pr vs hs hF hc hd
   | tup=>cases d
   | own=>cases d
   | win=>cases d
   | po=>cases d
   | map=>cases d
  | tup c x=>exact absurd rfl (f c x)
  | st fs=>exact absurd rfl (g fs)
  | nilS=>cases hp;cases hv with | cv h=>exact .cv h
  | undef=>cases hp;cases hv with | cv h=>exact .cv h
  | any=>cases hp
  | own k =>
   cases hp
   cases hv with
   | own h=>exact .own (iE _ _ rfl h)
  | po k off p =>
   cases hp
   cases hv with
   | po h hL ho=>exact .po (iE _ _ rfl h) hL ho
  | pe k i sz off p =>
   cases hp
   cases hv with
   | po h hL ho=>exact .po (iE _ _ rfl h) hL ho
  | pr c x =>
   cases hp
   cases hv with
   | pr vs hs hF hc hd=>exact .pr vs hs hF hc hd
  | pa k off p n i sz =>
   cases hp
   cases hv with
   | po h hL ho=>exact .po (iE _ _ rfl h) hL ho
  | wn k n =>
   cases hp
   cases hv with
   | win h hL ho hn hb ha=>exact .win (iE _ _ rfl h) hL ho hn hb ha
  | mp l =>
   cases hp
   cases hv with
   | map hF hn hb he=>exact .map hF hn hb he
 cases hf:find (keepRows S1 (iD T S1 lv)) j with
 | some x=>exact .inl ⟨x.row,by simp only [ES.st,hf,Option.map_some]⟩
 | none =>
  refine .inr ⟨fun k r hk ho=>?_,fun t p ht=>?_⟩
  ·simp only [ES.st] at hk
   obtain ⟨x,h2,rfl⟩:=Option.map_eq_some_iff.1 hk
   cases x with
   | arr e t l=>exact mM (jG l) j
   | box e t y=>exact iX t y j
   | obox e fs =>
    show (dM fs).any (ik j)=false
    cases hc:(dM fs).any (ik j) with
    | false=>rfl
    | true =>
     have hm:=(fZ fs j).1 hc
     simp only [IP,List.all_eq_true] at hown
     have:=hown _ (gS h2) j hm
     simp only [ES.st] at hj
     obtain ⟨y,hy,_⟩:=Option.map_eq_some_iff.1 hj
     rw [hf,hy] at this
     cases this
  obtain ⟨_,u,hu,hp⟩:=env t p ht
  obtain ⟨g,f⟩:=iC lv t u hu
  cases u with
  | v c x =>
   cases hp
   cases c with
   | pair a b=>exact iX (.pair a b) x j
   | arr n e=>exact iX (.arr n e) x j
   | _=>rfl
  | tup c x=>exact absurd rfl (f c x)
  | st fs=>exact absurd rfl (g fs)
  | any=>cases hp
  | _=>cases hp;rfl
theorem qL (F id:Nat) (S:ES):∀ a w,Rel X S.st a w->Rel X (lL T F id S).st a w:=by
 intro a w h
 unfold lL
 split
 ·exact h
 split
 ·exact h
 exact I4 _ _ a w h
def Says (T:gv) (X:Ctx) (c:Code) (run:ES->(Exit->ES->Option β)->Option β):Prop :=
 ∀ (S:ES) (K:Exit->ES->Option β) (r:β),run S K=some r->∀ (W:St) (Q:jM),Sub S W->(∀ e S' W',Sub S' W'->K e S'=some r->Q e W')->nG T.P X c W Q
theorem wm {c:Code} {stp:ES->(Exit->ES->Option β)->Option β} {nm:ES->ES} (hnm:∀ S a w,Rel X (ES.st S) a w->Rel X (nm S).st a w) (h:Says T X c stp):∀ (n:Nat) (S:ES) (K:Exit->ES->Option β) (r:β),Cc nm stp n S K=some r->∀ (W:St) (Q:jM),Sub S W->(∀ e S' W',Sub S' W'->K e S'=some r->Q e W')->uQ T.P X c W Q
 | 0,S,K,r,hr,W,Q,hs,hK=>by cases hr
 | n+1,S,K,r,hr,W,Q,hs,hK=>by
  refine bE (h S _ r hr W _ hs (fun e S' W' h1 h2=>?_))
  cases e with
  | normal=>exact pN (fun a w hr=>hnm S' a w (kh h1 a w hr)) (wm hnm h n (nm S') K r h2 _ Q (oo _) hK)
  | _=>exact hK _ _ _ h1 h2
theorem nB (hT:cM T=true) (hC:iR T call) (hP:sM T F X) (hmix:T.P.follows .mixedOrders=true) (hX:X.nt=nt) {n:Nat}:∀ (c:Code),Says T X c (fun S (K:Exit->ES->Option β)=>code T F nt call n c S K):=by
 intro c
 induction c with
 | skip=>intro S K r h W Q hs hK;exact aG (hK _ _ _ hs h)
 | label l=>intro S K r h W Q hs hK;exact Gs (hK _ _ _ hs h)
 | exit i=>intro S K r h W Q hs hK;exact bG (hK _ _ _ hs h)
 | ret=>intro S K r h W Q hs hK;exact aV (hK _ _ _ hs h)
 | region id ops draw =>
  intro S K r h W Q hs hK
  have:=zc (X:=X) (Q:=Q) (id:=id) hT hC hP hmix hX h hs (fun S' W' h1 h2=>hK _ _ _ h1 h2)
  rwa [Array.toArray_toList] at this
 | seq a b iha ihb =>
  intro S K r h W Q hs hK
  refine ae (iha S _ r h W _ hs (fun e S' W' h1 h2=>?_))
  cases e with
  | normal=>exact eF (fun a w hr=>qL _ _ S' a w (kh h1 a w hr)) (ihb _ K r h2 _ Q (oo _) hK)
  | _=>exact hK _ _ _ h1 h2
 | cond x a b iha ihb =>
  intro S K r h W Q hs hK
  simp only [code] at h
  split at h
  ·rename_i v hv
   have hA:cJ W (find S.env) (fun k=>some (find S.rows k)):=hs.agree (i:=0) (lim:=none)
   refine aC (CT hA hv) (fun hb=>?_) (fun hb=>?_)
   ·rw [hb] at h;exact iha S K r h W Q hs hK
   rw [hb] at h;exact ihb S K r h W Q hs hK
  cases h
 | block i c ih =>
  intro S K r h W Q hs hK
  refine aD (ih S _ r h W _ hs (fun e S' W' h1 h2=>?_))
  cases e with
  | exit j =>
   show if j=i then Q .normal W' else Q (.exit j) W'
   dsimp only at h2
   split at h2
   ·rename_i hb
    rw [if_pos (beq_true hb)]
    exact hK _ _ _ h1 h2
   rename_i hb
   rw [if_neg (beq_false hb)]
   exact hK _ _ _ h1 h2
  | _=>exact hK _ _ _ h1 h2
 | scope c ih =>
  intro S K r h W Q hs hK
  have:=ih S _ r h W (fun e W'=>match e with | .goto _=>False | e=>Q e W') hs (fun e S' W' h1 h2=>by
   cases e with
   | goto l=>cases h2
   | _=>exact hK _ _ _ h1 h2)
  exact fun a w hr=>wp_scope_straight (Code.wp_mono (fun e a w ⟨S',q,r'⟩=>by
   cases e with
   | goto l=>exact q.elim
   | _=>exact ⟨S',q,r'⟩) (this a w hr))
 | loop c ih =>
  intro S K r h W Q hs hK
  refine bM (pN (fun a w hr=>qL F (Hb c) S a w (kh hs a w hr)) (wm (nm:=lL T F (Hb c)) (fun S a w h=>qL _ _ S a w h) ih n _ K r h _ Q (oo _) hK))
 | _=>intro S K r h;cases h
end
section
variable {T:gv} {X:Ctx} {F nt:Nat}
theorem xJ {P:Program} {c:Code} {W:St} {Q:jM} (h:nG P X c W (fun e W'=>∃ W2,(∀ a w,Rel X W' a w->Rel X W2 a w)/\Q e W2)):nG P X c W Q:=fun a w r =>
 Code.wp_mono (fun e a w ⟨S',⟨W2,h1,h2⟩,r'⟩=>⟨W2,h2,h1 a w r'⟩) (h a w r)
theorem sZ (hT:cM T=true) {S:ES} {W:St} (hs:Sub S W) {x:ResultVar} {v:cW} {t:Ty} {y:t.den} (h:Bn T S x=some v) (hy:coe t v=some y):kg T.P W x (t.pv y):=by
 cases x with
 | tmp u=>exact .tmp (hs.env u v _ h (fw hy))
 | cell u ty =>
  simp only [Bn] at h
  split at h
  ·rename_i k c2 hk hc2
   split at h
   ·rename_i e c z hrow
    split at h
    ·rename_i z' hz hna
     cases h
     obtain ⟨rfl,rfl⟩:=de hz
     obtain ⟨rfl,rfl⟩:=de hy
     have hM:=fL hT hc2
     have b:W.env u=some (.po k 0):=hs.env u _ _ hk rfl
     have d:W.rows k=some ⟨e,c.rsz,c.rn,c.enc y⟩:=by rw [hs.rows,hrow];rfl
     obtain ⟨ds,hu,hd⟩:=hM.Hx
     cases a:c.nh with
     | true =>
      have f:c.G3=true:=by cases c<;>first | rfl | (cases a;done) | (cases hna;done)
      obtain ⟨fs,rfl⟩:=u5 hd f
      obtain ⟨g,h1,h2,_⟩:=hM.info
      have:=kg.agg (S:=W) (off:=0) b hu h1 d (by rw [Nat.zero_add,h2];show c.sz<=(c.enc y).length;rw [aY];exact Nat.le_refl _)
      rw [List.drop_zero,h2,List.take_of_length_le (by show (c.enc y).length<=_;rw [aY];exact Nat.le_refl _)] at this
      rw [oF a]
      exact this
     | false =>
      obtain ⟨cc,h1,h2⟩:=qH a y
      rw [h2]
      have hp:=kL hd a
      refine .cell (ds:=ds) b hu ?_ d (by show (c.enc y)[0]?=_;rw [h1];rfl)
      cases ds<;>first | rfl | cases hp
    cases h
   ·rename_i e fs hrow
    split at h
    ·rename_i z hz
     cases h
     obtain ⟨rfl,rfl⟩:=de hy
     have hM:=fL hT hc2
     have b:W.env u=some (.po k 0):=hs.env u _ _ hk rfl
     obtain ⟨e1,e2,a⟩:=vU _ _ _ hz
     have d:W.rows k=some ⟨e,oa fs,1,dM fs⟩:=by rw [hs.rows,hrow];rfl
     obtain ⟨ds,hu,hd⟩:=hM.Hx
     obtain ⟨sf,rfl⟩:=u5 hd (by cases c2<;>first | rfl | (cases fs<;>cases hz))
     obtain ⟨g,h1,h2,_⟩:=hM.info
     have:=kg.agg (S:=W) (off:=0) b hu h1 d (by rw [Nat.zero_add,h2];show _<=(dM fs).length;rw [cp,e2];exact Nat.le_refl _)
     rw [List.drop_zero,h2,List.take_of_length_le (by show (dM fs).length<=_;rw [cp,e2];exact Nat.le_refl _)] at this
     rw [oF a,<- e1]
     exact this
    cases h
   cases h
  cases h
theorem Fp (hT:cM T=true) {S:ES} {W:St} (hs:Sub S W) {b:Bool} {t:Ty} {l:List ResultVar} {r:t.den} (h:rQ T S b t l=some r):∃ p,(qb b t r).pv=some p/\gG T.P W l p:=by
 cases b with
 | false =>
  simp only [rQ] at h
  split at h
  ·split at h
   ·rename_i v hv
    exact ⟨_,rfl,.one (sZ hT hs hv h) (jK _ _)⟩
   cases h
  cases h
 | true =>
  have c:∀ {t:Ty} {x:ResultVar} {l:List ResultVar} {r:t.den},ye T S t (x :: l)=some r->∃ a b,∃ (y:a.den) (z:b.den),(⟨t,r⟩:Σ t:Ty,t.den)=⟨.pair a b,(y,z)⟩/\(∃ v,Bn T S x=some v/\coe a v=some y)/\ye T S b l=some z:=by
   intro t x l r h
   cases t with
   | pair a b =>
    simp only [ye] at h
    split at h
    ·rename_i v hv
     split at h
     ·rename_i y z hy hz
      cases h
      exact ⟨a,b,y,z,rfl,⟨v,hv,hy⟩,hz⟩
     cases h
    cases h
   | _=>cases h
  have f:∀ {t:Ty} {r:t.den},ye T S t []=some r->∃ e:t = .unit,True:=by
   intro t r h
   cases t<;>first | exact ⟨rfl,trivial⟩ | cases h
  simp only [rQ] at h
  split at h
  ·cases h
  ·cases h
  rename_i hn1 hn2
  match l,h,hn1,hn2 with
  | [],h,_,_ =>
   obtain ⟨rfl,_⟩:=f h
   exact ⟨_,rfl,.zero⟩
  | [x],h,hn1,_=>exact absurd rfl (hn1 x)
  | [x,y],h,_,_ =>
   obtain ⟨a,b,y1,z1,d,⟨v1,g1,g2⟩,h2⟩:=c h;cases d
   obtain ⟨a2,b2,y2,z2,g,⟨v2,g3,g4⟩,h3⟩:=c h2;cases g
   obtain ⟨rfl,_⟩:=f h3
   exact ⟨_,rfl,.two (sZ hT hs g1 g2) (sZ hT hs g3 g4) (jK _ _) (jK _ _)⟩
  | [x,y,z],h,_,_ =>
   obtain ⟨a,b,y1,z1,d,⟨v1,g1,g2⟩,h2⟩:=c h;cases d
   obtain ⟨a2,b2,y2,z2,g,⟨v2,g3,g4⟩,h3⟩:=c h2;cases g
   obtain ⟨a3,b3,y3,z3,i,⟨v3,g5,g6⟩,h4⟩:=c h3;cases i
   obtain ⟨rfl,_⟩:=f h4
   exact ⟨_,rfl,.three (sZ hT hs g1 g2) (sZ hT hs g3 g4) (sZ hT hs g5 g6) (jK _ _) (jK _ _) (jK _ _)⟩
  | x :: y :: z :: u :: l,h,_,hn2=>exact absurd rfl (hn2 x y z u l)
theorem lz:∀ (l:List ResultVar) (S:ES),∀ a w,Rel X S.st a w->Rel X (gE S l).st a w
 | [],S,a,w,h=>h
 | .tmp t :: l,S,a,w,h=>lz l _ a w (fX _ _ a w h)
 | .cell _ _ :: l,S,a,w,h=>lz l _ a w (fX _ _ a w h)
theorem oe:∀ (vs:List cW) (i:Nat),∀ t v,find (sP i vs) t=some v->∃ j,t=i+j/\vs[j]?=some v
 | [],i,t,v,h=>by cases h
 | x :: vs,i,t,v,h=>by
  simp only [sP,find] at h
  split at h
  ·rename_i hb
   cases h
   exact ⟨0,beq_true hb,rfl⟩
  obtain ⟨j,e1,e2⟩:=oe vs (i+1) t v h
  exact ⟨j+1,Q2,by simpa using e2⟩
structure Ke (T:gv) (dU:List (Nat×ob T)):Prop where
 fn:∀ g o call k vs r,find dU g=some o->tB T g = .no->iR T call->o.g call k vs=some r->fU T.P g/\∃ p,(qb (T.cT g) o.t r).pv=some p/\V.Fn T.P g (vs.map mF) p
 low:∀ g o,find dU g=some o->real g=g
 no:∀ g,tB T g≠.no->find dU g=none
 hook:Aq T
theorem tT (hN:∀ (f:Nat) (fn:Func),T.P.funcs[f]?=some fn->fn.name≠"runtime.NumGoroutine") {f:Nat} {fn:Func} {c:Code} (h:T.P.funcs[f]?=some fn) (hb:fn.body=some c):fU T.P f:=⟨fn,h,hN f fn h,by rw [hb];exact fun e=>by cases e⟩
theorem Cw {dU:List (Nat×ob T)} (hT:cM T=true) (hO:Ke T dU) (hmix:T.P.follows .mixedOrders=true) (hN:∀ (f:Nat) (fn:Func),T.P.funcs[f]?=some fn->fn.name≠"runtime.NumGoroutine"):∀ k,iR T (fn T dU k)
 | 0=>⟨fun g vs r _ h=>(by cases h),fun g j e vs r _ h=>(by cases h),fun g j e vs r v c2 y2 _ h=>(by cases h),hO.hook⟩
 | k+1=>by
  have ih:=Cw hT hO hmix hN k
  refine ⟨fun g vs r hl h=>?_,fun g j e vs r hl h=>?_,fun g j e vs r v c2 y2 hl h hout=>?_,hO.hook⟩
  ·simp only [fn] at h
   split at h
   ·rename_i o ho
    split at h
    ·rename_i q hq
     have key:∀ (t:Ty) (e:o.t=t) (r:t.den),e ▸ o.g (fn T dU k) k vs=some r->∃ r':o.t.den,o.g (fn T dU k) k vs=some r'/\∀ b,(qb b o.t r').pv=(qb b t r).pv:=by
      intro t e r h
      subst e
      exact ⟨r,h,fun _=>rfl⟩
     obtain ⟨r',h1,h2⟩:=key _ q.down r h
     obtain ⟨g1,p,g2,g3⟩:=hO.fn g o _ k vs r' ho hl ih h1
     have hr:=hO.low g o ho
     exact ⟨by rw [hr];exact g1,p,by rw [<- h2];exact g2,by rw [hr];exact g3⟩
    cases h
   split at h
   ·rename_i f hf
    unfold body at h
    split at h
    ·cases h
    rename_i c hb
    split at h
    ·cases h
    rename_i hlen
    simp only [hl] at h
    have d:∀ X:Ctx,X.nt=f.ntmps->nG T.P X c ⟨sF (vs.map mF),nr⟩ (fun e W=>(e = .ret∨e = .normal)/\∃ W2,(∀ a w,Rel X W a w->Rel X W2 a w)/\∃ p,(qb (T.cT g) (T.out g) r).pv=some p/\gG T.P W2 f.results.toList p):=by
     intro X hX
     refine nB hT ih (fun h=>by simp only [qW,hl] at h;cases h) hmix hX c ⟨sP 0 vs,[]⟩ _ r h _ _ ⟨fun t v p h1 h2=>?_,fun k=>rfl⟩ (fun e S' W' h1 h2=>?_)
     ·obtain ⟨j,e1,e2⟩:=oe vs 0 t v h1
      rw [Nat.zero_add] at e1
      subst e1
      show (vs.map mF)[t]?=some p
      rw [List.getElem?_map,e2]
      simp only [Option.map_some,mF,h2,Option.getD_some]
     have i:rQ T (gE S' f.results.toList) (T.cT g) (T.out g) f.results.toList=some r->∃ W2,(∀ a w,Rel X W' a w->Rel X W2 a w)/\∃ p,(qb (T.cT g) (T.out g) r).pv=some p/\gG T.P W2 f.results.toList p:=by
      intro h3
      obtain ⟨p,g1,g2⟩:=Fp hT (oo (gE S' f.results.toList)) h3
      exact ⟨_,fun a w hr=>lz _ S' a w (kh h1 a w hr),p,g1,g2⟩
     cases e with
     | ret=>exact ⟨.inl rfl,i h2⟩
     | normal=>exact ⟨.inr rfl,i h2⟩
     | _=>cases h2
    obtain ⟨p,hp⟩:=Fc (T.cT g) (T.out g) r
    refine ⟨tT hN hf hb,p,hp,bU hf hb (by rw [List.length_map];exact Nat.le_of_ble_eq_true hlen) (fun X hX=>xJ (vA (d X hX) (fun e W ⟨h1,W2,h2,p',h3,h4⟩=>⟨W2,h2,h1,?_⟩)))⟩
    rw [hp] at h3
    cases h3
    exact h4
   cases h
  ·simp only [fn,hO.no g (by rw [hl];exact fun e=>by cases e)] at h
   split at h
   ·rename_i f hf
    unfold body at h
    split at h
    ·cases h
    rename_i c hb
    split at h
    ·cases h
    rename_i hlen
    simp only [hl] at h
    split at h
    ·rename_i c0 y0 hv0 hsev
     split at h
     ·cases h
     ·cases h
     rename_i qo hqo hone
     have n:j<vs.length:=(List.getElem?_eq_some_iff.1 hv0).1
     have l:(dE j vs).length<=f.ntmps:=by
      simp only [dE,List.length_set,List.length_map]
      exact Nat.le_of_ble_eq_true hlen
     have i:∀ S:ES,np e S f.results.toList (T.out g)=some r->∃ y2:List c0.den,(⟨T.out g,r⟩:Σ t:Ty,t.den)=⟨.list c0,y2⟩/\∃ u k,f.results.toList=[.tmp u]/\find S.env u=some (.own k)/\find S.rows k=some (.arr e c0 y2)/\Nat.ble opened k=false:=by
      intro S hS
      have hq:=qo.down
      clear hqo
      generalize T.out g=t at r hS hq
      subst hq
      simp only [np] at hS
      split at hS
      ·rename_i u hrs
       split at hS
       ·rename_i k hek
        split at hS
        ·rename_i e' c' l' hrow hop
         split at hS
         ·rename_i he
          obtain ⟨ec,s⟩:=de hS
          cases ec
          have A:r=l':=s
          subst A
          have:=beq_true he
          subst this
          exact ⟨r,rfl,u,k,hrs,hek,hrow,hop⟩
         cases hS
        cases hS
       cases hS
      cases hS
     have d:∀ X:Ctx,X.nt=f.ntmps->(∀ v,X.pin v)->nG T.P X c ⟨sF (dE j vs),dj (bX.arr e c0 y0).row⟩ (fun ee W=>(ee = .ret∨ee = .normal)/\∃ y2:List c0.den,(⟨T.out g,r⟩:Σ t:Ty,t.den)=⟨.list c0,y2⟩/\∃ u k,f.results.toList=[.tmp u]/\Nat.ble opened k=false/\W.env u=some (.own k)/\W.rows k=some (bX.arr e c0 y2).row):=by
      intro X hX hpin
      refine nB hT ih (fun _=>hpin) hmix hX c ⟨(j,.own bY) :: sP 0 vs,[(bY,.arr e c0 y0)]⟩ _ r h _ _ ⟨fun t u p h1 h2=>?_,fun k=>?_⟩ (fun ee S' W' h1 h2=>?_)
      ·show (dE j vs)[t]?=some p
       simp only [find] at h1
       split at h1
       ·rename_i hb
        cases h1
        cases h2
        rw [beq_true hb]
        simp only [dE,hv0]
        rw [List.getElem?_set_self (by rw [List.length_map];exact n)]
        rfl
       rename_i hb
       obtain ⟨m,e1,e2⟩:=oe vs 0 t u h1
       rw [Nat.zero_add] at e1
       subst e1
       simp only [dE]
       rw [List.getElem?_set_ne (fun e=>beq_false hb e.symm),List.getElem?_map,e2]
       simp only [Option.map_some,mF,h2,Option.getD_some]
      ·simp only [find,dj]
       by_cases ck:k=bY
       ·subst ck
        rw [if_pos rfl,Nat.beq_refl]
        rfl
       rw [if_neg ck]
       have:Nat.beq k bY=false:=by
        cases hb:Nat.beq k bY with
        | false=>rfl
        | true=>exact absurd (beq_true hb) ck
       rw [this]
       rfl
      have go:np e S' f.results.toList (T.out g)=some r->∃ y2:List c0.den,(⟨T.out g,r⟩:Σ t:Ty,t.den)=⟨.list c0,y2⟩/\∃ u k,f.results.toList=[.tmp u]/\Nat.ble opened k=false/\W'.env u=some (.own k)/\W'.rows k=some (bX.arr e c0 y2).row:=by
       intro h3
       obtain ⟨y2,g1,u,k,g2,g3,g4,g5⟩:=i S' h3
       exact ⟨y2,g1,u,k,g2,g5,h1.env u _ _ g3 rfl,by rw [h1.rows,g4];rfl⟩
      cases ee with
      | ret=>exact ⟨.inl rfl,go h2⟩
      | normal=>exact ⟨.inr rfl,go h2⟩
      | _=>cases h2
     have hq:=qo.down
     obtain ⟨y2,hy2⟩:∃ y2:List c0.den,(⟨T.out g,r⟩:Σ t:Ty,t.den)=⟨.list c0,y2⟩:=by
      clear hqo d i h
      generalize T.out g=t at r hq
      subst hq
      exact ⟨r,rfl⟩
     obtain ⟨u,hu⟩:∃ u,f.results.toList=[.tmp u]:=by
      generalize f.results.toList=rs at hone
      unfold I1 at hone
      split at hone
      ·exact ⟨_,rfl⟩
      cases hone
     refine ⟨tT hN hf hb,hsev,c0,y0,y2,hv0,hy2,EE (t:=u) hf hb l (ir hu) (fun X hX hpin=>vA (d X hX hpin) (fun ee W ⟨h1,y3,h2,u',k,h3,h4,h5,h6⟩=>⟨h1,k,h4,?_,?_⟩))⟩
     ·rw [hu] at h3
      cases h3
      exact h5
     rw [hy2] at h2
     cases h2
     exact h6
    cases h
   cases h
  simp only [fn,hO.no g (by rw [hl];exact fun e=>by cases e)] at h
  split at h
  ·rename_i f hf
   unfold body at h
   split at h
   ·cases h
   rename_i c hb
   split at h
   ·cases h
   rename_i hlen
   simp only [hl] at h
   split at h
   ·rename_i c0 y0 hv0
    split at h
    ·cases h
    rename_i hfit
    have y:c0=c2:=by
     generalize T.out g=t at r hout hfit
     cases t with
     | pair a c1 =>
      simp only [IV,Option.some.injEq,Prod.mk.injEq] at hout
      have h2:=hout.2
      cases h2
      simp only [Fq] at hfit
      cases hq:iZ c0 c2 with
      | none=>rw [hq] at hfit;cases hfit
      | some q=>exact q.down
     | _=>cases hout
    have l:(dE j vs).length<=f.ntmps:=by
     simp only [dE,List.length_set,List.length_map]
     exact Nat.le_of_ble_eq_true hlen
    have n:j<vs.length:=(List.getElem?_eq_some_iff.1 hv0).1
    have i:∀ (S:ES),nk T (T.cT g) e c0 f.results.toList S (T.out g)=some r->c0=c2/\(∃ p,v.pv=some p/\gG T.P S.st f.results.toList p)/\S.st.rows bY=some (kT e c2 y2).row:=by
     intro S hS
     generalize T.out g=t at r hout hS
     cases t with
     | pair a c1 =>
      simp only [IV,Option.some.injEq,Prod.mk.injEq] at hout
      obtain ⟨rfl,h2⟩:=hout
      cases h2
      simp only [nk] at hS
      split at hS
      ·rename_i q x r0 hq hx hrow
       split at hS
       ·rename_i z hz
        cases hS
        refine ⟨q.down,Fp hT (oo S) hx,?_⟩
        simp only [ES.st,hrow,Option.map_some,yq hz]
       cases hS
      cases hS
     | _=>cases hout
    have d:∀ X:Ctx,X.nt=f.ntmps->nG T.P X c ⟨sF (dE j vs),dj (kT e c0 y0).row⟩ (fun ee W=>(ee = .ret∨ee = .normal)/\∃ W2,(∀ a w,Rel X W a w->Rel X W2 a w)/\c0=c2/\(∃ p,v.pv=some p/\gG T.P W2 f.results.toList p)/\W2.rows bY=some (kT e c2 y2).row):=by
     intro X hX
     refine nB hT ih (fun h=>by simp only [qW,hl] at h;cases h) hmix hX c ⟨(j,lval c0) :: sP 0 vs,[(bY,kT e c0 y0)]⟩ _ r h _ _ ⟨fun t u p h1 h2=>?_,fun k=>?_⟩ (fun ee S' W' h1 h2=>?_)
     ·show (dE j vs)[t]?=some p
      simp only [find] at h1
      split at h1
      ·rename_i hb
       cases h1
       rw [K0 c0 y0] at h2
       cases h2
       rw [beq_true hb]
       simp only [dE,hv0]
       rw [List.getElem?_set_self (by rw [List.length_map];exact n)]
      rename_i hb
      obtain ⟨m,e1,e2⟩:=oe vs 0 t u h1
      rw [Nat.zero_add] at e1
      subst e1
      simp only [dE]
      rw [List.getElem?_set_ne (fun e=>beq_false hb e.symm),List.getElem?_map,e2]
      simp only [Option.map_some,mF,h2,Option.getD_some]
     ·simp only [find,dj]
      by_cases ck:k=bY
      ·subst ck
       rw [if_pos rfl,Nat.beq_refl]
       rfl
      rw [if_neg ck]
      have:Nat.beq k bY=false:=by
       cases hb:Nat.beq k bY with
       | false=>rfl
       | true=>exact absurd (beq_true hb) ck
      rw [this]
      rfl
     have go:nk T (T.cT g) e c0 f.results.toList (gE S' f.results.toList) (T.out g)=some r->∃ W2,(∀ a w,Rel X W' a w->Rel X W2 a w)/\c0=c2/\(∃ p,v.pv=some p/\gG T.P W2 f.results.toList p)/\W2.rows bY=some (kT e c2 y2).row:=fun h3=>⟨_,fun a w hr=>lz _ S' a w (kh h1 a w hr),i _ h3⟩
     cases ee with
     | ret=>exact ⟨.inl rfl,go h2⟩
     | normal=>exact ⟨.inr rfl,go h2⟩
     | _=>cases h2
    obtain ⟨p,hp⟩:∃ p,v.pv=some p:=by
     generalize T.out g=t at r hout
     cases t with
     | pair a c1 =>
      simp only [IV,Option.some.injEq,Prod.mk.injEq] at hout
      rw [<- hout.1]
      exact Fc _ _ _
     | _=>cases hout
    subst y
    refine ⟨tT hN hf hb,p,hp,y0,hv0,qY hf hb l (La e c0 y2 y0) (fun X hX=>xJ (vA (d X hX) (fun ee W ⟨h1,W2,h2,_,⟨p',h3,h4⟩,h5⟩=>⟨W2,h2,h1,?_,h5⟩)))⟩
    rw [hp] at h3
    cases h3
    exact h4
   cases h
  cases h
end
open Go.WideShapes
def xz:(c:Ty)->c.den->Prop
 | .int k,n=>(Lit.int k n).wf=true
 | .str,s=>s.size<=maxLen
 | .list e,l=>l.length<=maxLen/\∀ x∈l,xz e x
 | .pair a b,x=>xz a x.1/\xz b x.2
 | _,_=>True
mutual
def deep (T:gv):Nat->TypeId->Ty->Bool
 | 0,_,_=>false
 | n+1,t,c=>(match find T.ty t with
  | some c'=>(iZ c' c).isSome
  | none=>false)&&(match c with
  | .list c=>match zT T t with
   | some (e,c')=>(iZ c' c).isSome&&gj c&&deep T n e c
   | none=>false
  | .pair a b=>match T.P.underlying t with
   | some (.struct fs)=>zY T n fs.toList (.pair a b)
   | _=>false
  | .int _=>true
  | .bool=>true
  | .str=>true
  | _=>false)
def zY (T:gv):Nat->List Field->Ty->Bool
 | 0,_,_=>false
 | n+1,f :: fs,.pair a b=>deep T n f.type a&&zY T n fs b
 | _+1,[],.unit=>true
 | _,_,_=>false
end
section
variable {T:gv} {H:Type} {enc:TypeId×Value->H} {w:World} {base:Nat} {spare:Nat->Bool} {held:Bool}
def pG (w:World) (cs:List Value) (ds:List CV):Prop:=cs.length=ds.length/\∀ i (h:i<ds.length),Den w (.of fun b=>b<w.heap.size) (cs.getD i undef) ds[i]
theorem ty_sz (hT:cM T=true) {t:TypeId} {c:Ty} (h:find T.ty t=some c):T.P.cellsOf t=c.sz:=by
 obtain ⟨a,h1,h2,_⟩:=(fL hT h).info
 simp only [Program.cellsOf,h1,Option.map_some,Option.getD_some,h2]
theorem CP {a:Addr} {n:Nat} {l:List Value} (h:w.cells? base a n=some l):l.length=n/\∀ i,i<n->w.cell? (a.add i)=some (l.getD i undef):=by
 unfold World.cells? at h
 split at h
 ·have b:∀ (js:List Nat) (l:List Value),js.mapM (fun i=>w.cell? (a.add i))=some l->l.length=js.length/\∀ i (hi:i<js.length),w.cell? (a.add js[i])=some (l.getD i undef):=by
   intro js
   induction js with
   | nil=>intro l h;simp at h;subst h;exact ⟨rfl,fun i hi=>by simp at hi⟩
   | cons j js ih =>
    intro l h
    rw [List.mapM_cons] at h
    simp only [Option.bind_eq_bind,Option.pure_def,Option.bind_eq_some_iff] at h
    obtain ⟨v,h1,l',h2,h3⟩:=h
    cases h3
    obtain ⟨g1,g2⟩:=ih l' h2
    refine ⟨by simp [g1],fun i hi=>?_⟩
    cases i with
    | zero=>exact h1
    | succ i=>simpa using g2 i (by simpa using hi)
  obtain ⟨g1,g2⟩:=b _ l h
  refine ⟨by simpa using g1,fun i hi=>?_⟩
  have:=g2 i (by simpa using hi)
  simpa using this
 cases h
theorem Hm {a:Addr} {v:Value} (h:w.cell? a=some v):a.spot=none/\a.block<w.heap.size:=by
 unfold World.cell? at h
 split at h
 ·rename_i c e f hb
  split at h
  ·cases h
  rename_i hs
  refine ⟨by simpa using hs,?_⟩
  exact (Array.getElem?_eq_some_iff.1 hb).1
 cases h
theorem EI {cs cs':List Value} {ds ds':List CV} (h:pG w cs ds) (h':pG w cs' ds'):pG w (cs++cs') (ds++ds'):=by
 refine ⟨by rw [List.length_append,List.length_append,h.1,h'.1],fun i hi=>?_⟩
 rw [List.length_append] at hi
 by_cases c:i<ds.length
 ·rw [List.getElem_append_left c]
  have:=h.2 i c
  rw [List.getD_eq_getElem?_getD] at this ⊢
  rw [List.getElem?_append_left (by rw [h.1];exact c)]
  exact this
 rw [List.getElem_append_right Q2]
 have:=h'.2 (i-ds.length) Q2
 rw [List.getD_eq_getElem?_getD] at this ⊢
 rw [List.getElem?_append_right (by rw [h.1];omega),h.1]
 exact this
theorem HP (hT:cM T=true):∀ (fuel:Nat) (n:Nat) (t:TypeId) (c:Ty) (cs:List Value) (x:DataW H×List MemPlace),deep T n t c=true->DataW.trod enc T.P w base spare held fuel t cs=some x->∃ y:c.den,xz c y/\pG w cs (c.enc y):=by
 intro fuel
 induction fuel with
 | zero=>intro n t c cs x hd h;simp [DataW.trod] at h
 | succ fuel ih =>
  intro n t c cs x hd h
  cases n with
  | zero=>cases hd
  | succ n =>
   simp only [deep,Bool.and_eq_true] at hd
   obtain ⟨p,d⟩:=hd
   have G:find T.ty t=some c:=by
    split at p
    ·rename_i c' hc
     cases hq:iZ c' c with
     | none=>rw [hq] at p;cases p
     | some q=>rw [<- q.down];exact hc
    cases p
   have hM:=fL hT G
   have j:∀ (v:Value) (cv:CV),cs=[v]->Den w (.of fun b=>b<w.heap.size) v cv->pG w cs [cv]:=by
    intro v cv h1 h2
    subst h1
    refine ⟨rfl,fun i hi=>?_⟩
    have:i=0:=by simp at hi;exact hi
    subst this
    exact h2
   cases c with
   | int k =>
    obtain ⟨m,h1,h2,h3⟩:=DataW.trod_int hM.int h
    exact ⟨m,h3,j _ _ h1 (.lit _)⟩
   | bool =>
    obtain ⟨b,h1,h2⟩:=DataW.trod_bool hM.bool h
    exact ⟨b,trivial,j _ _ h1 (.lit _)⟩
   | str =>
    obtain ⟨b,h1,h2,h3⟩:=DataW.trod_string hM.str h
    exact ⟨b,h3,j _ _ h1 (.lit _)⟩
   | fn=>cases d
   | unit=>cases d
   | arr n e=>cases d
   | list c =>
    dsimp only at d
    split at d
    ·rename_i e c' he
     simp only [Bool.and_eq_true] at d
     obtain ⟨⟨hq,hs⟩,L⟩:=d
     have M:c'=c:=by
      cases hq':iZ c' c with
      | none=>rw [hq'] at hq;cases hq
      | some q=>exact q.down
     subst M
     obtain ⟨hu,hMe,_⟩:=mC hT he
     have A:=(gB hs).2
     have N:T.P.cellsOf e=c'.sz:=by
      obtain ⟨K,h1,h2,_⟩:=hMe.info
      simp only [Program.cellsOf,h1,Option.map_some,Option.getD_some,h2]
     rcases DataW.trod_slice hu h with ⟨h1,_⟩ | ⟨a,len,cap,elems,rest,m,s,h1,_,hb,hl,hm,C,hel,_⟩
     ·exact ⟨[],⟨Nat.zero_le _,fun x hx=>by cases hx⟩,j _ _ h1 (.nil _ _ (fun _=>rfl))⟩
     cases s
     rw [N] at hel
     have u:∀ i,i<len->∃ l y,w.cells? base (a.add (i*c'.sz)) c'.sz=some l/\xz c' y/\pG w l (c'.enc y):=by
      intro i hi
      have:=hel i hi
      rw [List.getElem?_eq_getElem Q2] at this
      obtain ⟨l,g1,g2⟩:=Option.bind_eq_some_iff.1 this
      obtain ⟨y,g3,g4⟩:=ih n e c' l _ L g2
      exact ⟨l,y,g1,g3,g4⟩
     rcases Nat.eq_zero_or_pos len with h0 | h0
     ·subst h0
      exact ⟨[],⟨Nat.zero_le _,fun x hx=>by cases hx⟩,j _ _ h1 (.nil _ _ (fun h=>by cases h))⟩
     obtain ⟨l0,y0,k1,k2,k3⟩:=u 0 h0
     have g:=(CP k1).2 0 A
     rw [Nat.zero_mul] at g
     have e0:(a.add 0).add 0=a:=by simp [Addr.add]
     rw [e0] at g
     obtain ⟨r,J⟩:=Hm g
     have F:∀ m,m<=len->∃ (ys:List c'.den) (vs:Nat->Value),ys.length=m/\(∀ x∈ys,xz c' x)/\∀ i (hi:i<(ys.flatMap c'.enc).length),w.cell? (a.add i)=some (vs i)/\Den w (.of fun b=>b<w.heap.size) (vs i) (ys.flatMap c'.enc)[i]:=by
      intro m
      induction m with
      | zero=>intro _;exact ⟨[],fun _=>undef,rfl,fun x hx=>(by cases hx),fun i hi=>by simp at hi⟩
      | succ m ihm =>
       intro hmle
       obtain ⟨ys,vs,g1,g2,g3⟩:=ihm Q2
       obtain ⟨l,y,g4,g5,g6⟩:=u m Q2
       obtain ⟨g7,g8⟩:=CP g4
       have o:(ys.flatMap c'.enc).length=m*c'.sz:=by rw [eQ,g1]
       refine ⟨ys++[y],fun i=>if i<m*c'.sz then vs i else l.getD (i-m*c'.sz) undef,by simp [g1],fun x hx=>?_,fun i hi=>?_⟩
       ·rcases List.mem_append.1 hx with hx | hx
        ·exact g2 x hx
        rcases List.mem_singleton.1 hx with rfl;exact g5
       have B:(ys++[y]).flatMap c'.enc=ys.flatMap c'.enc++c'.enc y:=Q3
       have R:i<m*c'.sz+c'.sz:=by
        rw [B,List.length_append,o,aY] at hi
        exact hi
       by_cases ci:i<m*c'.sz
       ·have:=g3 i (by rw [o];exact ci)
        simp only [if_pos ci]
        refine ⟨this.1,?_⟩
        have e1:((ys++[y]).flatMap c'.enc)[i]=(ys.flatMap c'.enc)[i]'(by rw [o];exact ci):=by
         simp only [B]
         rw [List.getElem_append_left]
        rw [e1]
        exact this.2
       simp only [if_neg ci]
       have D:i-m*c'.sz<c'.sz:=Q2
       have e1:=g8 (i-m*c'.sz) D
       rw [V.add_add a r,show m*c'.sz+(i-m*c'.sz)=i by omega] at e1
       refine ⟨e1,?_⟩
       have e2:((ys++[y]).flatMap c'.enc)[i]=(c'.enc y)[i-m*c'.sz]'(by rw [aY];exact D):=by
        simp only [B]
        rw [List.getElem_append_right (by rw [o];omega)]
        simp only [o]
       rw [e2]
       exact g6.2 _ (by rw [aY];exact D)
     obtain ⟨ys,vs,g1,g2,g3⟩:=F len (Nat.le_refl _)
     refine ⟨ys,⟨by rw [g1];omega,g2⟩,j _ _ h1 ?_⟩
     rw [show ys.length=len from g1]
     exact .row a len cap _ vs r J hl (fun i hi=>(g3 i hi).1) (fun i hi=>(g3 i hi).2)
    cases d
   | pair a b =>
    dsimp only at d
    obtain ⟨fs,hu,hf⟩:=hM.st rfl
    simp only [hu] at d
    obtain ⟨xs,m,s,_,C,Q,I⟩:=DataW.trod_struct hu h
    cases s
    have O:∀ (fl:List Field) (n:Nat) (c:Ty) (off:Nat),zY T n fl c=true->iG T.P fl c off=true->(∀ f∈fl,∃ y,DataW.trod enc T.P w base spare held fuel f.type ((cs.drop f.offset).take (T.P.cellsOf f.type))=some y)->off+c.sz=cs.length->∃ y:c.den,xz c y/\pG w (cs.drop off) (c.enc y):=by
     intro fl
     induction fl with
     | nil =>
      intro n c off h1 h2 h3 h4
      cases c with
      | unit=>exact ⟨(),trivial,by simp [pG,Ty.enc,Ty.sz] at h4 ⊢;omega⟩
      | _=>cases h2
     | cons f fl ihf =>
      intro n c off h1 h2 h3 h4
      cases n with
      | zero=>cases h1
      | succ n =>
       cases c with
       | pair a b =>
        simp only [zY,Bool.and_eq_true] at h1
        simp only [iG,Bool.and_eq_true] at h2
        obtain ⟨⟨⟨k1,k2⟩,k3⟩,k4⟩:=h2
        simp only [Ty.sz] at h4
        obtain ⟨y2,g1,g2⟩:=ihf n b (off+a.sz) h1.2 k4 (fun f' hf'=>h3 f' (List.mem_cons_of_mem _ hf')) Q2
        obtain ⟨z,hz⟩:=h3 f List.mem_cons_self
        have A:T.P.cellsOf f.type=a.sz:=by
         unfold yW at k3
         split at k3
         ·rename_i K hi
          simp only [Program.cellsOf,hi,Option.map_some,Option.getD_some,beq_true k3]
         cases k3
        rw [A,beq_true k1] at hz
        obtain ⟨y1,g3,g4⟩:=ih n f.type a _ _ h1.1 hz
        refine ⟨(y1,y2),⟨g3,g1⟩,?_⟩
        have e1:cs.drop off=(cs.drop off).take a.sz++cs.drop (off+a.sz):=by
         rw [<- List.drop_drop,List.take_append_drop]
        rw [e1]
        exact EI g4 g2
       | _=>cases h2
    obtain ⟨y,g1,g2⟩:=O fs.toList n (.pair a b) 0 d hf (fun f hf'=>by
     obtain ⟨i,hi⟩:=List.getElem?_of_mem hf'
     rw [Array.getElem?_toList] at hi
     have:=I i f hi
     rw [this,List.getElem?_eq_getElem (by rw [Q];exact (Array.getElem?_eq_some_iff.1 hi).1)]
     exact ⟨_,rfl⟩) (by rw [C,Nat.zero_add];exact (ty_sz hT G).symm)
    exact ⟨y,g1,g2⟩
theorem Ai (hT:cM T=true) {base' n:Nat} {t:TypeId} {c:Ty} {v:Value} {d:DataW H} {ps:List MemPlace} (hd:deep T n t c=true) (hty:find T.ty t=some c) (hok:Value.okWide T.P w .any base' t v) (h:DataW.Trod enc T.P w base spare held t v d ps):∃ y:c.den,xz c y/\cO w (.of fun b=>b<w.heap.size) nr nl v (c.pv y):=by
 obtain ⟨f,h⟩:=h
 obtain ⟨y,h1,h2⟩:=HP hT f n t c _ _ hd h
 refine ⟨y,h1,?_⟩
 have hM:=fL hT hty
 obtain ⟨ds,hu,g⟩:=hM.Hx
 cases hag:c.nh with
 | true =>
  obtain ⟨fs,rfl⟩:=u5 g (by cases c<;>first | rfl | (cases hag;done) | (cases n<;>simp [deep] at hd))
  obtain ⟨cs,rfl,_⟩:=okWide_struct hu hok
  rw [oF hag]
  refine .ag (by simpa [Value.cells] using h2.1) (fun i hi=>?_)
  have:=h2.2 i hi
  simpa [Value.cells,Array.getD_eq_getD_getElem?,List.getD_eq_getElem?_getD] using this
 | false =>
  obtain ⟨cc,g1,g2⟩:=qH hag y
  rw [g1] at h2
  rw [g2]
  have hv:v.cells = #[v]:=by
   cases c with
   | int k=>obtain ⟨m,rfl⟩:=okWide_int hM.int hok;rfl
   | bool=>obtain ⟨m,rfl⟩:=okWide_bool hM.bool hok;rfl
   | str=>obtain ⟨m,rfl⟩:=okWide_string hM.str hok;rfl
   | list e=>obtain ⟨e',j⟩:=hM.list;obtain ⟨a,l,o,rfl⟩:=okWide_slice j hok;rfl
   | fn =>
    cases n with
    | zero=>cases hd
    | succ n=>simp [deep] at hd
   | _=>cases hag
  have:=h2.2 0 Q3
  rw [hv] at this
  exact .cv (by simpa using this)
end
end Go.Proofs.YtfbgaddecbiimaaGreatDoor.E
end
section
namespace Go.Proofs.YtfbgaddecbiimaaGreatDoor.E
open Go.RowKit Go.Proofs.YtfbgaddecbiimaaGreatDoorW.PrintWords Go.Proofs.YtfbgaddecbiimaaGreatDoorW.PrintMore Go.Proofs.YtfbgaddecbiimaaGreatDoor.V
def sub:Code->List Nat->Code
 | c,[]=>c
 | .seq a b,n :: p=>match n with
  | 0=>sub a p
  | _=>sub b p
 | .cond _ a b,n :: p=>match n with
  | 0=>sub a p
  | _=>sub b p
 | .block _ c,_ :: p=>sub c p
 | .loop c,_ :: p=>sub c p
 | .scope c,_ :: p=>sub c p
 | c,_=>c
def Cg (T:gv) (F nt:Nat) (call:(g:Nat)->List cW->Option (T.out g).den) (n:Nat) {β:Type}:Code->List Nat->List Nat->(Exit->ES->Option β)->(Exit->ES->Option β)
 | _,[],_,K=>K
 | .seq a b,m :: p,ns,K=>match m with
  | 0=>Cg T F nt call n a p ns fun e S'=>match e with
   | .normal=>code T F nt call n b (lL T F (Hb b) S') K
   | e=>K e S'
  | _=>Cg T F nt call n b p ns K
 | .cond _ a b,m :: p,ns,K=>match m with
  | 0=>Cg T F nt call n a p ns K
  | _=>Cg T F nt call n b p ns K
 | .block i c,_ :: p,ns,K=>Cg T F nt call n c p ns fun e S'=>match e with
  | .exit j=>match Nat.beq j i with
   | true=>K .normal S'
   | false=>K (.exit j) S'
  | e=>K e S'
 | .scope c,_ :: p,ns,K=>Cg T F nt call n c p ns fun e S'=>match e with
  | .goto _=>none
  | e=>K e S'
 | .loop c,_ :: p,m :: ns,K=>Cg T F nt call n c p ns fun e S'=>match e with
  | .normal=>Cc (lL T F (Hb c)) (fun S K=>code T F nt call n c S K) m (lL T F (Hb c) S') K
  | e=>K e S'
 | _,_,_,K=>K
def fin (T:gv) (F:Nat) (rs:List ResultVar) (ln:Option (TypeId×Ty)):Exit->ES->Option (T.out F).den:=match ln with
 | none=>fun e S=>match e with
  | .ret=>rQ T (gE S rs) (T.cT F) (T.out F) rs
  | .normal=>rQ T (gE S rs) (T.cT F) (T.out F) rs
  | _=>none
 | some (te,.unit)=>fun e S=>match e with
  | .ret=>np te S rs (T.out F)
  | .normal=>np te S rs (T.out F)
  | _=>none
 | some (te,c0)=>fun e S=>match e with
  | .ret=>nk T (T.cT F) te c0 rs (gE S rs) (T.out F)
  | .normal=>nk T (T.cT F) te c0 rs (gE S rs) (T.out F)
  | _=>none
def JN (f:Func):Code:=match f.body with
 | some c=>c
 | none=>.skip
def nK (T:gv) (dU:List (Nat×ob T)) (k F:Nat) (f:Func) (ln:Option (TypeId×Ty)) (p:List Nat) (m:Nat) (ns:List Nat) (S:ES):Option (T.out F).den:=match sub (JN f) p with
 | .loop c=>Cc (lL T F (Hb c)) (fun S K=>code T F f.ntmps (fn T dU k) k c S K) m S (Cg T F f.ntmps (fn T dU k) k (JN f) p ns (fin T F f.results.toList ln))
 | _=>none
section
variable {T:gv}
def orc0 (ct:Ty) (f:Nat->Option ct.den):ob T:=⟨ct,fun _ k vs=>match vs with
 | []=>f k
 | _=>none⟩
def zv (c0 ct:Ty) (f:Nat->c0.den->Option ct.den):ob T:=⟨ct,fun _ k vs=>match vs with
 | [x0]=>match coe c0 x0 with
  | some a0=>f k a0
  | none=>none
 | _=>none⟩
def oM (c0 c1 ct:Ty) (f:Nat->c0.den->c1.den->Option ct.den):ob T:=⟨ct,fun _ k vs=>match vs with
 | [x0,x1]=>match coe c0 x0,coe c1 x1 with
  | some a0,some a1=>f k a0 a1
  | _,_=>none
 | _=>none⟩
def orc3 (c0 c1 c2 ct:Ty) (f:Nat->c0.den->c1.den->c2.den->Option ct.den):ob T:=⟨ct,fun _ k vs=>match vs with
 | [x0,x1,x2]=>match coe c0 x0,coe c1 x1,coe c2 x2 with
  | some a0,some a1,some a2=>f k a0 a1 a2
  | _,_,_=>none
 | _=>none⟩
structure dK (T:gv) (x:Nat×ob T):Prop where
 bY:tB T x.1 = .no
 callee:fU T.P x.1
 low:real x.1=x.1
 fn:∀ call k vs r,iR T call->x.2.g call k vs=some r->∃ p,(qb (T.cT x.1) x.2.t r).pv=some p/\V.Fn T.P x.1 (vs.map mF) p
theorem IW {dU:List (Nat×ob T)} (h:∀ x∈dU,dK T x) (hh:Aq T:=by intro _ _ _ _ _ h;cases h):Ke T dU :=
 ⟨fun g o call k vs r h1 h2 h3 h4=>⟨(h _ (gS h1)).callee,(h _ (gS h1)).fn call k vs r h3 h4⟩,
  fun g o h1=>(h _ (gS h1)).low,
  fun g h1=>by
   cases h2:find dU g with
   | none=>rfl
   | some o=>exact absurd (h _ (gS h2)).bY h1,hh⟩
theorem ia {c:Ty} {v:cW} {x:c.den} (h:coe c v=some x):mF v=c.pv x:=by simp only [mF,fw h,Option.getD_some]
theorem jC {g:Nat} {c0 ct:Ty} {f:Nat->c0.den->Option ct.den} (hl:tB T g = .no) (hc:fU T.P g) (hf:∀ k a0 r,f k a0=some r->∃ p,(qb (T.cT g) ct r).pv=some p/\V.Fn T.P g [c0.pv a0] p) (hr:real g=g:=by rfl):dK T (g,zv c0 ct f) :=
 ⟨hl,hc,hr,fun call k vs r _ h=>by
  simp only [zv] at h
  split at h
  ·split at h
   ·rename_i x0 a0 h0
    simp only [List.map_cons,List.map_nil,ia h0]
    exact hf k a0 r h
   cases h
  cases h⟩
theorem eT {g:Nat} {c0 c1 ct:Ty} {f:Nat->c0.den->c1.den->Option ct.den} (hl:tB T g = .no) (hc:fU T.P g) (hf:∀ k a0 a1 r,f k a0 a1=some r->∃ p,(qb (T.cT g) ct r).pv=some p/\V.Fn T.P g [c0.pv a0,c1.pv a1] p) (hr:real g=g:=by rfl):dK T (g,oM c0 c1 ct f) :=
 ⟨hl,hc,hr,fun call k vs r _ h=>by
  simp only [oM] at h
  split at h
  ·split at h
   ·rename_i x0 x1 _ _ a0 a1 h0 h1
    simp only [List.map_cons,List.map_nil,ia h0,ia h1]
    exact hf k a0 a1 r h
   cases h
  cases h⟩
theorem GQ {g:Nat} {c0 c1 c2 ct:Ty} {f:Nat->c0.den->c1.den->c2.den->Option ct.den} (hl:tB T g = .no) (hc:fU T.P g) (hf:∀ k a0 a1 a2 r,f k a0 a1 a2=some r->∃ p,(qb (T.cT g) ct r).pv=some p/\V.Fn T.P g [c0.pv a0,c1.pv a1,c2.pv a2] p) (hr:real g=g:=by rfl):dK T (g,orc3 c0 c1 c2 ct f) :=
 ⟨hl,hc,hr,fun call k vs r _ h=>by
  simp only [orc3] at h
  split at h
  ·split at h
   ·rename_i x0 x1 x2 _ _ _ a0 a1 a2 h0 h1 h2
    simp only [List.map_cons,List.map_nil,ia h0,ia h1,ia h2]
    exact hf k a0 a1 a2 r h
   cases h
  cases h⟩
theorem Jk (k:IntKind) (l:List Int):l.flatMap (Ty.enc (.int k))=V.ints k l:=by
 induction l with
 | nil=>rfl
 | cons x l ih=>rw [List.flatMap_cons,ih];rfl
theorem eL (k:IntKind) (l:List Int):PV.ints k l=(Ty.list (.int k)).pv l:=congrArg (fun z=>PV.cv (.row l.length z)) (Jk k l).symm
end
end Go.Proofs.YtfbgaddecbiimaaGreatDoor.E
end
section
namespace Go.Proofs.YtfbgaddecbiimaaGreatDoor.E
open Go.RowKit Go.Proofs.YtfbgaddecbiimaaGreatDoor.V
def cZ:List Int->List Int->Int
 | [],_=>0
 | _ :: _,[]=>0
 | x :: l,y :: m=>if x=y then cZ l m else if x<y then -1 else 1
abbrev j5:Ty:=.pair (.list (.int .i64)) (.pair (.pair .bool (.pair (.list (.int .u32)) (.pair (.list (.int .u32)) .unit))) .unit)
def EA (x:j5.den):List j5.den->List j5.den
 | []=>[x]
 | y :: l=>match decide (cZ y.1 x.1>0) with
  | true=>y :: EA x l
  | false=>x :: y :: l
def ic:List j5.den->List j5.den
 | []=>[]
 | x :: l=>EA x (ic l)
def Hc (x:j5.den):List j5.den->Bool
 | []=>true
 | y :: l=>match Nat.beq x.1.length y.1.length with
  | true=>match decide (x.1=y.1) with
   | true=>false
   | false=>Hc x l
  | false=>false
def KW:List j5.den->Bool
 | []=>true
 | x :: l=>match Hc x l with
  | true=>KW l
  | false=>false
def Ba (l:List j5.den):Option (List j5.den):=match KW l,Nat.ble l.length 1000000000,Nat.ble (l.headD (Ty.zero j5)).1.length 1000000000 with
 | true,true,true=>some (ic l)
 | _,_,_=>none
def free (S:ES):List Nat->Bool
 | []=>true
 | d :: l=>match find S.env d with
  | none=>free S l
  | some _=>false
def Du (ts tb fs fc:Nat):List Oper->Option (Nat×List Nat)
 | [o1,o2,o3,o4,o5]=>match o5.op,o1.dst,o2.dst,o3.dst,o4.dst with
  | .call c,some d1,some d2,some d3,some d4=>match c.callee,c.args.toList,o1.op,o2.op,o3.op,o4.op,o1.guard,o2.guard,o3.guard,o4.guard,o5.guard with
   | .value (.func g),[.tmp b3,.tmp b4],.fieldAddr t1 (.tmp a) 1,.load t2 (.tmp b1),.makeInterface t3 (.tmp b2),.makeFunc (.func g2) xs ys,none,none,none,none,none=>match xs.toList,ys.toList with
    | [],[.tmp a2]=>match Nat.beq g fs&&(Nat.beq b3 d3&&(Nat.beq b4 d4&&(Nat.beq t1 tb&&(Nat.beq t2 ts&&(Nat.beq t3 ts&&(Nat.beq b1 d1&&(Nat.beq b2 d2&&(Nat.beq g2 fc&&Nat.beq a2 a)))))))),Nat.beq d3 d4,o5.dst with
     | true,false,some d5=>some (a,[d1,d2,d3,d4,d5])
     | _,_,_=>none
    | _,_=>none
   | _,_,_,_,_,_,_,_,_,_,_=>none
  | _,_,_,_,_=>none
 | _=>none
def vz (ts tb te fs fc:Nat) (ops:List Oper) (draw:Bool) (S:ES):Option Hk:=match draw,Du ts tb fs fc ops with
 | false,some (a,ds)=>match find S.env a,free S ds with
  | some (.po bo 0 []),true=>match find S.rows bo,Nat.ble opened bo with
   | some (.obox e [.v (.int .i64) n,.own k]),true=>match find S.rows k,Nat.beq e tb,Nat.beq bo k with
    | some (.arr e2 c l),true,false=>match Nat.beq e2 te,fq (a:=.list c) (.list j5) l with
     | true,some l2=>some ⟨.list j5,Ba l2,fun m=>⟨S.env,(k,.arr e2 j5 m) :: S.rows⟩⟩
     | _,_=>none
    | _,_,_=>none
   | _,_=>none
  | _,_=>none
 | _,_=>none
def I8 (tm ts:Nat):List Oper->Option ((Nat×Nat×Nat)×List Nat)
 | [o1,o2,o3,o4,o5]=>match o4.op,o5.op,o1.dst,o2.dst,o3.dst,o4.dst,o5.dst with
  | .call c,.mapUpdate t (.tmp b1) (.tmp b2) (.tmp b4),some d1,some d2,some d3,some d4,none=>match c.callee,c.args.toList,c.argTypes.toList,o1.op,o2.op,o3.op,o1.guard,o2.guard,o3.guard,o4.guard,o5.guard with
   | .builtin .len,[.tmp b3],[t3],.move (.tmp x),.move (.tmp y),.move (.tmp z),none,none,none,none,none=>match Nat.beq t tm&&(Nat.beq t3 ts&&(Nat.beq b1 d1&&(Nat.beq b2 d2&&(Nat.beq b3 d3&&Nat.beq b4 d4)))),Nat.beq d1 d2||(Nat.beq d1 d3||(Nat.beq d1 d4||(Nat.beq d2 d3||(Nat.beq d2 d4||Nat.beq d3 d4)))) with
    | true,false=>some ((x,y,z),[d1,d2,d3,d4])
    | _,_=>none
   | _,_,_,_,_,_,_,_,_,_,_=>none
  | _,_,_,_,_,_,_=>none
 | _=>none
def zJ (tm ts:Nat) (ops:List Oper) (draw:Bool) (S:ES):Option Hk:=match draw,I8 tm ts ops with
 | false,some ((x,y,z),ds)=>match find S.env x,find S.env y,find S.env z,free S ds with
  | some (.mp l),some (.v .str s),some (.own k),true=>match find S.rows k with
   | some (.arr e c r)=>some ⟨.unit,some (),fun _=>⟨(x,.mp (V.ks l s r.length)) :: qg Fx S.env,S.rows⟩⟩
   | _=>none
  | _,_,_,_=>none
 | _,_=>none
def Jl (ts tb te fs fc tm:Nat) (ops:List Oper) (draw:Bool) (S:ES):Option Hk:=match vz ts tb te fs fc ops draw S with
 | some h=>some h
 | none=>zJ tm ts ops draw S
end Go.Proofs.YtfbgaddecbiimaaGreatDoor.E
end
section
namespace Go.Proofs.YtfbgaddecbiimaaGreatDoor.E
open Go.RowKit
abbrev cV:Ty:=(.pair .fn (.pair .fn .unit))
abbrev gu:Ty:=(.pair .str (.pair (.int .u64) .unit))
abbrev au:Ty:=(.pair .bool (.pair (.list (.int .i64)) (.pair (.list (.int .i64)) .unit)))
abbrev aq:Ty:=(.pair .bool (.pair (.list (.int .u32)) (.pair (.list (.int .u32)) .unit)))
abbrev jt:Ty:=(.pair (.int .i64) (.pair (.int .i64) (.pair .bool (.pair (.int .u8) .unit))))
abbrev aj:Ty:=(.pair (.list (.int .i64)) (.pair aq .unit))
abbrev af:Ty:=(.pair (.arr 8 (.int .i64)) (.pair au .unit))
abbrev ai:Ty:=(.pair (.int .i64) (.pair (.list aj) .unit))
def tyTab:List (Nat×Ty):=[(1,.fn),(2,(.int .i64)),(3,(.int .i64)),(4,.bool),(5,(.int .u8)),(6,(.int .u8)),(7,jt),(8,jt),(9,.str),(10,.str),(11,.str),(12,(.int .u64)),(13,gu),(14,gu),(21,(.int .i32)),(22,(.list aj)),(23,ai),(24,ai),(25,.fn),(26,.fn),(27,(.int .i64)),(29,.fn),(30,.fn),(31,.fn),(32,(.list (.int .u8))),(34,.fn),(36,.fn),(37,.fn),(38,(.list af)),(39,(.list af)),(40,.fn),(41,.fn),(42,.fn),(43,.fn),(44,.fn),(45,.fn),(46,.fn),(47,(.arr 8 (.int .i64))),(48,(.list (.int .i64))),(49,(.list (.int .i64))),(50,au),(51,au),(52,af),(53,af),(54,.fn),(55,.fn),(56,.fn),(57,(.list aq)),(58,(.list au)),(59,(.list (.int .u32))),(60,aq),(61,aq),(62,.fn),(63,.fn),(65,.fn),(66,.fn),(67,.fn),(68,.fn),(69,.fn),(71,.fn),(72,.fn),(73,.fn),(74,.fn),(75,.fn),(76,.fn),(77,.fn),(78,.fn),(79,.fn),(80,.fn),(81,.fn),(83,.fn),(84,.fn),(85,.fn),(86,.fn),(87,.fn),(88,.fn),(90,.fn),(91,.fn),(92,.fn),(93,.fn),(94,(.list .str)),(95,aj),(96,aj),(97,.fn),(98,.fn),(99,.fn),(100,.fn),(101,.fn),(102,.fn),(103,.fn),(104,.fn),(105,.fn),(106,.fn),(107,.fn),(108,.fn),(109,.fn),(110,.fn),(111,.fn),(112,.fn),(113,.fn),(114,.fn),(115,.fn),(116,.fn),(117,.fn),(118,.fn),(119,.fn),(120,.fn),(121,.fn),(122,.fn),(123,.fn),(124,.fn),(125,.fn),(126,.fn),(127,.fn),(128,.fn),(129,.fn),(130,.fn),(131,.fn),(133,.fn),(134,(.list .bool)),(135,.fn),(136,.fn),(137,.fn),(143,.fn),(144,.fn),(146,.fn),(147,.fn),(148,.fn),(149,.fn),(150,.fn),(151,(.int .u32)),(152,.fn),(153,.fn),(154,.fn),(155,.fn),(156,(.int .u64)),(157,.fn),(159,.fn),(160,.fn),(161,.fn),(162,.fn),(163,.fn),(164,.fn),(166,.fn),(167,.fn),(168,.fn),(169,.fn),(170,.fn),(172,.fn),(173,(.list (.int .u64))),(174,.fn),(175,(.int .u64)),(177,.fn),(179,.fn),(180,.fn),(182,.fn),(184,.fn),(185,.fn),(187,.fn),(188,.fn),(190,.fn),(192,.fn),(193,.fn),(194,.fn),(195,.fn),(196,.fn),(197,(.arr 24 (.int .u8))),(199,.fn),(201,.fn),(202,.fn),(208,.fn),(211,(.arr 20 (.int .u64))),(212,(.arr 65 (.int .u8))),(213,.fn),(214,.fn),(215,(.int .u64)),(218,.fn),(219,.fn),(220,.fn),(221,.fn),(222,.fn),(223,cV),(224,cV),(229,(.int .i64)),(235,(.arr 32 (.int .u8))),(236,(.arr 64 (.int .u8))),(237,(.int .u64))]
def elTab:List (Nat×Nat):=[(22,96),(32,5),(38,53),(39,53),(48,3),(49,3),(57,61),(58,51),(59,151),(94,9),(134,4),(173,175)]
def byTab:List (Nat×Nat):=[(3,8),(4,1),(5,1),(9,16),(51,56),(53,120),(61,56),(96,80),(151,4),(175,8)]
abbrev Q0:=false
abbrev Q1:=true
def parTab:List (Nat×List Ty):=[(9,[ai,ai,(.int .i64)]),(12,[]),(14,[ai]),(17,[ai]),(18,[ai,ai]),(19,[ai]),(20,[ai,(.list af),(.int .i64)]),(21,[(.list af),(.list af)]),(22,[ai]),(23,[ai,(.int .i64),(.int .i64),(.int .i64)]),(25,[(.list af)]),(27,[]),(28,[(.list af),(.int .i64)]),(30,[aq]),(33,[ai,ai]),(36,[au,au]),(37,[au,au]),(39,[(.int .i64),aq]),(40,[au]),(44,[(.int .i64),(.int .i64)]),(45,[(.list af),(.int .i64)]),(48,[(.list af),(.int .i64),(.int .i64)]),(52,[(.list af),(.list af)]),(55,[ai,ai]),(56,[ai,(.int .i64),ai]),(57,[(.list af),(.int .i64),(.list af)]),(60,[(.list af),(.int .i64)]),(62,[ai]),(63,[au]),(65,[ai]),(66,[aq]),(67,[(.int .i64)]),(68,[(.list .str),.str]),(70,[aq,(.int .i64)]),(71,[aq]),(72,[(.list (.int .i64)),(.list (.int .i64))]),(73,[aq,(.int .i64)]),(74,[ai,ai]),(75,[ai,ai]),(76,[(.list af),af]),(77,[(.list af),(.arr 8 (.int .i64)),au]),(78,[aq,(.int .i64)]),(80,[(.arr 8 (.int .i64))]),(81,[au]),(83,[aq]),(84,[(.list (.int .u32))]),(87,[(.list aj),(.list aj),.fn,.fn]),(88,[aj,aj]),(89,[aj,aj]),(90,[aq,aq]),(91,[ai]),(92,[aq,aq]),(93,[]),(95,[(.list (.int .i64)),(.list (.int .i64))]),(96,[.bool,(.list (.int .i64)),(.list (.int .i64))]),(97,[(.list (.int .i64)),(.list (.int .i64))]),(98,[(.list (.int .i64)),(.list (.int .i64))]),(99,[(.list (.int .i64)),(.list (.int .i64))]),(100,[ai]),(101,[aq]),(102,[(.int .i64),aq]),(103,[ai,(.int .i64)]),(104,[ai,(.int .i64)]),(105,[ai,(.int .i64),(.int .i64)]),(107,[(.int .i64),(.int .i64)]),(111,[(.int .i64)]),(112,[]),(113,[ai,ai]),(117,[(.arr 8 (.int .i64)),(.arr 8 (.int .i64))]),(118,[(.list (.int .i64))]),(119,[(.int .i64)]),(121,[(.list (.int .u32))]),(123,[aq]),(125,[(.int .i64)]),(128,[(.list (.int .u32)),(.int .i64)]),(129,[(.list (.int .u32)),(.list (.int .u32))]),(130,[ai,ai]),(132,[(.list (.int .u32))]),(133,[(.list (.int .i64)),(.list (.int .i64))]),(134,[(.list (.int .i64)),(.int .i64),(.int .i64)]),(135,[]),(136,[aq,aq]),(138,[(.list (.int .u32)),(.list (.int .u32))]),(139,[(.list (.int .u32)),(.list (.int .u32))]),(140,[.bool,(.list (.int .u32)),(.list (.int .u32))]),(141,[(.list (.int .u32)),(.list (.int .u32))]),(142,[(.list (.int .u32)),(.list (.int .u32))]),(143,[ai]),(144,[(.list (.int .u32)),(.list (.int .u32))]),(146,[(.list (.int .i64))]),(147,[(.list (.int .i64)),(.list (.int .i64))]),(148,[(.list (.int .i64))]),(149,[(.list (.int .i64))]),(150,[aq]),(151,[(.int .i64)]),(155,[ai,aj]),(156,[(.list (.int .i64)),(.int .i64)]),(158,[(.list (.int .u32))]),(159,[(.int .u64)]),(160,[(.list (.int .u32)),(.list (.int .u32))]),(161,[(.list (.int .u32))]),(162,[(.int .u64),(.int .i64)]),(163,[aq]),(164,[(.int .i64),(.int .i64)]),(166,[(.list (.int .u32)),(.list (.int .u32))]),(167,[(.int .i64),(.list aj)]),(168,[(.list (.int .i64))]),(169,[(.list (.int .u32))]),(170,[(.list (.int .i64)),(.list (.int .i64))]),(173,[(.list (.int .u32)),(.int .u32)]),(174,[(.int .u32)]),(175,[(.list (.int .u32)),(.int .i64)]),(176,[(.list (.int .u32)),(.list (.int .u32)),(.int .u64)]),(177,[(.list (.int .u32)),(.list (.int .u32))]),(178,[(.list (.int .u32)),(.int .i64)]),(179,[(.int .i64)]),(180,[(.int .u64)]),(181,[(.list (.int .u8)),(.int .u64)]),(182,[(.list (.int .u8)),(.int .u64),(.int .i64),.bool,.bool]),(183,[(.int .i64)]),(184,[(.list (.int .u32))]),(185,[(.list (.int .u32)),(.list (.int .u32)),(.int .i64),(.int .i64)]),(186,[(.list (.int .i64))]),(188,[(.int .i64),(.int .i64)]),(190,[(.int .u32)]),(191,[(.int .i64)]),(192,[(.int .u64)]),(193,[.bool]),(194,[(.int .i64)]),(195,[(.int .u64)]),(199,[(.int .u64)]),(200,[cV,(.int .i64),(.int .i64),(.int .i64)]),(201,[(.int .u32)]),(202,[(.int .u64)]),(212,[cV,(.int .i64),(.int .i64)]),(213,[cV,(.int .i64),(.int .i64)]),(214,[cV,(.int .i64),(.int .i64)]),(215,[cV,(.int .i64),(.int .i64)]),(216,[cV,(.int .i64),(.int .i64)]),(217,[cV,(.int .i64),(.int .i64)]),(218,[cV,(.int .i64),(.int .i64),(.int .i64)]),(219,[cV,(.int .i64),(.int .i64),(.int .i64)]),(220,[cV,(.int .i64),(.int .i64),(.int .i64)]),(221,[(.int .i64)])]
def outTab:List (Nat×(Bool×Ty)):=[(9,(Q0,.bool)),(12,(Q0,.bool)),(14,(Q1,(.pair .str (.pair (.int .i64) .unit)))),(17,(Q0,.bool)),(18,(Q1,(.pair ai (.pair (.int .i64) .unit)))),(19,(Q0,.bool)),(20,(Q0,.bool)),(21,(Q0,(.list af))),(22,(Q0,(.list af))),(23,(Q0,.bool)),(25,(Q0,(.int .i64))),(27,(Q0,au)),(28,(Q0,(.list af))),(30,(Q0,au)),(33,(Q1,(.pair ai (.pair (.int .i64) .unit)))),(36,(Q0,au)),(37,(Q0,au)),(39,(Q1,(.pair ai (.pair (.int .i64) .unit)))),(40,(Q0,(.list af))),(44,(Q1,(.pair ai (.pair (.int .i64) .unit)))),(45,(Q0,(.int .i64))),(48,(Q0,(.list af))),(52,(Q0,(.list af))),(55,(Q0,.bool)),(56,(Q1,(.pair ai (.pair (.int .i64) .unit)))),(57,(Q0,(.list af))),(60,(Q0,ai)),(62,(Q0,.bool)),(63,(Q0,aq)),(65,(Q0,.bool)),(66,(Q1,(.pair .str (.pair (.int .i64) .unit)))),(67,(Q0,.str)),(68,(Q0,.str)),(70,(Q0,.bool)),(71,(Q0,(.int .i64))),(72,(Q0,(.int .i64))),(73,(Q0,.bool)),(74,(Q0,(.int .i64))),(75,(Q1,(.pair ai (.pair (.int .i64) .unit)))),(76,(Q0,(.list af))),(77,(Q0,(.list af))),(78,(Q0,.bool)),(80,(Q0,(.int .i64))),(81,(Q0,(.int .i64))),(83,(Q0,.bool)),(84,(Q0,(.list (.int .i64)))),(87,(Q0,(.list aj))),(88,(Q0,(.int .i64))),(89,(Q1,(.pair aj (.pair .bool .unit)))),(90,(Q0,aq)),(91,(Q1,(.pair ai (.pair (.int .i64) .unit)))),(92,(Q0,.bool)),(93,(Q0,au)),(95,(Q0,(.list (.int .i64)))),(96,(Q0,au)),(97,(Q0,(.list (.int .i64)))),(98,(Q0,(.int .i64))),(99,(Q0,(.list (.int .i64)))),(100,(Q0,(.int .i64))),(101,(Q0,.bool)),(102,(Q0,ai)),(103,(Q0,(.int .i64))),(104,(Q0,(.int .i64))),(105,(Q0,ai)),(107,(Q0,ai)),(111,(Q0,ai)),(112,(Q0,aq)),(113,(Q0,ai)),(117,(Q0,.bool)),(118,(Q0,(.list (.int .u32)))),(119,(Q0,(.list (.int .i64)))),(121,(Q1,(.pair .str (.pair (.int .i64) .unit)))),(123,(Q0,.bool)),(125,(Q0,.str)),(128,(Q0,.bool)),(129,(Q0,(.list (.int .u32)))),(130,(Q0,ai)),(132,(Q0,.bool)),(133,(Q0,(.list (.int .i64)))),(134,(Q0,(.list (.int .i64)))),(135,(Q0,aq)),(136,(Q0,aq)),(138,(Q0,(.int .i64))),(139,(Q0,(.list (.int .u32)))),(140,(Q0,aq)),(141,(Q0,(.list (.int .u32)))),(142,(Q0,(.list (.int .u32)))),(143,(Q0,ai)),(144,(Q0,.bool)),(146,(Q0,(.list (.int .i64)))),(147,(Q1,(.pair (.list (.int .i64)) (.pair (.list (.int .i64)) .unit)))),(148,(Q0,(.list (.int .i64)))),(149,(Q0,(.int .i64))),(150,(Q0,aq)),(151,(Q0,aq)),(155,(Q0,ai)),(156,(Q1,(.pair (.list (.int .i64)) (.pair (.int .i64) .unit)))),(158,(Q0,.bool)),(159,(Q0,(.list (.int .u32)))),(160,(Q1,(.pair (.list (.int .u32)) (.pair (.list (.int .u32)) .unit)))),(161,(Q1,(.pair (.int .u64) (.pair .bool .unit)))),(162,(Q0,(.list (.int .u8)))),(163,(Q0,.bool)),(164,(Q0,.str)),(166,(Q1,(.pair (.list (.int .u32)) (.pair (.list (.int .u32)) (.pair .bool .unit))))),(167,(Q0,ai)),(168,(Q1,(.pair (.int .i64) (.pair .bool .unit)))),(169,(Q0,(.list (.int .u32)))),(170,(Q0,(.int .i64))),(173,(Q1,(.pair (.list (.int .u32)) (.pair (.int .u32) .unit)))),(174,(Q0,(.int .i64))),(175,(Q0,(.list (.int .u32)))),(176,(Q0,.bool)),(177,(Q1,.unit)),(178,(Q0,(.list (.int .u32)))),(179,(Q0,.str)),(180,(Q0,(.int .i64))),(181,(Q1,.unit)),(182,(Q1,(.pair (.list (.int .u8)) (.pair .str .unit)))),(183,(Q0,(.list (.int .u8)))),(184,(Q0,(.int .i64))),(185,(Q0,(.list (.int .u32)))),(186,(Q0,.str)),(188,(Q0,.bool)),(190,(Q0,(.int .i64))),(191,(Q0,(.int .i64))),(192,(Q0,(.int .i64))),(193,(Q0,(.int .i64))),(194,(Q0,.bool)),(195,(Q0,(.int .i64))),(199,(Q0,(.int .i64))),(200,(Q1,.unit)),(201,(Q0,(.int .i64))),(202,(Q0,(.int .i64))),(212,(Q1,.unit)),(213,(Q1,.unit)),(214,(Q1,.unit)),(215,(Q1,(.pair (.int .i64) (.pair (.int .i64) .unit)))),(216,(Q1,.unit)),(217,(Q0,.bool)),(218,(Q0,(.int .i64))),(219,(Q1,(.pair (.int .i64) (.pair .bool .unit)))),(220,(Q1,.unit)),(221,(Q0,(.int .u64)))]
def ownTab:List (Nat×List Nat):=[(14,[4,58,61]),(21,[5,24,29]),(22,[3,18,25]),(40,[5]),(48,[7,25,28]),(52,[5,8,10,17,22]),(60,[6,11,14,47,51,52,68,2000005,6000011]),(76,[5,31,40]),(77,[0,6,12,35,44,48,49,54,56,61]),(87,[9,41,44,52,57,63,68,71,73]),(95,[5,18,45,69]),(97,[5,44,48]),(99,[5,10,36]),(105,[10,13,30,31,35,41,2000007,6000013]),(107,[13]),(113,[12,67,77,87,94,102,109,2000005,6000012]),(118,[3,6,17,20,47,50]),(119,[3,4,7,11]),(121,[4,10,34,37,45,61,63]),(130,[5,15,20,28,3000000005]),(134,[7,13,25,29,35,39]),(139,[5,24,54,64]),(141,[5,19,42,50]),(142,[5,12,35]),(143,[8,17,20,29,2000003,6000008]),(147,[12,56,75]),(148,[5]),(155,[8,12,22,28,44,53,2000005,6000012]),(156,[6,11,26]),(160,[4,6,33,35,64,156,162]),(162,[5,16,22,35,37]),(167,[6,37,40,41,55,67,70,2000012,6000055]),(173,[6,11,27]),(175,[7,24,36,46]),(176,[0,37,57]),(177,[0,24,32]),(178,[7,23,54]),(181,[0,42,45,55,58,68,71,81,84,110,113,123,126,145,148,162]),(182,[0,95]),(186,[3,9,16,29])]
def liveTab:List (Nat×List (Nat×List (Nat×Bool×TypeId))):=[(14,[(7,[(4,Q1,94),(17,Q0,22),(18,Q0,3),(19,Q0,3)]),(11,[(4,Q1,94),(7,Q0,9),(17,Q0,22),(18,Q0,3),(19,Q0,3),(30,Q0,48),(31,Q0,3),(32,Q0,3)]),(17,[(4,Q1,94),(7,Q0,9),(17,Q0,22),(18,Q0,3),(19,Q0,3),(30,Q0,48),(31,Q0,3),(32,Q0,3)])]),(17,[(4,[(1,Q0,0),(23,Q0,22),(24,Q0,3),(25,Q0,3)]),(10,[(1,Q0,0),(3,Q0,3),(4,Q0,0),(5,Q0,3),(23,Q0,22),(24,Q0,3),(25,Q0,3),(49,Q0,48),(50,Q0,3),(51,Q0,3)])]),(21,[(3,[(1,Q0,39),(5,Q1,39),(10,Q0,39),(11,Q0,3),(12,Q0,3)]),(6,[(1,Q0,39),(5,Q1,39),(10,Q0,39),(11,Q0,3),(12,Q0,3),(18,Q0,39),(19,Q0,3),(20,Q0,3)])]),(22,[(3,[(3,Q1,39),(8,Q0,22),(9,Q0,3),(10,Q0,3)])]),(23,[(4,[(2,Q0,3),(3,Q0,3),(4,Q0,0),(27,Q0,22),(28,Q0,3),(29,Q0,3)])]),(25,[(3,[(3,Q0,3),(6,Q0,39),(7,Q0,3),(8,Q0,3)])]),(28,[(3,[(0,Q0,39),(5,Q0,39),(8,Q0,3),(9,Q0,3)])]),(45,[(3,[(1,Q0,3),(5,Q0,3),(8,Q0,39),(9,Q0,3),(10,Q0,3)])]),(48,[(3,[(1,Q0,3),(2,Q0,3),(7,Q1,39),(10,Q0,39),(11,Q0,3),(12,Q0,3)]),(8,[(1,Q0,3),(2,Q0,3),(7,Q1,39),(10,Q0,39),(11,Q0,3),(12,Q0,3)])]),(52,[(3,[(5,Q1,39),(11,Q0,39),(12,Q0,3),(13,Q0,3)])]),(55,[(4,[(3,Q0,0),(24,Q0,22),(25,Q0,3),(26,Q0,3)]),(10,[(3,Q0,0),(6,Q0,0),(7,Q0,0),(24,Q0,22),(25,Q0,3),(26,Q0,3),(53,Q0,3),(54,Q0,3)])]),(56,[(4,[(1,Q0,3),(3,Q0,0),(5,Q0,0),(6,Q0,0),(8,Q0,27)]),(9,[(1,Q0,3),(3,Q0,0),(5,Q0,0),(6,Q0,0),(9,Q0,0),(10,Q0,0),(11,Q0,3)]),(15,[(1,Q0,3),(3,Q0,0),(5,Q0,0),(6,Q0,0),(9,Q0,0),(10,Q0,0),(11,Q0,3)])]),(57,[(3,[(0,Q0,39),(1,Q0,3),(2,Q0,39),(7,Q0,39),(8,Q0,3)])]),(60,[(4,[(0,Q0,39),(1,Q0,3),(4,Q0,0),(5,Q1,0),(6,Q1,134),(16,Q0,3),(17,Q0,3)]),(7,[(0,Q0,39),(1,Q0,3),(4,Q0,0),(5,Q1,0),(6,Q1,134),(7,Q0,3),(16,Q0,3),(17,Q0,3),(19,Q0,39),(20,Q0,3),(21,Q0,3)]),(11,[(0,Q0,39),(1,Q0,3),(4,Q0,0),(5,Q1,0),(6,Q1,134),(7,Q0,3),(16,Q0,3),(17,Q0,3),(19,Q0,39),(20,Q0,3),(21,Q0,3)])]),(62,[(5,[(1,Q0,0),(3,Q0,0),(24,Q0,22),(25,Q0,3),(26,Q0,3)]),(11,[(1,Q0,0),(3,Q0,0),(4,Q0,3),(6,Q0,0),(24,Q0,22),(25,Q0,3),(26,Q0,3),(57,Q0,48),(58,Q0,3),(59,Q0,3)])]),(66,[(6,[(1,Q0,0),(4,Q0,0)]),(11,[(4,Q0,0)])]),(68,[(10,[(0,Q0,94),(1,Q0,9),(5,Q0,3)]),(11,[(0,Q0,94),(1,Q0,9),(5,Q0,3)]),(12,[(0,Q0,94),(1,Q0,9),(5,Q0,3),(39,Q0,94),(40,Q0,3),(41,Q0,3)]),(16,[(0,Q0,94),(1,Q0,9),(5,Q0,3),(7,Q0,9),(39,Q0,94),(40,Q0,3),(41,Q0,3)]),(22,[(1,Q0,9),(8,Q0,0),(63,Q0,94),(64,Q0,3),(65,Q0,3)])]),(72,[(2,[(1,Q0,48),(7,Q0,48),(8,Q0,3),(9,Q0,3)])]),(76,[(3,[(3,Q0,0),(5,Q1,39),(10,Q0,39),(11,Q0,3),(12,Q0,3)]),(7,[(3,Q0,0),(5,Q1,39),(7,Q0,0),(8,Q0,0),(10,Q0,39),(11,Q0,3),(12,Q0,3),(18,Q0,3)])]),(77,[(4,[(0,Q1,39),(4,Q0,0),(5,Q0,0),(14,Q0,3),(15,Q0,3)])]),(80,[(3,[(3,Q0,3),(6,Q0,47),(7,Q0,3)])]),(84,[(3,[(0,Q0,59),(3,Q0,49),(4,Q0,3)])]),(87,[(2,[(0,Q0,22),(1,Q0,22),(2,Q0,112),(3,Q0,114),(9,Q1,22)]),(7,[(0,Q0,22),(1,Q0,22),(2,Q0,112),(3,Q0,114),(9,Q1,22)])]),(90,[(4,[(2,Q0,0),(3,Q0,0),(4,Q0,0),(5,Q0,59),(6,Q0,59),(7,Q0,59)])]),(95,[(3,[(1,Q0,49),(5,Q1,49),(19,Q0,49),(20,Q0,3),(21,Q0,3)]),(7,[(1,Q0,49),(5,Q1,49),(6,Q0,3),(7,Q0,3),(8,Q0,3),(19,Q0,49),(20,Q0,3),(21,Q0,3),(26,Q0,49),(27,Q0,3),(28,Q0,3)]),(14,[(1,Q0,49),(5,Q1,49),(8,Q0,3),(11,Q0,3),(19,Q0,49),(20,Q0,3),(21,Q0,3)])]),(97,[(4,[(0,Q0,49),(1,Q0,49),(5,Q1,49),(6,Q0,3),(7,Q0,3)]),(8,[(0,Q0,49),(1,Q0,49),(5,Q1,49),(6,Q0,3),(7,Q0,3)]),(10,[(0,Q0,49),(1,Q0,49),(5,Q1,49),(6,Q0,3),(7,Q0,3)])]),(98,[(6,[(0,Q0,49),(1,Q0,49),(5,Q0,3)])]),(99,[(4,[(1,Q0,49),(5,Q1,49),(6,Q0,3),(12,Q0,3),(13,Q0,3)]),(9,[(1,Q0,49),(5,Q1,49),(7,Q0,3),(8,Q0,3),(12,Q0,3),(13,Q0,3)]),(13,[(1,Q0,49),(5,Q1,49),(6,Q0,3),(7,Q0,3),(8,Q0,3),(12,Q0,3),(13,Q0,3)])]),(100,[(3,[(3,Q0,3),(7,Q0,22),(8,Q0,3),(9,Q0,3)])]),(104,[(3,[(1,Q0,3),(5,Q0,3),(9,Q0,22),(10,Q0,3),(11,Q0,3)])]),(105,[(3,[(1,Q0,3),(2,Q0,3),(6,Q0,0),(7,Q1,0),(15,Q0,22),(16,Q0,3),(17,Q0,3)]),(9,[(1,Q0,3),(2,Q0,3),(6,Q0,0),(7,Q1,0),(15,Q0,22),(16,Q0,3),(17,Q0,3)])]),(113,[(3,[(2,Q0,0),(3,Q0,0),(4,Q0,0),(5,Q1,0),(6,Q0,3),(7,Q0,3)]),(13,[(2,Q0,0),(3,Q0,0),(4,Q0,0),(5,Q1,0),(6,Q0,3),(7,Q0,3)]),(14,[(2,Q0,0),(3,Q0,0),(4,Q0,0),(5,Q1,0),(6,Q0,3),(7,Q0,3),(8,Q0,3)])]),(117,[(2,[(2,Q0,0),(3,Q0,0),(6,Q0,3)])]),(118,[(2,[(0,Q0,49),(3,Q1,48)]),(8,[(3,Q1,48),(6,Q1,59),(7,Q0,3)]),(13,[(3,Q1,48),(6,Q1,59),(7,Q0,3),(8,Q0,151)])]),(119,[(2,[(0,Q0,3),(3,Q1,49)])]),(121,[(7,[(0,Q0,59),(4,Q1,173),(5,Q0,59)]),(14,[(4,Q1,173),(10,Q1,32),(11,Q0,3)])]),(129,[(3,[(0,Q0,59),(1,Q0,59)]),(14,[(12,Q0,175),(14,Q0,175)])]),(130,[(3,[(2,Q0,0),(3,Q0,0),(4,Q0,0),(5,Q1,22),(9,Q0,22),(10,Q0,3),(11,Q0,3)]),(8,[(2,Q0,0),(3,Q0,0),(4,Q0,0),(5,Q1,22),(9,Q0,22),(10,Q0,3),(11,Q0,3)])]),(133,[(1,[(0,Q0,49),(1,Q0,49)]),(5,[(5,Q0,3),(7,Q0,3)])]),(134,[(3,[(1,Q0,3),(2,Q0,3),(7,Q1,49),(14,Q0,49),(15,Q0,3),(16,Q0,3)]),(9,[(2,Q0,3),(7,Q1,49)])]),(138,[(6,[(0,Q0,59),(1,Q0,59),(5,Q0,3)])]),(139,[(5,[(1,Q0,59),(5,Q1,59),(25,Q0,59),(26,Q0,3),(27,Q0,3)]),(9,[(1,Q0,59),(5,Q1,59),(6,Q0,3),(7,Q0,151),(8,Q0,175),(25,Q0,59),(26,Q0,3),(27,Q0,3),(32,Q0,59),(33,Q0,3),(34,Q0,3)])]),(140,[(7,[(0,Q0,4),(1,Q0,59),(2,Q0,59),(6,Q0,0)])]),(141,[(3,[(0,Q0,59),(1,Q0,59)]),(6,[(0,Q0,59),(1,Q0,59),(5,Q1,59),(6,Q0,175),(20,Q0,59),(21,Q0,3),(22,Q0,3)]),(11,[(0,Q0,59),(1,Q0,59),(5,Q1,59),(6,Q0,175),(7,Q0,3),(20,Q0,59),(21,Q0,3),(22,Q0,3)])]),(142,[(4,[(1,Q0,59),(5,Q1,59),(6,Q0,175),(13,Q0,59),(14,Q0,3),(15,Q0,3)]),(9,[(1,Q0,59),(5,Q1,59),(7,Q0,3),(9,Q0,175),(13,Q0,59),(14,Q0,3),(15,Q0,3)])]),(143,[(3,[(1,Q0,0),(2,Q0,0),(3,Q1,0),(10,Q0,22),(11,Q0,3),(12,Q0,3)])]),(144,[(4,[(0,Q0,59),(1,Q0,59),(12,Q0,3),(13,Q0,3)])]),(146,[(2,[(0,Q0,49),(3,Q0,3)])]),(147,[(13,[(0,Q0,49),(1,Q0,49),(12,Q1,49),(13,Q0,49),(14,Q0,3)]),(14,[(0,Q0,49),(1,Q0,49),(12,Q1,49),(13,Q0,49),(14,Q0,3)])]),(149,[(3,[(3,Q0,3),(6,Q0,48),(7,Q0,3),(8,Q0,3)])]),(155,[(3,[(2,Q0,0),(3,Q0,0),(4,Q0,0),(5,Q1,0),(14,Q0,22),(15,Q0,3),(16,Q0,3)]),(7,[(2,Q0,0),(3,Q0,0),(4,Q0,0),(5,Q1,0),(7,Q0,0),(8,Q1,48),(14,Q0,22),(15,Q0,3),(16,Q0,3),(24,Q0,3),(25,Q0,3)])]),(156,[(4,[(0,Q0,49),(1,Q0,3),(6,Q1,49),(7,Q0,3),(8,Q0,3)])]),(160,[(14,[(4,Q1,59),(8,Q0,3),(9,Q0,59),(10,Q0,59),(11,Q0,3),(12,Q0,175),(13,Q0,175),(14,Q0,3)]),(18,[(4,Q1,59),(8,Q0,3),(9,Q0,59),(10,Q0,59),(11,Q0,3),(12,Q0,175),(13,Q0,175),(14,Q0,3),(16,Q0,175),(17,Q0,175)]),(22,[(4,Q1,59),(8,Q0,3),(9,Q0,59),(10,Q0,59),(11,Q0,3),(12,Q0,175),(13,Q0,175),(14,Q0,3),(16,Q0,175)]),(25,[(4,Q1,59),(8,Q0,3),(9,Q0,59),(10,Q0,59),(11,Q0,3),(12,Q0,175),(13,Q0,175),(14,Q0,3),(16,Q0,175)])]),(162,[(2,[(0,Q0,175),(1,Q0,3),(5,Q1,32)]),(6,[(5,Q1,32),(6,Q0,3),(7,Q0,3)])]),(164,[(8,[(0,Q0,2),(5,Q0,0),(6,Q0,175)])]),(166,[(8,[(0,Q0,59),(1,Q0,59),(12,Q0,2),(13,Q0,2),(14,Q0,2),(15,Q0,2),(16,Q0,2),(17,Q0,2)]),(14,[(0,Q0,59),(1,Q0,59),(12,Q0,2),(13,Q0,2),(14,Q0,2),(15,Q0,2)])]),(167,[(4,[(0,Q0,3),(4,Q0,0),(5,Q0,205),(6,Q1,22),(16,Q0,22),(17,Q0,3),(18,Q0,3)]),(12,[(0,Q0,3),(4,Q0,0),(5,Q0,205),(6,Q1,22),(16,Q0,22),(17,Q0,3),(18,Q0,3)]),(15,[(4,Q0,0),(12,Q1,0),(56,Q0,22),(57,Q0,3),(58,Q0,3)]),(19,[(4,Q0,0),(12,Q1,0),(56,Q0,22),(57,Q0,3),(58,Q0,3)])]),(168,[(5,[(0,Q0,49),(4,Q0,3),(5,Q0,3)])]),(169,[(1,[(0,Q0,59)])]),(170,[(4,[(0,Q0,49),(1,Q0,49),(5,Q0,3),(6,Q0,3),(7,Q0,3),(8,Q0,3)]),(5,[(0,Q0,49),(1,Q0,49),(5,Q0,3),(6,Q0,3),(7,Q0,3),(8,Q0,3)]),(10,[(0,Q0,49),(1,Q0,49),(5,Q0,3),(6,Q0,3),(7,Q0,3),(9,Q0,3)]),(15,[(0,Q0,49),(1,Q0,49),(6,Q0,3),(7,Q0,3)]),(16,[(0,Q0,49),(1,Q0,49),(10,Q0,3)]),(18,[(0,Q0,49),(1,Q0,49),(10,Q0,3)])]),(173,[(4,[(0,Q0,59),(1,Q0,151),(6,Q1,59),(7,Q0,175),(8,Q0,3)])]),(175,[(6,[(5,Q0,3),(6,Q0,156),(7,Q1,59),(25,Q0,59),(26,Q0,3),(27,Q0,3)])]),(176,[(3,[(0,Q1,59),(1,Q0,59),(2,Q0,175),(7,Q0,175),(8,Q0,175),(13,Q0,59),(14,Q0,3),(15,Q0,3)])]),(177,[(2,[(0,Q1,59),(1,Q0,59),(4,Q0,175),(7,Q0,59),(8,Q0,3),(9,Q0,3)])]),(178,[(6,[(0,Q0,59),(5,Q0,3),(6,Q0,156),(7,Q1,59),(25,Q0,3),(26,Q0,3)]),(11,[(0,Q0,59),(5,Q0,3),(6,Q0,156),(7,Q1,59),(8,Q0,3),(9,Q0,175),(25,Q0,3),(26,Q0,3)])]),(181,[(1,[(0,Q1,32),(1,Q0,175),(4,Q0,3)]),(20,[(0,Q1,32),(4,Q0,3),(12,Q0,151)]),(25,[(0,Q1,32),(4,Q0,3),(12,Q0,151)])]),(182,[(3,[(0,Q1,32),(1,Q0,175),(2,Q0,3),(3,Q0,4),(4,Q0,4),(10,Q0,32),(11,Q0,9)]),(7,[(0,Q1,32),(1,Q0,175),(2,Q0,3),(3,Q0,4),(4,Q0,4),(10,Q0,32),(11,Q0,9),(12,Q0,0),(13,Q0,3)]),(11,[(0,Q1,32),(1,Q0,175),(3,Q0,4),(4,Q0,4),(10,Q0,32),(11,Q0,9),(12,Q0,0),(13,Q0,3),(14,Q0,156),(15,Q0,175),(16,Q0,156)]),(18,[(0,Q1,32),(1,Q0,175),(3,Q0,4),(4,Q0,4),(10,Q0,32),(11,Q0,9),(12,Q0,0),(13,Q0,3),(17,Q0,175)]),(25,[(0,Q1,32),(3,Q0,4),(4,Q0,4),(10,Q0,32),(11,Q0,9),(12,Q0,0),(13,Q0,3)]),(28,[(0,Q1,32),(4,Q0,4),(10,Q0,32),(11,Q0,9),(12,Q0,0),(13,Q0,3)])]),(186,[(3,[(3,Q1,32),(10,Q0,48),(11,Q0,3),(12,Q0,3)])]),(190,[(4,[(0,Q0,151),(2,Q0,3)]),(7,[(0,Q0,151),(2,Q0,3)])]),(192,[(4,[(0,Q0,175),(2,Q0,3)]),(7,[(0,Q0,175),(2,Q0,3)]),(10,[(0,Q0,175),(2,Q0,3)])]),(200,[(3,[(1,Q0,3),(2,Q0,3),(3,Q0,3),(4,Q0,0),(8,Q0,4),(9,Q0,4)]),(11,[(1,Q0,3),(2,Q0,3),(3,Q0,3),(4,Q0,0),(8,Q0,4),(9,Q0,4),(10,Q0,3)]),(16,[(1,Q0,3),(2,Q0,3),(3,Q0,3),(4,Q0,0),(8,Q0,4),(9,Q0,4),(10,Q0,3),(11,Q0,3),(12,Q0,229)]),(18,[(1,Q0,3),(2,Q0,3),(3,Q0,3),(4,Q0,0),(8,Q0,4),(9,Q0,4),(10,Q0,3),(11,Q0,3)])]),(212,[(2,[(1,Q0,3),(2,Q0,3),(3,Q0,0),(6,Q0,3)]),(5,[(1,Q0,3),(2,Q0,3),(3,Q0,0),(6,Q0,3),(7,Q0,3)])]),(213,[(5,[(3,Q0,0),(6,Q0,3),(7,Q0,3),(8,Q0,3),(9,Q0,3)]),(9,[(3,Q0,0),(6,Q0,3),(7,Q0,3),(10,Q0,3)])]),(214,[(6,[(1,Q0,3),(3,Q0,0),(6,Q0,3),(7,Q0,0),(8,Q0,156),(9,Q0,3)]),(11,[(1,Q0,3),(3,Q0,0),(6,Q0,3),(7,Q0,0),(8,Q0,156),(9,Q0,3),(10,Q0,3)])]),(215,[(11,[(3,Q0,0),(9,Q0,0),(10,Q0,3),(11,Q0,3),(12,Q0,3)]),(12,[(9,Q0,0),(11,Q0,3)])]),(216,[(3,[(3,Q0,0),(6,Q0,3),(7,Q0,3)])]),(217,[(3,[(1,Q0,3),(2,Q0,3),(3,Q0,0),(7,Q0,3),(8,Q0,3)]),(4,[(1,Q0,3),(2,Q0,3),(3,Q0,0),(7,Q0,3),(8,Q0,3)]),(5,[(1,Q0,3),(2,Q0,3),(3,Q0,0),(7,Q0,3),(8,Q0,3)]),(14,[(1,Q0,3),(2,Q0,3),(3,Q0,0),(7,Q0,3),(8,Q0,3),(9,Q0,3)]),(18,[(1,Q0,3),(2,Q0,3),(3,Q0,0),(7,Q0,3),(8,Q0,3)]),(20,[(1,Q0,3),(2,Q0,3),(3,Q0,0),(7,Q0,3),(8,Q0,3),(10,Q0,3)])]),(218,[(3,[(1,Q0,3),(4,Q0,0),(9,Q0,3),(10,Q0,3)]),(5,[(1,Q0,3),(4,Q0,0),(9,Q0,3),(10,Q0,3)])]),(219,[(3,[(1,Q0,3),(4,Q0,0),(10,Q0,3),(11,Q0,3)]),(5,[(1,Q0,3),(4,Q0,0),(10,Q0,3),(11,Q0,3)]),(13,[(1,Q0,3),(4,Q0,0),(10,Q0,3),(11,Q0,3)]),(15,[(1,Q0,3),(4,Q0,0),(10,Q0,3),(11,Q0,3)])]),(220,[(2,[(2,Q0,3),(3,Q0,3),(4,Q0,0),(8,Q0,3)]),(6,[(2,Q0,3),(3,Q0,3),(4,Q0,0),(8,Q0,3),(9,Q0,3)])])]
def Lc:List (Nat×(Nat×TypeId)):=[]
def arTab:List (Nat×(Nat×Nat)):=[(47,(8,3)),(197,(24,5)),(211,(20,175)),(212,(65,5)),(235,(32,5)),(236,(64,5))]
def mpTab:List Nat:=[205]
def Jm:List (Nat×(Nat×TypeId)):=[(77,(0,53))]
noncomputable def T:gv:={ P:=Tryz.prog,ty:=tyTab,el:=elTab,ar:=arTab,mp_:=mpTab,given_:=Jm,by_:=byTab,par:=parTab,out_:=outTab,lent_:=Lc,own:=ownTab,live:=liveTab,hook:=Jl 22 24 96 187 188 205 }
end Go.Proofs.YtfbgaddecbiimaaGreatDoor.E
end
namespace Go.Proofs.YtfbgaddecbiimaaGreatDoorW
open PrintWords
theorem bB {P : Prop} (h : P := by repeat (first | (with_reducible first | exact HB.out | apply PrintWords.below_alloc | apply PrintWords.pw_below_drewN | apply PrintWords.below_drew1) | exact HB.out)) : P := h
theorem dR {A B : Prop} (h : A) (g : A -> B := by intro h_; (with_reducible repeat (first | apply PrintWords.Kd.R_alloc | apply PrintWords.Kd.R_drewN | apply PrintWords.Kd.R_drew)); exact h_) : B := g h
theorem dV {A B : Prop} (h : A) (g : A -> B := by intro h_; (with_reducible repeat (first | apply PrintWords.Kd.V_alloc | apply PrintWords.Kd.V_drewN | apply PrintWords.Kd.V_drew)); exact h_) : B := g h
theorem dC {A B : Prop} (h : A) (g : A -> B := by intro h_; repeat (first | exact h_ | (with_reducible refine PrintWords.Kd.C_alloc ?_ _) | (with_reducible refine PrintWords.Kd.C_drewN ?_ _) | (with_reducible refine PrintWords.Kd.C_drew ?_))) : B := g h
theorem dQ {P : Prop} (h : P := by first | exact ⟨rfl, _, World.drewN_drewN _ _ _⟩ | exact ⟨rfl, _, Eq.trans (World.drewN_drewN _ _ _) (congrArg (World.drewN _) (Nat.add_assoc _ _ _))⟩) : P := h
theorem aS {P : Prop} (h : P := by first | (with_reducible assumption) | assumption) : P := h
end Go.Proofs.YtfbgaddecbiimaaGreatDoorW
section
namespace Go.Proofs.YtfbgaddecbiimaaGreatDoor.P
open Go.RowKit Go.Proofs.YtfbgaddecbiimaaGreatDoorW.PrintWords Go.Proofs.YtfbgaddecbiimaaGreatDoorW.PrintLast Go.Proofs.YtfbgaddecbiimaaGreatDoorW.PrintMore Go.Proofs.YtfbgaddecbiimaaGreatDoorW
attribute [local go_sem] wb vZ zI zH yo yn B6 B0
set_option linter.unusedVariables false
set_option linter.unusedSimpArgs false
structure S61 where
 f0:Bool
 f1:(List Int)
 f2:(List Int)
def z61:S61:=⟨false,([]:List Int),([]:List Int)⟩
structure rk where
 f0:(List Int)
 f1:S61
def z96:rk:=⟨([]:List Int),z61⟩
def cw (xs:List rk) (i:Int):rk:=xs.getD i.toNat z96
end Go.Proofs.YtfbgaddecbiimaaGreatDoor.P
end
section
namespace Go.Proofs.YtfbgaddecbiimaaGreatDoor.P
open Go.RowKit Go.Proofs.YtfbgaddecbiimaaGreatDoorW.PrintWords Go.Proofs.YtfbgaddecbiimaaGreatDoorW.PrintLast Go.Proofs.YtfbgaddecbiimaaGreatDoorW.PrintMore Go.Proofs.YtfbgaddecbiimaaGreatDoorW
attribute [local go_sem] wb vZ zI zH yo yn B6 B0
set_option linter.unusedVariables false
set_option linter.unusedSimpArgs false
def l7.f (a0_0:Bool) (l0_1:List Int) (l0_2:List Int) (a1:Int):Option (Bool):=if (l0_1.length:Int)<=a1 then (some (decide ((l0_2.length:Int)<=a1))) else (some false)
def iB.f (a0_0:Bool) (l0_1:List Int) (l0_2:List Int):Option (Int):=if (l0_1.length:Int)=0 then (some 0) else (if a0_0=true then (some (-1)) else (some 1))
def fb.l0:Nat->List Int->List Int->Int->Int->Option (Int)
 | 0,_,_,_,_=>none
 | k+1,x1,x7,x8,x9=>if x9<x8 then (if 0<=x9 then (if x9<(x7.length:Int) then (if x9<(x1.length:Int) then (if (rd x7 x9)=(rd x1 x9) then (fb.l0 k x1 x7 x8 (wrap64 (x9+1))) else (if (rd x7 x9)<(rd x1 x9) then (some (-1)) else (some 1))) else (none)) else (none)) else (none)) else (some 0)
def fb.f (k:Nat) (l0:List Int) (l1:List Int):Option (Int):=fb.l0 k l1 l0 (l0.length:Int) 0
def jD.f (l0:List Int) (a1:Int):Option (Bool):=if (l0.length:Int)<=a1 then (if (l0.length:Int)=0 then (some true) else (if 0<=(wrap64 ((l0.length:Int)-1)) then (if (wrap64 ((l0.length:Int)-1))<(l0.length:Int) then (some ((rd l0 (wrap64 ((l0.length:Int)-1))) != 0)) else (none)) else (none))) else (some false)
def dP.l0:Nat->List Int->List Int->Int->Option (Int)
 | 0,_,_,_=>none
 | k+1,x0,x1,x5=>if x5>=0 then (if 0<=x5 then (if x5<(x0.length:Int) then (if x5<(x1.length:Int) then (if (rd x0 x5)=(rd x1 x5) then (dP.l0 k x0 x1 (wrap64 (x5-1))) else (if (rd x0 x5)<(rd x1 x5) then (some (-1)) else (some 1))) else (none)) else (none)) else (none)) else (some 0)
def dP.f (k:Nat) (l0:List Int) (l1:List Int):Option (Int):=if (l0.length:Int)=(l1.length:Int) then (dP.l0 k l0 l1 (wrap64 ((l0.length:Int)-1))) else (if (l0.length:Int)<(l1.length:Int) then (some (-1)) else (some 1))
def cx.l0:Nat->List Int->Option (List Int)
 | 0,_=>none
 | k+1,x0=>if (x0.length:Int)>0 then (if 0<=(wrap64 ((x0.length:Int)-1)) then (if (wrap64 ((x0.length:Int)-1))<(x0.length:Int) then (if (rd x0 (wrap64 ((x0.length:Int)-1)))=0 then (if (wrap64 ((x0.length:Int)-1))<=(x0.length:Int) then (cx.l0 k (x0.take ((wrap64 ((x0.length:Int)-1)):Int).toNat)) else (none)) else (some x0)) else (none)) else (none)) else (some x0)
def cx.f (k:Nat) (l0:List Int):Option (List Int):=cx.l0 k l0
def dm.f (k:Nat) (a0:Int):Option (List Int):=(cx.f k (([(a0) % 4294967296,(a0 / 4294967296) % 4294967296]:List Int))).bind fun t120=>(some t120)
def dN.l0:Nat->List Int->Int->List Int->Int->Int->Option (List Int×Int)
 | 0,_,_,_,_,_=>none
 | k+1,x0,x1,x6,x7,x8=>if x8>=0 then (if 0<=x8 then (if x8<(x0.length:Int) then (if (IntKind.u64.wrap (x1))=0 then (none) else (if x8<(x6.length:Int) then (dN.l0 k x0 x1 (x6.set (x8:Int).toNat ((IntKind.u64.wrap (Int.tdiv (Go.bits .or .u64 (IntKind.u64.wrap (x7*4294967296)) (IntKind.u64.wrap (rd x0 x8))) (IntKind.u64.wrap (x1)))) % 4294967296)) (Int.tmod (Go.bits .or .u64 (IntKind.u64.wrap (x7*4294967296)) (IntKind.u64.wrap (rd x0 x8))) (IntKind.u64.wrap (x1))) (wrap64 (x8-1))) else (none))) else (none)) else (none)) else ((cx.f k x6).bind fun t128=>(some (t128,(x7) % 4294967296)))
def dN.f (k:Nat) (l0:List Int) (a1:Int):Option (List Int×Int):=if 0<=(l0.length:Int) then (if ((l0.length:Int):Int).toNat<=70368744177664 then (dN.l0 k l0 a1 (List.replicate ((l0.length:Int):Int).toNat 0) 0 (wrap64 ((l0.length:Int)-1))) else (none)) else (none)
def bits_Len32.f (a0:Int):Option (Int):=if a0>=65536 then (if (a0 / 65536)>=256 then (if 0<=(((a0 / 65536) / 256) % 256) then (if (((a0 / 65536) / 256) % 256)<256 then (some (wrap64 ((16+8)+(wrap64 (bt (⟨#[0,1,2,2,3,3,3,3,4,4,4,4,4,4,4,4,5,5,5,5,5,5,5,5,5,5,5,5,5,5,5,5,6,6,6,6,6,6,6,6,6,6,6,6,6,6,6,6,6,6,6,6,6,6,6,6,6,6,6,6,6,6,6,6,7,7,7,7,7,7,7,7,7,7,7,7,7,7,7,7,7,7,7,7,7,7,7,7,7,7,7,7,7,7,7,7,7,7,7,7,7,7,7,7,7,7,7,7,7,7,7,7,7,7,7,7,7,7,7,7,7,7,7,7,7,7,7,7,8,8,8,8,8,8,8,8,8,8,8,8,8,8,8,8,8,8,8,8,8,8,8,8,8,8,8,8,8,8,8,8,8,8,8,8,8,8,8,8,8,8,8,8,8,8,8,8,8,8,8,8,8,8,8,8,8,8,8,8,8,8,8,8,8,8,8,8,8,8,8,8,8,8,8,8,8,8,8,8,8,8,8,8,8,8,8,8,8,8,8,8,8,8,8,8,8,8,8,8,8,8,8,8,8,8,8,8,8,8,8,8,8,8,8,8,8,8,8,8,8,8,8,8,8,8,8,8]⟩:ByteArray) (((a0 / 65536) / 256) % 256)))))) else (none)) else (none)) else (if 0<=((a0 / 65536) % 256) then (if ((a0 / 65536) % 256)<256 then (some (wrap64 (16+(wrap64 (bt (⟨#[0,1,2,2,3,3,3,3,4,4,4,4,4,4,4,4,5,5,5,5,5,5,5,5,5,5,5,5,5,5,5,5,6,6,6,6,6,6,6,6,6,6,6,6,6,6,6,6,6,6,6,6,6,6,6,6,6,6,6,6,6,6,6,6,7,7,7,7,7,7,7,7,7,7,7,7,7,7,7,7,7,7,7,7,7,7,7,7,7,7,7,7,7,7,7,7,7,7,7,7,7,7,7,7,7,7,7,7,7,7,7,7,7,7,7,7,7,7,7,7,7,7,7,7,7,7,7,7,8,8,8,8,8,8,8,8,8,8,8,8,8,8,8,8,8,8,8,8,8,8,8,8,8,8,8,8,8,8,8,8,8,8,8,8,8,8,8,8,8,8,8,8,8,8,8,8,8,8,8,8,8,8,8,8,8,8,8,8,8,8,8,8,8,8,8,8,8,8,8,8,8,8,8,8,8,8,8,8,8,8,8,8,8,8,8,8,8,8,8,8,8,8,8,8,8,8,8,8,8,8,8,8,8,8,8,8,8,8,8,8,8,8,8,8,8,8,8,8,8,8,8,8,8,8,8,8]⟩:ByteArray) ((a0 / 65536) % 256)))))) else (none)) else (none))) else (if a0>=256 then (if 0<=((a0 / 256) % 256) then (if ((a0 / 256) % 256)<256 then (some (wrap64 ((0+8)+(wrap64 (bt (⟨#[0,1,2,2,3,3,3,3,4,4,4,4,4,4,4,4,5,5,5,5,5,5,5,5,5,5,5,5,5,5,5,5,6,6,6,6,6,6,6,6,6,6,6,6,6,6,6,6,6,6,6,6,6,6,6,6,6,6,6,6,6,6,6,6,7,7,7,7,7,7,7,7,7,7,7,7,7,7,7,7,7,7,7,7,7,7,7,7,7,7,7,7,7,7,7,7,7,7,7,7,7,7,7,7,7,7,7,7,7,7,7,7,7,7,7,7,7,7,7,7,7,7,7,7,7,7,7,7,8,8,8,8,8,8,8,8,8,8,8,8,8,8,8,8,8,8,8,8,8,8,8,8,8,8,8,8,8,8,8,8,8,8,8,8,8,8,8,8,8,8,8,8,8,8,8,8,8,8,8,8,8,8,8,8,8,8,8,8,8,8,8,8,8,8,8,8,8,8,8,8,8,8,8,8,8,8,8,8,8,8,8,8,8,8,8,8,8,8,8,8,8,8,8,8,8,8,8,8,8,8,8,8,8,8,8,8,8,8,8,8,8,8,8,8,8,8,8,8,8,8,8,8,8,8,8,8]⟩:ByteArray) ((a0 / 256) % 256)))))) else (none)) else (none)) else (if 0<=((a0) % 256) then (if ((a0) % 256)<256 then (some (wrap64 (0+(wrap64 (bt (⟨#[0,1,2,2,3,3,3,3,4,4,4,4,4,4,4,4,5,5,5,5,5,5,5,5,5,5,5,5,5,5,5,5,6,6,6,6,6,6,6,6,6,6,6,6,6,6,6,6,6,6,6,6,6,6,6,6,6,6,6,6,6,6,6,6,7,7,7,7,7,7,7,7,7,7,7,7,7,7,7,7,7,7,7,7,7,7,7,7,7,7,7,7,7,7,7,7,7,7,7,7,7,7,7,7,7,7,7,7,7,7,7,7,7,7,7,7,7,7,7,7,7,7,7,7,7,7,7,7,8,8,8,8,8,8,8,8,8,8,8,8,8,8,8,8,8,8,8,8,8,8,8,8,8,8,8,8,8,8,8,8,8,8,8,8,8,8,8,8,8,8,8,8,8,8,8,8,8,8,8,8,8,8,8,8,8,8,8,8,8,8,8,8,8,8,8,8,8,8,8,8,8,8,8,8,8,8,8,8,8,8,8,8,8,8,8,8,8,8,8,8,8,8,8,8,8,8,8,8,8,8,8,8,8,8,8,8,8,8,8,8,8,8,8,8,8,8,8,8,8,8,8,8,8,8,8,8]⟩:ByteArray) ((a0) % 256)))))) else (none)) else (none)))
def bits_LeadingZeros32.f (a0:Int):Option (Int):=(bits_Len32.f a0).bind fun t131=>(some (wrap64 (32-t131)))
def ff.l0:Nat->Int->Int->List Int->List Int->Int->Int->Option (List Int)
 | 0,_,_,_,_,_,_=>none
 | k+1,x5,x6,x7,x25,x26,x27=>if x27<x26 then (if 0<=x27 then (if x27<(x25.length:Int) then (if 0<=x6 then (if 0<=(wrap64 (x27+x5)) then (if (wrap64 (x27+x5))<(x7.length:Int) then (if 0<=(wrap64 ((wrap64 (x27+x5))+1)) then (if (wrap64 ((wrap64 (x27+x5))+1))<(x7.length:Int) then (ff.l0 k x5 x6 ((x7.set ((wrap64 (x27+x5)):Int).toNat (Go.bits .or .u32 (rd x7 (wrap64 (x27+x5))) ((shl .u64 (IntKind.u64.wrap (rd x25 x27)) x6) % 4294967296))).set ((wrap64 ((wrap64 (x27+x5))+1)):Int).toNat (((shl .u64 (IntKind.u64.wrap (rd x25 x27)) x6) / 4294967296) % 4294967296)) x25 x26 (wrap64 (x27+1))) else (none)) else (none)) else (none)) else (none)) else (none)) else (none)) else (none)) else ((cx.f k x7).bind fun t139=>(some t139))
def ff.f (k:Nat) (l0:List Int) (a1:Int):Option (List Int):=if (l0.length:Int)=0 then (some ([]:List Int)) else (if 0<=(wrap64 ((wrap64 ((l0.length:Int)+(wrap64 (Int.tdiv a1 32))))+1)) then (if (wrap64 ((wrap64 ((l0.length:Int)+(wrap64 (Int.tdiv a1 32))))+1):Int).toNat<=70368744177664 then (ff.l0 k (wrap64 (Int.tdiv a1 32)) (IntKind.u64.wrap (Int.tmod a1 32)) (List.replicate (wrap64 ((wrap64 ((l0.length:Int)+(wrap64 (Int.tdiv a1 32))))+1):Int).toNat 0) l0 (l0.length:Int) 0) else (none)) else (none))
def cm.l0:Nat->List Int->List Int->Int->Int->Int->List Int->Int->Int->Option (Bool×List Int)
 | 0,_,_,_,_,_,_,_,_=>none
 | k+1,x0,x1,x2,x7,x8,x13,x14,x15=>if x15<x14 then (if 0<=x15 then (if x15<(x13.length:Int) then (if x15<(x0.length:Int) then (cm.l0 k (x0.set (x15:Int).toNat ((IntKind.u64.wrap ((IntKind.u64.wrap ((IntKind.u64.wrap (rd x0 x15))-((IntKind.u64.wrap (x7+(IntKind.u64.wrap (x2*(IntKind.u64.wrap (rd x13 x15)))))) % 4294967296)))-x8)) % 4294967296)) x1 x2 ((IntKind.u64.wrap (x7+(IntKind.u64.wrap (x2*(IntKind.u64.wrap (rd x13 x15)))))) / 4294967296) ((IntKind.u64.wrap ((IntKind.u64.wrap ((IntKind.u64.wrap (rd x0 x15))-((IntKind.u64.wrap (x7+(IntKind.u64.wrap (x2*(IntKind.u64.wrap (rd x13 x15)))))) % 4294967296)))-x8)) / 9223372036854775808) x13 x14 (wrap64 (x15+1))) else (none)) else (none)) else (none)) else (if 0<=(x1.length:Int) then (if (x1.length:Int)<(x0.length:Int) then (some ((((IntKind.u64.wrap ((IntKind.u64.wrap ((IntKind.u64.wrap (rd x0 (x1.length:Int)))-x7))-x8)) / 9223372036854775808)==1),(x0.set ((x1.length:Int):Int).toNat ((IntKind.u64.wrap ((IntKind.u64.wrap ((IntKind.u64.wrap (rd x0 (x1.length:Int)))-x7))-x8)) % 4294967296)))) else (none)) else (none))
def cm.f (k:Nat) (l0:List Int) (l1:List Int) (a2:Int):Option (Bool×List Int):=cm.l0 k l0 l1 a2 0 0 l1 (l1.length:Int) 0
def cY.f (k:Nat) (l0:List Int) (b1_ b2_:Int) (l1:List Int) (a2:Int):Option (Bool×List Int):=(cm.f k ((l0.take b2_.toNat).drop b1_.toNat) l1 a2).bind fun p=>some (p.1,l0.take b1_.toNat++p.2++l0.drop b2_.toNat)
def cB.l0:Nat->List Int->List Int->Int->List Int->Int->Int->Option (List Int)
 | 0,_,_,_,_,_,_=>none
 | k+1,x0,x1,x4,x7,x8,x9=>if x9<x8 then (if 0<=x9 then (if x9<(x7.length:Int) then (if x9<(x0.length:Int) then (cB.l0 k (x0.set (x9:Int).toNat ((IntKind.u64.wrap (x4+(IntKind.u64.wrap ((IntKind.u64.wrap (rd x0 x9))+(IntKind.u64.wrap (rd x7 x9)))))) % 4294967296)) x1 ((IntKind.u64.wrap (x4+(IntKind.u64.wrap ((IntKind.u64.wrap (rd x0 x9))+(IntKind.u64.wrap (rd x7 x9)))))) / 4294967296) x7 x8 (wrap64 (x9+1))) else (none)) else (none)) else (none)) else (if 0<=(x1.length:Int) then (if (x1.length:Int)<(x0.length:Int) then (some (x0.set ((x1.length:Int):Int).toNat (((rd x0 (x1.length:Int))+((x4) % 4294967296)) % 4294967296))) else (none)) else (none))
def cB.f (k:Nat) (l0:List Int) (l1:List Int):Option (List Int):=cB.l0 k l0 l1 0 l1 (l1.length:Int) 0
def dL.f (k:Nat) (l0:List Int) (b1_ b2_:Int) (l1:List Int):Option (List Int):=(cB.f k ((l0.take b2_.toNat).drop b1_.toNat) l1).bind fun p=>some (l0.take b1_.toNat++p++l0.drop b2_.toNat)
def eW.l0:Nat->List Int->Int->Int->List Int->Int->Int->Option (List Int)
 | 0,_,_,_,_,_,_=>none
 | k+1,x0,x5,x6,x7,x25,x26=>if x26<x25 then (if 0<=(wrap64 (x26+x5)) then (if (wrap64 (x26+x5))<(x0.length:Int) then (if (wrap64 ((wrap64 (x26+x5))+1))<(x0.length:Int) then (if 0<=(wrap64 ((wrap64 (x26+x5))+1)) then (if 0<=x6 then (if 0<=x26 then (if x26<(x7.length:Int) then (eW.l0 k x0 x5 x6 (x7.set (x26:Int).toNat ((shr .u64 (Go.bits .or .u64 (IntKind.u64.wrap (rd x0 (wrap64 (x26+x5)))) (IntKind.u64.wrap ((IntKind.u64.wrap (rd x0 (wrap64 ((wrap64 (x26+x5))+1))))*4294967296))) x6) % 4294967296)) x25 (wrap64 (x26+1))) else (none)) else (none)) else (none)) else (none)) else (if 0<=x6 then (if 0<=x26 then (if x26<(x7.length:Int) then (eW.l0 k x0 x5 x6 (x7.set (x26:Int).toNat ((shr .u64 (IntKind.u64.wrap (rd x0 (wrap64 (x26+x5)))) x6) % 4294967296)) x25 (wrap64 (x26+1))) else (none)) else (none)) else (none))) else (none)) else (none)) else ((cx.f k x7).bind fun t159=>(some t159))
def eW.f (k:Nat) (l0:List Int) (a1:Int):Option (List Int):=if (wrap64 (Int.tdiv a1 32))>=(l0.length:Int) then (some ([]:List Int)) else (if 0<=(wrap64 ((l0.length:Int)-(wrap64 (Int.tdiv a1 32)))) then (if (wrap64 ((l0.length:Int)-(wrap64 (Int.tdiv a1 32))):Int).toNat<=70368744177664 then ((some (List.replicate (wrap64 ((l0.length:Int)-(wrap64 (Int.tdiv a1 32))):Int).toNat 0:List Int)).bind fun y152=>(eW.l0 k l0 (wrap64 (Int.tdiv a1 32)) (IntKind.u64.wrap (Int.tmod a1 32)) y152 (y152.length:Int) 0)) else (none)) else (none))
mutual
def aI.l0:Nat->List Int->Int->List Int->List Int->Int->Int->Int->Int->Option (List Int×List Int)
 | 0,_,_,_,_,_,_,_,_=>none
 | k+1,x4,x8,x9,x10,x11,x12,x13,x14=>if x14>=0 then (if 0<=(wrap64 (x14+x11)) then (if (wrap64 (x14+x11))<(x10.length:Int) then (if 0<=(wrap64 ((wrap64 (x14+x11))-1)) then (if (wrap64 ((wrap64 (x14+x11))-1))<(x10.length:Int) then (if x12=0 then (none) else (aI.l1 k x4 x8 x9 x10 x11 x12 x13 x14 (IntKind.u64.wrap (Int.tdiv (Go.bits .or .u64 (IntKind.u64.wrap ((IntKind.u64.wrap (rd x10 (wrap64 (x14+x11))))*4294967296)) (IntKind.u64.wrap (rd x10 (wrap64 ((wrap64 (x14+x11))-1))))) x12)) (Int.tmod (Go.bits .or .u64 (IntKind.u64.wrap ((IntKind.u64.wrap (rd x10 (wrap64 (x14+x11))))*4294967296)) (IntKind.u64.wrap (rd x10 (wrap64 ((wrap64 (x14+x11))-1))))) x12))) else (none)) else (none)) else (none)) else (none)) else ((cx.f k x4).bind fun t191=>((cx.f k x10).bind fun t194=>((eW.f k t194 x8).bind fun t197=>(some (t191,t197)))))
def aI.j3:Nat->List Int->Int->List Int->List Int->Int->Int->Int->Int->Int->Option (List Int×List Int)
 | 0,_,_,_,_,_,_,_,_,_=>none
 | k+1,x4,x8,x9,x10,x11,x12,x13,x14,x16=>if 0<=x14 then (if x14<(wrap64 ((wrap64 (x14+x11))+1)) then (if (wrap64 ((wrap64 (x14+x11))+1))<=(x10.length:Int) then ((cY.f k x10 x14 (wrap64 ((wrap64 (x14+x11))+1)) x9 x16).bind fun bt204=>(if bt204.1=true then ((dL.f k bt204.2 x14 (wrap64 ((wrap64 (x14+x11))+1)) x9).bind fun t207=>(if x14<(x4.length:Int) then (aI.l0 k (x4.set (x14:Int).toNat ((IntKind.u64.wrap (x16-1)) % 4294967296)) x8 x9 t207 x11 x12 x13 (wrap64 (x14-1))) else (none))) else (if x14<(x4.length:Int) then (aI.l0 k (x4.set (x14:Int).toNat ((x16) % 4294967296)) x8 x9 bt204.2 x11 x12 x13 (wrap64 (x14-1))) else (none)))) else (none)) else (none)) else (none)
def aI.l1:Nat->List Int->Int->List Int->List Int->Int->Int->Int->Int->Int->Int->Option (List Int×List Int)
 | 0,_,_,_,_,_,_,_,_,_,_=>none
 | k+1,x4,x8,x9,x10,x11,x12,x13,x14,x16,x17=>if x16>=4294967296 then (aI.j2 k x4 x8 x9 x10 x11 x12 x13 x14 x16 x17 true) else (if 0<=(wrap64 ((wrap64 (x14+x11))-2)) then (if (wrap64 ((wrap64 (x14+x11))-2))<(x10.length:Int) then (aI.j2 k x4 x8 x9 x10 x11 x12 x13 x14 x16 x17 (decide ((IntKind.u64.wrap (x16*x13))>(Go.bits .or .u64 (IntKind.u64.wrap (x17*4294967296)) (IntKind.u64.wrap (rd x10 (wrap64 ((wrap64 (x14+x11))-2)))))))) else (none)) else (none))
def aI.j2:Nat->List Int->Int->List Int->List Int->Int->Int->Int->Int->Int->Int->Bool->Option (List Int×List Int)
 | 0,_,_,_,_,_,_,_,_,_,_,_=>none
 | k+1,x4,x8,x9,x10,x11,x12,x13,x14,x16,x17,x127=>if x127=true then (if (IntKind.u64.wrap (x17+x12))>=4294967296 then (aI.j3 k x4 x8 x9 x10 x11 x12 x13 x14 (IntKind.u64.wrap (x16-1))) else (aI.l1 k x4 x8 x9 x10 x11 x12 x13 x14 (IntKind.u64.wrap (x16-1)) (IntKind.u64.wrap (x17+x12)))) else (aI.j3 k x4 x8 x9 x10 x11 x12 x13 x14 x16)
end
def aI.f (k:Nat) (l0:List Int) (l1:List Int):Option (List Int×List Int):=(dP.f k l0 l1).bind fun t162=>(if t162<0 then (if ([]:List Int).length+l0.length<35184372088832 then (some (([]:List Int),(([]:List Int)++l0))) else (none)) else (if (l1.length:Int)=1 then (if 0<(l1.length:Int) then ((dN.f k l0 (rd l1 0)).bind fun bt167=>((dm.f k (IntKind.u64.wrap (bt167.2))).bind fun t171=>(some (bt167.1,t171)))) else (none)) else (if 0<=(wrap64 ((l1.length:Int)-1)) then (if (wrap64 ((l1.length:Int)-1))<(l1.length:Int) then ((bits_LeadingZeros32.f (rd l1 (wrap64 ((l1.length:Int)-1)))).bind fun t175=>((ff.f k l1 t175).bind fun t176=>(if 0<=(wrap64 ((l0.length:Int)+1)) then (if (wrap64 ((l0.length:Int)+1):Int).toNat<=70368744177664 then ((some (List.replicate (wrap64 ((l0.length:Int)+1):Int).toNat 0:List Int)).bind fun y179=>((ff.f k l0 t175).bind fun t182=>(if 0<=(wrap64 ((y179.length:Int)-(t176.length:Int))) then (if (wrap64 ((y179.length:Int)-(t176.length:Int)):Int).toNat<=70368744177664 then (if 0<=(wrap64 ((t176.length:Int)-1)) then (if (wrap64 ((t176.length:Int)-1))<(t176.length:Int) then (if 0<=(wrap64 ((t176.length:Int)-2)) then (if (wrap64 ((t176.length:Int)-2))<(t176.length:Int) then (aI.l0 k (List.replicate (wrap64 ((y179.length:Int)-(t176.length:Int)):Int).toNat 0) t175 t176 (j6 y179 t182) (t176.length:Int) (IntKind.u64.wrap (rd t176 (wrap64 ((t176.length:Int)-1)))) (IntKind.u64.wrap (rd t176 (wrap64 ((t176.length:Int)-2)))) (wrap64 ((wrap64 ((y179.length:Int)-(t176.length:Int)))-1))) else (none)) else (none)) else (none)) else (none)) else (none)) else (none)))) else (none)) else (none)))) else (none)) else (none))))
def eU.f (l0:List Int):Option (Int×Bool):=if (l0.length:Int)=0 then (some (0,true)) else (if (l0.length:Int)=1 then (if 0<(l0.length:Int) then (some (IntKind.u64.wrap (rd l0 0),true)) else (none)) else (if (l0.length:Int)=2 then (if 1<(l0.length:Int) then (if 0<(l0.length:Int) then (some (Go.bits .or .u64 (IntKind.u64.wrap ((IntKind.u64.wrap (rd l0 1))*4294967296)) (IntKind.u64.wrap (rd l0 0)),true)) else (none)) else (none)) else (some (0,false))))
def gQ.f (l0:List Int):Option (Int):=if (l0.length:Int)=0 then (some 0) else (if 0<=(wrap64 ((l0.length:Int)-1)) then (if (wrap64 ((l0.length:Int)-1))<(l0.length:Int) then ((bits_LeadingZeros32.f (rd l0 (wrap64 ((l0.length:Int)-1)))).bind fun t214=>(some (wrap64 ((wrap64 (32*(l0.length:Int)))-t214)))) else (none)) else (none))
mutual
def bI.j0:Nat->List Int->List Int->Bool->Option (List Int)
 | 0,_,_,_=>none
 | k+1,x0,x1,x18=>if x18=true then (some ([]:List Int)) else (if 0<=(wrap64 ((x0.length:Int)+(x1.length:Int))) then (if (wrap64 ((x0.length:Int)+(x1.length:Int)):Int).toNat<=70368744177664 then (bI.l0 k x1 (List.replicate (wrap64 ((x0.length:Int)+(x1.length:Int)):Int).toNat 0) x0 (x0.length:Int) 0) else (none)) else (none))
def bI.l0:Nat->List Int->List Int->List Int->Int->Int->Option (List Int)
 | 0,_,_,_,_,_=>none
 | k+1,x1,x5,x25,x26,x27=>if x27<x26 then (if 0<=x27 then (if x27<(x25.length:Int) then (bI.l1 k x1 x5 x27 (rd x25 x27) 0 x25 x26 x27 x1 (x1.length:Int) 0) else (none)) else (none)) else ((cx.f k x5).bind fun t218=>(some t218))
def bI.l1:Nat->List Int->List Int->Int->Int->Int->List Int->Int->Int->List Int->Int->Int->Option (List Int)
 | 0,_,_,_,_,_,_,_,_,_,_,_=>none
 | k+1,x1,x5,x6,x7,x8,x25,x26,x27,x32,x33,x34=>if x34<x33 then (if 0<=x34 then (if x34<(x32.length:Int) then (if 0<=(wrap64 (x6+x34)) then (if (wrap64 (x6+x34))<(x5.length:Int) then (bI.l1 k x1 (x5.set ((wrap64 (x6+x34)):Int).toNat ((IntKind.u64.wrap (x8+(IntKind.u64.wrap ((IntKind.u64.wrap ((IntKind.u64.wrap (x7))*(IntKind.u64.wrap (rd x32 x34))))+(IntKind.u64.wrap (rd x5 (wrap64 (x6+x34)))))))) % 4294967296)) x6 x7 ((IntKind.u64.wrap (x8+(IntKind.u64.wrap ((IntKind.u64.wrap ((IntKind.u64.wrap (x7))*(IntKind.u64.wrap (rd x32 x34))))+(IntKind.u64.wrap (rd x5 (wrap64 (x6+x34)))))))) / 4294967296) x25 x26 x27 x32 x33 (wrap64 (x34+1))) else (none)) else (none)) else (none)) else (none)) else (if 0<=(wrap64 (x6+(x1.length:Int))) then (if (wrap64 (x6+(x1.length:Int)))<(x5.length:Int) then (bI.l0 k x1 (x5.set ((wrap64 (x6+(x1.length:Int))):Int).toNat ((x8) % 4294967296)) x25 x26 (wrap64 (x27+1))) else (none)) else (none))
end
def bI.f (k:Nat) (l0:List Int) (l1:List Int):Option (List Int):=if (l0.length:Int)=0 then (bI.j0 k l0 l1 true) else (bI.j0 k l0 l1 ((l1.length:Int)==0))
def dJ.l0:Nat->List Int->List Int->Int->List Int->Int->Int->Option (List Int)
 | 0,_,_,_,_,_,_=>none
 | k+1,x1,x5,x6,x13,x14,x15=>if x15<x14 then (if 0<=x15 then (if x15<(x13.length:Int) then (if x15<(x1.length:Int) then (if x15<(x5.length:Int) then (dJ.l0 k x1 (x5.set (x15:Int).toNat ((IntKind.u64.wrap ((IntKind.u64.wrap ((IntKind.u64.wrap (rd x13 x15))-x6))-(IntKind.u64.wrap (rd x1 x15)))) % 4294967296)) ((IntKind.u64.wrap ((IntKind.u64.wrap ((IntKind.u64.wrap (rd x13 x15))-x6))-(IntKind.u64.wrap (rd x1 x15)))) / 9223372036854775808) x13 x14 (wrap64 (x15+1))) else (none)) else (if x15<(x5.length:Int) then (dJ.l0 k x1 (x5.set (x15:Int).toNat ((IntKind.u64.wrap ((IntKind.u64.wrap (rd x13 x15))-x6)) % 4294967296)) ((IntKind.u64.wrap ((IntKind.u64.wrap (rd x13 x15))-x6)) / 9223372036854775808) x13 x14 (wrap64 (x15+1))) else (none))) else (none)) else (none)) else ((cx.f k x5).bind fun t233=>(some t233))
def dJ.f (k:Nat) (l0:List Int) (l1:List Int):Option (List Int):=if 0<=(l0.length:Int) then (if ((l0.length:Int):Int).toNat<=70368744177664 then (dJ.l0 k l1 (List.replicate ((l0.length:Int):Int).toNat 0) 0 l0 (l0.length:Int) 0) else (none)) else (none)
def cC.j0:Nat->List Int->List Int->Int->Int->Bool->Option (List Int)
 | 0,_,_,_,_,_=>none
 | k+1,x0,x1,x2,x3,x14=>if x14=true then ((dm.f k (IntKind.u64.wrap (x3))).bind fun t236=>((bI.f k x1 t236).bind fun t239=>((dm.f k (IntKind.u64.wrap (wrap64 (-x2)))).bind fun t242=>((bI.f k x0 t242).bind fun t245=>((dJ.f k t239 t245).bind fun t248=>(some t248)))))) else ((dm.f k (IntKind.u64.wrap (x2))).bind fun t251=>((bI.f k x0 t251).bind fun t254=>((dm.f k (IntKind.u64.wrap (wrap64 (-x3)))).bind fun t257=>((bI.f k x1 t257).bind fun t260=>((dJ.f k t254 t260).bind fun t263=>(some t263))))))
def cC.f (k:Nat) (l0:List Int) (l1:List Int) (a2:Int) (a3:Int):Option (List Int):=if a2<0 then (cC.j0 k l0 l1 a2 a3 true) else (cC.j0 k l0 l1 a2 a3 (decide (a3>0)))
mutual
def bg.j2:Nat->List Int->List Int->Int->Int->Int->Int->Option (List Int×List Int×Bool)
 | 0,_,_,_,_,_,_=>none
 | k+1,x0,x1,x12,x13,x14,x15=>if x13=0 then (some (([]:List Int),([]:List Int),false)) else ((cC.f k x0 x1 x12 x13).bind fun t278=>((cC.f k x0 x1 x14 x15).bind fun t281=>(some (t278,t281,true))))
def bg.l0:Nat->List Int->List Int->Int->Int->Int->Int->Int->Int->Option (List Int×List Int×Bool)
 | 0,_,_,_,_,_,_,_,_=>none
 | k+1,x0,x1,x12,x13,x14,x15,x16,x17=>if (wrap64 (x17+x14))=0 then (bg.j1 k x0 x1 x12 x13 x14 x15 x16 x17 false) else (bg.j1 k x0 x1 x12 x13 x14 x15 x16 x17 ((wrap64 (x17+x15)) != 0))
def bg.j1:Nat->List Int->List Int->Int->Int->Int->Int->Int->Int->Bool->Option (List Int×List Int×Bool)
 | 0,_,_,_,_,_,_,_,_,_=>none
 | k+1,x0,x1,x12,x13,x14,x15,x16,x17,x55=>if x55=true then (if (wrap64 (x17+x14))=0 then (none) else (if (wrap64 (x17+x15))=0 then (none) else (if (wrap64 (Int.tdiv (wrap64 (x16+x12)) (wrap64 (x17+x14))))=(wrap64 (Int.tdiv (wrap64 (x16+x13)) (wrap64 (x17+x15)))) then (bg.l0 k x0 x1 x14 x15 (wrap64 (x12-(wrap64 ((wrap64 (Int.tdiv (wrap64 (x16+x12)) (wrap64 (x17+x14))))*x14)))) (wrap64 (x13-(wrap64 ((wrap64 (Int.tdiv (wrap64 (x16+x12)) (wrap64 (x17+x14))))*x15)))) x17 (wrap64 (x16-(wrap64 ((wrap64 (Int.tdiv (wrap64 (x16+x12)) (wrap64 (x17+x14))))*x17))))) else (bg.j2 k x0 x1 x12 x13 x14 x15)))) else (bg.j2 k x0 x1 x12 x13 x14 x15)
end
def bg.f (k:Nat) (l0:List Int) (l1:List Int):Option (List Int×List Int×Bool):=(gQ.f l0).bind fun t266=>((gQ.f l1).bind fun t267=>(if t267<(wrap64 (t266-20)) then (some (([]:List Int),([]:List Int),false)) else ((eW.f k l0 (wrap64 (t266-31))).bind fun t268=>((eU.f t268).bind fun bt271=>((eW.f k l1 (wrap64 (t266-31))).bind fun t273=>((eU.f t273).bind fun bt276=>(bg.l0 k l0 l1 1 0 0 1 (wrap64 (bt271.1)) (wrap64 (bt276.1)))))))))
mutual
def cd.j0:Nat->List Int->List Int->Option (List Int)
 | 0,_,_=>none
 | k+1,x0,x1=>cd.l0 k x0 x1
def cd.l0:Nat->List Int->List Int->Option (List Int)
 | 0,_,_=>none
 | k+1,x0,x1=>if (x1.length:Int)>2 then ((bg.f k x0 x1).bind fun bt285=>(if bt285.2.2=true then (cd.l0 k bt285.1 bt285.2.1) else ((aI.f k x0 x1).bind fun bt292=>(cd.l0 k x1 bt292.2)))) else (if (x1.length:Int)=0 then (if ([]:List Int).length+x0.length<35184372088832 then (some (([]:List Int)++x0)) else (none)) else ((aI.f k x0 x1).bind fun bt301=>((eU.f x1).bind fun bt307=>((eU.f bt301.2).bind fun bt309=>(cd.l1 k bt307.1 bt309.1)))))
def cd.l1:Nat->Int->Int->Option (List Int)
 | 0,_,_=>none
 | k+1,x12,x14=>if x14=0 then ((dm.f k x12).bind fun t311=>(some t311)) else (cd.l1 k x14 (Int.tmod x12 x14))
end
def cd.f (k:Nat) (l0:List Int) (l1:List Int):Option (List Int):=(dP.f k l0 l1).bind fun t284=>(if t284<0 then (cd.j0 k l1 l0) else (cd.j0 k l0 l1))
def fe.j0:Nat->Bool->Bool->List Int->List Int->Option (Bool)
 | 0,_,_,_,_=>none
 | k+1,x23,x315000,x315001,x315002=>if x23=true then (some false) else (if (x315001.length:Int)=0 then (if x315000=true then (some false) else (if (x315002.length:Int)=1 then (if 0<(x315002.length:Int) then (some ((rd x315002 0)==1)) else (none)) else (some false))) else (if (x315002.length:Int)=1 then (if 0<(x315002.length:Int) then (if (rd x315002 0)=1 then (some true) else ((cd.f k x315001 x315002).bind fun t319=>(if (t319.length:Int)=1 then (if 0<(t319.length:Int) then (some ((rd t319 0)==1)) else (none)) else (some false)))) else (none)) else ((cd.f k x315001 x315002).bind fun t323=>(if (t323.length:Int)=1 then (if 0<(t323.length:Int) then (some ((rd t323 0)==1)) else (none)) else (some false)))))
def fe.f (k:Nat) (a0_0:Bool) (l0_1:List Int) (l0_2:List Int) (a1:Int):Option (Bool):=(jD.f l0_1 a1).bind fun t315=>(if t315=true then ((jD.f l0_2 a1).bind fun t316=>(if t316=true then (fe.j0 k ((l0_2.length:Int)==0) a0_0 l0_1 l0_2) else (fe.j0 k true a0_0 l0_1 l0_2))) else (fe.j0 k true a0_0 l0_1 l0_2))
mutual
def bB.j0:Nat->Bool->Int->List (rk)->Option (Bool)
 | 0,_,_,_=>none
 | k+1,x21,x328000,x328001=>if x21=true then (some false) else (bB.l0 k x328001 (x328001.length:Int) 0 x328000 x328001)
def bB.l0:Nat->List (rk)->Int->Int->Int->List (rk)->Option (Bool)
 | 0,_,_,_,_,_=>none
 | k+1,x23,x24,x25,x328000,x328001=>if x25<x24 then (if 0<=x25 then (if x25<(x23.length:Int) then (if (((cw x23 x25).f0).length:Int)=x328000 then ((l7.f ((cw x23 x25).f1.f0) ((cw x23 x25).f1.f1) ((cw x23 x25).f1.f2) 200).bind fun t330=>(if t330=true then ((iB.f ((cw x23 x25).f1.f0) ((cw x23 x25).f1.f1) ((cw x23 x25).f1.f2)).bind fun t331=>(bB.j2 k x25 x23 x24 x25 (t331==0) x328000 x328001 ((cw x23 x25).f0) ((cw x23 x25).f1.f0) ((cw x23 x25).f1.f1) ((cw x23 x25).f1.f2))) else (bB.j2 k x25 x23 x24 x25 true x328000 x328001 ((cw x23 x25).f0) ((cw x23 x25).f1.f0) ((cw x23 x25).f1.f1) ((cw x23 x25).f1.f2)))) else (bB.j2 k x25 x23 x24 x25 true x328000 x328001 ((cw x23 x25).f0) ((cw x23 x25).f1.f0) ((cw x23 x25).f1.f1) ((cw x23 x25).f1.f2))) else (none)) else (none)) else (some true)
def bB.j2:Nat->Int->List (rk)->Int->Int->Bool->Int->List (rk)->List Int->Bool->List Int->List Int->Option (Bool)
 | 0,_,_,_,_,_,_,_,_,_,_,_=>none
 | k+1,x3,x23,x24,x25,x47,x328000,x328001,x330000,x330001,x330002,x330003=>if x47=true then (some false) else (bB.l1 k x3 0 x23 x24 x25 x330000 (x330000.length:Int) 0 x328000 x328001 x330000 x330001 x330002 x330003)
def bB.l1:Nat->Int->Int->List (rk)->Int->Int->List Int->Int->Int->Int->List (rk)->List Int->Bool->List Int->List Int->Option (Bool)
 | 0,_,_,_,_,_,_,_,_,_,_,_,_,_,_=>none
 | k+1,x3,x5,x23,x24,x25,x49,x50,x51,x328000,x328001,x330000,x330001,x330002,x330003=>if x51<x50 then (if 0<=x51 then (if x51<(x49.length:Int) then (if (rd x49 x51)<0 then (some false) else (if (rd x49 x51)>40 then (some false) else (bB.l1 k x3 (wrap64 (x5+(rd x49 x51))) x23 x24 x25 x49 x50 (wrap64 (x51+1)) x328000 x328001 x330000 x330001 x330002 x330003))) else (none)) else (none)) else (if x5>40 then (some false) else (if x3>0 then (if 0<=(wrap64 (x3-1)) then (if (wrap64 (x3-1))<(x328001.length:Int) then ((fb.f k ((cw x328001 (wrap64 (x3-1))).f0) x330000).bind fun t334=>(if t334<=0 then (some false) else ((fe.f k x330001 x330002 x330003 200).bind fun t335=>(if t335=true then (bB.l0 k x23 x24 (wrap64 (x25+1)) x328000 x328001) else (some false))))) else (none)) else (none)) else ((fe.f k x330001 x330002 x330003 200).bind fun t336=>(if t336=true then (bB.l0 k x23 x24 (wrap64 (x25+1)) x328000 x328001) else (some false)))))
end
def jE.f (l0:List Int):Option (Bool):=if (l0.length:Int)<=4096 then (if (l0.length:Int)=0 then (some true) else (if 0<=(wrap64 ((l0.length:Int)-1)) then (if (wrap64 ((l0.length:Int)-1))<(l0.length:Int) then (some ((rd l0 (wrap64 ((l0.length:Int)-1))) != 0)) else (none)) else (none))) else (some false)
mutual
def cG.l0:Nat->Int->Int->List Int->Option (List Int)
 | 0,_,_,_=>none
 | k+1,x0,x1,x5=>if x0>0 then (if x5.length<140737488355328 then (cG.l0 k (IntKind.u64.wrap (Int.tdiv x0 10)) x1 (x5++[(IntKind.u64.wrap (48+(Int.tmod x0 10))) % 256])) else (none)) else (if (x5.length:Int)<x1 then (if x5.length<140737488355328 then (cG.l0 k (IntKind.u64.wrap (Int.tdiv x0 10)) x1 (x5++[(IntKind.u64.wrap (48+(Int.tmod x0 10))) % 256])) else (none)) else (cG.l1 k x5 0 (wrap64 ((x5.length:Int)-1))))
def cG.l1:Nat->List Int->Int->Int->Option (List Int)
 | 0,_,_,_=>none
 | k+1,x5,x6,x7=>if x6<x7 then (if 0<=x7 then (if x7<(x5.length:Int) then (if 0<=x6 then (if x6<(x5.length:Int) then (cG.l1 k ((x5.set (x6:Int).toNat (rd x5 x7)).set (x7:Int).toNat (rd x5 x6)) (wrap64 (x6+1)) (wrap64 (x7-1))) else (none)) else (none)) else (none)) else (none)) else (some x5)
end
def cG.f (k:Nat) (a0:Int) (a1:Int):Option (List Int):=cG.l0 k a0 a1 ([]:List Int)
mutual
def e8.l0:Nat->List Int->List Int->List Int->Option (ByteArray×Int)
 | 0,_,_,_=>none
 | k+1,x0,x4,x5=>if (x0.length:Int)>0 then ((aI.f k x0 x5).bind fun bt355=>((eU.f bt355.2).bind fun bt361=>(if x4.length<17592186044416 then (e8.l0 k bt355.1 (x4++[bt361.1]) x5) else (none)))) else (if 0<=(wrap64 ((x4.length:Int)-1)) then (if (wrap64 ((x4.length:Int)-1))<(x4.length:Int) then ((cG.f k (rd x4 (wrap64 ((x4.length:Int)-1))) 0).bind fun t367=>(e8.l1 k x4 t367 (wrap64 ((x4.length:Int)-2)))) else (none)) else (none))
def e8.l1:Nat->List Int->List Int->Int->Option (ByteArray×Int)
 | 0,_,_,_=>none
 | k+1,x4,x10,x11=>if x11>=0 then (if 9<=281474976710656 then (if 0<=x11 then (if x11<(x4.length:Int) then ((cG.f k (rd x4 x11) 9).bind fun t374=>((some (j6 (List.replicate 9 0) t374:List Int)).bind fun y377=>(if x10.length+y377.length<140737488355328 then (e8.l1 k x4 (x10++y377) (wrap64 (x11-1))) else (none)))) else (none)) else (none)) else (none)) else (some (strOfNums x10,0))
end
def e8.f (k:Nat) (l0:List Int):Option (ByteArray×Int):=(jE.f l0).bind fun t351=>(if t351=true then (if (l0.length:Int)=0 then (some ((⟨#[48]⟩:ByteArray),0)) else ((dm.f k 1000000000).bind fun t352=>(e8.l0 k l0 ([]:List Int) t352))) else (some ((⟨#[]⟩:ByteArray),3)))
def pR.j0:Nat->Bool->Int->List (rk)->Int->List (rk)->Option (Int)
 | 0,_,_,_,_,_=>none
 | k+1,x5,x411000,x411001,x412000,x412001=>if x5=true then (some 3) else (if x411000=x412000 then (some 0) else (some 1))
def fO.l0:Nat->Int->List Int->Int->Int->Option (Int)
 | 0,_,_,_,_=>none
 | k+1,x3,x6,x7,x8=>if x8<x7 then (if 0<=x8 then (if x8<(x6.length:Int) then (fO.l0 k (wrap64 (x3+(rd x6 x8))) x6 x7 (wrap64 (x8+1))) else (none)) else (none)) else (some x3)
def fO.f (k:Nat) (l0:List Int):Option (Int):=fO.l0 k 0 l0 (l0.length:Int) 0
def eG.l0:Nat->Int->List (rk)->Int->Int->Option (Int)
 | 0,_,_,_,_=>none
 | k+1,x3,x7,x8,x9=>if x9<x8 then (if 0<=x9 then (if x9<(x7.length:Int) then ((fO.f k ((cw x7 x9).f0)).bind fun t450=>(eG.l0 k (mx x3 t450) x7 x8 (wrap64 (x9+1)))) else (none)) else (none)) else (some x3)
def oO.f:Option (Bool×List Int×List Int):=some (false,([]:List Int),(([1]:List Int)))
def eo.j0:Nat->Bool->List Int->List Int->List Int->Bool->Option (Bool×List Int×List Int)
 | 0,_,_,_,_,_=>none
 | k+1,x0,x1,x2,x7,x23=>if x23=true then ((aI.f k x1 x7).bind fun bt467=>((aI.f k x2 x7).bind fun bt473=>(if ([]:List Int).length+bt467.1.length<35184372088832 then (if ([]:List Int).length+bt473.1.length<35184372088832 then (some (x0,(([]:List Int)++bt467.1),(([]:List Int)++bt473.1))) else (none)) else (none)))) else (if ([]:List Int).length+x1.length<35184372088832 then (if ([]:List Int).length+x2.length<35184372088832 then (some (x0,(([]:List Int)++x1),(([]:List Int)++x2))) else (none)) else (none))
def eo.f (k:Nat) (a0:Bool) (l1:List Int) (l2:List Int):Option (Bool×List Int×List Int):=if (l1.length:Int)=0 then ((oO.f).bind fun bt456=>(some (bt456.1,bt456.2.1,bt456.2.2))) else ((cd.f k l1 l2).bind fun t463=>(if (t463.length:Int)=1 then (if 0<(t463.length:Int) then (eo.j0 k a0 l1 l2 t463 ((rd t463 0) != 1)) else (none)) else (eo.j0 k a0 l1 l2 t463 true)))
def sb.f (k:Nat) (a0_0:Bool) (l0_1:List Int) (l0_2:List Int) (a1_0:Bool) (l1_1:List Int) (l1_2:List Int):Option (Bool×List Int×List Int):=(bI.f k l0_1 l1_1).bind fun t494=>((bI.f k l0_2 l1_2).bind fun t497=>((eo.f k (a0_0 != a1_0) t494 t497).bind fun bt500=>(some (bt500.1,bt500.2.1,bt500.2.2))))
mutual
def cR.l0:Nat->List (rk)->Int->Int->Int->List (rk)->List Int->Bool->List Int->List Int->Int->List (rk)->Option (Int×(List (rk)))
 | 0,_,_,_,_,_,_,_,_,_,_,_=>none
 | k+1,x14,x15,x16,x508000,x508001,x509000,x509001,x509002,x509003,x511000,x511001=>if x16<x15 then (if 0<=x16 then (if x16<(x14.length:Int) then (if 0<=x508000 then (if (x508000:Int).toNat<=35184372088832 then ((some (List.replicate (x508000:Int).toNat 0:List Int)).bind fun y513=>(cR.l1 k y513 x14 x15 x16 (y513.length:Int) 0 x508000 x508001 x509000 x509001 x509002 x509003 x511000 x511001 ((cw x14 x16).f0) ((cw x14 x16).f1.f0) ((cw x14 x16).f1.f1) ((cw x14 x16).f1.f2))) else (none)) else (none)) else (none)) else (none)) else (some (x511000,x511001))
def cR.l1:Nat->List Int->List (rk)->Int->Int->Int->Int->Int->List (rk)->List Int->Bool->List Int->List Int->Int->List (rk)->List Int->Bool->List Int->List Int->Option (Int×(List (rk)))
 | 0,_,_,_,_,_,_,_,_,_,_,_,_,_,_,_,_,_,_=>none
 | k+1,x8,x14,x15,x16,x24,x25,x508000,x508001,x509000,x509001,x509002,x509003,x511000,x511001,x513000,x513001,x513002,x513003=>if x25<x24 then (if 0<=x25 then (if x25<(x513000.length:Int) then (if x25<(x509000.length:Int) then (if x25<(x8.length:Int) then (cR.l1 k (x8.set (x25:Int).toNat (wrap64 ((rd x513000 x25)+(rd x509000 x25)))) x14 x15 x16 x24 (wrap64 (x25+1)) x508000 x508001 x509000 x509001 x509002 x509003 x511000 x511001 x513000 x513001 x513002 x513003) else (none)) else (none)) else (none)) else (none)) else ((sb.f k x513001 x513002 x513003 x509001 x509002 x509003).bind fun bt519=>(if x511001.length<1759218604441 then (cR.l0 k x14 x15 (wrap64 (x16+1)) x508000 x508001 x509000 x509001 x509002 x509003 x511000 (x511001++[(⟨x8,(⟨bt519.1,bt519.2.1,bt519.2.2⟩:S61)⟩:rk)])) else (none)))
end
mutual
def di.j0:Nat->List Int->List Int->Option (List Int)
 | 0,_,_=>none
 | k+1,x0,x1=>if 0<=(wrap64 ((x0.length:Int)+1)) then (if (wrap64 ((x0.length:Int)+1):Int).toNat<=70368744177664 then (di.l0 k x0 x1 (List.replicate (wrap64 ((x0.length:Int)+1):Int).toNat 0) 0 x0 (x0.length:Int) 0) else (none)) else (none)
def di.l0:Nat->List Int->List Int->List Int->Int->List Int->Int->Int->Option (List Int)
 | 0,_,_,_,_,_,_,_=>none
 | k+1,x0,x1,x5,x6,x20,x21,x22=>if x22<x21 then (if 0<=x22 then (if x22<(x20.length:Int) then (if x22<(x1.length:Int) then (if x22<(x5.length:Int) then (di.l0 k x0 x1 (x5.set (x22:Int).toNat ((IntKind.u64.wrap ((IntKind.u64.wrap (x6+(IntKind.u64.wrap (rd x20 x22))))+(IntKind.u64.wrap (rd x1 x22)))) % 4294967296)) ((IntKind.u64.wrap ((IntKind.u64.wrap (x6+(IntKind.u64.wrap (rd x20 x22))))+(IntKind.u64.wrap (rd x1 x22)))) / 4294967296) x20 x21 (wrap64 (x22+1))) else (none)) else (if x22<(x5.length:Int) then (di.l0 k x0 x1 (x5.set (x22:Int).toNat ((IntKind.u64.wrap (x6+(IntKind.u64.wrap (rd x20 x22)))) % 4294967296)) ((IntKind.u64.wrap (x6+(IntKind.u64.wrap (rd x20 x22)))) / 4294967296) x20 x21 (wrap64 (x22+1))) else (none))) else (none)) else (none)) else (if 0<=(x0.length:Int) then (if (x0.length:Int)<(x5.length:Int) then ((cx.f k (x5.set ((x0.length:Int):Int).toNat ((x6) % 4294967296))).bind fun t537=>(some t537)) else (none)) else (none))
end
def di.f (k:Nat) (l0:List Int) (l1:List Int):Option (List Int):=if (l0.length:Int)<(l1.length:Int) then (di.j0 k l1 l0) else (di.j0 k l0 l1)
def gC.j0:Nat->List Int->List Int->List Int->Bool->List Int->List Int->Bool->List Int->List Int->Option (Bool×List Int×List Int)
 | 0,_,_,_,_,_,_,_,_,_=>none
 | k+1,x5,x6,x7,x541000,x541001,x541002,x542000,x542001,x542002=>if (x541000==x542000)=true then ((di.f k x5 x6).bind fun t553=>((eo.f k x541000 t553 x7).bind fun bt556=>(some (bt556.1,bt556.2.1,bt556.2.2)))) else ((dP.f k x5 x6).bind fun t563=>(if t563>=0 then ((dJ.f k x5 x6).bind fun t564=>((eo.f k x541000 t564 x7).bind fun bt567=>(some (bt567.1,bt567.2.1,bt567.2.2)))) else ((dJ.f k x6 x5).bind fun t574=>((eo.f k x542000 t574 x7).bind fun bt577=>(some (bt577.1,bt577.2.1,bt577.2.2))))))
def gZ.l0:Nat->List Int->List Int->Int->Int->Option (ByteArray)
 | 0,_,_,_,_=>none
 | k+1,x3,x10,x11,x12=>if x12<x11 then (if 0<=x12 then (if x12<(x10.length:Int) then ((some (([((rd x10 x12) / 16777216) % 256,((rd x10 x12) / 65536) % 256,((rd x10 x12) / 256) % 256,(rd x10 x12) % 256]:List Int):List Int)).bind fun y588=>(if x3.length+y588.length<140737488355328 then (gZ.l0 k (x3++y588) x10 x11 (wrap64 (x12+1))) else (none))) else (none)) else (none)) else (some (strOfNums x3))
def aS.l0:Nat->List Int->Int->Option (List Int)
 | 0,_,_=>none
 | k+1,x0,x3=>if x3>0 then (if 0<=(wrap64 (x3-1)) then (if (wrap64 (x3-1))<(x0.length:Int) then (if (rd x0 (wrap64 (x3-1)))=0 then (aS.l0 k x0 (wrap64 (x3-1))) else (if 0<=x3 then (if x3<=(x0.length:Int) then (some (x0.take (x3:Int).toNat)) else (none)) else (none))) else (none)) else (none)) else (if 0<=x3 then (if x3<=(x0.length:Int) then (some (x0.take (x3:Int).toNat)) else (none)) else (none))
def aS.f (k:Nat) (l0:List Int):Option (List Int):=aS.l0 k l0 (l0.length:Int)
def bj.l0:Nat->List Int->Int->List Int->Int->Int->Option (List Int×Int)
 | 0,_,_,_,_,_=>none
 | k+1,x0,x1,x6,x7,x8=>if x8>=0 then (if 0<=x8 then (if x8<(x0.length:Int) then (if x1=0 then (none) else (if x8<(x6.length:Int) then (bj.l0 k x0 x1 (x6.set (x8:Int).toNat (wrap64 (Int.tdiv (wrap64 ((wrap64 (x7*10000))+(rd x0 x8))) x1))) (Int.tmod (wrap64 ((wrap64 (x7*10000))+(rd x0 x8))) x1) (wrap64 (x8-1))) else (none))) else (none)) else (none)) else ((aS.f k x6).bind fun t710=>(some (t710,x7)))
def bj.f (k:Nat) (l0:List Int) (a1:Int):Option (List Int×Int):=if 0<=(l0.length:Int) then (if ((l0.length:Int):Int).toNat<=35184372088832 then (bj.l0 k l0 a1 (List.replicate ((l0.length:Int):Int).toNat 0) 0 (wrap64 ((l0.length:Int)-1))) else (none)) else (none)
mutual
def aE.l0:Nat->List Int->List Int->Option (List Int)
 | 0,_,_=>none
 | k+1,x0,x3=>if (x0.length:Int)>0 then ((bj.f k x0 65536).bind fun bt713=>(if x3.length<17592186044416 then (aE.l0 k bt713.1 (x3++[bt713.2])) else (none))) else (aE.l1 k x3 ([]:List Int) 0)
def aE.l1:Nat->List Int->List Int->Int->Option (List Int)
 | 0,_,_,_=>none
 | k+1,x3,x6,x7=>if x7<(x3.length:Int) then (if 0<=x7 then (if (wrap64 (x7+1))<(x3.length:Int) then (if 0<=(wrap64 (x7+1)) then (if x6.length<35184372088832 then (aE.l1 k x3 (x6++[(((rd x3 x7) % 4294967296)+((((rd x3 (wrap64 (x7+1))) % 4294967296)*65536) % 4294967296)) % 4294967296]) (wrap64 (x7+2))) else (none)) else (none)) else (if x6.length<35184372088832 then (aE.l1 k x3 (x6++[(rd x3 x7) % 4294967296]) (wrap64 (x7+2))) else (none))) else (none)) else (some x6)
end
def aE.f (k:Nat) (l0:List Int):Option (List Int):=aE.l0 k l0 ([]:List Int)
mutual
def aw.l0:Nat->Int->Int->List Int->List Int->Int->Int->Option (List Int)
 | 0,_,_,_,_,_,_=>none
 | k+1,x1,x2,x7,x14,x15,x16=>if x16<x15 then (if 0<=x16 then (if x16<(x14.length:Int) then (if x7.length<17592186044416 then (aw.l0 k x1 (wrap64 (Int.tdiv (wrap64 (x2+(wrap64 ((rd x14 x16)*x1)))) 10000)) (x7++[Int.tmod (wrap64 (x2+(wrap64 ((rd x14 x16)*x1)))) 10000]) x14 x15 (wrap64 (x16+1))) else (none)) else (none)) else (none)) else (aw.l1 k x2 x7)
def aw.l1:Nat->Int->List Int->Option (List Int)
 | 0,_,_=>none
 | k+1,x2,x7=>if x2>0 then (if x7.length<17592186044416 then (aw.l1 k (wrap64 (Int.tdiv x2 10000)) (x7++[Int.tmod x2 10000])) else (none)) else ((aS.f k x7).bind fun t746=>(some t746))
end
def aw.f (k:Nat) (l0:List Int) (a1:Int) (a2:Int):Option (List Int):=if 0<=(wrap64 ((l0.length:Int)+2)) then (if (wrap64 ((l0.length:Int)+2):Int).toNat<=35184372088832 then (aw.l0 k a1 a2 (([]:List Int)) l0 (l0.length:Int) 0) else (none)) else (none)
def bQ.l0:Nat->List Int->List Int->Int->Option (List Int)
 | 0,_,_,_=>none
 | k+1,x0,x3,x4=>if x4>=0 then (if 0<=x4 then (if x4<(x0.length:Int) then ((aw.f k x3 65536 (wrap64 ((rd x0 x4) / 65536))).bind fun t753=>((aw.f k t753 65536 (wrap64 (Go.bits .and .u32 (rd x0 x4) 65535))).bind fun t757=>(bQ.l0 k x0 t757 (wrap64 (x4-1))))) else (none)) else (none)) else (some x3)
def aJ.l0:Nat->List Int->List Int->Int->Option (Int)
 | 0,_,_,_=>none
 | k+1,x0,x1,x5=>if x5>=0 then (if 0<=x5 then (if x5<(x0.length:Int) then (if x5<(x1.length:Int) then (if (rd x0 x5)=(rd x1 x5) then (aJ.l0 k x0 x1 (wrap64 (x5-1))) else (if (rd x0 x5)<(rd x1 x5) then (some (-1)) else (some 1))) else (none)) else (none)) else (none)) else (some 0)
def aJ.f (k:Nat) (l0:List Int) (l1:List Int):Option (Int):=if (l0.length:Int)=(l1.length:Int) then (aJ.l0 k l0 l1 (wrap64 ((l0.length:Int)-1))) else (if (l0.length:Int)<(l1.length:Int) then (some (-1)) else (some 1))
def bS.f (l0:List Int):Option (Bool):=if (l0.length:Int)<=4096 then (if (l0.length:Int)=0 then (some true) else (if 0<=(wrap64 ((l0.length:Int)-1)) then (if (wrap64 ((l0.length:Int)-1))<(l0.length:Int) then (some ((rd l0 (wrap64 ((l0.length:Int)-1))) != 0)) else (none)) else (none))) else (some false)
def aR.l0:Nat->Int->List Int->Option (List Int)
 | 0,_,_=>none
 | k+1,x0,x3=>if x0>0 then (if x3.length<17592186044416 then (aR.l0 k (wrap64 (Int.tdiv x0 10000)) (x3++[Int.tmod x0 10000])) else (none)) else (some x3)
def aR.f (k:Nat) (a0:Int):Option (List Int):=aR.l0 k a0 (([]:List Int))
def dC.f (l0:List Int):Option (List Int):=(some (([]:List Int):List Int)).bind fun y780=>(if y780.length+l0.length<17592186044416 then (some (y780++l0)) else (none))
def aN.l0:Nat->List Int->List Int->Int->Int->Int->Option (List Int)
 | 0,_,_,_,_,_=>none
 | k+1,x1,x5,x6,x12,x13=>if x13<x12 then (if 0<=x13 then (if x13<(x5.length:Int) then (if x13<(x1.length:Int) then (if (wrap64 ((wrap64 ((rd x5 x13)-x6))-(rd x1 x13)))<0 then (aN.l0 k x1 (x5.set (x13:Int).toNat (wrap64 ((wrap64 ((wrap64 ((rd x5 x13)-x6))-(rd x1 x13)))+10000))) 1 x12 (wrap64 (x13+1))) else (aN.l0 k x1 (x5.set (x13:Int).toNat (wrap64 ((wrap64 ((rd x5 x13)-x6))-(rd x1 x13)))) 0 x12 (wrap64 (x13+1)))) else (if (wrap64 ((rd x5 x13)-x6))<0 then (aN.l0 k x1 (x5.set (x13:Int).toNat (wrap64 ((wrap64 ((rd x5 x13)-x6))+10000))) 1 x12 (wrap64 (x13+1))) else (aN.l0 k x1 (x5.set (x13:Int).toNat (wrap64 ((rd x5 x13)-x6))) 0 x12 (wrap64 (x13+1))))) else (none)) else (none)) else ((aS.f k x5).bind fun t789=>(some t789))
def aN.f (k:Nat) (l0:List Int) (l1:List Int):Option (List Int):=(dC.f l0).bind fun t786=>(aN.l0 k l1 t786 0 (t786.length:Int) 0)
def aP.l0:Nat->List Int->Int->Int->Option (Int×Bool)
 | 0,_,_,_=>none
 | k+1,x0,x4,x5=>if x5>=0 then (if 0<=x5 then (if x5<(x0.length:Int) then (aP.l0 k x0 (wrap64 ((wrap64 (x4*10000))+(rd x0 x5))) (wrap64 (x5-1))) else (none)) else (none)) else (some (x4,true))
def aP.f (k:Nat) (l0:List Int):Option (Int×Bool):=if (l0.length:Int)>4 then (some (0,false)) else (aP.l0 k l0 0 (wrap64 ((l0.length:Int)-1)))
mutual
def an.l0:Nat->List Int->List Int->Int->Int->Int->Int->Option (Int)
 | 0,_,_,_,_,_,_=>none
 | k+1,x0,x1,x5,x6,x7,x8=>if x8>=(mx 0 (wrap64 (x5-2))) then (if x8<(x0.length:Int) then (if 0<=x8 then (an.l0 k x0 x1 x5 (wrap64 ((wrap64 (x6*10000))+(rd x0 x8))) x7 (wrap64 (x8-1))) else (none)) else (an.l0 k x0 x1 x5 (wrap64 (x6*10000)) x7 (wrap64 (x8-1)))) else (an.l1 k x0 x1 x5 x6 x7 (wrap64 (x5-1)))
def an.l1:Nat->List Int->List Int->Int->Int->Int->Int->Option (Int)
 | 0,_,_,_,_,_,_=>none
 | k+1,x0,x1,x5,x6,x7,x9=>if x9>=(mx 0 (wrap64 (x5-2))) then (if 0<=x9 then (if x9<(x1.length:Int) then (an.l1 k x0 x1 x5 x6 (wrap64 ((wrap64 (x7*10000))+(rd x1 x9))) (wrap64 (x9-1))) else (none)) else (none)) else (if x5=1 then (if 0<(x1.length:Int) then (an.j2 k x0 x1 x6 (rd x1 0)) else (none)) else (an.j2 k x0 x1 x6 x7))
def an.j2:Nat->List Int->List Int->Int->Int->Option (Int)
 | 0,_,_,_,_=>none
 | k+1,x0,x1,x6,x7=>if x7=0 then (none) else (an.l2 k x0 x1 (mn (wrap64 (Int.tdiv x6 x7)) 9999))
def an.l2:Nat->List Int->List Int->Int->Option (Int)
 | 0,_,_,_=>none
 | k+1,x0,x1,x10=>(aw.f k x1 x10 0).bind fun t802=>((aJ.f k t802 x0).bind fun t805=>(if t805>0 then (an.l2 k x0 x1 (wrap64 (x10-1))) else (an.l3 k x0 x1 x10)))
def an.l3:Nat->List Int->List Int->Int->Option (Int)
 | 0,_,_,_=>none
 | k+1,x0,x1,x10=>if (wrap64 (x10+1))<10000 then ((aw.f k x1 (wrap64 (x10+1)) 0).bind fun t806=>((aJ.f k t806 x0).bind fun t809=>(if t809<=0 then (an.l3 k x0 x1 (wrap64 (x10+1))) else (some x10)))) else (some x10)
end
def an.f (k:Nat) (l0:List Int) (l1:List Int):Option (Int):=an.l0 k l0 l1 (l1.length:Int) 0 0 (l1.length:Int)
def aF.l0:Nat->List Int->List Int->List Int->List Int->Int->Option (List Int×List Int)
 | 0,_,_,_,_,_=>none
 | k+1,x0,x1,x12,x13,x14=>if x14>=0 then (if 0<=x14 then (if x14<(x0.length:Int) then ((aw.f k x13 10000 (rd x0 x14)).bind fun t842=>((aJ.f k t842 x1).bind fun t845=>(if t845<0 then (aF.l0 k x0 x1 x12 t842 (wrap64 (x14-1))) else ((an.f k t842 x1).bind fun t846=>(if x14<(x12.length:Int) then ((some (x12.set (x14:Int).toNat t846:List Int)).bind fun y847=>((aw.f k x1 (rd y847 x14) 0).bind fun t849=>((aN.f k t842 t849).bind fun t852=>(aF.l0 k x0 x1 y847 t852 (wrap64 (x14-1)))))) else (none)))))) else (none)) else (none)) else ((aS.f k x12).bind fun t838=>(some (t838,x13)))
def aF.f (k:Nat) (l0:List Int) (l1:List Int):Option (List Int×List Int):=(aJ.f k l0 l1).bind fun t810=>(if t810<0 then (some ((([]:List Int)),l0)) else ((aP.f k l0).bind fun bt814=>(if bt814.2=true then ((aP.f k l1).bind fun bt816=>(if bt816.1=0 then (none) else ((aR.f k (wrap64 (Int.tdiv bt814.1 bt816.1))).bind fun t818=>((aR.f k (Int.tmod bt814.1 bt816.1)).bind fun t821=>(some (t818,t821)))))) else (if (l1.length:Int)=1 then (if 0<(l1.length:Int) then ((bj.f k l0 (rd l1 0)).bind fun bt825=>((aR.f k bt825.2).bind fun t829=>(some (bt825.1,t829)))) else (none)) else (if 0<=(l0.length:Int) then (if ((l0.length:Int):Int).toNat<=35184372088832 then (aF.l0 k l0 l1 (List.replicate ((l0.length:Int):Int).toNat 0) (([]:List Int)) (wrap64 ((l0.length:Int)-1))) else (none)) else (none))))))
mutual
def ay.l0:Nat->List Int->List Int->Option (List Int)
 | 0,_,_=>none
 | k+1,x0,x1=>if (x1.length:Int)>0 then ((aP.f k x0).bind fun bt855=>((aP.f k x1).bind fun bt857=>(if bt855.2=true then (ay.j1 k x0 x1 bt855.1 bt857.1 bt857.2) else (ay.j1 k x0 x1 bt855.1 bt857.1 false)))) else (some x0)
def ay.j1:Nat->List Int->List Int->Int->Int->Bool->Option (List Int)
 | 0,_,_,_,_,_=>none
 | k+1,x0,x1,x5,x7,x27=>if x27=true then (ay.l1 k x5 x7) else ((aF.f k x0 x1).bind fun bt862=>(ay.l0 k x1 bt862.2))
def ay.l1:Nat->Int->Int->Option (List Int)
 | 0,_,_=>none
 | k+1,x5,x7=>if x7>0 then (if x7=0 then (none) else (ay.l1 k x7 (Int.tmod x5 x7))) else ((aR.f k x5).bind fun t859=>(some t859))
end
def ay.f (k:Nat) (l0:List Int) (l1:List Int):Option (List Int):=ay.l0 k l0 l1
def aB.l0:Nat->List Int->List Int->Int->Int->Option (Bool)
 | 0,_,_,_,_=>none
 | k+1,x0,x1,x12,x13=>if x13<x12 then (if 0<=x13 then (if x13<(x0.length:Int) then (if x13<(x1.length:Int) then (if (rd x0 x13)=(rd x1 x13) then (aB.l0 k x0 x1 x12 (wrap64 (x13+1))) else (some false)) else (none)) else (none)) else (none)) else (some true)
def aB.f (k:Nat) (l0:List Int) (l1:List Int):Option (Bool):=if (l0.length:Int)=(l1.length:Int) then (aB.l0 k l0 l1 (l0.length:Int) 0) else (some false)
def fp.f (k:Nat) (a0_0:Bool) (l0_1:List Int) (l0_2:List Int) (a1_0:Bool) (l1_1:List Int) (l1_2:List Int):Option (Bool):=if (a0_0==a1_0)=true then ((aB.f k l0_1 l1_1).bind fun t949=>(if t949=true then ((aB.f k l0_2 l1_2).bind fun t950=>(some t950)) else (some false))) else (some false)
mutual
def aK.j0:Nat->Bool->Int->List (rk)->Int->List (rk)->Option (Bool)
 | 0,_,_,_,_,_=>none
 | k+1,x22,x952000,x952001,x953000,x953001=>if x22=true then (some false) else (aK.l0 k x952001 (x952001.length:Int) 0 x953000 x953001)
def aK.l0:Nat->List (rk)->Int->Int->Int->List (rk)->Option (Bool)
 | 0,_,_,_,_,_=>none
 | k+1,x24,x25,x26,x953000,x953001=>if x26<x25 then (if 0<=x26 then (if x26<(x24.length:Int) then (if x26<(x953001.length:Int) then (if (((cw x24 x26).f0).length:Int)=(((cw x953001 x26).f0).length:Int) then ((fp.f k ((cw x24 x26).f1.f0) ((cw x24 x26).f1.f1) ((cw x24 x26).f1.f2) ((cw x953001 x26).f1.f0) ((cw x953001 x26).f1.f1) ((cw x953001 x26).f1.f2)).bind fun t957=>(aK.j2 k x24 x25 x26 (!t957) x953000 x953001 ((cw x24 x26).f0) ((cw x24 x26).f1.f0) ((cw x24 x26).f1.f1) ((cw x24 x26).f1.f2) ((cw x953001 x26).f0) ((cw x953001 x26).f1.f0) ((cw x953001 x26).f1.f1) ((cw x953001 x26).f1.f2))) else (aK.j2 k x24 x25 x26 true x953000 x953001 ((cw x24 x26).f0) ((cw x24 x26).f1.f0) ((cw x24 x26).f1.f1) ((cw x24 x26).f1.f2) ((cw x953001 x26).f0) ((cw x953001 x26).f1.f0) ((cw x953001 x26).f1.f1) ((cw x953001 x26).f1.f2))) else (none)) else (none)) else (none)) else (some true)
def aK.j2:Nat->List (rk)->Int->Int->Bool->Int->List (rk)->List Int->Bool->List Int->List Int->List Int->Bool->List Int->List Int->Option (Bool)
 | 0,_,_,_,_,_,_,_,_,_,_,_,_,_,_=>none
 | k+1,x24,x25,x26,x50,x953000,x953001,x955000,x955001,x955002,x955003,x957000,x957001,x957002,x957003=>if x50=true then (some false) else (aK.l1 k x24 x25 x26 (x955000.length:Int) 0 x953000 x953001 x955000 x955001 x955002 x955003 x957000 x957001 x957002 x957003)
def aK.l1:Nat->List (rk)->Int->Int->Int->Int->Int->List (rk)->List Int->Bool->List Int->List Int->List Int->Bool->List Int->List Int->Option (Bool)
 | 0,_,_,_,_,_,_,_,_,_,_,_,_,_,_,_=>none
 | k+1,x24,x25,x26,x53,x54,x953000,x953001,x955000,x955001,x955002,x955003,x957000,x957001,x957002,x957003=>if x54<x53 then (if 0<=x54 then (if x54<(x955000.length:Int) then (if x54<(x957000.length:Int) then (if (rd x955000 x54)=(rd x957000 x54) then (aK.l1 k x24 x25 x26 x53 (wrap64 (x54+1)) x953000 x953001 x955000 x955001 x955002 x955003 x957000 x957001 x957002 x957003) else (some false)) else (none)) else (none)) else (none)) else (aK.l0 k x24 x25 (wrap64 (x26+1)) x953000 x953001)
end
mutual
def ax.l0:Nat->List Int->List Int->List Int->Int->Int->Option (List Int)
 | 0,_,_,_,_,_=>none
 | k+1,x1,x5,x19,x20,x21=>if x21<x20 then (if 0<=x21 then (if x21<(x19.length:Int) then (ax.l1 k x1 x5 x21 (rd x19 x21) 0 x19 x20 x21 x1 (x1.length:Int) 0) else (none)) else (none)) else ((aS.f k x5).bind fun t963=>(some t963))
def ax.l1:Nat->List Int->List Int->Int->Int->Int->List Int->Int->Int->List Int->Int->Int->Option (List Int)
 | 0,_,_,_,_,_,_,_,_,_,_,_=>none
 | k+1,x1,x5,x6,x7,x8,x19,x20,x21,x26,x27,x28=>if x28<x27 then (if 0<=x28 then (if x28<(x26.length:Int) then (if 0<=(wrap64 (x6+x28)) then (if (wrap64 (x6+x28))<(x5.length:Int) then (ax.l1 k x1 (x5.set ((wrap64 (x6+x28)):Int).toNat (Int.tmod (wrap64 (x8+(wrap64 ((rd x5 (wrap64 (x6+x28)))+(wrap64 (x7*(rd x26 x28))))))) 10000)) x6 x7 (wrap64 (Int.tdiv (wrap64 (x8+(wrap64 ((rd x5 (wrap64 (x6+x28)))+(wrap64 (x7*(rd x26 x28))))))) 10000)) x19 x20 x21 x26 x27 (wrap64 (x28+1))) else (none)) else (none)) else (none)) else (none)) else (ax.l2 k x1 x5 x8 (wrap64 (x6+(x1.length:Int))) x19 x20 x21)
def ax.l2:Nat->List Int->List Int->Int->Int->List Int->Int->Int->Option (List Int)
 | 0,_,_,_,_,_,_,_=>none
 | k+1,x1,x5,x8,x11,x19,x20,x21=>if x8>0 then (if 0<=x11 then (if x11<(x5.length:Int) then (ax.l2 k x1 (x5.set (x11:Int).toNat (Int.tmod (wrap64 (x8+(rd x5 x11))) 10000)) (wrap64 (Int.tdiv (wrap64 (x8+(rd x5 x11))) 10000)) (wrap64 (x11+1)) x19 x20 x21) else (none)) else (none)) else (ax.l0 k x1 x5 x19 x20 (wrap64 (x21+1)))
end
def ax.f (k:Nat) (l0:List Int) (l1:List Int):Option (List Int):=if 0<=(wrap64 ((wrap64 ((l0.length:Int)+(l1.length:Int)))+1)) then (if (wrap64 ((wrap64 ((l0.length:Int)+(l1.length:Int)))+1):Int).toNat<=35184372088832 then (ax.l0 k l1 (List.replicate (wrap64 ((wrap64 ((l0.length:Int)+(l1.length:Int)))+1):Int).toNat 0) l0 (l0.length:Int) 0) else (none)) else (none)
mutual
def az.l0:Nat->List Int->List Int->List Int->Int->Int->Option (List Int)
 | 0,_,_,_,_,_=>none
 | k+1,x0,x1,x5,x6,x7=>if x7<(x0.length:Int) then (az.j1 k x0 x1 x5 x6 x7 true) else (if x7<(x1.length:Int) then (az.j1 k x0 x1 x5 x6 x7 true) else (az.j1 k x0 x1 x5 x6 x7 (decide (x6>0))))
def az.j1:Nat->List Int->List Int->List Int->Int->Int->Bool->Option (List Int)
 | 0,_,_,_,_,_,_=>none
 | k+1,x0,x1,x5,x6,x7,x21=>if x21=true then (if x7<(x0.length:Int) then (if 0<=x7 then (if x7<(x1.length:Int) then (if x5.length<17592186044416 then (az.l0 k x0 x1 (x5++[Int.tmod (wrap64 ((wrap64 (x6+(rd x0 x7)))+(rd x1 x7))) 10000]) (wrap64 (Int.tdiv (wrap64 ((wrap64 (x6+(rd x0 x7)))+(rd x1 x7))) 10000)) (wrap64 (x7+1))) else (none)) else (if x5.length<17592186044416 then (az.l0 k x0 x1 (x5++[Int.tmod (wrap64 (x6+(rd x0 x7))) 10000]) (wrap64 (Int.tdiv (wrap64 (x6+(rd x0 x7))) 10000)) (wrap64 (x7+1))) else (none))) else (none)) else (if x7<(x1.length:Int) then (if 0<=x7 then (if x5.length<17592186044416 then (az.l0 k x0 x1 (x5++[Int.tmod (wrap64 (x6+(rd x1 x7))) 10000]) (wrap64 (Int.tdiv (wrap64 (x6+(rd x1 x7))) 10000)) (wrap64 (x7+1))) else (none)) else (none)) else (if x5.length<17592186044416 then (az.l0 k x0 x1 (x5++[Int.tmod x6 10000]) (wrap64 (Int.tdiv x6 10000)) (wrap64 (x7+1))) else (none)))) else (some x5)
end
def az.f (k:Nat) (l0:List Int) (l1:List Int):Option (List Int):=az.l0 k l0 l1 ([]:List Int) 0 0
def dV.l0:Nat->Int->Int->List (rk)->Int->Int->Option (Int)
 | 0,_,_,_,_,_=>none
 | k+1,x1,x5,x9,x10,x11=>if x11<x10 then (if 0<=x11 then (if x11<(x9.length:Int) then (if 0<=x1 then (if x1<(((cw x9 x11).f0).length:Int) then (dV.l0 k x1 (mx x5 (rd ((cw x9 x11).f0) x1)) x9 x10 (wrap64 (x11+1))) else (none)) else (none)) else (none)) else (none)) else (some x5)
end Go.Proofs.YtfbgaddecbiimaaGreatDoor.P
end
