/- An evaluator of the program's code, what its functions come to, and what they mean: text 3. No condition. -/
import Derived.Test.YtfbgaddecbiimaaGreatDoorPValues2
set_option linter.unusedSimpArgs false
set_option linter.unusedSectionVars false
set_option linter.unusedVariables false
set_option maxRecDepth 100000
set_option maxHeartbeats 4000000
section
namespace Go.Proofs.YtfbgaddecbiimaaGreatDoor.E
open Go.RowKit Go.Proofs.YtfbgaddecbiimaaGreatDoorW.PrintWords Go.Proofs.YtfbgaddecbiimaaGreatDoorW.PrintMore Go.Proofs.YtfbgaddecbiimaaGreatDoor.V
section
variable {T:fW} {X:Ctx} {S:ES} {W W':St} {o:Oper} {ops:List Oper} {lim:Option (List Meta)} {ctx:Option (Nat×Bool)} {prot:List Nat} {i:Nat} {l:List Oper} {q:St->Prop} {F:Nat} {call:(g:Nat)->List cI->Option (T.out g).den} {β:Type}
theorem jm {c:Option Gf} {x:Option β} {r:β} (h:Du c x=some r):(∀ c',c=some c'->c'.p)/\x=some r:=by
 cases c with
 | none=>exact ⟨fun c' h=>(by cases h),h⟩
 | some c =>
  simp only [Du] at h
  by_cases hp:c.p
  ·rw [if_pos hp] at h
   exact ⟨fun c' hc=>by cases hc;exact hp,h⟩
  rw [if_neg hp] at h;cases h
theorem oL {A:ES} (hA:∀ a w,Rel X S.st a w->Rel X A.st a w) (hs:Sub S W) (hc:l6 ops ctx prot W):∃ W1,Sub (mb ctx lim A S) W1/\l6 ops ctx prot W1/\(ctx.isSome=true->W1=W)/\∀ l q,Wk T.P X ops lim i l W1 q->Wk T.P X ops lim i l W q:=by
 cases ctx with
 | some x=>exact ⟨W,hs,hc,fun _=>rfl,fun _ _ h=>h⟩
 | none =>
  cases lim with
  | some ms=>exact ⟨W,hs,hc,fun _=>rfl,fun _ _ h=>h⟩
  | none=>exact ⟨A.st,nG A,trivial,fun h=>(by cases h),fun l q h=>.pH (fun a w hr=>hA a w (jT hs a w hr)) h⟩
def Kw (T:fW) (X:Ctx) (ops:List Oper) (lim:Option (List Meta)) (ctx:Option (Nat×Bool)) (prot:List Nat) (i:Nat) (o:Oper) (l:List Oper) (W:St) (q:St->Prop) (k:ES->Option β) (r:β):Prop :=
 ∀ S' W',Sub S' W'->l6 ops ctx prot W'->k S'=some r->(ctx.isSome=true->∃ v,W'=fT W o.dst v)->Wk T.P X ops lim (i+1) l W' q
theorem Ay (hT:cy T=true) {k:ES->Option β} {r:β} (ho:ops[i]?=some o) (hm:jb T ops lim i o) (hd:dw X o) (hg:J2 o.guard ctx=true) (hn:jG prot o.dst=true) (hs:Sub S W) (hc:l6 ops ctx prot W) (h:rV T F lim ctx i o S k=some r) (hk:Kw T X ops lim ctx prot i o l W q k r):Wk T.P X ops lim i (o :: l) W q:=by
 unfold rV at h
 split at h
 ·rename_i R hR
  split at h
  ·rename_i hrv
   rw [Bool.and_eq_true] at hrv
   obtain ⟨hrow,hval⟩:=hrv
   obtain ⟨hcond,h2⟩:=jm h
   have hrow2:xa lim none i R.r=true/\(ctx.isSome=true->R.r=none):=by
    cases hr:R.r with
    | none=>exact ⟨rfl,fun _=>rfl⟩
    | some x =>
     cases ctx with
     | none=>rw [hr] at hrow;exact ⟨hrow,fun h=>by cases h⟩
     | some c=>rw [hr] at hrow;cases hrow
   refine oK (v:=R.v) (r:=R.r) ho hm hs (Bq hc hg) hd.cN hrow2.1 hval (fun W0 hA=>zN hT hA hd hR hcond) (hk _ _ hs.res ?_ h2 (fun hx=>⟨R.v,by rw [hrow2.2 hx];rfl⟩))
   cases ctx with
   | none=>trivial
   | some c =>
    rw [hrow2.2 rfl]
    exact uh hc hn
  cases h
 cases h
theorem CX {k:ES->Option β} {r:β} {c x y:Operand} (hop:o.op = .pick c x y) (ho:ops[i]?=some o) (hm:jb T ops lim i o) (hd:dw X o) (hg:J2 o.guard ctx=true) (hn:jG prot o.dst=true) (hs:Sub S W) (hc:l6 ops ctx prot W) (h:Hm lim i o c x y S k=some r) (hk:Kw T X ops lim ctx prot i o l W q k r):Wk T.P X ops lim i (o :: l) W q:=by
 unfold Hm at h
 split at h
 ·rename_i b u v d hcv hx hy hdd
  split at h
  case h_2=>cases h
  rename_i hval0
  have hval:∀ z:Bool,lD lim i (.v .bool z)=true:=by
   intro z
   cases lim with
   | none=>rfl
   | some ms =>
    cases hm':ms[i]? with
    | none=>simp only [lD,hm'] at hval0;cases hval0
    | some m =>
     cases hk':m.kl with
     | some j=>simp only [lD,hm',hk'] at hval0;cases hval0
     | none =>
      simp only [lD,hm',hk']
      cases m.rf<;>rfl
  have key:∀ z:Bool,(b=true->u=z)->(b=false->v=z)->∀ W0,cw W0 (kH lim i S) (tN lim i S)->dm T.P X o W0 (fT (nM W0 none) o.dst (.v .bool z)):=by
   intro z h1 h2 W0 hA
   exact uL (oQ hop (hA.nE hcv) (fun e=>by rw [<- h1 e];exact hA.nE hx) (fun e=>by rw [<- h2 e];exact hA.nE hy)) rfl hd.cN
  have fin:∀ z:Bool,(b=true->u=z)->(b=false->v=z)->k (S.put d (.v .bool z))=some r->Wk T.P X ops lim i (o :: l) W q:=by
   intro z h1 h2 h3
   refine oK (v:=.v .bool z) (r:=none) ho hm hs (Bq hc hg) hd.cN rfl (hval z) (key z h1 h2) (hk (S.put d (.v .bool z)) _ ?_ (uh hc hn) h3 (fun _=>⟨_,rfl⟩))
   rw [hdd]
   exact hs.put
  split at h
  ·simp only [fJ,yZ,Option.some.injEq] at hx
   cases hx
   exact fin _ (fun e=>by rw [e];rfl) (fun e=>by rw [e];rfl) h
  ·simp only [fJ,yZ,Option.some.injEq] at hy
   cases hy
   exact fin _ (fun e=>by rw [e];rfl) (fun e=>by rw [e];rfl) h
  exact fin _ (fun e=>by rw [e];rfl) (fun e=>by rw [e];rfl) h
 cases h
theorem D5 (b:Bool) (t:Ty) (r:t.den):∃ p,(pb b t r).pv=some p:=by cases b<;>exact ⟨_,rfl⟩
theorem nR {g:Nat} (h:Nat.ble 1000000 g=false):real g=g:=by unfold real D8;rw [h]
theorem ET (m f:Nat):Nat.ble m (f+m)=true:=Nat.ble_eq_true_of_le (Nat.le_add_left m f)
theorem Fs (m f:Nat):D8 m (f+m)=f:=by
 unfold D8
 rw [ET]
 exact Nat.add_sub_cancel f m
theorem Fq (f:Nat):real (f+1000000)=f:=Fs 1000000 f
theorem zA (own:List Nat) (f:Nat):pJ own (.func f) = .const (.bool false)∨(Nat.ble 1000000 f=false/\pJ own (.func f) = .func f)∨pJ own (.func f) = .func (f+1000000):=by
 simp only [pJ]
 cases h:Nat.ble 1000000 f with
 | true=>exact .inl rfl
 | false=>cases mem own (f+1000000000) with
  | true=>exact .inr (.inr rfl)
  | false=>exact .inr (.inl ⟨rfl,rfl⟩)
theorem GK {own:List Nat} {x:Operand} {rd:Nat->Option cI} {g:Nat} (h:fJ rd (pJ own x)=some (.v .fn g)) (hg:Nat.ble 1000000 g=false):fJ rd x=some (.v .fn g):=by
 cases x with
 | func f =>
  rcases zA own f with e | ⟨_,e⟩ | e
  ·rw [e] at h;simp [fJ,yZ] at h
  ·rw [e] at h;exact h
  rw [e] at h
  simp only [fJ,Option.some.injEq,cI.v.injEq,heq_eq_eq,true_and] at h
  rw [<- h,ET] at hg;cases hg
 | _=>exact h
theorem zx {own:List Nat} {x:Operand} {g:Nat} (h:pJ own x = .func g):x = .func (real g):=by
 cases x with
 | func f =>
  rcases zA own f with e | ⟨hf,e⟩ | e
  ·rw [e] at h;cases h
  ·rw [e] at h
   rw [<- Operand.func.inj h,nR hf]
  rw [e] at h
  rw [<- Operand.func.inj h,Fq]
 | _=>cases h
def rD (T:fW) (F:Nat) (X:Ctx):Prop:=qb T F=true->∀ v,X.pin v
theorem pin_of {j:Nat} {b:Bool} (hP:rD T F X) (h:(Nat.beq j bX&&!(qb T F&&b))=false):j=bX->∀ v,X.pin v:=by
 intro hj
 subst hj
 rw [Nat.beq_refl,Bool.true_and,Bool.not_eq_false',Bool.and_eq_true] at h
 exact hP h.1
theorem HF:∀ (j:Nat) (xs:List Operand),AP j xs=true->xs[j]?=some (.const (.slice none 0 0))
 | _,[],h=>by simp [AP] at h
 | 0,x :: l,h=>by
  simp only [AP] at h
  split at h
  ·rfl
  cases h
 | n+1,x :: l,h=>by
  have:=HF n l h
  simpa using this
theorem args_at {rd:Nat->Option cI} {rr:Nat->Option (Option bU)}:∀ (xs:List Operand) (ts:List Ty) (i:Nat) (vs:List cI) (j:Nat),jR rd rr none i xs ts=some vs->xs[j]?=some (.const (.slice none 0 0))->∀ c,ts[j]?=some (.list c)->vs[j]?=some (.v (.list c) [])
 | [],[],i,vs,j,h,hj,c,hc=>by simp at hj
 | x :: xs,t :: ts,i,vs,j,h,hj,c,hc=>by
  simp only [jR,vB] at h
  split at h
  ·rename_i v hv
   split at h
   ·rename_i y hy
    split at h
    ·rename_i l hl
     cases h
     cases j with
     | zero =>
      simp only [List.getElem?_cons_zero,Option.some.injEq] at hj hc ⊢
      subst hj hc
      simp only [fJ,yZ,Option.some.injEq] at hv
      subst hv
      simp only [coe,Option.some.injEq] at hy
      rw [<- hy]
     | succ j =>
      simp only [List.getElem?_cons_succ] at hj hc ⊢
      exact args_at xs ts (i+1) l j hl hj c hc
    cases h
   cases h
  cases h
 | [],_ :: _,_,_,_,h,_,_,_=>by cases h
 | _ :: _,[],_,_,_,h,_,_,_=>by cases h
theorem zS {t t':Ty} {r:t.den} {y2 r2:t'.den} (h:(⟨t,r⟩:Σ t:Ty,t.den)=⟨t',y2⟩) (hc:e9 t' r=some r2):r2=y2:=by
 cases h
 obtain ⟨_,e⟩:=cK hc
 exact e
theorem Br (hC:iz T call) (hP:rD T F X) {k:ES->Option β} {r:β} {c:Call} {g d j:Nat} {e:TypeId} {ts:List Ty} (hop:o.op = .call c) (hcl:c.callee = .value (.func g)) (hl:sB T g = .given j e) (hlow:Nat.ble 1000000 g=false) (hdd:o.dst=some d) (ho:ops[i]?=some o) (hm:jb T ops lim i o) (hd:dw X o) (hg:o.guard=none) (hs:Sub S W) (h:Dy T F call lim i o c g d ts j e S k=some r)
 (hk:∀ S' W',Sub S' W'->k S'=some r->Wk T.P X ops lim (i+1) l W' q):Wk T.P X ops lim i (o :: l) W q:=by
 unfold Dy at h
 split at h
 ·rename_i hnil
  have hj:=HF _ _ hnil
  split at h
  ·rename_i vs q' hrow hts hod hvs
   obtain ⟨rr,h1,h2⟩:=Option.bind_eq_some_iff.1 h
   split at h2
   ·rename_i r2 hr2 hsev
    obtain ⟨⟨fn,f1,f2,f3⟩,_,c0,y,y2,hv,heq,hF⟩:=hC.given g j e vs rr hl h1
    rw [nR hlow] at f1 hF
    have hv2:=args_at _ _ _ _ _ hvs hj _ hts
    rw [hv2] at hv
    cases hv
    have hr3:=zS heq hr2
    subst hr3
    refine BV.step (W':=put (setRow (kill W d) d (bU.arr e q' r2).row) o.dst (.own d)) (.inl hg) ?_ hd.cN (hk _ _ ?_ h2)
    ·obtain ⟨a1,a2⟩:=mQ hs.agree (ln:=none) _ _ _ _ (fun j hj=>by cases hj) hvs
     have hrw:W.rows d=none:=by rw [hs.rows,hrow];rfl
     refine E8 (X:=X) (S:=W) (R:=(bU.arr e q' []).row) (j:=j) hop hcl f1 f2 f3 hF hrw (hd d hdd).2 rfl a1 hj ?_ (yi a2 0).2.2 hd.cN hod
     simp only [cY,hv2]
     rfl
    rw [hdd]
    exact ((nH (k:=d) (E:=S.env) (R:=S.rows) (W:=W) hs).set (k:=d) (r:=.arr e q' r2)).put (d:=d) (v:=.own d)
   cases h2
  cases h
 split at h
 ·rename_i qq vs hlent hvs
  split at h
  ·rename_i e0 c0 l0 cj hrow htj hfl
   rw [Bool.or_eq_false_iff] at hfl
   split at h
   ·rename_i qe hee hqe hao
    obtain ⟨rr,h1,h2⟩:=Option.bind_eq_some_iff.1 h
    split at h2
    ·rename_i r2 hr2 hsev
     have he:=beq_true hee
     subst he
     have hcc:=qe.down
     subst hcc
     obtain ⟨⟨fn,f1,f2,f3⟩,_,c1,y,y2,hv,heq,hF⟩:=hC.given g j e0 vs rr hl h1
     rw [nR hlow] at f1 hF
     have key:∀ {W0:St},cw W0 (kH lim i S) (tN lim i S)->aZ W0 c.args.toList=some ((cY j vs).map (Fj qq))/\(cY j vs).all eo=true/\c1=c0/\HEq y l0:=by
      intro W0 hA
      obtain ⟨a1,a2,e3,t3,y5,hr3,hvs3⟩:=s9 hA (j:=j) (k:=qq) (rd':=kH lim i S) (fun t v h=>h) _ _ 0 vs (Nat.zero_le _) hvs hlent
      rw [Nat.sub_zero] at a1 a2 hvs3
      refine ⟨a1,a2,?_⟩
      rw [hrow] at hr3
      rw [hvs3] at hv
      cases hv
      have hr4:bU.arr e0 c0 l0=kC e3 (.list c1) y:=by simpa using hr3
      simp only [kC,bU.arr.injEq] at hr4
      exact ⟨hr4.2.1.symm,hr4.2.2.symm⟩
     obtain ⟨_,_,ec,ey⟩:=key hs.agree
     subst ec
     cases eq_of_heq ey
     have hr3:=zS heq hr2
     subst hr3
     refine DS (j:=qq) (d:=d) (R:=(bU.arr e0 c1 r2).row) ho hm hs hg hd.cN hdd hao hfl.2 (fun W0 hA=>?_) (hk _ _ ?_ h2)
     ·obtain ⟨a1,a2,_⟩:=key hA
      have hk0:W0.rows qq=some (bU.arr e0 c1 y).row:=hA.rows qq _ hrow
      exact GG (X:=X) (S:=W0) hop hcl f1 f2 f3 hF hk0 rfl a1 rfl a2 (fun hq v=>by
       have h3:=hfl.1
       rw [hq,Nat.beq_refl,Bool.true_and,Bool.not_eq_false'] at h3
       exact hP h3 v) hd.cN hfl.2
     rw [hdd]
     exact ((nH (k:=qq) (E:=S.env) (R:=S.rows) (W:=W) hs).set (k:=qq) (r:=.arr e0 c1 r2)).put (d:=d) (v:=.own qq)
    cases h2
   cases h
  cases h
 cases h
theorem we (hT:cy T=true) (hP:rD T F X) {k:ES->Option β} {r:β} {t:TypeId} {x hi:Operand} (hop:o.op = .slice t x none (some hi) none) (ho:ops[i]?=some o) (hd:dw X o) (hg:o.guard=none) (hs:Sub S W) (h:uF T F lim o t x hi S k=some r)
 (hk:∀ S' W',Sub S' W'->k S'=some r->Wk T.P X ops lim (i+1) l W' q):Wk T.P X ops lim i (o :: l) W q:=by
 unfold uF at h
 split at h
 ·rename_i d e q' j hh hdd he hx hy
  split at h
  ·rename_i e' q2 l0 hrow
   split at h
   ·rename_i l2 hl2 hee hkl
    rw [Bool.or_eq_false_iff] at hkl
    rw [Bool.and_eq_true] at hee
    obtain ⟨hcond,h2⟩:=jm h
    have hcond:=hcond _ rfl
    obtain ⟨eq2,hl3⟩:=cK hl2
    cases eq2
    have hl4:l2=l0:=hl3
    subst hl4
    have e1:=beq_true hee.1
    subst e1
    obtain ⟨hu,hM,_⟩:=lX hT he
    obtain ⟨inf,g1,g2,_⟩:=hM.info
    have hA:cw W (find S.env) (fun k=>some (find S.rows k)):=hs.agree (i:=0) (lim:=none)
    have hrw:W.rows j=some ⟨e,q'.sz,l2.length,l2.flatMap q'.enc⟩:=by rw [hs.rows,hrow];rfl
    refine BV.step (W':=put (setRow (kill W j) j (bU.arr e q' (l2.take hh.toNat)).row) o.dst (.own j)) (.inl hg) ?_ hd.cN (hk _ _ ?_ h2)
    ·have:=B9 (X:=X) (S:=W) hop hu g1 (hA.ev hx rfl) hrw hcond.1 (iu hA hy) hcond.2.1 hcond.2.2 (fun hq v=>by
      have h3:=hkl.1
      rw [hq,Nat.beq_refl,Bool.true_and,Bool.not_eq_false'] at h3
      exact hP h3 v) hkl.2 hd.cN
     have e2:(bU.arr e q' (l2.take hh.toNat)).row=⟨e,q'.sz,hh.toNat,(l2.flatMap q'.enc).take (hh.toNat*q'.sz)⟩:=by
      simp only [bU.row,lU]
      rw [List.length_take,Nat.min_eq_left Ky]
     rw [e2]
     exact this
    rw [hdd]
    exact ((nH (k:=j) (E:=S.env) (R:=S.rows) (W:=W) hs).set (k:=j) (r:=.arr e q' (l2.take hh.toNat))).put (d:=d) (v:=.own j)
   cases h
  cases h
 cases h
theorem AN (v:cI) (p:PV) (h:(El v).pv=some p):v.pv=some p/\vA p=false:=by
 cases v with
 | v c x =>
  cases h
  refine ⟨rfl,?_⟩
  cases c<;>rfl
 | tup c x=>cases h
 | mp l=>cases h
 | any=>cases h
 | _=>cases h;exact ⟨rfl,rfl⟩
theorem FF (hT:cy T=true) {k:ES->Option β} {r:β} {t:TypeId} {x y z:Operand} (hop:o.op = .mapUpdate t x y z) (hdst:o.dst=none) (ho:ops[i]?=some o) (hd:dw X o) (hg:o.guard=none) (hs:Sub S W) (h:HM T lim t x y z S k=some r)
 (hk:∀ S' W',Sub S' W'->k S'=some r->Wk T.P X ops lim (i+1) l W' q):Wk T.P X ops lim i (o :: l) W q:=by
 unfold HM at h
 split at h
 ·rename_i tm ll s n hmp hy hz hx
  obtain ⟨kt,et,inf,q1,q2,q3,q4⟩:=mp_m hT hmp
  have hA:cw W (find S.env) (fun k=>some (find S.rows k)):=hs.agree (i:=0) (lim:=none)
  refine BV.step (.inl hg) (E7 (P:=T.P) (X:=X) (S:=W) hop hdst q1 q2 (hA.ev hx rfl) (hA.nE hy) (hA.nE hz)) hd.cN (hk _ _ ?_ h)
  refine ⟨fun u v p f1 f2=>?_,fun j=>hs.rows j⟩
  simp only [find] at f1
  simp only [V.put]
  split at f1
  ·rename_i hb
   cases f1
   cases f2
   rw [if_pos (beq_true hb)]
  rename_i hb
  rw [if_neg (beq_false hb)]
  rw [lV] at f1
  obtain ⟨v0,f3,rfl⟩:=Option.map_eq_some_iff.1 f1
  obtain ⟨f4,f5⟩:=AN v0 p f2
  have:=hs.env u v0 p f3 f4
  simp only [n9,this,Option.bind_some,f5,cond_false]
 cases h
theorem DK {own:List Nat} (hP:rD T F X) (hC:iz T call) {k:ES->Option β} {r:β} {c:Call} {x:Operand} (hop:o.op = .call c) (hcl:c.callee = .value x) (ho:ops[i]?=some o) (hm:jb T ops lim i o) (hd:dw X o) (hg:J2 o.guard ctx=true) (hn:jG prot o.dst=true) (hs:Sub S W) (hc:l6 ops ctx prot W) (h:IC T F call lim ctx i o c (pJ own x) S k=some r) (hk:Kw T X ops lim ctx prot i o l W q k r):Wk T.P X ops lim i (o :: l) W q:=by
 unfold IC at h
 split at h
 ·rename_i g d hx hdd
  split at h
  ·rename_i ts hts hl
   split at h
   ·rename_i vs hlow hvs
    obtain ⟨rr,h1,h2⟩:=Option.bind_eq_some_iff.1 h
    split at h2
    case h_2=>cases h2
    rename_i hval
    have hx:=GK hx hlow
    obtain ⟨⟨fn,f1,f2,f3⟩,p,hp,hF⟩:=hC.fn g vs rr hl h1
    rw [nR hlow] at f1 hF
    refine oK (v:=pb (T.cF g) (T.out g) rr) (r:=none) ho hm hs (Bq hc hg) hd.cN rfl hval (fun W0 hA=>?_) (hk _ _ ?_ (uh hc hn) h2 (fun _=>⟨_,rfl⟩))
    ·obtain ⟨a1,a2⟩:=mQ hA _ _ _ _ (fun j hj=>by cases hj) hvs
     have:=DW (X:=X) (S:=W0) hop hcl (.inr (hA.nE hx)) f1 f2 f3 a1 (yi a2 0).2.2 hF hd.cN
     show dm T.P X o W0 (fT W0 o.dst _)
     rw [hdd] at this ⊢
     simp only [fT,hp]
     exact this
    rw [hdd]
    exact hs.put
   cases h
  ·rename_i ts j e hts hl
   split at h
   ·rename_i hfun hlow
    have hx':=GK hx hlow
    have hfn:x = .func g:=by
     have h3:x = .func (real g):=by
      refine zx (own:=own) ?_
      generalize pJ own x=x' at hx hfun
      cases x' with
      | func f =>
       simp only [fJ,Option.some.injEq] at hx
       cases hx
       rfl
      | _=>simp at hfun
     rw [nR hlow] at h3
     exact h3
    exact Br hC hP hop (by rw [hcl,hfn]) hl hlow hdd ho hm hd (vG hg) hs h (fun S' W' g1 g2=>hk S' W' g1 trivial g2 (fun hx=>by cases hx))
   cases h
  ·rename_i ts j e hts hl
   split at h
   ·rename_i kk hlent hfun
    split at h
    ·rename_i r0 vs hko hrow hvs
     split at h
     ·rename_i tj htj
      split at h
      ·rename_i z0 hlc
       obtain ⟨rr,h1,h2⟩:=Option.bind_eq_some_iff.1 h
       split at h2
       ·rename_i v c2 y2 hout
        split at h2
        ·rename_i qe hqe hrv
         rw [Bool.and_eq_true] at hrv
         obtain ⟨⟨fn,f1,f2,f3⟩,p,hp,yy,hv,hF⟩:=hC.bX g j e vs rr v c2 y2 hl h1 hout
         have q2:=qe.down
         subst q2
         have hfn:x = .func (real g):=by
          refine zx (own:=own) ?_
          generalize pJ own x=x' at hx hfun
          cases x' with
          | func f =>
           simp only [fJ,Option.some.injEq] at hx
           cases hx
           rfl
          | _=>simp at hfun
         refine oK (v:=v) (r:=some (kk,kC e tj y2)) ho hm hs (Bq hc hg) hd.cN hrv.1 hrv.2 (fun W0 hA=>?_) (hk _ _ ?_ trivial h2 (fun hx=>by cases hx))
         ·obtain ⟨a1,a2,e3,t3,y5,hr3,hvs3⟩:=s9 hA (j:=j) (k:=kk) (rd':=kH lim i S) (fun t v h=>h) _ _ 0 vs (Nat.zero_le _) hvs hlent
          rw [Nat.sub_zero] at a1 a2 hvs3
          rw [hvs3] at hv
          cases hv
          rw [hrow] at hr3
          cases hr3
          have hlr:=xv hlc
          have he:e3=e:=by
           cases tj<;>(cases hlr;rfl)
          subst he
          have hk0:W0.rows kk=some (kC e3 tj yy).row:=by
           have:=hA.rows kk _ hrow
           cases tj<;>exact this
          have:=zv (X:=X) (S:=W0) (k:=kk) hop (by rw [hcl,hfn]) f1 f2 f3 hF hk0 rfl a1 rfl a2 hd.cN (by simpa using hko)
          rw [hdd] at this ⊢
          simp only [fT,hp,nM]
          exact this
         rw [hdd]
         exact (hs.set (k:=kk) (r:=kC e tj y2)).put (d:=d) (v:=v)
        cases h2
       cases h2
      cases h
     cases h
    cases h
   cases h
  cases h
 cases h
theorem zd (hT:cy T=true) (hP:rD T F X) {k:ES->Option β} {r:β} {c:Call} (hop:o.op = .call c) (hcl:c.callee = .builtin .append) (ho:ops[i]?=some o) (hm:jb T ops lim i o) (hd:dw X o) (hg:o.guard=none) (hs:Sub S W) (h:ze T F lim i o c S k=some r)
 (hk:∀ S' W',Sub S' W'->k S'=some r->Wk T.P X ops lim (i+1) l W' q):Wk T.P X ops lim i (o :: l) W q:=by
 unfold ze at h
 split at h
 ·rename_i x y t t' d ha ht hdd
  split at h
  ·rename_i e q' vx vy he hx hy
   split at h
   ·rename_i b mm hb hmm htt
    rw [Bool.and_eq_true] at htt
    have e0:=beq_true htt.1
    subst e0
    obtain ⟨hu,hM,_⟩:=lX hT he
    obtain ⟨⟨inf,g1,g2⟩,hb1⟩:=Kf hT hb
    obtain ⟨inf',z,k1,k2,k3,k4,k5⟩:=iy hM htt.2
    rw [g1] at k1
    cases k1
    have hsz:=(gi htt.2).2
    split at h
    ·rename_i t1 j
     split at h
     ·rename_i e' q2 l0 hrow hao
      split at h
      ·rename_i l2 hl2 hee hkl
       rw [Bool.or_eq_false_iff] at hkl
       have hcond:(l2.length+mm.length)*b<=140737488355328:=by
        split at h
        ·exact (jm h).1 _ rfl
        exact (jm h).1 _ rfl
       obtain ⟨eq2,hl3⟩:=cK hl2
       cases eq2
       have hl4:l2=l0:=hl3
       subst hl4
       have e1:=beq_true hee
       subst e1
       have hlen:(l2.length+mm.length)*1<=(l2.length+mm.length)*b:=Nat.mul_le_mul_left _ hb1
       have e4:(⟨e,inf.size,l2.length+mm.length,l2.flatMap q'.enc++mm.flatMap q'.enc⟩:Row)=(bU.arr e q' (l2++mm)).row:=by
        simp only [bU.row,List.length_append,List.flatMap_append,k3]
       split at h
       case h_2 =>
        rename_i hkp
        rw [hkp,Bool.and_false,Bool.not_false,Bool.and_true] at hkl
        obtain ⟨_,h2⟩:=jm h
        have e5:(Ty.pv (.list q') (l2++mm)) = .cv (.row (l2.length+mm.length) (l2.flatMap q'.enc++mm.flatMap q'.enc)):=by
         show PV.cv (.row (l2++mm).length ((l2++mm).flatMap q'.enc))=_
         rw [List.length_append,List.flatMap_append]
        refine I9 (j:=j) (d:=d) (c:=.row (l2.length+mm.length) (l2.flatMap q'.enc++mm.flatMap q'.enc)) rfl ho hm hs hg hd.cN hdd hao (fun W0 hA=>?_) (hk _ _ ?_ h2)
        ·have hx':ev W0 (.tmp t1)=some (.own j):=hA.ev hx rfl
         have hy':=hA.ev hy (fb hmm)
         have hk0:W0.rows j=some ⟨e,q'.sz,l2.length,l2.flatMap q'.enc⟩:=hA.rows j _ hrow
         exact uv (X:=X) (S:=W0) hop hcl (gY ha) (gY ht) hu g1 k2 (by rw [k4,k3]) (by rw [k3];exact hsz) hx' hk0 rfl k3.symm hy' (by rw [k3,eu]) (oz mm) (by
          show l2.length+mm.length<=maxLen
          simp only [maxLen];omega) (by rw [g2];exact hcond) (beq_false hkl.1) hkl.2 hd.cN
        rw [hdd]
        have h5:=(zy (k:=j) (E:=S.env) (R:=S.rows) (W:=W) hs).put (d:=d) (v:=.v (.list q') (l2++mm))
        simp only [fT,cI.pv,e5] at h5
        exact h5
       obtain ⟨_,h2⟩:=jm h
       refine DS (j:=j) (d:=d) (R:=(bU.arr e q' (l2++mm)).row) ho hm hs hg hd.cN hdd hao hkl.2 (fun W0 hA=>?_) (hk _ _ ?_ h2)
       ·have hx':ev W0 (.tmp t1)=some (.own j):=hA.ev hx rfl
        have hy':=hA.ev hy (fb hmm)
        have hk0:W0.rows j=some ⟨e,q'.sz,l2.length,l2.flatMap q'.enc⟩:=hA.rows j _ hrow
        have:=uw (X:=X) (S:=W0) hop hcl (gY ha) (gY ht) hu g1 k2 (by rw [k4,k3]) (by rw [k3];exact hsz) hx' hk0 rfl k3.symm hy' (by rw [k3,eu]) (oz mm) (by
         show l2.length+mm.length<=maxLen
         simp only [maxLen];omega) (by rw [g2];exact hcond) (pin_of hP hkl.1) hkl.2 hd.cN
        rw [<- e4]
        exact this
       rw [hdd]
       exact ((nH (k:=j) (E:=S.env) (R:=S.rows) (W:=W) hs).set (k:=j) (r:=.arr e q' (l2++mm))).put (d:=d) (v:=.own j)
      cases h
     cases h
    ·split at h
     ·rename_i hrow hval hro
      obtain ⟨hcond,h2⟩:=jm h
      have hcond:=hcond _ rfl
      have hlen:mm.length*1<=mm.length*b:=Nat.mul_le_mul_left _ hb1
      refine oK (v:=.own d) (r:=some (d,.arr e q' mm)) ho hm hs (.inl hg) hd.cN hro hval (fun W0 hA=>?_) (hk _ _ ?_ h2)
      ·have hy':=hA.ev hy (fb hmm)
       have hk0:W0.rows d=none:=hA.rows d _ hrow
       have:=xR (X:=X) (W:=W0) (k:=d) hop hcl (gY ha) (gY ht) hu g1 k2 (by rw [k4,k3]) (by rw [k3];exact hsz) hy' (by rw [k3,eu]) (oz mm) (by simp only [maxLen];omega) (by rw [g2];exact hcond) hk0 (hd d hdd).2 hd.cN
       rw [k3] at this
       rw [hdd] at this ⊢
       exact this
      rw [hdd]
      have h5:Sub (S.set d (.arr e q' mm)) (setRow W d (bU.arr e q' mm).row):=hs.set
      exact h5.put (d:=d) (v:=.own d)
     cases h
    cases h
   cases h
  cases h
 cases h
end
section
variable {T:fW} {X:Ctx} {ops:List Oper} {lim:Option (List Meta)} {F:Nat} {call:(g:Nat)->List cI->Option (T.out g).den}
theorem Je {i:Nat} {o:Oper} {t:Ty} {y:t.den} (hm:jb T ops lim i o) (hg:sH T o=none):lD lim i (.v t y)=true:=by
 cases lim with
 | none=>rfl
 | some ms =>
  obtain ⟨m,h1,_,_,h4⟩:=hm
  have hk:m.kl=none:=h4.resolve_right (fun h=>by obtain ⟨_,t,ht⟩:=h;rw [hg] at ht;cases ht)
  simp only [lD,h1,hk]
  cases m.rf<;>rfl
theorem D9 {i:Nat} {S S':ES} {t:Nat} {v:cI} (h:kH lim i S t=some v) {t':Nat} {u:cI} {c:Ty} {y:c.den} (hv:u = .v c y) (hf:find S'.env t'=some u) (ht:t'=t):kH lim i S' t'=some u:=by
 subst ht
 subst hv
 cases lim with
 | none=>exact hf
 | some ms =>
  cases hm:ms[i]? with
  | none=>simp only [kH,hm] at h;cases h
  | some m =>
   cases hb:mem m.rt t' with
   | false=>simp only [kH,hm,hb] at h;cases h
   | true =>
    simp only [kH,hm,hb,hf]
    cases m.rf<;>rfl
theorem Hw (hT:cy T=true) (hC:iz T call) (hP:rD T F X) {β:Type} {S:ES} {W:St} {o:Oper} {ctx:Option (Nat×Bool)} {prot:List Nat} {i:Nat} {l:List Oper} {q:St->Prop} {k:ES->Option β} {r:β} (ho:ops[i]?=some o) (hm:jb T ops lim i o) (hd:dw X o) (hg:J2 o.guard ctx=true) (hn:jG prot o.dst=true) (hs:Sub S W) (hc:l6 ops ctx prot W) (h:opE T F call lim ctx i o S k=some r) (hk:Kw T X ops lim ctx prot i o l W q k r):Wk T.P X ops lim i (o :: l) W q:=by
 have plain:∀ (k':ES->Option β),rV T F lim ctx i o (mb ctx lim ((S.fP (handed T ((find T.own F).getD []) [] S o)).fresh ((find T.own F).getD []) o) S) k=some r->Wk T.P X ops lim i (o :: l) W q:=by
  intro _ h
  obtain ⟨W1,h1,h2,h3,h4⟩:=oL (T:=T) (X:=X) (lim:=lim) (i:=i) (ctx:=ctx) (A:=(S.fP (handed T ((find T.own F).getD []) [] S o)).fresh ((find T.own F).getD []) o) (fun a w hr=>sI _ o a w (fL _ _ a w hr)) hs hc
  refine h4 _ _ (Ay hT ho hm hd hg hn h1 h2 h (fun S' W' g1 g2 g3 g4=>hk S' W' g1 g2 g3 (fun hx=>?_)))
  rw [<- h3 hx]
  exact g4 hx
 unfold opE at h
 split at h
 ·rename_i c hop
  split at h
  ·rename_i x hcl
   obtain ⟨W1,h1,h2,h3,h4⟩:=oL (T:=T) (X:=X) (lim:=lim) (i:=i) (ctx:=ctx) (A:=S.fP (k6 S (kept T (pJ ((find T.own F).getD []) x) c.args.toList))) (fL _ _) hs hc
   refine h4 _ _ (DK hP hC hop hcl ho hm hd hg hn h1 h2 h (fun S' W' g1 g2 g3 g4=>hk S' W' g1 g2 g3 (fun hx=>?_)))
   rw [<- h3 hx]
   exact g4 hx
  ·rename_i b hcl
   split at h
   ·exact plain k h
   rename_i hb
   split at h
   ·have hcl':c.callee = .builtin .append:=by
     rw [hcl]
     cases b<;>first | rfl | (cases hb;done)
    have hgt:o.guard=none:=vG hg
    obtain ⟨W1,h1,h2,h3,h4⟩:=oL (T:=T) (X:=X) (lim:=lim) (i:=i) (ctx:=none) (prot:=prot) (ops:=ops) (A:=(S.fP (k6 S (c.args.toList.drop 1))).fresh ((find T.own F).getD []) o) (fun a w hr=>sI _ o a w (fL _ _ a w hr)) hs trivial
    exact h4 _ _ (zd hT hP hop hcl' ho hm hd hgt h1 h (fun S' W' g1 g2=>hk S' W' g1 trivial g2 (fun hx=>by cases hx)))
   cases h
  cases h
 ·rename_i c x y hop
  exact CX hop ho hm hd hg hn hs hc h hk
 ·rename_i t x y z hop
  split at h
  ·rename_i hdst
   exact FF hT hop hdst ho hd (vG hg) hs h (fun S' W' g1 g2=>hk S' W' g1 trivial g2 (fun hx=>by cases hx))
  cases h
 ·rename_i t x hi hop
  split at h
  ·exact we hT hP hop ho hd (vG hg) hs h (fun S' W' g1 g2=>hk S' W' g1 trivial g2 (fun hx=>by cases hx))
  exact plain k h
 exact plain k h
theorem wS (hT:cy T=true) (hC:iz T call) (hP:rD T F X) (hdst:∀ (n:Nat) (o:Oper),ops[n]?=some o->dw X o) (hmeta:∀ (n:Nat) (o:Oper),ops[n]?=some o->jb T ops lim n o) :
 ∀ (n:Nat) (β:Type) (ctx:Option (Nat×Bool)) (prot:List Nat) (i:Nat) (l:List Oper) (S:ES) (K:ES->Option β) (r:β),run T F call ops lim n β ctx prot i l S K=some r->∀ (W:St) (q:St->Prop),(∀ (m:Nat) (o:Oper),l[m]?=some o->ops[i+m]?=some o)->Sub S W->l6 ops ctx prot W ->
  (∀ S' W',Sub S' W'->K S'=some r->(ctx.isSome=true->Frame l W W')->q W')->Wk T.P X ops lim i l W q:=by
 intro n
 induction n with
 | zero=>intro β ctx prot i l S K r h;cases h
 | succ n ih =>
  intro β ctx prot i l S K r h W q hl hs hc hK
  cases l with
  | nil=>exact Gm (hK S W hs h (fun _=>vI _ _))
  | cons o l' =>
   have ho:=hl 0 o rfl
   rw [Nat.add_zero] at ho
   simp only [run] at h
   split at h
   ·rename_i hg
    split at h
    ·cases h
    rename_i hn
    refine Hw hT hC hP ho (hmeta i o ho) (hdst i o ho) hg hn hs hc h (fun S' W' g1 g2 g3 g4=>ih β ctx prot (i+1) l' S' K r g3 W' q (fun m o' hm=>?_) g1 g2 (fun S2 W2 k1 k2 k3=>hK S2 W2 k1 k2 (fun hx=>?_)))
    ·have:=hl (m+1) o' (by simpa using hm)
     rw [show i+1+m=i+(m+1) by omega]
     exact this
    obtain ⟨v,hv⟩:=g4 hx
    exact sK (v:=v) (by rw [<- hv];exact k3 hx)
   rename_i hg
   split at h
   ·cases h
   rename_i j w hgd
   split at h
   ·cases h
   rename_i t htj
   obtain ⟨oj,hj,hjd⟩:=Option.bind_eq_some_iff.1 htj
   split at h
   ·cases h
   rename_i G pk rest hcut
   obtain ⟨hle,px,py,hpop⟩:=EL _ _ _ _ hcut
   obtain ⟨W1,h1,h2,h3,h4⟩:=oL (T:=T) (X:=X) (lim:=lim) (i:=i) (ctx:=ctx) (A:=ES.kQ T ((find T.own F).getD []) [] S G) (oy _ _ _ _) hs hc
   generalize mb ctx lim (ES.kQ T ((find T.own F).getD []) [] S G) S=S1 at h h1
   split at h
   ·rename_i b c0 x y d hft hin hpg hpn hpo hpd
    rw [hpop] at hpo
    cases hpo
    split at h
    ·rename_i other b1 hoth htst
     obtain ⟨y',e1,e2⟩:=Option.bind_eq_some_iff.1 h
     refine h4 _ _ ?_
     rw [hle]
     have hlen:∀ (m:Nat) (o':Oper),(G++pk :: rest)[m]?=some o'->ops[i+m]?=some o':=by rw [<- hle];exact hl
     have hG:∀ (m:Nat) (o':Oper),G[m]?=some o'->ops[i+m]?=some o':=fun m o' hm=>hlen m o' (by rw [List.getElem?_append_left (List.getElem?_eq_some_iff.1 hm).1];exact hm)
     have hpk:ops[i+G.length]?=some pk:=hlen G.length pk (by rw [List.getElem?_append_right (Nat.le_refl _),Nat.sub_self];rfl)
     have hrest:∀ (m:Nat) (o':Oper),rest[m]?=some o'->ops[i+G.length+1+m]?=some o':=fun m o' hm=>by
      have:=hlen (G.length+1+m) o' (by rw [List.getElem?_append_right Ky,show G.length+1+m-G.length=m+1 by omega];simpa using hm)
      rw [show i+G.length+1+m=i+(G.length+1+m) by omega]
      exact this
     have hia:=Bj G i hin
     have hnotp:∀ o'∈G,jG (t :: prot) o'.dst=true:=fun o' ho'=>by
      obtain ⟨m,hm⟩:=List.getElem?_of_mem ho'
      exact (hia m o' hm).1
     have hnott:∀ o'∈G,o'.dst≠some t:=fun o' ho' e=>by
      have:=hnotp o' ho'
      rw [e] at this
      simp [jG,mem,Nat.beq_refl] at this
     have hnotp2:∀ o'∈G,jG prot o'.dst=true:=fun o' ho'=>by
      have:=hnotp o' ho'
      cases hd:o'.dst with
      | none=>rfl
      | some d' =>
       rw [hd] at this
       simp only [jG,Bool.not_eq_true'] at this ⊢
       cases hb:mem prot d' with
       | false=>rfl
       | true =>
        have:mem (t :: prot) d'=true:=mem_iff.2 (List.mem_cons_of_mem _ (mem_iff.1 hb))
        simp_all
     have ht1:W1.env t=some (.bool b):=h1.env t _ _ hft rfl
     have behind:∀ W',Frame G W1 W'->∀ (Sp:ES),Sub Sp W'->(∀ W0,cw W0 (kH lim (i+G.length) Sp) (tN lim (i+G.length) Sp)->dm T.P X pk W0 (fT (nM W0 none) pk.dst (.v .bool y')))->Wk T.P X ops lim (i+G.length) (pk :: rest) W' q:=by
      intro W' hf Sp hsp hop
      have hc':=F2 h2 hf hnotp2
      refine oK (v:=.v .bool y') (r:=none) hpk (hmeta _ _ hpk) hsp (Bq hc' hpg) (hdst _ _ hpk).cN rfl (Je (hmeta _ _ hpk) (by rw [sH,hpop])) hop ?_
      refine ih β ctx prot (i+G.length+1) rest _ K r e2 _ q hrest ?_ (uh hc' hpn) (fun S2 W2 k1 k2 k3=>hK S2 W2 k1 k2 (fun hx=>?_))
      ·rw [hpd]
       exact (uy h1 hf).put
      have hf2:=sK (v:=.v .bool y') (k3 hx)
      rw [h3 hx] at hf
      rw [hle]
      exact ⟨hf2.1.trans hf.1,fun u hu=>(hf2.2 u (fun o' ho'=>hu o' (List.mem_append_right _ ho'))).trans (hf.2 u (fun o' ho'=>hu o' (List.mem_append_left _ ho')))⟩
     have htm:∀ (Sx:ES),find Sx.env t=some (.v .bool b)->kH lim (i+G.length) Sx t=some (.v .bool b):=by
      intro Sx hx
      unfold oC at htst
      split at htst
      ·rename_i b' hb'
       exact D9 (v:=.v .bool b') (t:=t) hb' rfl hx rfl
      cases htst
     have hft2:find (S1.forget G).env t=some (.v .bool b):=by rw [jP G S1 t hnott];exact hft
     refine wk_app ?_
     have taken:b=w->run T F call ops lim n Bool (some (j,w)) (t :: prot) i G S1 (fun S'=>oC (kH lim (i+G.length) S') (match w with | true=>px | false=>py))=some y'->Wk T.P X ops lim i G W1 (fun W'=>Wk T.P X ops lim (i+G.length) (pk :: rest) W' q):=by
      intro hbw hrun
      refine ih Bool (some (j,w)) (t :: prot) i G S1 _ y' hrun W1 _ hG h1 ⟨oj,t,hj,hjd,List.mem_cons_self,by rw [ht1,hbw]⟩ (fun S' W' k1 k2 k3=>?_)
      have hf:=k3 rfl
      have ht':W'.env t=some (.bool b):=by rw [hf.2 t hnott];exact ht1
      have hsp:Sub (S'.put t (.v .bool b)) W':=by
       refine ⟨fun u v p f1 f2=>?_,k1.rows⟩
       simp only [ES.put,find] at f1
       split at f1
       ·rename_i hb
        cases f1
        have:=beq_true hb
        subst this
        cases f2
        exact ht'
       exact k1.env u v p f1 f2
      refine behind W' hf (S'.put t (.v .bool b)) hsp (fun W0 hA=>?_)
      have hc0:ev W0 (.tmp t)=some (.bool b):=hA.nE (x:=.tmp t) (htm _ (by simp [ES.put,find,Nat.beq_refl]))
      have hop:∀ z:Operand,oC (kH lim (i+G.length) S') z=some y'->ev W0 z=some (.bool y'):=by
       intro z hz
       unfold oC at hz
       split at hz
       ·rename_i b' hb'
        cases hz
        cases z with
        | tmp u =>
         have hb2:kH lim (i+G.length) S' u=some (.v .bool y'):=hb'
         by_cases cu:u=t
         ·subst cu
          have:=k1.env u _ _ (nS hb2) rfl
          rw [ht'] at this
          cases this
          exact hc0
         refine hA.nE (x:=.tmp u) (t:=.bool) (y:=y') ?_
         have hfu:find (S'.put t (.v .bool b)).env u=find S'.env u:=by
          simp only [ES.put,find]
          have:Nat.beq u t=false:=by
           cases hb:Nat.beq u t with
           | false=>rfl
           | true=>exact absurd (beq_true hb) cu
          rw [this]
         exact D9 (t:=u) hb2 rfl (by rw [hfu];exact nS hb2) rfl
        | const cc=>exact hA.nE (x:=.const cc) hb'
        | func f=>cases hb'
        | global g=>cases hb'
       cases hz
      have hz:=hop _ k2
      refine Ed (hdst _ _ hpk) hpd hpop hc0 (fun hb=>?_) (fun hb=>?_)
      ·rw [hbw] at hb;subst hb;exact hz
      rw [hbw] at hb;subst hb;exact hz
     have left:b = !w->other=y'->Wk T.P X ops lim i G W1 (fun W'=>Wk T.P X ops lim (i+G.length) (pk :: rest) W' q):=by
      intro hbw hy'
      subst hy'
      refine zR (i:=i) hdst hmeta hj hjd (List.mem_cons_self (l:=prot)) G i W1 hG (Nat.le_refl _) hia (by rw [ht1,hbw]) (fun m hm1 hm2=>Ky) (fun W' hf ht'=>?_)
      refine behind W' hf (S1.forget G) (uy h1 hf) (fun W0 hA=>?_)
      have hc0:ev W0 (.tmp t)=some (.bool b):=hA.nE (x:=.tmp t) (htm _ hft2)
      have hz:=BL hA hoth
      refine Ed (hdst _ _ hpk) hpd hpop hc0 (fun hb=>?_) (fun hb=>?_)
      ·have:w=false:=by rw [hb] at hbw;cases w with
        | false=>rfl
        | true=>cases hbw
       subst this;exact hz
      have:w=true:=by rw [hb] at hbw;cases w with
       | false=>cases hbw
       | true=>rfl
      subst this;exact hz
     cases w with
     | true =>
      cases b with
      | true=>exact taken rfl e1
      | false=>exact left rfl (Option.some.inj e1)
     | false =>
      cases b with
      | true=>exact left rfl (Option.some.inj e1)
      | false=>exact taken rfl e1
    cases h
   cases h
end
section
variable {T:fW} {X:Ctx} {F nt:Nat} {call:(g:Nat)->List cI->Option (T.out g).den} {β:Type}
theorem EJ:∀ (ops:List Oper),yU nt ops=true->X.nt=nt->nt<=bX->∀ (n:Nat) (o:Oper),ops[n]?=some o->dw X o
 | o :: ops,h,hX,hl,n,o',hn,d,hd=>by
  simp only [yU,Bool.and_eq_true] at h
  cases n with
  | zero =>
   cases hn
   have h1:=h.1
   simp only [hd] at h1
   have h2:d<nt:=Nat.le_of_ble_eq_true h1
   exact ⟨by rw [hX];exact h2,Nat.ne_of_lt (Nat.lt_of_lt_of_le h2 hl)⟩
  | succ n=>exact EJ ops h.2 hX hl n o' (by simpa using hn) d hd
 | [],_,_,_,n,o',hn,_,_=>by simp at hn
theorem yj (hT:cy T=true) (hC:iz T call) (hP:rD T F X) (hmix:T.P.follows .mixedOrders=true) {id:Nat} {ops:List Oper} {draw:Bool} {S:ES} {K:ES->Option β} {r:β} (hX:X.nt=nt) (h:region T F nt call ops draw S K=some r) {W:St} {Q:ju} (hs:Sub S W) (hK:∀ S' W',Sub S' W'->K S'=some r->Q .normal W'):mS T.P X (.region id ops.toArray draw) W Q:=by
 unfold region at h
 split at h
 ·cases h
 rename_i hd
 rw [Bool.and_eq_true] at hd
 have hdst:=EJ (X:=X) ops hd.1 hX (Nat.le_of_ble_eq_true hd.2)
 split at h
 ·rename_i g hh
  split at h
  ·rename_i y hy
   refine hC.hook ops draw S g y hh hy X id W Q (fun n o hn=>?_) hs (fun W' h1=>hK _ _ h1 h)
   unfold cN
   cases hdd:o.dst with
   | none=>trivial
   | some d=>exact (hdst n o hn d hdd).1
  cases h
 split at h
 ·have:=wS (X:=X) (ops:=ops) (lim:=none) (F:=F) hT hC hP hdst (fun n o _=>trivial) _ β none [] 0 ops S K r h W (fun S'=>Q .normal S') (fun m o hm=>by rw [Nat.zero_add];exact hm) hs trivial (fun S' W' h1 h2 _=>hK S' W' h1 h2)
  exact ab (JC this)
 dsimp only at h
 split at h
 ·rename_i hm hA hO
  obtain ⟨g1,g2⟩:=AV ops _ hm
  have:=wS (X:=X) (ops:=ops) (lim:=some _) (F:=F) hT hC hP hdst g2 _ β none [] 0 ops (ES.kQ T ((find T.own F).getD []) [] S ops) K r h (ES.kQ T ((find T.own F).getD []) [] S ops).st (fun S'=>Q .normal S') (fun m o hm=>by rw [Nat.zero_add];exact hm) (nG _) trivial (fun S' W' h1 h2 _=>hK S' W' h1 h2)
  refine dS (fun a w hr=>oy (T:=T) ((find T.own F).getD []) [] ops S a w (jT hs a w hr)) ?_
  have hdr:=Ik (X:=X) (P:=T.P) (q:=fun S'=>Q .normal S') g1.symm ops 0 _ Ky this
  rw [List.drop_zero] at hdr
  exact Cs _ _ hdr hA hO hmix
 cases h
theorem sw:∀ (l:List (Nat×Bool×TypeId)) (S:ES),∀ a w,Rel X S.st a w->Rel X (xq l S).st a w
 | [],S,a,w,h=>h
 | x :: l,S,a,w,h=>by
  simp only [xq]
  split
  ·exact sw l S a w h
  exact sw l _ a w (fL _ _ a w h)
theorem fN {S:ES}:∀ (l:List (Nat×Bool×TypeId)) (t:Nat) (v:cI),find (ik T S l) t=some v->∃ u,find S.env t=some u/\u.pv=v.pv
 | [],t,v,h=>by cases h
 | x :: l,t,v,h=>by
  simp only [ik] at h
  split at h
  ·exact fN l t v h
  ·exact fN l t v h
  ·exact fN l t v h
  ·exact fN l t v h
  ·rename_i hf
   split at h
   ·rename_i c hc
    simp only [find] at h
    split at h
    ·rename_i hb
     cases h
     rw [beq_true hb]
     exact ⟨_,hf,rfl⟩
    exact fN l t v h
   exact fN l t v h
  ·rename_i u _ _ _ _ _ hf
   simp only [find] at h
   split at h
   ·rename_i hb
    cases h
    rw [beq_true hb]
    exact ⟨_,hf,rfl⟩
   exact fN l t v h
  exact fN l t v h
theorem ij {S:ES}:∀ (l:List (Nat×Bool×TypeId)) (t:Nat) (v:cI),(t,v)∈ik T S l->(∀ fs,v≠.st fs)/\∀ c x,v≠.tup c x
 | [],t,v,h=>by cases h
 | x :: l,t,v,h=>by
  simp only [ik] at h
  split at h
  ·exact ij l t v h
  ·exact ij l t v h
  ·exact ij l t v h
  ·exact ij l t v h
  ·split at h
   ·rcases List.mem_cons.1 h with h | h
    ·cases h
     exact ⟨fun fs e=>(by cases e),fun c x e=>(by cases e)⟩
    exact ij l t v h
   exact ij l t v h
  ·rename_i u h1 h2 h3 h4 h5 hf
   rcases List.mem_cons.1 h with h | h
   ·cases h
    exact ⟨fun fs e=>h3 fs e,fun c x e=>h4 c x e⟩
   exact ij l t v h
  exact ij l t v h
theorem rX {S:ES} {acc:List (Nat×bU)} (hacc:∀ k r,find acc k=some r->find S.rows k=some r):∀ (js:List Nat) (k:Nat) (r:bU),find (kr S acc js) k=some r->find S.rows k=some r
 | [],k,r,h=>hacc k r h
 | j :: js,k,r,h=>by
  simp only [kr] at h
  split at h
  ·rename_i r0 hr0
   simp only [find] at h
   split at h
   ·rename_i hb
    cases h
    rw [beq_true hb]
    exact hr0
   exact rX hacc js k r h
  exact rX hacc js k r h
theorem rW {S:ES} {acc:List (Nat×bU)} {k:Nat} {r:bU} (h:find acc k=some r) (hr:find S.rows k=some r):∀ (js:List Nat),find (kr S acc js) k=some r
 | []=>h
 | j :: js=>by
  simp only [kr]
  split
  ·rename_i r0 hr0
   simp only [find]
   split
   ·rename_i hb
    rw [beq_true hb] at hr
    rw [<- hr0,hr]
   exact rW h hr js
  exact rW h hr js
theorem oW {S:ES}:∀ (l:List (Nat×cI)) (k:Nat) (r:bU),find (keepRows S l) k=some r->find S.rows k=some r
 | [],k,r,h=>by
  simp only [keepRows] at h
  split at h
  ·rename_i r0 hr0
   simp only [find] at h
   split at h
   ·rename_i hb
    cases h
    rw [beq_true hb]
    exact hr0
   cases h
  cases h
 | x :: l,k,r,h=>by
  simp only [keepRows] at h
  split at h
  ·exact oW l k r h
  split at h
  ·rename_i r0 hr0
   simp only [find] at h
   split at h
   ·rename_i hb
    cases h
    rw [beq_true hb]
    exact hr0
   exact rX (fun k r h=>oW l k r h) _ k r h
  exact oW l k r h
theorem ri {S:ES}:∀ (l:List (Nat×cI)) (t:Nat) (v:cI) (k:Nat) (r:bU),(t,v)∈l->leadsTo v=some k->find S.rows k=some r->find (keepRows S l) k=some r
 | x :: l,t,v,k,r,hm,hv,hr=>by
  simp only [keepRows]
  rcases List.mem_cons.1 hm with h | h
  ·subst h
   simp only [hv,hr,find,Nat.beq_refl]
  split
  ·exact ri l t v k r h hv hr
  split
  ·rename_i k0 _ r0 hr0
   simp only [find]
   split
   ·rename_i hb
    have:=beq_true hb
    subst this
    rw [hr] at hr0
    exact hr0.symm
   exact rW (ri l t v k r h hv hr) hr _
  exact ri l t v k r h hv hr
theorem HE (lv:List (Nat×Bool×TypeId)) (S:ES):∀ a w,Rel X S.st a w->Rel X (norm T lv S).st a w:=by
 intro a w h
 have h1:=sw lv S a w h
 unfold norm
 generalize xq lv S=S1 at h1
 dsimp only
 split
 case h_2=>exact h1
 rename_i hown
 have env:∀ t p,(ES.st ⟨ik T S1 lv,keepRows S1 (ik T S1 lv)⟩).env t=some p->S1.st.env t=some p/\∃ v,(t,v)∈ik T S1 lv/\v.pv=some p:=by
  intro t p ht
  simp only [ES.st] at ht ⊢
  obtain ⟨v,h2,h3⟩:=Option.bind_eq_some_iff.1 ht
  obtain ⟨u,h4,h5⟩:=fN lv t v h2
  exact ⟨by rw [h4];simp only [Option.bind_some,h5,h3],v,gE h2,h3⟩
 have rows:∀ k r,(ES.st ⟨ik T S1 lv,keepRows S1 (ik T S1 lv)⟩).rows k=some r->S1.st.rows k=some r:=by
  intro k r hk
  simp only [ES.st] at hk ⊢
  obtain ⟨x,h2,rfl⟩:=Option.map_eq_some_iff.1 hk
  rw [oW _ k x h2]
  rfl
 refine h1.less (fun t p ht=>(env t p ht).1) rows (fun t p ht w F L v hv=>?_) (fun j r hj=>?_)
 ·obtain ⟨_,u,hu,hp⟩:=env t p ht
  have il:∀ k r,leadsTo u=some k->S1.st.rows k=some r->(ES.st ⟨ik T S1 lv,keepRows S1 (ik T S1 lv)⟩).rows k=some r:=by
   intro k r hk hr
   simp only [ES.st] at hr ⊢
   obtain ⟨x,h2,rfl⟩:=Option.map_eq_some_iff.1 hr
   rw [ri _ t u k x hu hk h2]
   rfl
  obtain ⟨no1,no2⟩:=ij lv t u hu
  cases u with
  | v c x =>
   cases hp
   have hpl:closed (c.pv x)=true:=jt c x
   generalize c.pv x=p at hv hpl
   cases hv with
   | cv h=>exact .cv h
   | ag hl h=>exact .ag hl h
   | pr vs hs hF hc hd=>exact .pr vs hs hF hc hd
   | tup=>cases hpl
   | own=>cases hpl
   | win=>cases hpl
   | po=>cases hpl
   | map=>cases hpl
  | tup c x=>exact absurd rfl (no2 c x)
  | st fs=>exact absurd rfl (no1 fs)
  | nilS=>cases hp;cases hv with | cv h=>exact .cv h
  | undef=>cases hp;cases hv with | cv h=>exact .cv h
  | any=>cases hp
  | own k =>
   cases hp
   cases hv with
   | own h=>exact .own (il _ _ rfl h)
  | po k off p =>
   cases hp
   cases hv with
   | po h hL ho=>exact .po (il _ _ rfl h) hL ho
  | pe k i sz off p =>
   cases hp
   cases hv with
   | po h hL ho=>exact .po (il _ _ rfl h) hL ho
  | pr c x =>
   cases hp
   cases hv with
   | pr vs hs hF hc hd=>exact .pr vs hs hF hc hd
  | pa k off p n i sz =>
   cases hp
   cases hv with
   | po h hL ho=>exact .po (il _ _ rfl h) hL ho
  | wn k n =>
   cases hp
   cases hv with
   | win h hL ho hn hb ha=>exact .win (il _ _ rfl h) hL ho hn hb ha
  | mp l =>
   cases hp
   cases hv with
   | map hF hn hb he=>exact .map hF hn hb he
 cases hf:find (keepRows S1 (ik T S1 lv)) j with
 | some x=>exact .inl ⟨x.row,by simp only [ES.st,hf,Option.map_some]⟩
 | none =>
  refine .inr ⟨fun k r hk ho=>?_,fun t p ht=>?_⟩
  ·simp only [ES.st] at hk
   obtain ⟨x,h2,rfl⟩:=Option.map_eq_some_iff.1 hk
   cases x with
   | arr e t l=>exact mc (jn l) j
   | box e t y=>exact iF t y j
   | obox e fs =>
    show (dg fs).any (gS j)=false
    cases hc:(dg fs).any (gS j) with
    | false=>rfl
    | true =>
     have hm:=(fM fs j).1 hc
     simp only [Hq,List.all_eq_true] at hown
     have:=hown _ (gE h2) j hm
     simp only [ES.st] at hj
     obtain ⟨y,hy,_⟩:=Option.map_eq_some_iff.1 hj
     rw [hf,hy] at this
     cases this
  obtain ⟨_,u,hu,hp⟩:=env t p ht
  obtain ⟨no1,no2⟩:=ij lv t u hu
  cases u with
  | v c x =>
   cases hp
   cases c with
   | pair a b=>exact iF (.pair a b) x j
   | arr n e=>exact iF (.arr n e) x j
   | _=>rfl
  | tup c x=>exact absurd rfl (no2 c x)
  | st fs=>exact absurd rfl (no1 fs)
  | any=>cases hp
  | _=>cases hp;rfl
theorem pS (F id:Nat) (S:ES):∀ a w,Rel X S.st a w->Rel X (k7 T F id S).st a w:=by
 intro a w h
 unfold k7
 split
 ·exact h
 split
 ·exact h
 exact HE _ _ a w h
def Says (T:fW) (X:Ctx) (c:Code) (run:ES->(Exit->ES->Option β)->Option β):Prop :=
 ∀ (S:ES) (K:Exit->ES->Option β) (r:β),run S K=some r->∀ (W:St) (Q:ju),Sub S W->(∀ e S' W',Sub S' W'->K e S'=some r->Q e W')->mS T.P X c W Q
theorem vk {c:Code} {stp:ES->(Exit->ES->Option β)->Option β} {nm:ES->ES} (hnm:∀ S a w,Rel X (ES.st S) a w->Rel X (nm S).st a w) (h:Says T X c stp):∀ (n:Nat) (S:ES) (K:Exit->ES->Option β) (r:β),Bb nm stp n S K=some r->∀ (W:St) (Q:ju),Sub S W->(∀ e S' W',Sub S' W'->K e S'=some r->Q e W')->tW T.P X c W Q
 | 0,S,K,r,hr,W,Q,hs,hK=>by cases hr
 | n+1,S,K,r,hr,W,Q,hs,hK=>by
  refine bB (h S _ r hr W _ hs (fun e S' W' h1 h2=>?_))
  cases e with
  | normal=>exact oM (fun a w hr=>hnm S' a w (jT h1 a w hr)) (vk hnm h n (nm S') K r h2 _ Q (nG _) hK)
  | _=>exact hK _ _ _ h1 h2
theorem mN (hT:cy T=true) (hC:iz T call) (hP:rD T F X) (hmix:T.P.follows .mixedOrders=true) (hX:X.nt=nt) {n:Nat}:∀ (c:Code),Says T X c (fun S (K:Exit->ES->Option β)=>code T F nt call n c S K):=by
 intro c
 induction c with
 | skip=>intro S K r h W Q hs hK;exact aF (hK _ _ _ hs h)
 | label l=>intro S K r h W Q hs hK;exact Ff (hK _ _ _ hs h)
 | exit i=>intro S K r h W Q hs hK;exact bC (hK _ _ _ hs h)
 | ret=>intro S K r h W Q hs hK;exact aT (hK _ _ _ hs h)
 | region id ops draw =>
  intro S K r h W Q hs hK
  have:=yj (X:=X) (Q:=Q) (id:=id) hT hC hP hmix hX h hs (fun S' W' h1 h2=>hK _ _ _ h1 h2)
  rwa [Array.toArray_toList] at this
 | seq a b iha ihb =>
  intro S K r h W Q hs hK
  refine ae (iha S _ r h W _ hs (fun e S' W' h1 h2=>?_))
  cases e with
  | normal=>exact dS (fun a w hr=>pS _ _ S' a w (jT h1 a w hr)) (ihb _ K r h2 _ Q (nG _) hK)
  | _=>exact hK _ _ _ h1 h2
 | cond x a b iha ihb =>
  intro S K r h W Q hs hK
  simp only [code] at h
  split at h
  ·rename_i v hv
   have hA:cw W (find S.env) (fun k=>some (find S.rows k)):=hs.agree (i:=0) (lim:=none)
   refine aC (BL hA hv) (fun hb=>?_) (fun hb=>?_)
   ·rw [hb] at h;exact iha S K r h W Q hs hK
   rw [hb] at h;exact ihb S K r h W Q hs hK
  cases h
 | block i c ih =>
  intro S K r h W Q hs hK
  refine aB (ih S _ r h W _ hs (fun e S' W' h1 h2=>?_))
  cases e with
  | exit j =>
   show if j=i then Q .normal W' else Q (.exit j) W'
   dsimp only at h2
   split at h2
   ·rename_i hb
    rw [if_pos (beq_true hb)]
    exact hK _ _ _ h1 h2
   rename_i hb
   rw [if_neg (beq_false hb)]
   exact hK _ _ _ h1 h2
  | _=>exact hK _ _ _ h1 h2
 | scope c ih =>
  intro S K r h W Q hs hK
  have:=ih S _ r h W (fun e W'=>match e with | .goto _=>False | e=>Q e W') hs (fun e S' W' h1 h2=>by
   cases e with
   | goto l=>cases h2
   | _=>exact hK _ _ _ h1 h2)
  exact fun a w hr=>wp_scope_straight (Code.wp_mono (fun e a w ⟨S',q,r'⟩=>by
   cases e with
   | goto l=>exact q.elim
   | _=>exact ⟨S',q,r'⟩) (this a w hr))
 | loop c ih =>
  intro S K r h W Q hs hK
  refine bJ (oM (fun a w hr=>pS F (FX c) S a w (jT hs a w hr)) (vk (nm:=k7 T F (FX c)) (fun S a w h=>pS _ _ S a w h) ih n _ K r h _ Q (nG _) hK))
 | _=>intro S K r h;cases h
end
section
variable {T:fW} {X:Ctx} {F nt:Nat}
theorem wO {P:Program} {c:Code} {W:St} {Q:ju} (h:mS P X c W (fun e W'=>∃ W2,(∀ a w,Rel X W' a w->Rel X W2 a w)/\Q e W2)):mS P X c W Q:=fun a w r =>
 Code.wp_mono (fun e a w ⟨S',⟨W2,h1,h2⟩,r'⟩=>⟨W2,h2,h1 a w r'⟩) (h a w r)
theorem rQ (hT:cy T=true) {S:ES} {W:St} (hs:Sub S W) {x:ResultVar} {v:cI} {t:Ty} {y:t.den} (h:zZ T S x=some v) (hy:coe t v=some y):jS T.P W x (t.pv y):=by
 cases x with
 | tmp u=>exact .tmp (hs.env u v _ h (fb hy))
 | cell u ty =>
  simp only [zZ] at h
  split at h
  ·rename_i k c2 hk hc2
   split at h
   ·rename_i e c z hrow
    split at h
    ·rename_i z' hz hna
     cases h
     obtain ⟨rfl,rfl⟩:=cK hz
     obtain ⟨rfl,rfl⟩:=cK hy
     have hM:=fy hT hc2
     have hev:W.env u=some (.po k 0):=hs.env u _ _ hk rfl
     have hrw:W.rows k=some ⟨e,c.rsz,c.rn,c.enc y⟩:=by rw [hs.rows,hrow];rfl
     obtain ⟨ds,hu,hd⟩:=hM.Gg
     cases hag:c.mF with
     | true =>
      have hst:c.FR=true:=by cases c<;>first | rfl | (cases hag;done) | (cases hna;done)
      obtain ⟨fs,rfl⟩:=ug hd hst
      obtain ⟨inf,h1,h2,_⟩:=hM.info
      have:=jS.agg (S:=W) (off:=0) hev hu h1 hrw (by rw [Nat.zero_add,h2];show c.sz<=(c.enc y).length;rw [aY];exact Nat.le_refl _)
      rw [List.drop_zero,h2,List.take_of_length_le (by show (c.enc y).length<=_;rw [aY];exact Nat.le_refl _)] at this
      rw [nT hag]
      exact this
     | false =>
      obtain ⟨cc,h1,h2⟩:=pM hag y
      rw [h2]
      have hp:=ku hd hag
      refine .cell (ds:=ds) hev hu ?_ hrw (by show (c.enc y)[0]?=_;rw [h1];rfl)
      cases ds<;>first | rfl | cases hp
    cases h
   ·rename_i e fs hrow
    split at h
    ·rename_i z hz
     cases h
     obtain ⟨rfl,rfl⟩:=cK hy
     have hM:=fy hT hc2
     have hev:W.env u=some (.po k 0):=hs.env u _ _ hk rfl
     obtain ⟨e1,e2,hag⟩:=uX _ _ _ hz
     have hrw:W.rows k=some ⟨e,nD fs,1,dg fs⟩:=by rw [hs.rows,hrow];rfl
     obtain ⟨ds,hu,hd⟩:=hM.Gg
     obtain ⟨sf,rfl⟩:=ug hd (by cases c2<;>first | rfl | (cases fs<;>cases hz))
     obtain ⟨inf,h1,h2,_⟩:=hM.info
     have:=jS.agg (S:=W) (off:=0) hev hu h1 hrw (by rw [Nat.zero_add,h2];show _<=(dg fs).length;rw [bZ,e2];exact Nat.le_refl _)
     rw [List.drop_zero,h2,List.take_of_length_le (by show (dg fs).length<=_;rw [bZ,e2];exact Nat.le_refl _)] at this
     rw [nT hag,<- e1]
     exact this
    cases h
   cases h
  cases h
theorem Ee (hT:cy T=true) {S:ES} {W:St} (hs:Sub S W) {b:Bool} {t:Ty} {l:List ResultVar} {r:t.den} (h:qM T S b t l=some r):∃ p,(pb b t r).pv=some p/\gn T.P W l p:=by
 cases b with
 | false =>
  simp only [qM] at h
  split at h
  ·split at h
   ·rename_i v hv
    exact ⟨_,rfl,.one (rQ hT hs hv h) (jt _ _)⟩
   cases h
  cases h
 | true =>
  have cons:∀ {t:Ty} {x:ResultVar} {l:List ResultVar} {r:t.den},xi T S t (x :: l)=some r->∃ a b,∃ (y:a.den) (z:b.den),(⟨t,r⟩:Σ t:Ty,t.den)=⟨.pair a b,(y,z)⟩/\(∃ v,zZ T S x=some v/\coe a v=some y)/\xi T S b l=some z:=by
   intro t x l r h
   cases t with
   | pair a b =>
    simp only [xi] at h
    split at h
    ·rename_i v hv
     split at h
     ·rename_i y z hy hz
      cases h
      exact ⟨a,b,y,z,rfl,⟨v,hv,hy⟩,hz⟩
     cases h
    cases h
   | _=>cases h
  have nil:∀ {t:Ty} {r:t.den},xi T S t []=some r->∃ e:t = .unit,True:=by
   intro t r h
   cases t<;>first | exact ⟨rfl,trivial⟩ | cases h
  simp only [qM] at h
  split at h
  ·cases h
  ·cases h
  rename_i hn1 hn2
  match l,h,hn1,hn2 with
  | [],h,_,_ =>
   obtain ⟨rfl,_⟩:=nil h
   exact ⟨_,rfl,.zero⟩
  | [x],h,hn1,_=>exact absurd rfl (hn1 x)
  | [x,y],h,_,_ =>
   obtain ⟨a,b,y1,z1,ev1,⟨v1,g1,g2⟩,h2⟩:=cons h;cases ev1
   obtain ⟨a2,b2,y2,z2,ev2,⟨v2,g3,g4⟩,h3⟩:=cons h2;cases ev2
   obtain ⟨rfl,_⟩:=nil h3
   exact ⟨_,rfl,.two (rQ hT hs g1 g2) (rQ hT hs g3 g4) (jt _ _) (jt _ _)⟩
  | [x,y,z],h,_,_ =>
   obtain ⟨a,b,y1,z1,ev1,⟨v1,g1,g2⟩,h2⟩:=cons h;cases ev1
   obtain ⟨a2,b2,y2,z2,ev2,⟨v2,g3,g4⟩,h3⟩:=cons h2;cases ev2
   obtain ⟨a3,b3,y3,z3,ev3,⟨v3,g5,g6⟩,h4⟩:=cons h3;cases ev3
   obtain ⟨rfl,_⟩:=nil h4
   exact ⟨_,rfl,.three (rQ hT hs g1 g2) (rQ hT hs g3 g4) (rQ hT hs g5 g6) (jt _ _) (jt _ _) (jt _ _)⟩
  | x :: y :: z :: u :: l,h,_,hn2=>exact absurd rfl (hn2 x y z u l)
theorem kP:∀ (l:List ResultVar) (S:ES),∀ a w,Rel X S.st a w->Rel X (gk S l).st a w
 | [],S,a,w,h=>h
 | .tmp t :: l,S,a,w,h=>kP l _ a w (fL _ _ a w h)
 | .cell _ _ :: l,S,a,w,h=>kP l _ a w (fL _ _ a w h)
theorem nF:∀ (vs:List cI) (i:Nat),∀ t v,find (rI i vs) t=some v->∃ j,t=i+j/\vs[j]?=some v
 | [],i,t,v,h=>by cases h
 | x :: vs,i,t,v,h=>by
  simp only [rI,find] at h
  split at h
  ·rename_i hb
   cases h
   exact ⟨0,beq_true hb,rfl⟩
  obtain ⟨j,e1,e2⟩:=nF vs (i+1) t v h
  exact ⟨j+1,Ky,by simpa using e2⟩
structure I4 (T:fW) (dQ:List (Nat×mZ T)):Prop where
 fn:∀ g o call k vs r,find dQ g=some o->sB T g = .no->iz T call->o.g call k vs=some r->fI T.P g/\∃ p,(pb (T.cF g) o.t r).pv=some p/\V.Fn T.P g (vs.map lZ) p
 low:∀ g o,find dQ g=some o->real g=g
 no:∀ g,sB T g≠.no->find dQ g=none
 hook:zk T
theorem sW (hN:∀ (f:Nat) (fn:Func),T.P.funcs[f]?=some fn->fn.name≠"runtime.NumGoroutine") {f:Nat} {fn:Func} {c:Code} (h:T.P.funcs[f]?=some fn) (hb:fn.body=some c):fI T.P f:=⟨fn,h,hN f fn h,by rw [hb];exact fun e=>by cases e⟩
theorem Bt {dQ:List (Nat×mZ T)} (hT:cy T=true) (hO:I4 T dQ) (hmix:T.P.follows .mixedOrders=true) (hN:∀ (f:Nat) (fn:Func),T.P.funcs[f]?=some fn->fn.name≠"runtime.NumGoroutine"):∀ k,iz T (fn T dQ k)
 | 0=>⟨fun g vs r _ h=>(by cases h),fun g j e vs r _ h=>(by cases h),fun g j e vs r v c2 y2 _ h=>(by cases h),hO.hook⟩
 | k+1=>by
  have ih:=Bt hT hO hmix hN k
  refine ⟨fun g vs r hl h=>?_,fun g j e vs r hl h=>?_,fun g j e vs r v c2 y2 hl h hout=>?_,hO.hook⟩
  ·simp only [fn] at h
   split at h
   ·rename_i o ho
    split at h
    ·rename_i q hq
     have key:∀ (t:Ty) (e:o.t=t) (r:t.den),e ▸ o.g (fn T dQ k) k vs=some r->∃ r':o.t.den,o.g (fn T dQ k) k vs=some r'/\∀ b,(pb b o.t r').pv=(pb b t r).pv:=by
      intro t e r h
      subst e
      exact ⟨r,h,fun _=>rfl⟩
     obtain ⟨r',h1,h2⟩:=key _ q.down r h
     obtain ⟨g1,p,g2,g3⟩:=hO.fn g o _ k vs r' ho hl ih h1
     have hr:=hO.low g o ho
     exact ⟨by rw [hr];exact g1,p,by rw [<- h2];exact g2,by rw [hr];exact g3⟩
    cases h
   split at h
   ·rename_i f hf
    unfold body at h
    split at h
    ·cases h
    rename_i c hb
    split at h
    ·cases h
    rename_i hlen
    simp only [hl] at h
    have main:∀ X:Ctx,X.nt=f.ntmps->mS T.P X c ⟨rq (vs.map lZ),nr⟩ (fun e W=>(e = .ret∨e = .normal)/\∃ W2,(∀ a w,Rel X W a w->Rel X W2 a w)/\∃ p,(pb (T.cF g) (T.out g) r).pv=some p/\gn T.P W2 f.results.toList p):=by
     intro X hX
     refine mN hT ih (fun h=>by simp only [qb,hl] at h;cases h) hmix hX c ⟨rI 0 vs,[]⟩ _ r h _ _ ⟨fun t v p h1 h2=>?_,fun k=>rfl⟩ (fun e S' W' h1 h2=>?_)
     ·obtain ⟨j,e1,e2⟩:=nF vs 0 t v h1
      rw [Nat.zero_add] at e1
      subst e1
      show (vs.map lZ)[t]?=some p
      rw [List.getElem?_map,e2]
      simp only [Option.map_some,lZ,h2,Option.getD_some]
     have fin:qM T (gk S' f.results.toList) (T.cF g) (T.out g) f.results.toList=some r->∃ W2,(∀ a w,Rel X W' a w->Rel X W2 a w)/\∃ p,(pb (T.cF g) (T.out g) r).pv=some p/\gn T.P W2 f.results.toList p:=by
      intro h3
      obtain ⟨p,g1,g2⟩:=Ee hT (nG (gk S' f.results.toList)) h3
      exact ⟨_,fun a w hr=>kP _ S' a w (jT h1 a w hr),p,g1,g2⟩
     cases e with
     | ret=>exact ⟨.inl rfl,fin h2⟩
     | normal=>exact ⟨.inr rfl,fin h2⟩
     | _=>cases h2
    obtain ⟨p,hp⟩:=D5 (T.cF g) (T.out g) r
    refine ⟨sW hN hf hb,p,hp,bM hf hb (by rw [List.length_map];exact Nat.le_of_ble_eq_true hlen) (fun X hX=>wO (uC (main X hX) (fun e W ⟨h1,W2,h2,p',h3,h4⟩=>⟨W2,h2,h1,?_⟩)))⟩
    rw [hp] at h3
    cases h3
    exact h4
   cases h
  ·simp only [fn,hO.no g (by rw [hl];exact fun e=>by cases e)] at h
   split at h
   ·rename_i f hf
    unfold body at h
    split at h
    ·cases h
    rename_i c hb
    split at h
    ·cases h
    rename_i hlen
    simp only [hl] at h
    split at h
    ·rename_i c0 y0 hv0 hsev
     split at h
     ·cases h
     ·cases h
     rename_i qo hqo hone
     have hjl:j<vs.length:=(List.getElem?_eq_some_iff.1 hv0).1
     have hlen':(cY j vs).length<=f.ntmps:=by
      simp only [cY,List.length_set,List.length_map]
      exact Nat.le_of_ble_eq_true hlen
     have fin:∀ S:ES,mJ e S f.results.toList (T.out g)=some r->∃ y2:List c0.den,(⟨T.out g,r⟩:Σ t:Ty,t.den)=⟨.list c0,y2⟩/\∃ u k,f.results.toList=[.tmp u]/\find S.env u=some (.own k)/\find S.rows k=some (.arr e c0 y2)/\Nat.ble opened k=false:=by
      intro S hS
      have hq:=qo.down
      clear hqo
      generalize T.out g=t at r hS hq
      subst hq
      simp only [mJ] at hS
      split at hS
      ·rename_i u hrs
       split at hS
       ·rename_i k hek
        split at hS
        ·rename_i e' c' l' hrow hop
         split at hS
         ·rename_i he
          obtain ⟨ec,hl2⟩:=cK hS
          cases ec
          have hl3:r=l':=hl2
          subst hl3
          have:=beq_true he
          subst this
          exact ⟨r,rfl,u,k,hrs,hek,hrow,hop⟩
         cases hS
        cases hS
       cases hS
      cases hS
     have main:∀ X:Ctx,X.nt=f.ntmps->(∀ v,X.pin v)->mS T.P X c ⟨rq (cY j vs),cQ (bU.arr e c0 y0).row⟩ (fun ee W=>(ee = .ret∨ee = .normal)/\∃ y2:List c0.den,(⟨T.out g,r⟩:Σ t:Ty,t.den)=⟨.list c0,y2⟩/\∃ u k,f.results.toList=[.tmp u]/\Nat.ble opened k=false/\W.env u=some (.own k)/\W.rows k=some (bU.arr e c0 y2).row):=by
      intro X hX hpin
      refine mN hT ih (fun _=>hpin) hmix hX c ⟨(j,.own bX) :: rI 0 vs,[(bX,.arr e c0 y0)]⟩ _ r h _ _ ⟨fun t u p h1 h2=>?_,fun k=>?_⟩ (fun ee S' W' h1 h2=>?_)
      ·show (cY j vs)[t]?=some p
       simp only [find] at h1
       split at h1
       ·rename_i hb
        cases h1
        cases h2
        rw [beq_true hb]
        simp only [cY,hv0]
        rw [List.getElem?_set_self (by rw [List.length_map];exact hjl)]
        rfl
       rename_i hb
       obtain ⟨m,e1,e2⟩:=nF vs 0 t u h1
       rw [Nat.zero_add] at e1
       subst e1
       simp only [cY]
       rw [List.getElem?_set_ne (fun e=>beq_false hb e.symm),List.getElem?_map,e2]
       simp only [Option.map_some,lZ,h2,Option.getD_some]
      ·simp only [find,cQ]
       by_cases ck:k=bX
       ·subst ck
        rw [if_pos rfl,Nat.beq_refl]
        rfl
       rw [if_neg ck]
       have:Nat.beq k bX=false:=by
        cases hb:Nat.beq k bX with
        | false=>rfl
        | true=>exact absurd (beq_true hb) ck
       rw [this]
       rfl
      have go:mJ e S' f.results.toList (T.out g)=some r->∃ y2:List c0.den,(⟨T.out g,r⟩:Σ t:Ty,t.den)=⟨.list c0,y2⟩/\∃ u k,f.results.toList=[.tmp u]/\Nat.ble opened k=false/\W'.env u=some (.own k)/\W'.rows k=some (bU.arr e c0 y2).row:=by
       intro h3
       obtain ⟨y2,g1,u,k,g2,g3,g4,g5⟩:=fin S' h3
       exact ⟨y2,g1,u,k,g2,g5,h1.env u _ _ g3 rfl,by rw [h1.rows,g4];rfl⟩
      cases ee with
      | ret=>exact ⟨.inl rfl,go h2⟩
      | normal=>exact ⟨.inr rfl,go h2⟩
      | _=>cases h2
     have hq:=qo.down
     obtain ⟨y2,hy2⟩:∃ y2:List c0.den,(⟨T.out g,r⟩:Σ t:Ty,t.den)=⟨.list c0,y2⟩:=by
      clear hqo main fin h
      generalize T.out g=t at r hq
      subst hq
      exact ⟨r,rfl⟩
     obtain ⟨u,hu⟩:∃ u,f.results.toList=[.tmp u]:=by
      generalize f.results.toList=rs at hone
      unfold Hz at hone
      split at hone
      ·exact ⟨_,rfl⟩
      cases hone
     refine ⟨sW hN hf hb,hsev,c0,y0,y2,hv0,hy2,DA (t:=u) hf hb hlen' (gY hu) (fun X hX hpin=>uC (main X hX hpin) (fun ee W ⟨h1,y3,h2,u',k,h3,h4,h5,h6⟩=>⟨h1,k,h4,?_,?_⟩))⟩
     ·rw [hu] at h3
      cases h3
      exact h5
     rw [hy2] at h2
     cases h2
     exact h6
    cases h
   cases h
  simp only [fn,hO.no g (by rw [hl];exact fun e=>by cases e)] at h
  split at h
  ·rename_i f hf
   unfold body at h
   split at h
   ·cases h
   rename_i c hb
   split at h
   ·cases h
   rename_i hlen
   simp only [hl] at h
   split at h
   ·rename_i c0 y0 hv0
    split at h
    ·cases h
    rename_i hfit
    have hcc:c0=c2:=by
     generalize T.out g=t at r hout hfit
     cases t with
     | pair a c1 =>
      simp only [Ht,Option.some.injEq,Prod.mk.injEq] at hout
      have h2:=hout.2
      cases h2
      simp only [Ef] at hfit
      cases hq:iG c0 c2 with
      | none=>rw [hq] at hfit;cases hfit
      | some q=>exact q.down
     | _=>cases hout
    have hlen':(cY j vs).length<=f.ntmps:=by
     simp only [cY,List.length_set,List.length_map]
     exact Nat.le_of_ble_eq_true hlen
    have hjl:j<vs.length:=(List.getElem?_eq_some_iff.1 hv0).1
    have fin:∀ (S:ES),mI T (T.cF g) e c0 f.results.toList S (T.out g)=some r->c0=c2/\(∃ p,v.pv=some p/\gn T.P S.st f.results.toList p)/\S.st.rows bX=some (kC e c2 y2).row:=by
     intro S hS
     generalize T.out g=t at r hout hS
     cases t with
     | pair a c1 =>
      simp only [Ht,Option.some.injEq,Prod.mk.injEq] at hout
      obtain ⟨rfl,h2⟩:=hout
      cases h2
      simp only [mI] at hS
      split at hS
      ·rename_i q x r0 hq hx hrow
       split at hS
       ·rename_i z hz
        cases hS
        refine ⟨q.down,Ee hT (nG S) hx,?_⟩
        simp only [ES.st,hrow,Option.map_some,xv hz]
       cases hS
      cases hS
     | _=>cases hout
    have main:∀ X:Ctx,X.nt=f.ntmps->mS T.P X c ⟨rq (cY j vs),cQ (kC e c0 y0).row⟩ (fun ee W=>(ee = .ret∨ee = .normal)/\∃ W2,(∀ a w,Rel X W a w->Rel X W2 a w)/\c0=c2/\(∃ p,v.pv=some p/\gn T.P W2 f.results.toList p)/\W2.rows bX=some (kC e c2 y2).row):=by
     intro X hX
     refine mN hT ih (fun h=>by simp only [qb,hl] at h;cases h) hmix hX c ⟨(j,lval c0) :: rI 0 vs,[(bX,kC e c0 y0)]⟩ _ r h _ _ ⟨fun t u p h1 h2=>?_,fun k=>?_⟩ (fun ee S' W' h1 h2=>?_)
     ·show (cY j vs)[t]?=some p
      simp only [find] at h1
      split at h1
      ·rename_i hb
       cases h1
       rw [JM c0 y0] at h2
       cases h2
       rw [beq_true hb]
       simp only [cY,hv0]
       rw [List.getElem?_set_self (by rw [List.length_map];exact hjl)]
      rename_i hb
      obtain ⟨m,e1,e2⟩:=nF vs 0 t u h1
      rw [Nat.zero_add] at e1
      subst e1
      simp only [cY]
      rw [List.getElem?_set_ne (fun e=>beq_false hb e.symm),List.getElem?_map,e2]
      simp only [Option.map_some,lZ,h2,Option.getD_some]
     ·simp only [find,cQ]
      by_cases ck:k=bX
      ·subst ck
       rw [if_pos rfl,Nat.beq_refl]
       rfl
      rw [if_neg ck]
      have:Nat.beq k bX=false:=by
       cases hb:Nat.beq k bX with
       | false=>rfl
       | true=>exact absurd (beq_true hb) ck
      rw [this]
      rfl
     have go:mI T (T.cF g) e c0 f.results.toList (gk S' f.results.toList) (T.out g)=some r->∃ W2,(∀ a w,Rel X W' a w->Rel X W2 a w)/\c0=c2/\(∃ p,v.pv=some p/\gn T.P W2 f.results.toList p)/\W2.rows bX=some (kC e c2 y2).row:=fun h3=>⟨_,fun a w hr=>kP _ S' a w (jT h1 a w hr),fin _ h3⟩
     cases ee with
     | ret=>exact ⟨.inl rfl,go h2⟩
     | normal=>exact ⟨.inr rfl,go h2⟩
     | _=>cases h2
    obtain ⟨p,hp⟩:∃ p,v.pv=some p:=by
     generalize T.out g=t at r hout
     cases t with
     | pair a c1 =>
      simp only [Ht,Option.some.injEq,Prod.mk.injEq] at hout
      rw [<- hout.1]
      exact D5 _ _ _
     | _=>cases hout
    subst hcc
    refine ⟨sW hN hf hb,p,hp,y0,hv0,qf hf hb hlen' (JO e c0 y2 y0) (fun X hX=>wO (uC (main X hX) (fun ee W ⟨h1,W2,h2,_,⟨p',h3,h4⟩,h5⟩=>⟨W2,h2,h1,?_,h5⟩)))⟩
    rw [hp] at h3
    cases h3
    exact h4
   cases h
  cases h
end
open Go.WideShapes
def wE:(c:Ty)->c.den->Prop
 | .int k,n=>(Lit.int k n).wf=true
 | .str,s=>s.size<=maxLen
 | .list e,l=>l.length<=maxLen/\∀ x∈l,wE e x
 | .pair a b,x=>wE a x.1/\wE b x.2
 | _,_=>True
mutual
def deep (T:fW):Nat->TypeId->Ty->Bool
 | 0,_,_=>false
 | n+1,t,c=>(match find T.ty t with
  | some c'=>(iG c' c).isSome
  | none=>false)&&(match c with
  | .list c=>match yT T t with
   | some (e,c')=>(iG c' c).isSome&&fR c&&deep T n e c
   | none=>false
  | .pair a b=>match T.P.underlying t with
   | some (.struct fs)=>yY T n fs.toList (.pair a b)
   | _=>false
  | .int _=>true
  | .bool=>true
  | .str=>true
  | _=>false)
def yY (T:fW):Nat->List Field->Ty->Bool
 | 0,_,_=>false
 | n+1,f :: fs,.pair a b=>deep T n f.type a&&yY T n fs b
 | _+1,[],.unit=>true
 | _,_,_=>false
end
section
variable {T:fW} {H:Type} {enc:TypeId×Value->H} {w:World} {base:Nat} {spare:Nat->Bool} {held:Bool}
def oI (w:World) (cs:List Value) (ds:List CV):Prop:=cs.length=ds.length/\∀ i (h:i<ds.length),Den w (.of fun b=>b<w.heap.size) (cs.getD i undef) ds[i]
theorem ty_sz (hT:cy T=true) {t:TypeId} {c:Ty} (h:find T.ty t=some c):T.P.cellsOf t=c.sz:=by
 obtain ⟨inf,h1,h2,_⟩:=(fy hT h).info
 simp only [Program.cellsOf,h1,Option.map_some,Option.getD_some,h2]
theorem BH {a:Addr} {n:Nat} {l:List Value} (h:w.cells? base a n=some l):l.length=n/\∀ i,i<n->w.cell? (a.add i)=some (l.getD i undef):=by
 unfold World.cells? at h
 split at h
 ·have key:∀ (js:List Nat) (l:List Value),js.mapM (fun i=>w.cell? (a.add i))=some l->l.length=js.length/\∀ i (hi:i<js.length),w.cell? (a.add js[i])=some (l.getD i undef):=by
   intro js
   induction js with
   | nil=>intro l h;simp at h;subst h;exact ⟨rfl,fun i hi=>by simp at hi⟩
   | cons j js ih =>
    intro l h
    rw [List.mapM_cons] at h
    simp only [Option.bind_eq_bind,Option.pure_def,Option.bind_eq_some_iff] at h
    obtain ⟨v,h1,l',h2,h3⟩:=h
    cases h3
    obtain ⟨g1,g2⟩:=ih l' h2
    refine ⟨by simp [g1],fun i hi=>?_⟩
    cases i with
    | zero=>exact h1
    | succ i=>simpa using g2 i (by simpa using hi)
  obtain ⟨g1,g2⟩:=key _ l h
  refine ⟨by simpa using g1,fun i hi=>?_⟩
  have:=g2 i (by simpa using hi)
  simpa using this
 cases h
theorem F7 {a:Addr} {v:Value} (h:w.cell? a=some v):a.spot=none/\a.block<w.heap.size:=by
 unfold World.cell? at h
 split at h
 ·rename_i c e f hb
  split at h
  ·cases h
  rename_i hs
  refine ⟨by simpa using hs,?_⟩
  exact (Array.getElem?_eq_some_iff.1 hb).1
 cases h
theorem DE {cs cs':List Value} {ds ds':List CV} (h:oI w cs ds) (h':oI w cs' ds'):oI w (cs++cs') (ds++ds'):=by
 refine ⟨by rw [List.length_append,List.length_append,h.1,h'.1],fun i hi=>?_⟩
 rw [List.length_append] at hi
 by_cases c:i<ds.length
 ·rw [List.getElem_append_left c]
  have:=h.2 i c
  rw [List.getD_eq_getElem?_getD] at this ⊢
  rw [List.getElem?_append_left (by rw [h.1];exact c)]
  exact this
 rw [List.getElem_append_right Ky]
 have:=h'.2 (i-ds.length) Ky
 rw [List.getD_eq_getElem?_getD] at this ⊢
 rw [List.getElem?_append_right (by rw [h.1];omega),h.1]
 exact this
theorem Gz (hT:cy T=true):∀ (fuel:Nat) (n:Nat) (t:TypeId) (c:Ty) (cs:List Value) (x:DataW H×List MemPlace),deep T n t c=true->DataW.trod enc T.P w base spare held fuel t cs=some x->∃ y:c.den,wE c y/\oI w cs (c.enc y):=by
 intro fuel
 induction fuel with
 | zero=>intro n t c cs x hd h;simp [DataW.trod] at h
 | succ fuel ih =>
  intro n t c cs x hd h
  cases n with
  | zero=>cases hd
  | succ n =>
   simp only [deep,Bool.and_eq_true] at hd
   obtain ⟨hd0,hd1⟩:=hd
   have hty:find T.ty t=some c:=by
    split at hd0
    ·rename_i c' hc
     cases hq:iG c' c with
     | none=>rw [hq] at hd0;cases hd0
     | some q=>rw [<- q.down];exact hc
    cases hd0
   have hM:=fy hT hty
   have one:∀ (v:Value) (cv:CV),cs=[v]->Den w (.of fun b=>b<w.heap.size) v cv->oI w cs [cv]:=by
    intro v cv h1 h2
    subst h1
    refine ⟨rfl,fun i hi=>?_⟩
    have:i=0:=by simp at hi;exact hi
    subst this
    exact h2
   cases c with
   | int k =>
    obtain ⟨m,h1,h2,h3⟩:=DataW.trod_int hM.int h
    exact ⟨m,h3,one _ _ h1 (.lit _)⟩
   | bool =>
    obtain ⟨b,h1,h2⟩:=DataW.trod_bool hM.bool h
    exact ⟨b,trivial,one _ _ h1 (.lit _)⟩
   | str =>
    obtain ⟨b,h1,h2,h3⟩:=DataW.trod_string hM.str h
    exact ⟨b,h3,one _ _ h1 (.lit _)⟩
   | fn=>cases hd1
   | unit=>cases hd1
   | arr n e=>cases hd1
   | list c =>
    dsimp only at hd1
    split at hd1
    ·rename_i e c' he
     simp only [Bool.and_eq_true] at hd1
     obtain ⟨⟨hq,hs⟩,hdp⟩:=hd1
     have hcc:c'=c:=by
      cases hq':iG c' c with
      | none=>rw [hq'] at hq;cases hq
      | some q=>exact q.down
     subst hcc
     obtain ⟨hu,hMe,_⟩:=lX hT he
     have hsz:=(gi hs).2
     have hce:T.P.cellsOf e=c'.sz:=by
      obtain ⟨inf,h1,h2,_⟩:=hMe.info
      simp only [Program.cellsOf,h1,Option.map_some,Option.getD_some,h2]
     rcases DataW.trod_slice hu h with ⟨h1,_⟩ | ⟨a,len,cap,elems,rest,m,hfu,h1,_,hb,hl,hm,hlen,hel,_⟩
     ·exact ⟨[],⟨Nat.zero_le _,fun x hx=>by cases hx⟩,one _ _ h1 (.nil _ _ (fun _=>rfl))⟩
     cases hfu
     rw [hce] at hel
     have each:∀ i,i<len->∃ l y,w.cells? base (a.add (i*c'.sz)) c'.sz=some l/\wE c' y/\oI w l (c'.enc y):=by
      intro i hi
      have:=hel i hi
      rw [List.getElem?_eq_getElem Ky] at this
      obtain ⟨l,g1,g2⟩:=Option.bind_eq_some_iff.1 this
      obtain ⟨y,g3,g4⟩:=ih n e c' l _ hdp g2
      exact ⟨l,y,g1,g3,g4⟩
     rcases Nat.eq_zero_or_pos len with h0 | h0
     ·subst h0
      exact ⟨[],⟨Nat.zero_le _,fun x hx=>by cases hx⟩,one _ _ h1 (.nil _ _ (fun h=>by cases h))⟩
     obtain ⟨l0,y0,k1,k2,k3⟩:=each 0 h0
     have hfirst:=(BH k1).2 0 hsz
     rw [Nat.zero_mul] at hfirst
     have e0:(a.add 0).add 0=a:=by simp [Addr.add]
     rw [e0] at hfirst
     obtain ⟨hspot,hblk⟩:=F7 hfirst
     have build:∀ m,m<=len->∃ (ys:List c'.den) (vs:Nat->Value),ys.length=m/\(∀ x∈ys,wE c' x)/\∀ i (hi:i<(ys.flatMap c'.enc).length),w.cell? (a.add i)=some (vs i)/\Den w (.of fun b=>b<w.heap.size) (vs i) (ys.flatMap c'.enc)[i]:=by
      intro m
      induction m with
      | zero=>intro _;exact ⟨[],fun _=>undef,rfl,fun x hx=>(by cases hx),fun i hi=>by simp at hi⟩
      | succ m ihm =>
       intro hmle
       obtain ⟨ys,vs,g1,g2,g3⟩:=ihm Ky
       obtain ⟨l,y,g4,g5,g6⟩:=each m Ky
       obtain ⟨g7,g8⟩:=BH g4
       have hyl:(ys.flatMap c'.enc).length=m*c'.sz:=by rw [eu,g1]
       refine ⟨ys++[y],fun i=>if i<m*c'.sz then vs i else l.getD (i-m*c'.sz) undef,by simp [g1],fun x hx=>?_,fun i hi=>?_⟩
       ·rcases List.mem_append.1 hx with hx | hx
        ·exact g2 x hx
        rcases List.mem_singleton.1 hx with rfl;exact g5
       have hfl:(ys++[y]).flatMap c'.enc=ys.flatMap c'.enc++c'.enc y:=Kz
       have hi2:i<m*c'.sz+c'.sz:=by
        rw [hfl,List.length_append,hyl,aY] at hi
        exact hi
       by_cases ci:i<m*c'.sz
       ·have:=g3 i (by rw [hyl];exact ci)
        simp only [if_pos ci]
        refine ⟨this.1,?_⟩
        have e1:((ys++[y]).flatMap c'.enc)[i]=(ys.flatMap c'.enc)[i]'(by rw [hyl];exact ci):=by
         simp only [hfl]
         rw [List.getElem_append_left]
        rw [e1]
        exact this.2
       simp only [if_neg ci]
       have hlt:i-m*c'.sz<c'.sz:=Ky
       have e1:=g8 (i-m*c'.sz) hlt
       rw [V.add_add a hspot,show m*c'.sz+(i-m*c'.sz)=i by omega] at e1
       refine ⟨e1,?_⟩
       have e2:((ys++[y]).flatMap c'.enc)[i]=(c'.enc y)[i-m*c'.sz]'(by rw [aY];exact hlt):=by
        simp only [hfl]
        rw [List.getElem_append_right (by rw [hyl];omega)]
        simp only [hyl]
       rw [e2]
       exact g6.2 _ (by rw [aY];exact hlt)
     obtain ⟨ys,vs,g1,g2,g3⟩:=build len (Nat.le_refl _)
     refine ⟨ys,⟨by rw [g1];omega,g2⟩,one _ _ h1 ?_⟩
     rw [show ys.length=len from g1]
     exact .row a len cap _ vs hspot hblk hl (fun i hi=>(g3 i hi).1) (fun i hi=>(g3 i hi).2)
    cases hd1
   | pair a b =>
    dsimp only at hd1
    obtain ⟨fs,hu,hf⟩:=hM.st rfl
    simp only [hu] at hd1
    obtain ⟨xs,m,hfu,_,hlen,hxs,hall⟩:=DataW.trod_struct hu h
    cases hfu
    have key:∀ (fl:List Field) (n:Nat) (c:Ty) (off:Nat),yY T n fl c=true->ir T.P fl c off=true->(∀ f∈fl,∃ y,DataW.trod enc T.P w base spare held fuel f.type ((cs.drop f.offset).take (T.P.cellsOf f.type))=some y)->off+c.sz=cs.length->∃ y:c.den,wE c y/\oI w (cs.drop off) (c.enc y):=by
     intro fl
     induction fl with
     | nil =>
      intro n c off h1 h2 h3 h4
      cases c with
      | unit=>exact ⟨(),trivial,by simp [oI,Ty.enc,Ty.sz] at h4 ⊢;omega⟩
      | _=>cases h2
     | cons f fl ihf =>
      intro n c off h1 h2 h3 h4
      cases n with
      | zero=>cases h1
      | succ n =>
       cases c with
       | pair a b =>
        simp only [yY,Bool.and_eq_true] at h1
        simp only [ir,Bool.and_eq_true] at h2
        obtain ⟨⟨⟨k1,k2⟩,k3⟩,k4⟩:=h2
        simp only [Ty.sz] at h4
        obtain ⟨y2,g1,g2⟩:=ihf n b (off+a.sz) h1.2 k4 (fun f' hf'=>h3 f' (List.mem_cons_of_mem _ hf')) Ky
        obtain ⟨z,hz⟩:=h3 f List.mem_cons_self
        have hsz:T.P.cellsOf f.type=a.sz:=by
         unfold ya at k3
         split at k3
         ·rename_i inf hi
          simp only [Program.cellsOf,hi,Option.map_some,Option.getD_some,beq_true k3]
         cases k3
        rw [hsz,beq_true k1] at hz
        obtain ⟨y1,g3,g4⟩:=ih n f.type a _ _ h1.1 hz
        refine ⟨(y1,y2),⟨g3,g1⟩,?_⟩
        have e1:cs.drop off=(cs.drop off).take a.sz++cs.drop (off+a.sz):=by
         rw [<- List.drop_drop,List.take_append_drop]
        rw [e1]
        exact DE g4 g2
       | _=>cases h2
    obtain ⟨y,g1,g2⟩:=key fs.toList n (.pair a b) 0 hd1 hf (fun f hf'=>by
     obtain ⟨i,hi⟩:=List.getElem?_of_mem hf'
     rw [Array.getElem?_toList] at hi
     have:=hall i f hi
     rw [this,List.getElem?_eq_getElem (by rw [hxs];exact (Array.getElem?_eq_some_iff.1 hi).1)]
     exact ⟨_,rfl⟩) (by rw [hlen,Nat.zero_add];exact (ty_sz hT hty).symm)
    exact ⟨y,g1,g2⟩
theorem zc (hT:cy T=true) {base' n:Nat} {t:TypeId} {c:Ty} {v:Value} {d:DataW H} {ps:List MemPlace} (hd:deep T n t c=true) (hty:find T.ty t=some c) (hok:Value.okWide T.P w .any base' t v) (h:DataW.Trod enc T.P w base spare held t v d ps):∃ y:c.den,wE c y/\cA w (.of fun b=>b<w.heap.size) nr nl v (c.pv y):=by
 obtain ⟨fuel,h⟩:=h
 obtain ⟨y,h1,h2⟩:=Gz hT fuel n t c _ _ hd h
 refine ⟨y,h1,?_⟩
 have hM:=fy hT hty
 obtain ⟨ds,hu,hdd⟩:=hM.Gg
 cases hag:c.mF with
 | true =>
  obtain ⟨fs,rfl⟩:=ug hdd (by cases c<;>first | rfl | (cases hag;done) | (cases n<;>simp [deep] at hd))
  obtain ⟨cs,rfl,_⟩:=okWide_struct hu hok
  rw [nT hag]
  refine .ag (by simpa [Value.cells] using h2.1) (fun i hi=>?_)
  have:=h2.2 i hi
  simpa [Value.cells,Array.getD_eq_getD_getElem?,List.getD_eq_getElem?_getD] using this
 | false =>
  obtain ⟨cc,g1,g2⟩:=pM hag y
  rw [g1] at h2
  rw [g2]
  have hv:v.cells = #[v]:=by
   cases c with
   | int k=>obtain ⟨m,rfl⟩:=okWide_int hM.int hok;rfl
   | bool=>obtain ⟨m,rfl⟩:=okWide_bool hM.bool hok;rfl
   | str=>obtain ⟨m,rfl⟩:=okWide_string hM.str hok;rfl
   | list e=>obtain ⟨e',hu'⟩:=hM.list;obtain ⟨a,len,cap,rfl⟩:=okWide_slice hu' hok;rfl
   | fn =>
    cases n with
    | zero=>cases hd
    | succ n=>simp [deep] at hd
   | _=>cases hag
  have:=h2.2 0 Kz
  rw [hv] at this
  exact .cv (by simpa using this)
end
end Go.Proofs.YtfbgaddecbiimaaGreatDoor.E
end
section
namespace Go.Proofs.YtfbgaddecbiimaaGreatDoor.E
open Go.RowKit Go.Proofs.YtfbgaddecbiimaaGreatDoorW.PrintWords Go.Proofs.YtfbgaddecbiimaaGreatDoorW.PrintMore Go.Proofs.YtfbgaddecbiimaaGreatDoor.V
def sub:Code->List Nat->Code
 | c,[]=>c
 | .seq a b,n :: p=>match n with
  | 0=>sub a p
  | _=>sub b p
 | .cond _ a b,n :: p=>match n with
  | 0=>sub a p
  | _=>sub b p
 | .block _ c,_ :: p=>sub c p
 | .loop c,_ :: p=>sub c p
 | .scope c,_ :: p=>sub c p
 | c,_=>c
def Bf (T:fW) (F nt:Nat) (call:(g:Nat)->List cI->Option (T.out g).den) (n:Nat) {β:Type}:Code->List Nat->List Nat->(Exit->ES->Option β)->(Exit->ES->Option β)
 | _,[],_,K=>K
 | .seq a b,m :: p,ns,K=>match m with
  | 0=>Bf T F nt call n a p ns fun e S'=>match e with
   | .normal=>code T F nt call n b (k7 T F (FX b) S') K
   | e=>K e S'
  | _=>Bf T F nt call n b p ns K
 | .cond _ a b,m :: p,ns,K=>match m with
  | 0=>Bf T F nt call n a p ns K
  | _=>Bf T F nt call n b p ns K
 | .block i c,_ :: p,ns,K=>Bf T F nt call n c p ns fun e S'=>match e with
  | .exit j=>match Nat.beq j i with
   | true=>K .normal S'
   | false=>K (.exit j) S'
  | e=>K e S'
 | .scope c,_ :: p,ns,K=>Bf T F nt call n c p ns fun e S'=>match e with
  | .goto _=>none
  | e=>K e S'
 | .loop c,_ :: p,m :: ns,K=>Bf T F nt call n c p ns fun e S'=>match e with
  | .normal=>Bb (k7 T F (FX c)) (fun S K=>code T F nt call n c S K) m (k7 T F (FX c) S') K
  | e=>K e S'
 | _,_,_,K=>K
def fin (T:fW) (F:Nat) (rs:List ResultVar) (ln:Option (TypeId×Ty)):Exit->ES->Option (T.out F).den:=match ln with
 | none=>fun e S=>match e with
  | .ret=>qM T (gk S rs) (T.cF F) (T.out F) rs
  | .normal=>qM T (gk S rs) (T.cF F) (T.out F) rs
  | _=>none
 | some (te,.unit)=>fun e S=>match e with
  | .ret=>mJ te S rs (T.out F)
  | .normal=>mJ te S rs (T.out F)
  | _=>none
 | some (te,c0)=>fun e S=>match e with
  | .ret=>mI T (T.cF F) te c0 rs (gk S rs) (T.out F)
  | .normal=>mI T (T.cF F) te c0 rs (gk S rs) (T.out F)
  | _=>none
def Ix (f:Func):Code:=match f.body with
 | some c=>c
 | none=>.skip
def rG (T:fW) (dQ:List (Nat×mZ T)) (k F:Nat) (f:Func) (ln:Option (TypeId×Ty)) (p:List Nat) (m:Nat) (ns:List Nat) (S:ES):Option (T.out F).den:=match sub (Ix f) p with
 | .loop c=>Bb (k7 T F (FX c)) (fun S K=>code T F f.ntmps (fn T dQ k) k c S K) m S (Bf T F f.ntmps (fn T dQ k) k (Ix f) p ns (fin T F f.results.toList ln))
 | _=>none
section
variable {T:fW}
def orc0 (ct:Ty) (f:Nat->Option ct.den):mZ T:=⟨ct,fun _ k vs=>match vs with
 | []=>f k
 | _=>none⟩
def yA (c0 ct:Ty) (f:Nat->c0.den->Option ct.den):mZ T:=⟨ct,fun _ k vs=>match vs with
 | [x0]=>match coe c0 x0 with
  | some a0=>f k a0
  | none=>none
 | _=>none⟩
def nf (c0 c1 ct:Ty) (f:Nat->c0.den->c1.den->Option ct.den):mZ T:=⟨ct,fun _ k vs=>match vs with
 | [x0,x1]=>match coe c0 x0,coe c1 x1 with
  | some a0,some a1=>f k a0 a1
  | _,_=>none
 | _=>none⟩
def orc3 (c0 c1 c2 ct:Ty) (f:Nat->c0.den->c1.den->c2.den->Option ct.den):mZ T:=⟨ct,fun _ k vs=>match vs with
 | [x0,x1,x2]=>match coe c0 x0,coe c1 x1,coe c2 x2 with
  | some a0,some a1,some a2=>f k a0 a1 a2
  | _,_,_=>none
 | _=>none⟩
structure cX (T:fW) (x:Nat×mZ T):Prop where
 bX:sB T x.1 = .no
 callee:fI T.P x.1
 low:real x.1=x.1
 fn:∀ call k vs r,iz T call->x.2.g call k vs=some r->∃ p,(pb (T.cF x.1) x.2.t r).pv=some p/\V.Fn T.P x.1 (vs.map lZ) p
theorem Hu {dQ:List (Nat×mZ T)} (h:∀ x∈dQ,cX T x) (hh:zk T:=by intro _ _ _ _ _ h;cases h):I4 T dQ :=
 ⟨fun g o call k vs r h1 h2 h3 h4=>⟨(h _ (gE h1)).callee,(h _ (gE h1)).fn call k vs r h3 h4⟩,
  fun g o h1=>(h _ (gE h1)).low,
  fun g h1=>by
   cases h2:find dQ g with
   | none=>rfl
   | some o=>exact absurd (h _ (gE h2)).bX h1,hh⟩
theorem gN {c:Ty} {v:cI} {x:c.den} (h:coe c v=some x):lZ v=c.pv x:=by simp only [lZ,fb h,Option.getD_some]
theorem ji {g:Nat} {c0 ct:Ty} {f:Nat->c0.den->Option ct.den} (hl:sB T g = .no) (hc:fI T.P g) (hf:∀ k a0 r,f k a0=some r->∃ p,(pb (T.cF g) ct r).pv=some p/\V.Fn T.P g [c0.pv a0] p) (hr:real g=g:=by rfl):cX T (g,yA c0 ct f) :=
 ⟨hl,hc,hr,fun call k vs r _ h=>by
  simp only [yA] at h
  split at h
  ·split at h
   ·rename_i x0 a0 h0
    simp only [List.map_cons,List.map_nil,gN h0]
    exact hf k a0 r h
   cases h
  cases h⟩
theorem dX {g:Nat} {c0 c1 ct:Ty} {f:Nat->c0.den->c1.den->Option ct.den} (hl:sB T g = .no) (hc:fI T.P g) (hf:∀ k a0 a1 r,f k a0 a1=some r->∃ p,(pb (T.cF g) ct r).pv=some p/\V.Fn T.P g [c0.pv a0,c1.pv a1] p) (hr:real g=g:=by rfl):cX T (g,nf c0 c1 ct f) :=
 ⟨hl,hc,hr,fun call k vs r _ h=>by
  simp only [nf] at h
  split at h
  ·split at h
   ·rename_i x0 x1 _ _ a0 a1 h0 h1
    simp only [List.map_cons,List.map_nil,gN h0,gN h1]
    exact hf k a0 a1 r h
   cases h
  cases h⟩
theorem FA {g:Nat} {c0 c1 c2 ct:Ty} {f:Nat->c0.den->c1.den->c2.den->Option ct.den} (hl:sB T g = .no) (hc:fI T.P g) (hf:∀ k a0 a1 a2 r,f k a0 a1 a2=some r->∃ p,(pb (T.cF g) ct r).pv=some p/\V.Fn T.P g [c0.pv a0,c1.pv a1,c2.pv a2] p) (hr:real g=g:=by rfl):cX T (g,orc3 c0 c1 c2 ct f) :=
 ⟨hl,hc,hr,fun call k vs r _ h=>by
  simp only [orc3] at h
  split at h
  ·split at h
   ·rename_i x0 x1 x2 _ _ _ a0 a1 a2 h0 h1 h2
    simp only [List.map_cons,List.map_nil,gN h0,gN h1,gN h2]
    exact hf k a0 a1 a2 r h
   cases h
  cases h⟩
theorem H6 (k:IntKind) (l:List Int):l.flatMap (Ty.enc (.int k))=V.ints k l:=by
 induction l with
 | nil=>rfl
 | cons x l ih=>rw [List.flatMap_cons,ih];rfl
theorem dU (k:IntKind) (l:List Int):PV.ints k l=(Ty.list (.int k)).pv l:=congrArg (fun z=>PV.cv (.row l.length z)) (H6 k l).symm
end
end Go.Proofs.YtfbgaddecbiimaaGreatDoor.E
end
section
namespace Go.Proofs.YtfbgaddecbiimaaGreatDoor.E
open Go.RowKit Go.Proofs.YtfbgaddecbiimaaGreatDoor.V
def cR:List Int->List Int->Int
 | [],_=>0
 | _ :: _,[]=>0
 | x :: l,y :: m=>if x=y then cR l m else if x<y then -1 else 1
abbrev jJ:Ty:=.pair (.list (.int .i64)) (.pair (.pair .bool (.pair (.list (.int .u32)) (.pair (.list (.int .u32)) .unit))) .unit)
def Dw (x:jJ.den):List jJ.den->List jJ.den
 | []=>[x]
 | y :: l=>match decide (cR y.1 x.1>0) with
  | true=>y :: Dw x l
  | false=>x :: y :: l
def gQ:List jJ.den->List jJ.den
 | []=>[]
 | x :: l=>Dw x (gQ l)
def FY (x:jJ.den):List jJ.den->Bool
 | []=>true
 | y :: l=>match Nat.beq x.1.length y.1.length with
  | true=>match decide (x.1=y.1) with
   | true=>false
   | false=>FY x l
  | false=>false
def JJ:List jJ.den->Bool
 | []=>true
 | x :: l=>match FY x l with
  | true=>JJ l
  | false=>false
def zP (l:List jJ.den):Option (List jJ.den):=match JJ l,Nat.ble l.length 1000000000,Nat.ble (l.headD (Ty.zero jJ)).1.length 1000000000 with
 | true,true,true=>some (gQ l)
 | _,_,_=>none
def free (S:ES):List Nat->Bool
 | []=>true
 | d :: l=>match find S.env d with
  | none=>free S l
  | some _=>false
def Cr (ts tb fs fc:Nat):List Oper->Option (Nat×List Nat)
 | [o1,o2,o3,o4,o5]=>match o5.op,o1.dst,o2.dst,o3.dst,o4.dst with
  | .call c,some d1,some d2,some d3,some d4=>match c.callee,c.args.toList,o1.op,o2.op,o3.op,o4.op,o1.guard,o2.guard,o3.guard,o4.guard,o5.guard with
   | .value (.func g),[.tmp b3,.tmp b4],.fieldAddr t1 (.tmp a) 1,.load t2 (.tmp b1),.makeInterface t3 (.tmp b2),.makeFunc (.func g2) xs ys,none,none,none,none,none=>match xs.toList,ys.toList with
    | [],[.tmp a2]=>match Nat.beq g fs&&(Nat.beq b3 d3&&(Nat.beq b4 d4&&(Nat.beq t1 tb&&(Nat.beq t2 ts&&(Nat.beq t3 ts&&(Nat.beq b1 d1&&(Nat.beq b2 d2&&(Nat.beq g2 fc&&Nat.beq a2 a)))))))),Nat.beq d3 d4,o5.dst with
     | true,false,some d5=>some (a,[d1,d2,d3,d4,d5])
     | _,_,_=>none
    | _,_=>none
   | _,_,_,_,_,_,_,_,_,_,_=>none
  | _,_,_,_,_=>none
 | _=>none
def uB (ts tb te fs fc:Nat) (ops:List Oper) (draw:Bool) (S:ES):Option Hk:=match draw,Cr ts tb fs fc ops with
 | false,some (a,ds)=>match find S.env a,free S ds with
  | some (.po bo 0 []),true=>match find S.rows bo,Nat.ble opened bo with
   | some (.obox e [.v (.int .i64) n,.own k]),true=>match find S.rows k,Nat.beq e tb,Nat.beq bo k with
    | some (.arr e2 c l),true,false=>match Nat.beq e2 te,e9 (a:=.list c) (.list jJ) l with
     | true,some l2=>some ⟨.list jJ,zP l2,fun m=>⟨S.env,(k,.arr e2 jJ m) :: S.rows⟩⟩
     | _,_=>none
    | _,_,_=>none
   | _,_=>none
  | _,_=>none
 | _,_=>none
def HN (tm ts:Nat):List Oper->Option ((Nat×Nat×Nat)×List Nat)
 | [o1,o2,o3,o4,o5]=>match o4.op,o5.op,o1.dst,o2.dst,o3.dst,o4.dst,o5.dst with
  | .call c,.mapUpdate t (.tmp b1) (.tmp b2) (.tmp b4),some d1,some d2,some d3,some d4,none=>match c.callee,c.args.toList,c.argTypes.toList,o1.op,o2.op,o3.op,o1.guard,o2.guard,o3.guard,o4.guard,o5.guard with
   | .builtin .len,[.tmp b3],[t3],.move (.tmp x),.move (.tmp y),.move (.tmp z),none,none,none,none,none=>match Nat.beq t tm&&(Nat.beq t3 ts&&(Nat.beq b1 d1&&(Nat.beq b2 d2&&(Nat.beq b3 d3&&Nat.beq b4 d4)))),Nat.beq d1 d2||(Nat.beq d1 d3||(Nat.beq d1 d4||(Nat.beq d2 d3||(Nat.beq d2 d4||Nat.beq d3 d4)))) with
    | true,false=>some ((x,y,z),[d1,d2,d3,d4])
    | _,_=>none
   | _,_,_,_,_,_,_,_,_,_,_=>none
  | _,_,_,_,_,_,_=>none
 | _=>none
def yJ (tm ts:Nat) (ops:List Oper) (draw:Bool) (S:ES):Option Hk:=match draw,HN tm ts ops with
 | false,some ((x,y,z),ds)=>match find S.env x,find S.env y,find S.env z,free S ds with
  | some (.mp l),some (.v .str s),some (.own k),true=>match find S.rows k with
   | some (.arr e c r)=>some ⟨.unit,some (),fun _=>⟨(x,.mp (V.j7 l s r.length)) :: pf El S.env,S.rows⟩⟩
   | _=>none
  | _,_,_,_=>none
 | _,_=>none
def H7 (ts tb te fs fc tm:Nat) (ops:List Oper) (draw:Bool) (S:ES):Option Hk:=match uB ts tb te fs fc ops draw S with
 | some h=>some h
 | none=>yJ tm ts ops draw S
end Go.Proofs.YtfbgaddecbiimaaGreatDoor.E
end
section
namespace Go.Proofs.YtfbgaddecbiimaaGreatDoor.E
open Go.RowKit
abbrev cH:Ty:=(.pair .fn (.pair .fn .unit))
abbrev fV:Ty:=(.pair .str (.pair (.int .u64) .unit))
abbrev an:Ty:=(.pair .bool (.pair (.list (.int .i64)) (.pair (.list (.int .i64)) .unit)))
abbrev aj:Ty:=(.pair .bool (.pair (.list (.int .u32)) (.pair (.list (.int .u32)) .unit)))
abbrev jc:Ty:=(.pair (.int .i64) (.pair (.int .i64) (.pair .bool (.pair (.int .u8) .unit))))
abbrev ah:Ty:=(.pair (.list (.int .i64)) (.pair aj .unit))
abbrev ak:Ty:=(.pair (.arr 8 (.int .i64)) (.pair an .unit))
abbrev af:Ty:=(.pair (.int .i64) (.pair (.list ah) .unit))
def tyTab:List (Nat×Ty):=[(1,.fn),(2,(.int .i64)),(3,(.int .i64)),(4,.bool),(5,(.int .u8)),(6,(.int .u8)),(7,jc),(8,jc),(9,.str),(10,.str),(11,.str),(12,(.int .u64)),(13,fV),(14,fV),(21,(.int .i32)),(22,(.list ah)),(23,af),(24,af),(25,.fn),(26,.fn),(27,(.int .i64)),(29,.fn),(30,.fn),(31,.fn),(32,(.list (.int .u8))),(34,.fn),(36,.fn),(37,.fn),(38,(.list ak)),(39,(.list ak)),(40,.fn),(41,.fn),(42,.fn),(43,.fn),(44,.fn),(45,.fn),(46,.fn),(47,(.arr 8 (.int .i64))),(48,(.list (.int .i64))),(49,(.list (.int .i64))),(50,an),(51,an),(52,ak),(53,ak),(54,.fn),(55,.fn),(56,.fn),(57,(.list aj)),(58,(.list an)),(59,(.list (.int .u32))),(60,aj),(61,aj),(62,.fn),(63,.fn),(65,.fn),(66,.fn),(67,.fn),(68,.fn),(69,.fn),(71,.fn),(72,.fn),(73,.fn),(74,.fn),(75,.fn),(76,.fn),(77,.fn),(78,.fn),(79,.fn),(80,.fn),(81,.fn),(83,.fn),(84,.fn),(85,.fn),(86,.fn),(87,.fn),(88,.fn),(90,.fn),(91,.fn),(92,.fn),(93,.fn),(94,(.list .str)),(95,ah),(96,ah),(97,.fn),(98,.fn),(99,.fn),(100,.fn),(101,.fn),(102,.fn),(103,.fn),(104,.fn),(105,.fn),(106,.fn),(107,.fn),(108,.fn),(109,.fn),(110,.fn),(111,.fn),(112,.fn),(113,.fn),(114,.fn),(115,.fn),(116,.fn),(117,.fn),(118,.fn),(119,.fn),(120,.fn),(121,.fn),(122,.fn),(123,.fn),(124,.fn),(125,.fn),(126,.fn),(127,.fn),(128,.fn),(129,.fn),(130,.fn),(131,.fn),(133,.fn),(134,(.list .bool)),(135,.fn),(136,.fn),(137,.fn),(143,.fn),(144,.fn),(146,.fn),(147,.fn),(148,.fn),(149,.fn),(150,.fn),(151,(.int .u32)),(152,.fn),(153,.fn),(154,.fn),(155,.fn),(156,(.int .u64)),(157,.fn),(159,.fn),(160,.fn),(161,.fn),(162,.fn),(163,.fn),(164,.fn),(166,.fn),(167,.fn),(168,.fn),(169,.fn),(170,.fn),(172,.fn),(173,(.list (.int .u64))),(174,.fn),(175,(.int .u64)),(177,.fn),(179,.fn),(180,.fn),(182,.fn),(184,.fn),(185,.fn),(187,.fn),(188,.fn),(190,.fn),(192,.fn),(193,.fn),(194,.fn),(195,.fn),(196,.fn),(197,(.arr 24 (.int .u8))),(199,.fn),(201,.fn),(202,.fn),(208,.fn),(211,(.arr 20 (.int .u64))),(212,(.arr 65 (.int .u8))),(213,.fn),(214,.fn),(215,(.int .u64)),(218,.fn),(219,.fn),(220,.fn),(221,.fn),(222,.fn),(223,cH),(224,cH),(229,(.int .i64)),(235,(.arr 32 (.int .u8))),(236,(.arr 64 (.int .u8))),(237,(.int .u64))]
def elTab:List (Nat×Nat):=[(22,96),(32,5),(38,53),(39,53),(48,3),(49,3),(57,61),(58,51),(59,151),(94,9),(134,4),(173,175)]
def byTab:List (Nat×Nat):=[(3,8),(4,1),(5,1),(9,16),(51,56),(53,120),(61,56),(96,80),(151,4),(175,8)]
abbrev K0:=false
abbrev K8:=true
def parTab:List (Nat×List Ty):=[(6,[af,af,(.list aj)]),(12,[]),(13,[af,af]),(14,[af]),(17,[af]),(18,[af,af]),(22,[af]),(23,[af,(.int .i64),(.int .i64),(.int .i64)]),(25,[(.list ak)]),(27,[]),(29,[aj]),(30,[aj]),(31,[af,(.list aj)]),(32,[aj]),(33,[af,af]),(34,[aj,an]),(35,[(.list ak),(.list an)]),(36,[an,an]),(37,[an,an]),(39,[(.int .i64),aj]),(44,[(.int .i64),(.int .i64)]),(62,[af]),(63,[an]),(65,[af]),(66,[aj]),(67,[(.int .i64)]),(68,[(.list .str),.str]),(70,[aj,(.int .i64)]),(71,[aj]),(72,[(.list (.int .i64)),(.list (.int .i64))]),(73,[aj,(.int .i64)]),(74,[af,af]),(75,[af,af]),(78,[aj,(.int .i64)]),(80,[(.arr 8 (.int .i64))]),(83,[aj]),(84,[(.list (.int .u32))]),(85,[aj]),(86,[af,(.list aj)]),(87,[(.list ah),(.list ah),.fn,.fn]),(88,[ah,ah]),(89,[ah,ah]),(90,[aj,aj]),(91,[af]),(92,[aj,aj]),(93,[]),(94,[an,(.int .i64)]),(95,[(.list (.int .i64)),(.list (.int .i64))]),(96,[.bool,(.list (.int .i64)),(.list (.int .i64))]),(97,[(.list (.int .i64)),(.list (.int .i64))]),(98,[(.list (.int .i64)),(.list (.int .i64))]),(99,[(.list (.int .i64)),(.list (.int .i64))]),(100,[af]),(101,[aj]),(102,[(.int .i64),aj]),(107,[(.int .i64),(.int .i64)]),(111,[(.int .i64)]),(112,[]),(117,[(.arr 8 (.int .i64)),(.arr 8 (.int .i64))]),(118,[(.list (.int .i64))]),(119,[(.int .i64)]),(121,[(.list (.int .u32))]),(123,[aj]),(125,[(.int .i64)]),(128,[(.list (.int .u32)),(.int .i64)]),(129,[(.list (.int .u32)),(.list (.int .u32))]),(130,[af,af]),(132,[(.list (.int .u32))]),(133,[(.list (.int .i64)),(.list (.int .i64))]),(134,[(.list (.int .i64)),(.int .i64),(.int .i64)]),(135,[]),(136,[aj,aj]),(137,[aj,(.int .i64)]),(138,[(.list (.int .u32)),(.list (.int .u32))]),(139,[(.list (.int .u32)),(.list (.int .u32))]),(140,[.bool,(.list (.int .u32)),(.list (.int .u32))]),(141,[(.list (.int .u32)),(.list (.int .u32))]),(142,[(.list (.int .u32)),(.list (.int .u32))]),(143,[af]),(144,[(.list (.int .u32)),(.list (.int .u32))]),(145,[(.list (.int .i64)),(.int .i64)]),(146,[(.list (.int .i64))]),(147,[(.list (.int .i64)),(.list (.int .i64))]),(148,[(.list (.int .i64))]),(149,[(.list (.int .i64))]),(150,[aj]),(151,[(.int .i64)]),(155,[af,ah]),(156,[(.list (.int .i64)),(.int .i64)]),(158,[(.list (.int .u32))]),(159,[(.int .u64)]),(160,[(.list (.int .u32)),(.list (.int .u32))]),(161,[(.list (.int .u32))]),(162,[(.int .u64),(.int .i64)]),(163,[aj]),(164,[(.int .i64),(.int .i64)]),(166,[(.list (.int .u32)),(.list (.int .u32))]),(167,[(.int .i64),(.list ah)]),(168,[(.list (.int .i64))]),(169,[(.list (.int .u32))]),(170,[(.list (.int .i64)),(.list (.int .i64))]),(173,[(.list (.int .u32)),(.int .u32)]),(174,[(.int .u32)]),(175,[(.list (.int .u32)),(.int .i64)]),(176,[(.list (.int .u32)),(.list (.int .u32)),(.int .u64)]),(177,[(.list (.int .u32)),(.list (.int .u32))]),(178,[(.list (.int .u32)),(.int .i64)]),(179,[(.int .i64)]),(180,[(.int .u64)]),(181,[(.list (.int .u8)),(.int .u64)]),(182,[(.list (.int .u8)),(.int .u64),(.int .i64),.bool,.bool]),(183,[(.int .i64)]),(184,[(.list (.int .u32))]),(185,[(.list (.int .u32)),(.list (.int .u32)),(.int .i64),(.int .i64)]),(186,[(.list (.int .i64))]),(188,[(.int .i64),(.int .i64)]),(190,[(.int .u32)]),(191,[(.int .i64)]),(192,[(.int .u64)]),(193,[.bool]),(194,[(.int .i64)]),(195,[(.int .u64)]),(199,[(.int .u64)]),(200,[cH,(.int .i64),(.int .i64),(.int .i64)]),(201,[(.int .u32)]),(202,[(.int .u64)]),(212,[cH,(.int .i64),(.int .i64)]),(213,[cH,(.int .i64),(.int .i64)]),(214,[cH,(.int .i64),(.int .i64)]),(215,[cH,(.int .i64),(.int .i64)]),(216,[cH,(.int .i64),(.int .i64)]),(217,[cH,(.int .i64),(.int .i64)]),(218,[cH,(.int .i64),(.int .i64),(.int .i64)]),(219,[cH,(.int .i64),(.int .i64),(.int .i64)]),(220,[cH,(.int .i64),(.int .i64),(.int .i64)]),(221,[(.int .i64)])]
def outTab:List (Nat×(Bool×Ty)):=[(6,(K0,.bool)),(12,(K0,.bool)),(13,(K0,.bool)),(14,(K8,(.pair .str (.pair (.int .i64) .unit)))),(17,(K0,.bool)),(18,(K8,(.pair af (.pair (.int .i64) .unit)))),(22,(K0,(.list ak))),(23,(K0,.bool)),(25,(K0,(.int .i64))),(27,(K0,an)),(29,(K0,.bool)),(30,(K0,an)),(31,(K8,(.pair aj (.pair (.int .i64) .unit)))),(32,(K0,.bool)),(33,(K8,(.pair af (.pair (.int .i64) .unit)))),(34,(K0,.bool)),(35,(K0,an)),(36,(K0,an)),(37,(K0,an)),(39,(K8,(.pair af (.pair (.int .i64) .unit)))),(44,(K8,(.pair af (.pair (.int .i64) .unit)))),(62,(K0,.bool)),(63,(K0,aj)),(65,(K0,.bool)),(66,(K8,(.pair .str (.pair (.int .i64) .unit)))),(67,(K0,.str)),(68,(K0,.str)),(70,(K0,.bool)),(71,(K0,(.int .i64))),(72,(K0,(.int .i64))),(73,(K0,.bool)),(74,(K0,(.int .i64))),(75,(K8,(.pair af (.pair (.int .i64) .unit)))),(78,(K0,.bool)),(80,(K0,(.int .i64))),(83,(K0,.bool)),(84,(K0,(.list (.int .i64)))),(85,(K0,.bool)),(86,(K0,aj)),(87,(K0,(.list ah))),(88,(K0,(.int .i64))),(89,(K8,(.pair ah (.pair .bool .unit)))),(90,(K0,aj)),(91,(K8,(.pair af (.pair (.int .i64) .unit)))),(92,(K0,.bool)),(93,(K0,an)),(94,(K0,an)),(95,(K0,(.list (.int .i64)))),(96,(K0,an)),(97,(K0,(.list (.int .i64)))),(98,(K0,(.int .i64))),(99,(K0,(.list (.int .i64)))),(100,(K0,(.int .i64))),(101,(K0,.bool)),(102,(K0,af)),(107,(K0,af)),(111,(K0,af)),(112,(K0,aj)),(117,(K0,.bool)),(118,(K0,(.list (.int .u32)))),(119,(K0,(.list (.int .i64)))),(121,(K8,(.pair .str (.pair (.int .i64) .unit)))),(123,(K0,.bool)),(125,(K0,.str)),(128,(K0,.bool)),(129,(K0,(.list (.int .u32)))),(130,(K0,af)),(132,(K0,.bool)),(133,(K0,(.list (.int .i64)))),(134,(K0,(.list (.int .i64)))),(135,(K0,aj)),(136,(K0,aj)),(137,(K0,aj)),(138,(K0,(.int .i64))),(139,(K0,(.list (.int .u32)))),(140,(K0,aj)),(141,(K0,(.list (.int .u32)))),(142,(K0,(.list (.int .u32)))),(143,(K0,af)),(144,(K0,.bool)),(145,(K0,(.list (.int .i64)))),(146,(K0,(.list (.int .i64)))),(147,(K8,(.pair (.list (.int .i64)) (.pair (.list (.int .i64)) .unit)))),(148,(K0,(.list (.int .i64)))),(149,(K0,(.int .i64))),(150,(K0,aj)),(151,(K0,aj)),(155,(K0,af)),(156,(K8,(.pair (.list (.int .i64)) (.pair (.int .i64) .unit)))),(158,(K0,.bool)),(159,(K0,(.list (.int .u32)))),(160,(K8,(.pair (.list (.int .u32)) (.pair (.list (.int .u32)) .unit)))),(161,(K8,(.pair (.int .u64) (.pair .bool .unit)))),(162,(K0,(.list (.int .u8)))),(163,(K0,.bool)),(164,(K0,.str)),(166,(K8,(.pair (.list (.int .u32)) (.pair (.list (.int .u32)) (.pair .bool .unit))))),(167,(K0,af)),(168,(K8,(.pair (.int .i64) (.pair .bool .unit)))),(169,(K0,(.list (.int .u32)))),(170,(K0,(.int .i64))),(173,(K8,(.pair (.list (.int .u32)) (.pair (.int .u32) .unit)))),(174,(K0,(.int .i64))),(175,(K0,(.list (.int .u32)))),(176,(K0,.bool)),(177,(K8,.unit)),(178,(K0,(.list (.int .u32)))),(179,(K0,.str)),(180,(K0,(.int .i64))),(181,(K8,.unit)),(182,(K8,(.pair (.list (.int .u8)) (.pair .str .unit)))),(183,(K0,(.list (.int .u8)))),(184,(K0,(.int .i64))),(185,(K0,(.list (.int .u32)))),(186,(K0,.str)),(188,(K0,.bool)),(190,(K0,(.int .i64))),(191,(K0,(.int .i64))),(192,(K0,(.int .i64))),(193,(K0,(.int .i64))),(194,(K0,.bool)),(195,(K0,(.int .i64))),(199,(K0,(.int .i64))),(200,(K8,.unit)),(201,(K0,(.int .i64))),(202,(K0,(.int .i64))),(212,(K8,.unit)),(213,(K8,.unit)),(214,(K8,.unit)),(215,(K8,(.pair (.int .i64) (.pair (.int .i64) .unit)))),(216,(K8,.unit)),(217,(K0,.bool)),(218,(K0,(.int .i64))),(219,(K8,(.pair (.int .i64) (.pair .bool .unit)))),(220,(K8,.unit)),(221,(K0,(.int .u64)))]
def ownTab:List (Nat×List Nat):=[(6,[7,42,46]),(14,[4,58,61]),(22,[3,18,25]),(87,[9,41,44,52,57,63,68,71,73]),(95,[5,18,45,69]),(97,[5,44,48]),(99,[5,10,36]),(107,[13]),(118,[3,6,17,20,47,50]),(119,[3,4,7,11]),(121,[4,10,34,37,45,61,63]),(130,[5,15,20,28,3000000005]),(134,[7,13,25,29,35,39]),(139,[5,24,54,64]),(141,[5,19,42,50]),(142,[5,12,35]),(143,[8,17,20,29,2000003,6000008]),(147,[12,56,75]),(148,[5]),(155,[8,12,22,28,44,53,2000005,6000012]),(156,[6,11,26]),(160,[4,6,33,35,64,156,162]),(162,[5,16,22,35,37]),(167,[6,37,40,41,55,67,70,2000012,6000055]),(173,[6,11,27]),(175,[7,24,36,46]),(176,[0,37,57]),(177,[0,24,32]),(178,[7,23,54]),(181,[0,42,45,55,58,68,71,81,84,110,113,123,126,145,148,162]),(182,[0,95]),(186,[3,9,16,29])]
def liveTab:List (Nat×List (Nat×List (Nat×Bool×TypeId))):=[(6,[(7,[(2,K0,57),(3,K0,0),(4,K0,0),(7,K8,58),(33,K0,57),(34,K0,3),(35,K0,3)])]),(14,[(7,[(4,K8,94),(17,K0,22),(18,K0,3),(19,K0,3)]),(11,[(4,K8,94),(7,K0,9),(17,K0,22),(18,K0,3),(19,K0,3),(30,K0,48),(31,K0,3),(32,K0,3)]),(17,[(4,K8,94),(7,K0,9),(17,K0,22),(18,K0,3),(19,K0,3),(30,K0,48),(31,K0,3),(32,K0,3)])]),(17,[(4,[(1,K0,0),(23,K0,22),(24,K0,3),(25,K0,3)]),(10,[(1,K0,0),(3,K0,3),(4,K0,0),(5,K0,3),(23,K0,22),(24,K0,3),(25,K0,3),(49,K0,48),(50,K0,3),(51,K0,3)])]),(22,[(3,[(3,K8,39),(8,K0,22),(9,K0,3),(10,K0,3)])]),(23,[(4,[(2,K0,3),(3,K0,3),(4,K0,0),(27,K0,22),(28,K0,3),(29,K0,3)])]),(25,[(3,[(3,K0,3),(6,K0,39),(7,K0,3),(8,K0,3)])]),(31,[(3,[(1,K0,57),(2,K0,0),(4,K0,0),(6,K0,4),(12,K0,57),(13,K0,3),(14,K0,3)])]),(35,[(3,[(1,K0,58),(4,K0,0),(5,K0,0),(12,K0,39),(13,K0,3),(14,K0,3)]),(7,[(1,K0,58),(4,K0,0),(5,K0,0),(8,K0,0),(12,K0,39),(13,K0,3),(14,K0,3),(21,K0,47),(22,K0,3)]),(13,[(1,K0,58),(4,K0,0),(5,K0,0),(8,K0,0),(12,K0,39),(13,K0,3),(14,K0,3),(21,K0,47),(22,K0,3)])]),(62,[(5,[(1,K0,0),(3,K0,0),(24,K0,22),(25,K0,3),(26,K0,3)]),(11,[(1,K0,0),(3,K0,0),(4,K0,3),(6,K0,0),(24,K0,22),(25,K0,3),(26,K0,3),(57,K0,48),(58,K0,3),(59,K0,3)])]),(66,[(6,[(1,K0,0),(4,K0,0)]),(11,[(4,K0,0)])]),(68,[(10,[(0,K0,94),(1,K0,9),(5,K0,3)]),(11,[(0,K0,94),(1,K0,9),(5,K0,3)]),(12,[(0,K0,94),(1,K0,9),(5,K0,3),(39,K0,94),(40,K0,3),(41,K0,3)]),(16,[(0,K0,94),(1,K0,9),(5,K0,3),(7,K0,9),(39,K0,94),(40,K0,3),(41,K0,3)]),(22,[(1,K0,9),(8,K0,0),(63,K0,94),(64,K0,3),(65,K0,3)])]),(72,[(2,[(1,K0,48),(7,K0,48),(8,K0,3),(9,K0,3)])]),(80,[(3,[(3,K0,3),(6,K0,47),(7,K0,3)])]),(84,[(3,[(0,K0,59),(3,K0,49),(4,K0,3)])]),(86,[(3,[(1,K0,57),(4,K0,0),(5,K0,0),(13,K0,22),(14,K0,3),(15,K0,3)]),(7,[(1,K0,57),(4,K0,0),(5,K0,0),(8,K0,0),(13,K0,22),(14,K0,3),(15,K0,3),(22,K0,48),(23,K0,3),(24,K0,3)]),(11,[(1,K0,57),(4,K0,0),(5,K0,0),(8,K0,0),(13,K0,22),(14,K0,3),(15,K0,3),(22,K0,48),(23,K0,3),(24,K0,3)])]),(87,[(2,[(0,K0,22),(1,K0,22),(2,K0,112),(3,K0,114),(9,K8,22)]),(7,[(0,K0,22),(1,K0,22),(2,K0,112),(3,K0,114),(9,K8,22)])]),(90,[(4,[(2,K0,0),(3,K0,0),(4,K0,0),(5,K0,59),(6,K0,59),(7,K0,59)])]),(95,[(3,[(1,K0,49),(5,K8,49),(19,K0,49),(20,K0,3),(21,K0,3)]),(7,[(1,K0,49),(5,K8,49),(6,K0,3),(7,K0,3),(8,K0,3),(19,K0,49),(20,K0,3),(21,K0,3),(26,K0,49),(27,K0,3),(28,K0,3)]),(14,[(1,K0,49),(5,K8,49),(8,K0,3),(11,K0,3),(19,K0,49),(20,K0,3),(21,K0,3)])]),(97,[(4,[(0,K0,49),(1,K0,49),(5,K8,49),(6,K0,3),(7,K0,3)]),(8,[(0,K0,49),(1,K0,49),(5,K8,49),(6,K0,3),(7,K0,3)]),(10,[(0,K0,49),(1,K0,49),(5,K8,49),(6,K0,3),(7,K0,3)])]),(98,[(6,[(0,K0,49),(1,K0,49),(5,K0,3)])]),(99,[(4,[(1,K0,49),(5,K8,49),(6,K0,3),(12,K0,3),(13,K0,3)]),(9,[(1,K0,49),(5,K8,49),(7,K0,3),(8,K0,3),(12,K0,3),(13,K0,3)]),(13,[(1,K0,49),(5,K8,49),(6,K0,3),(7,K0,3),(8,K0,3),(12,K0,3),(13,K0,3)])]),(100,[(3,[(3,K0,3),(7,K0,22),(8,K0,3),(9,K0,3)])]),(117,[(2,[(2,K0,0),(3,K0,0),(6,K0,3)])]),(118,[(2,[(0,K0,49),(3,K8,48)]),(8,[(3,K8,48),(6,K8,59),(7,K0,3)]),(13,[(3,K8,48),(6,K8,59),(7,K0,3),(8,K0,151)])]),(119,[(2,[(0,K0,3),(3,K8,49)])]),(121,[(7,[(0,K0,59),(4,K8,173),(5,K0,59)]),(14,[(4,K8,173),(10,K8,32),(11,K0,3)])]),(129,[(3,[(0,K0,59),(1,K0,59)]),(14,[(12,K0,175),(14,K0,175)])]),(130,[(3,[(2,K0,0),(3,K0,0),(4,K0,0),(5,K8,22),(9,K0,22),(10,K0,3),(11,K0,3)]),(8,[(2,K0,0),(3,K0,0),(4,K0,0),(5,K8,22),(9,K0,22),(10,K0,3),(11,K0,3)])]),(133,[(1,[(0,K0,49),(1,K0,49)]),(5,[(5,K0,3),(7,K0,3)])]),(134,[(3,[(1,K0,3),(2,K0,3),(7,K8,49),(14,K0,49),(15,K0,3),(16,K0,3)]),(9,[(2,K0,3),(7,K8,49)])]),(137,[(2,[(1,K0,3),(2,K0,0),(4,K0,0),(5,K0,0)]),(3,[(1,K0,3),(2,K0,0),(4,K0,0),(5,K0,0)]),(6,[(1,K0,3),(2,K0,0),(4,K0,0),(5,K0,0)])]),(138,[(6,[(0,K0,59),(1,K0,59),(5,K0,3)])]),(139,[(5,[(1,K0,59),(5,K8,59),(25,K0,59),(26,K0,3),(27,K0,3)]),(9,[(1,K0,59),(5,K8,59),(6,K0,3),(7,K0,151),(8,K0,175),(25,K0,59),(26,K0,3),(27,K0,3),(32,K0,59),(33,K0,3),(34,K0,3)])]),(140,[(7,[(0,K0,4),(1,K0,59),(2,K0,59),(6,K0,0)])]),(141,[(3,[(0,K0,59),(1,K0,59)]),(6,[(0,K0,59),(1,K0,59),(5,K8,59),(6,K0,175),(20,K0,59),(21,K0,3),(22,K0,3)]),(11,[(0,K0,59),(1,K0,59),(5,K8,59),(6,K0,175),(7,K0,3),(20,K0,59),(21,K0,3),(22,K0,3)])]),(142,[(4,[(1,K0,59),(5,K8,59),(6,K0,175),(13,K0,59),(14,K0,3),(15,K0,3)]),(9,[(1,K0,59),(5,K8,59),(7,K0,3),(9,K0,175),(13,K0,59),(14,K0,3),(15,K0,3)])]),(143,[(3,[(1,K0,0),(2,K0,0),(3,K8,0),(10,K0,22),(11,K0,3),(12,K0,3)])]),(144,[(4,[(0,K0,59),(1,K0,59),(12,K0,3),(13,K0,3)])]),(145,[(3,[(0,K0,49),(5,K0,49),(7,K0,3),(8,K0,3)])]),(146,[(2,[(0,K0,49),(3,K0,3)])]),(147,[(13,[(0,K0,49),(1,K0,49),(12,K8,49),(13,K0,49),(14,K0,3)]),(14,[(0,K0,49),(1,K0,49),(12,K8,49),(13,K0,49),(14,K0,3)])]),(149,[(3,[(3,K0,3),(6,K0,48),(7,K0,3),(8,K0,3)])]),(155,[(3,[(2,K0,0),(3,K0,0),(4,K0,0),(5,K8,0),(14,K0,22),(15,K0,3),(16,K0,3)]),(7,[(2,K0,0),(3,K0,0),(4,K0,0),(5,K8,0),(7,K0,0),(8,K8,48),(14,K0,22),(15,K0,3),(16,K0,3),(24,K0,3),(25,K0,3)])]),(156,[(4,[(0,K0,49),(1,K0,3),(6,K8,49),(7,K0,3),(8,K0,3)])]),(160,[(14,[(4,K8,59),(8,K0,3),(9,K0,59),(10,K0,59),(11,K0,3),(12,K0,175),(13,K0,175),(14,K0,3)]),(18,[(4,K8,59),(8,K0,3),(9,K0,59),(10,K0,59),(11,K0,3),(12,K0,175),(13,K0,175),(14,K0,3),(16,K0,175),(17,K0,175)]),(22,[(4,K8,59),(8,K0,3),(9,K0,59),(10,K0,59),(11,K0,3),(12,K0,175),(13,K0,175),(14,K0,3),(16,K0,175)]),(25,[(4,K8,59),(8,K0,3),(9,K0,59),(10,K0,59),(11,K0,3),(12,K0,175),(13,K0,175),(14,K0,3),(16,K0,175)])]),(162,[(2,[(0,K0,175),(1,K0,3),(5,K8,32)]),(6,[(5,K8,32),(6,K0,3),(7,K0,3)])]),(164,[(8,[(0,K0,2),(5,K0,0),(6,K0,175)])]),(166,[(8,[(0,K0,59),(1,K0,59),(12,K0,2),(13,K0,2),(14,K0,2),(15,K0,2),(16,K0,2),(17,K0,2)]),(14,[(0,K0,59),(1,K0,59),(12,K0,2),(13,K0,2),(14,K0,2),(15,K0,2)])]),(167,[(4,[(0,K0,3),(4,K0,0),(5,K0,205),(6,K8,22),(16,K0,22),(17,K0,3),(18,K0,3)]),(12,[(0,K0,3),(4,K0,0),(5,K0,205),(6,K8,22),(16,K0,22),(17,K0,3),(18,K0,3)]),(15,[(4,K0,0),(12,K8,0),(56,K0,22),(57,K0,3),(58,K0,3)]),(19,[(4,K0,0),(12,K8,0),(56,K0,22),(57,K0,3),(58,K0,3)])]),(168,[(5,[(0,K0,49),(4,K0,3),(5,K0,3)])]),(169,[(1,[(0,K0,59)])]),(170,[(4,[(0,K0,49),(1,K0,49),(5,K0,3),(6,K0,3),(7,K0,3),(8,K0,3)]),(5,[(0,K0,49),(1,K0,49),(5,K0,3),(6,K0,3),(7,K0,3),(8,K0,3)]),(10,[(0,K0,49),(1,K0,49),(5,K0,3),(6,K0,3),(7,K0,3),(9,K0,3)]),(15,[(0,K0,49),(1,K0,49),(6,K0,3),(7,K0,3)]),(16,[(0,K0,49),(1,K0,49),(10,K0,3)]),(18,[(0,K0,49),(1,K0,49),(10,K0,3)])]),(173,[(4,[(0,K0,59),(1,K0,151),(6,K8,59),(7,K0,175),(8,K0,3)])]),(175,[(6,[(5,K0,3),(6,K0,156),(7,K8,59),(25,K0,59),(26,K0,3),(27,K0,3)])]),(176,[(3,[(0,K8,59),(1,K0,59),(2,K0,175),(7,K0,175),(8,K0,175),(13,K0,59),(14,K0,3),(15,K0,3)])]),(177,[(2,[(0,K8,59),(1,K0,59),(4,K0,175),(7,K0,59),(8,K0,3),(9,K0,3)])]),(178,[(6,[(0,K0,59),(5,K0,3),(6,K0,156),(7,K8,59),(25,K0,3),(26,K0,3)]),(11,[(0,K0,59),(5,K0,3),(6,K0,156),(7,K8,59),(8,K0,3),(9,K0,175),(25,K0,3),(26,K0,3)])]),(181,[(1,[(0,K8,32),(1,K0,175),(4,K0,3)]),(20,[(0,K8,32),(4,K0,3),(12,K0,151)]),(25,[(0,K8,32),(4,K0,3),(12,K0,151)])]),(182,[(3,[(0,K8,32),(1,K0,175),(2,K0,3),(3,K0,4),(4,K0,4),(10,K0,32),(11,K0,9)]),(7,[(0,K8,32),(1,K0,175),(2,K0,3),(3,K0,4),(4,K0,4),(10,K0,32),(11,K0,9),(12,K0,0),(13,K0,3)]),(11,[(0,K8,32),(1,K0,175),(3,K0,4),(4,K0,4),(10,K0,32),(11,K0,9),(12,K0,0),(13,K0,3),(14,K0,156),(15,K0,175),(16,K0,156)]),(18,[(0,K8,32),(1,K0,175),(3,K0,4),(4,K0,4),(10,K0,32),(11,K0,9),(12,K0,0),(13,K0,3),(17,K0,175)]),(25,[(0,K8,32),(3,K0,4),(4,K0,4),(10,K0,32),(11,K0,9),(12,K0,0),(13,K0,3)]),(28,[(0,K8,32),(4,K0,4),(10,K0,32),(11,K0,9),(12,K0,0),(13,K0,3)])]),(186,[(3,[(3,K8,32),(10,K0,48),(11,K0,3),(12,K0,3)])]),(190,[(4,[(0,K0,151),(2,K0,3)]),(7,[(0,K0,151),(2,K0,3)])]),(192,[(4,[(0,K0,175),(2,K0,3)]),(7,[(0,K0,175),(2,K0,3)]),(10,[(0,K0,175),(2,K0,3)])]),(200,[(3,[(1,K0,3),(2,K0,3),(3,K0,3),(4,K0,0),(8,K0,4),(9,K0,4)]),(11,[(1,K0,3),(2,K0,3),(3,K0,3),(4,K0,0),(8,K0,4),(9,K0,4),(10,K0,3)]),(16,[(1,K0,3),(2,K0,3),(3,K0,3),(4,K0,0),(8,K0,4),(9,K0,4),(10,K0,3),(11,K0,3),(12,K0,229)]),(18,[(1,K0,3),(2,K0,3),(3,K0,3),(4,K0,0),(8,K0,4),(9,K0,4),(10,K0,3),(11,K0,3)])]),(212,[(2,[(1,K0,3),(2,K0,3),(3,K0,0),(6,K0,3)]),(5,[(1,K0,3),(2,K0,3),(3,K0,0),(6,K0,3),(7,K0,3)])]),(213,[(5,[(3,K0,0),(6,K0,3),(7,K0,3),(8,K0,3),(9,K0,3)]),(9,[(3,K0,0),(6,K0,3),(7,K0,3),(10,K0,3)])]),(214,[(6,[(1,K0,3),(3,K0,0),(6,K0,3),(7,K0,0),(8,K0,156),(9,K0,3)]),(11,[(1,K0,3),(3,K0,0),(6,K0,3),(7,K0,0),(8,K0,156),(9,K0,3),(10,K0,3)])]),(215,[(11,[(3,K0,0),(9,K0,0),(10,K0,3),(11,K0,3),(12,K0,3)]),(12,[(9,K0,0),(11,K0,3)])]),(216,[(3,[(3,K0,0),(6,K0,3),(7,K0,3)])]),(217,[(3,[(1,K0,3),(2,K0,3),(3,K0,0),(7,K0,3),(8,K0,3)]),(4,[(1,K0,3),(2,K0,3),(3,K0,0),(7,K0,3),(8,K0,3)]),(5,[(1,K0,3),(2,K0,3),(3,K0,0),(7,K0,3),(8,K0,3)]),(14,[(1,K0,3),(2,K0,3),(3,K0,0),(7,K0,3),(8,K0,3),(9,K0,3)]),(18,[(1,K0,3),(2,K0,3),(3,K0,0),(7,K0,3),(8,K0,3)]),(20,[(1,K0,3),(2,K0,3),(3,K0,0),(7,K0,3),(8,K0,3),(10,K0,3)])]),(218,[(3,[(1,K0,3),(4,K0,0),(9,K0,3),(10,K0,3)]),(5,[(1,K0,3),(4,K0,0),(9,K0,3),(10,K0,3)])]),(219,[(3,[(1,K0,3),(4,K0,0),(10,K0,3),(11,K0,3)]),(5,[(1,K0,3),(4,K0,0),(10,K0,3),(11,K0,3)]),(13,[(1,K0,3),(4,K0,0),(10,K0,3),(11,K0,3)]),(15,[(1,K0,3),(4,K0,0),(10,K0,3),(11,K0,3)])]),(220,[(2,[(2,K0,3),(3,K0,3),(4,K0,0),(8,K0,3)]),(6,[(2,K0,3),(3,K0,3),(4,K0,0),(8,K0,3),(9,K0,3)])])]
def JQ:List (Nat×(Nat×TypeId)):=[]
def arTab:List (Nat×(Nat×Nat)):=[(47,(8,3)),(197,(24,5)),(211,(20,175)),(212,(65,5)),(235,(32,5)),(236,(64,5))]
def mpTab:List Nat:=[205]
def H9:List (Nat×(Nat×TypeId)):=[(77,(0,53))]
noncomputable def T:fW:={ P:=Tryz.prog,ty:=tyTab,el:=elTab,ar:=arTab,mp_:=mpTab,given_:=H9,by_:=byTab,par:=parTab,out_:=outTab,lent_:=JQ,own:=ownTab,live:=liveTab,hook:=H7 22 24 96 187 188 205 }
end Go.Proofs.YtfbgaddecbiimaaGreatDoor.E
end
namespace Go.Proofs.YtfbgaddecbiimaaGreatDoorW
open PrintWords
theorem bB {P : Prop} (h : P := by repeat (first | (with_reducible first | exact HB.out | apply PrintWords.below_alloc | apply PrintWords.pw_below_drewN | apply PrintWords.below_drew1) | exact HB.out)) : P := h
theorem dR {A B : Prop} (h : A) (g : A -> B := by intro h_; (with_reducible repeat (first | apply PrintWords.Kd.R_alloc | apply PrintWords.Kd.R_drewN | apply PrintWords.Kd.R_drew)); exact h_) : B := g h
theorem dV {A B : Prop} (h : A) (g : A -> B := by intro h_; (with_reducible repeat (first | apply PrintWords.Kd.V_alloc | apply PrintWords.Kd.V_drewN | apply PrintWords.Kd.V_drew)); exact h_) : B := g h
theorem dC {A B : Prop} (h : A) (g : A -> B := by intro h_; repeat (first | exact h_ | (with_reducible refine PrintWords.Kd.C_alloc ?_ _) | (with_reducible refine PrintWords.Kd.C_drewN ?_ _) | (with_reducible refine PrintWords.Kd.C_drew ?_))) : B := g h
theorem dQ {P : Prop} (h : P := by first | exact ⟨rfl, _, World.drewN_drewN _ _ _⟩ | exact ⟨rfl, _, Eq.trans (World.drewN_drewN _ _ _) (congrArg (World.drewN _) (Nat.add_assoc _ _ _))⟩) : P := h
theorem aS {P : Prop} (h : P := by first | (with_reducible assumption) | assumption) : P := h
end Go.Proofs.YtfbgaddecbiimaaGreatDoorW
section
namespace Go.Proofs.YtfbgaddecbiimaaGreatDoor.P
open Go.RowKit Go.Proofs.YtfbgaddecbiimaaGreatDoorW.PrintWords Go.Proofs.YtfbgaddecbiimaaGreatDoorW.PrintLast Go.Proofs.YtfbgaddecbiimaaGreatDoorW.PrintMore Go.Proofs.YtfbgaddecbiimaaGreatDoorW
attribute [local go_sem] vc u7 yI yH xt xr AW AU
set_option linter.unusedVariables false
set_option linter.unusedSimpArgs false
structure S61 where
 f0:Bool
 f1:(List Int)
 f2:(List Int)
def z61:S61:=⟨false,([]:List Int),([]:List Int)⟩
structure xL where
 f0:(List Int)
 f1:S61
def z96:xL:=⟨([]:List Int),z61⟩
def eU (xs:List xL) (i:Int):xL:=xs.getD i.toNat z96
end Go.Proofs.YtfbgaddecbiimaaGreatDoor.P
end
section
namespace Go.Proofs.YtfbgaddecbiimaaGreatDoor.P
open Go.RowKit Go.Proofs.YtfbgaddecbiimaaGreatDoorW.PrintWords Go.Proofs.YtfbgaddecbiimaaGreatDoorW.PrintLast Go.Proofs.YtfbgaddecbiimaaGreatDoorW.PrintMore Go.Proofs.YtfbgaddecbiimaaGreatDoorW
attribute [local go_sem] vc u7 yI yH xt xr AW AU
set_option linter.unusedVariables false
set_option linter.unusedSimpArgs false
def iU.f (a0_0:Bool) (l0_1:List Int) (l0_2:List Int) (a1:Int):Option (Bool):=if (l0_1.length:Int)<=a1 then (some (decide ((l0_2.length:Int)<=a1))) else (some false)
def iS.f (a0_0:Bool) (l0_1:List Int) (l0_2:List Int):Option (Int):=if (l0_1.length:Int)=0 then (some 0) else (if a0_0=true then (some (-1)) else (some 1))
def eO.l0:Nat->List Int->List Int->Int->Int->Option (Int)
 | 0,_,_,_,_=>none
 | k+1,x1,x7,x8,x9=>if x9<x8 then (if 0<=x9 then (if x9<(x7.length:Int) then (if x9<(x1.length:Int) then (if (rd x7 x9)=(rd x1 x9) then (eO.l0 k x1 x7 x8 (wrap64 (x9+1))) else (if (rd x7 x9)<(rd x1 x9) then (some (-1)) else (some 1))) else (none)) else (none)) else (none)) else (some 0)
def eO.f (k:Nat) (l0:List Int) (l1:List Int):Option (Int):=eO.l0 k l1 l0 (l0.length:Int) 0
def jj.f (l0:List Int) (a1:Int):Option (Bool):=if (l0.length:Int)<=a1 then (if (l0.length:Int)=0 then (some true) else (if 0<=(wrap64 ((l0.length:Int)-1)) then (if (wrap64 ((l0.length:Int)-1))<(l0.length:Int) then (some ((rd l0 (wrap64 ((l0.length:Int)-1))) != 0)) else (none)) else (none))) else (some false)
def dj.l0:Nat->List Int->List Int->Int->Option (Int)
 | 0,_,_,_=>none
 | k+1,x0,x1,x5=>if x5>=0 then (if 0<=x5 then (if x5<(x0.length:Int) then (if x5<(x1.length:Int) then (if (rd x0 x5)=(rd x1 x5) then (dj.l0 k x0 x1 (wrap64 (x5-1))) else (if (rd x0 x5)<(rd x1 x5) then (some (-1)) else (some 1))) else (none)) else (none)) else (none)) else (some 0)
def dj.f (k:Nat) (l0:List Int) (l1:List Int):Option (Int):=if (l0.length:Int)=(l1.length:Int) then (dj.l0 k l0 l1 (wrap64 ((l0.length:Int)-1))) else (if (l0.length:Int)<(l1.length:Int) then (some (-1)) else (some 1))
def cd.l0:Nat->List Int->Option (List Int)
 | 0,_=>none
 | k+1,x0=>if (x0.length:Int)>0 then (if 0<=(wrap64 ((x0.length:Int)-1)) then (if (wrap64 ((x0.length:Int)-1))<(x0.length:Int) then (if (rd x0 (wrap64 ((x0.length:Int)-1)))=0 then (if (wrap64 ((x0.length:Int)-1))<=(x0.length:Int) then (cd.l0 k (x0.take ((wrap64 ((x0.length:Int)-1)):Int).toNat)) else (none)) else (some x0)) else (none)) else (none)) else (some x0)
def cd.f (k:Nat) (l0:List Int):Option (List Int):=cd.l0 k l0
def cS.f (k:Nat) (a0:Int):Option (List Int):=(cd.f k (([(a0) % 4294967296,(a0 / 4294967296) % 4294967296]:List Int))).bind fun t120=>(some t120)
def dh.l0:Nat->List Int->Int->List Int->Int->Int->Option (List Int×Int)
 | 0,_,_,_,_,_=>none
 | k+1,x0,x1,x6,x7,x8=>if x8>=0 then (if 0<=x8 then (if x8<(x0.length:Int) then (if (IntKind.u64.wrap (x1))=0 then (none) else (if x8<(x6.length:Int) then (dh.l0 k x0 x1 (x6.set (x8:Int).toNat ((IntKind.u64.wrap (Int.tdiv (Go.bits .or .u64 (IntKind.u64.wrap (x7*4294967296)) (IntKind.u64.wrap (rd x0 x8))) (IntKind.u64.wrap (x1)))) % 4294967296)) (Int.tmod (Go.bits .or .u64 (IntKind.u64.wrap (x7*4294967296)) (IntKind.u64.wrap (rd x0 x8))) (IntKind.u64.wrap (x1))) (wrap64 (x8-1))) else (none))) else (none)) else (none)) else ((cd.f k x6).bind fun t128=>(some (t128,(x7) % 4294967296)))
def dh.f (k:Nat) (l0:List Int) (a1:Int):Option (List Int×Int):=if 0<=(l0.length:Int) then (if ((l0.length:Int):Int).toNat<=70368744177664 then (dh.l0 k l0 a1 (List.replicate ((l0.length:Int):Int).toNat 0) 0 (wrap64 ((l0.length:Int)-1))) else (none)) else (none)
def bits_Len32.f (a0:Int):Option (Int):=if a0>=65536 then (if (a0 / 65536)>=256 then (if 0<=(((a0 / 65536) / 256) % 256) then (if (((a0 / 65536) / 256) % 256)<256 then (some (wrap64 ((16+8)+(wrap64 (bt (⟨#[0,1,2,2,3,3,3,3,4,4,4,4,4,4,4,4,5,5,5,5,5,5,5,5,5,5,5,5,5,5,5,5,6,6,6,6,6,6,6,6,6,6,6,6,6,6,6,6,6,6,6,6,6,6,6,6,6,6,6,6,6,6,6,6,7,7,7,7,7,7,7,7,7,7,7,7,7,7,7,7,7,7,7,7,7,7,7,7,7,7,7,7,7,7,7,7,7,7,7,7,7,7,7,7,7,7,7,7,7,7,7,7,7,7,7,7,7,7,7,7,7,7,7,7,7,7,7,7,8,8,8,8,8,8,8,8,8,8,8,8,8,8,8,8,8,8,8,8,8,8,8,8,8,8,8,8,8,8,8,8,8,8,8,8,8,8,8,8,8,8,8,8,8,8,8,8,8,8,8,8,8,8,8,8,8,8,8,8,8,8,8,8,8,8,8,8,8,8,8,8,8,8,8,8,8,8,8,8,8,8,8,8,8,8,8,8,8,8,8,8,8,8,8,8,8,8,8,8,8,8,8,8,8,8,8,8,8,8,8,8,8,8,8,8,8,8,8,8,8,8,8,8,8,8,8,8]⟩:ByteArray) (((a0 / 65536) / 256) % 256)))))) else (none)) else (none)) else (if 0<=((a0 / 65536) % 256) then (if ((a0 / 65536) % 256)<256 then (some (wrap64 (16+(wrap64 (bt (⟨#[0,1,2,2,3,3,3,3,4,4,4,4,4,4,4,4,5,5,5,5,5,5,5,5,5,5,5,5,5,5,5,5,6,6,6,6,6,6,6,6,6,6,6,6,6,6,6,6,6,6,6,6,6,6,6,6,6,6,6,6,6,6,6,6,7,7,7,7,7,7,7,7,7,7,7,7,7,7,7,7,7,7,7,7,7,7,7,7,7,7,7,7,7,7,7,7,7,7,7,7,7,7,7,7,7,7,7,7,7,7,7,7,7,7,7,7,7,7,7,7,7,7,7,7,7,7,7,7,8,8,8,8,8,8,8,8,8,8,8,8,8,8,8,8,8,8,8,8,8,8,8,8,8,8,8,8,8,8,8,8,8,8,8,8,8,8,8,8,8,8,8,8,8,8,8,8,8,8,8,8,8,8,8,8,8,8,8,8,8,8,8,8,8,8,8,8,8,8,8,8,8,8,8,8,8,8,8,8,8,8,8,8,8,8,8,8,8,8,8,8,8,8,8,8,8,8,8,8,8,8,8,8,8,8,8,8,8,8,8,8,8,8,8,8,8,8,8,8,8,8,8,8,8,8,8,8]⟩:ByteArray) ((a0 / 65536) % 256)))))) else (none)) else (none))) else (if a0>=256 then (if 0<=((a0 / 256) % 256) then (if ((a0 / 256) % 256)<256 then (some (wrap64 ((0+8)+(wrap64 (bt (⟨#[0,1,2,2,3,3,3,3,4,4,4,4,4,4,4,4,5,5,5,5,5,5,5,5,5,5,5,5,5,5,5,5,6,6,6,6,6,6,6,6,6,6,6,6,6,6,6,6,6,6,6,6,6,6,6,6,6,6,6,6,6,6,6,6,7,7,7,7,7,7,7,7,7,7,7,7,7,7,7,7,7,7,7,7,7,7,7,7,7,7,7,7,7,7,7,7,7,7,7,7,7,7,7,7,7,7,7,7,7,7,7,7,7,7,7,7,7,7,7,7,7,7,7,7,7,7,7,7,8,8,8,8,8,8,8,8,8,8,8,8,8,8,8,8,8,8,8,8,8,8,8,8,8,8,8,8,8,8,8,8,8,8,8,8,8,8,8,8,8,8,8,8,8,8,8,8,8,8,8,8,8,8,8,8,8,8,8,8,8,8,8,8,8,8,8,8,8,8,8,8,8,8,8,8,8,8,8,8,8,8,8,8,8,8,8,8,8,8,8,8,8,8,8,8,8,8,8,8,8,8,8,8,8,8,8,8,8,8,8,8,8,8,8,8,8,8,8,8,8,8,8,8,8,8,8,8]⟩:ByteArray) ((a0 / 256) % 256)))))) else (none)) else (none)) else (if 0<=((a0) % 256) then (if ((a0) % 256)<256 then (some (wrap64 (0+(wrap64 (bt (⟨#[0,1,2,2,3,3,3,3,4,4,4,4,4,4,4,4,5,5,5,5,5,5,5,5,5,5,5,5,5,5,5,5,6,6,6,6,6,6,6,6,6,6,6,6,6,6,6,6,6,6,6,6,6,6,6,6,6,6,6,6,6,6,6,6,7,7,7,7,7,7,7,7,7,7,7,7,7,7,7,7,7,7,7,7,7,7,7,7,7,7,7,7,7,7,7,7,7,7,7,7,7,7,7,7,7,7,7,7,7,7,7,7,7,7,7,7,7,7,7,7,7,7,7,7,7,7,7,7,8,8,8,8,8,8,8,8,8,8,8,8,8,8,8,8,8,8,8,8,8,8,8,8,8,8,8,8,8,8,8,8,8,8,8,8,8,8,8,8,8,8,8,8,8,8,8,8,8,8,8,8,8,8,8,8,8,8,8,8,8,8,8,8,8,8,8,8,8,8,8,8,8,8,8,8,8,8,8,8,8,8,8,8,8,8,8,8,8,8,8,8,8,8,8,8,8,8,8,8,8,8,8,8,8,8,8,8,8,8,8,8,8,8,8,8,8,8,8,8,8,8,8,8,8,8,8,8]⟩:ByteArray) ((a0) % 256)))))) else (none)) else (none)))
def bits_LeadingZeros32.f (a0:Int):Option (Int):=(bits_Len32.f a0).bind fun t131=>(some (wrap64 (32-t131)))
def eQ.l0:Nat->Int->Int->List Int->List Int->Int->Int->Option (List Int)
 | 0,_,_,_,_,_,_=>none
 | k+1,x5,x6,x7,x25,x26,x27=>if x27<x26 then (if 0<=x27 then (if x27<(x25.length:Int) then (if 0<=x6 then (if 0<=(wrap64 (x27+x5)) then (if (wrap64 (x27+x5))<(x7.length:Int) then (if 0<=(wrap64 ((wrap64 (x27+x5))+1)) then (if (wrap64 ((wrap64 (x27+x5))+1))<(x7.length:Int) then (eQ.l0 k x5 x6 ((x7.set ((wrap64 (x27+x5)):Int).toNat (Go.bits .or .u32 (rd x7 (wrap64 (x27+x5))) ((shl .u64 (IntKind.u64.wrap (rd x25 x27)) x6) % 4294967296))).set ((wrap64 ((wrap64 (x27+x5))+1)):Int).toNat (((shl .u64 (IntKind.u64.wrap (rd x25 x27)) x6) / 4294967296) % 4294967296)) x25 x26 (wrap64 (x27+1))) else (none)) else (none)) else (none)) else (none)) else (none)) else (none)) else (none)) else ((cd.f k x7).bind fun t139=>(some t139))
def eQ.f (k:Nat) (l0:List Int) (a1:Int):Option (List Int):=if (l0.length:Int)=0 then (some ([]:List Int)) else (if 0<=(wrap64 ((wrap64 ((l0.length:Int)+(wrap64 (Int.tdiv a1 32))))+1)) then (if (wrap64 ((wrap64 ((l0.length:Int)+(wrap64 (Int.tdiv a1 32))))+1):Int).toNat<=70368744177664 then (eQ.l0 k (wrap64 (Int.tdiv a1 32)) (IntKind.u64.wrap (Int.tmod a1 32)) (List.replicate (wrap64 ((wrap64 ((l0.length:Int)+(wrap64 (Int.tdiv a1 32))))+1):Int).toNat 0) l0 (l0.length:Int) 0) else (none)) else (none))
def bY.l0:Nat->List Int->List Int->Int->Int->Int->List Int->Int->Int->Option (Bool×List Int)
 | 0,_,_,_,_,_,_,_,_=>none
 | k+1,x0,x1,x2,x7,x8,x13,x14,x15=>if x15<x14 then (if 0<=x15 then (if x15<(x13.length:Int) then (if x15<(x0.length:Int) then (bY.l0 k (x0.set (x15:Int).toNat ((IntKind.u64.wrap ((IntKind.u64.wrap ((IntKind.u64.wrap (rd x0 x15))-((IntKind.u64.wrap (x7+(IntKind.u64.wrap (x2*(IntKind.u64.wrap (rd x13 x15)))))) % 4294967296)))-x8)) % 4294967296)) x1 x2 ((IntKind.u64.wrap (x7+(IntKind.u64.wrap (x2*(IntKind.u64.wrap (rd x13 x15)))))) / 4294967296) ((IntKind.u64.wrap ((IntKind.u64.wrap ((IntKind.u64.wrap (rd x0 x15))-((IntKind.u64.wrap (x7+(IntKind.u64.wrap (x2*(IntKind.u64.wrap (rd x13 x15)))))) % 4294967296)))-x8)) / 9223372036854775808) x13 x14 (wrap64 (x15+1))) else (none)) else (none)) else (none)) else (if 0<=(x1.length:Int) then (if (x1.length:Int)<(x0.length:Int) then (some ((((IntKind.u64.wrap ((IntKind.u64.wrap ((IntKind.u64.wrap (rd x0 (x1.length:Int)))-x7))-x8)) / 9223372036854775808)==1),(x0.set ((x1.length:Int):Int).toNat ((IntKind.u64.wrap ((IntKind.u64.wrap ((IntKind.u64.wrap (rd x0 (x1.length:Int)))-x7))-x8)) % 4294967296)))) else (none)) else (none))
def bY.f (k:Nat) (l0:List Int) (l1:List Int) (a2:Int):Option (Bool×List Int):=bY.l0 k l0 l1 a2 0 0 l1 (l1.length:Int) 0
def cJ.f (k:Nat) (l0:List Int) (b1_ b2_:Int) (l1:List Int) (a2:Int):Option (Bool×List Int):=(bY.f k ((l0.take b2_.toNat).drop b1_.toNat) l1 a2).bind fun p=>some (p.1,l0.take b1_.toNat++p.2++l0.drop b2_.toNat)
def cf.l0:Nat->List Int->List Int->Int->List Int->Int->Int->Option (List Int)
 | 0,_,_,_,_,_,_=>none
 | k+1,x0,x1,x4,x7,x8,x9=>if x9<x8 then (if 0<=x9 then (if x9<(x7.length:Int) then (if x9<(x0.length:Int) then (cf.l0 k (x0.set (x9:Int).toNat ((IntKind.u64.wrap (x4+(IntKind.u64.wrap ((IntKind.u64.wrap (rd x0 x9))+(IntKind.u64.wrap (rd x7 x9)))))) % 4294967296)) x1 ((IntKind.u64.wrap (x4+(IntKind.u64.wrap ((IntKind.u64.wrap (rd x0 x9))+(IntKind.u64.wrap (rd x7 x9)))))) / 4294967296) x7 x8 (wrap64 (x9+1))) else (none)) else (none)) else (none)) else (if 0<=(x1.length:Int) then (if (x1.length:Int)<(x0.length:Int) then (some (x0.set ((x1.length:Int):Int).toNat (((rd x0 (x1.length:Int))+((x4) % 4294967296)) % 4294967296))) else (none)) else (none))
def cf.f (k:Nat) (l0:List Int) (l1:List Int):Option (List Int):=cf.l0 k l0 l1 0 l1 (l1.length:Int) 0
def df.f (k:Nat) (l0:List Int) (b1_ b2_:Int) (l1:List Int):Option (List Int):=(cf.f k ((l0.take b2_.toNat).drop b1_.toNat) l1).bind fun p=>some (l0.take b1_.toNat++p++l0.drop b2_.toNat)
def eF.l0:Nat->List Int->Int->Int->List Int->Int->Int->Option (List Int)
 | 0,_,_,_,_,_,_=>none
 | k+1,x0,x5,x6,x7,x25,x26=>if x26<x25 then (if 0<=(wrap64 (x26+x5)) then (if (wrap64 (x26+x5))<(x0.length:Int) then (if (wrap64 ((wrap64 (x26+x5))+1))<(x0.length:Int) then (if 0<=(wrap64 ((wrap64 (x26+x5))+1)) then (if 0<=x6 then (if 0<=x26 then (if x26<(x7.length:Int) then (eF.l0 k x0 x5 x6 (x7.set (x26:Int).toNat ((shr .u64 (Go.bits .or .u64 (IntKind.u64.wrap (rd x0 (wrap64 (x26+x5)))) (IntKind.u64.wrap ((IntKind.u64.wrap (rd x0 (wrap64 ((wrap64 (x26+x5))+1))))*4294967296))) x6) % 4294967296)) x25 (wrap64 (x26+1))) else (none)) else (none)) else (none)) else (none)) else (if 0<=x6 then (if 0<=x26 then (if x26<(x7.length:Int) then (eF.l0 k x0 x5 x6 (x7.set (x26:Int).toNat ((shr .u64 (IntKind.u64.wrap (rd x0 (wrap64 (x26+x5)))) x6) % 4294967296)) x25 (wrap64 (x26+1))) else (none)) else (none)) else (none))) else (none)) else (none)) else ((cd.f k x7).bind fun t159=>(some t159))
def eF.f (k:Nat) (l0:List Int) (a1:Int):Option (List Int):=if (wrap64 (Int.tdiv a1 32))>=(l0.length:Int) then (some ([]:List Int)) else (if 0<=(wrap64 ((l0.length:Int)-(wrap64 (Int.tdiv a1 32)))) then (if (wrap64 ((l0.length:Int)-(wrap64 (Int.tdiv a1 32))):Int).toNat<=70368744177664 then ((some (List.replicate (wrap64 ((l0.length:Int)-(wrap64 (Int.tdiv a1 32))):Int).toNat 0:List Int)).bind fun y152=>(eF.l0 k l0 (wrap64 (Int.tdiv a1 32)) (IntKind.u64.wrap (Int.tmod a1 32)) y152 (y152.length:Int) 0)) else (none)) else (none))
mutual
def aJ.l0:Nat->List Int->Int->List Int->List Int->Int->Int->Int->Int->Option (List Int×List Int)
 | 0,_,_,_,_,_,_,_,_=>none
 | k+1,x4,x8,x9,x10,x11,x12,x13,x14=>if x14>=0 then (if 0<=(wrap64 (x14+x11)) then (if (wrap64 (x14+x11))<(x10.length:Int) then (if 0<=(wrap64 ((wrap64 (x14+x11))-1)) then (if (wrap64 ((wrap64 (x14+x11))-1))<(x10.length:Int) then (if x12=0 then (none) else (aJ.l1 k x4 x8 x9 x10 x11 x12 x13 x14 (IntKind.u64.wrap (Int.tdiv (Go.bits .or .u64 (IntKind.u64.wrap ((IntKind.u64.wrap (rd x10 (wrap64 (x14+x11))))*4294967296)) (IntKind.u64.wrap (rd x10 (wrap64 ((wrap64 (x14+x11))-1))))) x12)) (Int.tmod (Go.bits .or .u64 (IntKind.u64.wrap ((IntKind.u64.wrap (rd x10 (wrap64 (x14+x11))))*4294967296)) (IntKind.u64.wrap (rd x10 (wrap64 ((wrap64 (x14+x11))-1))))) x12))) else (none)) else (none)) else (none)) else (none)) else ((cd.f k x4).bind fun t191=>((cd.f k x10).bind fun t194=>((eF.f k t194 x8).bind fun t197=>(some (t191,t197)))))
def aJ.j3:Nat->List Int->Int->List Int->List Int->Int->Int->Int->Int->Int->Option (List Int×List Int)
 | 0,_,_,_,_,_,_,_,_,_=>none
 | k+1,x4,x8,x9,x10,x11,x12,x13,x14,x16=>if 0<=x14 then (if x14<(wrap64 ((wrap64 (x14+x11))+1)) then (if (wrap64 ((wrap64 (x14+x11))+1))<=(x10.length:Int) then ((cJ.f k x10 x14 (wrap64 ((wrap64 (x14+x11))+1)) x9 x16).bind fun bt204=>(if bt204.1=true then ((df.f k bt204.2 x14 (wrap64 ((wrap64 (x14+x11))+1)) x9).bind fun t207=>(if x14<(x4.length:Int) then (aJ.l0 k (x4.set (x14:Int).toNat ((IntKind.u64.wrap (x16-1)) % 4294967296)) x8 x9 t207 x11 x12 x13 (wrap64 (x14-1))) else (none))) else (if x14<(x4.length:Int) then (aJ.l0 k (x4.set (x14:Int).toNat ((x16) % 4294967296)) x8 x9 bt204.2 x11 x12 x13 (wrap64 (x14-1))) else (none)))) else (none)) else (none)) else (none)
def aJ.l1:Nat->List Int->Int->List Int->List Int->Int->Int->Int->Int->Int->Int->Option (List Int×List Int)
 | 0,_,_,_,_,_,_,_,_,_,_=>none
 | k+1,x4,x8,x9,x10,x11,x12,x13,x14,x16,x17=>if x16>=4294967296 then (aJ.j2 k x4 x8 x9 x10 x11 x12 x13 x14 x16 x17 true) else (if 0<=(wrap64 ((wrap64 (x14+x11))-2)) then (if (wrap64 ((wrap64 (x14+x11))-2))<(x10.length:Int) then (aJ.j2 k x4 x8 x9 x10 x11 x12 x13 x14 x16 x17 (decide ((IntKind.u64.wrap (x16*x13))>(Go.bits .or .u64 (IntKind.u64.wrap (x17*4294967296)) (IntKind.u64.wrap (rd x10 (wrap64 ((wrap64 (x14+x11))-2)))))))) else (none)) else (none))
def aJ.j2:Nat->List Int->Int->List Int->List Int->Int->Int->Int->Int->Int->Int->Bool->Option (List Int×List Int)
 | 0,_,_,_,_,_,_,_,_,_,_,_=>none
 | k+1,x4,x8,x9,x10,x11,x12,x13,x14,x16,x17,x127=>if x127=true then (if (IntKind.u64.wrap (x17+x12))>=4294967296 then (aJ.j3 k x4 x8 x9 x10 x11 x12 x13 x14 (IntKind.u64.wrap (x16-1))) else (aJ.l1 k x4 x8 x9 x10 x11 x12 x13 x14 (IntKind.u64.wrap (x16-1)) (IntKind.u64.wrap (x17+x12)))) else (aJ.j3 k x4 x8 x9 x10 x11 x12 x13 x14 x16)
end
def aJ.f (k:Nat) (l0:List Int) (l1:List Int):Option (List Int×List Int):=(dj.f k l0 l1).bind fun t162=>(if t162<0 then (if ([]:List Int).length+l0.length<35184372088832 then (some (([]:List Int),(([]:List Int)++l0))) else (none)) else (if (l1.length:Int)=1 then (if 0<(l1.length:Int) then ((dh.f k l0 (rd l1 0)).bind fun bt167=>((cS.f k (IntKind.u64.wrap (bt167.2))).bind fun t171=>(some (bt167.1,t171)))) else (none)) else (if 0<=(wrap64 ((l1.length:Int)-1)) then (if (wrap64 ((l1.length:Int)-1))<(l1.length:Int) then ((bits_LeadingZeros32.f (rd l1 (wrap64 ((l1.length:Int)-1)))).bind fun t175=>((eQ.f k l1 t175).bind fun t176=>(if 0<=(wrap64 ((l0.length:Int)+1)) then (if (wrap64 ((l0.length:Int)+1):Int).toNat<=70368744177664 then ((some (List.replicate (wrap64 ((l0.length:Int)+1):Int).toNat 0:List Int)).bind fun y179=>((eQ.f k l0 t175).bind fun t182=>(if 0<=(wrap64 ((y179.length:Int)-(t176.length:Int))) then (if (wrap64 ((y179.length:Int)-(t176.length:Int)):Int).toNat<=70368744177664 then (if 0<=(wrap64 ((t176.length:Int)-1)) then (if (wrap64 ((t176.length:Int)-1))<(t176.length:Int) then (if 0<=(wrap64 ((t176.length:Int)-2)) then (if (wrap64 ((t176.length:Int)-2))<(t176.length:Int) then (aJ.l0 k (List.replicate (wrap64 ((y179.length:Int)-(t176.length:Int)):Int).toNat 0) t175 t176 (jK y179 t182) (t176.length:Int) (IntKind.u64.wrap (rd t176 (wrap64 ((t176.length:Int)-1)))) (IntKind.u64.wrap (rd t176 (wrap64 ((t176.length:Int)-2)))) (wrap64 ((wrap64 ((y179.length:Int)-(t176.length:Int)))-1))) else (none)) else (none)) else (none)) else (none)) else (none)) else (none)))) else (none)) else (none)))) else (none)) else (none))))
def eC.f (l0:List Int):Option (Int×Bool):=if (l0.length:Int)=0 then (some (0,true)) else (if (l0.length:Int)=1 then (if 0<(l0.length:Int) then (some (IntKind.u64.wrap (rd l0 0),true)) else (none)) else (if (l0.length:Int)=2 then (if 1<(l0.length:Int) then (if 0<(l0.length:Int) then (some (Go.bits .or .u64 (IntKind.u64.wrap ((IntKind.u64.wrap (rd l0 1))*4294967296)) (IntKind.u64.wrap (rd l0 0)),true)) else (none)) else (none)) else (some (0,false))))
def gB.f (l0:List Int):Option (Int):=if (l0.length:Int)=0 then (some 0) else (if 0<=(wrap64 ((l0.length:Int)-1)) then (if (wrap64 ((l0.length:Int)-1))<(l0.length:Int) then ((bits_LeadingZeros32.f (rd l0 (wrap64 ((l0.length:Int)-1)))).bind fun t214=>(some (wrap64 ((wrap64 (32*(l0.length:Int)))-t214)))) else (none)) else (none))
mutual
def bG.j0:Nat->List Int->List Int->Bool->Option (List Int)
 | 0,_,_,_=>none
 | k+1,x0,x1,x18=>if x18=true then (some ([]:List Int)) else (if 0<=(wrap64 ((x0.length:Int)+(x1.length:Int))) then (if (wrap64 ((x0.length:Int)+(x1.length:Int)):Int).toNat<=70368744177664 then (bG.l0 k x1 (List.replicate (wrap64 ((x0.length:Int)+(x1.length:Int)):Int).toNat 0) x0 (x0.length:Int) 0) else (none)) else (none))
def bG.l0:Nat->List Int->List Int->List Int->Int->Int->Option (List Int)
 | 0,_,_,_,_,_=>none
 | k+1,x1,x5,x25,x26,x27=>if x27<x26 then (if 0<=x27 then (if x27<(x25.length:Int) then (bG.l1 k x1 x5 x27 (rd x25 x27) 0 x25 x26 x27 x1 (x1.length:Int) 0) else (none)) else (none)) else ((cd.f k x5).bind fun t218=>(some t218))
def bG.l1:Nat->List Int->List Int->Int->Int->Int->List Int->Int->Int->List Int->Int->Int->Option (List Int)
 | 0,_,_,_,_,_,_,_,_,_,_,_=>none
 | k+1,x1,x5,x6,x7,x8,x25,x26,x27,x32,x33,x34=>if x34<x33 then (if 0<=x34 then (if x34<(x32.length:Int) then (if 0<=(wrap64 (x6+x34)) then (if (wrap64 (x6+x34))<(x5.length:Int) then (bG.l1 k x1 (x5.set ((wrap64 (x6+x34)):Int).toNat ((IntKind.u64.wrap (x8+(IntKind.u64.wrap ((IntKind.u64.wrap ((IntKind.u64.wrap (x7))*(IntKind.u64.wrap (rd x32 x34))))+(IntKind.u64.wrap (rd x5 (wrap64 (x6+x34)))))))) % 4294967296)) x6 x7 ((IntKind.u64.wrap (x8+(IntKind.u64.wrap ((IntKind.u64.wrap ((IntKind.u64.wrap (x7))*(IntKind.u64.wrap (rd x32 x34))))+(IntKind.u64.wrap (rd x5 (wrap64 (x6+x34)))))))) / 4294967296) x25 x26 x27 x32 x33 (wrap64 (x34+1))) else (none)) else (none)) else (none)) else (none)) else (if 0<=(wrap64 (x6+(x1.length:Int))) then (if (wrap64 (x6+(x1.length:Int)))<(x5.length:Int) then (bG.l0 k x1 (x5.set ((wrap64 (x6+(x1.length:Int))):Int).toNat ((x8) % 4294967296)) x25 x26 (wrap64 (x27+1))) else (none)) else (none))
end
def bG.f (k:Nat) (l0:List Int) (l1:List Int):Option (List Int):=if (l0.length:Int)=0 then (bG.j0 k l0 l1 true) else (bG.j0 k l0 l1 ((l1.length:Int)==0))
def de.l0:Nat->List Int->List Int->Int->List Int->Int->Int->Option (List Int)
 | 0,_,_,_,_,_,_=>none
 | k+1,x1,x5,x6,x13,x14,x15=>if x15<x14 then (if 0<=x15 then (if x15<(x13.length:Int) then (if x15<(x1.length:Int) then (if x15<(x5.length:Int) then (de.l0 k x1 (x5.set (x15:Int).toNat ((IntKind.u64.wrap ((IntKind.u64.wrap ((IntKind.u64.wrap (rd x13 x15))-x6))-(IntKind.u64.wrap (rd x1 x15)))) % 4294967296)) ((IntKind.u64.wrap ((IntKind.u64.wrap ((IntKind.u64.wrap (rd x13 x15))-x6))-(IntKind.u64.wrap (rd x1 x15)))) / 9223372036854775808) x13 x14 (wrap64 (x15+1))) else (none)) else (if x15<(x5.length:Int) then (de.l0 k x1 (x5.set (x15:Int).toNat ((IntKind.u64.wrap ((IntKind.u64.wrap (rd x13 x15))-x6)) % 4294967296)) ((IntKind.u64.wrap ((IntKind.u64.wrap (rd x13 x15))-x6)) / 9223372036854775808) x13 x14 (wrap64 (x15+1))) else (none))) else (none)) else (none)) else ((cd.f k x5).bind fun t233=>(some t233))
def de.f (k:Nat) (l0:List Int) (l1:List Int):Option (List Int):=if 0<=(l0.length:Int) then (if ((l0.length:Int):Int).toNat<=70368744177664 then (de.l0 k l1 (List.replicate ((l0.length:Int):Int).toNat 0) 0 l0 (l0.length:Int) 0) else (none)) else (none)
def cm.j0:Nat->List Int->List Int->Int->Int->Bool->Option (List Int)
 | 0,_,_,_,_,_=>none
 | k+1,x0,x1,x2,x3,x14=>if x14=true then ((cS.f k (IntKind.u64.wrap (x3))).bind fun t236=>((bG.f k x1 t236).bind fun t239=>((cS.f k (IntKind.u64.wrap (wrap64 (-x2)))).bind fun t242=>((bG.f k x0 t242).bind fun t245=>((de.f k t239 t245).bind fun t248=>(some t248)))))) else ((cS.f k (IntKind.u64.wrap (x2))).bind fun t251=>((bG.f k x0 t251).bind fun t254=>((cS.f k (IntKind.u64.wrap (wrap64 (-x3)))).bind fun t257=>((bG.f k x1 t257).bind fun t260=>((de.f k t254 t260).bind fun t263=>(some t263))))))
def cm.f (k:Nat) (l0:List Int) (l1:List Int) (a2:Int) (a3:Int):Option (List Int):=if a2<0 then (cm.j0 k l0 l1 a2 a3 true) else (cm.j0 k l0 l1 a2 a3 (decide (a3>0)))
mutual
def bg.j2:Nat->List Int->List Int->Int->Int->Int->Int->Option (List Int×List Int×Bool)
 | 0,_,_,_,_,_,_=>none
 | k+1,x0,x1,x12,x13,x14,x15=>if x13=0 then (some (([]:List Int),([]:List Int),false)) else ((cm.f k x0 x1 x12 x13).bind fun t278=>((cm.f k x0 x1 x14 x15).bind fun t281=>(some (t278,t281,true))))
def bg.l0:Nat->List Int->List Int->Int->Int->Int->Int->Int->Int->Option (List Int×List Int×Bool)
 | 0,_,_,_,_,_,_,_,_=>none
 | k+1,x0,x1,x12,x13,x14,x15,x16,x17=>if (wrap64 (x17+x14))=0 then (bg.j1 k x0 x1 x12 x13 x14 x15 x16 x17 false) else (bg.j1 k x0 x1 x12 x13 x14 x15 x16 x17 ((wrap64 (x17+x15)) != 0))
def bg.j1:Nat->List Int->List Int->Int->Int->Int->Int->Int->Int->Bool->Option (List Int×List Int×Bool)
 | 0,_,_,_,_,_,_,_,_,_=>none
 | k+1,x0,x1,x12,x13,x14,x15,x16,x17,x55=>if x55=true then (if (wrap64 (x17+x14))=0 then (none) else (if (wrap64 (x17+x15))=0 then (none) else (if (wrap64 (Int.tdiv (wrap64 (x16+x12)) (wrap64 (x17+x14))))=(wrap64 (Int.tdiv (wrap64 (x16+x13)) (wrap64 (x17+x15)))) then (bg.l0 k x0 x1 x14 x15 (wrap64 (x12-(wrap64 ((wrap64 (Int.tdiv (wrap64 (x16+x12)) (wrap64 (x17+x14))))*x14)))) (wrap64 (x13-(wrap64 ((wrap64 (Int.tdiv (wrap64 (x16+x12)) (wrap64 (x17+x14))))*x15)))) x17 (wrap64 (x16-(wrap64 ((wrap64 (Int.tdiv (wrap64 (x16+x12)) (wrap64 (x17+x14))))*x17))))) else (bg.j2 k x0 x1 x12 x13 x14 x15)))) else (bg.j2 k x0 x1 x12 x13 x14 x15)
end
def bg.f (k:Nat) (l0:List Int) (l1:List Int):Option (List Int×List Int×Bool):=(gB.f l0).bind fun t266=>((gB.f l1).bind fun t267=>(if t267<(wrap64 (t266-20)) then (some (([]:List Int),([]:List Int),false)) else ((eF.f k l0 (wrap64 (t266-31))).bind fun t268=>((eC.f t268).bind fun bt271=>((eF.f k l1 (wrap64 (t266-31))).bind fun t273=>((eC.f t273).bind fun bt276=>(bg.l0 k l0 l1 1 0 0 1 (wrap64 (bt271.1)) (wrap64 (bt276.1)))))))))
mutual
def bW.j0:Nat->List Int->List Int->Option (List Int)
 | 0,_,_=>none
 | k+1,x0,x1=>bW.l0 k x0 x1
def bW.l0:Nat->List Int->List Int->Option (List Int)
 | 0,_,_=>none
 | k+1,x0,x1=>if (x1.length:Int)>2 then ((bg.f k x0 x1).bind fun bt285=>(if bt285.2.2=true then (bW.l0 k bt285.1 bt285.2.1) else ((aJ.f k x0 x1).bind fun bt292=>(bW.l0 k x1 bt292.2)))) else (if (x1.length:Int)=0 then (if ([]:List Int).length+x0.length<35184372088832 then (some (([]:List Int)++x0)) else (none)) else ((aJ.f k x0 x1).bind fun bt301=>((eC.f x1).bind fun bt307=>((eC.f bt301.2).bind fun bt309=>(bW.l1 k bt307.1 bt309.1)))))
def bW.l1:Nat->Int->Int->Option (List Int)
 | 0,_,_=>none
 | k+1,x12,x14=>if x14=0 then ((cS.f k x12).bind fun t311=>(some t311)) else (bW.l1 k x14 (Int.tmod x12 x14))
end
def bW.f (k:Nat) (l0:List Int) (l1:List Int):Option (List Int):=(dj.f k l0 l1).bind fun t284=>(if t284<0 then (bW.j0 k l1 l0) else (bW.j0 k l0 l1))
def eB.j0:Nat->Bool->Bool->List Int->List Int->Option (Bool)
 | 0,_,_,_,_=>none
 | k+1,x23,x315000,x315001,x315002=>if x23=true then (some false) else (if (x315001.length:Int)=0 then (if x315000=true then (some false) else (if (x315002.length:Int)=1 then (if 0<(x315002.length:Int) then (some ((rd x315002 0)==1)) else (none)) else (some false))) else (if (x315002.length:Int)=1 then (if 0<(x315002.length:Int) then (if (rd x315002 0)=1 then (some true) else ((bW.f k x315001 x315002).bind fun t319=>(if (t319.length:Int)=1 then (if 0<(t319.length:Int) then (some ((rd t319 0)==1)) else (none)) else (some false)))) else (none)) else ((bW.f k x315001 x315002).bind fun t323=>(if (t323.length:Int)=1 then (if 0<(t323.length:Int) then (some ((rd t323 0)==1)) else (none)) else (some false)))))
def eB.f (k:Nat) (a0_0:Bool) (l0_1:List Int) (l0_2:List Int) (a1:Int):Option (Bool):=(jj.f l0_1 a1).bind fun t315=>(if t315=true then ((jj.f l0_2 a1).bind fun t316=>(if t316=true then (eB.j0 k ((l0_2.length:Int)==0) a0_0 l0_1 l0_2) else (eB.j0 k true a0_0 l0_1 l0_2))) else (eB.j0 k true a0_0 l0_1 l0_2))
mutual
def bw.j0:Nat->Bool->Int->List (xL)->Option (Bool)
 | 0,_,_,_=>none
 | k+1,x21,x328000,x328001=>if x21=true then (some false) else (bw.l0 k x328001 (x328001.length:Int) 0 x328000 x328001)
def bw.l0:Nat->List (xL)->Int->Int->Int->List (xL)->Option (Bool)
 | 0,_,_,_,_,_=>none
 | k+1,x23,x24,x25,x328000,x328001=>if x25<x24 then (if 0<=x25 then (if x25<(x23.length:Int) then (if (((eU x23 x25).f0).length:Int)=x328000 then ((iU.f ((eU x23 x25).f1.f0) ((eU x23 x25).f1.f1) ((eU x23 x25).f1.f2) 200).bind fun t330=>(if t330=true then ((iS.f ((eU x23 x25).f1.f0) ((eU x23 x25).f1.f1) ((eU x23 x25).f1.f2)).bind fun t331=>(bw.j2 k x25 x23 x24 x25 (t331==0) x328000 x328001 ((eU x23 x25).f0) ((eU x23 x25).f1.f0) ((eU x23 x25).f1.f1) ((eU x23 x25).f1.f2))) else (bw.j2 k x25 x23 x24 x25 true x328000 x328001 ((eU x23 x25).f0) ((eU x23 x25).f1.f0) ((eU x23 x25).f1.f1) ((eU x23 x25).f1.f2)))) else (bw.j2 k x25 x23 x24 x25 true x328000 x328001 ((eU x23 x25).f0) ((eU x23 x25).f1.f0) ((eU x23 x25).f1.f1) ((eU x23 x25).f1.f2))) else (none)) else (none)) else (some true)
def bw.j2:Nat->Int->List (xL)->Int->Int->Bool->Int->List (xL)->List Int->Bool->List Int->List Int->Option (Bool)
 | 0,_,_,_,_,_,_,_,_,_,_,_=>none
 | k+1,x3,x23,x24,x25,x47,x328000,x328001,x330000,x330001,x330002,x330003=>if x47=true then (some false) else (bw.l1 k x3 0 x23 x24 x25 x330000 (x330000.length:Int) 0 x328000 x328001 x330000 x330001 x330002 x330003)
def bw.l1:Nat->Int->Int->List (xL)->Int->Int->List Int->Int->Int->Int->List (xL)->List Int->Bool->List Int->List Int->Option (Bool)
 | 0,_,_,_,_,_,_,_,_,_,_,_,_,_,_=>none
 | k+1,x3,x5,x23,x24,x25,x49,x50,x51,x328000,x328001,x330000,x330001,x330002,x330003=>if x51<x50 then (if 0<=x51 then (if x51<(x49.length:Int) then (if (rd x49 x51)<0 then (some false) else (if (rd x49 x51)>40 then (some false) else (bw.l1 k x3 (wrap64 (x5+(rd x49 x51))) x23 x24 x25 x49 x50 (wrap64 (x51+1)) x328000 x328001 x330000 x330001 x330002 x330003))) else (none)) else (none)) else (if x5>40 then (some false) else (if x3>0 then (if 0<=(wrap64 (x3-1)) then (if (wrap64 (x3-1))<(x328001.length:Int) then ((eO.f k ((eU x328001 (wrap64 (x3-1))).f0) x330000).bind fun t334=>(if t334<=0 then (some false) else ((eB.f k x330001 x330002 x330003 200).bind fun t335=>(if t335=true then (bw.l0 k x23 x24 (wrap64 (x25+1)) x328000 x328001) else (some false))))) else (none)) else (none)) else ((eB.f k x330001 x330002 x330003 200).bind fun t336=>(if t336=true then (bw.l0 k x23 x24 (wrap64 (x25+1)) x328000 x328001) else (some false)))))
end
def jk.f (l0:List Int):Option (Bool):=if (l0.length:Int)<=4096 then (if (l0.length:Int)=0 then (some true) else (if 0<=(wrap64 ((l0.length:Int)-1)) then (if (wrap64 ((l0.length:Int)-1))<(l0.length:Int) then (some ((rd l0 (wrap64 ((l0.length:Int)-1))) != 0)) else (none)) else (none))) else (some false)
mutual
def cp.l0:Nat->Int->Int->List Int->Option (List Int)
 | 0,_,_,_=>none
 | k+1,x0,x1,x5=>if x0>0 then (if x5.length<140737488355328 then (cp.l0 k (IntKind.u64.wrap (Int.tdiv x0 10)) x1 (x5++[(IntKind.u64.wrap (48+(Int.tmod x0 10))) % 256])) else (none)) else (if (x5.length:Int)<x1 then (if x5.length<140737488355328 then (cp.l0 k (IntKind.u64.wrap (Int.tdiv x0 10)) x1 (x5++[(IntKind.u64.wrap (48+(Int.tmod x0 10))) % 256])) else (none)) else (cp.l1 k x5 0 (wrap64 ((x5.length:Int)-1))))
def cp.l1:Nat->List Int->Int->Int->Option (List Int)
 | 0,_,_,_=>none
 | k+1,x5,x6,x7=>if x6<x7 then (if 0<=x7 then (if x7<(x5.length:Int) then (if 0<=x6 then (if x6<(x5.length:Int) then (cp.l1 k ((x5.set (x6:Int).toNat (rd x5 x7)).set (x7:Int).toNat (rd x5 x6)) (wrap64 (x6+1)) (wrap64 (x7-1))) else (none)) else (none)) else (none)) else (none)) else (some x5)
end
def cp.f (k:Nat) (a0:Int) (a1:Int):Option (List Int):=cp.l0 k a0 a1 ([]:List Int)
mutual
def eH.l0:Nat->List Int->List Int->List Int->Option (ByteArray×Int)
 | 0,_,_,_=>none
 | k+1,x0,x4,x5=>if (x0.length:Int)>0 then ((aJ.f k x0 x5).bind fun bt355=>((eC.f bt355.2).bind fun bt361=>(if x4.length<17592186044416 then (eH.l0 k bt355.1 (x4++[bt361.1]) x5) else (none)))) else (if 0<=(wrap64 ((x4.length:Int)-1)) then (if (wrap64 ((x4.length:Int)-1))<(x4.length:Int) then ((cp.f k (rd x4 (wrap64 ((x4.length:Int)-1))) 0).bind fun t367=>(eH.l1 k x4 t367 (wrap64 ((x4.length:Int)-2)))) else (none)) else (none))
def eH.l1:Nat->List Int->List Int->Int->Option (ByteArray×Int)
 | 0,_,_,_=>none
 | k+1,x4,x10,x11=>if x11>=0 then (if 9<=281474976710656 then (if 0<=x11 then (if x11<(x4.length:Int) then ((cp.f k (rd x4 x11) 9).bind fun t374=>((some (jK (List.replicate 9 0) t374:List Int)).bind fun y377=>(if x10.length+y377.length<140737488355328 then (eH.l1 k x4 (x10++y377) (wrap64 (x11-1))) else (none)))) else (none)) else (none)) else (none)) else (some (strOfNums x10,0))
end
def eH.f (k:Nat) (l0:List Int):Option (ByteArray×Int):=(jk.f l0).bind fun t351=>(if t351=true then (if (l0.length:Int)=0 then (some ((⟨#[48]⟩:ByteArray),0)) else ((cS.f k 1000000000).bind fun t352=>(eH.l0 k l0 ([]:List Int) t352))) else (some ((⟨#[]⟩:ByteArray),3)))
def fC.l0:Nat->Int->List Int->Int->Int->Option (Int)
 | 0,_,_,_,_=>none
 | k+1,x3,x6,x7,x8=>if x8<x7 then (if 0<=x8 then (if x8<(x6.length:Int) then (fC.l0 k (wrap64 (x3+(rd x6 x8))) x6 x7 (wrap64 (x8+1))) else (none)) else (none)) else (some x3)
def fC.f (k:Nat) (l0:List Int):Option (Int):=fC.l0 k 0 l0 (l0.length:Int) 0
def dT.l0:Nat->Int->List (xL)->Int->Int->Option (Int)
 | 0,_,_,_,_=>none
 | k+1,x3,x7,x8,x9=>if x9<x8 then (if 0<=x9 then (if x9<(x7.length:Int) then ((fC.f k ((eU x7 x9).f0)).bind fun t450=>(dT.l0 k (mx x3 t450) x7 x8 (wrap64 (x9+1)))) else (none)) else (none)) else (some x3)
def lK.f:Option (Bool×List Int×List Int):=some (false,([]:List Int),(([1]:List Int)))
def dL.j0:Nat->Bool->List Int->List Int->List Int->Bool->Option (Bool×List Int×List Int)
 | 0,_,_,_,_,_=>none
 | k+1,x0,x1,x2,x7,x23=>if x23=true then ((aJ.f k x1 x7).bind fun bt467=>((aJ.f k x2 x7).bind fun bt473=>(if ([]:List Int).length+bt467.1.length<35184372088832 then (if ([]:List Int).length+bt473.1.length<35184372088832 then (some (x0,(([]:List Int)++bt467.1),(([]:List Int)++bt473.1))) else (none)) else (none)))) else (if ([]:List Int).length+x1.length<35184372088832 then (if ([]:List Int).length+x2.length<35184372088832 then (some (x0,(([]:List Int)++x1),(([]:List Int)++x2))) else (none)) else (none))
def dL.f (k:Nat) (a0:Bool) (l1:List Int) (l2:List Int):Option (Bool×List Int×List Int):=if (l1.length:Int)=0 then ((lK.f).bind fun bt456=>(some (bt456.1,bt456.2.1,bt456.2.2))) else ((bW.f k l1 l2).bind fun t463=>(if (t463.length:Int)=1 then (if 0<(t463.length:Int) then (dL.j0 k a0 l1 l2 t463 ((rd t463 0) != 1)) else (none)) else (dL.j0 k a0 l1 l2 t463 true)))
def iw.f (k:Nat) (a0_0:Bool) (l0_1:List Int) (l0_2:List Int) (a1_0:Bool) (l1_1:List Int) (l1_2:List Int):Option (Bool×List Int×List Int):=(bG.f k l0_1 l1_1).bind fun t494=>((bG.f k l0_2 l1_2).bind fun t497=>((dL.f k (a0_0 != a1_0) t494 t497).bind fun bt500=>(some (bt500.1,bt500.2.1,bt500.2.2))))
mutual
def cB.l0:Nat->List (xL)->Int->Int->Int->List (xL)->List Int->Bool->List Int->List Int->Int->List (xL)->Option (Int×(List (xL)))
 | 0,_,_,_,_,_,_,_,_,_,_,_=>none
 | k+1,x14,x15,x16,x508000,x508001,x509000,x509001,x509002,x509003,x511000,x511001=>if x16<x15 then (if 0<=x16 then (if x16<(x14.length:Int) then (if 0<=x508000 then (if (x508000:Int).toNat<=35184372088832 then ((some (List.replicate (x508000:Int).toNat 0:List Int)).bind fun y513=>(cB.l1 k y513 x14 x15 x16 (y513.length:Int) 0 x508000 x508001 x509000 x509001 x509002 x509003 x511000 x511001 ((eU x14 x16).f0) ((eU x14 x16).f1.f0) ((eU x14 x16).f1.f1) ((eU x14 x16).f1.f2))) else (none)) else (none)) else (none)) else (none)) else (some (x511000,x511001))
def cB.l1:Nat->List Int->List (xL)->Int->Int->Int->Int->Int->List (xL)->List Int->Bool->List Int->List Int->Int->List (xL)->List Int->Bool->List Int->List Int->Option (Int×(List (xL)))
 | 0,_,_,_,_,_,_,_,_,_,_,_,_,_,_,_,_,_,_=>none
 | k+1,x8,x14,x15,x16,x24,x25,x508000,x508001,x509000,x509001,x509002,x509003,x511000,x511001,x513000,x513001,x513002,x513003=>if x25<x24 then (if 0<=x25 then (if x25<(x513000.length:Int) then (if x25<(x509000.length:Int) then (if x25<(x8.length:Int) then (cB.l1 k (x8.set (x25:Int).toNat (wrap64 ((rd x513000 x25)+(rd x509000 x25)))) x14 x15 x16 x24 (wrap64 (x25+1)) x508000 x508001 x509000 x509001 x509002 x509003 x511000 x511001 x513000 x513001 x513002 x513003) else (none)) else (none)) else (none)) else (none)) else ((iw.f k x513001 x513002 x513003 x509001 x509002 x509003).bind fun bt519=>(if x511001.length<1759218604441 then (cB.l0 k x14 x15 (wrap64 (x16+1)) x508000 x508001 x509000 x509001 x509002 x509003 x511000 (x511001++[(⟨x8,(⟨bt519.1,bt519.2.1,bt519.2.2⟩:S61)⟩:xL)])) else (none)))
end
mutual
def cP.j0:Nat->List Int->List Int->Option (List Int)
 | 0,_,_=>none
 | k+1,x0,x1=>if 0<=(wrap64 ((x0.length:Int)+1)) then (if (wrap64 ((x0.length:Int)+1):Int).toNat<=70368744177664 then (cP.l0 k x0 x1 (List.replicate (wrap64 ((x0.length:Int)+1):Int).toNat 0) 0 x0 (x0.length:Int) 0) else (none)) else (none)
def cP.l0:Nat->List Int->List Int->List Int->Int->List Int->Int->Int->Option (List Int)
 | 0,_,_,_,_,_,_,_=>none
 | k+1,x0,x1,x5,x6,x20,x21,x22=>if x22<x21 then (if 0<=x22 then (if x22<(x20.length:Int) then (if x22<(x1.length:Int) then (if x22<(x5.length:Int) then (cP.l0 k x0 x1 (x5.set (x22:Int).toNat ((IntKind.u64.wrap ((IntKind.u64.wrap (x6+(IntKind.u64.wrap (rd x20 x22))))+(IntKind.u64.wrap (rd x1 x22)))) % 4294967296)) ((IntKind.u64.wrap ((IntKind.u64.wrap (x6+(IntKind.u64.wrap (rd x20 x22))))+(IntKind.u64.wrap (rd x1 x22)))) / 4294967296) x20 x21 (wrap64 (x22+1))) else (none)) else (if x22<(x5.length:Int) then (cP.l0 k x0 x1 (x5.set (x22:Int).toNat ((IntKind.u64.wrap (x6+(IntKind.u64.wrap (rd x20 x22)))) % 4294967296)) ((IntKind.u64.wrap (x6+(IntKind.u64.wrap (rd x20 x22)))) / 4294967296) x20 x21 (wrap64 (x22+1))) else (none))) else (none)) else (none)) else (if 0<=(x0.length:Int) then (if (x0.length:Int)<(x5.length:Int) then ((cd.f k (x5.set ((x0.length:Int):Int).toNat ((x6) % 4294967296))).bind fun t537=>(some t537)) else (none)) else (none))
end
def cP.f (k:Nat) (l0:List Int) (l1:List Int):Option (List Int):=if (l0.length:Int)<(l1.length:Int) then (cP.j0 k l1 l0) else (cP.j0 k l0 l1)
def fE.j0:Nat->List Int->List Int->List Int->Bool->List Int->List Int->Bool->List Int->List Int->Option (Bool×List Int×List Int)
 | 0,_,_,_,_,_,_,_,_,_=>none
 | k+1,x5,x6,x7,x541000,x541001,x541002,x542000,x542001,x542002=>if (x541000==x542000)=true then ((cP.f k x5 x6).bind fun t553=>((dL.f k x541000 t553 x7).bind fun bt556=>(some (bt556.1,bt556.2.1,bt556.2.2)))) else ((dj.f k x5 x6).bind fun t563=>(if t563>=0 then ((de.f k x5 x6).bind fun t564=>((dL.f k x541000 t564 x7).bind fun bt567=>(some (bt567.1,bt567.2.1,bt567.2.2)))) else ((de.f k x6 x5).bind fun t574=>((dL.f k x542000 t574 x7).bind fun bt577=>(some (bt577.1,bt577.2.1,bt577.2.2))))))
def gL.l0:Nat->List Int->List Int->Int->Int->Option (ByteArray)
 | 0,_,_,_,_=>none
 | k+1,x3,x10,x11,x12=>if x12<x11 then (if 0<=x12 then (if x12<(x10.length:Int) then ((some (([((rd x10 x12) / 16777216) % 256,((rd x10 x12) / 65536) % 256,((rd x10 x12) / 256) % 256,(rd x10 x12) % 256]:List Int):List Int)).bind fun y588=>(if x3.length+y588.length<140737488355328 then (gL.l0 k (x3++y588) x10 x11 (wrap64 (x12+1))) else (none))) else (none)) else (none)) else (some (strOfNums x3))
def aQ.l0:Nat->List Int->Int->Option (List Int)
 | 0,_,_=>none
 | k+1,x0,x3=>if x3>0 then (if 0<=(wrap64 (x3-1)) then (if (wrap64 (x3-1))<(x0.length:Int) then (if (rd x0 (wrap64 (x3-1)))=0 then (aQ.l0 k x0 (wrap64 (x3-1))) else (if 0<=x3 then (if x3<=(x0.length:Int) then (some (x0.take (x3:Int).toNat)) else (none)) else (none))) else (none)) else (none)) else (if 0<=x3 then (if x3<=(x0.length:Int) then (some (x0.take (x3:Int).toNat)) else (none)) else (none))
def aQ.f (k:Nat) (l0:List Int):Option (List Int):=aQ.l0 k l0 (l0.length:Int)
def bj.l0:Nat->List Int->Int->List Int->Int->Int->Option (List Int×Int)
 | 0,_,_,_,_,_=>none
 | k+1,x0,x1,x6,x7,x8=>if x8>=0 then (if 0<=x8 then (if x8<(x0.length:Int) then (if x1=0 then (none) else (if x8<(x6.length:Int) then (bj.l0 k x0 x1 (x6.set (x8:Int).toNat (wrap64 (Int.tdiv (wrap64 ((wrap64 (x7*10000))+(rd x0 x8))) x1))) (Int.tmod (wrap64 ((wrap64 (x7*10000))+(rd x0 x8))) x1) (wrap64 (x8-1))) else (none))) else (none)) else (none)) else ((aQ.f k x6).bind fun t710=>(some (t710,x7)))
def bj.f (k:Nat) (l0:List Int) (a1:Int):Option (List Int×Int):=if 0<=(l0.length:Int) then (if ((l0.length:Int):Int).toNat<=35184372088832 then (bj.l0 k l0 a1 (List.replicate ((l0.length:Int):Int).toNat 0) 0 (wrap64 ((l0.length:Int)-1))) else (none)) else (none)
mutual
def aD.l0:Nat->List Int->List Int->Option (List Int)
 | 0,_,_=>none
 | k+1,x0,x3=>if (x0.length:Int)>0 then ((bj.f k x0 65536).bind fun bt713=>(if x3.length<17592186044416 then (aD.l0 k bt713.1 (x3++[bt713.2])) else (none))) else (aD.l1 k x3 ([]:List Int) 0)
def aD.l1:Nat->List Int->List Int->Int->Option (List Int)
 | 0,_,_,_=>none
 | k+1,x3,x6,x7=>if x7<(x3.length:Int) then (if 0<=x7 then (if (wrap64 (x7+1))<(x3.length:Int) then (if 0<=(wrap64 (x7+1)) then (if x6.length<35184372088832 then (aD.l1 k x3 (x6++[(((rd x3 x7) % 4294967296)+((((rd x3 (wrap64 (x7+1))) % 4294967296)*65536) % 4294967296)) % 4294967296]) (wrap64 (x7+2))) else (none)) else (none)) else (if x6.length<35184372088832 then (aD.l1 k x3 (x6++[(rd x3 x7) % 4294967296]) (wrap64 (x7+2))) else (none))) else (none)) else (some x6)
end
def aD.f (k:Nat) (l0:List Int):Option (List Int):=aD.l0 k l0 ([]:List Int)
mutual
def ax.l0:Nat->Int->Int->List Int->List Int->Int->Int->Option (List Int)
 | 0,_,_,_,_,_,_=>none
 | k+1,x1,x2,x7,x14,x15,x16=>if x16<x15 then (if 0<=x16 then (if x16<(x14.length:Int) then (if x7.length<17592186044416 then (ax.l0 k x1 (wrap64 (Int.tdiv (wrap64 (x2+(wrap64 ((rd x14 x16)*x1)))) 10000)) (x7++[Int.tmod (wrap64 (x2+(wrap64 ((rd x14 x16)*x1)))) 10000]) x14 x15 (wrap64 (x16+1))) else (none)) else (none)) else (none)) else (ax.l1 k x2 x7)
def ax.l1:Nat->Int->List Int->Option (List Int)
 | 0,_,_=>none
 | k+1,x2,x7=>if x2>0 then (if x7.length<17592186044416 then (ax.l1 k (wrap64 (Int.tdiv x2 10000)) (x7++[Int.tmod x2 10000])) else (none)) else ((aQ.f k x7).bind fun t746=>(some t746))
end
def ax.f (k:Nat) (l0:List Int) (a1:Int) (a2:Int):Option (List Int):=if 0<=(wrap64 ((l0.length:Int)+2)) then (if (wrap64 ((l0.length:Int)+2):Int).toNat<=35184372088832 then (ax.l0 k a1 a2 (([]:List Int)) l0 (l0.length:Int) 0) else (none)) else (none)
def bO.l0:Nat->List Int->List Int->Int->Option (List Int)
 | 0,_,_,_=>none
 | k+1,x0,x3,x4=>if x4>=0 then (if 0<=x4 then (if x4<(x0.length:Int) then ((ax.f k x3 65536 (wrap64 ((rd x0 x4) / 65536))).bind fun t753=>((ax.f k t753 65536 (wrap64 (Go.bits .and .u32 (rd x0 x4) 65535))).bind fun t757=>(bO.l0 k x0 t757 (wrap64 (x4-1))))) else (none)) else (none)) else (some x3)
def aK.l0:Nat->List Int->List Int->Int->Option (Int)
 | 0,_,_,_=>none
 | k+1,x0,x1,x5=>if x5>=0 then (if 0<=x5 then (if x5<(x0.length:Int) then (if x5<(x1.length:Int) then (if (rd x0 x5)=(rd x1 x5) then (aK.l0 k x0 x1 (wrap64 (x5-1))) else (if (rd x0 x5)<(rd x1 x5) then (some (-1)) else (some 1))) else (none)) else (none)) else (none)) else (some 0)
def aK.f (k:Nat) (l0:List Int) (l1:List Int):Option (Int):=if (l0.length:Int)=(l1.length:Int) then (aK.l0 k l0 l1 (wrap64 ((l0.length:Int)-1))) else (if (l0.length:Int)<(l1.length:Int) then (some (-1)) else (some 1))
def bP.f (l0:List Int):Option (Bool):=if (l0.length:Int)<=4096 then (if (l0.length:Int)=0 then (some true) else (if 0<=(wrap64 ((l0.length:Int)-1)) then (if (wrap64 ((l0.length:Int)-1))<(l0.length:Int) then (some ((rd l0 (wrap64 ((l0.length:Int)-1))) != 0)) else (none)) else (none))) else (some false)
def aP.l0:Nat->Int->List Int->Option (List Int)
 | 0,_,_=>none
 | k+1,x0,x3=>if x0>0 then (if x3.length<17592186044416 then (aP.l0 k (wrap64 (Int.tdiv x0 10000)) (x3++[Int.tmod x0 10000])) else (none)) else (some x3)
def aP.f (k:Nat) (a0:Int):Option (List Int):=aP.l0 k a0 (([]:List Int))
def cW.f (l0:List Int):Option (List Int):=(some (([]:List Int):List Int)).bind fun y780=>(if y780.length+l0.length<17592186044416 then (some (y780++l0)) else (none))
def aM.l0:Nat->List Int->List Int->Int->Int->Int->Option (List Int)
 | 0,_,_,_,_,_=>none
 | k+1,x1,x5,x6,x12,x13=>if x13<x12 then (if 0<=x13 then (if x13<(x5.length:Int) then (if x13<(x1.length:Int) then (if (wrap64 ((wrap64 ((rd x5 x13)-x6))-(rd x1 x13)))<0 then (aM.l0 k x1 (x5.set (x13:Int).toNat (wrap64 ((wrap64 ((wrap64 ((rd x5 x13)-x6))-(rd x1 x13)))+10000))) 1 x12 (wrap64 (x13+1))) else (aM.l0 k x1 (x5.set (x13:Int).toNat (wrap64 ((wrap64 ((rd x5 x13)-x6))-(rd x1 x13)))) 0 x12 (wrap64 (x13+1)))) else (if (wrap64 ((rd x5 x13)-x6))<0 then (aM.l0 k x1 (x5.set (x13:Int).toNat (wrap64 ((wrap64 ((rd x5 x13)-x6))+10000))) 1 x12 (wrap64 (x13+1))) else (aM.l0 k x1 (x5.set (x13:Int).toNat (wrap64 ((rd x5 x13)-x6))) 0 x12 (wrap64 (x13+1))))) else (none)) else (none)) else ((aQ.f k x5).bind fun t789=>(some t789))
def aM.f (k:Nat) (l0:List Int) (l1:List Int):Option (List Int):=(cW.f l0).bind fun t786=>(aM.l0 k l1 t786 0 (t786.length:Int) 0)
def aO.l0:Nat->List Int->Int->Int->Option (Int×Bool)
 | 0,_,_,_=>none
 | k+1,x0,x4,x5=>if x5>=0 then (if 0<=x5 then (if x5<(x0.length:Int) then (aO.l0 k x0 (wrap64 ((wrap64 (x4*10000))+(rd x0 x5))) (wrap64 (x5-1))) else (none)) else (none)) else (some (x4,true))
def aO.f (k:Nat) (l0:List Int):Option (Int×Bool):=if (l0.length:Int)>4 then (some (0,false)) else (aO.l0 k l0 0 (wrap64 ((l0.length:Int)-1)))
mutual
def aq.l0:Nat->List Int->List Int->Int->Int->Int->Int->Option (Int)
 | 0,_,_,_,_,_,_=>none
 | k+1,x0,x1,x5,x6,x7,x8=>if x8>=(mx 0 (wrap64 (x5-2))) then (if x8<(x0.length:Int) then (if 0<=x8 then (aq.l0 k x0 x1 x5 (wrap64 ((wrap64 (x6*10000))+(rd x0 x8))) x7 (wrap64 (x8-1))) else (none)) else (aq.l0 k x0 x1 x5 (wrap64 (x6*10000)) x7 (wrap64 (x8-1)))) else (aq.l1 k x0 x1 x5 x6 x7 (wrap64 (x5-1)))
def aq.l1:Nat->List Int->List Int->Int->Int->Int->Int->Option (Int)
 | 0,_,_,_,_,_,_=>none
 | k+1,x0,x1,x5,x6,x7,x9=>if x9>=(mx 0 (wrap64 (x5-2))) then (if 0<=x9 then (if x9<(x1.length:Int) then (aq.l1 k x0 x1 x5 x6 (wrap64 ((wrap64 (x7*10000))+(rd x1 x9))) (wrap64 (x9-1))) else (none)) else (none)) else (if x5=1 then (if 0<(x1.length:Int) then (aq.j2 k x0 x1 x6 (rd x1 0)) else (none)) else (aq.j2 k x0 x1 x6 x7))
def aq.j2:Nat->List Int->List Int->Int->Int->Option (Int)
 | 0,_,_,_,_=>none
 | k+1,x0,x1,x6,x7=>if x7=0 then (none) else (aq.l2 k x0 x1 (mn (wrap64 (Int.tdiv x6 x7)) 9999))
def aq.l2:Nat->List Int->List Int->Int->Option (Int)
 | 0,_,_,_=>none
 | k+1,x0,x1,x10=>(ax.f k x1 x10 0).bind fun t802=>((aK.f k t802 x0).bind fun t805=>(if t805>0 then (aq.l2 k x0 x1 (wrap64 (x10-1))) else (aq.l3 k x0 x1 x10)))
def aq.l3:Nat->List Int->List Int->Int->Option (Int)
 | 0,_,_,_=>none
 | k+1,x0,x1,x10=>if (wrap64 (x10+1))<10000 then ((ax.f k x1 (wrap64 (x10+1)) 0).bind fun t806=>((aK.f k t806 x0).bind fun t809=>(if t809<=0 then (aq.l3 k x0 x1 (wrap64 (x10+1))) else (some x10)))) else (some x10)
end
def aq.f (k:Nat) (l0:List Int) (l1:List Int):Option (Int):=aq.l0 k l0 l1 (l1.length:Int) 0 0 (l1.length:Int)
def aG.l0:Nat->List Int->List Int->List Int->List Int->Int->Option (List Int×List Int)
 | 0,_,_,_,_,_=>none
 | k+1,x0,x1,x12,x13,x14=>if x14>=0 then (if 0<=x14 then (if x14<(x0.length:Int) then ((ax.f k x13 10000 (rd x0 x14)).bind fun t842=>((aK.f k t842 x1).bind fun t845=>(if t845<0 then (aG.l0 k x0 x1 x12 t842 (wrap64 (x14-1))) else ((aq.f k t842 x1).bind fun t846=>(if x14<(x12.length:Int) then ((some (x12.set (x14:Int).toNat t846:List Int)).bind fun y847=>((ax.f k x1 (rd y847 x14) 0).bind fun t849=>((aM.f k t842 t849).bind fun t852=>(aG.l0 k x0 x1 y847 t852 (wrap64 (x14-1)))))) else (none)))))) else (none)) else (none)) else ((aQ.f k x12).bind fun t838=>(some (t838,x13)))
def aG.f (k:Nat) (l0:List Int) (l1:List Int):Option (List Int×List Int):=(aK.f k l0 l1).bind fun t810=>(if t810<0 then (some ((([]:List Int)),l0)) else ((aO.f k l0).bind fun bt814=>(if bt814.2=true then ((aO.f k l1).bind fun bt816=>(if bt816.1=0 then (none) else ((aP.f k (wrap64 (Int.tdiv bt814.1 bt816.1))).bind fun t818=>((aP.f k (Int.tmod bt814.1 bt816.1)).bind fun t821=>(some (t818,t821)))))) else (if (l1.length:Int)=1 then (if 0<(l1.length:Int) then ((bj.f k l0 (rd l1 0)).bind fun bt825=>((aP.f k bt825.2).bind fun t829=>(some (bt825.1,t829)))) else (none)) else (if 0<=(l0.length:Int) then (if ((l0.length:Int):Int).toNat<=35184372088832 then (aG.l0 k l0 l1 (List.replicate ((l0.length:Int):Int).toNat 0) (([]:List Int)) (wrap64 ((l0.length:Int)-1))) else (none)) else (none))))))
mutual
def ay.l0:Nat->List Int->List Int->Option (List Int)
 | 0,_,_=>none
 | k+1,x0,x1=>if (x1.length:Int)>0 then ((aO.f k x0).bind fun bt855=>((aO.f k x1).bind fun bt857=>(if bt855.2=true then (ay.j1 k x0 x1 bt855.1 bt857.1 bt857.2) else (ay.j1 k x0 x1 bt855.1 bt857.1 false)))) else (some x0)
def ay.j1:Nat->List Int->List Int->Int->Int->Bool->Option (List Int)
 | 0,_,_,_,_,_=>none
 | k+1,x0,x1,x5,x7,x27=>if x27=true then (ay.l1 k x5 x7) else ((aG.f k x0 x1).bind fun bt862=>(ay.l0 k x1 bt862.2))
def ay.l1:Nat->Int->Int->Option (List Int)
 | 0,_,_=>none
 | k+1,x5,x7=>if x7>0 then (if x7=0 then (none) else (ay.l1 k x7 (Int.tmod x5 x7))) else ((aP.f k x5).bind fun t859=>(some t859))
end
def ay.f (k:Nat) (l0:List Int) (l1:List Int):Option (List Int):=ay.l0 k l0 l1
def aH.l0:Nat->List Int->List Int->Int->Int->Option (Bool)
 | 0,_,_,_,_=>none
 | k+1,x0,x1,x12,x13=>if x13<x12 then (if 0<=x13 then (if x13<(x0.length:Int) then (if x13<(x1.length:Int) then (if (rd x0 x13)=(rd x1 x13) then (aH.l0 k x0 x1 x12 (wrap64 (x13+1))) else (some false)) else (none)) else (none)) else (none)) else (some true)
def aH.f (k:Nat) (l0:List Int) (l1:List Int):Option (Bool):=if (l0.length:Int)=(l1.length:Int) then (aH.l0 k l0 l1 (l0.length:Int) 0) else (some false)
mutual
def au.l0:Nat->List Int->List Int->List Int->Int->Int->Option (List Int)
 | 0,_,_,_,_,_=>none
 | k+1,x1,x5,x19,x20,x21=>if x21<x20 then (if 0<=x21 then (if x21<(x19.length:Int) then (au.l1 k x1 x5 x21 (rd x19 x21) 0 x19 x20 x21 x1 (x1.length:Int) 0) else (none)) else (none)) else ((aQ.f k x5).bind fun t963=>(some t963))
def au.l1:Nat->List Int->List Int->Int->Int->Int->List Int->Int->Int->List Int->Int->Int->Option (List Int)
 | 0,_,_,_,_,_,_,_,_,_,_,_=>none
 | k+1,x1,x5,x6,x7,x8,x19,x20,x21,x26,x27,x28=>if x28<x27 then (if 0<=x28 then (if x28<(x26.length:Int) then (if 0<=(wrap64 (x6+x28)) then (if (wrap64 (x6+x28))<(x5.length:Int) then (au.l1 k x1 (x5.set ((wrap64 (x6+x28)):Int).toNat (Int.tmod (wrap64 (x8+(wrap64 ((rd x5 (wrap64 (x6+x28)))+(wrap64 (x7*(rd x26 x28))))))) 10000)) x6 x7 (wrap64 (Int.tdiv (wrap64 (x8+(wrap64 ((rd x5 (wrap64 (x6+x28)))+(wrap64 (x7*(rd x26 x28))))))) 10000)) x19 x20 x21 x26 x27 (wrap64 (x28+1))) else (none)) else (none)) else (none)) else (none)) else (au.l2 k x1 x5 x8 (wrap64 (x6+(x1.length:Int))) x19 x20 x21)
def au.l2:Nat->List Int->List Int->Int->Int->List Int->Int->Int->Option (List Int)
 | 0,_,_,_,_,_,_,_=>none
 | k+1,x1,x5,x8,x11,x19,x20,x21=>if x8>0 then (if 0<=x11 then (if x11<(x5.length:Int) then (au.l2 k x1 (x5.set (x11:Int).toNat (Int.tmod (wrap64 (x8+(rd x5 x11))) 10000)) (wrap64 (Int.tdiv (wrap64 (x8+(rd x5 x11))) 10000)) (wrap64 (x11+1)) x19 x20 x21) else (none)) else (none)) else (au.l0 k x1 x5 x19 x20 (wrap64 (x21+1)))
end
def au.f (k:Nat) (l0:List Int) (l1:List Int):Option (List Int):=if 0<=(wrap64 ((wrap64 ((l0.length:Int)+(l1.length:Int)))+1)) then (if (wrap64 ((wrap64 ((l0.length:Int)+(l1.length:Int)))+1):Int).toNat<=35184372088832 then (au.l0 k l1 (List.replicate (wrap64 ((wrap64 ((l0.length:Int)+(l1.length:Int)))+1):Int).toNat 0) l0 (l0.length:Int) 0) else (none)) else (none)
mutual
def aA.l0:Nat->List Int->List Int->List Int->Int->Int->Option (List Int)
 | 0,_,_,_,_,_=>none
 | k+1,x0,x1,x5,x6,x7=>if x7<(x0.length:Int) then (aA.j1 k x0 x1 x5 x6 x7 true) else (if x7<(x1.length:Int) then (aA.j1 k x0 x1 x5 x6 x7 true) else (aA.j1 k x0 x1 x5 x6 x7 (decide (x6>0))))
def aA.j1:Nat->List Int->List Int->List Int->Int->Int->Bool->Option (List Int)
 | 0,_,_,_,_,_,_=>none
 | k+1,x0,x1,x5,x6,x7,x21=>if x21=true then (if x7<(x0.length:Int) then (if 0<=x7 then (if x7<(x1.length:Int) then (if x5.length<17592186044416 then (aA.l0 k x0 x1 (x5++[Int.tmod (wrap64 ((wrap64 (x6+(rd x0 x7)))+(rd x1 x7))) 10000]) (wrap64 (Int.tdiv (wrap64 ((wrap64 (x6+(rd x0 x7)))+(rd x1 x7))) 10000)) (wrap64 (x7+1))) else (none)) else (if x5.length<17592186044416 then (aA.l0 k x0 x1 (x5++[Int.tmod (wrap64 (x6+(rd x0 x7))) 10000]) (wrap64 (Int.tdiv (wrap64 (x6+(rd x0 x7))) 10000)) (wrap64 (x7+1))) else (none))) else (none)) else (if x7<(x1.length:Int) then (if 0<=x7 then (if x5.length<17592186044416 then (aA.l0 k x0 x1 (x5++[Int.tmod (wrap64 (x6+(rd x1 x7))) 10000]) (wrap64 (Int.tdiv (wrap64 (x6+(rd x1 x7))) 10000)) (wrap64 (x7+1))) else (none)) else (none)) else (if x5.length<17592186044416 then (aA.l0 k x0 x1 (x5++[Int.tmod x6 10000]) (wrap64 (Int.tdiv x6 10000)) (wrap64 (x7+1))) else (none)))) else (some x5)
end
def aA.f (k:Nat) (l0:List Int) (l1:List Int):Option (List Int):=aA.l0 k l0 l1 ([]:List Int) 0 0
def dC.l0:Nat->Int->Bool->List Int->List Int->Bool->List Int->List Int->Option (Bool×List Int×List Int)
 | 0,_,_,_,_,_,_,_=>none
 | k+1,x1,x1132000,x1132001,x1132002,x1141000,x1141001,x1141002=>if x1>0 then (if (Go.bits .and .i64 x1 1)=1 then ((iw.f k x1141000 x1141001 x1141002 x1132000 x1132001 x1132002).bind fun bt1141=>(if x1>1 then ((iw.f k x1132000 x1132001 x1132002 x1132000 x1132001 x1132002).bind fun bt1148=>(dC.l0 k (x1 / 2) bt1148.1 bt1148.2.1 bt1148.2.2 bt1141.1 bt1141.2.1 bt1141.2.2)) else (dC.l0 k (x1 / 2) x1132000 x1132001 x1132002 bt1141.1 bt1141.2.1 bt1141.2.2))) else (if x1>1 then ((iw.f k x1132000 x1132001 x1132002 x1132000 x1132001 x1132002).bind fun bt1155=>(dC.l0 k (x1 / 2) bt1155.1 bt1155.2.1 bt1155.2.2 x1141000 x1141001 x1141002)) else (dC.l0 k (x1 / 2) x1132000 x1132001 x1132002 x1141000 x1141001 x1141002))) else (some (x1141000,x1141001,x1141002))
def bb.l0:Nat->List Int->List Int->Int->Int->Option (List Int)
 | 0,_,_,_,_=>none
 | k+1,x0,x5,x7,x8=>if x8<x7 then ((au.f k x5 x0).bind fun t1218=>(bb.l0 k x0 t1218 x7 (wrap64 (x8+1)))) else (some x5)
def bb.f (k:Nat) (l0:List Int) (a1:Int):Option (List Int):=bb.l0 k l0 (([1]:List Int)) a1 0
end Go.Proofs.YtfbgaddecbiimaaGreatDoor.P
end
