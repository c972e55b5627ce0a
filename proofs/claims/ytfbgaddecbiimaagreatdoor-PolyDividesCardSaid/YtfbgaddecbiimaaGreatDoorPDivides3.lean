/- An evaluator of the program's code, what its functions come to, and what they mean: text 3. No condition. -/
import Derived.Shelf.Strings.Builder1
import Derived.LoopTactic
import Derived.Lib.Join
import Derived.Shelf.Strings.Builder2
import Derived.Shelf.SlSortFuncK.WholeK
import Derived.Shelf.GgSortFunc.Tiny
import Derived.Test.YtfbgaddecbiimaaGreatDoorPDivides2
set_option linter.unusedSimpArgs false
set_option linter.unusedSectionVars false
set_option linter.unusedVariables false
set_option maxRecDepth 100000
set_option maxHeartbeats 4000000
noncomputable section
section
namespace Go.Proofs.YtfbgaddecbiimaaGreatDoor.E
open Go.RowKit Go.Proofs.YtfbgaddecbiimaaGreatDoorW.PrintWords Go.Proofs.YtfbgaddecbiimaaGreatDoorW.PrintMore Go.Proofs.YtfbgaddecbiimaaGreatDoor.V
section
variable {T:gU} {X:Ctx} {S:ES} {W W':St} {o:Oper} {ops:List Oper} {lim:Option (List Meta)} {ctx:Option (Nat×Bool)} {prot:List Nat} {i:Nat} {l:List Oper} {q:St->Prop} {F:Nat} {call:(g:Nat)->List df->Option (T.out g).den} {β:Type}
theorem kg {c:Option Kk} {x:Option β} {r:β} (h:GX c x=some r):(∀ c',c=some c'->c'.p)/\x=some r:=by
 cases c with
 | none=>exact ⟨fun c' h=>(by cases h),h⟩
 | some c =>
  simp only [GX] at h
  by_cases hp:c.p
  ·rw [Qk hp] at h;exact ⟨fun c' hc=>by cases hc;exact hp,h⟩
  rw [Qc hp] at h;cases h
theorem rq {A:ES} (hA:∀ a w,Rel X S.st a w->Rel X A.st a w) (hs:Sub S W) (hc:od ops ctx prot W):∃ W1,Sub (ov ctx lim A S) W1/\od ops ctx prot W1/\(ctx.isSome=true->W1=W)/\∀ l q,Wk T.P X ops lim i l W1 q->Wk T.P X ops lim i l W q:=by
 cases ctx with
 | some x=>exact ⟨W,hs,hc,fun _=>rfl,fun _ _ h=>h⟩
 | none =>
  cases lim with
  | some ms=>exact ⟨W,hs,hc,fun _=>rfl,fun _ _ h=>h⟩
  | none=>exact ⟨A.st,pV A,trivial,fun h=>(by cases h),fun l q h=>.sC (fun a w hr=>hA a w (kY hs a w hr)) h⟩
def OW (T:gU) (X:Ctx) (ops:List Oper) (lim:Option (List Meta)) (ctx:Option (Nat×Bool)) (prot:List Nat) (i:Nat) (o:Oper) (l:List Oper) (W:St) (q:St->Prop) (k:ES->Option β) (r:β):Prop :=
 ∀ S' W',Sub S' W'->od ops ctx prot W'->k S'=some r->(ctx.isSome=true->∃ v,W'=gQ W o.dst v)->Wk T.P X ops lim (i+1) l W' q
theorem DI (hT:cN T=true) {k:ES->Option β} {r:β} (ho:ops[i]?=some o) (hm:jV T ops lim i o) (hd:dU X o) (hg:Oe o.guard ctx=true) (hn:kF prot o.dst=true) (hs:Sub S W) (hc:od ops ctx prot W) (h:uK T F lim ctx i o S k=some r) (hk:OW T X ops lim ctx prot i o l W q k r):Wk T.P X ops lim i (o :: l) W q:=by
 unfold uK at h;split at h
 ·rename_i R hR;split at h
  ·rename_i hrv;rw [Qm] at hrv;obtain ⟨a,e⟩:=hrv;obtain ⟨d,h2⟩:=kg h;have b:zI lim none i R.r=true/\(ctx.isSome=true->R.r=none):=by
    cases hr:R.r with
    | none=>exact ⟨rfl,fun _=>rfl⟩
    | some x =>
     cases ctx with
     | none=>rw [hr] at a;exact ⟨a,fun h=>by cases h⟩
     | some c=>rw [hr] at a;cases a
   refine rp (v:=R.v) (r:=R.r) ho hm hs (Eu hc hg) hd.dm b.1 e (fun W0 hA=>C0 hT hA hd hR d) (hk _ _ hs.res ?_ h2 (fun hx=>⟨R.v,by rw [b.2 hx];rfl⟩));cases ctx with
   | none=>trivial
   | some c =>
    rw [b.2 rfl];exact wU hc hn
  cases h
 cases h
theorem Gm {k:ES->Option β} {r:β} {c x y:Operand} (hop:o.op = .pick c x y) (ho:ops[i]?=some o) (hm:jV T ops lim i o) (hd:dU X o) (hg:Oe o.guard ctx=true) (hn:kF prot o.dst=true) (hs:Sub S W) (hc:od ops ctx prot W) (h:Lo lim i o c x y S k=some r) (hk:OW T X ops lim ctx prot i o l W q k r):Wk T.P X ops lim i (o :: l) W q:=by
 unfold Lo at h;split at h
 ·rename_i b u v d hcv hx hy hdd;split at h
  case h_2=>cases h
  rename_i hval0;have f:∀ z:Bool,ni lim i (.v .bool z)=true:=by
   intro z;cases lim with
   | none=>rfl
   | some ms =>
    cases hm':ms[i]? with
    | none=>simp only [ni,hm'] at hval0;cases hval0
    | some m =>
     cases hk':m.kl with
     | some j=>simp only [ni,hm',hk'] at hval0;cases hval0
     | none =>
      simp only [ni,hm',hk'];cases m.rf<;>rfl
  have g:∀ z:Bool,(b=true->u=z)->(b=false->v=z)->∀ W0,cK W0 (mh lim i S) (wb lim i S)->cf T.P X o W0 (gQ (qb W0 none) o.dst (.v .bool z)):=by
   intro z h1 h2 W0 hA;exact xF (rB hop (hA.pR hcv) (fun e=>by rw [<- h1 e];exact hA.pR hx) (fun e=>by rw [<- h2 e];exact hA.pR hy)) rfl hd.dm
  have a:∀ z:Bool,(b=true->u=z)->(b=false->v=z)->k (S.put d (.v .bool z))=some r->Wk T.P X ops lim i (o :: l) W q:=by
   intro z h1 h2 h3;refine rp (v:=.v .bool z) (r:=none) ho hm hs (Eu hc hg) hd.dm rfl (f z) (g z h1 h2) (hk (S.put d (.v .bool z)) _ ?_ (wU hc hn) h3 (fun _=>⟨_,rfl⟩));rw [hdd];exact hs.put
  split at h
  ·simp only [gA,BW,Qj] at hx;cases hx;exact a _ (fun e=>by rw [e];rfl) (fun e=>by rw [e];rfl) h
  ·simp only [gA,BW,Qj] at hy;cases hy;exact a _ (fun e=>by rw [e];rfl) (fun e=>by rw [e];rfl) h
  exact a _ (fun e=>by rw [e];rfl) (fun e=>by rw [e];rfl) h
 cases h
theorem HG (b:Bool) (t:Ty) (r:t.den):∃ p,(rO b t r).pv=some p:=by cases b<;>exact ⟨_,rfl⟩
theorem qi {g:Nat} (h:Nat.ble 1000000 g=false):real g=g:=by unfold real HK;rw [h]
theorem IH (m f:Nat):Nat.ble m (f+m)=true:=X8 (Nat.le_add_left m f)
theorem Jm (m f:Nat):HK m (f+m)=f:=by
 unfold HK;rw [IH];exact Xk f m
theorem Jl (f:Nat):real (f+1000000)=f:=Jm 1000000 f
theorem CM (own:List Nat) (f:Nat):sF own (.func f) = .const (.bool false)∨(Nat.ble 1000000 f=false/\sF own (.func f) = .func f)∨sF own (.func f) = .func (f+1000000):=by
 simp only [sF];cases h:Nat.ble 1000000 f with
 | true=>exact .inl rfl
 | false=>cases mem own (f+1000000000) with
  | true=>exact .inr (.inr rfl)
  | false=>exact .inr (.inl ⟨rfl,rfl⟩)
theorem KJ {own:List Nat} {x:Operand} {rd:Nat->Option df} {g:Nat} (h:gA rd (sF own x)=some (.v .fn g)) (hg:Nat.ble 1000000 g=false):gA rd x=some (.v .fn g):=by
 cases x with
 | func f =>
  rcases CM own f with e | ⟨_,e⟩ | e
  ·rw [e] at h;simp [gA,BW] at h
  ·rw [e] at h;exact h
  rw [e] at h;simp only [gA,Qj,df.v.injEq,heq_eq_eq,true_and] at h;rw [<- h,IH] at hg;cases hg
 | _=>exact h
theorem CJ {own:List Nat} {x:Operand} {g:Nat} (h:sF own x = .func g):x = .func (real g):=by
 cases x with
 | func f =>
  rcases CM own f with e | ⟨hf,e⟩ | e
  ·rw [e] at h;cases h
  ·rw [e] at h;rw [<- Operand.func.inj h,qi hf]
  rw [e] at h;rw [<- Operand.func.inj h,Jl]
 | _=>cases h
def uv (T:gU) (F:Nat) (X:Ctx):Prop:=tc T F=true->∀ v,X.pin v
theorem pin_of {j:Nat} {b:Bool} (hP:uv T F X) (h:(Nat.beq j cd&&!(tc T F&&b))=false):j=cd->∀ v,X.pin v:=by
 intro hj;subst hj;rw [Vv,Wr,XU,Qm] at h;exact hP h.1
theorem LG:∀ (j:Nat) (xs:List Operand),DY j xs=true->xs[j]?=some (.const (.slice none 0 0))
 | _,[],h=>by simp [DY] at h
 | 0,x :: l,h=>by
  simp only [DY] at h;split at h
  ·rfl
  cases h
 | n+1,x :: l,h=>by
  have:=LG n l h;simpa using this
theorem args_at {rd:Nat->Option df} {rr:Nat->Option (Option bZ)}:∀ (xs:List Operand) (ts:List Ty) (i:Nat) (vs:List df) (j:Nat),kT rd rr none i xs ts=some vs->xs[j]?=some (.const (.slice none 0 0))->∀ c,ts[j]?=some (.list c)->vs[j]?=some (.v (.list c) [])
 | [],[],i,vs,j,h,hj,c,hc=>by simp at hj
 | x :: xs,t :: ts,i,vs,j,h,hj,c,hc=>by
  simp only [kT,yu] at h;split at h
  ·rename_i v hv;split at h
   ·rename_i y hy;split at h
    ·rename_i l hl;cases h;cases j with
     | zero =>
      simp only [List.getElem?_cons_zero,Qj] at hj hc ⊢;subst hj hc;simp only [gA,BW,Qj] at hv;subst hv;simp only [coe,Qj] at hy;rw [<- hy]
     | succ j =>
      simp only [List.getElem?_cons_succ] at hj hc ⊢;exact args_at xs ts (i+1) l j hl hj c hc
    cases h
   cases h
  cases h
 | [],_ :: _,_,_,_,h,_,_,_=>by cases h
 | _ :: _,[],_,_,_,h,_,_,_=>by cases h
theorem C5 {t t':Ty} {r:t.den} {b a:t'.den} (h:(⟨t,r⟩:Σ t:Ty,t.den)=⟨t',b⟩) (hc:fC t' r=some a):a=b:=by
 cases h;obtain ⟨_,e⟩:=di hc;exact e
theorem Ew (hC:jw T call) (hP:uv T F X) {k:ES->Option β} {r:β} {c:Call} {g d j:Nat} {e:TypeId} {ts:List Ty} (hop:o.op = .call c) (hcl:c.callee = .value (.func g)) (hl:uY T g = .given j e) (hlow:Nat.ble 1000000 g=false) (hdd:o.dst=some d) (ho:ops[i]?=some o) (hm:jV T ops lim i o) (hd:dU X o) (hg:o.guard=none) (hs:Sub S W) (h:G2 T F call lim i o c g d ts j e S k=some r)
 (hk:∀ S' W',Sub S' W'->k S'=some r->Wk T.P X ops lim (i+1) l W' q):Wk T.P X ops lim i (o :: l) W q:=by
 unfold G2 at h;split at h
 ·rename_i hnil;have hj:=LG _ _ hnil;split at h
  ·rename_i vs q' hrow hts hod hvs;obtain ⟨rr,h1,h2⟩:=Q5 h;split at h2
   ·rename_i r2 hr2 hsev;obtain ⟨⟨fn,f1,f2,f3⟩,_,c0,y,y2,hv,b,hF⟩:=hC.given g j e vs rr hl h1;rw [qi hlow] at f1 hF;have n:=args_at _ _ _ _ _ hvs hj _ hts;rw [n] at hv;cases hv;have a:=C5 b hr2;subst a;refine Fb.step (W':=put (setRow (kill W d) d (bZ.arr e q' r2).row) o.dst (.own d)) (.inl hg) ?_ hd.dm (hk _ _ ?_ h2)
    ·obtain ⟨a1,a2⟩:=pd hs.agree (ln:=none) _ _ _ _ (fun j hj=>by cases hj) hvs;have s:W.rows d=none:=by rw [hs.rows,hrow];rfl
     refine I5 (X:=X) (S:=W) (R:=(bZ.arr e q' []).row) (j:=j) hop hcl f1 f2 f3 hF s (hd d hdd).2 rfl a1 hj ?_ (AX a2 0).2.2 hd.dm hod;simp only [dJ,n];rfl
    rw [hdd];exact ((pW (k:=d) (E:=S.env) (R:=S.rows) (W:=W) hs).set (k:=d) (r:=.arr e q' r2)).put (d:=d) (v:=.own d)
   cases h2
  cases h
 split at h
 ·rename_i qq vs hlent hvs;split at h
  ·rename_i e0 c0 l0 cj hrow htj hfl;rw [W9] at hfl;split at h
   ·rename_i qe hee hqe hao;obtain ⟨rr,h1,h2⟩:=Q5 h;split at h2
    ·rename_i r2 hr2 hsev;have he:=beq_true hee;subst he;have u:=qe.down;subst u;obtain ⟨⟨fn,f1,f2,f3⟩,_,c1,y,y2,hv,b,hF⟩:=hC.given g j e0 vs rr hl h1;rw [qi hlow] at f1 hF;have p:∀ {W0:St},cK W0 (mh lim i S) (wb lim i S)->aV W0 c.args.toList=some ((dJ j vs).map (Jf qq))/\(dJ j vs).all e9=true/\c1=c0/\HEq y l0:=by
      intro W0 hA;obtain ⟨a1,a2,e3,t3,y5,a,f⟩:=vC hA (j:=j) (k:=qq) (rd':=mh lim i S) (fun t v h=>h) _ _ 0 vs (Qy _) hvs hlent;rw [Nat.sub_zero] at a1 a2 f;refine ⟨a1,a2,?_⟩;rw [hrow] at a;rw [f] at hv;cases hv;have m:bZ.arr e0 c0 l0=mb e3 (.list c1) y:=by simpa using a
      simp only [mb,bZ.arr.injEq] at m;exact ⟨m.2.1.symm,m.2.2.symm⟩
     obtain ⟨_,_,ec,ey⟩:=p hs.agree;subst ec;cases eq_of_heq ey;have a:=C5 b hr2;subst a;refine Ho (j:=qq) (d:=d) (R:=(bZ.arr e0 c1 r2).row) ho hm hs hg hd.dm hdd hao hfl.2 (fun W0 hA=>?_) (hk _ _ ?_ h2)
     ·obtain ⟨a1,a2,_⟩:=p hA;have w:W0.rows qq=some (bZ.arr e0 c1 y).row:=hA.rows qq _ hrow;exact KD (X:=X) (S:=W0) hop hcl f1 f2 f3 hF w rfl a1 rfl a2 (fun hq v=>by
       have h3:=hfl.1;rw [hq,Vv,Wr,XU] at h3;exact hP h3 v) hd.dm hfl.2
     rw [hdd];exact ((pW (k:=qq) (E:=S.env) (R:=S.rows) (W:=W) hs).set (k:=qq) (r:=.arr e0 c1 r2)).put (d:=d) (v:=.own qq)
    cases h2
   cases h
  cases h
 cases h
theorem y7 (hT:cN T=true) (hP:uv T F X) {k:ES->Option β} {r:β} {t:TypeId} {x hi:Operand} (hop:o.op = .slice t x none (some hi) none) (ho:ops[i]?=some o) (hd:dU X o) (hg:o.guard=none) (hs:Sub S W) (h:xz T F lim o t x hi S k=some r)
 (hk:∀ S' W',Sub S' W'->k S'=some r->Wk T.P X ops lim (i+1) l W' q):Wk T.P X ops lim i (o :: l) W q:=by
 unfold xz at h;split at h
 ·rename_i d e q' j hh hdd he hx hy;split at h
  ·rename_i e' q2 l0 hrow;split at h
   ·rename_i l2 hl2 hee hkl;rw [W9] at hkl;rw [Qm] at hee;obtain ⟨a,h2⟩:=kg h;have a:=a _ rfl;obtain ⟨g,b⟩:=di hl2;cases g;have c:l2=l0:=b;subst c;have e1:=beq_true hee.1;subst e1;obtain ⟨hu,hM,_⟩:=nX hT he;obtain ⟨m,g1,g2,_⟩:=hM.info;have hA:cK W (find S.env) (fun k=>some (find S.rows k)):=hs.agree (i:=0) (lim:=none);have f:W.rows j=some ⟨e,q'.sz,l2.length,l2.flatMap q'.enc⟩:=by rw [hs.rows,hrow];rfl
    refine Fb.step (W':=put (setRow (kill W j) j (bZ.arr e q' (l2.take hh.toNat)).row) o.dst (.own j)) (.inl hg) ?_ hd.dm (hk _ _ ?_ h2)
    ·have:=Fl (X:=X) (S:=W) hop hu g1 (hA.ev hx rfl) f a.1 (jk hA hy) a.2.1 a.2.2 (fun hq v=>by
      have h3:=hkl.1;rw [hq,Vv,Wr,XU] at h3;exact hP h3 v) hkl.2 hd.dm
     have e2:(bZ.arr e q' (l2.take hh.toNat)).row=⟨e,q'.sz,hh.toNat,(l2.flatMap q'.enc).take (hh.toNat*q'.sz)⟩:=by
      simp only [bZ.row,nU];rw [Qd,QO Q2]
     rw [e2];exact this
    rw [hdd];exact ((pW (k:=j) (E:=S.env) (R:=S.rows) (W:=W) hs).set (k:=j) (r:=.arr e q' (l2.take hh.toNat))).put (d:=d) (v:=.own j)
   cases h
  cases h
 cases h
theorem DW (v:df) (p:PV) (h:(H6 v).pv=some p):v.pv=some p/\yt p=false:=by
 cases v with
 | v c x =>
  cases h;refine ⟨rfl,?_⟩;cases c<;>rfl
 | tup c x=>cases h
 | mp l=>cases h
 | any=>cases h
 | _=>cases h;exact ⟨rfl,rfl⟩
theorem JF (hT:cN T=true) {k:ES->Option β} {r:β} {t:TypeId} {x y z:Operand} (hop:o.op = .mapUpdate t x y z) (hdst:o.dst=none) (ho:ops[i]?=some o) (hd:dU X o) (hg:o.guard=none) (hs:Sub S W) (h:LL T lim t x y z S k=some r)
 (hk:∀ S' W',Sub S' W'->k S'=some r->Wk T.P X ops lim (i+1) l W' q):Wk T.P X ops lim i (o :: l) W q:=by
 unfold LL at h;split at h
 ·rename_i tm ll s n hmp hy hz hx;obtain ⟨kt,et,a,q1,q2,q3,q4⟩:=mp_m hT hmp;have hA:cK W (find S.env) (fun k=>some (find S.rows k)):=hs.agree (i:=0) (lim:=none);refine Fb.step (.inl hg) (I4 (P:=T.P) (X:=X) (S:=W) hop hdst q1 q2 (hA.ev hx rfl) (hA.pR hy) (hA.pR hz)) hd.dm (hk _ _ ?_ h);refine ⟨fun u v p b c=>?_,fun j=>hs.rows j⟩;simp only [find] at b;simp only [V.put];split at b
  ·rename_i hb;cases b;cases c;rw [Qk (beq_true hb)]
  rename_i hb;rw [Qc (beq_false hb)];rw [nV] at b;obtain ⟨v0,f3,rfl⟩:=Qr.1 b;obtain ⟨f4,f5⟩:=DW v0 p c;have:=hs.env u v0 p f3 f4;simp only [qC,this,Option.bind_some,f5,cond_false]
 cases h
theorem Hd {own:List Nat} (hP:uv T F X) (hC:jw T call) {k:ES->Option β} {r:β} {c:Call} {x:Operand} (hop:o.op = .call c) (hcl:c.callee = .value x) (ho:ops[i]?=some o) (hm:jV T ops lim i o) (hd:dU X o) (hg:Oe o.guard ctx=true) (hn:kF prot o.dst=true) (hs:Sub S W) (hc:od ops ctx prot W) (h:MA T F call lim ctx i o c (sF own x) S k=some r) (hk:OW T X ops lim ctx prot i o l W q k r):Wk T.P X ops lim i (o :: l) W q:=by
 unfold MA at h;split at h
 ·rename_i g d hx hdd;split at h
  ·rename_i ts hts hl;split at h
   ·rename_i vs hlow hvs;obtain ⟨rr,h1,h2⟩:=Q5 h;split at h2
    case h_2=>cases h2
    rename_i hval;have hx:=KJ hx hlow;obtain ⟨⟨fn,f1,f2,f3⟩,p,hp,hF⟩:=hC.fn g vs rr hl h1;rw [qi hlow] at f1 hF;refine rp (v:=rO (T.cV g) (T.out g) rr) (r:=none) ho hm hs (Eu hc hg) hd.dm rfl hval (fun W0 hA=>?_) (hk _ _ ?_ (wU hc hn) h2 (fun _=>⟨_,rfl⟩))
    ·obtain ⟨a1,a2⟩:=pd hA _ _ _ _ (fun j hj=>by cases hj) hvs;have:=Ht (X:=X) (S:=W0) hop hcl (.inr (hA.pR hx)) f1 f2 f3 a1 (AX a2 0).2.2 hF hd.dm;show cf T.P X o W0 (gQ W0 o.dst _);rw [hdd] at this ⊢;simp only [gQ,hp];exact this
    rw [hdd];exact hs.put
   cases h
  ·rename_i ts j e hts hl;split at h
   ·rename_i hfun hlow;have u:=KJ hx hlow;have b:x = .func g:=by
     have h3:x = .func (real g):=by
      refine CJ (own:=own) ?_;generalize sF own x=x' at hx hfun;cases x' with
      | func f =>
       simp only [gA,Qj] at hx;cases hx;rfl
      | _=>simp at hfun
     rw [qi hlow] at h3;exact h3
    exact Ew hC hP hop (by rw [hcl,b]) hl hlow hdd ho hm hd (yA hg) hs h (fun S' W' y w=>hk S' W' y trivial w (fun hx=>by cases hx))
   cases h
  ·rename_i ts j e hts hl;split at h
   ·rename_i kk hlent hfun;split at h
    ·rename_i r0 vs hko hrow hvs;split at h
     ·rename_i tj htj;split at h
      ·rename_i z0 hlc;obtain ⟨rr,h1,h2⟩:=Q5 h;split at h2
       ·rename_i v c2 y2 hout;split at h2
        ·rename_i qe hqe hrv;rw [Qm] at hrv;obtain ⟨⟨fn,f1,f2,f3⟩,p,hp,yy,hv,hF⟩:=hC.cd g j e vs rr v c2 y2 hl h1 hout;have q2:=qe.down;subst q2;have b:x = .func (real g):=by
          refine CJ (own:=own) ?_;generalize sF own x=x' at hx hfun;cases x' with
          | func f =>
           simp only [gA,Qj] at hx;cases hx;rfl
          | _=>simp at hfun
         refine rp (v:=v) (r:=some (kk,mb e tj y2)) ho hm hs (Eu hc hg) hd.dm hrv.1 hrv.2 (fun W0 hA=>?_) (hk _ _ ?_ trivial h2 (fun hx=>by cases hx))
         ·obtain ⟨a1,a2,e3,t3,y5,m,a⟩:=vC hA (j:=j) (k:=kk) (rd':=mh lim i S) (fun t v h=>h) _ _ 0 vs (Qy _) hvs hlent;rw [Nat.sub_zero] at a1 a2 a;rw [a] at hv;cases hv;rw [hrow] at m;cases m;have n:=Ac hlc;have he:e3=e:=by
           cases tj<;>(cases n;rfl)
          subst he;have s:W0.rows kk=some (mb e3 tj yy).row:=by
           have:=hA.rows kk _ hrow;cases tj<;>exact this
          have:=CC (X:=X) (S:=W0) (k:=kk) hop (by rw [hcl,b]) f1 f2 f3 hF s rfl a1 rfl a2 hd.dm (by simpa using hko);rw [hdd] at this ⊢;simp only [gQ,hp,qb];exact this
         rw [hdd];exact (hs.set (k:=kk) (r:=mb e tj y2)).put (d:=d) (v:=v)
        cases h2
       cases h2
      cases h
     cases h
    cases h
   cases h
  cases h
 cases h
theorem Cc (hT:cN T=true) (hP:uv T F X) {k:ES->Option β} {r:β} {c:Call} (hop:o.op = .call c) (hcl:c.callee = .builtin .append) (ho:ops[i]?=some o) (hm:jV T ops lim i o) (hd:dU X o) (hg:o.guard=none) (hs:Sub S W) (h:Cd T F lim i o c S k=some r)
 (hk:∀ S' W',Sub S' W'->k S'=some r->Wk T.P X ops lim (i+1) l W' q):Wk T.P X ops lim i (o :: l) W q:=by
 unfold Cd at h;split at h
 ·rename_i x y t t' d ha ht hdd;split at h
  ·rename_i e q' vx vy he hx hy;split at h
   ·rename_i b mm hb hmm htt;rw [Qm] at htt;have e0:=beq_true htt.1;subst e0;obtain ⟨hu,hM,_⟩:=nX hT he;obtain ⟨⟨inf,g1,g2⟩,p⟩:=OD hT hb;obtain ⟨B,z,k1,k2,k3,k4,k5⟩:=jr hM htt.2;rw [g1] at k1;cases k1;have m:=(hJ htt.2).2;split at h
    ·rename_i t1 j;split at h
     ·rename_i e' q2 l0 hrow hao;split at h
      ·rename_i l2 hl2 hee hkl;rw [W9] at hkl;have a:(l2.length+mm.length)*b<=140737488355328:=by
        split at h
        ·exact (kg h).1 _ rfl
        exact (kg h).1 _ rfl
       obtain ⟨A,u⟩:=di hl2;cases A;have w:l2=l0:=u;subst w;have e1:=beq_true hee;subst e1;have s:(l2.length+mm.length)*1<=(l2.length+mm.length)*b:=Wi _ p;have e4:(⟨e,inf.size,l2.length+mm.length,l2.flatMap q'.enc++mm.flatMap q'.enc⟩:Row)=(bZ.arr e q' (l2++mm)).row:=by
        simp only [bZ.row,Qf,Xf,k3]
       split at h
       case h_2 =>
        rename_i hkp;rw [hkp,Bool.and_false,Bool.not_false,Bool.and_true] at hkl;obtain ⟨_,h2⟩:=kg h;have e5:(Ty.pv (.list q') (l2++mm)) = .cv (.row (l2.length+mm.length) (l2.flatMap q'.enc++mm.flatMap q'.enc)):=by
         show PV.cv (.row (l2++mm).length ((l2++mm).flatMap q'.enc))=_;rw [Qf,Xf]
        refine M8 (j:=j) (d:=d) (c:=.row (l2.length+mm.length) (l2.flatMap q'.enc++mm.flatMap q'.enc)) rfl ho hm hs hg hd.dm hdd hao (fun W0 hA=>?_) (hk _ _ ?_ h2)
        ·have n:ev W0 (.tmp t1)=some (.own j):=hA.ev hx rfl;have g:=hA.ev hy (fF hmm);have f:W0.rows j=some ⟨e,q'.sz,l2.length,l2.flatMap q'.enc⟩:=hA.rows j _ hrow;exact xh (X:=X) (S:=W0) hop hcl (iQ ha) (iQ ht) hu g1 k2 (by rw [k4,k3]) (by rw [k3];exact m) n f rfl k3.symm g (by rw [k3,dZ]) (qP mm) (by
          show l2.length+mm.length<=maxLen;simp only [maxLen];omega) (by rw [g2];exact a) (beq_false hkl.1) hkl.2 hd.dm
        rw [hdd];have h5:=(CK (k:=j) (E:=S.env) (R:=S.rows) (W:=W) hs).put (d:=d) (v:=.v (.list q') (l2++mm));simp only [gQ,df.pv,e5] at h5;exact h5
       obtain ⟨_,h2⟩:=kg h;refine Ho (j:=j) (d:=d) (R:=(bZ.arr e q' (l2++mm)).row) ho hm hs hg hd.dm hdd hao hkl.2 (fun W0 hA=>?_) (hk _ _ ?_ h2)
       ·have n:ev W0 (.tmp t1)=some (.own j):=hA.ev hx rfl;have g:=hA.ev hy (fF hmm);have f:W0.rows j=some ⟨e,q'.sz,l2.length,l2.flatMap q'.enc⟩:=hA.rows j _ hrow;have:=xi (X:=X) (S:=W0) hop hcl (iQ ha) (iQ ht) hu g1 k2 (by rw [k4,k3]) (by rw [k3];exact m) n f rfl k3.symm g (by rw [k3,dZ]) (qP mm) (by
         show l2.length+mm.length<=maxLen;simp only [maxLen];omega) (by rw [g2];exact a) (pin_of hP hkl.1) hkl.2 hd.dm
        rw [<- e4];exact this
       rw [hdd];exact ((pW (k:=j) (E:=S.env) (R:=S.rows) (W:=W) hs).set (k:=j) (r:=.arr e q' (l2++mm))).put (d:=d) (v:=.own j)
      cases h
     cases h
    ·split at h
     ·rename_i hrow hval hro;obtain ⟨a,h2⟩:=kg h;have a:=a _ rfl;have s:mm.length*1<=mm.length*b:=Wi _ p;refine rp (v:=.own d) (r:=some (d,.arr e q' mm)) ho hm hs (.inl hg) hd.dm hro hval (fun W0 hA=>?_) (hk _ _ ?_ h2)
      ·have g:=hA.ev hy (fF hmm);have f:W0.rows d=none:=hA.rows d _ hrow;have:=AD (X:=X) (W:=W0) (k:=d) hop hcl (iQ ha) (iQ ht) hu g1 k2 (by rw [k4,k3]) (by rw [k3];exact m) g (by rw [k3,dZ]) (qP mm) (by simp only [maxLen];omega) (by rw [g2];exact a) f (hd d hdd).2 hd.dm;rw [k3] at this;rw [hdd] at this ⊢;exact this
      rw [hdd];have h5:Sub (S.set d (.arr e q' mm)) (setRow W d (bZ.arr e q' mm).row):=hs.set;exact h5.put (d:=d) (v:=.own d)
     cases h
    cases h
   cases h
  cases h
 cases h
end
section
variable {T:gU} {X:Ctx} {ops:List Oper} {lim:Option (List Meta)} {F:Nat} {call:(g:Nat)->List df->Option (T.out g).den}
theorem Nf {i:Nat} {o:Oper} {t:Ty} {y:t.den} (hm:jV T ops lim i o) (hg:u7 T o=none):ni lim i (.v t y)=true:=by
 cases lim with
 | none=>rfl
 | some ms =>
  obtain ⟨m,h1,_,_,h4⟩:=hm;have hk:m.kl=none:=h4.resolve_right (fun h=>by obtain ⟨_,t,ht⟩:=h;rw [hg] at ht;cases ht);simp only [ni,h1,hk];cases m.rf<;>rfl
theorem HL {i:Nat} {S S':ES} {t:Nat} {v:df} (h:mh lim i S t=some v) {t':Nat} {u:df} {c:Ty} {y:c.den} (hv:u = .v c y) (hf:find S'.env t'=some u) (ht:t'=t):mh lim i S' t'=some u:=by
 subst ht;subst hv;cases lim with
 | none=>exact hf
 | some ms =>
  cases hm:ms[i]? with
  | none=>simp only [mh,hm] at h;cases h
  | some m =>
   cases hb:mem m.rt t' with
   | false=>simp only [mh,hm,hb] at h;cases h
   | true =>
    simp only [mh,hm,hb,hf];cases m.rf<;>rfl
theorem Ly (hT:cN T=true) (hC:jw T call) (hP:uv T F X) {β:Type} {S:ES} {W:St} {o:Oper} {ctx:Option (Nat×Bool)} {prot:List Nat} {i:Nat} {l:List Oper} {q:St->Prop} {k:ES->Option β} {r:β} (ho:ops[i]?=some o) (hm:jV T ops lim i o) (hd:dU X o) (hg:Oe o.guard ctx=true) (hn:kF prot o.dst=true) (hs:Sub S W) (hc:od ops ctx prot W) (h:opE T F call lim ctx i o S k=some r) (hk:OW T X ops lim ctx prot i o l W q k r):Wk T.P X ops lim i (o :: l) W q:=by
 have d:∀ (k':ES->Option β),uK T F lim ctx i o (ov ctx lim ((S.gL (handed T ((find T.own F).getD []) [] S o)).fresh ((find T.own F).getD []) o) S) k=some r->Wk T.P X ops lim i (o :: l) W q:=by
  intro _ h;obtain ⟨W1,h1,h2,h3,h4⟩:=rq (T:=T) (X:=X) (lim:=lim) (i:=i) (ctx:=ctx) (A:=(S.gL (handed T ((find T.own F).getD []) [] S o)).fresh ((find T.own F).getD []) o) (fun a w hr=>u9 _ o a w (gE _ _ a w hr)) hs hc;refine h4 _ _ (DI hT ho hm hd hg hn h1 h2 h (fun S' W' j g m n=>hk S' W' j g m (fun hx=>?_)));rw [<- h3 hx];exact n hx
 unfold opE at h;split at h
 ·rename_i c hop;split at h
  ·rename_i x hcl;obtain ⟨W1,h1,h2,h3,h4⟩:=rq (T:=T) (X:=X) (lim:=lim) (i:=i) (ctx:=ctx) (A:=S.gL (mT S (kept T (sF ((find T.own F).getD []) x) c.args.toList))) (gE _ _) hs hc;refine h4 _ _ (Hd hP hC hop hcl ho hm hd hg hn h1 h2 h (fun S' W' j g m n=>hk S' W' j g m (fun hx=>?_)));rw [<- h3 hx];exact n hx
  ·rename_i b hcl;split at h
   ·exact d k h
   rename_i hb;split at h
   ·have e:c.callee = .builtin .append:=by
     rw [hcl];cases b<;>first | rfl | (cases hb;done)
    have f:o.guard=none:=yA hg;obtain ⟨W1,h1,h2,h3,h4⟩:=rq (T:=T) (X:=X) (lim:=lim) (i:=i) (ctx:=none) (prot:=prot) (ops:=ops) (A:=(S.gL (mT S (c.args.toList.drop 1))).fresh ((find T.own F).getD []) o) (fun a w hr=>u9 _ o a w (gE _ _ a w hr)) hs trivial;exact h4 _ _ (Cc hT hP hop e ho hm hd f h1 h (fun S' W' j g=>hk S' W' j trivial g (fun hx=>by cases hx)))
   cases h
  cases h
 ·rename_i c x y hop;exact Gm hop ho hm hd hg hn hs hc h hk
 ·rename_i t x y z hop;split at h
  ·rename_i hdst;exact JF hT hop hdst ho hd (yA hg) hs h (fun S' W' j g=>hk S' W' j trivial g (fun hx=>by cases hx))
  cases h
 ·rename_i t x hi hop;split at h
  ·exact y7 hT hP hop ho hd (yA hg) hs h (fun S' W' j g=>hk S' W' j trivial g (fun hx=>by cases hx))
  exact d k h
 exact d k h
theorem zA (hT:cN T=true) (hC:jw T call) (hP:uv T F X) (hdst:∀ (n:Nat) (o:Oper),ops[n]?=some o->dU X o) (hmeta:∀ (n:Nat) (o:Oper),ops[n]?=some o->jV T ops lim n o) :
 ∀ (n:Nat) (β:Type) (ctx:Option (Nat×Bool)) (prot:List Nat) (i:Nat) (l:List Oper) (S:ES) (K:ES->Option β) (r:β),run T F call ops lim n β ctx prot i l S K=some r->∀ (W:St) (q:St->Prop),(∀ (m:Nat) (o:Oper),l[m]?=some o->ops[i+m]?=some o)->Sub S W->od ops ctx prot W ->
  (∀ S' W',Sub S' W'->K S'=some r->(ctx.isSome=true->Frame l W W')->q W')->Wk T.P X ops lim i l W q:=by
 intro n
 induction n with
 | zero=>intro β ctx prot i l S K r h;cases h
 | succ n ih =>
  intro β ctx prot i l S K r h W q hl hs hc hK;cases l with
  | nil=>exact Ko (hK S W hs h (fun _=>yC _ _))
  | cons o l' =>
   have ho:=hl 0 o rfl;rw [Nat.add_zero] at ho;simp only [run] at h;split at h
   ·rename_i hg;split at h
    ·cases h
    rename_i hn;refine Ly hT hC hP ho (hmeta i o ho) (hdst i o ho) hg hn hs hc h (fun S' W' g1 g2 g3 g4=>ih β ctx prot (i+1) l' S' K r g3 W' q (fun m o' hm=>?_) g1 g2 (fun S2 W2 k1 k2 k3=>hK S2 W2 k1 k2 (fun hx=>?_)))
    ·have:=hl (m+1) o' (by simpa using hm);rw [show i+1+m=i+(m+1) by omega];exact this
    obtain ⟨v,hv⟩:=g4 hx;exact vd (v:=v) (by rw [<- hv];exact k3 hx)
   rename_i hg;split at h
   ·cases h
   rename_i j w hgd;split at h
   ·cases h
   rename_i t htj;obtain ⟨oj,hj,Y⟩:=Q5 htj;split at h
   ·cases h
   rename_i G pk rest hcut;obtain ⟨R,px,py,c⟩:=Iy _ _ _ _ hcut;obtain ⟨W1,h1,h2,h3,h4⟩:=rq (T:=T) (X:=X) (lim:=lim) (i:=i) (ctx:=ctx) (A:=ES.mG T ((find T.own F).getD []) [] S G) (qO _ _ _ _) hs hc;generalize ov ctx lim (ES.mG T ((find T.own F).getD []) [] S G) S=S1 at h h1;split at h
   ·rename_i b c0 x y d hft hin hpg hpn hpo hpd;rw [c] at hpo;cases hpo;split at h
    ·rename_i other b1 hoth htst;obtain ⟨y',e1,e2⟩:=Q5 h;refine h4 _ _ ?_;rw [R];have s:∀ (m:Nat) (o':Oper),(G++pk :: rest)[m]?=some o'->ops[i+m]?=some o':=by rw [<- R];exact hl
     have hG:∀ (m:Nat) (o':Oper),G[m]?=some o'->ops[i+m]?=some o':=fun m o' hm=>s m o' (by rw [Vm (Qx.1 hm).1];exact hm);have a:ops[i+G.length]?=some pk:=s G.length pk (by rw [Vj (Qn _),XP];rfl);have U:∀ (m:Nat) (o':Oper),rest[m]?=some o'->ops[i+G.length+1+m]?=some o':=fun m o' hm=>by
      have:=s (G.length+1+m) o' (by rw [Vj Q2,show G.length+1+m-G.length=m+1 by omega];simpa using hm);rw [show i+G.length+1+m=i+(G.length+1+m) by omega];exact this
     have Z:=El G i hin;have H:∀ o'∈G,kF (t :: prot) o'.dst=true:=fun o' ho'=>by
      obtain ⟨m,hm⟩:=List.getElem?_of_mem ho';exact (Z m o' hm).1
     have B:∀ o'∈G,o'.dst≠some t:=fun o' ho' e=>by
      have:=H o' ho';rw [e] at this;simp [kF,mem,Vv] at this
     have N:∀ o'∈G,kF prot o'.dst=true:=fun o' ho'=>by
      have:=H o' ho';cases hd:o'.dst with
      | none=>rfl
      | some d' =>
       rw [hd] at this;simp only [kF,Xb] at this ⊢;cases hb:mem prot d' with
       | false=>rfl
       | true =>
        have:mem (t :: prot) d'=true:=mem_iff.2 (Qa _ (mem_iff.1 hb));simp_all
     have Q:W1.env t=some (.bool b):=h1.env t _ _ hft rfl;have k:∀ W',Frame G W1 W'->∀ (Sp:ES),Sub Sp W'->(∀ W0,cK W0 (mh lim (i+G.length) Sp) (wb lim (i+G.length) Sp)->cf T.P X pk W0 (gQ (qb W0 none) pk.dst (.v .bool y')))->Wk T.P X ops lim (i+G.length) (pk :: rest) W' q:=by
      intro W' hf Sp I J;have aa:=J1 h2 hf N;refine rp (v:=.v .bool y') (r:=none) a (hmeta _ _ a) I (Eu aa hpg) (hdst _ _ a).dm rfl (Nf (hmeta _ _ a) (by rw [u7,c])) J ?_;refine ih β ctx prot (i+G.length+1) rest _ K r e2 _ q U ?_ (wU aa hpn) (fun S2 W2 k1 k2 k3=>hK S2 W2 k1 k2 (fun hx=>?_))
      ·rw [hpd];exact (xj h1 hf).put
      have ab:=vd (v:=.v .bool y') (k3 hx);rw [h3 hx] at hf;rw [R];exact ⟨ab.1.trans hf.1,fun u hu=>(ab.2 u (fun o' ho'=>hu o' (WK _ ho'))).trans (hf.2 u (fun o' ho'=>hu o' (Ww _ ho')))⟩
     have V:∀ (Sx:ES),find Sx.env t=some (.v .bool b)->mh lim (i+G.length) Sx t=some (.v .bool b):=by
      intro Sx hx;unfold qV at htst;split at htst
      ·rename_i b' hb';exact HL (v:=.v .bool b') (t:=t) hb' rfl hx rfl
      cases htst
     have ac:find (S1.forget G).env t=some (.v .bool b):=by rw [kS G S1 t B];exact hft
     refine wk_app ?_;have D:b=w->run T F call ops lim n Bool (some (j,w)) (t :: prot) i G S1 (fun S'=>qV (mh lim (i+G.length) S') (match w with | true=>px | false=>py))=some y'->Wk T.P X ops lim i G W1 (fun W'=>Wk T.P X ops lim (i+G.length) (pk :: rest) W' q):=by
      intro hbw hrun;refine ih Bool (some (j,w)) (t :: prot) i G S1 _ y' hrun W1 _ hG h1 ⟨oj,t,hj,Y,Q7,by rw [Q,hbw]⟩ (fun S' W' k1 k2 k3=>?_);have hf:=k3 rfl;have M:W'.env t=some (.bool b):=by rw [hf.2 t B];exact Q
      have I:Sub (S'.put t (.v .bool b)) W':=by
       refine ⟨fun u v p f1 f2=>?_,k1.rows⟩;simp only [ES.put,find] at f1;split at f1
       ·rename_i hb;cases f1;have:=beq_true hb;subst this;cases f2;exact M
       exact k1.env u v p f1 f2
      refine k W' hf (S'.put t (.v .bool b)) I (fun W0 hA=>?_);have C:ev W0 (.tmp t)=some (.bool b):=hA.pR (x:=.tmp t) (V _ (by simp [ES.put,find,Vv]));have J:∀ z:Operand,qV (mh lim (i+G.length) S') z=some y'->ev W0 z=some (.bool y'):=by
       intro z hz;unfold qV at hz;split at hz
       ·rename_i b' hb';cases hz;cases z with
        | tmp u =>
         have L:mh lim (i+G.length) S' u=some (.v .bool y'):=hb'
         by_cases cu:u=t
         ·subst cu;have:=k1.env u _ _ (qj L) rfl;rw [M] at this;cases this;exact C
         refine hA.pR (x:=.tmp u) (t:=.bool) (y:=y') ?_;have ad:find (S'.put t (.v .bool b)).env u=find S'.env u:=by
          simp only [ES.put,find];have:Nat.beq u t=false:=by
           cases hb:Nat.beq u t with
           | false=>rfl
           | true=>exact absurd (beq_true hb) cu
          rw [this]
         exact HL (t:=u) L rfl (by rw [ad];exact qj L) rfl
        | const cc=>exact hA.pR (x:=.const cc) hb'
        | func f=>cases hb'
        | global g=>cases hb'
       cases hz
      have hz:=J _ k2;refine HS (hdst _ _ a) hpd c C (fun hb=>?_) (fun hb=>?_)
      ·rw [hbw] at hb;subst hb;exact hz
      rw [hbw] at hb;subst hb;exact hz
     have O:b = !w->other=y'->Wk T.P X ops lim i G W1 (fun W'=>Wk T.P X ops lim (i+G.length) (pk :: rest) W' q):=by
      intro hbw hy';subst hy';refine C4 (i:=i) hdst hmeta hj Y (Q7 (l:=prot)) G i W1 hG (Qn _) Z (by rw [Q,hbw]) (fun m hm1 hm2=>Q2) (fun W' hf M=>?_);refine k W' hf (S1.forget G) (xj h1 hf) (fun W0 hA=>?_);have C:ev W0 (.tmp t)=some (.bool b):=hA.pR (x:=.tmp t) (V _ ac);have hz:=EZ hA hoth;refine HS (hdst _ _ a) hpd c C (fun hb=>?_) (fun hb=>?_)
      ·have:w=false:=by rw [hb] at hbw;cases w with
        | false=>rfl
        | true=>cases hbw
       subst this;exact hz
      have:w=true:=by rw [hb] at hbw;cases w with
       | false=>cases hbw
       | true=>rfl
      subst this;exact hz
     cases w with
     | true =>
      cases b with
      | true=>exact D rfl e1
      | false=>exact O rfl (QF e1)
     | false =>
      cases b with
      | true=>exact O rfl (QF e1)
      | false=>exact D rfl e1
    cases h
   cases h
end
section
variable {T:gU} {X:Ctx} {F nt:Nat} {call:(g:Nat)->List df->Option (T.out g).den} {β:Type}
theorem Iw:∀ (ops:List Oper),BR nt ops=true->X.nt=nt->nt<=cd->∀ (n:Nat) (o:Oper),ops[n]?=some o->dU X o
 | o :: ops,h,hX,hl,n,o',hn,d,hd=>by
  simp only [BR,Qm] at h;cases n with
  | zero =>
   cases hn;have h1:=h.1;simp only [hd] at h1;have h2:d<nt:=Qe h1;exact ⟨by rw [hX];exact h2,Nat.ne_of_lt (QN h2 hl)⟩
  | succ n=>exact Iw ops h.2 hX hl n o' (by simpa using hn) d hd
 | [],_,_,_,n,o',hn,_,_=>by simp at hn
theorem AY (hT:cN T=true) (hC:jw T call) (hP:uv T F X) (hmix:T.P.follows .mixedOrders=true) {id:Nat} {ops:List Oper} {draw:Bool} {S:ES} {K:ES->Option β} {r:β} (hX:X.nt=nt) (h:region T F nt call ops draw S K=some r) {W:St} {Q:gM} (hs:Sub S W) (hK:∀ S' W',Sub S' W'->K S'=some r->Q .normal W'):kp T.P X (.region id ops.toArray draw) W Q:=by
 unfold region at h;split at h
 ·cases h
 rename_i hd;rw [Qm] at hd;have b:=Iw (X:=X) ops hd.1 hX (Qe hd.2);split at h
 ·rename_i g hh;split at h
  ·rename_i y hy;refine hC.hook ops draw S g y hh hy X id W Q (fun n o hn=>?_) hs (fun W' e=>hK _ _ e h);unfold dm;cases hdd:o.dst with
   | none=>trivial
   | some d=>exact (b n o hn d hdd).1
  cases h
 split at h
 ·have:=zA (X:=X) (ops:=ops) (lim:=none) (F:=F) hT hC hP b (fun n o _=>trivial) _ β none [] 0 ops S K r h W (fun S'=>Q .normal S') (fun m o hm=>by rw [QS];exact hm) hs trivial (fun S' W' e h2 _=>hK S' W' e h2);exact ak (NL this)
 dsimp only at h;split at h
 ·rename_i hm hA hO;obtain ⟨g1,g2⟩:=D3 ops _ hm;have:=zA (X:=X) (ops:=ops) (lim:=some _) (F:=F) hT hC hP b g2 _ β none [] 0 ops (ES.mG T ((find T.own F).getD []) [] S ops) K r h (ES.mG T ((find T.own F).getD []) [] S ops).st (fun S'=>Q .normal S') (fun m o hm=>by rw [QS];exact hm) (pV _) trivial (fun S' W' e h2 _=>hK S' W' e h2);refine eQ (fun a w hr=>qO (T:=T) ((find T.own F).getD []) [] ops S a w (kY hs a w hr)) ?_;have c:=Mh (X:=X) (P:=T.P) (q:=fun S'=>Q .normal S') g1.symm ops 0 _ Q2 this;rw [V9] at c;exact FI _ _ c hA hO hmix
 cases h
theorem uW:∀ (l:List (Nat×Bool×TypeId)) (S:ES),∀ a w,Rel X S.st a w->Rel X (z7 l S).st a w
 | [],S,a,w,h=>h
 | x :: l,S,a,w,h=>by
  simp only [z7];split
  ·exact uW l S a w h
  exact uW l _ a w (gE _ _ a w h)
theorem gH {S:ES}:∀ (l:List (Nat×Bool×TypeId)) (t:Nat) (v:df),find (je T S l) t=some v->∃ u,find S.env t=some u/\u.pv=v.pv
 | [],t,v,h=>by cases h
 | x :: l,t,v,h=>by
  simp only [je] at h;split at h
  ·exact gH l t v h
  ·exact gH l t v h
  ·exact gH l t v h
  ·exact gH l t v h
  ·rename_i hf;split at h
   ·rename_i c hc;simp only [find] at h;split at h
    ·rename_i hb;cases h;rw [beq_true hb];exact ⟨_,hf,rfl⟩
    exact gH l t v h
   exact gH l t v h
  ·rename_i u _ _ _ _ _ hf;simp only [find] at h;split at h
   ·rename_i hb;cases h;rw [beq_true hb];exact ⟨_,hf,rfl⟩
   exact gH l t v h
  exact gH l t v h
theorem jd {S:ES}:∀ (l:List (Nat×Bool×TypeId)) (t:Nat) (v:df),(t,v)∈je T S l->(∀ fs,v≠.st fs)/\∀ c x,v≠.tup c x
 | [],t,v,h=>by cases h
 | x :: l,t,v,h=>by
  simp only [je] at h;split at h
  ·exact jd l t v h
  ·exact jd l t v h
  ·exact jd l t v h
  ·exact jd l t v h
  ·split at h
   ·rcases Qo.1 h with h | h
    ·cases h;exact ⟨fun fs e=>(by cases e),fun c x e=>(by cases e)⟩
    exact jd l t v h
   exact jd l t v h
  ·rename_i u h1 h2 h3 h4 h5 hf;rcases Qo.1 h with h | h
   ·cases h;exact ⟨fun fs e=>h3 fs e,fun c x e=>h4 c x e⟩
   exact jd l t v h
  exact jd l t v h
theorem uM {S:ES} {acc:List (Nat×bZ)} (hacc:∀ k r,find acc k=some r->find S.rows k=some r):∀ (js:List Nat) (k:Nat) (r:bZ),find (lU S acc js) k=some r->find S.rows k=some r
 | [],k,r,h=>hacc k r h
 | j :: js,k,r,h=>by
  simp only [lU] at h;split at h
  ·rename_i r0 hr0;simp only [find] at h;split at h
   ·rename_i hb;cases h;rw [beq_true hb];exact hr0
   exact uM hacc js k r h
  exact uM hacc js k r h
theorem uL {S:ES} {acc:List (Nat×bZ)} {k:Nat} {r:bZ} (h:find acc k=some r) (hr:find S.rows k=some r):∀ (js:List Nat),find (lU S acc js) k=some r
 | []=>h
 | j :: js=>by
  simp only [lU];split
  ·rename_i r0 hr0;simp only [find];split
   ·rename_i hb;rw [beq_true hb] at hr;rw [<- hr0,hr]
   exact uL h hr js
  exact uL h hr js
theorem rF {S:ES}:∀ (l:List (Nat×df)) (k:Nat) (r:bZ),find (keepRows S l) k=some r->find S.rows k=some r
 | [],k,r,h=>by
  simp only [keepRows] at h;split at h
  ·rename_i r0 hr0;simp only [find] at h;split at h
   ·rename_i hb;cases h;rw [beq_true hb];exact hr0
   cases h
  cases h
 | x :: l,k,r,h=>by
  simp only [keepRows] at h;split at h
  ·exact rF l k r h
  split at h
  ·rename_i r0 hr0;simp only [find] at h;split at h
   ·rename_i hb;cases h;rw [beq_true hb];exact hr0
   exact uM (fun k r h=>rF l k r h) _ k r h
  exact rF l k r h
theorem ue {S:ES}:∀ (l:List (Nat×df)) (t:Nat) (v:df) (k:Nat) (r:bZ),(t,v)∈l->leadsTo v=some k->find S.rows k=some r->find (keepRows S l) k=some r
 | x :: l,t,v,k,r,hm,hv,hr=>by
  simp only [keepRows];rcases Qo.1 hm with h | h
  ·subst h;simp only [hv,hr,find,Vv]
  split
  ·exact ue l t v k r h hv hr
  split
  ·rename_i k0 _ r0 hr0;simp only [find];split
   ·rename_i hb;have:=beq_true hb;subst this;rw [hr] at hr0;exact hr0.symm
   exact uL (ue l t v k r h hv hr) hr _
  exact ue l t v k r h hv hr
theorem LF (lv:List (Nat×Bool×TypeId)) (S:ES):∀ a w,Rel X S.st a w->Rel X (norm T lv S).st a w:=by
 intro a w h;have h1:=uW lv S a w h;unfold norm;generalize z7 lv S=S1 at h1;dsimp only;split
 case h_2=>exact h1
 rename_i hown;have env:∀ t p,(ES.st ⟨je T S1 lv,keepRows S1 (je T S1 lv)⟩).env t=some p->S1.st.env t=some p/\∃ v,(t,v)∈je T S1 lv/\v.pv=some p:=by
  intro t p ht;simp only [ES.st] at ht ⊢;obtain ⟨v,h2,h3⟩:=Q5 ht;obtain ⟨u,h4,h5⟩:=gH lv t v h2;exact ⟨by rw [h4];simp only [Option.bind_some,h5,h3],v,iB h2,h3⟩
 have rows:∀ k r,(ES.st ⟨je T S1 lv,keepRows S1 (je T S1 lv)⟩).rows k=some r->S1.st.rows k=some r:=by
  intro k r hk;simp only [ES.st] at hk ⊢;obtain ⟨x,h2,rfl⟩:=Qr.1 hk;rw [rF _ k x h2];rfl
 refine h1.less (fun t p ht=>(env t p ht).1) rows (fun t p ht w F L v hv=>?_) (fun j r hj=>?_)
 ·obtain ⟨_,u,hu,hp⟩:=env t p ht;have jg:∀ k r,leadsTo u=some k->S1.st.rows k=some r->(ES.st ⟨je T S1 lv,keepRows S1 (je T S1 lv)⟩).rows k=some r:=by
   intro k r hk hr;simp only [ES.st] at hr ⊢;obtain ⟨x,h2,rfl⟩:=Qr.1 hr;rw [ue _ t u k x hu hk h2];rfl
  obtain ⟨f,g⟩:=jd lv t u hu;cases u with
  | v c x =>
   cases hp;have d:closed (c.pv x)=true:=ko c x;generalize c.pv x=p at hv d;cases hv with
   | cv h=>exact .cv h
   | ag hl h=>exact .ag hl h
   | pr vs hs hF hc hd=>exact .pr vs hs hF hc hd
   | tup=>cases d
   | own=>cases d
   | win=>cases d
   | po=>cases d
   | map=>cases d
  | tup c x=>exact absurd rfl (g c x)
  | st fs=>exact absurd rfl (f fs)
  | nilS=>cases hp;cases hv with | cv h=>exact .cv h
  | undef=>cases hp;cases hv with | cv h=>exact .cv h
  | any=>cases hp
  | own k =>
   cases hp;cases hv with
   | own h=>exact .own (jg _ _ rfl h)
  | po k off p =>
   cases hp;cases hv with
   | po h hL ho=>exact .po (jg _ _ rfl h) hL ho
  | pe k i sz off p =>
   cases hp;cases hv with
   | po h hL ho=>exact .po (jg _ _ rfl h) hL ho
  | pr c x =>
   cases hp;cases hv with
   | pr vs hs hF hc hd=>exact .pr vs hs hF hc hd
  | pa k off p n i sz =>
   cases hp;cases hv with
   | po h hL ho=>exact .po (jg _ _ rfl h) hL ho
  | wn k n =>
   cases hp;cases hv with
   | win h hL ho hn hb ha=>exact .win (jg _ _ rfl h) hL ho hn hb ha
  | mp l =>
   cases hp;cases hv with
   | map hF hn hb he=>exact .map hF hn hb he
 cases hf:find (keepRows S1 (je T S1 lv)) j with
 | some x=>exact .inl ⟨x.row,by simp only [ES.st,hf,Option.map_some]⟩
 | none =>
  refine .inr ⟨fun k r hk ho=>?_,fun t p ht=>?_⟩
  ·simp only [ES.st] at hk;obtain ⟨x,h2,rfl⟩:=Qr.1 hk;cases x with
   | arr e t l=>exact ox (ki l) j
   | box e t y=>exact jD t y j
   | obox e fs =>
    show (dP fs).any (iN j)=false;cases hc:(dP fs).any (iN j) with
    | false=>rfl
    | true =>
     have hm:=(gG fs j).1 hc;simp only [Lr,QA] at hown;have:=hown _ (iB h2) j hm;simp only [ES.st] at hj;obtain ⟨y,hy,_⟩:=Qr.1 hj;rw [hf,hy] at this;cases this
  obtain ⟨_,u,hu,hp⟩:=env t p ht;obtain ⟨f,g⟩:=jd lv t u hu;cases u with
  | v c x =>
   cases hp;cases c with
   | pair a b=>exact jD (.pair a b) x j
   | arr n e=>exact jD (.arr n e) x j
   | _=>rfl
  | tup c x=>exact absurd rfl (g c x)
  | st fs=>exact absurd rfl (f fs)
  | any=>cases hp
  | _=>cases hp;rfl
theorem sN (F id:Nat) (S:ES):∀ a w,Rel X S.st a w->Rel X (mU T F id S).st a w:=by
 intro a w h;unfold mU;split
 ·exact h
 split
 ·exact h
 exact LF _ _ a w h
def Says (T:gU) (X:Ctx) (c:Code) (run:ES->(Exit->ES->Option β)->Option β):Prop :=
 ∀ (S:ES) (K:Exit->ES->Option β) (r:β),run S K=some r->∀ (W:St) (Q:gM),Sub S W->(∀ e S' W',Sub S' W'->K e S'=some r->Q e W')->kp T.P X c W Q
theorem ym {c:Code} {stp:ES->(Exit->ES->Option β)->Option β} {nm:ES->ES} (hnm:∀ S a w,Rel X (ES.st S) a w->Rel X (nm S).st a w) (h:Says T X c stp):∀ (n:Nat) (S:ES) (K:Exit->ES->Option β) (r:β),Ea nm stp n S K=some r->∀ (W:St) (Q:gM),Sub S W->(∀ e S' W',Sub S' W'->K e S'=some r->Q e W')->wA T.P X c W Q
 | 0,S,K,r,hr,W,Q,hs,hK=>by cases hr
 | n+1,S,K,r,hr,W,Q,hs,hK=>by
  refine bH (h S _ r hr W _ hs (fun e S' W' d b=>?_));cases e with
  | normal=>exact ru (fun a w hr=>hnm S' a w (kY d a w hr)) (ym hnm h n (nm S') K r b _ Q (pV _) hK)
  | _=>exact hK _ _ _ d b
theorem o6 (hT:cN T=true) (hC:jw T call) (hP:uv T F X) (hmix:T.P.follows .mixedOrders=true) (hX:X.nt=nt) {n:Nat}:∀ (c:Code),Says T X c (fun S (K:Exit->ES->Option β)=>code T F nt call n c S K):=by
 intro c
 induction c with
 | skip=>intro S K r h W Q hs hK;exact aE (hK _ _ _ hs h)
 | label l=>intro S K r h W Q hs hK;exact Ja (hK _ _ _ hs h)
 | exit i=>intro S K r h W Q hs hK;exact bI (hK _ _ _ hs h)
 | ret=>intro S K r h W Q hs hK;exact jl (hK _ _ _ hs h)
 | region id ops draw =>
  intro S K r h W Q hs hK;have:=AY (X:=X) (Q:=Q) (id:=id) hT hC hP hmix hX h hs (fun S' W' f d=>hK _ _ _ f d)
  rwa [Array.toArray_toList] at this
 | seq a b iha ihb =>
  intro S K r h W Q hs hK;refine aa (iha S _ r h W _ hs (fun e S' W' f d=>?_));cases e with
  | normal=>exact eQ (fun a w hr=>sN _ _ S' a w (kY f a w hr)) (ihb _ K r d _ Q (pV _) hK)
  | _=>exact hK _ _ _ f d
 | cond x a b iha ihb =>
  intro S K r h W Q hs hK;simp only [code] at h;split at h
  ·rename_i v hv;have hA:cK W (find S.env) (fun k=>some (find S.rows k)):=hs.agree (i:=0) (lim:=none);refine iV (EZ hA hv) (fun hb=>?_) (fun hb=>?_)
   ·rw [hb] at h;exact iha S K r h W Q hs hK
   rw [hb] at h;exact ihb S K r h W Q hs hK
  cases h
 | block i c ih =>
  intro S K r h W Q hs hK;refine aC (ih S _ r h W _ hs (fun e S' W' f d=>?_));cases e with
  | exit j =>
   show if j=i then Q .normal W' else Q (.exit j) W';dsimp only at d;split at d
   ·rename_i hb;rw [Qk (beq_true hb)];exact hK _ _ _ f d
   rename_i hb;rw [Qc (beq_false hb)];exact hK _ _ _ f d
  | _=>exact hK _ _ _ f d
 | scope c ih =>
  intro S K r h W Q hs hK;have:=ih S _ r h W (fun e W'=>match e with | .goto _=>False | e=>Q e W') hs (fun e S' W' f d=>by
   cases e with
   | goto l=>cases d
   | _=>exact hK _ _ _ f d)
  exact fun a w hr=>wp_scope_straight (Code.wp_mono (fun e a w ⟨S',q,r'⟩=>by
   cases e with
   | goto l=>exact q.elim
   | _=>exact ⟨S',q,r'⟩) (this a w hr))
 | loop c ih =>
  intro S K r h W Q hs hK;refine bN (ru (fun a w hr=>sN F (JW c) S a w (kY hs a w hr)) (ym (nm:=mU T F (JW c)) (fun S a w h=>sN _ _ S a w h) ih n _ K r h _ Q (pV _) hK))
 | _=>intro S K r h;cases h
end
section
variable {T:gU} {X:Ctx} {F nt:Nat}
theorem zw {P:Program} {c:Code} {W:St} {Q:gM} (h:kp P X c W (fun e W'=>∃ W2,(∀ a w,Rel X W' a w->Rel X W2 a w)/\Q e W2)):kp P X c W Q:=fun a w r =>
 Code.wp_mono (fun e a w ⟨S',⟨W2,h1,h2⟩,r'⟩=>⟨W2,h2,h1 a w r'⟩) (h a w r)
theorem uH (hT:cN T=true) {S:ES} {W:St} (hs:Sub S W) {x:ResultVar} {v:df} {t:Ty} {y:t.den} (h:Dh T S x=some v) (hy:coe t v=some y):kV T.P W x (t.pv y):=by
 cases x with
 | tmp u=>exact .tmp (hs.env u v _ h (fF hy))
 | cell u ty =>
  simp only [Dh] at h;split at h
  ·rename_i k c2 hk hc2;split at h
   ·rename_i e c z hrow;split at h
    ·rename_i z' hz hna;cases h;obtain ⟨rfl,rfl⟩:=di hz;obtain ⟨rfl,rfl⟩:=di hy;have hM:=gf hT hc2;have b:W.env u=some (.po k 0):=hs.env u _ _ hk rfl;have d:W.rows k=some ⟨e,c.rsz,c.rn,c.enc y⟩:=by rw [hs.rows,hrow];rfl
     obtain ⟨ds,hu,hd⟩:=hM.Kl;cases a:c.oR with
     | true =>
      have g:c.JO=true:=by cases c<;>first | rfl | (cases a;done) | (cases hna;done)
      obtain ⟨fs,rfl⟩:=wS hd g;obtain ⟨f,h1,h2,_⟩:=hM.info;have:=kV.agg (S:=W) (off:=0) b hu h1 d (by rw [QS,h2];show c.sz<=(c.enc y).length;rw [aX];exact Qn _);rw [V9,h2,Qp (by show (c.enc y).length<=_;rw [aX];exact Qn _)] at this;rw [qk a];exact this
     | false =>
      obtain ⟨cc,h1,h2⟩:=sJ a y;rw [h2];have hp:=lW hd a;refine .cell (ds:=ds) b hu ?_ d (by show (c.enc y)[0]?=_;rw [h1];rfl);cases ds<;>first | rfl | cases hp
    cases h
   ·rename_i e fs hrow;split at h
    ·rename_i z hz;cases h;obtain ⟨rfl,rfl⟩:=di hy;have hM:=gf hT hc2;have b:W.env u=some (.po k 0):=hs.env u _ _ hk rfl;obtain ⟨e1,e2,a⟩:=xU _ _ _ hz;have d:W.rows k=some ⟨e,pN fs,1,dP fs⟩:=by rw [hs.rows,hrow];rfl
     obtain ⟨ds,hu,hd⟩:=hM.Kl;obtain ⟨sf,rfl⟩:=wS hd (by cases c2<;>first | rfl | (cases fs<;>cases hz));obtain ⟨f,h1,h2,_⟩:=hM.info;have:=kV.agg (S:=W) (off:=0) b hu h1 d (by rw [QS,h2];show _<=(dP fs).length;rw [cC,e2];exact Qn _);rw [V9,h2,Qp (by show (dP fs).length<=_;rw [cC,e2];exact Qn _)] at this;rw [qk a,<- e1];exact this
    cases h
   cases h
  cases h
theorem HV (hT:cN T=true) {S:ES} {W:St} (hs:Sub S W) {b:Bool} {t:Ty} {l:List ResultVar} {r:t.den} (h:tQ T S b t l=some r):∃ p,(rO b t r).pv=some p/\ig T.P W l p:=by
 cases b with
 | false =>
  simp only [tQ] at h;split at h
  ·split at h
   ·rename_i v hv;exact ⟨_,rfl,.one (uH hT hs hv h) (ko _ _)⟩
   cases h
  cases h
 | true =>
  have c:∀ {t:Ty} {x:ResultVar} {l:List ResultVar} {r:t.den},zS T S t (x :: l)=some r->∃ a b,∃ (y:a.den) (z:b.den),(⟨t,r⟩:Σ t:Ty,t.den)=⟨.pair a b,(y,z)⟩/\(∃ v,Dh T S x=some v/\coe a v=some y)/\zS T S b l=some z:=by
   intro t x l r h;cases t with
   | pair a b =>
    simp only [zS] at h;split at h
    ·rename_i v hv;split at h
     ·rename_i y z hy hz;cases h;exact ⟨a,b,y,z,rfl,⟨v,hv,hy⟩,hz⟩
     cases h
    cases h
   | _=>cases h
  have g:∀ {t:Ty} {r:t.den},zS T S t []=some r->∃ e:t = .unit,True:=by
   intro t r h;cases t<;>first | exact ⟨rfl,trivial⟩ | cases h
  simp only [tQ] at h;split at h
  ·cases h
  ·cases h
  rename_i hn1 hn2
  match l,h,hn1,hn2 with
  | [],h,_,_ =>
   obtain ⟨rfl,_⟩:=g h;exact ⟨_,rfl,.zero⟩
  | [x],h,hn1,_=>exact absurd rfl (hn1 x)
  | [x,y],h,_,_ =>
   obtain ⟨a,b,y1,z1,f,⟨v1,g1,g2⟩,h2⟩:=c h;cases f;obtain ⟨a2,b2,y2,z2,d,⟨v2,g3,g4⟩,h3⟩:=c h2;cases d;obtain ⟨rfl,_⟩:=g h3;exact ⟨_,rfl,.two (uH hT hs g1 g2) (uH hT hs g3 g4) (ko _ _) (ko _ _)⟩
  | [x,y,z],h,_,_ =>
   obtain ⟨a,b,y1,z1,f,⟨v1,g1,g2⟩,h2⟩:=c h;cases f;obtain ⟨a2,b2,y2,z2,d,⟨v2,g3,g4⟩,h3⟩:=c h2;cases d;obtain ⟨a3,b3,y3,z3,i,⟨v3,g5,g6⟩,h4⟩:=c h3;cases i;obtain ⟨rfl,_⟩:=g h4;exact ⟨_,rfl,.three (uH hT hs g1 g2) (uH hT hs g3 g4) (uH hT hs g5 g6) (ko _ _) (ko _ _) (ko _ _)⟩
  | x :: y :: z :: u :: l,h,_,hn2=>exact absurd rfl (hn2 x y z u l)
theorem mF:∀ (l:List ResultVar) (S:ES),∀ a w,Rel X S.st a w->Rel X (ic S l).st a w
 | [],S,a,w,h=>h
 | .tmp t :: l,S,a,w,h=>mF l _ a w (gE _ _ a w h)
 | .cell _ _ :: l,S,a,w,h=>mF l _ a w (gE _ _ a w h)
theorem pT:∀ (vs:List df) (i:Nat),∀ t v,find (uy i vs) t=some v->∃ j,t=i+j/\vs[j]?=some v
 | [],i,t,v,h=>by cases h
 | x :: vs,i,t,v,h=>by
  simp only [uy,find] at h;split at h
  ·rename_i hb;cases h;exact ⟨0,beq_true hb,rfl⟩
  obtain ⟨j,e1,e2⟩:=pT vs (i+1) t v h;exact ⟨j+1,Q2,by simpa using e2⟩
structure MY (T:gU) (eo:List (Nat×pO T)):Prop where
 fn:∀ g o call k vs r,find eo g=some o->uY T g = .no->jw T call->o.g call k vs=some r->gz T.P g/\∃ p,(rO (T.cV g) o.t r).pv=some p/\V.Fn T.P g (vs.map n7) p
 low:∀ g o,find eo g=some o->real g=g
 no:∀ g,uY T g≠.no->find eo g=none
 hook:Cj T
theorem vw (hN:∀ (f:Nat) (fn:Func),T.P.funcs[f]?=some fn->fn.name≠"runtime.NumGoroutine") {f:Nat} {fn:Func} {c:Code} (h:T.P.funcs[f]?=some fn) (hb:fn.body=some c):gz T.P f:=⟨fn,h,hN f fn h,by rw [hb];exact fun e=>by cases e⟩
theorem Ez {eo:List (Nat×pO T)} (hT:cN T=true) (hO:MY T eo) (hmix:T.P.follows .mixedOrders=true) (hN:∀ (f:Nat) (fn:Func),T.P.funcs[f]?=some fn->fn.name≠"runtime.NumGoroutine"):∀ k,jw T (fn T eo k)
 | 0=>⟨fun g vs r _ h=>(by cases h),fun g j e vs r _ h=>(by cases h),fun g j e vs r v c2 y2 _ h=>(by cases h),hO.hook⟩
 | k+1=>by
  have ih:=Ez hT hO hmix hN k;refine ⟨fun g vs r hl h=>?_,fun g j e vs r hl h=>?_,fun g j e vs r v c2 y2 hl h hout=>?_,hO.hook⟩
  ·simp only [fn] at h;split at h
   ·rename_i o ho;split at h
    ·rename_i q hq;have key:∀ (t:Ty) (e:o.t=t) (r:t.den),e ▸ o.g (fn T eo k) k vs=some r->∃ r':o.t.den,o.g (fn T eo k) k vs=some r'/\∀ b,(rO b o.t r').pv=(rO b t r).pv:=by
      intro t e r h;subst e;exact ⟨r,h,fun _=>rfl⟩
     obtain ⟨r',h1,h2⟩:=key _ q.down r h;obtain ⟨g1,p,g2,g3⟩:=hO.fn g o _ k vs r' ho hl ih h1;have hr:=hO.low g o ho;exact ⟨by rw [hr];exact g1,p,by rw [<- h2];exact g2,by rw [hr];exact g3⟩
    cases h
   split at h
   ·rename_i f hf;unfold body at h;split at h
    ·cases h
    rename_i c hb;split at h
    ·cases h
    rename_i hlen;simp only [hl] at h;have d:∀ X:Ctx,X.nt=f.ntmps->kp T.P X c ⟨uk (vs.map n7),nr⟩ (fun e W=>(e = .ret∨e = .normal)/\∃ W2,(∀ a w,Rel X W a w->Rel X W2 a w)/\∃ p,(rO (T.cV g) (T.out g) r).pv=some p/\ig T.P W2 f.results.toList p):=by
     intro X hX;refine o6 hT ih (fun h=>by simp only [tc,hl] at h;cases h) hmix hX c ⟨uy 0 vs,[]⟩ _ r h _ _ ⟨fun t v p h1 h2=>?_,fun k=>rfl⟩ (fun e S' W' h1 h2=>?_)
     ·obtain ⟨j,e1,e2⟩:=pT vs 0 t v h1;rw [QS] at e1;subst e1;show (vs.map n7)[t]?=some p;rw [VJ,e2];simp only [Option.map_some,n7,h2,Option.getD_some]
     have i:tQ T (ic S' f.results.toList) (T.cV g) (T.out g) f.results.toList=some r->∃ W2,(∀ a w,Rel X W' a w->Rel X W2 a w)/\∃ p,(rO (T.cV g) (T.out g) r).pv=some p/\ig T.P W2 f.results.toList p:=by
      intro h3;obtain ⟨p,g1,g2⟩:=HV hT (pV (ic S' f.results.toList)) h3;exact ⟨_,fun a w hr=>mF _ S' a w (kY h1 a w hr),p,g1,g2⟩
     cases e with
     | ret=>exact ⟨.inl rfl,i h2⟩
     | normal=>exact ⟨.inr rfl,i h2⟩
     | _=>cases h2
    obtain ⟨p,hp⟩:=HG (T.cV g) (T.out g) r;refine ⟨vw hN hf hb,p,hp,bU hf hb (by rw [QZ];exact Qe hlen) (fun X hX=>zw (xq (d X hX) (fun e W ⟨h1,W2,h2,p',h3,h4⟩=>⟨W2,h2,h1,?_⟩)))⟩;rw [hp] at h3;cases h3;exact h4
   cases h
  ·simp only [fn,hO.no g (by rw [hl];exact fun e=>by cases e)] at h;split at h
   ·rename_i f hf;unfold body at h;split at h
    ·cases h
    rename_i c hb;split at h
    ·cases h
    rename_i hlen;simp only [hl] at h;split at h
    ·rename_i c0 y0 hv0 hsev;split at h
     ·cases h
     ·cases h
     rename_i qo hqo hone;have n:j<vs.length:=(Qx.1 hv0).1;have l:(dJ j vs).length<=f.ntmps:=by
      simp only [dJ,Vg,QZ];exact Qe hlen
     have i:∀ S:ES,oW e S f.results.toList (T.out g)=some r->∃ y2:List c0.den,(⟨T.out g,r⟩:Σ t:Ty,t.den)=⟨.list c0,y2⟩/\∃ u k,f.results.toList=[.tmp u]/\find S.env u=some (.own k)/\find S.rows k=some (.arr e c0 y2)/\Nat.ble opened k=false:=by
      intro S hS;have hq:=qo.down;clear hqo;generalize T.out g=t at r hS hq;subst hq;simp only [oW] at hS;split at hS
      ·rename_i u hrs;split at hS
       ·rename_i k hek;split at hS
        ·rename_i e' c' l' hrow hop;split at hS
         ·rename_i he;obtain ⟨ec,y⟩:=di hS;cases ec;have s:r=l':=y;subst s;have:=beq_true he;subst this;exact ⟨r,rfl,u,k,hrs,hek,hrow,hop⟩
         cases hS
        cases hS
       cases hS
      cases hS
     have d:∀ X:Ctx,X.nt=f.ntmps->(∀ v,X.pin v)->kp T.P X c ⟨uk (dJ j vs),dz (bZ.arr e c0 y0).row⟩ (fun ee W=>(ee = .ret∨ee = .normal)/\∃ y2:List c0.den,(⟨T.out g,r⟩:Σ t:Ty,t.den)=⟨.list c0,y2⟩/\∃ u k,f.results.toList=[.tmp u]/\Nat.ble opened k=false/\W.env u=some (.own k)/\W.rows k=some (bZ.arr e c0 y2).row):=by
      intro X hX hpin;refine o6 hT ih (fun _=>hpin) hmix hX c ⟨(j,.own cd) :: uy 0 vs,[(cd,.arr e c0 y0)]⟩ _ r h _ _ ⟨fun t u p h1 h2=>?_,fun k=>?_⟩ (fun ee S' W' h1 h2=>?_)
      ·show (dJ j vs)[t]?=some p;simp only [find] at h1;split at h1
       ·rename_i hb;cases h1;cases h2;rw [beq_true hb];simp only [dJ,hv0];rw [Xs (by rw [QZ];exact n)];rfl
       rename_i hb;obtain ⟨m,e1,e2⟩:=pT vs 0 t u h1;rw [QS] at e1;subst e1;simp only [dJ];rw [XG (fun e=>beq_false hb e.symm),VJ,e2];simp only [Option.map_some,n7,h2,Option.getD_some]
      ·simp only [find,dz]
       by_cases ck:k=cd
       ·subst ck;rw [Qk rfl,Vv];rfl
       rw [Qc ck];have:Nat.beq k cd=false:=by
        cases hb:Nat.beq k cd with
        | false=>rfl
        | true=>exact absurd (beq_true hb) ck
       rw [this];rfl
      have go:oW e S' f.results.toList (T.out g)=some r->∃ y2:List c0.den,(⟨T.out g,r⟩:Σ t:Ty,t.den)=⟨.list c0,y2⟩/\∃ u k,f.results.toList=[.tmp u]/\Nat.ble opened k=false/\W'.env u=some (.own k)/\W'.rows k=some (bZ.arr e c0 y2).row:=by
       intro h3;obtain ⟨y2,g1,u,k,g2,g3,g4,g5⟩:=i S' h3;exact ⟨y2,g1,u,k,g2,g5,h1.env u _ _ g3 rfl,by rw [h1.rows,g4];rfl⟩
      cases ee with
      | ret=>exact ⟨.inl rfl,go h2⟩
      | normal=>exact ⟨.inr rfl,go h2⟩
      | _=>cases h2
     have hq:=qo.down;obtain ⟨y2,hy2⟩:∃ y2:List c0.den,(⟨T.out g,r⟩:Σ t:Ty,t.den)=⟨.list c0,y2⟩:=by
      clear hqo d i h;generalize T.out g=t at r hq;subst hq;exact ⟨r,rfl⟩
     obtain ⟨u,hu⟩:∃ u,f.results.toList=[.tmp u]:=by
      generalize f.results.toList=rs at hone;unfold LB at hone;split at hone
      ·exact ⟨_,rfl⟩
      cases hone
     refine ⟨vw hN hf hb,hsev,c0,y0,y2,hv0,hy2,G4 (t:=u) hf hb l (iQ hu) (fun X hX hpin=>xq (d X hX hpin) (fun ee W ⟨h1,y3,h2,u',k,h3,h4,h5,h6⟩=>⟨h1,k,h4,?_,?_⟩))⟩
     ·rw [hu] at h3;cases h3;exact h5
     rw [hy2] at h2;cases h2;exact h6
    cases h
   cases h
  simp only [fn,hO.no g (by rw [hl];exact fun e=>by cases e)] at h;split at h
  ·rename_i f hf;unfold body at h;split at h
   ·cases h
   rename_i c hb;split at h
   ·cases h
   rename_i hlen;simp only [hl] at h;split at h
   ·rename_i c0 y0 hv0;split at h
    ·cases h
    rename_i hfit;have A:c0=c2:=by
     generalize T.out g=t at r hout hfit;cases t with
     | pair a c1 =>
      simp only [Lv,Qj,Vy] at hout;have h2:=hout.2;cases h2;simp only [HX] at hfit;cases hq:jE c0 c2 with
      | none=>rw [hq] at hfit;cases hfit
      | some q=>exact q.down
     | _=>cases hout
    have l:(dJ j vs).length<=f.ntmps:=by
     simp only [dJ,Vg,QZ];exact Qe hlen
    have n:j<vs.length:=(Qx.1 hv0).1;have i:∀ (S:ES),oV T (T.cV g) e c0 f.results.toList S (T.out g)=some r->c0=c2/\(∃ p,v.pv=some p/\ig T.P S.st f.results.toList p)/\S.st.rows cd=some (mb e c2 y2).row:=by
     intro S hS;generalize T.out g=t at r hout hS;cases t with
     | pair a c1 =>
      simp only [Lv,Qj,Vy] at hout;obtain ⟨rfl,h2⟩:=hout;cases h2;simp only [oV] at hS;split at hS
      ·rename_i q x r0 hq hx hrow;split at hS
       ·rename_i z hz;cases hS;refine ⟨q.down,HV hT (pV S) hx,?_⟩;simp only [ES.st,hrow,Option.map_some,Ac hz]
       cases hS
      cases hS
     | _=>cases hout
    have d:∀ X:Ctx,X.nt=f.ntmps->kp T.P X c ⟨uk (dJ j vs),dz (mb e c0 y0).row⟩ (fun ee W=>(ee = .ret∨ee = .normal)/\∃ W2,(∀ a w,Rel X W a w->Rel X W2 a w)/\c0=c2/\(∃ p,v.pv=some p/\ig T.P W2 f.results.toList p)/\W2.rows cd=some (mb e c2 y2).row):=by
     intro X hX;refine o6 hT ih (fun h=>by simp only [tc,hl] at h;cases h) hmix hX c ⟨(j,lval c0) :: uy 0 vs,[(cd,mb e c0 y0)]⟩ _ r h _ _ ⟨fun t u p h1 h2=>?_,fun k=>?_⟩ (fun ee S' W' h1 h2=>?_)
     ·show (dJ j vs)[t]?=some p;simp only [find] at h1;split at h1
      ·rename_i hb;cases h1;rw [NZ c0 y0] at h2;cases h2;rw [beq_true hb];simp only [dJ,hv0];rw [Xs (by rw [QZ];exact n)]
      rename_i hb;obtain ⟨m,e1,e2⟩:=pT vs 0 t u h1;rw [QS] at e1;subst e1;simp only [dJ];rw [XG (fun e=>beq_false hb e.symm),VJ,e2];simp only [Option.map_some,n7,h2,Option.getD_some]
     ·simp only [find,dz]
      by_cases ck:k=cd
      ·subst ck;rw [Qk rfl,Vv];rfl
      rw [Qc ck];have:Nat.beq k cd=false:=by
       cases hb:Nat.beq k cd with
       | false=>rfl
       | true=>exact absurd (beq_true hb) ck
      rw [this];rfl
     have go:oV T (T.cV g) e c0 f.results.toList (ic S' f.results.toList) (T.out g)=some r->∃ W2,(∀ a w,Rel X W' a w->Rel X W2 a w)/\c0=c2/\(∃ p,v.pv=some p/\ig T.P W2 f.results.toList p)/\W2.rows cd=some (mb e c2 y2).row:=fun h3=>⟨_,fun a w hr=>mF _ S' a w (kY h1 a w hr),i _ h3⟩;cases ee with
     | ret=>exact ⟨.inl rfl,go h2⟩
     | normal=>exact ⟨.inr rfl,go h2⟩
     | _=>cases h2
    obtain ⟨p,hp⟩:∃ p,v.pv=some p:=by
     generalize T.out g=t at r hout;cases t with
     | pair a c1 =>
      simp only [Lv,Qj,Vy] at hout;rw [<- hout.1];exact HG _ _ _
     | _=>cases hout
    subst A;refine ⟨vw hN hf hb,p,hp,y0,hv0,th hf hb l (N1 e c0 y2 y0) (fun X hX=>zw (xq (d X hX) (fun ee W ⟨h1,W2,h2,_,⟨p',h3,h4⟩,h5⟩=>⟨W2,h2,h1,?_,h5⟩)))⟩;rw [hp] at h3;cases h3;exact h4
   cases h
  cases h
end
open Go.WideShapes
def zk:(c:Ty)->c.den->Prop
 | .int k,n=>(Lit.int k n).wf=true
 | .str,s=>s.size<=maxLen
 | .list e,l=>l.length<=maxLen/\∀ x∈l,zk e x
 | .pair a b,x=>zk a x.1/\zk b x.2
 | _,_=>True
mutual
def deep (T:gU):Nat->TypeId->Ty->Bool
 | 0,_,_=>false
 | n+1,t,c=>(match find T.ty t with
  | some c'=>(jE c' c).isSome
  | none=>false)&&(match c with
  | .list c=>match BQ T t with
   | some (e,c')=>(jE c' c).isSome&&gO c&&deep T n e c
   | none=>false
  | .pair a b=>match T.P.underlying t with
   | some (.struct fs)=>BV T n fs.toList (.pair a b)
   | _=>false
  | .int _=>true
  | .bool=>true
  | .str=>true
  | _=>false)
def BV (T:gU):Nat->List Field->Ty->Bool
 | 0,_,_=>false
 | n+1,f :: fs,.pair a b=>deep T n f.type a&&BV T n fs b
 | _+1,[],.unit=>true
 | _,_,_=>false
end
section
variable {T:gU} {H:Type} {enc:TypeId×Value->H} {w:World} {base:Nat} {spare:Nat->Bool} {held:Bool}
def rj (w:World) (cs:List Value) (ds:List CV):Prop:=cs.length=ds.length/\∀ i (h:i<ds.length),Den w (.of fun b=>b<w.heap.size) (cs.getD i undef) ds[i]
theorem ty_sz (hT:cN T=true) {t:TypeId} {c:Ty} (h:find T.ty t=some c):T.P.cellsOf t=c.sz:=by
 obtain ⟨a,h1,h2,_⟩:=(gf hT h).info;simp only [Program.cellsOf,h1,Option.map_some,Option.getD_some,h2]
theorem EU {a:Addr} {n:Nat} {l:List Value} (h:w.cells? base a n=some l):l.length=n/\∀ i,i<n->w.cell? (a.add i)=some (l.getD i undef):=by
 unfold World.cells? at h;split at h
 ·have b:∀ (js:List Nat) (l:List Value),js.mapM (fun i=>w.cell? (a.add i))=some l->l.length=js.length/\∀ i (hi:i<js.length),w.cell? (a.add js[i])=some (l.getD i undef):=by
   intro js
   induction js with
   | nil=>intro l h;simp at h;subst h;exact ⟨rfl,fun i hi=>by simp at hi⟩
   | cons j js ih =>
    intro l h;rw [List.mapM_cons] at h;simp only [Option.bind_eq_bind,Option.pure_def,Option.bind_eq_some_iff] at h;obtain ⟨v,h1,l',h2,h3⟩:=h;cases h3;obtain ⟨g1,g2⟩:=ih l' h2;refine ⟨by simp [g1],fun i hi=>?_⟩;cases i with
    | zero=>exact h1
    | succ i=>simpa using g2 i (by simpa using hi)
  obtain ⟨g1,g2⟩:=b _ l h;refine ⟨by simpa using g1,fun i hi=>?_⟩;have:=g2 i (by simpa using hi);simpa using this
 cases h
theorem J8 {a:Addr} {v:Value} (h:w.cell? a=some v):a.spot=none/\a.block<w.heap.size:=by
 unfold World.cell? at h;split at h
 ·rename_i c e f hb;split at h
  ·cases h
  rename_i hs;refine ⟨by simpa using hs,?_⟩;exact (QW.1 hb).1
 cases h
theorem G7 {cs cs':List Value} {ds ds':List CV} (h:rj w cs ds) (h':rj w cs' ds'):rj w (cs++cs') (ds++ds'):=by
 refine ⟨by rw [Qf,Qf,h.1,h'.1],fun i hi=>?_⟩;rw [Qf] at hi
 by_cases c:i<ds.length
 ·rw [QC c];have:=h.2 i c;rw [Q6] at this ⊢;rw [Vm (by rw [h.1];exact c)];exact this
 rw [QR Q2];have:=h'.2 (i-ds.length) Q2;rw [Q6] at this ⊢;rw [Vj (by rw [h.1];omega),h.1];exact this
theorem Ky (hT:cN T=true):∀ (fuel:Nat) (n:Nat) (t:TypeId) (c:Ty) (cs:List Value) (x:DataW H×List MemPlace),deep T n t c=true->DataW.trod enc T.P w base spare held fuel t cs=some x->∃ y:c.den,zk c y/\rj w cs (c.enc y):=by
 intro fuel
 induction fuel with
 | zero=>intro n t c cs x hd h;simp [DataW.trod] at h
 | succ fuel ih =>
  intro n t c cs x hd h;cases n with
  | zero=>cases hd
  | succ n =>
   simp only [deep,Qm] at hd;obtain ⟨p,d⟩:=hd;have G:find T.ty t=some c:=by
    split at p
    ·rename_i c' hc;cases hq:jE c' c with
     | none=>rw [hq] at p;cases p
     | some q=>rw [<- q.down];exact hc
    cases p
   have hM:=gf hT G;have j:∀ (v:Value) (cv:CV),cs=[v]->Den w (.of fun b=>b<w.heap.size) v cv->rj w cs [cv]:=by
    intro v cv h1 h2;subst h1;refine ⟨rfl,fun i hi=>?_⟩;have:i=0:=by simp at hi;exact hi
    subst this;exact h2
   cases c with
   | int k =>
    obtain ⟨m,h1,h2,h3⟩:=DataW.trod_int hM.int h;exact ⟨m,h3,j _ _ h1 (.lit _)⟩
   | bool =>
    obtain ⟨b,h1,h2⟩:=DataW.trod_bool hM.bool h;exact ⟨b,trivial,j _ _ h1 (.lit _)⟩
   | str =>
    obtain ⟨b,h1,h2,h3⟩:=DataW.trod_string hM.str h;exact ⟨b,h3,j _ _ h1 (.lit _)⟩
   | fn=>cases d
   | unit=>cases d
   | arr n e=>cases d
   | list c =>
    dsimp only at d;split at d
    ·rename_i e c' he;simp only [Qm] at d;obtain ⟨⟨hq,hs⟩,M⟩:=d;have Q:c'=c:=by
      cases hq':jE c' c with
      | none=>rw [hq'] at hq;cases hq
      | some q=>exact q.down
     subst Q;obtain ⟨hu,hMe,_⟩:=nX hT he;have C:=(hJ hs).2;have O:T.P.cellsOf e=c'.sz:=by
      obtain ⟨L,h1,h2,_⟩:=hMe.info;simp only [Program.cellsOf,h1,Option.map_some,Option.getD_some,h2]
     rcases DataW.trod_slice hu h with ⟨h1,_⟩ | ⟨a,len,cap,elems,rest,m,B,h1,_,hb,hl,hm,D,hel,_⟩
     ·exact ⟨[],⟨Qy _,fun x hx=>by cases hx⟩,j _ _ h1 (.nil _ _ (fun _=>rfl))⟩
     cases B;rw [O] at hel;have A:∀ i,i<len->∃ l y,w.cells? base (a.add (i*c'.sz)) c'.sz=some l/\zk c' y/\rj w l (c'.enc y):=by
      intro i hi;have:=hel i hi;rw [Qh Q2] at this;obtain ⟨l,g1,g2⟩:=Q5 this;obtain ⟨y,g3,g4⟩:=ih n e c' l _ M g2;exact ⟨l,y,g1,g3,g4⟩
     rcases X0 len with h0 | h0
     ·subst h0;exact ⟨[],⟨Qy _,fun x hx=>by cases hx⟩,j _ _ h1 (.nil _ _ (fun h=>by cases h))⟩
     obtain ⟨l0,y0,k1,k2,k3⟩:=A 0 h0;have g:=(EU k1).2 0 C;rw [WZ] at g;have e0:(a.add 0).add 0=a:=by simp [Addr.add]
     rw [e0] at g;obtain ⟨r,I⟩:=J8 g;have F:∀ m,m<=len->∃ (ys:List c'.den) (vs:Nat->Value),ys.length=m/\(∀ x∈ys,zk c' x)/\∀ i (hi:i<(ys.flatMap c'.enc).length),w.cell? (a.add i)=some (vs i)/\Den w (.of fun b=>b<w.heap.size) (vs i) (ys.flatMap c'.enc)[i]:=by
      intro m
      induction m with
      | zero=>intro _;exact ⟨[],fun _=>undef,rfl,fun x hx=>(by cases hx),fun i hi=>by simp at hi⟩
      | succ m ihm =>
       intro hmle;obtain ⟨ys,vs,g1,g2,g3⟩:=ihm Q2;obtain ⟨l,y,g4,g5,g6⟩:=A m Q2;obtain ⟨g7,g8⟩:=EU g4;have o:(ys.flatMap c'.enc).length=m*c'.sz:=by rw [dZ,g1]
       refine ⟨ys++[y],fun i=>if i<m*c'.sz then vs i else l.getD (i-m*c'.sz) undef,by simp [g1],fun x hx=>?_,fun i hi=>?_⟩
       ·rcases QT.1 hx with hx | hx
        ·exact g2 x hx
        rcases QB.1 hx with rfl;exact g5
       have s:(ys++[y]).flatMap c'.enc=ys.flatMap c'.enc++c'.enc y:=Q3;have R:i<m*c'.sz+c'.sz:=by
        rw [s,Qf,o,aX] at hi;exact hi
       by_cases ci:i<m*c'.sz
       ·have:=g3 i (by rw [o];exact ci);simp only [Qk ci];refine ⟨this.1,?_⟩;have e1:((ys++[y]).flatMap c'.enc)[i]=(ys.flatMap c'.enc)[i]'(by rw [o];exact ci):=by
         simp only [s];rw [QC]
        rw [e1];exact this.2
       simp only [Qc ci];have u:i-m*c'.sz<c'.sz:=Q2;have e1:=g8 (i-m*c'.sz) u;rw [V.add_add a r,show m*c'.sz+(i-m*c'.sz)=i by omega] at e1;refine ⟨e1,?_⟩;have e2:((ys++[y]).flatMap c'.enc)[i]=(c'.enc y)[i-m*c'.sz]'(by rw [aX];exact u):=by
        simp only [s];rw [QR (by rw [o];omega)];simp only [o]
       rw [e2];exact g6.2 _ (by rw [aX];exact u)
     obtain ⟨ys,vs,g1,g2,g3⟩:=F len (Qn _);refine ⟨ys,⟨by rw [g1];omega,g2⟩,j _ _ h1 ?_⟩;rw [show ys.length=len from g1];exact .row a len cap _ vs r I hl (fun i hi=>(g3 i hi).1) (fun i hi=>(g3 i hi).2)
    cases d
   | pair a b =>
    dsimp only at d;obtain ⟨fs,hu,hf⟩:=hM.st rfl;simp only [hu] at d;obtain ⟨xs,m,B,_,D,K,J⟩:=DataW.trod_struct hu h;cases B;have N:∀ (fl:List Field) (n:Nat) (c:Ty) (off:Nat),BV T n fl c=true->ji T.P fl c off=true->(∀ f∈fl,∃ y,DataW.trod enc T.P w base spare held fuel f.type ((cs.drop f.offset).take (T.P.cellsOf f.type))=some y)->off+c.sz=cs.length->∃ y:c.den,zk c y/\rj w (cs.drop off) (c.enc y):=by
     intro fl
     induction fl with
     | nil =>
      intro n c off h1 h2 h3 h4;cases c with
      | unit=>exact ⟨(),trivial,by simp [rj,Ty.enc,Ty.sz] at h4 ⊢;omega⟩
      | _=>cases h2
     | cons f fl ihf =>
      intro n c off h1 h2 h3 h4;cases n with
      | zero=>cases h1
      | succ n =>
       cases c with
       | pair a b =>
        simp only [BV,Qm] at h1;simp only [ji,Qm] at h2;obtain ⟨⟨⟨k1,k2⟩,k3⟩,k4⟩:=h2;simp only [Ty.sz] at h4;obtain ⟨y2,g1,g2⟩:=ihf n b (off+a.sz) h1.2 k4 (fun f' hf'=>h3 f' (Qa _ hf')) Q2;obtain ⟨z,hz⟩:=h3 f Q7;have C:T.P.cellsOf f.type=a.sz:=by
         unfold AN at k3;split at k3
         ·rename_i L hi;simp only [Program.cellsOf,hi,Option.map_some,Option.getD_some,beq_true k3]
         cases k3
        rw [C,beq_true k1] at hz;obtain ⟨y1,g3,g4⟩:=ih n f.type a _ _ h1.1 hz;refine ⟨(y1,y2),⟨g3,g1⟩,?_⟩;have e1:cs.drop off=(cs.drop off).take a.sz++cs.drop (off+a.sz):=by
         rw [<- Wv,VY]
        rw [e1];exact G7 g4 g2
       | _=>cases h2
    obtain ⟨y,g1,g2⟩:=N fs.toList n (.pair a b) 0 d hf (fun f hf'=>by
     obtain ⟨i,hi⟩:=List.getElem?_of_mem hf';rw [V1] at hi;have:=J i f hi;rw [this,Qh (by rw [K];exact (QW.1 hi).1)];exact ⟨_,rfl⟩) (by rw [D,QS];exact (ty_sz hT G).symm)
    exact ⟨y,g1,g2⟩
theorem IP (hT:cN T=true) {base' n:Nat} {t:TypeId} {c:Ty} {v:Value} {d:DataW H} {ps:List MemPlace} (hd:deep T n t c=true) (hty:find T.ty t=some c) (hok:Value.okWide T.P w .any base' t v) (h:DataW.Trod enc T.P w base spare held t v d ps):∃ y:c.den,zk c y/\cQ w (.of fun b=>b<w.heap.size) nr nl v (c.pv y):=by
 obtain ⟨f,h⟩:=h;obtain ⟨y,h1,h2⟩:=Ky hT f n t c _ _ hd h;refine ⟨y,h1,?_⟩;have hM:=gf hT hty;obtain ⟨ds,hu,g⟩:=hM.Kl;cases hag:c.oR with
 | true =>
  obtain ⟨fs,rfl⟩:=wS g (by cases c<;>first | rfl | (cases hag;done) | (cases n<;>simp [deep] at hd));obtain ⟨cs,rfl,_⟩:=okWide_struct hu hok;rw [qk hag];refine .ag (by simpa [Value.cells] using h2.1) (fun i hi=>?_);have:=h2.2 i hi;simpa [Value.cells,Q9,Q6] using this
 | false =>
  obtain ⟨cc,g1,g2⟩:=sJ hag y;rw [g1] at h2;rw [g2];have hv:v.cells = #[v]:=by
   cases c with
   | int k=>obtain ⟨m,rfl⟩:=okWide_int hM.int hok;rfl
   | bool=>obtain ⟨m,rfl⟩:=okWide_bool hM.bool hok;rfl
   | str=>obtain ⟨m,rfl⟩:=okWide_string hM.str hok;rfl
   | list e=>obtain ⟨e',j⟩:=hM.list;obtain ⟨a,l,o,rfl⟩:=okWide_slice j hok;rfl
   | fn =>
    cases n with
    | zero=>cases hd
    | succ n=>simp [deep] at hd
   | _=>cases hag
  have:=h2.2 0 Q3;rw [hv] at this;exact .cv (by simpa using this)
end
end Go.Proofs.YtfbgaddecbiimaaGreatDoor.E
end
section
namespace Go.Proofs.YtfbgaddecbiimaaGreatDoor.E
open Go.RowKit Go.Proofs.YtfbgaddecbiimaaGreatDoorW.PrintWords Go.Proofs.YtfbgaddecbiimaaGreatDoorW.PrintMore Go.Proofs.YtfbgaddecbiimaaGreatDoor.V
def sub:Code->List Nat->Code
 | c,[]=>c
 | .seq a b,n :: p=>match n with
  | 0=>sub a p
  | _=>sub b p
 | .cond _ a b,n :: p=>match n with
  | 0=>sub a p
  | _=>sub b p
 | .block _ c,_ :: p=>sub c p
 | .loop c,_ :: p=>sub c p
 | .scope c,_ :: p=>sub c p
 | c,_=>c
def Eg (T:gU) (F nt:Nat) (call:(g:Nat)->List df->Option (T.out g).den) (n:Nat) {β:Type}:Code->List Nat->List Nat->(Exit->ES->Option β)->(Exit->ES->Option β)
 | _,[],_,K=>K
 | .seq a b,m :: p,ns,K=>match m with
  | 0=>Eg T F nt call n a p ns fun e S'=>match e with
   | .normal=>code T F nt call n b (mU T F (JW b) S') K
   | e=>K e S'
  | _=>Eg T F nt call n b p ns K
 | .cond _ a b,m :: p,ns,K=>match m with
  | 0=>Eg T F nt call n a p ns K
  | _=>Eg T F nt call n b p ns K
 | .block i c,_ :: p,ns,K=>Eg T F nt call n c p ns fun e S'=>match e with
  | .exit j=>match Nat.beq j i with
   | true=>K .normal S'
   | false=>K (.exit j) S'
  | e=>K e S'
 | .scope c,_ :: p,ns,K=>Eg T F nt call n c p ns fun e S'=>match e with
  | .goto _=>none
  | e=>K e S'
 | .loop c,_ :: p,m :: ns,K=>Eg T F nt call n c p ns fun e S'=>match e with
  | .normal=>Ea (mU T F (JW c)) (fun S K=>code T F nt call n c S K) m (mU T F (JW c) S') K
  | e=>K e S'
 | _,_,_,K=>K
def fin (T:gU) (F:Nat) (rs:List ResultVar) (ln:Option (TypeId×Ty)):Exit->ES->Option (T.out F).den:=match ln with
 | none=>fun e S=>match e with
  | .ret=>tQ T (ic S rs) (T.cV F) (T.out F) rs
  | .normal=>tQ T (ic S rs) (T.cV F) (T.out F) rs
  | _=>none
 | some (te,.unit)=>fun e S=>match e with
  | .ret=>oW te S rs (T.out F)
  | .normal=>oW te S rs (T.out F)
  | _=>none
 | some (te,c0)=>fun e S=>match e with
  | .ret=>oV T (T.cV F) te c0 rs (ic S rs) (T.out F)
  | .normal=>oV T (T.cV F) te c0 rs (ic S rs) (T.out F)
  | _=>none
def Mv (f:Func):Code:=match f.body with
 | some c=>c
 | none=>.skip
def pQ (T:gU) (eo:List (Nat×pO T)) (k F:Nat) (f:Func) (ln:Option (TypeId×Ty)) (p:List Nat) (m:Nat) (ns:List Nat) (S:ES):Option (T.out F).den:=match sub (Mv f) p with
 | .loop c=>Ea (mU T F (JW c)) (fun S K=>code T F f.ntmps (fn T eo k) k c S K) m S (Eg T F f.ntmps (fn T eo k) k (Mv f) p ns (fin T F f.results.toList ln))
 | _=>none
section
variable {T:gU}
def orc0 (ct:Ty) (f:Nat->Option ct.den):pO T:=⟨ct,fun _ k vs=>match vs with
 | []=>f k
 | _=>none⟩
def Bq (c0 ct:Ty) (f:Nat->c0.den->Option ct.den):pO T:=⟨ct,fun _ k vs=>match vs with
 | [x0]=>match coe c0 x0 with
  | some a0=>f k a0
  | none=>none
 | _=>none⟩
def qw (c0 a ct:Ty) (f:Nat->c0.den->a.den->Option ct.den):pO T:=⟨ct,fun _ k vs=>match vs with
 | [x0,x1]=>match coe c0 x0,coe a x1 with
  | some a0,some a1=>f k a0 a1
  | _,_=>none
 | _=>none⟩
def orc3 (c0 a b ct:Ty) (f:Nat->c0.den->a.den->b.den->Option ct.den):pO T:=⟨ct,fun _ k vs=>match vs with
 | [x0,x1,x2]=>match coe c0 x0,coe a x1,coe b x2 with
  | some a0,some a1,some a2=>f k a0 a1 a2
  | _,_,_=>none
 | _=>none⟩
structure dN (T:gU) (x:Nat×pO T):Prop where
 cd:uY T x.1 = .no
 callee:gz T.P x.1
 low:real x.1=x.1
 fn:∀ call k vs r,jw T call->x.2.g call k vs=some r->∃ p,(rO (T.cV x.1) x.2.t r).pv=some p/\V.Fn T.P x.1 (vs.map n7) p
theorem Lw {eo:List (Nat×pO T)} (h:∀ x∈eo,dN T x) (hh:Cj T:=by intro _ _ _ _ _ h;cases h):MY T eo :=
 ⟨fun g o call k vs r a b d c=>⟨(h _ (iB a)).callee,(h _ (iB a)).fn call k vs r d c⟩,
  fun g o a=>(h _ (iB a)).low,
  fun g a=>by
   cases b:find eo g with
   | none=>rfl
   | some o=>exact absurd (h _ (iB b)).cd a,hh⟩
theorem iK {c:Ty} {v:df} {x:c.den} (h:coe c v=some x):n7 v=c.pv x:=by simp only [n7,fF h,Option.getD_some]
theorem ka {g:Nat} {c0 ct:Ty} {f:Nat->c0.den->Option ct.den} (hl:uY T g = .no) (hc:gz T.P g) (hf:∀ k a0 r,f k a0=some r->∃ p,(rO (T.cV g) ct r).pv=some p/\V.Fn T.P g [c0.pv a0] p) (hr:real g=g:=by rfl):dN T (g,Bq c0 ct f) :=
 ⟨hl,hc,hr,fun call k vs r _ h=>by
  simp only [Bq] at h;split at h
  ·split at h
   ·rename_i x0 a0 h0;simp only [QV,WD,iK h0];exact hf k a0 r h
   cases h
  cases h⟩
theorem ff {g:Nat} {c0 a ct:Ty} {f:Nat->c0.den->a.den->Option ct.den} (hl:uY T g = .no) (hc:gz T.P g) (hf:∀ k a0 a1 r,f k a0 a1=some r->∃ p,(rO (T.cV g) ct r).pv=some p/\V.Fn T.P g [c0.pv a0,a.pv a1] p) (hr:real g=g:=by rfl):dN T (g,qw c0 a ct f) :=
 ⟨hl,hc,hr,fun call k vs r _ h=>by
  simp only [qw] at h;split at h
  ·split at h
   ·rename_i x0 x1 _ _ a0 a1 h0 h1;simp only [QV,WD,iK h0,iK h1];exact hf k a0 a1 r h
   cases h
  cases h⟩
theorem JC {g:Nat} {c0 a b ct:Ty} {f:Nat->c0.den->a.den->b.den->Option ct.den} (hl:uY T g = .no) (hc:gz T.P g) (hf:∀ k a0 a1 a2 r,f k a0 a1 a2=some r->∃ p,(rO (T.cV g) ct r).pv=some p/\V.Fn T.P g [c0.pv a0,a.pv a1,b.pv a2] p) (hr:real g=g:=by rfl):dN T (g,orc3 c0 a b ct f) :=
 ⟨hl,hc,hr,fun call k vs r _ h=>by
  simp only [orc3] at h;split at h
  ·split at h
   ·rename_i x0 x1 x2 _ _ _ a0 a1 a2 h0 h1 h2;simp only [QV,WD,iK h0,iK h1,iK h2];exact hf k a0 a1 a2 r h
   cases h
  cases h⟩
theorem LZ (k:IntKind) (l:List Int):l.flatMap (Ty.enc (.int k))=V.ints k l:=by
 induction l with
 | nil=>rfl
 | cons x l ih=>rw [V7,ih];rfl
theorem eV (k:IntKind) (l:List Int):PV.ints k l=(Ty.list (.int k)).pv l:=congrArg (fun z=>PV.cv (.row l.length z)) (LZ k l).symm
end
end Go.Proofs.YtfbgaddecbiimaaGreatDoor.E
end
section
namespace Go.Proofs.YtfbgaddecbiimaaGreatDoor.E
open Go.RowKit Go.Proofs.YtfbgaddecbiimaaGreatDoor.V
def cZ:List Int->List Int->Int
 | [],_=>0
 | _ :: _,[]=>0
 | x :: l,y :: m=>if x=y then cZ l m else if x<y then -1 else 1
abbrev kK:Ty:=.pair (.list (.int .i64)) (.pair (.pair .bool (.pair (.list (.int .u32)) (.pair (.list (.int .u32)) .unit))) .unit)
def G0 (x:kK.den):List kK.den->List kK.den
 | []=>[x]
 | y :: l=>match decide (cZ y.1 x.1>0) with
  | true=>y :: G0 x l
  | false=>x :: y :: l
def iL:List kK.den->List kK.den
 | []=>[]
 | x :: l=>G0 x (iL l)
def JX (x:kK.den):List kK.den->Bool
 | []=>true
 | y :: l=>match Nat.beq x.1.length y.1.length with
  | true=>match decide (x.1=y.1) with
   | true=>false
   | false=>JX x l
  | false=>false
def NU:List kK.den->Bool
 | []=>true
 | x :: l=>match JX x l with
  | true=>NU l
  | false=>false
def C2 (l:List kK.den):Option (List kK.den):=match NU l,Nat.ble l.length 1000000000,Nat.ble (l.headD (Ty.zero kK)).1.length 1000000000 with
 | true,true,true=>some (iL l)
 | _,_,_=>none
def free (S:ES):List Nat->Bool
 | []=>true
 | d :: l=>match find S.env d with
  | none=>free S l
  | some _=>false
def FG (ts tb fs fc:Nat):List Oper->Option (Nat×List Nat)
 | [o1,o2,o3,o4,o5]=>match o5.op,o1.dst,o2.dst,o3.dst,o4.dst with
  | .call c,some d1,some d2,some d3,some d4=>match c.callee,c.args.toList,o1.op,o2.op,o3.op,o4.op,o1.guard,o2.guard,o3.guard,o4.guard,o5.guard with
   | .value (.func g),[.tmp b3,.tmp b4],.fieldAddr t1 (.tmp a) 1,.load t2 (.tmp b1),.makeInterface t3 (.tmp b2),.makeFunc (.func g2) xs ys,none,none,none,none,none=>match xs.toList,ys.toList with
    | [],[.tmp a2]=>match Nat.beq g fs&&(Nat.beq b3 d3&&(Nat.beq b4 d4&&(Nat.beq t1 tb&&(Nat.beq t2 ts&&(Nat.beq t3 ts&&(Nat.beq b1 d1&&(Nat.beq b2 d2&&(Nat.beq g2 fc&&Nat.beq a2 a)))))))),Nat.beq d3 d4,o5.dst with
     | true,false,some d5=>some (a,[d1,d2,d3,d4,d5])
     | _,_,_=>none
    | _,_=>none
   | _,_,_,_,_,_,_,_,_,_,_=>none
  | _,_,_,_,_=>none
 | _=>none
def xo (ts tb te fs fc:Nat) (ops:List Oper) (draw:Bool) (S:ES):Option Hk:=match draw,FG ts tb fs fc ops with
 | false,some (a,ds)=>match find S.env a,free S ds with
  | some (.po bo 0 []),true=>match find S.rows bo,Nat.ble opened bo with
   | some (.obox e [.v (.int .i64) n,.own k]),true=>match find S.rows k,Nat.beq e tb,Nat.beq bo k with
    | some (.arr e2 c l),true,false=>match Nat.beq e2 te,fC (a:=.list c) (.list kK) l with
     | true,some l2=>some ⟨.list kK,C2 l2,fun m=>⟨S.env,(k,.arr e2 kK m) :: S.rows⟩⟩
     | _,_=>none
    | _,_,_=>none
   | _,_=>none
  | _,_=>none
 | _,_=>none
def LM (tm ts:Nat):List Oper->Option ((Nat×Nat×Nat)×List Nat)
 | [o1,o2,o3,o4,o5]=>match o4.op,o5.op,o1.dst,o2.dst,o3.dst,o4.dst,o5.dst with
  | .call c,.mapUpdate t (.tmp b1) (.tmp b2) (.tmp b4),some d1,some d2,some d3,some d4,none=>match c.callee,c.args.toList,c.argTypes.toList,o1.op,o2.op,o3.op,o1.guard,o2.guard,o3.guard,o4.guard,o5.guard with
   | .builtin .len,[.tmp b3],[t3],.move (.tmp x),.move (.tmp y),.move (.tmp z),none,none,none,none,none=>match Nat.beq t tm&&(Nat.beq t3 ts&&(Nat.beq b1 d1&&(Nat.beq b2 d2&&(Nat.beq b3 d3&&Nat.beq b4 d4)))),Nat.beq d1 d2||(Nat.beq d1 d3||(Nat.beq d1 d4||(Nat.beq d2 d3||(Nat.beq d2 d4||Nat.beq d3 d4)))) with
    | true,false=>some ((x,y,z),[d1,d2,d3,d4])
    | _,_=>none
   | _,_,_,_,_,_,_,_,_,_,_=>none
  | _,_,_,_,_,_,_=>none
 | _=>none
def BD (tm ts:Nat) (ops:List Oper) (draw:Bool) (S:ES):Option Hk:=match draw,LM tm ts ops with
 | false,some ((x,y,z),ds)=>match find S.env x,find S.env y,find S.env z,free S ds with
  | some (.mp l),some (.v .str s),some (.own k),true=>match find S.rows k with
   | some (.arr e c r)=>some ⟨.unit,some (),fun _=>⟨(x,.mp (V.lC l s r.length)) :: rU H6 S.env,S.rows⟩⟩
   | _=>none
  | _,_,_,_=>none
 | _,_=>none
def L1 (ts tb te fs fc tm:Nat) (ops:List Oper) (draw:Bool) (S:ES):Option Hk:=match xo ts tb te fs fc ops draw S with
 | some h=>some h
 | none=>BD tm ts ops draw S
end Go.Proofs.YtfbgaddecbiimaaGreatDoor.E
end
section
namespace Go.Proofs.YtfbgaddecbiimaaGreatDoor.E
open Go.RowKit
abbrev de:Ty:=(.pair .fn (.pair .fn .unit))
abbrev gT:Ty:=(.pair .str (.pair (.int .u64) .unit))
abbrev aq:Ty:=(.pair .bool (.pair (.list (.int .i64)) (.pair (.list (.int .i64)) .unit)))
abbrev au:Ty:=(.pair .bool (.pair (.list (.int .u32)) (.pair (.list (.int .u32)) .unit)))
abbrev jZ:Ty:=(.pair (.int .i64) (.pair (.int .i64) (.pair .bool (.pair (.int .u8) .unit))))
abbrev ah:Ty:=(.pair (.list (.int .i64)) (.pair au .unit))
abbrev ab:Ty:=(.pair (.arr 8 (.int .i64)) (.pair aq .unit))
abbrev af:Ty:=(.pair (.int .i64) (.pair (.list ah) .unit))
def tyTab:List (Nat×Ty):=[(1,.fn),(2,(.int .i64)),(3,(.int .i64)),(4,.bool),(5,(.int .u8)),(6,(.int .u8)),(7,jZ),(8,jZ),(9,.str),(10,.str),(11,.str),(12,(.int .u64)),(13,gT),(14,gT),(21,(.int .i32)),(22,(.list ah)),(23,af),(24,af),(25,.fn),(26,.fn),(27,(.int .i64)),(29,.fn),(30,.fn),(31,.fn),(32,(.list (.int .u8))),(34,.fn),(36,.fn),(37,.fn),(38,(.list ab)),(39,(.list ab)),(40,.fn),(41,.fn),(42,.fn),(43,.fn),(44,.fn),(45,.fn),(46,.fn),(47,(.arr 8 (.int .i64))),(48,(.list (.int .i64))),(49,(.list (.int .i64))),(50,aq),(51,aq),(52,ab),(53,ab),(54,.fn),(55,.fn),(56,.fn),(57,(.list au)),(58,(.list aq)),(59,(.list (.int .u32))),(60,au),(61,au),(62,.fn),(63,.fn),(65,.fn),(66,.fn),(67,.fn),(68,.fn),(69,.fn),(71,.fn),(72,.fn),(73,.fn),(74,.fn),(75,.fn),(76,.fn),(77,.fn),(78,.fn),(79,.fn),(80,.fn),(81,.fn),(83,.fn),(84,.fn),(85,.fn),(86,.fn),(87,.fn),(88,.fn),(90,.fn),(91,.fn),(92,.fn),(93,.fn),(94,(.list .str)),(95,ah),(96,ah),(97,.fn),(98,.fn),(99,.fn),(100,.fn),(101,.fn),(102,.fn),(103,.fn),(104,.fn),(105,.fn),(106,.fn),(107,.fn),(108,.fn),(109,.fn),(110,.fn),(111,.fn),(112,.fn),(113,.fn),(114,.fn),(115,.fn),(116,.fn),(117,.fn),(118,.fn),(119,.fn),(120,.fn),(121,.fn),(122,.fn),(123,.fn),(124,.fn),(125,.fn),(126,.fn),(127,.fn),(128,.fn),(129,.fn),(130,.fn),(131,.fn),(133,.fn),(134,(.list .bool)),(135,.fn),(136,.fn),(137,.fn),(143,.fn),(144,.fn),(146,.fn),(147,.fn),(148,.fn),(149,.fn),(150,.fn),(151,(.int .u32)),(152,.fn),(153,.fn),(154,.fn),(155,.fn),(156,(.int .u64)),(157,.fn),(159,.fn),(160,.fn),(161,.fn),(162,.fn),(163,.fn),(164,.fn),(166,.fn),(167,.fn),(168,.fn),(169,.fn),(170,.fn),(172,.fn),(173,(.list (.int .u64))),(174,.fn),(175,(.int .u64)),(177,.fn),(179,.fn),(180,.fn),(182,.fn),(184,.fn),(185,.fn),(187,.fn),(188,.fn),(190,.fn),(192,.fn),(193,.fn),(194,.fn),(195,.fn),(196,.fn),(197,(.arr 24 (.int .u8))),(199,.fn),(201,.fn),(202,.fn),(208,.fn),(211,(.arr 20 (.int .u64))),(212,(.arr 65 (.int .u8))),(213,.fn),(214,.fn),(215,(.int .u64)),(218,.fn),(219,.fn),(220,.fn),(221,.fn),(222,.fn),(223,de),(224,de),(229,(.int .i64)),(235,(.arr 32 (.int .u8))),(236,(.arr 64 (.int .u8))),(237,(.int .u64))]
def elTab:List (Nat×Nat):=[(22,96),(32,5),(38,53),(39,53),(48,3),(49,3),(57,61),(58,51),(59,151),(94,9),(134,4),(173,175)]
def byTab:List (Nat×Nat):=[(3,8),(4,1),(5,1),(9,16),(51,56),(53,120),(61,56),(96,80),(151,4),(175,8)]
abbrev Q0:=false
abbrev Q1:=true
def parTab:List (Nat×List Ty):=[(10,[af,af]),(12,[]),(14,[af]),(17,[af]),(18,[af,af]),(19,[af]),(20,[af,(.list ab),(.int .i64)]),(22,[af]),(23,[af,(.int .i64),(.int .i64),(.int .i64)]),(25,[(.list ab)]),(27,[]),(30,[au]),(33,[af,af]),(36,[aq,aq]),(37,[aq,aq]),(39,[(.int .i64),au]),(44,[(.int .i64),(.int .i64)]),(52,[(.list ab),(.list ab)]),(53,[(.list ab),(.list ab)]),(54,[(.list ab),aq]),(55,[af,af]),(58,[af,af]),(59,[(.list ab),(.list ab)]),(60,[(.list ab),(.int .i64)]),(62,[af]),(63,[aq]),(64,[(.int .i64)]),(65,[af]),(66,[au]),(67,[(.int .i64)]),(68,[(.list .str),.str]),(70,[au,(.int .i64)]),(71,[au]),(72,[(.list (.int .i64)),(.list (.int .i64))]),(73,[au,(.int .i64)]),(74,[af,af]),(75,[af,af]),(76,[(.list ab),ab]),(77,[(.list ab),(.arr 8 (.int .i64)),aq]),(78,[au,(.int .i64)]),(80,[(.arr 8 (.int .i64))]),(81,[aq]),(83,[au]),(84,[(.list (.int .u32))]),(87,[(.list ah),(.list ah),.fn,.fn]),(88,[ah,ah]),(89,[ah,ah]),(90,[au,au]),(91,[af]),(92,[au,au]),(93,[]),(95,[(.list (.int .i64)),(.list (.int .i64))]),(96,[.bool,(.list (.int .i64)),(.list (.int .i64))]),(97,[(.list (.int .i64)),(.list (.int .i64))]),(98,[(.list (.int .i64)),(.list (.int .i64))]),(99,[(.list (.int .i64)),(.list (.int .i64))]),(100,[af]),(101,[au]),(102,[(.int .i64),au]),(107,[(.int .i64),(.int .i64)]),(108,[af,af]),(109,[af,au]),(111,[(.int .i64)]),(112,[]),(113,[af,af]),(114,[af,af]),(115,[(.list ab)]),(116,[aq,aq]),(117,[(.arr 8 (.int .i64)),(.arr 8 (.int .i64))]),(118,[(.list (.int .i64))]),(119,[(.int .i64)]),(121,[(.list (.int .u32))]),(123,[au]),(125,[(.int .i64)]),(128,[(.list (.int .u32)),(.int .i64)]),(129,[(.list (.int .u32)),(.list (.int .u32))]),(130,[af,af]),(132,[(.list (.int .u32))]),(133,[(.list (.int .i64)),(.list (.int .i64))]),(134,[(.list (.int .i64)),(.int .i64),(.int .i64)]),(135,[]),(136,[au,au]),(138,[(.list (.int .u32)),(.list (.int .u32))]),(139,[(.list (.int .u32)),(.list (.int .u32))]),(140,[.bool,(.list (.int .u32)),(.list (.int .u32))]),(141,[(.list (.int .u32)),(.list (.int .u32))]),(142,[(.list (.int .u32)),(.list (.int .u32))]),(143,[af]),(144,[(.list (.int .u32)),(.list (.int .u32))]),(146,[(.list (.int .i64))]),(147,[(.list (.int .i64)),(.list (.int .i64))]),(148,[(.list (.int .i64))]),(149,[(.list (.int .i64))]),(150,[au]),(151,[(.int .i64)]),(152,[af]),(154,[ah,ah]),(155,[af,ah]),(156,[(.list (.int .i64)),(.int .i64)]),(158,[(.list (.int .u32))]),(159,[(.int .u64)]),(160,[(.list (.int .u32)),(.list (.int .u32))]),(161,[(.list (.int .u32))]),(162,[(.int .u64),(.int .i64)]),(163,[au]),(164,[(.int .i64),(.int .i64)]),(166,[(.list (.int .u32)),(.list (.int .u32))]),(167,[(.int .i64),(.list ah)]),(168,[(.list (.int .i64))]),(169,[(.list (.int .u32))]),(170,[(.list (.int .i64)),(.list (.int .i64))]),(171,[au,au]),(173,[(.list (.int .u32)),(.int .u32)]),(174,[(.int .u32)]),(175,[(.list (.int .u32)),(.int .i64)]),(176,[(.list (.int .u32)),(.list (.int .u32)),(.int .u64)]),(177,[(.list (.int .u32)),(.list (.int .u32))]),(178,[(.list (.int .u32)),(.int .i64)]),(179,[(.int .i64)]),(180,[(.int .u64)]),(181,[(.list (.int .u8)),(.int .u64)]),(182,[(.list (.int .u8)),(.int .u64),(.int .i64),.bool,.bool]),(183,[(.int .i64)]),(184,[(.list (.int .u32))]),(185,[(.list (.int .u32)),(.list (.int .u32)),(.int .i64),(.int .i64)]),(186,[(.list (.int .i64))]),(188,[(.int .i64),(.int .i64)]),(189,[au]),(190,[(.int .u32)]),(191,[(.int .i64)]),(192,[(.int .u64)]),(193,[.bool]),(194,[(.int .i64)]),(195,[(.int .u64)]),(199,[(.int .u64)]),(200,[de,(.int .i64),(.int .i64),(.int .i64)]),(201,[(.int .u32)]),(202,[(.int .u64)]),(212,[de,(.int .i64),(.int .i64)]),(213,[de,(.int .i64),(.int .i64)]),(214,[de,(.int .i64),(.int .i64)]),(215,[de,(.int .i64),(.int .i64)]),(216,[de,(.int .i64),(.int .i64)]),(217,[de,(.int .i64),(.int .i64)]),(218,[de,(.int .i64),(.int .i64),(.int .i64)]),(219,[de,(.int .i64),(.int .i64),(.int .i64)]),(220,[de,(.int .i64),(.int .i64),(.int .i64)]),(221,[(.int .i64)])]
def outTab:List (Nat×(Bool×Ty)):=[(10,(Q0,.bool)),(12,(Q0,.bool)),(14,(Q1,(.pair .str (.pair (.int .i64) .unit)))),(17,(Q0,.bool)),(18,(Q1,(.pair af (.pair (.int .i64) .unit)))),(19,(Q0,.bool)),(20,(Q0,.bool)),(22,(Q0,(.list ab))),(23,(Q0,.bool)),(25,(Q0,(.int .i64))),(27,(Q0,aq)),(30,(Q0,aq)),(33,(Q1,(.pair af (.pair (.int .i64) .unit)))),(36,(Q0,aq)),(37,(Q0,aq)),(39,(Q1,(.pair af (.pair (.int .i64) .unit)))),(44,(Q1,(.pair af (.pair (.int .i64) .unit)))),(52,(Q0,(.list ab))),(53,(Q0,(.list ab))),(54,(Q0,(.list ab))),(55,(Q0,.bool)),(58,(Q1,(.pair af (.pair (.int .i64) .unit)))),(59,(Q1,(.pair (.list ab) (.pair .bool .unit)))),(60,(Q0,af)),(62,(Q0,.bool)),(63,(Q0,au)),(64,(Q0,aq)),(65,(Q0,.bool)),(66,(Q1,(.pair .str (.pair (.int .i64) .unit)))),(67,(Q0,.str)),(68,(Q0,.str)),(70,(Q0,.bool)),(71,(Q0,(.int .i64))),(72,(Q0,(.int .i64))),(73,(Q0,.bool)),(74,(Q0,(.int .i64))),(75,(Q1,(.pair af (.pair (.int .i64) .unit)))),(76,(Q0,(.list ab))),(77,(Q0,(.list ab))),(78,(Q0,.bool)),(80,(Q0,(.int .i64))),(81,(Q0,(.int .i64))),(83,(Q0,.bool)),(84,(Q0,(.list (.int .i64)))),(87,(Q0,(.list ah))),(88,(Q0,(.int .i64))),(89,(Q1,(.pair ah (.pair .bool .unit)))),(90,(Q0,au)),(91,(Q1,(.pair af (.pair (.int .i64) .unit)))),(92,(Q0,.bool)),(93,(Q0,aq)),(95,(Q0,(.list (.int .i64)))),(96,(Q0,aq)),(97,(Q0,(.list (.int .i64)))),(98,(Q0,(.int .i64))),(99,(Q0,(.list (.int .i64)))),(100,(Q0,(.int .i64))),(101,(Q0,.bool)),(102,(Q0,af)),(107,(Q0,af)),(108,(Q0,af)),(109,(Q0,af)),(111,(Q0,af)),(112,(Q0,au)),(113,(Q0,af)),(114,(Q1,(.pair af (.pair .bool .unit)))),(115,(Q0,(.int .i64))),(116,(Q0,aq)),(117,(Q0,.bool)),(118,(Q0,(.list (.int .u32)))),(119,(Q0,(.list (.int .i64)))),(121,(Q1,(.pair .str (.pair (.int .i64) .unit)))),(123,(Q0,.bool)),(125,(Q0,.str)),(128,(Q0,.bool)),(129,(Q0,(.list (.int .u32)))),(130,(Q0,af)),(132,(Q0,.bool)),(133,(Q0,(.list (.int .i64)))),(134,(Q0,(.list (.int .i64)))),(135,(Q0,au)),(136,(Q0,au)),(138,(Q0,(.int .i64))),(139,(Q0,(.list (.int .u32)))),(140,(Q0,au)),(141,(Q0,(.list (.int .u32)))),(142,(Q0,(.list (.int .u32)))),(143,(Q0,af)),(144,(Q0,.bool)),(146,(Q0,(.list (.int .i64)))),(147,(Q1,(.pair (.list (.int .i64)) (.pair (.list (.int .i64)) .unit)))),(148,(Q0,(.list (.int .i64)))),(149,(Q0,(.int .i64))),(150,(Q0,au)),(151,(Q0,au)),(152,(Q0,af)),(154,(Q1,(.pair ah (.pair .bool .unit)))),(155,(Q0,af)),(156,(Q1,(.pair (.list (.int .i64)) (.pair (.int .i64) .unit)))),(158,(Q0,.bool)),(159,(Q0,(.list (.int .u32)))),(160,(Q1,(.pair (.list (.int .u32)) (.pair (.list (.int .u32)) .unit)))),(161,(Q1,(.pair (.int .u64) (.pair .bool .unit)))),(162,(Q0,(.list (.int .u8)))),(163,(Q0,.bool)),(164,(Q0,.str)),(166,(Q1,(.pair (.list (.int .u32)) (.pair (.list (.int .u32)) (.pair .bool .unit))))),(167,(Q0,af)),(168,(Q1,(.pair (.int .i64) (.pair .bool .unit)))),(169,(Q0,(.list (.int .u32)))),(170,(Q0,(.int .i64))),(171,(Q0,au)),(173,(Q1,(.pair (.list (.int .u32)) (.pair (.int .u32) .unit)))),(174,(Q0,(.int .i64))),(175,(Q0,(.list (.int .u32)))),(176,(Q0,.bool)),(177,(Q1,.unit)),(178,(Q0,(.list (.int .u32)))),(179,(Q0,.str)),(180,(Q0,(.int .i64))),(181,(Q1,.unit)),(182,(Q1,(.pair (.list (.int .u8)) (.pair .str .unit)))),(183,(Q0,(.list (.int .u8)))),(184,(Q0,(.int .i64))),(185,(Q0,(.list (.int .u32)))),(186,(Q0,.str)),(188,(Q0,.bool)),(189,(Q0,au)),(190,(Q0,(.int .i64))),(191,(Q0,(.int .i64))),(192,(Q0,(.int .i64))),(193,(Q0,(.int .i64))),(194,(Q0,.bool)),(195,(Q0,(.int .i64))),(199,(Q0,(.int .i64))),(200,(Q1,.unit)),(201,(Q0,(.int .i64))),(202,(Q0,(.int .i64))),(212,(Q1,.unit)),(213,(Q1,.unit)),(214,(Q1,.unit)),(215,(Q1,(.pair (.int .i64) (.pair (.int .i64) .unit)))),(216,(Q1,.unit)),(217,(Q0,.bool)),(218,(Q0,(.int .i64))),(219,(Q1,(.pair (.int .i64) (.pair .bool .unit)))),(220,(Q1,.unit)),(221,(Q0,(.int .u64)))]
def ownTab:List (Nat×List Nat):=[(14,[4,58,61]),(22,[3,18,25]),(52,[5,8,10,17,22]),(54,[5,14,21]),(59,[7,57,60]),(60,[6,11,14,47,51,52,68,2000005,6000011]),(76,[5,31,40]),(77,[0,6,12,35,44,48,49,54,56,61]),(87,[9,41,44,52,57,63,68,71,73]),(95,[5,18,45,69]),(97,[5,44,48]),(99,[5,10,36]),(107,[13]),(109,[10,23,32,2000005,6000010]),(113,[12,67,77,87,94,102,109,2000005,6000012]),(114,[6,28,31]),(118,[3,6,17,20,47,50]),(119,[3,4,7,11]),(121,[4,10,34,37,45,61,63]),(130,[5,15,20,28,3000000005]),(134,[7,13,25,29,35,39]),(139,[5,24,54,64]),(141,[5,19,42,50]),(142,[5,12,35]),(143,[8,17,20,29,2000003,6000008]),(147,[12,56,75]),(148,[5]),(154,[6,12,21]),(155,[8,12,22,28,44,53,2000005,6000012]),(156,[6,11,26]),(160,[4,6,33,35,64,156,162]),(162,[5,16,22,35,37]),(167,[6,37,40,41,55,67,70,2000012,6000055]),(173,[6,11,27]),(175,[7,24,36,46]),(176,[0,37,57]),(177,[0,24,32]),(178,[7,23,54]),(181,[0,42,45,55,58,68,71,81,84,110,113,123,126,145,148,162]),(182,[0,95]),(186,[3,9,16,29])]
def liveTab:List (Nat×List (Nat×List (Nat×Bool×TypeId))):=[(14,[(7,[(4,Q1,94),(17,Q0,22),(18,Q0,3),(19,Q0,3)]),(11,[(4,Q1,94),(7,Q0,9),(17,Q0,22),(18,Q0,3),(19,Q0,3),(30,Q0,48),(31,Q0,3),(32,Q0,3)]),(17,[(4,Q1,94),(7,Q0,9),(17,Q0,22),(18,Q0,3),(19,Q0,3),(30,Q0,48),(31,Q0,3),(32,Q0,3)])]),(17,[(4,[(1,Q0,0),(23,Q0,22),(24,Q0,3),(25,Q0,3)]),(10,[(1,Q0,0),(3,Q0,3),(4,Q0,0),(5,Q0,3),(23,Q0,22),(24,Q0,3),(25,Q0,3),(49,Q0,48),(50,Q0,3),(51,Q0,3)])]),(22,[(3,[(3,Q1,39),(8,Q0,22),(9,Q0,3),(10,Q0,3)])]),(23,[(4,[(2,Q0,3),(3,Q0,3),(4,Q0,0),(27,Q0,22),(28,Q0,3),(29,Q0,3)])]),(25,[(3,[(3,Q0,3),(6,Q0,39),(7,Q0,3),(8,Q0,3)])]),(52,[(3,[(5,Q1,39),(11,Q0,39),(12,Q0,3),(13,Q0,3)])]),(54,[(3,[(3,Q0,0),(5,Q1,39),(8,Q0,39),(9,Q0,3),(10,Q0,3)])]),(55,[(4,[(3,Q0,0),(24,Q0,22),(25,Q0,3),(26,Q0,3)]),(10,[(3,Q0,0),(6,Q0,0),(7,Q0,0),(24,Q0,22),(25,Q0,3),(26,Q0,3),(53,Q0,3),(54,Q0,3)])]),(58,[(4,[(2,Q0,0),(3,Q0,0),(4,Q0,0),(6,Q0,27)])]),(59,[(4,[(0,Q0,39),(1,Q0,39),(6,Q0,0),(7,Q1,39),(8,Q0,3)]),(7,[(0,Q0,39),(1,Q0,39),(6,Q0,0),(7,Q1,39),(8,Q0,3),(9,Q0,0),(26,Q0,3)])]),(60,[(4,[(0,Q0,39),(1,Q0,3),(4,Q0,0),(5,Q1,0),(6,Q1,134),(16,Q0,3),(17,Q0,3)]),(7,[(0,Q0,39),(1,Q0,3),(4,Q0,0),(5,Q1,0),(6,Q1,134),(7,Q0,3),(16,Q0,3),(17,Q0,3),(19,Q0,39),(20,Q0,3),(21,Q0,3)]),(11,[(0,Q0,39),(1,Q0,3),(4,Q0,0),(5,Q1,0),(6,Q1,134),(7,Q0,3),(16,Q0,3),(17,Q0,3),(19,Q0,39),(20,Q0,3),(21,Q0,3)])]),(62,[(5,[(1,Q0,0),(3,Q0,0),(24,Q0,22),(25,Q0,3),(26,Q0,3)]),(11,[(1,Q0,0),(3,Q0,0),(4,Q0,3),(6,Q0,0),(24,Q0,22),(25,Q0,3),(26,Q0,3),(57,Q0,48),(58,Q0,3),(59,Q0,3)])]),(66,[(6,[(1,Q0,0),(4,Q0,0)]),(11,[(4,Q0,0)])]),(68,[(10,[(0,Q0,94),(1,Q0,9),(5,Q0,3)]),(11,[(0,Q0,94),(1,Q0,9),(5,Q0,3)]),(12,[(0,Q0,94),(1,Q0,9),(5,Q0,3),(39,Q0,94),(40,Q0,3),(41,Q0,3)]),(16,[(0,Q0,94),(1,Q0,9),(5,Q0,3),(7,Q0,9),(39,Q0,94),(40,Q0,3),(41,Q0,3)]),(22,[(1,Q0,9),(8,Q0,0),(63,Q0,94),(64,Q0,3),(65,Q0,3)])]),(72,[(2,[(1,Q0,48),(7,Q0,48),(8,Q0,3),(9,Q0,3)])]),(76,[(3,[(3,Q0,0),(5,Q1,39),(10,Q0,39),(11,Q0,3),(12,Q0,3)]),(7,[(3,Q0,0),(5,Q1,39),(7,Q0,0),(8,Q0,0),(10,Q0,39),(11,Q0,3),(12,Q0,3),(18,Q0,3)])]),(77,[(4,[(0,Q1,39),(4,Q0,0),(5,Q0,0),(14,Q0,3),(15,Q0,3)])]),(80,[(3,[(3,Q0,3),(6,Q0,47),(7,Q0,3)])]),(84,[(3,[(0,Q0,59),(3,Q0,49),(4,Q0,3)])]),(87,[(2,[(0,Q0,22),(1,Q0,22),(2,Q0,112),(3,Q0,114),(9,Q1,22)]),(7,[(0,Q0,22),(1,Q0,22),(2,Q0,112),(3,Q0,114),(9,Q1,22)])]),(90,[(4,[(2,Q0,0),(3,Q0,0),(4,Q0,0),(5,Q0,59),(6,Q0,59),(7,Q0,59)])]),(95,[(3,[(1,Q0,49),(5,Q1,49),(19,Q0,49),(20,Q0,3),(21,Q0,3)]),(7,[(1,Q0,49),(5,Q1,49),(6,Q0,3),(7,Q0,3),(8,Q0,3),(19,Q0,49),(20,Q0,3),(21,Q0,3),(26,Q0,49),(27,Q0,3),(28,Q0,3)]),(14,[(1,Q0,49),(5,Q1,49),(8,Q0,3),(11,Q0,3),(19,Q0,49),(20,Q0,3),(21,Q0,3)])]),(97,[(4,[(0,Q0,49),(1,Q0,49),(5,Q1,49),(6,Q0,3),(7,Q0,3)]),(8,[(0,Q0,49),(1,Q0,49),(5,Q1,49),(6,Q0,3),(7,Q0,3)]),(10,[(0,Q0,49),(1,Q0,49),(5,Q1,49),(6,Q0,3),(7,Q0,3)])]),(98,[(6,[(0,Q0,49),(1,Q0,49),(5,Q0,3)])]),(99,[(4,[(1,Q0,49),(5,Q1,49),(6,Q0,3),(12,Q0,3),(13,Q0,3)]),(9,[(1,Q0,49),(5,Q1,49),(7,Q0,3),(8,Q0,3),(12,Q0,3),(13,Q0,3)]),(13,[(1,Q0,49),(5,Q1,49),(6,Q0,3),(7,Q0,3),(8,Q0,3),(12,Q0,3),(13,Q0,3)])]),(100,[(3,[(3,Q0,3),(7,Q0,22),(8,Q0,3),(9,Q0,3)])]),(109,[(5,[(3,Q0,0),(4,Q0,0),(5,Q1,0),(16,Q0,22),(17,Q0,3),(18,Q0,3)])]),(113,[(3,[(2,Q0,0),(3,Q0,0),(4,Q0,0),(5,Q1,0),(6,Q0,3),(7,Q0,3)]),(13,[(2,Q0,0),(3,Q0,0),(4,Q0,0),(5,Q1,0),(6,Q0,3),(7,Q0,3)]),(14,[(2,Q0,0),(3,Q0,0),(4,Q0,0),(5,Q1,0),(6,Q0,3),(7,Q0,3),(8,Q0,3)])]),(114,[(2,[(2,Q0,0),(3,Q0,0),(4,Q0,0),(6,Q1,22)])]),(115,[(3,[(0,Q0,39),(3,Q0,3),(6,Q0,39),(7,Q0,3),(8,Q0,3)]),(7,[(0,Q0,39),(3,Q0,3),(6,Q0,39),(7,Q0,3),(8,Q0,3)])]),(117,[(2,[(2,Q0,0),(3,Q0,0),(6,Q0,3)])]),(118,[(2,[(0,Q0,49),(3,Q1,48)]),(8,[(3,Q1,48),(6,Q1,59),(7,Q0,3)]),(13,[(3,Q1,48),(6,Q1,59),(7,Q0,3),(8,Q0,151)])]),(119,[(2,[(0,Q0,3),(3,Q1,49)])]),(121,[(7,[(0,Q0,59),(4,Q1,173),(5,Q0,59)]),(14,[(4,Q1,173),(10,Q1,32),(11,Q0,3)])]),(129,[(3,[(0,Q0,59),(1,Q0,59)]),(14,[(12,Q0,175),(14,Q0,175)])]),(130,[(3,[(2,Q0,0),(3,Q0,0),(4,Q0,0),(5,Q1,22),(9,Q0,22),(10,Q0,3),(11,Q0,3)]),(8,[(2,Q0,0),(3,Q0,0),(4,Q0,0),(5,Q1,22),(9,Q0,22),(10,Q0,3),(11,Q0,3)])]),(133,[(1,[(0,Q0,49),(1,Q0,49)]),(5,[(5,Q0,3),(7,Q0,3)])]),(134,[(3,[(1,Q0,3),(2,Q0,3),(7,Q1,49),(14,Q0,49),(15,Q0,3),(16,Q0,3)]),(9,[(2,Q0,3),(7,Q1,49)])]),(138,[(6,[(0,Q0,59),(1,Q0,59),(5,Q0,3)])]),(139,[(5,[(1,Q0,59),(5,Q1,59),(25,Q0,59),(26,Q0,3),(27,Q0,3)]),(9,[(1,Q0,59),(5,Q1,59),(6,Q0,3),(7,Q0,151),(8,Q0,175),(25,Q0,59),(26,Q0,3),(27,Q0,3),(32,Q0,59),(33,Q0,3),(34,Q0,3)])]),(140,[(7,[(0,Q0,4),(1,Q0,59),(2,Q0,59),(6,Q0,0)])]),(141,[(3,[(0,Q0,59),(1,Q0,59)]),(6,[(0,Q0,59),(1,Q0,59),(5,Q1,59),(6,Q0,175),(20,Q0,59),(21,Q0,3),(22,Q0,3)]),(11,[(0,Q0,59),(1,Q0,59),(5,Q1,59),(6,Q0,175),(7,Q0,3),(20,Q0,59),(21,Q0,3),(22,Q0,3)])]),(142,[(4,[(1,Q0,59),(5,Q1,59),(6,Q0,175),(13,Q0,59),(14,Q0,3),(15,Q0,3)]),(9,[(1,Q0,59),(5,Q1,59),(7,Q0,3),(9,Q0,175),(13,Q0,59),(14,Q0,3),(15,Q0,3)])]),(143,[(3,[(1,Q0,0),(2,Q0,0),(3,Q1,0),(10,Q0,22),(11,Q0,3),(12,Q0,3)])]),(144,[(4,[(0,Q0,59),(1,Q0,59),(12,Q0,3),(13,Q0,3)])]),(146,[(2,[(0,Q0,49),(3,Q0,3)])]),(147,[(13,[(0,Q0,49),(1,Q0,49),(12,Q1,49),(13,Q0,49),(14,Q0,3)]),(14,[(0,Q0,49),(1,Q0,49),(12,Q1,49),(13,Q0,49),(14,Q0,3)])]),(149,[(3,[(3,Q0,3),(6,Q0,48),(7,Q0,3),(8,Q0,3)])]),(154,[(3,[(2,Q0,0),(3,Q0,0),(4,Q0,0),(6,Q1,48),(14,Q0,48),(15,Q0,3),(16,Q0,3)])]),(155,[(3,[(2,Q0,0),(3,Q0,0),(4,Q0,0),(5,Q1,0),(14,Q0,22),(15,Q0,3),(16,Q0,3)]),(7,[(2,Q0,0),(3,Q0,0),(4,Q0,0),(5,Q1,0),(7,Q0,0),(8,Q1,48),(14,Q0,22),(15,Q0,3),(16,Q0,3),(24,Q0,3),(25,Q0,3)])]),(156,[(4,[(0,Q0,49),(1,Q0,3),(6,Q1,49),(7,Q0,3),(8,Q0,3)])]),(160,[(14,[(4,Q1,59),(8,Q0,3),(9,Q0,59),(10,Q0,59),(11,Q0,3),(12,Q0,175),(13,Q0,175),(14,Q0,3)]),(18,[(4,Q1,59),(8,Q0,3),(9,Q0,59),(10,Q0,59),(11,Q0,3),(12,Q0,175),(13,Q0,175),(14,Q0,3),(16,Q0,175),(17,Q0,175)]),(22,[(4,Q1,59),(8,Q0,3),(9,Q0,59),(10,Q0,59),(11,Q0,3),(12,Q0,175),(13,Q0,175),(14,Q0,3),(16,Q0,175)]),(25,[(4,Q1,59),(8,Q0,3),(9,Q0,59),(10,Q0,59),(11,Q0,3),(12,Q0,175),(13,Q0,175),(14,Q0,3),(16,Q0,175)])]),(162,[(2,[(0,Q0,175),(1,Q0,3),(5,Q1,32)]),(6,[(5,Q1,32),(6,Q0,3),(7,Q0,3)])]),(164,[(8,[(0,Q0,2),(5,Q0,0),(6,Q0,175)])]),(166,[(8,[(0,Q0,59),(1,Q0,59),(12,Q0,2),(13,Q0,2),(14,Q0,2),(15,Q0,2),(16,Q0,2),(17,Q0,2)]),(14,[(0,Q0,59),(1,Q0,59),(12,Q0,2),(13,Q0,2),(14,Q0,2),(15,Q0,2)])]),(167,[(4,[(0,Q0,3),(4,Q0,0),(5,Q0,205),(6,Q1,22),(16,Q0,22),(17,Q0,3),(18,Q0,3)]),(12,[(0,Q0,3),(4,Q0,0),(5,Q0,205),(6,Q1,22),(16,Q0,22),(17,Q0,3),(18,Q0,3)]),(15,[(4,Q0,0),(12,Q1,0),(56,Q0,22),(57,Q0,3),(58,Q0,3)]),(19,[(4,Q0,0),(12,Q1,0),(56,Q0,22),(57,Q0,3),(58,Q0,3)])]),(168,[(5,[(0,Q0,49),(4,Q0,3),(5,Q0,3)])]),(169,[(1,[(0,Q0,59)])]),(170,[(4,[(0,Q0,49),(1,Q0,49),(5,Q0,3),(6,Q0,3),(7,Q0,3),(8,Q0,3)]),(5,[(0,Q0,49),(1,Q0,49),(5,Q0,3),(6,Q0,3),(7,Q0,3),(8,Q0,3)]),(10,[(0,Q0,49),(1,Q0,49),(5,Q0,3),(6,Q0,3),(7,Q0,3),(9,Q0,3)]),(15,[(0,Q0,49),(1,Q0,49),(6,Q0,3),(7,Q0,3)]),(16,[(0,Q0,49),(1,Q0,49),(10,Q0,3)]),(18,[(0,Q0,49),(1,Q0,49),(10,Q0,3)])]),(173,[(4,[(0,Q0,59),(1,Q0,151),(6,Q1,59),(7,Q0,175),(8,Q0,3)])]),(175,[(6,[(5,Q0,3),(6,Q0,156),(7,Q1,59),(25,Q0,59),(26,Q0,3),(27,Q0,3)])]),(176,[(3,[(0,Q1,59),(1,Q0,59),(2,Q0,175),(7,Q0,175),(8,Q0,175),(13,Q0,59),(14,Q0,3),(15,Q0,3)])]),(177,[(2,[(0,Q1,59),(1,Q0,59),(4,Q0,175),(7,Q0,59),(8,Q0,3),(9,Q0,3)])]),(178,[(6,[(0,Q0,59),(5,Q0,3),(6,Q0,156),(7,Q1,59),(25,Q0,3),(26,Q0,3)]),(11,[(0,Q0,59),(5,Q0,3),(6,Q0,156),(7,Q1,59),(8,Q0,3),(9,Q0,175),(25,Q0,3),(26,Q0,3)])]),(181,[(1,[(0,Q1,32),(1,Q0,175),(4,Q0,3)]),(20,[(0,Q1,32),(4,Q0,3),(12,Q0,151)]),(25,[(0,Q1,32),(4,Q0,3),(12,Q0,151)])]),(182,[(3,[(0,Q1,32),(1,Q0,175),(2,Q0,3),(3,Q0,4),(4,Q0,4),(10,Q0,32),(11,Q0,9)]),(7,[(0,Q1,32),(1,Q0,175),(2,Q0,3),(3,Q0,4),(4,Q0,4),(10,Q0,32),(11,Q0,9),(12,Q0,0),(13,Q0,3)]),(11,[(0,Q1,32),(1,Q0,175),(3,Q0,4),(4,Q0,4),(10,Q0,32),(11,Q0,9),(12,Q0,0),(13,Q0,3),(14,Q0,156),(15,Q0,175),(16,Q0,156)]),(18,[(0,Q1,32),(1,Q0,175),(3,Q0,4),(4,Q0,4),(10,Q0,32),(11,Q0,9),(12,Q0,0),(13,Q0,3),(17,Q0,175)]),(25,[(0,Q1,32),(3,Q0,4),(4,Q0,4),(10,Q0,32),(11,Q0,9),(12,Q0,0),(13,Q0,3)]),(28,[(0,Q1,32),(4,Q0,4),(10,Q0,32),(11,Q0,9),(12,Q0,0),(13,Q0,3)])]),(186,[(3,[(3,Q1,32),(10,Q0,48),(11,Q0,3),(12,Q0,3)])]),(190,[(4,[(0,Q0,151),(2,Q0,3)]),(7,[(0,Q0,151),(2,Q0,3)])]),(192,[(4,[(0,Q0,175),(2,Q0,3)]),(7,[(0,Q0,175),(2,Q0,3)]),(10,[(0,Q0,175),(2,Q0,3)])]),(200,[(3,[(1,Q0,3),(2,Q0,3),(3,Q0,3),(4,Q0,0),(8,Q0,4),(9,Q0,4)]),(11,[(1,Q0,3),(2,Q0,3),(3,Q0,3),(4,Q0,0),(8,Q0,4),(9,Q0,4),(10,Q0,3)]),(16,[(1,Q0,3),(2,Q0,3),(3,Q0,3),(4,Q0,0),(8,Q0,4),(9,Q0,4),(10,Q0,3),(11,Q0,3),(12,Q0,229)]),(18,[(1,Q0,3),(2,Q0,3),(3,Q0,3),(4,Q0,0),(8,Q0,4),(9,Q0,4),(10,Q0,3),(11,Q0,3)])]),(212,[(2,[(1,Q0,3),(2,Q0,3),(3,Q0,0),(6,Q0,3)]),(5,[(1,Q0,3),(2,Q0,3),(3,Q0,0),(6,Q0,3),(7,Q0,3)])]),(213,[(5,[(3,Q0,0),(6,Q0,3),(7,Q0,3),(8,Q0,3),(9,Q0,3)]),(9,[(3,Q0,0),(6,Q0,3),(7,Q0,3),(10,Q0,3)])]),(214,[(6,[(1,Q0,3),(3,Q0,0),(6,Q0,3),(7,Q0,0),(8,Q0,156),(9,Q0,3)]),(11,[(1,Q0,3),(3,Q0,0),(6,Q0,3),(7,Q0,0),(8,Q0,156),(9,Q0,3),(10,Q0,3)])]),(215,[(11,[(3,Q0,0),(9,Q0,0),(10,Q0,3),(11,Q0,3),(12,Q0,3)]),(12,[(9,Q0,0),(11,Q0,3)])]),(216,[(3,[(3,Q0,0),(6,Q0,3),(7,Q0,3)])]),(217,[(3,[(1,Q0,3),(2,Q0,3),(3,Q0,0),(7,Q0,3),(8,Q0,3)]),(4,[(1,Q0,3),(2,Q0,3),(3,Q0,0),(7,Q0,3),(8,Q0,3)]),(5,[(1,Q0,3),(2,Q0,3),(3,Q0,0),(7,Q0,3),(8,Q0,3)]),(14,[(1,Q0,3),(2,Q0,3),(3,Q0,0),(7,Q0,3),(8,Q0,3),(9,Q0,3)]),(18,[(1,Q0,3),(2,Q0,3),(3,Q0,0),(7,Q0,3),(8,Q0,3)]),(20,[(1,Q0,3),(2,Q0,3),(3,Q0,0),(7,Q0,3),(8,Q0,3),(10,Q0,3)])]),(218,[(3,[(1,Q0,3),(4,Q0,0),(9,Q0,3),(10,Q0,3)]),(5,[(1,Q0,3),(4,Q0,0),(9,Q0,3),(10,Q0,3)])]),(219,[(3,[(1,Q0,3),(4,Q0,0),(10,Q0,3),(11,Q0,3)]),(5,[(1,Q0,3),(4,Q0,0),(10,Q0,3),(11,Q0,3)]),(13,[(1,Q0,3),(4,Q0,0),(10,Q0,3),(11,Q0,3)]),(15,[(1,Q0,3),(4,Q0,0),(10,Q0,3),(11,Q0,3)])]),(220,[(2,[(2,Q0,3),(3,Q0,3),(4,Q0,0),(8,Q0,3)]),(6,[(2,Q0,3),(3,Q0,3),(4,Q0,0),(8,Q0,3),(9,Q0,3)])])]
def N3:List (Nat×(Nat×TypeId)):=[]
def arTab:List (Nat×(Nat×Nat)):=[(47,(8,3)),(197,(24,5)),(211,(20,175)),(212,(65,5)),(235,(32,5)),(236,(64,5))]
def mpTab:List Nat:=[205]
def L2:List (Nat×(Nat×TypeId)):=[(77,(0,53))]
def T:gU:={ P:=Tryz.prog,ty:=tyTab,el:=elTab,ar:=arTab,mp_:=mpTab,given_:=L2,by_:=byTab,par:=parTab,out_:=outTab,lent_:=N3,own:=ownTab,live:=liveTab,hook:=L1 22 24 96 187 188 205 }
end Go.Proofs.YtfbgaddecbiimaaGreatDoor.E
end
section
namespace Go.Proofs.YtfbgaddecbiimaaGreatDoorW.PrintLast
section
variable {md:Region.Mode} {ops:Array Oper} {T:Bool×List (List Nat×List Nat)} {l l' li lj lk:Array Bool} {ds:List Nat} {i j k:Nat}
theorem gd (l:Array Bool) (j:Nat) (b:Bool):l.getD j b=l.toList.getD j b:=by simp [Array.getD_eq_getD_getElem?,List.getD_eq_getElem?_getD]
end
def up (b:Nat->Bool) (i:Nat):Nat->Bool:=fun j=>if j=i then true else b j
end Go.Proofs.YtfbgaddecbiimaaGreatDoorW.PrintLast
end
namespace Go.Proofs.YtfbgaddecbiimaaGreatDoorW
open PrintWords
theorem bB {P : Prop} (h : P := by repeat (first | (with_reducible first | exact HB.out | apply PrintWords.below_alloc | apply PrintWords.pw_below_drewN | apply PrintWords.below_drew1) | exact HB.out)) : P := h
theorem dR {A B : Prop} (h : A) (g : A -> B := by intro h_; (with_reducible repeat (first | apply PrintWords.Kd.R_alloc | apply PrintWords.Kd.R_drewN | apply PrintWords.Kd.R_drew)); exact h_) : B := g h
theorem dV {A B : Prop} (h : A) (g : A -> B := by intro h_; (with_reducible repeat (first | apply PrintWords.Kd.V_alloc | apply PrintWords.Kd.V_drewN | apply PrintWords.Kd.V_drew)); exact h_) : B := g h
theorem dC {A B : Prop} (h : A) (g : A -> B := by intro h_; repeat (first | exact h_ | (with_reducible refine PrintWords.Kd.C_alloc ?_ _) | (with_reducible refine PrintWords.Kd.C_drewN ?_ _) | (with_reducible refine PrintWords.Kd.C_drew ?_))) : B := g h
theorem dQ {P : Prop} (h : P := by first | exact ⟨rfl, _, World.drewN_drewN _ _ _⟩ | exact ⟨rfl, _, Eq.trans (World.drewN_drewN _ _ _) (congrArg (World.drewN _) (Nat.add_assoc _ _ _))⟩) : P := h
theorem aS {P : Prop} (h : P := by first | (with_reducible assumption) | assumption) : P := h
end Go.Proofs.YtfbgaddecbiimaaGreatDoorW
section
namespace Go.Proofs.YtfbgaddecbiimaaGreatDoor.P
open Go.RowKit Go.Proofs.YtfbgaddecbiimaaGreatDoorW.PrintWords Go.Proofs.YtfbgaddecbiimaaGreatDoorW.PrintLast Go.Proofs.YtfbgaddecbiimaaGreatDoorW.PrintMore Go.Proofs.YtfbgaddecbiimaaGreatDoorW
attribute [local go_sem] ye yc BC BA Aa z8 D4 D2
set_option linter.unusedVariables false
set_option linter.unusedSimpArgs false
structure S61 where
 f0:Bool
 f1:(List Int)
 f2:(List Int)
def z61:S61:=⟨false,([]:List Int),([]:List Int)⟩
structure rN where
 f0:(List Int)
 f1:S61
def z96:rN:=⟨([]:List Int),z61⟩
def cm (xs:List rN) (i:Int):rN:=xs.getD i.toNat z96
end Go.Proofs.YtfbgaddecbiimaaGreatDoor.P
end
section
namespace Go.Proofs.YtfbgaddecbiimaaGreatDoor.P
open Go.RowKit Go.Proofs.YtfbgaddecbiimaaGreatDoorW.PrintWords Go.Proofs.YtfbgaddecbiimaaGreatDoorW.PrintLast Go.Proofs.YtfbgaddecbiimaaGreatDoorW.PrintMore Go.Proofs.YtfbgaddecbiimaaGreatDoorW
attribute [local go_sem] ye yc BC BA Aa z8 D4 D2
set_option linter.unusedVariables false
set_option linter.unusedSimpArgs false
def nG.f (d:Bool) (a b:List Int) (c:Int):Option (Bool):=if (a.length:Int)<=c then (some (decide ((b.length:Int)<=c))) else (some false)
def jc.f (b:Bool) (a c:List Int):Option (Int):=if (a.length:Int)=0 then (some 0) else (if b=true then (some (-1)) else (some 1))
def fm.l0:Nat->List Int->List Int->Int->Int->Option (Int)
 | 0,_,_,_,_=>none
 | k+1,x1,x7,x8,x9=>if x9<x8 then (if 0<=x9 then (if x9<(x7.length:Int) then (if x9<(x1.length:Int) then (if (rd x7 x9)=(rd x1 x9) then (fm.l0 k x1 x7 x8 (wrap64 (x9+1))) else (if (rd x7 x9)<(rd x1 x9) then (some (-1)) else (some 1))) else (none)) else (none)) else (none)) else (some 0)
def fm.f (k:Nat) (l0 a:List Int):Option (Int):=fm.l0 k a l0 (l0.length:Int) 0
def kd.f (a:List Int) (b:Int):Option (Bool):=if (a.length:Int)<=b then (if (a.length:Int)=0 then (some true) else (if 0<=(wrap64 ((a.length:Int)-1)) then (if (wrap64 ((a.length:Int)-1))<(a.length:Int) then (some ((rd a (wrap64 ((a.length:Int)-1))) != 0)) else (none)) else (none))) else (some false)
def dX.l0:Nat->List Int->List Int->Int->Option (Int)
 | 0,_,_,_=>none
 | k+1,x0,x1,x5=>if x5>=0 then (if 0<=x5 then (if x5<(x0.length:Int) then (if x5<(x1.length:Int) then (if (rd x0 x5)=(rd x1 x5) then (dX.l0 k x0 x1 (wrap64 (x5-1))) else (if (rd x0 x5)<(rd x1 x5) then (some (-1)) else (some 1))) else (none)) else (none)) else (none)) else (some 0)
def dX.f (k:Nat) (l0 a:List Int):Option (Int):=if (l0.length:Int)=(a.length:Int) then (dX.l0 k l0 a (wrap64 ((l0.length:Int)-1))) else (if (l0.length:Int)<(a.length:Int) then (some (-1)) else (some 1))
def cG.l0:Nat->List Int->Option (List Int)
 | 0,_=>none
 | k+1,x0=>if (x0.length:Int)>0 then (if 0<=(wrap64 ((x0.length:Int)-1)) then (if (wrap64 ((x0.length:Int)-1))<(x0.length:Int) then (if (rd x0 (wrap64 ((x0.length:Int)-1)))=0 then (if (wrap64 ((x0.length:Int)-1))<=(x0.length:Int) then (cG.l0 k (x0.take ((wrap64 ((x0.length:Int)-1)):Int).toNat)) else (none)) else (some x0)) else (none)) else (none)) else (some x0)
def cG.f (k:Nat) (l0:List Int):Option (List Int):=cG.l0 k l0
def dB.f (k:Nat) (b:Int):Option (List Int):=(cG.f k (([(b) % 4294967296,(b / 4294967296) % 4294967296]:List Int))).bind fun a=>(some a)
def dY.l0:Nat->List Int->Int->List Int->Int->Int->Option (List Int×Int)
 | 0,_,_,_,_,_=>none
 | k+1,x0,x1,x6,x7,x8=>if x8>=0 then (if 0<=x8 then (if x8<(x0.length:Int) then (if (IntKind.u64.wrap (x1))=0 then (none) else (if x8<(x6.length:Int) then (dY.l0 k x0 x1 (x6.set (x8:Int).toNat ((IntKind.u64.wrap (Int.tdiv (Go.bits .or .u64 (IntKind.u64.wrap (x7*4294967296)) (IntKind.u64.wrap (rd x0 x8))) (IntKind.u64.wrap (x1)))) % 4294967296)) (Int.tmod (Go.bits .or .u64 (IntKind.u64.wrap (x7*4294967296)) (IntKind.u64.wrap (rd x0 x8))) (IntKind.u64.wrap (x1))) (wrap64 (x8-1))) else (none))) else (none)) else (none)) else ((cG.f k x6).bind fun a=>(some (a,(x7) % 4294967296)))
def dY.f (k:Nat) (l0:List Int) (a:Int):Option (List Int×Int):=if 0<=(l0.length:Int) then (if ((l0.length:Int):Int).toNat<=70368744177664 then (dY.l0 k l0 a (List.replicate ((l0.length:Int):Int).toNat 0) 0 (wrap64 ((l0.length:Int)-1))) else (none)) else (none)
def bits_Len32.f (a:Int):Option (Int):=if a>=65536 then (if (a / 65536)>=256 then (if 0<=(((a / 65536) / 256) % 256) then (if (((a / 65536) / 256) % 256)<256 then (some (wrap64 ((16+8)+(wrap64 (bt (⟨#[0,1,2,2,3,3,3,3,4,4,4,4,4,4,4,4,5,5,5,5,5,5,5,5,5,5,5,5,5,5,5,5,6,6,6,6,6,6,6,6,6,6,6,6,6,6,6,6,6,6,6,6,6,6,6,6,6,6,6,6,6,6,6,6,7,7,7,7,7,7,7,7,7,7,7,7,7,7,7,7,7,7,7,7,7,7,7,7,7,7,7,7,7,7,7,7,7,7,7,7,7,7,7,7,7,7,7,7,7,7,7,7,7,7,7,7,7,7,7,7,7,7,7,7,7,7,7,7,8,8,8,8,8,8,8,8,8,8,8,8,8,8,8,8,8,8,8,8,8,8,8,8,8,8,8,8,8,8,8,8,8,8,8,8,8,8,8,8,8,8,8,8,8,8,8,8,8,8,8,8,8,8,8,8,8,8,8,8,8,8,8,8,8,8,8,8,8,8,8,8,8,8,8,8,8,8,8,8,8,8,8,8,8,8,8,8,8,8,8,8,8,8,8,8,8,8,8,8,8,8,8,8,8,8,8,8,8,8,8,8,8,8,8,8,8,8,8,8,8,8,8,8,8,8,8,8]⟩:ByteArray) (((a / 65536) / 256) % 256)))))) else (none)) else (none)) else (if 0<=((a / 65536) % 256) then (if ((a / 65536) % 256)<256 then (some (wrap64 (16+(wrap64 (bt (⟨#[0,1,2,2,3,3,3,3,4,4,4,4,4,4,4,4,5,5,5,5,5,5,5,5,5,5,5,5,5,5,5,5,6,6,6,6,6,6,6,6,6,6,6,6,6,6,6,6,6,6,6,6,6,6,6,6,6,6,6,6,6,6,6,6,7,7,7,7,7,7,7,7,7,7,7,7,7,7,7,7,7,7,7,7,7,7,7,7,7,7,7,7,7,7,7,7,7,7,7,7,7,7,7,7,7,7,7,7,7,7,7,7,7,7,7,7,7,7,7,7,7,7,7,7,7,7,7,7,8,8,8,8,8,8,8,8,8,8,8,8,8,8,8,8,8,8,8,8,8,8,8,8,8,8,8,8,8,8,8,8,8,8,8,8,8,8,8,8,8,8,8,8,8,8,8,8,8,8,8,8,8,8,8,8,8,8,8,8,8,8,8,8,8,8,8,8,8,8,8,8,8,8,8,8,8,8,8,8,8,8,8,8,8,8,8,8,8,8,8,8,8,8,8,8,8,8,8,8,8,8,8,8,8,8,8,8,8,8,8,8,8,8,8,8,8,8,8,8,8,8,8,8,8,8,8,8]⟩:ByteArray) ((a / 65536) % 256)))))) else (none)) else (none))) else (if a>=256 then (if 0<=((a / 256) % 256) then (if ((a / 256) % 256)<256 then (some (wrap64 ((0+8)+(wrap64 (bt (⟨#[0,1,2,2,3,3,3,3,4,4,4,4,4,4,4,4,5,5,5,5,5,5,5,5,5,5,5,5,5,5,5,5,6,6,6,6,6,6,6,6,6,6,6,6,6,6,6,6,6,6,6,6,6,6,6,6,6,6,6,6,6,6,6,6,7,7,7,7,7,7,7,7,7,7,7,7,7,7,7,7,7,7,7,7,7,7,7,7,7,7,7,7,7,7,7,7,7,7,7,7,7,7,7,7,7,7,7,7,7,7,7,7,7,7,7,7,7,7,7,7,7,7,7,7,7,7,7,7,8,8,8,8,8,8,8,8,8,8,8,8,8,8,8,8,8,8,8,8,8,8,8,8,8,8,8,8,8,8,8,8,8,8,8,8,8,8,8,8,8,8,8,8,8,8,8,8,8,8,8,8,8,8,8,8,8,8,8,8,8,8,8,8,8,8,8,8,8,8,8,8,8,8,8,8,8,8,8,8,8,8,8,8,8,8,8,8,8,8,8,8,8,8,8,8,8,8,8,8,8,8,8,8,8,8,8,8,8,8,8,8,8,8,8,8,8,8,8,8,8,8,8,8,8,8,8,8]⟩:ByteArray) ((a / 256) % 256)))))) else (none)) else (none)) else (if 0<=((a) % 256) then (if ((a) % 256)<256 then (some (wrap64 (0+(wrap64 (bt (⟨#[0,1,2,2,3,3,3,3,4,4,4,4,4,4,4,4,5,5,5,5,5,5,5,5,5,5,5,5,5,5,5,5,6,6,6,6,6,6,6,6,6,6,6,6,6,6,6,6,6,6,6,6,6,6,6,6,6,6,6,6,6,6,6,6,7,7,7,7,7,7,7,7,7,7,7,7,7,7,7,7,7,7,7,7,7,7,7,7,7,7,7,7,7,7,7,7,7,7,7,7,7,7,7,7,7,7,7,7,7,7,7,7,7,7,7,7,7,7,7,7,7,7,7,7,7,7,7,7,8,8,8,8,8,8,8,8,8,8,8,8,8,8,8,8,8,8,8,8,8,8,8,8,8,8,8,8,8,8,8,8,8,8,8,8,8,8,8,8,8,8,8,8,8,8,8,8,8,8,8,8,8,8,8,8,8,8,8,8,8,8,8,8,8,8,8,8,8,8,8,8,8,8,8,8,8,8,8,8,8,8,8,8,8,8,8,8,8,8,8,8,8,8,8,8,8,8,8,8,8,8,8,8,8,8,8,8,8,8,8,8,8,8,8,8,8,8,8,8,8,8,8,8,8,8,8,8]⟩:ByteArray) ((a) % 256)))))) else (none)) else (none)))
def bits_LeadingZeros32.f (b:Int):Option (Int):=(bits_Len32.f b).bind fun a=>(some (wrap64 (32-a)))
def fD.l0:Nat->Int->Int->List Int->List Int->Int->Int->Option (List Int)
 | 0,_,_,_,_,_,_=>none
 | k+1,x5,x6,x7,x25,x26,x27=>if x27<x26 then (if 0<=x27 then (if x27<(x25.length:Int) then (if 0<=x6 then (if 0<=(wrap64 (x27+x5)) then (if (wrap64 (x27+x5))<(x7.length:Int) then (if 0<=(wrap64 ((wrap64 (x27+x5))+1)) then (if (wrap64 ((wrap64 (x27+x5))+1))<(x7.length:Int) then (fD.l0 k x5 x6 ((x7.set ((wrap64 (x27+x5)):Int).toNat (Go.bits .or .u32 (rd x7 (wrap64 (x27+x5))) ((shl .u64 (IntKind.u64.wrap (rd x25 x27)) x6) % 4294967296))).set ((wrap64 ((wrap64 (x27+x5))+1)):Int).toNat (((shl .u64 (IntKind.u64.wrap (rd x25 x27)) x6) / 4294967296) % 4294967296)) x25 x26 (wrap64 (x27+1))) else (none)) else (none)) else (none)) else (none)) else (none)) else (none)) else (none)) else ((cG.f k x7).bind fun a=>(some a))
def fD.f (k:Nat) (l0:List Int) (a:Int):Option (List Int):=if (l0.length:Int)=0 then (some ([]:List Int)) else (if 0<=(wrap64 ((wrap64 ((l0.length:Int)+(wrap64 (Int.tdiv a 32))))+1)) then (if (wrap64 ((wrap64 ((l0.length:Int)+(wrap64 (Int.tdiv a 32))))+1):Int).toNat<=70368744177664 then (fD.l0 k (wrap64 (Int.tdiv a 32)) (IntKind.u64.wrap (Int.tmod a 32)) (List.replicate (wrap64 ((wrap64 ((l0.length:Int)+(wrap64 (Int.tdiv a 32))))+1):Int).toNat 0) l0 (l0.length:Int) 0) else (none)) else (none))
def cB.l0:Nat->List Int->List Int->Int->Int->Int->List Int->Int->Int->Option (Bool×List Int)
 | 0,_,_,_,_,_,_,_,_=>none
 | k+1,x0,x1,x2,x7,x8,x13,x14,a=>if a<x14 then (if 0<=a then (if a<(x13.length:Int) then (if a<(x0.length:Int) then (cB.l0 k (x0.set (a:Int).toNat ((IntKind.u64.wrap ((IntKind.u64.wrap ((IntKind.u64.wrap (rd x0 a))-((IntKind.u64.wrap (x7+(IntKind.u64.wrap (x2*(IntKind.u64.wrap (rd x13 a)))))) % 4294967296)))-x8)) % 4294967296)) x1 x2 ((IntKind.u64.wrap (x7+(IntKind.u64.wrap (x2*(IntKind.u64.wrap (rd x13 a)))))) / 4294967296) ((IntKind.u64.wrap ((IntKind.u64.wrap ((IntKind.u64.wrap (rd x0 a))-((IntKind.u64.wrap (x7+(IntKind.u64.wrap (x2*(IntKind.u64.wrap (rd x13 a)))))) % 4294967296)))-x8)) / 9223372036854775808) x13 x14 (wrap64 (a+1))) else (none)) else (none)) else (none)) else (if 0<=(x1.length:Int) then (if (x1.length:Int)<(x0.length:Int) then (some ((((IntKind.u64.wrap ((IntKind.u64.wrap ((IntKind.u64.wrap (rd x0 (x1.length:Int)))-x7))-x8)) / 9223372036854775808)==1),(x0.set ((x1.length:Int):Int).toNat ((IntKind.u64.wrap ((IntKind.u64.wrap ((IntKind.u64.wrap (rd x0 (x1.length:Int)))-x7))-x8)) % 4294967296)))) else (none)) else (none))
def cB.f (k:Nat) (l0 a:List Int) (b:Int):Option (Bool×List Int):=cB.l0 k l0 a b 0 0 a (a.length:Int) 0
def dg.f (k:Nat) (c:List Int) (a b:Int) (e:List Int) (d:Int):Option (Bool×List Int):=(cB.f k ((c.take b.toNat).drop a.toNat) e d).bind fun p=>some (p.1,c.take a.toNat++p.2++c.drop b.toNat)
def cO.l0:Nat->List Int->List Int->Int->List Int->Int->Int->Option (List Int)
 | 0,_,_,_,_,_,_=>none
 | k+1,x0,x1,x4,x7,x8,a=>if a<x8 then (if 0<=a then (if a<(x7.length:Int) then (if a<(x0.length:Int) then (cO.l0 k (x0.set (a:Int).toNat ((IntKind.u64.wrap (x4+(IntKind.u64.wrap ((IntKind.u64.wrap (rd x0 a))+(IntKind.u64.wrap (rd x7 a)))))) % 4294967296)) x1 ((IntKind.u64.wrap (x4+(IntKind.u64.wrap ((IntKind.u64.wrap (rd x0 a))+(IntKind.u64.wrap (rd x7 a)))))) / 4294967296) x7 x8 (wrap64 (a+1))) else (none)) else (none)) else (none)) else (if 0<=(x1.length:Int) then (if (x1.length:Int)<(x0.length:Int) then (some (x0.set ((x1.length:Int):Int).toNat (((rd x0 (x1.length:Int))+((x4) % 4294967296)) % 4294967296))) else (none)) else (none))
def cO.f (k:Nat) (l0 a:List Int):Option (List Int):=cO.l0 k l0 a 0 a (a.length:Int) 0
def dO.f (k:Nat) (c:List Int) (a b:Int) (d:List Int):Option (List Int):=(cO.f k ((c.take b.toNat).drop a.toNat) d).bind fun p=>some (c.take a.toNat++p++c.drop b.toNat)
def fq.l0:Nat->List Int->Int->Int->List Int->Int->Int->Option (List Int)
 | 0,_,_,_,_,_,_=>none
 | k+1,x0,x5,x6,x7,x25,a=>if a<x25 then (if 0<=(wrap64 (a+x5)) then (if (wrap64 (a+x5))<(x0.length:Int) then (if (wrap64 ((wrap64 (a+x5))+1))<(x0.length:Int) then (if 0<=(wrap64 ((wrap64 (a+x5))+1)) then (if 0<=x6 then (if 0<=a then (if a<(x7.length:Int) then (fq.l0 k x0 x5 x6 (x7.set (a:Int).toNat ((shr .u64 (Go.bits .or .u64 (IntKind.u64.wrap (rd x0 (wrap64 (a+x5)))) (IntKind.u64.wrap ((IntKind.u64.wrap (rd x0 (wrap64 ((wrap64 (a+x5))+1))))*4294967296))) x6) % 4294967296)) x25 (wrap64 (a+1))) else (none)) else (none)) else (none)) else (none)) else (if 0<=x6 then (if 0<=a then (if a<(x7.length:Int) then (fq.l0 k x0 x5 x6 (x7.set (a:Int).toNat ((shr .u64 (IntKind.u64.wrap (rd x0 (wrap64 (a+x5)))) x6) % 4294967296)) x25 (wrap64 (a+1))) else (none)) else (none)) else (none))) else (none)) else (none)) else ((cG.f k x7).bind fun b=>(some b))
def fq.f (k:Nat) (l0:List Int) (b:Int):Option (List Int):=if (wrap64 (Int.tdiv b 32))>=(l0.length:Int) then (some ([]:List Int)) else (if 0<=(wrap64 ((l0.length:Int)-(wrap64 (Int.tdiv b 32)))) then (if (wrap64 ((l0.length:Int)-(wrap64 (Int.tdiv b 32))):Int).toNat<=70368744177664 then ((some (List.replicate (wrap64 ((l0.length:Int)-(wrap64 (Int.tdiv b 32))):Int).toNat 0:List Int)).bind fun a=>(fq.l0 k l0 (wrap64 (Int.tdiv b 32)) (IntKind.u64.wrap (Int.tmod b 32)) a (a.length:Int) 0)) else (none)) else (none))
mutual
def aJ.l0:Nat->List Int->Int->List Int->List Int->Int->Int->Int->Int->Option (List Int×List Int)
 | 0,_,_,_,_,_,_,_,_=>none
 | k+1,x4,x8,x9,x10,x11,x12,x13,x14=>if x14>=0 then (if 0<=(wrap64 (x14+x11)) then (if (wrap64 (x14+x11))<(x10.length:Int) then (if 0<=(wrap64 ((wrap64 (x14+x11))-1)) then (if (wrap64 ((wrap64 (x14+x11))-1))<(x10.length:Int) then (if x12=0 then (none) else (aJ.l1 k x4 x8 x9 x10 x11 x12 x13 x14 (IntKind.u64.wrap (Int.tdiv (Go.bits .or .u64 (IntKind.u64.wrap ((IntKind.u64.wrap (rd x10 (wrap64 (x14+x11))))*4294967296)) (IntKind.u64.wrap (rd x10 (wrap64 ((wrap64 (x14+x11))-1))))) x12)) (Int.tmod (Go.bits .or .u64 (IntKind.u64.wrap ((IntKind.u64.wrap (rd x10 (wrap64 (x14+x11))))*4294967296)) (IntKind.u64.wrap (rd x10 (wrap64 ((wrap64 (x14+x11))-1))))) x12))) else (none)) else (none)) else (none)) else (none)) else ((cG.f k x4).bind fun b=>((cG.f k x10).bind fun a=>((fq.f k a x8).bind fun c=>(some (b,c)))))
def aJ.j3:Nat->List Int->Int->List Int->List Int->Int->Int->Int->Int->Int->Option (List Int×List Int)
 | 0,_,_,_,_,_,_,_,_,_=>none
 | k+1,x4,x8,x9,x10,x11,x12,x13,a,x16=>if 0<=a then (if a<(wrap64 ((wrap64 (a+x11))+1)) then (if (wrap64 ((wrap64 (a+x11))+1))<=(x10.length:Int) then ((dg.f k x10 a (wrap64 ((wrap64 (a+x11))+1)) x9 x16).bind fun bt204=>(if bt204.1=true then ((dO.f k bt204.2 a (wrap64 ((wrap64 (a+x11))+1)) x9).bind fun b=>(if a<(x4.length:Int) then (aJ.l0 k (x4.set (a:Int).toNat ((IntKind.u64.wrap (x16-1)) % 4294967296)) x8 x9 b x11 x12 x13 (wrap64 (a-1))) else (none))) else (if a<(x4.length:Int) then (aJ.l0 k (x4.set (a:Int).toNat ((x16) % 4294967296)) x8 x9 bt204.2 x11 x12 x13 (wrap64 (a-1))) else (none)))) else (none)) else (none)) else (none)
def aJ.l1:Nat->List Int->Int->List Int->List Int->Int->Int->Int->Int->Int->Int->Option (List Int×List Int)
 | 0,_,_,_,_,_,_,_,_,_,_=>none
 | k+1,x4,x8,x9,x10,x11,x12,x13,x14,x16,x17=>if x16>=4294967296 then (aJ.j2 k x4 x8 x9 x10 x11 x12 x13 x14 x16 x17 true) else (if 0<=(wrap64 ((wrap64 (x14+x11))-2)) then (if (wrap64 ((wrap64 (x14+x11))-2))<(x10.length:Int) then (aJ.j2 k x4 x8 x9 x10 x11 x12 x13 x14 x16 x17 (decide ((IntKind.u64.wrap (x16*x13))>(Go.bits .or .u64 (IntKind.u64.wrap (x17*4294967296)) (IntKind.u64.wrap (rd x10 (wrap64 ((wrap64 (x14+x11))-2)))))))) else (none)) else (none))
def aJ.j2:Nat->List Int->Int->List Int->List Int->Int->Int->Int->Int->Int->Int->Bool->Option (List Int×List Int)
 | 0,_,_,_,_,_,_,_,_,_,_,_=>none
 | k+1,x4,x8,x9,x10,x11,x12,x13,x14,x16,x17,x127=>if x127=true then (if (IntKind.u64.wrap (x17+x12))>=4294967296 then (aJ.j3 k x4 x8 x9 x10 x11 x12 x13 x14 (IntKind.u64.wrap (x16-1))) else (aJ.l1 k x4 x8 x9 x10 x11 x12 x13 x14 (IntKind.u64.wrap (x16-1)) (IntKind.u64.wrap (x17+x12)))) else (aJ.j3 k x4 x8 x9 x10 x11 x12 x13 x14 x16)
end
def aJ.f (k:Nat) (l0 d:List Int):Option (List Int×List Int):=(dX.f k l0 d).bind fun h=>(if h<0 then (if ([]:List Int).length+l0.length<35184372088832 then (some (([]:List Int),(([]:List Int)++l0))) else (none)) else (if (d.length:Int)=1 then (if 0<(d.length:Int) then ((dY.f k l0 (rd d 0)).bind fun bt167=>((dB.f k (IntKind.u64.wrap (bt167.2))).bind fun e=>(some (bt167.1,e)))) else (none)) else (if 0<=(wrap64 ((d.length:Int)-1)) then (if (wrap64 ((d.length:Int)-1))<(d.length:Int) then ((bits_LeadingZeros32.f (rd d (wrap64 ((d.length:Int)-1)))).bind fun c=>((fD.f k d c).bind fun a=>(if 0<=(wrap64 ((l0.length:Int)+1)) then (if (wrap64 ((l0.length:Int)+1):Int).toNat<=70368744177664 then ((some (List.replicate (wrap64 ((l0.length:Int)+1):Int).toNat 0:List Int)).bind fun b=>((fD.f k l0 c).bind fun g=>(if 0<=(wrap64 ((b.length:Int)-(a.length:Int))) then (if (wrap64 ((b.length:Int)-(a.length:Int)):Int).toNat<=70368744177664 then (if 0<=(wrap64 ((a.length:Int)-1)) then (if (wrap64 ((a.length:Int)-1))<(a.length:Int) then (if 0<=(wrap64 ((a.length:Int)-2)) then (if (wrap64 ((a.length:Int)-2))<(a.length:Int) then (aJ.l0 k (List.replicate (wrap64 ((b.length:Int)-(a.length:Int)):Int).toNat 0) c a (kN b g) (a.length:Int) (IntKind.u64.wrap (rd a (wrap64 ((a.length:Int)-1)))) (IntKind.u64.wrap (rd a (wrap64 ((a.length:Int)-2)))) (wrap64 ((wrap64 ((b.length:Int)-(a.length:Int)))-1))) else (none)) else (none)) else (none)) else (none)) else (none)) else (none)))) else (none)) else (none)))) else (none)) else (none))))
def fg.f (a:List Int):Option (Int×Bool):=if (a.length:Int)=0 then (some (0,true)) else (if (a.length:Int)=1 then (if 0<(a.length:Int) then (some (IntKind.u64.wrap (rd a 0),true)) else (none)) else (if (a.length:Int)=2 then (if 1<(a.length:Int) then (if 0<(a.length:Int) then (some (Go.bits .or .u64 (IntKind.u64.wrap ((IntKind.u64.wrap (rd a 1))*4294967296)) (IntKind.u64.wrap (rd a 0)),true)) else (none)) else (none)) else (some (0,false))))
def ix.f (a:List Int):Option (Int):=if (a.length:Int)=0 then (some 0) else (if 0<=(wrap64 ((a.length:Int)-1)) then (if (wrap64 ((a.length:Int)-1))<(a.length:Int) then ((bits_LeadingZeros32.f (rd a (wrap64 ((a.length:Int)-1)))).bind fun b=>(some (wrap64 ((wrap64 (32*(a.length:Int)))-b)))) else (none)) else (none))
mutual
def bK.j0:Nat->List Int->List Int->Bool->Option (List Int)
 | 0,_,_,_=>none
 | k+1,x0,x1,x18=>if x18=true then (some ([]:List Int)) else (if 0<=(wrap64 ((x0.length:Int)+(x1.length:Int))) then (if (wrap64 ((x0.length:Int)+(x1.length:Int)):Int).toNat<=70368744177664 then (bK.l0 k x1 (List.replicate (wrap64 ((x0.length:Int)+(x1.length:Int)):Int).toNat 0) x0 (x0.length:Int) 0) else (none)) else (none))
def bK.l0:Nat->List Int->List Int->List Int->Int->Int->Option (List Int)
 | 0,_,_,_,_,_=>none
 | k+1,x1,x5,x25,x26,x27=>if x27<x26 then (if 0<=x27 then (if x27<(x25.length:Int) then (bK.l1 k x1 x5 x27 (rd x25 x27) 0 x25 x26 x27 x1 (x1.length:Int) 0) else (none)) else (none)) else ((cG.f k x5).bind fun a=>(some a))
def bK.l1:Nat->List Int->List Int->Int->Int->Int->List Int->Int->Int->List Int->Int->Int->Option (List Int)
 | 0,_,_,_,_,_,_,_,_,_,_,_=>none
 | k+1,x1,x5,x6,x7,x8,x25,x26,x27,x32,x33,x34=>if x34<x33 then (if 0<=x34 then (if x34<(x32.length:Int) then (if 0<=(wrap64 (x6+x34)) then (if (wrap64 (x6+x34))<(x5.length:Int) then (bK.l1 k x1 (x5.set ((wrap64 (x6+x34)):Int).toNat ((IntKind.u64.wrap (x8+(IntKind.u64.wrap ((IntKind.u64.wrap ((IntKind.u64.wrap (x7))*(IntKind.u64.wrap (rd x32 x34))))+(IntKind.u64.wrap (rd x5 (wrap64 (x6+x34)))))))) % 4294967296)) x6 x7 ((IntKind.u64.wrap (x8+(IntKind.u64.wrap ((IntKind.u64.wrap ((IntKind.u64.wrap (x7))*(IntKind.u64.wrap (rd x32 x34))))+(IntKind.u64.wrap (rd x5 (wrap64 (x6+x34)))))))) / 4294967296) x25 x26 x27 x32 x33 (wrap64 (x34+1))) else (none)) else (none)) else (none)) else (none)) else (if 0<=(wrap64 (x6+(x1.length:Int))) then (if (wrap64 (x6+(x1.length:Int)))<(x5.length:Int) then (bK.l0 k x1 (x5.set ((wrap64 (x6+(x1.length:Int))):Int).toNat ((x8) % 4294967296)) x25 x26 (wrap64 (x27+1))) else (none)) else (none))
end
def bK.f (k:Nat) (b a:List Int):Option (List Int):=if (b.length:Int)=0 then (bK.j0 k b a true) else (bK.j0 k b a ((a.length:Int)==0))
def dT.l0:Nat->List Int->List Int->Int->List Int->Int->Int->Option (List Int)
 | 0,_,_,_,_,_,_=>none
 | k+1,x1,x5,x6,x13,x14,a=>if a<x14 then (if 0<=a then (if a<(x13.length:Int) then (if a<(x1.length:Int) then (if a<(x5.length:Int) then (dT.l0 k x1 (x5.set (a:Int).toNat ((IntKind.u64.wrap ((IntKind.u64.wrap ((IntKind.u64.wrap (rd x13 a))-x6))-(IntKind.u64.wrap (rd x1 a)))) % 4294967296)) ((IntKind.u64.wrap ((IntKind.u64.wrap ((IntKind.u64.wrap (rd x13 a))-x6))-(IntKind.u64.wrap (rd x1 a)))) / 9223372036854775808) x13 x14 (wrap64 (a+1))) else (none)) else (if a<(x5.length:Int) then (dT.l0 k x1 (x5.set (a:Int).toNat ((IntKind.u64.wrap ((IntKind.u64.wrap (rd x13 a))-x6)) % 4294967296)) ((IntKind.u64.wrap ((IntKind.u64.wrap (rd x13 a))-x6)) / 9223372036854775808) x13 x14 (wrap64 (a+1))) else (none))) else (none)) else (none)) else ((cG.f k x5).bind fun b=>(some b))
def dT.f (k:Nat) (l0 a:List Int):Option (List Int):=if 0<=(l0.length:Int) then (if ((l0.length:Int):Int).toNat<=70368744177664 then (dT.l0 k a (List.replicate ((l0.length:Int):Int).toNat 0) 0 l0 (l0.length:Int) 0) else (none)) else (none)
def cP.j0:Nat->List Int->List Int->Int->Int->Bool->Option (List Int)
 | 0,_,_,_,_,_=>none
 | k+1,x0,x1,x2,x3,x14=>if x14=true then ((dB.f k (IntKind.u64.wrap (x3))).bind fun g=>((bK.f k x1 g).bind fun d=>((dB.f k (IntKind.u64.wrap (wrap64 (-x2)))).bind fun j=>((bK.f k x0 j).bind fun i=>((dT.f k d i).bind fun l=>(some l)))))) else ((dB.f k (IntKind.u64.wrap (x2))).bind fun e=>((bK.f k x0 e).bind fun c=>((dB.f k (IntKind.u64.wrap (wrap64 (-x3)))).bind fun b=>((bK.f k x1 b).bind fun h=>((dT.f k c h).bind fun a=>(some a))))))
def cP.f (k:Nat) (d c:List Int) (a b:Int):Option (List Int):=if a<0 then (cP.j0 k d c a b true) else (cP.j0 k d c a b (decide (b>0)))
mutual
def bm.j2:Nat->List Int->List Int->Int->Int->Int->Int->Option (List Int×List Int×Bool)
 | 0,_,_,_,_,_,_=>none
 | k+1,x0,x1,x12,x13,x14,x15=>if x13=0 then (some (([]:List Int),([]:List Int),false)) else ((cP.f k x0 x1 x12 x13).bind fun a=>((cP.f k x0 x1 x14 x15).bind fun b=>(some (a,b,true))))
def bm.l0:Nat->List Int->List Int->Int->Int->Int->Int->Int->Int->Option (List Int×List Int×Bool)
 | 0,_,_,_,_,_,_,_,_=>none
 | k+1,x0,x1,x12,x13,x14,x15,x16,x17=>if (wrap64 (x17+x14))=0 then (bm.j1 k x0 x1 x12 x13 x14 x15 x16 x17 false) else (bm.j1 k x0 x1 x12 x13 x14 x15 x16 x17 ((wrap64 (x17+x15)) != 0))
def bm.j1:Nat->List Int->List Int->Int->Int->Int->Int->Int->Int->Bool->Option (List Int×List Int×Bool)
 | 0,_,_,_,_,_,_,_,_,_=>none
 | k+1,x0,x1,x12,x13,x14,x15,x16,x17,x55=>if x55=true then (if (wrap64 (x17+x14))=0 then (none) else (if (wrap64 (x17+x15))=0 then (none) else (if (wrap64 (Int.tdiv (wrap64 (x16+x12)) (wrap64 (x17+x14))))=(wrap64 (Int.tdiv (wrap64 (x16+x13)) (wrap64 (x17+x15)))) then (bm.l0 k x0 x1 x14 x15 (wrap64 (x12-(wrap64 ((wrap64 (Int.tdiv (wrap64 (x16+x12)) (wrap64 (x17+x14))))*x14)))) (wrap64 (x13-(wrap64 ((wrap64 (Int.tdiv (wrap64 (x16+x12)) (wrap64 (x17+x14))))*x15)))) x17 (wrap64 (x16-(wrap64 ((wrap64 (Int.tdiv (wrap64 (x16+x12)) (wrap64 (x17+x14))))*x17))))) else (bm.j2 k x0 x1 x12 x13 x14 x15)))) else (bm.j2 k x0 x1 x12 x13 x14 x15)
end
def bm.f (k:Nat) (l0 e:List Int):Option (List Int×List Int×Bool):=(ix.f l0).bind fun a=>((ix.f e).bind fun b=>(if b<(wrap64 (a-20)) then (some (([]:List Int),([]:List Int),false)) else ((fq.f k l0 (wrap64 (a-31))).bind fun d=>((fg.f d).bind fun bt271=>((fq.f k e (wrap64 (a-31))).bind fun c=>((fg.f c).bind fun bt276=>(bm.l0 k l0 e 1 0 0 1 (wrap64 (bt271.1)) (wrap64 (bt276.1)))))))))
mutual
def cw.j0:Nat->List Int->List Int->Option (List Int)
 | 0,_,_=>none
 | k+1,x0,x1=>cw.l0 k x0 x1
def cw.l0:Nat->List Int->List Int->Option (List Int)
 | 0,_,_=>none
 | k+1,x0,x1=>if (x1.length:Int)>2 then ((bm.f k x0 x1).bind fun bt285=>(if bt285.2.2=true then (cw.l0 k bt285.1 bt285.2.1) else ((aJ.f k x0 x1).bind fun bt292=>(cw.l0 k x1 bt292.2)))) else (if (x1.length:Int)=0 then (if ([]:List Int).length+x0.length<35184372088832 then (some (([]:List Int)++x0)) else (none)) else ((aJ.f k x0 x1).bind fun bt301=>((fg.f x1).bind fun bt307=>((fg.f bt301.2).bind fun bt309=>(cw.l1 k bt307.1 bt309.1)))))
def cw.l1:Nat->Int->Int->Option (List Int)
 | 0,_,_=>none
 | k+1,x12,x14=>if x14=0 then ((dB.f k x12).bind fun a=>(some a)) else (cw.l1 k x14 (Int.tmod x12 x14))
end
def cw.f (k:Nat) (c b:List Int):Option (List Int):=(dX.f k c b).bind fun a=>(if a<0 then (cw.j0 k b c) else (cw.j0 k c b))
def fp.j0:Nat->Bool->Bool->List Int->List Int->Option (Bool)
 | 0,_,_,_,_=>none
 | k+1,x23,x315000,x315001,x315002=>if x23=true then (some false) else (if (x315001.length:Int)=0 then (if x315000=true then (some false) else (if (x315002.length:Int)=1 then (if 0<(x315002.length:Int) then (some ((rd x315002 0)==1)) else (none)) else (some false))) else (if (x315002.length:Int)=1 then (if 0<(x315002.length:Int) then (if (rd x315002 0)=1 then (some true) else ((cw.f k x315001 x315002).bind fun a=>(if (a.length:Int)=1 then (if 0<(a.length:Int) then (some ((rd a 0)==1)) else (none)) else (some false)))) else (none)) else ((cw.f k x315001 x315002).bind fun b=>(if (b.length:Int)=1 then (if 0<(b.length:Int) then (some ((rd b 0)==1)) else (none)) else (some false)))))
def fp.f (k:Nat) (c:Bool) (b a:List Int) (g:Int):Option (Bool):=(kd.f b g).bind fun d=>(if d=true then ((kd.f a g).bind fun e=>(if e=true then (fp.j0 k ((a.length:Int)==0) c b a) else (fp.j0 k true c b a))) else (fp.j0 k true c b a))
mutual
def bD.j0:Nat->Bool->Int->List (rN)->Option (Bool)
 | 0,_,_,_=>none
 | k+1,x21,x328000,x328001=>if x21=true then (some false) else (bD.l0 k x328001 (x328001.length:Int) 0 x328000 x328001)
def bD.l0:Nat->List (rN)->Int->Int->Int->List (rN)->Option (Bool)
 | 0,_,_,_,_,_=>none
 | k+1,x23,x24,x25,x328000,x328001=>if x25<x24 then (if 0<=x25 then (if x25<(x23.length:Int) then (if (((cm x23 x25).f0).length:Int)=x328000 then ((nG.f ((cm x23 x25).f1.f0) ((cm x23 x25).f1.f1) ((cm x23 x25).f1.f2) 200).bind fun a=>(if a=true then ((jc.f ((cm x23 x25).f1.f0) ((cm x23 x25).f1.f1) ((cm x23 x25).f1.f2)).bind fun b=>(bD.j2 k x25 x23 x24 x25 (b==0) x328000 x328001 ((cm x23 x25).f0) ((cm x23 x25).f1.f0) ((cm x23 x25).f1.f1) ((cm x23 x25).f1.f2))) else (bD.j2 k x25 x23 x24 x25 true x328000 x328001 ((cm x23 x25).f0) ((cm x23 x25).f1.f0) ((cm x23 x25).f1.f1) ((cm x23 x25).f1.f2)))) else (bD.j2 k x25 x23 x24 x25 true x328000 x328001 ((cm x23 x25).f0) ((cm x23 x25).f1.f0) ((cm x23 x25).f1.f1) ((cm x23 x25).f1.f2))) else (none)) else (none)) else (some true)
def bD.j2:Nat->Int->List (rN)->Int->Int->Bool->Int->List (rN)->List Int->Bool->List Int->List Int->Option (Bool)
 | 0,_,_,_,_,_,_,_,_,_,_,_=>none
 | k+1,x3,x23,x24,x25,x47,x328000,x328001,x330000,x330001,x330002,x330003=>if x47=true then (some false) else (bD.l1 k x3 0 x23 x24 x25 x330000 (x330000.length:Int) 0 x328000 x328001 x330000 x330001 x330002 x330003)
def bD.l1:Nat->Int->Int->List (rN)->Int->Int->List Int->Int->Int->Int->List (rN)->List Int->Bool->List Int->List Int->Option (Bool)
 | 0,_,_,_,_,_,_,_,_,_,_,_,_,_,_=>none
 | k+1,x3,x5,x23,x24,x25,x49,x50,x51,x328000,x328001,x330000,x330001,x330002,x330003=>if x51<x50 then (if 0<=x51 then (if x51<(x49.length:Int) then (if (rd x49 x51)<0 then (some false) else (if (rd x49 x51)>40 then (some false) else (bD.l1 k x3 (wrap64 (x5+(rd x49 x51))) x23 x24 x25 x49 x50 (wrap64 (x51+1)) x328000 x328001 x330000 x330001 x330002 x330003))) else (none)) else (none)) else (if x5>40 then (some false) else (if x3>0 then (if 0<=(wrap64 (x3-1)) then (if (wrap64 (x3-1))<(x328001.length:Int) then ((fm.f k ((cm x328001 (wrap64 (x3-1))).f0) x330000).bind fun a=>(if a<=0 then (some false) else ((fp.f k x330001 x330002 x330003 200).bind fun c=>(if c=true then (bD.l0 k x23 x24 (wrap64 (x25+1)) x328000 x328001) else (some false))))) else (none)) else (none)) else ((fp.f k x330001 x330002 x330003 200).bind fun b=>(if b=true then (bD.l0 k x23 x24 (wrap64 (x25+1)) x328000 x328001) else (some false)))))
end
def ke.f (a:List Int):Option (Bool):=if (a.length:Int)<=4096 then (if (a.length:Int)=0 then (some true) else (if 0<=(wrap64 ((a.length:Int)-1)) then (if (wrap64 ((a.length:Int)-1))<(a.length:Int) then (some ((rd a (wrap64 ((a.length:Int)-1))) != 0)) else (none)) else (none))) else (some false)
mutual
def cU.l0:Nat->Int->Int->List Int->Option (List Int)
 | 0,_,_,_=>none
 | k+1,x0,x1,x5=>if x0>0 then (if x5.length<140737488355328 then (cU.l0 k (IntKind.u64.wrap (Int.tdiv x0 10)) x1 (x5++[(IntKind.u64.wrap (48+(Int.tmod x0 10))) % 256])) else (none)) else (if (x5.length:Int)<x1 then (if x5.length<140737488355328 then (cU.l0 k (IntKind.u64.wrap (Int.tdiv x0 10)) x1 (x5++[(IntKind.u64.wrap (48+(Int.tmod x0 10))) % 256])) else (none)) else (cU.l1 k x5 0 (wrap64 ((x5.length:Int)-1))))
def cU.l1:Nat->List Int->Int->Int->Option (List Int)
 | 0,_,_,_=>none
 | k+1,x5,b,a=>if b<a then (if 0<=a then (if a<(x5.length:Int) then (if 0<=b then (if b<(x5.length:Int) then (cU.l1 k ((x5.set (b:Int).toNat (rd x5 a)).set (a:Int).toNat (rd x5 b)) (wrap64 (b+1)) (wrap64 (a-1))) else (none)) else (none)) else (none)) else (none)) else (some x5)
end
def cU.f (k:Nat) (b a:Int):Option (List Int):=cU.l0 k b a ([]:List Int)
mutual
def fL.l0:Nat->List Int->List Int->List Int->Option (ByteArray×Int)
 | 0,_,_,_=>none
 | k+1,x0,x4,x5=>if (x0.length:Int)>0 then ((aJ.f k x0 x5).bind fun bt355=>((fg.f bt355.2).bind fun bt361=>(if x4.length<17592186044416 then (fL.l0 k bt355.1 (x4++[bt361.1]) x5) else (none)))) else (if 0<=(wrap64 ((x4.length:Int)-1)) then (if (wrap64 ((x4.length:Int)-1))<(x4.length:Int) then ((cU.f k (rd x4 (wrap64 ((x4.length:Int)-1))) 0).bind fun a=>(fL.l1 k x4 a (wrap64 ((x4.length:Int)-2)))) else (none)) else (none))
def fL.l1:Nat->List Int->List Int->Int->Option (ByteArray×Int)
 | 0,_,_,_=>none
 | k+1,x4,x10,x11=>if x11>=0 then (if 9<=281474976710656 then (if 0<=x11 then (if x11<(x4.length:Int) then ((cU.f k (rd x4 x11) 9).bind fun b=>((some (kN (List.replicate 9 0) b:List Int)).bind fun a=>(if x10.length+a.length<140737488355328 then (fL.l1 k x4 (x10++a) (wrap64 (x11-1))) else (none)))) else (none)) else (none)) else (none)) else (some (strOfNums x10,0))
end
def fL.f (k:Nat) (l0:List Int):Option (ByteArray×Int):=(ke.f l0).bind fun b=>(if b=true then (if (l0.length:Int)=0 then (some ((⟨#[48]⟩:ByteArray),0)) else ((dB.f k 1000000000).bind fun a=>(fL.l0 k l0 ([]:List Int) a))) else (some ((⟨#[]⟩:ByteArray),3)))
def lG.j0:Nat->Bool->Int->List (rN)->Int->List (rN)->Option (Int)
 | 0,_,_,_,_,_=>none
 | k+1,x5,x411000,x411001,x412000,x412001=>if x5=true then (some 3) else (if x411000=x412000 then (some 0) else (some 1))
def gm.l0:Nat->Int->List Int->Int->Int->Option (Int)
 | 0,_,_,_,_=>none
 | k+1,x3,x6,x7,x8=>if x8<x7 then (if 0<=x8 then (if x8<(x6.length:Int) then (gm.l0 k (wrap64 (x3+(rd x6 x8))) x6 x7 (wrap64 (x8+1))) else (none)) else (none)) else (some x3)
def gm.f (k:Nat) (l0:List Int):Option (Int):=gm.l0 k 0 l0 (l0.length:Int) 0
def eR.l0:Nat->Int->List (rN)->Int->Int->Option (Int)
 | 0,_,_,_,_=>none
 | k+1,x3,x7,x8,x9=>if x9<x8 then (if 0<=x9 then (if x9<(x7.length:Int) then ((gm.f k ((cm x7 x9).f0)).bind fun a=>(eR.l0 k (mx x3 a) x7 x8 (wrap64 (x9+1)))) else (none)) else (none)) else (some x3)
def qy.f:Option (Bool×List Int×List Int):=some (false,([]:List Int),(([1]:List Int)))
def eE.j0:Nat->Bool->List Int->List Int->List Int->Bool->Option (Bool×List Int×List Int)
 | 0,_,_,_,_,_=>none
 | k+1,x0,x1,x2,x7,x23=>if x23=true then ((aJ.f k x1 x7).bind fun bt467=>((aJ.f k x2 x7).bind fun bt473=>(if ([]:List Int).length+bt467.1.length<35184372088832 then (if ([]:List Int).length+bt473.1.length<35184372088832 then (some (x0,(([]:List Int)++bt467.1),(([]:List Int)++bt473.1))) else (none)) else (none)))) else (if ([]:List Int).length+x1.length<35184372088832 then (if ([]:List Int).length+x2.length<35184372088832 then (some (x0,(([]:List Int)++x1),(([]:List Int)++x2))) else (none)) else (none))
def eE.f (k:Nat) (d:Bool) (b c:List Int):Option (Bool×List Int×List Int):=if (b.length:Int)=0 then ((qy.f).bind fun bt456=>(some (bt456.1,bt456.2.1,bt456.2.2))) else ((cw.f k b c).bind fun a=>(if (a.length:Int)=1 then (if 0<(a.length:Int) then (eE.j0 k d b c a ((rd a 0) != 1)) else (none)) else (eE.j0 k d b c a true)))
def lB.f (k:Nat) (i:Bool) (c e:List Int) (g:Bool) (h d:List Int):Option (Bool×List Int×List Int):=(bK.f k c h).bind fun b=>((bK.f k e d).bind fun a=>((eE.f k (i != g) b a).bind fun bt500=>(some (bt500.1,bt500.2.1,bt500.2.2))))
mutual
def bX.l0:Nat->List (rN)->Int->Int->Int->List (rN)->List Int->Bool->List Int->List Int->Int->List (rN)->Option (Int×(List (rN)))
 | 0,_,_,_,_,_,_,_,_,_,_,_=>none
 | k+1,x14,x15,x16,a,x508001,x509000,x509001,x509002,x509003,x511000,x511001=>if x16<x15 then (if 0<=x16 then (if x16<(x14.length:Int) then (if 0<=a then (if (a:Int).toNat<=35184372088832 then ((some (List.replicate (a:Int).toNat 0:List Int)).bind fun b=>(bX.l1 k b x14 x15 x16 (b.length:Int) 0 a x508001 x509000 x509001 x509002 x509003 x511000 x511001 ((cm x14 x16).f0) ((cm x14 x16).f1.f0) ((cm x14 x16).f1.f1) ((cm x14 x16).f1.f2))) else (none)) else (none)) else (none)) else (none)) else (some (x511000,x511001))
def bX.l1:Nat->List Int->List (rN)->Int->Int->Int->Int->Int->List (rN)->List Int->Bool->List Int->List Int->Int->List (rN)->List Int->Bool->List Int->List Int->Option (Int×(List (rN)))
 | 0,_,_,_,_,_,_,_,_,_,_,_,_,_,_,_,_,_,_=>none
 | k+1,x8,x14,x15,x16,x24,a,x508000,x508001,x509000,x509001,x509002,x509003,x511000,x511001,x513000,x513001,x513002,x513003=>if a<x24 then (if 0<=a then (if a<(x513000.length:Int) then (if a<(x509000.length:Int) then (if a<(x8.length:Int) then (bX.l1 k (x8.set (a:Int).toNat (wrap64 ((rd x513000 a)+(rd x509000 a)))) x14 x15 x16 x24 (wrap64 (a+1)) x508000 x508001 x509000 x509001 x509002 x509003 x511000 x511001 x513000 x513001 x513002 x513003) else (none)) else (none)) else (none)) else (none)) else ((lB.f k x513001 x513002 x513003 x509001 x509002 x509003).bind fun bt519=>(if x511001.length<1759218604441 then (bX.l0 k x14 x15 (wrap64 (x16+1)) x508000 x508001 x509000 x509001 x509002 x509003 x511000 (x511001++[(⟨x8,(⟨bt519.1,bt519.2.1,bt519.2.2⟩:S61)⟩:rN)])) else (none)))
end
mutual
def dM.j0:Nat->List Int->List Int->Option (List Int)
 | 0,_,_=>none
 | k+1,x0,x1=>if 0<=(wrap64 ((x0.length:Int)+1)) then (if (wrap64 ((x0.length:Int)+1):Int).toNat<=70368744177664 then (dM.l0 k x0 x1 (List.replicate (wrap64 ((x0.length:Int)+1):Int).toNat 0) 0 x0 (x0.length:Int) 0) else (none)) else (none)
def dM.l0:Nat->List Int->List Int->List Int->Int->List Int->Int->Int->Option (List Int)
 | 0,_,_,_,_,_,_,_=>none
 | k+1,x0,x1,x5,x6,x20,x21,a=>if a<x21 then (if 0<=a then (if a<(x20.length:Int) then (if a<(x1.length:Int) then (if a<(x5.length:Int) then (dM.l0 k x0 x1 (x5.set (a:Int).toNat ((IntKind.u64.wrap ((IntKind.u64.wrap (x6+(IntKind.u64.wrap (rd x20 a))))+(IntKind.u64.wrap (rd x1 a)))) % 4294967296)) ((IntKind.u64.wrap ((IntKind.u64.wrap (x6+(IntKind.u64.wrap (rd x20 a))))+(IntKind.u64.wrap (rd x1 a)))) / 4294967296) x20 x21 (wrap64 (a+1))) else (none)) else (if a<(x5.length:Int) then (dM.l0 k x0 x1 (x5.set (a:Int).toNat ((IntKind.u64.wrap (x6+(IntKind.u64.wrap (rd x20 a)))) % 4294967296)) ((IntKind.u64.wrap (x6+(IntKind.u64.wrap (rd x20 a)))) / 4294967296) x20 x21 (wrap64 (a+1))) else (none))) else (none)) else (none)) else (if 0<=(x0.length:Int) then (if (x0.length:Int)<(x5.length:Int) then ((cG.f k (x5.set ((x0.length:Int):Int).toNat ((x6) % 4294967296))).bind fun b=>(some b)) else (none)) else (none))
end
def dM.f (k:Nat) (b a:List Int):Option (List Int):=if (b.length:Int)<(a.length:Int) then (dM.j0 k a b) else (dM.j0 k b a)
def hY.j0:Nat->List Int->List Int->List Int->Bool->List Int->List Int->Bool->List Int->List Int->Option (Bool×List Int×List Int)
 | 0,_,_,_,_,_,_,_,_,_=>none
 | k+1,x5,x6,x7,x541000,x541001,x541002,x542000,x542001,x542002=>if (x541000==x542000)=true then ((dM.f k x5 x6).bind fun b=>((eE.f k x541000 b x7).bind fun bt556=>(some (bt556.1,bt556.2.1,bt556.2.2)))) else ((dX.f k x5 x6).bind fun c=>(if c>=0 then ((dT.f k x5 x6).bind fun a=>((eE.f k x541000 a x7).bind fun bt567=>(some (bt567.1,bt567.2.1,bt567.2.2)))) else ((dT.f k x6 x5).bind fun d=>((eE.f k x542000 d x7).bind fun bt577=>(some (bt577.1,bt577.2.1,bt577.2.2))))))
def iH.l0:Nat->List Int->List Int->Int->Int->Option (ByteArray)
 | 0,_,_,_,_=>none
 | k+1,x3,x10,x11,x12=>if x12<x11 then (if 0<=x12 then (if x12<(x10.length:Int) then ((some (([((rd x10 x12) / 16777216) % 256,((rd x10 x12) / 65536) % 256,((rd x10 x12) / 256) % 256,(rd x10 x12) % 256]:List Int):List Int)).bind fun a=>(if x3.length+a.length<140737488355328 then (iH.l0 k (x3++a) x10 x11 (wrap64 (x12+1))) else (none))) else (none)) else (none)) else (some (strOfNums x3))
def aT.l0:Nat->List Int->Int->Option (List Int)
 | 0,_,_=>none
 | k+1,x0,a=>if a>0 then (if 0<=(wrap64 (a-1)) then (if (wrap64 (a-1))<(x0.length:Int) then (if (rd x0 (wrap64 (a-1)))=0 then (aT.l0 k x0 (wrap64 (a-1))) else (if 0<=a then (if a<=(x0.length:Int) then (some (x0.take (a:Int).toNat)) else (none)) else (none))) else (none)) else (none)) else (if 0<=a then (if a<=(x0.length:Int) then (some (x0.take (a:Int).toNat)) else (none)) else (none))
def aT.f (k:Nat) (l0:List Int):Option (List Int):=aT.l0 k l0 (l0.length:Int)
def bw.l0:Nat->List Int->Int->List Int->Int->Int->Option (List Int×Int)
 | 0,_,_,_,_,_=>none
 | k+1,x0,x1,x6,x7,x8=>if x8>=0 then (if 0<=x8 then (if x8<(x0.length:Int) then (if x1=0 then (none) else (if x8<(x6.length:Int) then (bw.l0 k x0 x1 (x6.set (x8:Int).toNat (wrap64 (Int.tdiv (wrap64 ((wrap64 (x7*10000))+(rd x0 x8))) x1))) (Int.tmod (wrap64 ((wrap64 (x7*10000))+(rd x0 x8))) x1) (wrap64 (x8-1))) else (none))) else (none)) else (none)) else ((aT.f k x6).bind fun a=>(some (a,x7)))
def bw.f (k:Nat) (l0:List Int) (a:Int):Option (List Int×Int):=if 0<=(l0.length:Int) then (if ((l0.length:Int):Int).toNat<=35184372088832 then (bw.l0 k l0 a (List.replicate ((l0.length:Int):Int).toNat 0) 0 (wrap64 ((l0.length:Int)-1))) else (none)) else (none)
mutual
def aF.l0:Nat->List Int->List Int->Option (List Int)
 | 0,_,_=>none
 | k+1,x0,x3=>if (x0.length:Int)>0 then ((bw.f k x0 65536).bind fun bt713=>(if x3.length<17592186044416 then (aF.l0 k bt713.1 (x3++[bt713.2])) else (none))) else (aF.l1 k x3 ([]:List Int) 0)
def aF.l1:Nat->List Int->List Int->Int->Option (List Int)
 | 0,_,_,_=>none
 | k+1,x3,x6,x7=>if x7<(x3.length:Int) then (if 0<=x7 then (if (wrap64 (x7+1))<(x3.length:Int) then (if 0<=(wrap64 (x7+1)) then (if x6.length<35184372088832 then (aF.l1 k x3 (x6++[(((rd x3 x7) % 4294967296)+((((rd x3 (wrap64 (x7+1))) % 4294967296)*65536) % 4294967296)) % 4294967296]) (wrap64 (x7+2))) else (none)) else (none)) else (if x6.length<35184372088832 then (aF.l1 k x3 (x6++[(rd x3 x7) % 4294967296]) (wrap64 (x7+2))) else (none))) else (none)) else (some x6)
end
def aF.f (k:Nat) (l0:List Int):Option (List Int):=aF.l0 k l0 ([]:List Int)
mutual
def aw.l0:Nat->Int->Int->List Int->List Int->Int->Int->Option (List Int)
 | 0,_,_,_,_,_,_=>none
 | k+1,x1,x2,x7,x14,x15,x16=>if x16<x15 then (if 0<=x16 then (if x16<(x14.length:Int) then (if x7.length<17592186044416 then (aw.l0 k x1 (wrap64 (Int.tdiv (wrap64 (x2+(wrap64 ((rd x14 x16)*x1)))) 10000)) (x7++[Int.tmod (wrap64 (x2+(wrap64 ((rd x14 x16)*x1)))) 10000]) x14 x15 (wrap64 (x16+1))) else (none)) else (none)) else (none)) else (aw.l1 k x2 x7)
def aw.l1:Nat->Int->List Int->Option (List Int)
 | 0,_,_=>none
 | k+1,x2,x7=>if x2>0 then (if x7.length<17592186044416 then (aw.l1 k (wrap64 (Int.tdiv x2 10000)) (x7++[Int.tmod x2 10000])) else (none)) else ((aT.f k x7).bind fun a=>(some a))
end
def aw.f (k:Nat) (l0:List Int) (b a:Int):Option (List Int):=if 0<=(wrap64 ((l0.length:Int)+2)) then (if (wrap64 ((l0.length:Int)+2):Int).toNat<=35184372088832 then (aw.l0 k b a (([]:List Int)) l0 (l0.length:Int) 0) else (none)) else (none)
def bR.l0:Nat->List Int->List Int->Int->Option (List Int)
 | 0,_,_,_=>none
 | k+1,x0,x3,x4=>if x4>=0 then (if 0<=x4 then (if x4<(x0.length:Int) then ((aw.f k x3 65536 (wrap64 ((rd x0 x4) / 65536))).bind fun b=>((aw.f k b 65536 (wrap64 (Go.bits .and .u32 (rd x0 x4) 65535))).bind fun a=>(bR.l0 k x0 a (wrap64 (x4-1))))) else (none)) else (none)) else (some x3)
def aM.l0:Nat->List Int->List Int->Int->Option (Int)
 | 0,_,_,_=>none
 | k+1,x0,x1,x5=>if x5>=0 then (if 0<=x5 then (if x5<(x0.length:Int) then (if x5<(x1.length:Int) then (if (rd x0 x5)=(rd x1 x5) then (aM.l0 k x0 x1 (wrap64 (x5-1))) else (if (rd x0 x5)<(rd x1 x5) then (some (-1)) else (some 1))) else (none)) else (none)) else (none)) else (some 0)
def aM.f (k:Nat) (l0 a:List Int):Option (Int):=if (l0.length:Int)=(a.length:Int) then (aM.l0 k l0 a (wrap64 ((l0.length:Int)-1))) else (if (l0.length:Int)<(a.length:Int) then (some (-1)) else (some 1))
def bS.f (a:List Int):Option (Bool):=if (a.length:Int)<=4096 then (if (a.length:Int)=0 then (some true) else (if 0<=(wrap64 ((a.length:Int)-1)) then (if (wrap64 ((a.length:Int)-1))<(a.length:Int) then (some ((rd a (wrap64 ((a.length:Int)-1))) != 0)) else (none)) else (none))) else (some false)
def aK.l0:Nat->Int->List Int->Option (List Int)
 | 0,_,_=>none
 | k+1,x0,x3=>if x0>0 then (if x3.length<17592186044416 then (aK.l0 k (wrap64 (Int.tdiv x0 10000)) (x3++[Int.tmod x0 10000])) else (none)) else (some x3)
def aK.f (k:Nat) (a:Int):Option (List Int):=aK.l0 k a (([]:List Int))
def dI.f (b:List Int):Option (List Int):=(some (([]:List Int):List Int)).bind fun a=>(if a.length+b.length<17592186044416 then (some (a++b)) else (none))
def aQ.l0:Nat->List Int->List Int->Int->Int->Int->Option (List Int)
 | 0,_,_,_,_,_=>none
 | k+1,x1,x5,x6,x12,a=>if a<x12 then (if 0<=a then (if a<(x5.length:Int) then (if a<(x1.length:Int) then (if (wrap64 ((wrap64 ((rd x5 a)-x6))-(rd x1 a)))<0 then (aQ.l0 k x1 (x5.set (a:Int).toNat (wrap64 ((wrap64 ((wrap64 ((rd x5 a)-x6))-(rd x1 a)))+10000))) 1 x12 (wrap64 (a+1))) else (aQ.l0 k x1 (x5.set (a:Int).toNat (wrap64 ((wrap64 ((rd x5 a)-x6))-(rd x1 a)))) 0 x12 (wrap64 (a+1)))) else (if (wrap64 ((rd x5 a)-x6))<0 then (aQ.l0 k x1 (x5.set (a:Int).toNat (wrap64 ((wrap64 ((rd x5 a)-x6))+10000))) 1 x12 (wrap64 (a+1))) else (aQ.l0 k x1 (x5.set (a:Int).toNat (wrap64 ((rd x5 a)-x6))) 0 x12 (wrap64 (a+1))))) else (none)) else (none)) else ((aT.f k x5).bind fun b=>(some b))
def aQ.f (k:Nat) (l0 b:List Int):Option (List Int):=(dI.f l0).bind fun a=>(aQ.l0 k b a 0 (a.length:Int) 0)
def aR.l0:Nat->List Int->Int->Int->Option (Int×Bool)
 | 0,_,_,_=>none
 | k+1,x0,x4,x5=>if x5>=0 then (if 0<=x5 then (if x5<(x0.length:Int) then (aR.l0 k x0 (wrap64 ((wrap64 (x4*10000))+(rd x0 x5))) (wrap64 (x5-1))) else (none)) else (none)) else (some (x4,true))
def aR.f (k:Nat) (l0:List Int):Option (Int×Bool):=if (l0.length:Int)>4 then (some (0,false)) else (aR.l0 k l0 0 (wrap64 ((l0.length:Int)-1)))
mutual
def an.l0:Nat->List Int->List Int->Int->Int->Int->Int->Option (Int)
 | 0,_,_,_,_,_,_=>none
 | k+1,x0,x1,x5,x6,x7,x8=>if x8>=(mx 0 (wrap64 (x5-2))) then (if x8<(x0.length:Int) then (if 0<=x8 then (an.l0 k x0 x1 x5 (wrap64 ((wrap64 (x6*10000))+(rd x0 x8))) x7 (wrap64 (x8-1))) else (none)) else (an.l0 k x0 x1 x5 (wrap64 (x6*10000)) x7 (wrap64 (x8-1)))) else (an.l1 k x0 x1 x5 x6 x7 (wrap64 (x5-1)))
def an.l1:Nat->List Int->List Int->Int->Int->Int->Int->Option (Int)
 | 0,_,_,_,_,_,_=>none
 | k+1,x0,x1,x5,x6,x7,x9=>if x9>=(mx 0 (wrap64 (x5-2))) then (if 0<=x9 then (if x9<(x1.length:Int) then (an.l1 k x0 x1 x5 x6 (wrap64 ((wrap64 (x7*10000))+(rd x1 x9))) (wrap64 (x9-1))) else (none)) else (none)) else (if x5=1 then (if 0<(x1.length:Int) then (an.j2 k x0 x1 x6 (rd x1 0)) else (none)) else (an.j2 k x0 x1 x6 x7))
def an.j2:Nat->List Int->List Int->Int->Int->Option (Int)
 | 0,_,_,_,_=>none
 | k+1,x0,x1,x6,x7=>if x7=0 then (none) else (an.l2 k x0 x1 (mn (wrap64 (Int.tdiv x6 x7)) 9999))
def an.l2:Nat->List Int->List Int->Int->Option (Int)
 | 0,_,_,_=>none
 | k+1,x0,x1,x10=>(aw.f k x1 x10 0).bind fun b=>((aM.f k b x0).bind fun a=>(if a>0 then (an.l2 k x0 x1 (wrap64 (x10-1))) else (an.l3 k x0 x1 x10)))
def an.l3:Nat->List Int->List Int->Int->Option (Int)
 | 0,_,_,_=>none
 | k+1,x0,x1,x10=>if (wrap64 (x10+1))<10000 then ((aw.f k x1 (wrap64 (x10+1)) 0).bind fun a=>((aM.f k a x0).bind fun b=>(if b<=0 then (an.l3 k x0 x1 (wrap64 (x10+1))) else (some x10)))) else (some x10)
end
def an.f (k:Nat) (l0 a:List Int):Option (Int):=an.l0 k l0 a (a.length:Int) 0 0 (a.length:Int)
def aG.l0:Nat->List Int->List Int->List Int->List Int->Int->Option (List Int×List Int)
 | 0,_,_,_,_,_=>none
 | k+1,x0,x1,x12,x13,a=>if a>=0 then (if 0<=a then (if a<(x0.length:Int) then ((aw.f k x13 10000 (rd x0 a)).bind fun b=>((aM.f k b x1).bind fun h=>(if h<0 then (aG.l0 k x0 x1 x12 b (wrap64 (a-1))) else ((an.f k b x1).bind fun e=>(if a<(x12.length:Int) then ((some (x12.set (a:Int).toNat e:List Int)).bind fun c=>((aw.f k x1 (rd c a) 0).bind fun d=>((aQ.f k b d).bind fun g=>(aG.l0 k x0 x1 c g (wrap64 (a-1)))))) else (none)))))) else (none)) else (none)) else ((aT.f k x12).bind fun i=>(some (i,x13)))
def aG.f (k:Nat) (l0 a:List Int):Option (List Int×List Int):=(aM.f k l0 a).bind fun c=>(if c<0 then (some ((([]:List Int)),l0)) else ((aR.f k l0).bind fun bt814=>(if bt814.2=true then ((aR.f k a).bind fun bt816=>(if bt816.1=0 then (none) else ((aK.f k (wrap64 (Int.tdiv bt814.1 bt816.1))).bind fun e=>((aK.f k (Int.tmod bt814.1 bt816.1)).bind fun d=>(some (e,d)))))) else (if (a.length:Int)=1 then (if 0<(a.length:Int) then ((bw.f k l0 (rd a 0)).bind fun bt825=>((aK.f k bt825.2).bind fun b=>(some (bt825.1,b)))) else (none)) else (if 0<=(l0.length:Int) then (if ((l0.length:Int):Int).toNat<=35184372088832 then (aG.l0 k l0 a (List.replicate ((l0.length:Int):Int).toNat 0) (([]:List Int)) (wrap64 ((l0.length:Int)-1))) else (none)) else (none))))))
mutual
def aA.l0:Nat->List Int->List Int->Option (List Int)
 | 0,_,_=>none
 | k+1,x0,x1=>if (x1.length:Int)>0 then ((aR.f k x0).bind fun bt855=>((aR.f k x1).bind fun bt857=>(if bt855.2=true then (aA.j1 k x0 x1 bt855.1 bt857.1 bt857.2) else (aA.j1 k x0 x1 bt855.1 bt857.1 false)))) else (some x0)
def aA.j1:Nat->List Int->List Int->Int->Int->Bool->Option (List Int)
 | 0,_,_,_,_,_=>none
 | k+1,x0,x1,x5,x7,x27=>if x27=true then (aA.l1 k x5 x7) else ((aG.f k x0 x1).bind fun bt862=>(aA.l0 k x1 bt862.2))
def aA.l1:Nat->Int->Int->Option (List Int)
 | 0,_,_=>none
 | k+1,x5,x7=>if x7>0 then (if x7=0 then (none) else (aA.l1 k x7 (Int.tmod x5 x7))) else ((aK.f k x5).bind fun a=>(some a))
end
def aA.f (k:Nat) (l0 a:List Int):Option (List Int):=aA.l0 k l0 a
def aD.l0:Nat->List Int->List Int->Int->Int->Option (Bool)
 | 0,_,_,_,_=>none
 | k+1,x0,x1,x12,x13=>if x13<x12 then (if 0<=x13 then (if x13<(x0.length:Int) then (if x13<(x1.length:Int) then (if (rd x0 x13)=(rd x1 x13) then (aD.l0 k x0 x1 x12 (wrap64 (x13+1))) else (some false)) else (none)) else (none)) else (none)) else (some true)
def aD.f (k:Nat) (l0 a:List Int):Option (Bool):=if (l0.length:Int)=(a.length:Int) then (aD.l0 k l0 a (l0.length:Int) 0) else (some false)
def fB.f (k:Nat) (i:Bool) (b e:List Int) (g:Bool) (h c:List Int):Option (Bool):=if (i==g)=true then ((aD.f k b h).bind fun d=>(if d=true then ((aD.f k e c).bind fun a=>(some a)) else (some false))) else (some false)
mutual
def aI.j0:Nat->Bool->Int->List (rN)->Int->List (rN)->Option (Bool)
 | 0,_,_,_,_,_=>none
 | k+1,x22,x952000,x952001,x953000,x953001=>if x22=true then (some false) else (aI.l0 k x952001 (x952001.length:Int) 0 x953000 x953001)
def aI.l0:Nat->List (rN)->Int->Int->Int->List (rN)->Option (Bool)
 | 0,_,_,_,_,_=>none
 | k+1,x24,x25,x26,x953000,x953001=>if x26<x25 then (if 0<=x26 then (if x26<(x24.length:Int) then (if x26<(x953001.length:Int) then (if (((cm x24 x26).f0).length:Int)=(((cm x953001 x26).f0).length:Int) then ((fB.f k ((cm x24 x26).f1.f0) ((cm x24 x26).f1.f1) ((cm x24 x26).f1.f2) ((cm x953001 x26).f1.f0) ((cm x953001 x26).f1.f1) ((cm x953001 x26).f1.f2)).bind fun a=>(aI.j2 k x24 x25 x26 (!a) x953000 x953001 ((cm x24 x26).f0) ((cm x24 x26).f1.f0) ((cm x24 x26).f1.f1) ((cm x24 x26).f1.f2) ((cm x953001 x26).f0) ((cm x953001 x26).f1.f0) ((cm x953001 x26).f1.f1) ((cm x953001 x26).f1.f2))) else (aI.j2 k x24 x25 x26 true x953000 x953001 ((cm x24 x26).f0) ((cm x24 x26).f1.f0) ((cm x24 x26).f1.f1) ((cm x24 x26).f1.f2) ((cm x953001 x26).f0) ((cm x953001 x26).f1.f0) ((cm x953001 x26).f1.f1) ((cm x953001 x26).f1.f2))) else (none)) else (none)) else (none)) else (some true)
def aI.j2:Nat->List (rN)->Int->Int->Bool->Int->List (rN)->List Int->Bool->List Int->List Int->List Int->Bool->List Int->List Int->Option (Bool)
 | 0,_,_,_,_,_,_,_,_,_,_,_,_,_,_=>none
 | k+1,x24,x25,x26,x50,x953000,x953001,x955000,x955001,x955002,x955003,x957000,x957001,x957002,x957003=>if x50=true then (some false) else (aI.l1 k x24 x25 x26 (x955000.length:Int) 0 x953000 x953001 x955000 x955001 x955002 x955003 x957000 x957001 x957002 x957003)
def aI.l1:Nat->List (rN)->Int->Int->Int->Int->Int->List (rN)->List Int->Bool->List Int->List Int->List Int->Bool->List Int->List Int->Option (Bool)
 | 0,_,_,_,_,_,_,_,_,_,_,_,_,_,_,_=>none
 | k+1,x24,x25,x26,x53,x54,x953000,x953001,x955000,x955001,x955002,x955003,x957000,x957001,x957002,x957003=>if x54<x53 then (if 0<=x54 then (if x54<(x955000.length:Int) then (if x54<(x957000.length:Int) then (if (rd x955000 x54)=(rd x957000 x54) then (aI.l1 k x24 x25 x26 x53 (wrap64 (x54+1)) x953000 x953001 x955000 x955001 x955002 x955003 x957000 x957001 x957002 x957003) else (some false)) else (none)) else (none)) else (none)) else (aI.l0 k x24 x25 (wrap64 (x26+1)) x953000 x953001)
end
mutual
def ax.l0:Nat->List Int->List Int->List Int->Int->Int->Option (List Int)
 | 0,_,_,_,_,_=>none
 | k+1,x1,x5,x19,x20,x21=>if x21<x20 then (if 0<=x21 then (if x21<(x19.length:Int) then (ax.l1 k x1 x5 x21 (rd x19 x21) 0 x19 x20 x21 x1 (x1.length:Int) 0) else (none)) else (none)) else ((aT.f k x5).bind fun a=>(some a))
def ax.l1:Nat->List Int->List Int->Int->Int->Int->List Int->Int->Int->List Int->Int->Int->Option (List Int)
 | 0,_,_,_,_,_,_,_,_,_,_,_=>none
 | k+1,x1,x5,x6,x7,x8,x19,x20,x21,x26,x27,x28=>if x28<x27 then (if 0<=x28 then (if x28<(x26.length:Int) then (if 0<=(wrap64 (x6+x28)) then (if (wrap64 (x6+x28))<(x5.length:Int) then (ax.l1 k x1 (x5.set ((wrap64 (x6+x28)):Int).toNat (Int.tmod (wrap64 (x8+(wrap64 ((rd x5 (wrap64 (x6+x28)))+(wrap64 (x7*(rd x26 x28))))))) 10000)) x6 x7 (wrap64 (Int.tdiv (wrap64 (x8+(wrap64 ((rd x5 (wrap64 (x6+x28)))+(wrap64 (x7*(rd x26 x28))))))) 10000)) x19 x20 x21 x26 x27 (wrap64 (x28+1))) else (none)) else (none)) else (none)) else (none)) else (ax.l2 k x1 x5 x8 (wrap64 (x6+(x1.length:Int))) x19 x20 x21)
def ax.l2:Nat->List Int->List Int->Int->Int->List Int->Int->Int->Option (List Int)
 | 0,_,_,_,_,_,_,_=>none
 | k+1,x1,x5,x8,a,x19,x20,x21=>if x8>0 then (if 0<=a then (if a<(x5.length:Int) then (ax.l2 k x1 (x5.set (a:Int).toNat (Int.tmod (wrap64 (x8+(rd x5 a))) 10000)) (wrap64 (Int.tdiv (wrap64 (x8+(rd x5 a))) 10000)) (wrap64 (a+1)) x19 x20 x21) else (none)) else (none)) else (ax.l0 k x1 x5 x19 x20 (wrap64 (x21+1)))
end
def ax.f (k:Nat) (l0 a:List Int):Option (List Int):=if 0<=(wrap64 ((wrap64 ((l0.length:Int)+(a.length:Int)))+1)) then (if (wrap64 ((wrap64 ((l0.length:Int)+(a.length:Int)))+1):Int).toNat<=35184372088832 then (ax.l0 k a (List.replicate (wrap64 ((wrap64 ((l0.length:Int)+(a.length:Int)))+1):Int).toNat 0) l0 (l0.length:Int) 0) else (none)) else (none)
mutual
def aB.l0:Nat->List Int->List Int->List Int->Int->Int->Option (List Int)
 | 0,_,_,_,_,_=>none
 | k+1,x0,x1,x5,x6,x7=>if x7<(x0.length:Int) then (aB.j1 k x0 x1 x5 x6 x7 true) else (if x7<(x1.length:Int) then (aB.j1 k x0 x1 x5 x6 x7 true) else (aB.j1 k x0 x1 x5 x6 x7 (decide (x6>0))))
def aB.j1:Nat->List Int->List Int->List Int->Int->Int->Bool->Option (List Int)
 | 0,_,_,_,_,_,_=>none
 | k+1,x0,x1,x5,x6,x7,x21=>if x21=true then (if x7<(x0.length:Int) then (if 0<=x7 then (if x7<(x1.length:Int) then (if x5.length<17592186044416 then (aB.l0 k x0 x1 (x5++[Int.tmod (wrap64 ((wrap64 (x6+(rd x0 x7)))+(rd x1 x7))) 10000]) (wrap64 (Int.tdiv (wrap64 ((wrap64 (x6+(rd x0 x7)))+(rd x1 x7))) 10000)) (wrap64 (x7+1))) else (none)) else (if x5.length<17592186044416 then (aB.l0 k x0 x1 (x5++[Int.tmod (wrap64 (x6+(rd x0 x7))) 10000]) (wrap64 (Int.tdiv (wrap64 (x6+(rd x0 x7))) 10000)) (wrap64 (x7+1))) else (none))) else (none)) else (if x7<(x1.length:Int) then (if 0<=x7 then (if x5.length<17592186044416 then (aB.l0 k x0 x1 (x5++[Int.tmod (wrap64 (x6+(rd x1 x7))) 10000]) (wrap64 (Int.tdiv (wrap64 (x6+(rd x1 x7))) 10000)) (wrap64 (x7+1))) else (none)) else (none)) else (if x5.length<17592186044416 then (aB.l0 k x0 x1 (x5++[Int.tmod x6 10000]) (wrap64 (Int.tdiv x6 10000)) (wrap64 (x7+1))) else (none)))) else (some x5)
end
def aB.f (k:Nat) (l0 a:List Int):Option (List Int):=aB.l0 k l0 a ([]:List Int) 0 0
def fJ.l0:Nat->List (rN)->Int->Int->Bool->List Int->List Int->Int->List (rN)->Option (Int×(List (rN)))
 | 0,_,_,_,_,_,_,_,_=>none
 | k+1,x16,x17,x18,x1348000,x1348001,x1348002,x1350000,x1350001=>if x18<x17 then (if 0<=x18 then (if x18<(x16.length:Int) then ((lB.f k ((cm x16 x18).f1.f0) ((cm x16 x18).f1.f1) ((cm x16 x18).f1.f2) x1348000 x1348001 x1348002).bind fun bt1353=>(if x1350001.length<1759218604441 then (fJ.l0 k x16 x17 (wrap64 (x18+1)) x1348000 x1348001 x1348002 x1350000 (x1350001++[(⟨(cm x16 x18).f0,(⟨bt1353.1,bt1353.2.1,bt1353.2.2⟩:S61)⟩:rN)])) else (none))) else (none)) else (none)) else (some (x1350000,x1350001))
def tX.f (c:Bool) (a b:List Int):Option (Bool×List Int×List Int):=if ([]:List Int).length+b.length<35184372088832 then (if ([]:List Int).length+a.length<35184372088832 then (some (c,(([]:List Int)++b),(([]:List Int)++a))) else (none)) else (none)
def tY.f (k:Nat) (g:Bool) (a c:List Int) (d:Bool) (e b:List Int):Option (Bool×List Int×List Int):=(tX.f d e b).bind fun bt1451=>((lB.f k g a c bt1451.1 bt1451.2.1 bt1451.2.2).bind fun bt1458=>(some (bt1458.1,bt1458.2.1,bt1458.2.2)))
def cR.l0:Nat->List Int->List Int->Int->Int->List Int->Bool->List Int->List Int->List Int->Bool->List Int->List Int->Option (List Int×Bool×List Int×List Int×Bool)
 | 0,_,_,_,_,_,_,_,_,_,_,_,_=>none
 | k+1,x6,x14,x15,a,x1466000,x1466001,x1466002,x1466003,x1467000,x1467001,x1467002,x1467003=>if a<x15 then (if 0<=a then (if a<(x14.length:Int) then (if a<(x1467000.length:Int) then (if a<(x6.length:Int) then ((some (x6.set (a:Int).toNat (wrap64 ((rd x14 a)-(rd x1467000 a))):List Int)).bind fun b=>(if (rd b a)<0 then (some (([]:List Int),false,([]:List Int),([]:List Int),false)) else (cR.l0 k b x14 x15 (wrap64 (a+1)) x1466000 x1466001 x1466002 x1466003 x1467000 x1467001 x1467002 x1467003))) else (none)) else (none)) else (none)) else (none)) else ((tY.f k x1466001 x1466002 x1466003 x1467001 x1467002 x1467003).bind fun bt1475=>(some (x6,bt1475.1,bt1475.2.1,bt1475.2.2,true)))
end Go.Proofs.YtfbgaddecbiimaaGreatDoor.P
end
section
namespace Go.Proofs.YtfbgaddecbiimaaGreatDoor.V
open Go.RowKit Go.Proofs.YtfbgaddecbiimaaGreatDoorW.PrintWords
theorem r1 {P:Program} {X:Ctx} {id:Nat} {a:Oper} {S S1:St} {Q:gM} (k:Q .normal S1) (b:a.guard=none:=by rfl) (c:cf P X a S S1:=by exact ow):kp P X (.region id [a].toArray false) S Q:=ak (o1 (ai k) b c)
theorem r2 {P:Program} {X:Ctx} {id:Nat} {b a:Oper} {S S1 S2:St} {Q:gM} (k:Q .normal S2) (e:b.guard=none:=by rfl) (f:cf P X b S S1:=by exact ow) (c:a.guard=none:=by rfl) (d:cf P X a S1 S2:=by exact ow):kp P X (.region id [b,a].toArray false) S Q:=ak (o1 (o1 (ai k) c d) e f)
theorem r3 {P:Program} {X:Ctx} {id:Nat} {b a c:Oper} {S S1 S2 S3:St} {Q:gM} (k:Q .normal S3) (h:b.guard=none:=by rfl) (i:cf P X b S S1:=by exact ow) (f:a.guard=none:=by rfl) (g:cf P X a S1 S2:=by exact ow) (d:c.guard=none:=by rfl) (e:cf P X c S2 S3:=by exact ow):kp P X (.region id [b,a,c].toArray false) S Q:=ak (o1 (o1 (o1 (ai k) d e) f g) h i)
theorem r4 {P:Program} {X:Ctx} {id:Nat} {b a c d:Oper} {S S1 S2 S3 S4:St} {Q:gM} (k:Q .normal S4) (i:b.guard=none:=by rfl) (j:cf P X b S S1:=by exact ow) (g:a.guard=none:=by rfl) (f:cf P X a S1 S2:=by exact ow) (e:c.guard=none:=by rfl) (h:cf P X c S2 S3:=by exact ow) (m:d.guard=none:=by rfl) (l:cf P X d S3 S4:=by exact ow):kp P X (.region id [b,a,c,d].toArray false) S Q:=ak (o1 (o1 (o1 (o1 (ai k) m l) e h) g f) i j)
theorem r5 {P:Program} {X:Ctx} {id:Nat} {b a c e d:Oper} {S S1 S2 S3 S4 S5:St} {Q:gM} (k:Q .normal S5) (n:b.guard=none:=by rfl) (m:cf P X b S S1:=by exact ow) (l:a.guard=none:=by rfl) (j:cf P X a S1 S2:=by exact ow) (f:c.guard=none:=by rfl) (i:cf P X c S2 S3:=by exact ow) (p:e.guard=none:=by rfl) (o:cf P X e S3 S4:=by exact ow) (g:d.guard=none:=by rfl) (h:cf P X d S4 S5:=by exact ow):kp P X (.region id [b,a,c,e,d].toArray false) S Q:=ak (o1 (o1 (o1 (o1 (o1 (ai k) g h) p o) f i) l j) n m)
theorem r6 {P:Program} {X:Ctx} {id:Nat} {b a c f d e:Oper} {S S1 S2 S3 S4 S5 S6:St} {Q:gM} (k:Q .normal S6) (o:b.guard=none:=by rfl) (n:cf P X b S S1:=by exact ow) (m:a.guard=none:=by rfl) (l:cf P X a S1 S2:=by exact ow) (g:c.guard=none:=by rfl) (i:cf P X c S2 S3:=by exact ow) (q:f.guard=none:=by rfl) (p:cf P X f S3 S4:=by exact ow) (h:d.guard=none:=by rfl) (j:cf P X d S4 S5:=by exact ow) (r:e.guard=none:=by rfl) (s:cf P X e S5 S6:=by exact ow):kp P X (.region id [b,a,c,f,d,e].toArray false) S Q:=ak (o1 (o1 (o1 (o1 (o1 (o1 (ai k) r s) h j) q p) g i) m l) o n)
theorem r7 {P:Program} {X:Ctx} {id:Nat} {e d f c g a b:Oper} {S S1 S2 S3 S4 S5 S6 S7:St} {Q:gM} (k:Q .normal S7) (r:e.guard=none:=by rfl) (n:cf P X e S S1:=by exact ow) (q:d.guard=none:=by rfl) (m:cf P X d S1 S2:=by exact ow) (p:f.guard=none:=by rfl) (l:cf P X f S2 S3:=by exact ow) (j:c.guard=none:=by rfl) (s:cf P X c S3 S4:=by exact ow) (h:g.guard=none:=by rfl) (i:cf P X g S4 S5:=by exact ow) (v:a.guard=none:=by rfl) (o:cf P X a S5 S6:=by exact ow) (t:b.guard=none:=by rfl) (u:cf P X b S6 S7:=by exact ow):kp P X (.region id [e,d,f,c,g,a,b].toArray false) S Q:=ak (o1 (o1 (o1 (o1 (o1 (o1 (o1 (ai k) t u) v o) h i) j s) p l) q m) r n)
theorem r8 {P:Program} {X:Ctx} {id:Nat} {e d g c h a b f:Oper} {S S1 S2 S3 S4 S5 S6 S7 S8:St} {Q:gM} (k:Q .normal S8) (u:e.guard=none:=by rfl) (q:cf P X e S S1:=by exact ow) (t:d.guard=none:=by rfl) (o:cf P X d S1 S2:=by exact ow) (s:g.guard=none:=by rfl) (p:cf P X g S2 S3:=by exact ow) (n:c.guard=none:=by rfl) (v:cf P X c S3 S4:=by exact ow) (j:h.guard=none:=by rfl) (l:cf P X h S4 S5:=by exact ow) (y:a.guard=none:=by rfl) (r:cf P X a S5 S6:=by exact ow) (w:b.guard=none:=by rfl) (x:cf P X b S6 S7:=by exact ow) (m:f.guard=none:=by rfl) (i:cf P X f S7 S8:=by exact ow):kp P X (.region id [e,d,g,c,h,a,b,f].toArray false) S Q:=ak (o1 (o1 (o1 (o1 (o1 (o1 (o1 (o1 (ai k) m i) w x) y r) j l) n v) s p) t o) u q)
theorem sR {P:Program} {X:Ctx} {S:St} {Q:gM} (h:Q .ret S:=by exact ⟨.inl rfl,.one (.tmp rt) rfl⟩):kp P X .ret S Q:=jl h
theorem Cm {P:Program} {X:Ctx} {S:St} {Q:gM} (h:Q .ret S:=by exact ⟨.inl rfl,.two (.tmp rt) (.tmp rt) rfl rfl⟩):kp P X .ret S Q:=jl h
theorem gk {P:Program} {X:Ctx} {x y:Code} {S:St} {Q:gM} {o:Operand} {b:Bool} {α:Type} {c:Prop} [Decidable c] {u v:Option α} {r:α} (h:(if c then u else v)=some r) (A:c->u=some r->kp P X x S Q) (B:¬ c->v=some r->kp P X y S Q) (e:ev S o=some (.cv (.lit (.bool b))):=by rfl) (g:b=true->c:=by intro hb;first | exact VE hb | exact hb | exact eq_of_beq hb | exact Xe.1 hb | exact WS.1 hb | (exact XF (Wo hb)) | (exact Vk.1 hb) | (simp at hb;first | exact hb | omega)) (k:b=false->¬ c:=by intro hb;first | exact Wo hb | exact QE.1 hb | exact WS.1 hb | exact Vk.1 hb | (exact (by rw [hb];decide)) | (simp at hb;first | exact hb | omega | (simp [hb];done))):kp P X (.cond o x y) S Q :=
 iV e (fun hb=>A (g hb) ((Qk (g hb)).symm.trans h)) fun hb=>B (k hb) ((Qc (k hb)).symm.trans h)
theorem Nu {P:Program} {X:Ctx} {x y:Code} {S:St} {Q:gM} {o:Operand} {b:Bool} {α:Type} {c:Prop} [Decidable c] {u v:Option α} {r:α} (h:(if c then u else v)=some r) (B:¬ c->v=some r->kp P X x S Q) (A:c->u=some r->kp P X y S Q) (e:ev S o=some (.cv (.lit (.bool b))):=by rfl) (g:b=false->c:=by intro hb;first | exact VE hb | exact hb | exact eq_of_beq hb | exact Xe.1 hb | exact WS.1 hb | (exact XF (Wo hb)) | (exact Vk.1 hb) | (simp at hb;first | exact hb | omega)) (k:b=true->¬ c:=by intro hb;first | exact Wo hb | exact QE.1 hb | exact WS.1 hb | exact Vk.1 hb | (exact (by rw [hb];decide)) | (simp at hb;first | exact hb | omega | (simp [hb];done))):kp P X (.cond o x y) S Q :=
 iV e (fun hb=>B (k hb) ((Qc (k hb)).symm.trans h)) fun hb=>A (g hb) ((Qk (g hb)).symm.trans h)
instance:UL Tryz.prog 2 (.int .i64):=⟨Q4⟩
instance:UL Tryz.prog 3 (.int .i64):=⟨Q4⟩
instance:UL Tryz.prog 5 (.int .u8):=⟨Q4⟩
instance:UL Tryz.prog 9 (.string):=⟨Q4⟩
instance:UL Tryz.prog 32 (.slice 5):=⟨Q4⟩
instance:UL Tryz.prog 48 (.slice 3):=⟨Q4⟩
instance:UL Tryz.prog 49 (.slice 3):=⟨Q4⟩
instance:UL Tryz.prog 59 (.slice 151):=⟨Q4⟩
instance:UL Tryz.prog 151 (.int .u32):=⟨Q4⟩
instance:UL Tryz.prog 156 (.int .u64):=⟨Q4⟩
instance:UL Tryz.prog 173 (.slice 175):=⟨Q4⟩
instance:UL Tryz.prog 175 (.int .u64):=⟨Q4⟩
instance:IF Tryz.prog 2 (.int .i64 0) 1 8:=⟨by unfold Info;kernel_rfl⟩
instance:IF Tryz.prog 3 (.int .i64 0) 1 8:=⟨by unfold Info;kernel_rfl⟩
instance:IF Tryz.prog 5 (.int .u8 0) 1 1:=⟨by unfold Info;kernel_rfl⟩
instance:IF Tryz.prog 151 (.int .u32 0) 1 4:=⟨by unfold Info;kernel_rfl⟩
instance:IF Tryz.prog 156 (.int .u64 0) 1 8:=⟨by unfold Info;kernel_rfl⟩
instance:IF Tryz.prog 175 (.int .u64 0) 1 8:=⟨by unfold Info;kernel_rfl⟩
instance:SZ Tryz.prog 3 1:=⟨Q4⟩
instance:SZ Tryz.prog 5 1:=⟨Q4⟩
instance:SZ Tryz.prog 151 1:=⟨Q4⟩
instance:FN Tryz.prog 138:=⟨⟨_,Tryz.func138,by decide,by simp [Tryz.f138]⟩⟩
theorem dX.v (k:Nat) (l0 d:List Int) (r:Int) (h:P.dX.f k l0 d=some r):Fn Tryz.prog 138 [.ints .u32 l0,.ints .u32 d] (.int .i64 r):=by
 refine bU Tryz.func138 rfl (Qe rfl) ?_;intro X hX;unfold P.dX.f at h;refine aa (r1 ?_);refine aa (aa (r5 ?_));refine Nu h (fun _ h=>?_) (fun _ h=>?_)
 ·refine aa (aa (r5 ?_));refine gk h (fun _ h=>?_) (fun _ h=>?_)
  ·refine aa (r1 ?_);cases h;exact sR
  refine aE (aa (r1 ?_));cases h;exact sR
 refine aE (aa (aa (r4 ?_)));refine aC (bN ?_);refine bP (D:=List Int×List Int×Int×Unit) (fun (a,b,c,_)=>⟨look [(0,.ints .u32 a),(1,.ints .u32 b),(5,.int .i64 c)],look []⟩) (fun K_ (a,b,c,_)=>P.dX.l0 K_ a b c=some r) ?_ _ (_,_,_,()) h (aY _ _ ⟨rfl,rfl,rfl,trivial⟩ trivial rfl);rintro (_ | m11) ih10 ⟨x0,x1,x5,_⟩ h
 ·nomatch h
 dsimp only at h ⊢;simp only [P.dX.l0] at h;refine bH (aa (aa (r2 ?_)));refine gk h (fun _ h=>?_) (fun _ h=>?_)
 ·obtain ⟨_,h⟩:=aj h;iterate 2 obtain ⟨_,h⟩:=aj h
  refine aE (aa (aC (aa (gw ?_))));iterate 9 refine s1 ?_
  refine lI ?_;refine Nu h (fun _ h=>?_) (fun _ h=>?_)
  ·refine aa (aa (gw ?_));iterate 9 refine s1 ?_
   refine lI ?_;refine gk h (fun _ h=>?_) (fun _ h=>?_)
   ·refine aa (r1 ?_);cases h;exact sR
   refine aE (aa (r1 ?_));cases h;exact sR
  refine aE (r3 ?_);exact aO (ih10 m11 Q2 (_,_,_,()) h) ⟨rfl,rfl,rfl,trivial⟩ trivial rfl
 refine bI (aa (r1 ?_));cases h;exact sR
instance:FN Tryz.prog 169:=⟨⟨_,Tryz.func169,by decide,by simp [Tryz.f169]⟩⟩
theorem cG.v (k:Nat) (l0 r:List Int) (h:P.cG.f k l0=some r):Fn Tryz.prog 169 [.ints .u32 l0] (.ints .u32 r):=by
 refine bU Tryz.func169 rfl (Qe rfl) ?_;intro X hX;unfold P.cG.f at h;refine aa (r1 ?_);refine aa (aC (bN ?_));refine bP (D:=List Int×Unit) (fun d=>⟨look [(0,.ints .u32 d.1)],look []⟩) (fun K_ d=>P.cG.l0 K_ d.1=some r) ?_ _ (_,()) h (aY _ _ ⟨rfl,trivial⟩ trivial rfl);rintro (_ | m3) ih2 ⟨x0,_⟩ h
 ·nomatch h
 dsimp only at h ⊢;simp only [P.cG.l0] at h;refine bH (aa (aa (ak ?_)));iterate 4 refine o1 ?_
 refine og rfl rfl rfl rfl (fun hb=>?_) (fun hb=>?_)
 ·obtain ⟨_,h⟩:=tkT h hb;iterate 2 obtain ⟨_,h⟩:=aj h
  iterate 7 refine oT ?_
  refine o1 ?_;refine ai ?_;refine gk h (fun _ h=>?_) (fun _ h=>?_)
  ·obtain ⟨_,h⟩:=aj h;refine aE (aC (r6 ?_));exact aO (ih2 m3 Q2 (_,()) h) ⟨rfl,trivial⟩ trivial rfl
  refine bI (aa (r2 ?_));cases h;exact sR
 skip;obtain ⟨a,h⟩:=tkF h hb;have b:=hb;clear hb;iterate 7 refine Cn ?_
 refine o1 ?_;refine ai ?_;refine iV rfl (fun hb=>?_) (fun hb=>?_)
 ·skip
  first | cases hb | (simp_all;done)
 skip;refine bI (aa (r2 ?_));cases h;exact sR
instance:FN Tryz.prog 159:=⟨⟨_,Tryz.func159,by decide,by simp [Tryz.f159]⟩⟩
theorem dB.v (k:Nat) (b:Int) (r:List Int) (h:P.dB.f k b=some r):Fn Tryz.prog 159 [.int .u64 b] (.ints .u32 r):=by
 refine bU Tryz.func159 rfl (Qe rfl) ?_;intro X hX;unfold P.dB.f at h;refine aa (r1 ?_);refine aa (ak ?_);iterate 6 refine o1 ?_
 obtain ⟨t1,a,h⟩:=Q5 h;refine il (cG.v _ _ _ a) ?_;refine o1 ?_;refine ai ?_;cases h;exact sR
instance:FN Tryz.prog 173:=⟨⟨_,Tryz.func173,by decide,by simp [Tryz.f173]⟩⟩
theorem dY.v (k:Nat) (l0:List Int) (i:Int) (r:List Int×Int) (h:P.dY.f k l0 i=some r):Fn Tryz.prog 173 [.ints .u32 l0,.int .u32 i] (.tup [.ints .u32 r.1,.int .u32 r.2]):=by
 refine bU Tryz.func173 rfl (Qe rfl) ?_;intro X hX;unfold P.dY.f at h;iterate 2 obtain ⟨_,h⟩:=aj h
 refine aa (r2 ?_);refine aa (r4 ?_);refine aa (r1 ?_);refine aa (aa (r4 ?_));refine aC (bN ?_);refine bP (D:=List Int×Int×List Int×Int×Int×Unit) (fun (a,b,c,e,f,_)=>⟨look [(0,.ints .u32 a),(1,.int .u32 b),(6,.own 11),(7,.int .u64 e),(8,.int .i64 f)],look [(11,dw 151 .u32 c)]⟩) (fun K_ (a,b,c,e,f,_)=>P.dY.l0 K_ a b c e f=some r) ?_ _ (_,_,_,_,_,()) h (aY _ _ ⟨rfl,rfl,rfl,rfl,rfl,trivial⟩ ⟨rfl,trivial⟩ rfl);rintro (_ | m5) ih4 ⟨x0,x1,x6,x7,x8,_⟩ h
 ·nomatch h
 dsimp only at h ⊢;simp only [P.dY.l0] at h;refine bH (aa (aa (r2 ?_)));refine gk h (fun _ h=>?_) (fun _ h=>?_)
 ·obtain ⟨_,h⟩:=aj h;obtain ⟨_,h⟩:=aj h;obtain ⟨_,h⟩:=jC h;obtain ⟨_,h⟩:=aj h;refine aE (aa (aC (aa (ak ?_))));iterate 9 refine o1 ?_
  refine ai (aa (ak ?_));iterate 9 refine o1 ?_
  refine ai (r5 ?_);refine r3 ?_;exact aO (ih4 m5 Q2 (_,_,_,_,_,()) h) ⟨rfl,rfl,rfl,rfl,rfl,trivial⟩ ⟨rfl,trivial⟩ rfl
 refine bI (aa ?_);refine eQ (dF (k:=11) rfl) ?_;refine ak ?_;refine o1 ?_;obtain ⟨g,d,h⟩:=Q5 h;refine il (cG.v _ _ _ d) ?_;iterate 4 refine o1 ?_
 refine ai ?_;cases h;exact Cm
instance:FN Tryz.prog 190:=⟨⟨_,Tryz.func190,by decide,by simp [Tryz.f190]⟩⟩
theorem bits_Len32.v (a r:Int) (h:P.bits_Len32.f a=some r):Fn Tryz.prog 190 [.int .u32 a] (.int .i64 r):=by
 refine bU Tryz.func190 rfl (Qe rfl) ?_;intro X hX;unfold P.bits_Len32.f at h;refine aa (r1 ?_);refine aa (aa (r2 ?_));refine gk h (fun _ h=>?_) (fun _ h=>?_)
 ·refine aa (r3 ?_);refine r1 ?_;refine aa (aa (r2 ?_));refine gk h (fun _ h=>?_) (fun _ h=>?_)
  ·obtain ⟨_,h⟩:=aj h;obtain ⟨_,h⟩:=aj h;refine aa (r3 ?_);refine r3 ?_;refine aa (r7 ?_);cases h;exact sR
  iterate 2 obtain ⟨_,h⟩:=aj h
  refine aE (aa (r7 ?_));cases h;exact sR
 refine aE (aa (aa (r2 ?_)));refine gk h (fun _ h=>?_) (fun _ h=>?_)
 ·obtain ⟨_,h⟩:=aj h;obtain ⟨_,h⟩:=aj h;refine aa (r3 ?_);refine r3 ?_;refine aa (r7 ?_);cases h;exact sR
 iterate 2 obtain ⟨_,h⟩:=aj h
 refine aE (aa (r7 ?_));cases h;exact sR
instance:FN Tryz.prog 174:=⟨⟨_,Tryz.func174,by decide,by simp [Tryz.f174]⟩⟩
theorem bits_LeadingZeros32.v (b r:Int) (h:P.bits_LeadingZeros32.f b=some r):Fn Tryz.prog 174 [.int .u32 b] (.int .i64 r):=by
 refine bU Tryz.func174 rfl (Qe rfl) ?_;intro X hX;unfold P.bits_LeadingZeros32.f at h;refine aa (r1 ?_);refine aa (ak ?_);refine o1 ?_;obtain ⟨t1,a,h⟩:=Q5 h;refine il (bits_Len32.v _ _ a) ?_;iterate 2 refine o1 ?_
 refine ai ?_;cases h;exact sR
instance:FN Tryz.prog 175:=⟨⟨_,Tryz.func175,by decide,by simp [Tryz.f175]⟩⟩
theorem fD.v (k:Nat) (l0:List Int) (j:Int) (r:List Int) (h:P.fD.f k l0 j=some r):Fn Tryz.prog 175 [.ints .u32 l0,.int .i64 j] (.ints .u32 r):=by
 refine bU Tryz.func175 rfl (Qe rfl) ?_;intro X hX;unfold P.fD.f at h;refine aa (r1 ?_);refine aa (aa (r3 ?_));refine gk h (fun _ h=>?_) (fun _ h=>?_)
 ·refine aa (r1 ?_);cases h;exact sR
 iterate 2 obtain ⟨_,h⟩:=aj h
 refine aE (aa (r7 ?_));refine aa (r7 ?_);refine aa (aa (r3 ?_));refine aC (bN ?_);refine bP (D:=Int×Int×List Int×List Int×Int×Int×Unit) (fun (a,b,c,e,f,g,_)=>⟨look [(5,.int .i64 a),(6,.int .u64 b),(7,.own 24),(25,.ints .u32 e),(26,.int .i64 f),(27,.int .i64 g)],look [(24,dw 151 .u32 c)]⟩) (fun K_ (a,b,c,e,f,g,_)=>P.fD.l0 K_ a b c e f g=some r/\0<=b) ?_ _ (_,_,_,_,_,_,()) ⟨h,nv⟩ (aY _ _ ⟨rfl,rfl,rfl,rfl,rfl,rfl,trivial⟩ ⟨rfl,trivial⟩ rfl);rintro (_ | m9) ih8 ⟨x5,x6,x7,x25,x26,x27,_⟩ ⟨h,b10⟩
 ·nomatch h
 dsimp only at h b10 ⊢;simp only [P.fD.l0] at h;refine bH (aa (r1 ?_));refine aa ?_;refine gk h (fun _ h=>?_) (fun _ h=>?_)
 ·obtain ⟨_,h⟩:=aj h;iterate 6 obtain ⟨_,h⟩:=aj h
  refine aE (aa (aC (aa (r5 ?_))));refine aa (r5 ?_);refine aa (ak ?_);iterate 11 refine o1 ?_
  refine ai (ak ?_);iterate 10 refine o1 ?_
  refine ai (r2 ?_);exact aO (ih8 m9 Q2 (_,_,_,_,_,_,()) ⟨h,nv⟩) ⟨rfl,rfl,rfl,rfl,rfl,rfl,trivial⟩ ⟨rfl,trivial⟩ rfl
 refine bI (aa ?_);refine eQ (dF (k:=24) rfl) ?_;refine ak ?_;refine o1 ?_;obtain ⟨i,d,h⟩:=Q5 h;refine il (cG.v _ _ _ d) ?_;refine o1 ?_;refine ai ?_;cases h;exact sR
instance:FN Tryz.prog 176:=⟨⟨_,Tryz.func176,by decide,by simp [Tryz.f176]⟩⟩
theorem cB.v {pre post:List Int} {e_:TypeId} (k:Nat) (l0 j:List Int) (d:Int) (r:Bool×List Int) (h:P.cB.f k l0 j d=some r):FnW Tryz.prog 176 [.win cd pre.length l0.length,.ints .u32 j,.int .u64 d] (dw e_ .u32 (pre++l0++post)) (.bool r.1) (dw e_ .u32 (pre++r.2++post)):=by
 refine th Tryz.func176 rfl (Qe rfl) rfl ?_;intro X hX;unfold P.cB.f at h;refine aa (r1 ?_);refine aa (r2 ?_);refine aa (aa (r3 ?_));refine aC (bN ?_);refine bP (D:=List Int×List Int×Int×Int×Int×List Int×Int×Int×Unit) (fun (a,b,c,e,f,g,h,i,_)=>⟨look [(0,.win cd pre.length l0.length),(1,.ints .u32 b),(2,.int .u64 c),(7,.int .u64 e),(8,.int .u64 f),(13,.ints .u32 g),(14,.int .i64 h),(15,.int .i64 i)],look [(cd,dw e_ .u32 (pre++a++post))]⟩) (fun K_ (a,b,c,e,f,g,h,i,_)=>P.cB.l0 K_ a b c e f g h i=some r/\a.length=l0.length) ?_ _ (_,_,_,_,_,_,_,_,()) ⟨h,nv⟩ (aY _ _ ⟨rfl,rfl,rfl,rfl,rfl,rfl,rfl,rfl,trivial⟩ ⟨rfl,trivial⟩ rfl);rintro (_ | m3) ih2 ⟨x0,x1,x2,x7,x8,x13,x14,x15,_⟩ ⟨h,b4⟩
 ·nomatch h
 dsimp only at h b4 ⊢;simp only [P.cB.l0] at h;refine bH (aa (r1 ?_));refine aa ?_;refine gk h (fun _ h=>?_) (fun _ h=>?_)
 ·obtain ⟨_,h⟩:=aj h;iterate 2 obtain ⟨_,h⟩:=aj h
  refine aE (aa (aC (aa (r5 ?_))));refine aa (r7 ?_);refine aa (ak ?_);iterate 12 refine o1 ?_
  refine ai (aa (r6 ?_));refine aa (r3 ?_);refine r3 ?_;refine r2 ?_;exact aO (ih2 m3 Q2 (_,_,_,_,_,_,_,_,()) ⟨h,nv⟩) ⟨rfl,rfl,rfl,rfl,rfl,rfl,rfl,rfl,trivial⟩ ⟨rfl,trivial⟩ rfl
 iterate 2 obtain ⟨_,h⟩:=aj h
 refine bI (aa (ak ?_));iterate 11 refine o1 ?_
 refine ai (aa (r7 ?_));refine aa (r4 ?_);obtain rfl:=QF h;exact jl ⟨.inl rfl,.one (.tmp rt) rfl,rfl⟩
theorem cB.len (k:Nat):∀ x0 x1 x2 x7 x8 x13 x14 x15 (r:Bool×List Int),P.cB.l0 k x0 x1 x2 x7 x8 x13 x14 x15=some r->r.2.length=x0.length:=by
 induction k with
 | zero=>intro x0 x1 x2 x7 x8 x13 x14 x15 r h;simp [P.cB.l0] at h
 | succ k ih =>
  intro x0 x1 x2 x7 x8 x13 x14 x15 r h;simp only [P.cB.l0] at h
  repeat' split at h
  all_goals first
   | (cases h;done)
   | (have:=ih _ _ _ _ _ _ _ _ _ h;simpa using this)
   | (cases h;simp)
theorem dg.len {k:Nat} {l:List Int} {a b:Int} {d:List Int} {c:Int} {r:Bool×List Int} (h:P.dg.f k l a b d c=some r) (e:0<=a) (i:a<=b) (g:b<=l.length):r.2.length=l.length:=by
 unfold P.dg.f at h;obtain ⟨p,h3,h4⟩:=Q5 h;obtain rfl:=QF h4;have:=cB.len _ _ _ _ _ _ _ _ _ _ h3;simp only [Qf,Qd,Qq] at this ⊢;omega
theorem dg.v {e_:TypeId} {k:Nat} {l:List Int} {a b:Int} {d:List Int} {c:Int} {r:Bool×List Int} (h:P.dg.f k l a b d c=some r) (e:0<=a) (i:a<=b) (g:b<=l.length):FnW Tryz.prog 176 [.win cd a.toNat (b.toNat-a.toNat),.ints .u32 d,.int .u64 c] (dw e_ .u32 l) (.bool r.1) (dw e_ .u32 r.2):=by
 unfold P.dg.f at h;obtain ⟨p,h3,h4⟩:=Q5 h;obtain rfl:=QF h4;have:=cB.v (pre:=l.take a.toNat) (post:=l.drop b.toNat) (e_:=e_) k _ d c p h3;have e1:l.take a.toNat++(l.take b.toNat).drop a.toNat++l.drop b.toNat=l:=by
  have:l.take a.toNat=(l.take b.toNat).take a.toNat:=by rw [W3,QO Q2]
  rw [this,VY,VY]
 have e2:(l.take a.toNat).length=a.toNat:=by rw [Qd];omega
 have e3:((l.take b.toNat).drop a.toNat).length=b.toNat-a.toNat:=by rw [Qq,Qd];omega
 rw [e1,e2,e3] at this;exact this
instance:FN Tryz.prog 177:=⟨⟨_,Tryz.func177,by decide,by simp [Tryz.f177]⟩⟩
theorem cO.v {pre post:List Int} {e_:TypeId} (k:Nat) (l0 d r:List Int) (h:P.cO.f k l0 d=some r):FnW Tryz.prog 177 [.win cd pre.length l0.length,.ints .u32 d] (dw e_ .u32 (pre++l0++post)) (.tup []) (dw e_ .u32 (pre++r++post)):=by
 refine th Tryz.func177 rfl (Qe rfl) rfl ?_;intro X hX;unfold P.cO.f at h;refine aa (r1 ?_);refine aa (aa (r3 ?_));refine aC (bN ?_);refine bP (D:=List Int×List Int×Int×List Int×Int×Int×Unit) (fun (a,b,c,e,f,g,_)=>⟨look [(0,.win cd pre.length l0.length),(1,.ints .u32 b),(4,.int .u64 c),(7,.ints .u32 e),(8,.int .i64 f),(9,.int .i64 g)],look [(cd,dw e_ .u32 (pre++a++post))]⟩) (fun K_ (a,b,c,e,f,g,_)=>P.cO.l0 K_ a b c e f g=some r/\a.length=l0.length) ?_ _ (_,_,_,_,_,_,()) ⟨h,nv⟩ (aY _ _ ⟨rfl,rfl,rfl,rfl,rfl,rfl,trivial⟩ ⟨rfl,trivial⟩ rfl);rintro (_ | m3) ih2 ⟨x0,x1,x4,x7,x8,x9,_⟩ ⟨h,b4⟩
 ·nomatch h
 dsimp only at h b4 ⊢;simp only [P.cO.l0] at h;refine bH (aa (r1 ?_));refine aa ?_;refine gk h (fun _ h=>?_) (fun _ h=>?_)
 ·obtain ⟨_,h⟩:=aj h;iterate 2 obtain ⟨_,h⟩:=aj h
  refine aE (aa (aC (aa (r5 ?_))));refine aa (ak ?_);iterate 11 refine o1 ?_
  refine ai (aa (r6 ?_));refine r3 ?_;refine r2 ?_;exact aO (ih2 m3 Q2 (_,_,_,_,_,_,()) ⟨h,nv⟩) ⟨rfl,rfl,rfl,rfl,rfl,rfl,trivial⟩ ⟨rfl,trivial⟩ rfl
 iterate 2 obtain ⟨_,h⟩:=aj h
 refine bI (ak ?_);iterate 10 refine o1 ?_
 refine ai ?_;obtain rfl:=QF h;exact ⟨.inr rfl,.zero,rfl⟩
theorem cO.len (k:Nat):∀ x0 x1 x4 x7 x8 x9 (r:List Int),P.cO.l0 k x0 x1 x4 x7 x8 x9=some r->r.length=x0.length:=by
 induction k with
 | zero=>intro x0 x1 x4 x7 x8 x9 r h;simp [P.cO.l0] at h
 | succ k ih =>
  intro x0 x1 x4 x7 x8 x9 r h;simp only [P.cO.l0] at h
  repeat' split at h
  all_goals first
   | (cases h;done)
   | (have:=ih _ _ _ _ _ _ _ h;simpa using this)
   | (cases h;simp)
theorem dO.len {k:Nat} {l:List Int} {a b:Int} {c r:List Int} (h:P.dO.f k l a b c=some r) (d:0<=a) (g:a<=b) (e:b<=l.length):r.length=l.length:=by
 unfold P.dO.f at h;obtain ⟨p,h3,h4⟩:=Q5 h;obtain rfl:=QF h4;have:=cO.len _ _ _ _ _ _ _ _ h3;simp only [Qf,Qd,Qq] at this ⊢;omega
theorem dO.v {e_:TypeId} {k:Nat} {l:List Int} {a b:Int} {c r:List Int} (h:P.dO.f k l a b c=some r) (d:0<=a) (g:a<=b) (e:b<=l.length):FnW Tryz.prog 177 [.win cd a.toNat (b.toNat-a.toNat),.ints .u32 c] (dw e_ .u32 l) (.tup []) (dw e_ .u32 r):=by
 unfold P.dO.f at h;obtain ⟨p,h3,h4⟩:=Q5 h;obtain rfl:=QF h4;have:=cO.v (pre:=l.take a.toNat) (post:=l.drop b.toNat) (e_:=e_) k _ c p h3;have e1:l.take a.toNat++(l.take b.toNat).drop a.toNat++l.drop b.toNat=l:=by
  have:l.take a.toNat=(l.take b.toNat).take a.toNat:=by rw [W3,QO Q2]
  rw [this,VY,VY]
 have e2:(l.take a.toNat).length=a.toNat:=by rw [Qd];omega
 have e3:((l.take b.toNat).drop a.toNat).length=b.toNat-a.toNat:=by rw [Qq,Qd];omega
 rw [e1,e2,e3] at this;exact this
instance:FN Tryz.prog 178:=⟨⟨_,Tryz.func178,by decide,by simp [Tryz.f178]⟩⟩
theorem fq.v (k:Nat) (l0:List Int) (j:Int) (r:List Int) (h:P.fq.f k l0 j=some r):Fn Tryz.prog 178 [.ints .u32 l0,.int .i64 j] (.ints .u32 r):=by
 refine bU Tryz.func178 rfl (Qe rfl) ?_;intro X hX;unfold P.fq.f at h;refine aa (r1 ?_);refine aa (r7 ?_);refine aa (aa (r4 ?_));refine gk h (fun _ h=>?_) (fun _ h=>?_)
 ·refine aa (r1 ?_);cases h;exact sR
 iterate 2 obtain ⟨_,h⟩:=aj h
 replace h:=EY h;refine aE (aa (r6 ?_));refine aa (aa (r3 ?_));refine aC (bN ?_);refine bP (D:=List Int×Int×Int×List Int×Int×Int×Unit) (fun (a,b,c,e,f,g,_)=>⟨look [(0,.ints .u32 a),(5,.int .i64 b),(6,.int .u64 c),(7,.own 23),(25,.int .i64 f),(26,.int .i64 g)],look [(23,dw 151 .u32 e)]⟩) (fun K_ (a,b,c,e,f,g,_)=>P.fq.l0 K_ a b c e f g=some r/\0<=c) ?_ _ (_,_,_,_,_,_,()) ⟨h,nv⟩ (aY _ _ ⟨rfl,rfl,rfl,rfl,rfl,rfl,trivial⟩ ⟨rfl,trivial⟩ rfl);rintro (_ | m9) ih8 ⟨x0,x5,x6,x7,x25,x26,_⟩ ⟨h,b10⟩
 ·nomatch h
 dsimp only at h b10 ⊢;simp only [P.fq.l0] at h;refine bH (aa (r1 ?_));refine aa ?_;refine gk h (fun _ h=>?_) (fun _ h=>?_)
 ·obtain ⟨_,h⟩:=aj h;obtain ⟨_,h⟩:=aj h;refine aE (aa (aC (aa (r2 ?_))));refine aa (r8 ?_);refine aa (aa (r7 ?_));refine gk h (fun _ h=>?_) (fun _ h=>?_)
  ·obtain ⟨_,h⟩:=aj h;iterate 3 obtain ⟨_,h⟩:=aj h
   refine ak ?_;iterate 12 refine o1 ?_
   refine ai (r8 ?_);refine r2 ?_;exact aO (ih8 m9 Q2 (_,_,_,_,_,_,()) ⟨h,nv⟩) ⟨rfl,rfl,rfl,rfl,rfl,rfl,trivial⟩ ⟨rfl,trivial⟩ rfl
  iterate 3 obtain ⟨_,h⟩:=aj h
  refine aE (r8 ?_);refine r2 ?_;exact aO (ih8 m9 Q2 (_,_,_,_,_,_,()) ⟨h,nv⟩) ⟨rfl,rfl,rfl,rfl,rfl,rfl,trivial⟩ ⟨rfl,trivial⟩ rfl
 refine bI (aa ?_);refine eQ (dF (k:=23) rfl) ?_;refine ak ?_;refine o1 ?_;obtain ⟨i,d,h⟩:=Q5 h;refine il (cG.v _ _ _ d) ?_;refine o1 ?_;refine ai ?_;cases h;exact sR
instance:FN Tryz.prog 160:=⟨⟨_,Tryz.func160,by decide,by simp [Tryz.f160]⟩⟩
theorem aJ.v (k:Nat) (l0 l1:List Int) (r:List Int×List Int) (h:P.aJ.f k l0 l1=some r):Fn Tryz.prog 160 [.ints .u32 l0,.ints .u32 l1] (.tup [.ints .u32 r.1,.ints .u32 r.2]):=by
 refine bU Tryz.func160 rfl (Qe rfl) ?_;intro X hX;unfold P.aJ.f at h;refine aa (ak ?_);refine dE rfl (sB 151 .u32 (.inr rfl) rfl rfl (ib hX (by decide))) ?_;refine o1 ?_;refine ai (aa (aa (ak ?_)));iterate 2 refine o1 ?_
 obtain ⟨t1,A,h⟩:=Q5 h;refine il (dX.v _ _ _ _ A) ?_;refine o1 ?_;refine ai ?_;refine gk h (fun _ h=>?_) (fun _ h=>?_)
 ·obtain ⟨_,h⟩:=aj h;refine aa (r4 ?_);cases h;exact Cm
 refine aE (aa (aa (r3 ?_)));refine gk h (fun _ h=>?_) (fun _ h=>?_)
 ·obtain ⟨_,h⟩:=aj h;refine aa (ak ?_);iterate 4 refine o1 ?_
  obtain ⟨Q,x,h⟩:=Q5 h;refine il (dY.v _ _ _ _ x) ?_;iterate 5 refine o1 ?_
  refine ai (aa (ak ?_));iterate 3 refine o1 ?_
  obtain ⟨R,z,h⟩:=Q5 h;refine il (dB.v _ _ _ z) ?_;iterate 2 refine o1 ?_
  refine ai ?_;cases h;exact Cm
 iterate 2 obtain ⟨_,h⟩:=aj h
 refine aE (aa (ak ?_));iterate 6 refine o1 ?_
 obtain ⟨W,y,h⟩:=Q5 h;refine il (bits_LeadingZeros32.v _ _ y) ?_;refine o1 ?_;refine ai (aa (ak ?_));iterate 2 refine o1 ?_
 obtain ⟨N,u,h⟩:=Q5 h;refine il (fD.v _ _ _ _ u) ?_;iterate 2 obtain ⟨_,h⟩:=aj h
 replace h:=EY h;refine o1 ?_;refine ai (aa (r5 ?_));refine aa (ak ?_);iterate 3 refine o1 ?_
 obtain ⟨F,w,h⟩:=Q5 h;refine il (fD.v _ _ _ _ w) ?_;iterate 6 obtain ⟨_,h⟩:=aj h
 refine o1 ?_;refine ai (aa (r3 ?_));refine aa (r6 ?_);refine aa (gw ?_);iterate 14 refine s1 ?_
 refine lI (aa (aa (r6 ?_)));refine aC (bN ?_);refine bP (D:=List Int×Int×List Int×List Int×Int×Int×Int×Int×Unit) (fun (a,b,c,e,f,g,h,i,_)=>⟨look [(4,.own 64),(8,.int .i64 b),(9,.ints .u32 c),(10,.own 52),(11,.int .i64 f),(12,.int .u64 g),(13,.int .u64 h),(14,.int .i64 i)],look [(64,dw 151 .u32 a),(52,dw 151 .u32 e)]⟩) (fun K_ (a,b,c,e,f,g,h,i,_)=>P.aJ.l0 K_ a b c e f g h i=some r) ?_ _ (_,_,_,_,_,_,_,_,()) h (aY _ _ ⟨rfl,rfl,rfl,rfl,rfl,rfl,rfl,rfl,trivial⟩ ⟨rfl,rfl,trivial⟩ rfl);rintro (_ | m35) ih34 ⟨x4,x8,x9,x10,x11,x12,x13,x14,_⟩ h
 ·nomatch h
 dsimp only at h ⊢;simp only [P.aJ.l0] at h;refine bH (aa (aa (r2 ?_)));refine gk h (fun _ h=>?_) (fun _ h=>?_)
 ·obtain ⟨_,h⟩:=aj h;iterate 3 obtain ⟨_,h⟩:=aj h
  obtain ⟨_,h⟩:=jC h;refine aE (aa (aC (aa (gw ?_))));iterate 18 refine s1 ?_
  refine lI (aa (gw ?_));iterate 8 refine s1 ?_
  refine lI (aa (aC (bN ?_)));refine bP (D:=List Int×Int×List Int×List Int×Int×Int×Int×Int×Int×Int×Unit) (fun (a,b,c,e,f,g,h,i,j,k,_)=>⟨look [(4,.own 64),(8,.int .i64 b),(9,.ints .u32 c),(10,.own 52),(11,.int .i64 f),(12,.int .u64 g),(13,.int .u64 h),(14,.int .i64 i),(16,.int .u64 j),(17,.int .u64 k)],look [(64,dw 151 .u32 a),(52,dw 151 .u32 e)]⟩) (fun K_ (a,b,c,e,f,g,h,i,j,k,_)=>P.aJ.l1 K_ a b c e f g h i j k=some r/\K_<=m35) ?_ _ (_,_,_,_,_,_,_,_,_,_,()) ⟨h,Q2⟩ (aY _ _ ⟨rfl,rfl,rfl,rfl,rfl,rfl,rfl,rfl,rfl,rfl,trivial⟩ ⟨rfl,rfl,trivial⟩ rfl);rintro (_ | m45) ih44 ⟨x4,x8,x9,x10,x11,x12,x13,x14,x16,x17,_⟩ ⟨h,b46⟩
  ·nomatch h
  dsimp only at h b46 ⊢;simp only [P.aJ.l1] at h;refine bH (aa (aa ?_));refine iG (D:=Nat×List Int×Int×List Int×List Int×Int×Int×Int×Int×Int×Int×Bool×Unit) (fun (_,b,c,e,f,g,h,i,j,k,l,m,_)=>⟨look [(4,.own 64),(8,.int .i64 c),(9,.ints .u32 e),(10,.own 52),(11,.int .i64 g),(12,.int .u64 h),(13,.int .u64 i),(14,.int .i64 j),(16,.int .u64 k),(17,.int .u64 l),(127,.bool m)],look [(64,dw 151 .u32 b),(52,dw 151 .u32 f)]⟩) (fun (a,b,c,e,f,g,h,i,j,k,l,m,_)=>P.aJ.j2 a b c e f g h i j k l m=some r/\a<=m45) ?_ ?_
  ·skip;rintro ⟨_ | m49,x4,x8,x9,x10,x11,x12,x13,x14,x16,x17,x127,_⟩ ⟨h,b48⟩
   ·nomatch h
   dsimp only at h b48 ⊢;simp only [P.aJ.j2] at h;refine gk h (fun _ h=>?_) (fun _ h=>?_)
   ·refine aE (aC (aa (r3 ?_)));refine aa (r4 ?_);refine aa (r2 ?_);refine gk h (fun _ h=>?_) (fun _ h=>?_)
    ·rcases m49 with _ | m54
     ·exact absurd h (by simp [P.aJ.j3])
     simp only [P.aJ.j3] at h;iterate 3 obtain ⟨_,h⟩:=aj h
     refine bI (aa (aa (ak ?_)));iterate 9 refine o1 ?_
     obtain ⟨G,d,h⟩:=Q5 h;have U:=dg.len d bd bd bd;refine NQ (k:=52) (dg.v d bd bd bd) rfl rfl ?_;refine ai ?_;refine gk h (fun _ h=>?_) (fun _ h=>?_)
     ·refine aa (r3 ?_);refine ak ?_;iterate 8 refine o1 ?_
      obtain ⟨O,n,h⟩:=Q5 h;have I:=dO.len n bd bd bd;refine NQ (k:=52) (dO.v n bd bd bd) rfl rfl ?_;obtain ⟨_,h⟩:=aj h;refine ai (r6 ?_);refine r3 ?_;exact aO (ih34 m54 Q2 (_,_,_,_,_,_,_,_,()) h) ⟨rfl,rfl,rfl,rfl,rfl,rfl,rfl,rfl,trivial⟩ ⟨rfl,rfl,trivial⟩ rfl
     obtain ⟨_,h⟩:=aj h;refine aE (r6 ?_);refine r3 ?_;exact aO (ih34 m54 Q2 (_,_,_,_,_,_,_,_,()) h) ⟨rfl,rfl,rfl,rfl,rfl,rfl,rfl,rfl,trivial⟩ ⟨rfl,rfl,trivial⟩ rfl
    refine aE ?_;exact aO (ih44 m49 Q2 (_,_,_,_,_,_,_,_,_,_,()) ⟨h,Q2⟩) ⟨rfl,rfl,rfl,rfl,rfl,rfl,rfl,rfl,rfl,rfl,trivial⟩ ⟨rfl,rfl,trivial⟩ rfl
   rcases m49 with _ | m74
   ·exact absurd h (by simp [P.aJ.j3])
   simp only [P.aJ.j3] at h;iterate 3 obtain ⟨_,h⟩:=aj h
   refine bI (aa (aa (ak ?_)));iterate 9 refine o1 ?_
   obtain ⟨M,o,h⟩:=Q5 h;have L:=dg.len o bd bd bd;refine NQ (k:=52) (dg.v o bd bd bd) rfl rfl ?_;refine ai ?_;refine gk h (fun _ h=>?_) (fun _ h=>?_)
   ·refine aa (r3 ?_);refine ak ?_;iterate 8 refine o1 ?_
    obtain ⟨V,p,h⟩:=Q5 h;have K:=dO.len p bd bd bd;refine NQ (k:=52) (dO.v p bd bd bd) rfl rfl ?_;obtain ⟨_,h⟩:=aj h;refine ai (r6 ?_);refine r3 ?_;exact aO (ih34 m74 Q2 (_,_,_,_,_,_,_,_,()) h) ⟨rfl,rfl,rfl,rfl,rfl,rfl,rfl,rfl,trivial⟩ ⟨rfl,rfl,trivial⟩ rfl
   obtain ⟨_,h⟩:=aj h;refine aE (r6 ?_);refine r3 ?_;exact aO (ih34 m74 Q2 (_,_,_,_,_,_,_,_,()) h) ⟨rfl,rfl,rfl,rfl,rfl,rfl,rfl,rfl,trivial⟩ ⟨rfl,rfl,trivial⟩ rfl
  skip;refine ak ?_;iterate 3 refine o1 ?_
  refine og rfl rfl rfl rfl (fun hb=>?_) (fun hb=>?_)
  ·obtain ⟨_,h⟩:=tkF h hb;iterate 2 obtain ⟨_,h⟩:=aj h
   iterate 15 refine oT ?_
   refine o1 ?_;refine ai ?_;exact ⟨(m45,_,_,_,_,_,_,_,_,_,_,_,()),⟨h,Q2⟩,aY _ _ ⟨rfl,rfl,rfl,rfl,rfl,rfl,rfl,rfl,rfl,rfl,rfl,trivial⟩ ⟨rfl,rfl,trivial⟩ rfl⟩
  skip;obtain ⟨S,h⟩:=tkT h hb;have J:=hb;clear hb;iterate 15 refine Cn ?_
  refine o1 ?_;refine ai ?_;exact ⟨(m45,_,_,_,_,_,_,_,_,_,_,_,()),⟨h,Q2⟩,aY _ _ ⟨rfl,rfl,rfl,rfl,rfl,rfl,rfl,rfl,rfl,rfl,rfl,trivial⟩ ⟨rfl,rfl,trivial⟩ rfl⟩
 refine bI (aa ?_);refine eQ (dF (k:=64) rfl) ?_;refine eQ (dF (k:=52) rfl) ?_;refine ak ?_;refine o1 ?_;obtain ⟨H,t,h⟩:=Q5 h;refine il (cG.v _ _ _ t) ?_;refine o1 ?_;obtain ⟨C,q,h⟩:=Q5 h;refine il (cG.v _ _ _ q) ?_;refine o1 ?_;obtain ⟨B,s,h⟩:=Q5 h;refine il (fq.v _ _ _ _ s) ?_;iterate 2 refine o1 ?_
 refine ai ?_;cases h;exact Cm
instance:FN Tryz.prog 161:=⟨⟨_,Tryz.func161,by decide,by simp [Tryz.f161]⟩⟩
theorem fg.v (a:List Int) (r:Int×Bool) (h:P.fg.f a=some r):Fn Tryz.prog 161 [.ints .u32 a] (.tup [.int .u64 r.1,.bool r.2]):=by
 refine bU Tryz.func161 rfl (Qe rfl) ?_;intro X hX;unfold P.fg.f at h;refine aa (r2 ?_);refine aa (aa (r2 ?_));refine aC (aa (r2 ?_));refine gk h (fun _ h=>?_) (fun _ h=>?_)
 ·refine aa (r2 ?_);cases h;exact Cm
 refine aa (r2 ?_);refine gk h (fun _ h=>?_) (fun _ h=>?_)
 ·obtain ⟨_,h⟩:=aj h;refine aa (r6 ?_);cases h;exact Cm
 refine aa (r2 ?_);refine gk h (fun _ h=>?_) (fun _ h=>?_)
 ·obtain ⟨_,h⟩:=aj h;obtain ⟨_,h⟩:=aj h;refine aa (gw ?_);iterate 12 refine s1 ?_
  refine lI ?_;cases h;exact Cm
 refine aE (aa (r2 ?_));cases h;exact Cm
instance:FN Tryz.prog 184:=⟨⟨_,Tryz.func184,by decide,by simp [Tryz.f184]⟩⟩
theorem ix.v (b:List Int) (r:Int) (h:P.ix.f b=some r):Fn Tryz.prog 184 [.ints .u32 b] (.int .i64 r):=by
 refine bU Tryz.func184 rfl (Qe rfl) ?_;intro X hX;unfold P.ix.f at h;refine aa (r1 ?_);refine aa (aa (r3 ?_));refine gk h (fun _ h=>?_) (fun _ h=>?_)
 ·refine aa (r1 ?_);cases h;exact sR
 iterate 2 obtain ⟨_,h⟩:=aj h
 refine aE (aa (ak ?_));iterate 9 refine o1 ?_
 obtain ⟨t7,a,h⟩:=Q5 h;refine il (bits_LeadingZeros32.v _ _ a) ?_;iterate 2 refine o1 ?_
 refine ai ?_;cases h;exact sR
instance:FN Tryz.prog 139:=⟨⟨_,Tryz.func139,by decide,by simp [Tryz.f139]⟩⟩
theorem bK.v (k:Nat) (l0 l1 r:List Int) (h:P.bK.f k l0 l1=some r):Fn Tryz.prog 139 [.ints .u32 l0,.ints .u32 l1] (.ints .u32 r):=by
 refine bU Tryz.func139 rfl (Qe rfl) ?_;intro X hX;unfold P.bK.f at h;refine aa (r1 ?_);refine aa (aa ?_);refine iG (D:=Nat×List Int×List Int×Bool×Unit) (fun (_,b,c,e,_)=>⟨look [(0,.ints .u32 b),(1,.ints .u32 c),(18,.bool e)],look []⟩) (fun (a,b,c,e,_)=>P.bK.j0 a b c e=some r/\a<=k) ?_ ?_
 ·skip;rintro ⟨_ | m3,x0,x1,x18,_⟩ ⟨h,b2⟩
  ·nomatch h
  dsimp only at h b2 ⊢;simp only [P.bK.j0] at h;refine gk h (fun _ h=>?_) (fun _ h=>?_)
  ·refine aa (r1 ?_);cases h;exact sR
  iterate 2 obtain ⟨_,h⟩:=aj h
  refine aE (aa (r7 ?_));refine aa (aa (r3 ?_));refine aC (bN ?_);refine bP (D:=List Int×List Int×List Int×Int×Int×Unit) (fun (a,b,c,e,f,_)=>⟨look [(1,.ints .u32 a),(5,.own 24),(25,.ints .u32 c),(26,.int .i64 e),(27,.int .i64 f)],look [(24,dw 151 .u32 b)]⟩) (fun K_ (a,b,c,e,f,_)=>P.bK.l0 K_ a b c e f=some r/\K_<=m3) ?_ _ (_,_,_,_,_,()) ⟨h,Q2⟩ (aY _ _ ⟨rfl,rfl,rfl,rfl,rfl,trivial⟩ ⟨rfl,trivial⟩ rfl);rintro (_ | m12) ih11 ⟨x1,x5,x25,x26,x27,_⟩ ⟨h,b13⟩
  ·nomatch h
  dsimp only at h b13 ⊢;simp only [P.bK.l0] at h;refine bH (aa (r1 ?_));refine aa ?_;refine gk h (fun _ h=>?_) (fun _ h=>?_)
  ·obtain ⟨_,h⟩:=aj h;obtain ⟨_,h⟩:=aj h;refine aE (aa (aC (aa (r5 ?_))));refine aa (r1 ?_);refine aa (aa (r3 ?_));refine aC (bN ?_);refine bP (D:=List Int×List Int×Int×Int×Int×List Int×Int×Int×List Int×Int×Int×Unit) (fun (a,b,c,e,f,g,h,i,j,k,l,_)=>⟨look [(1,.ints .u32 a),(5,.own 24),(6,.int .i64 c),(7,.int .u32 e),(8,.int .u64 f),(25,.ints .u32 g),(26,.int .i64 h),(27,.int .i64 i),(32,.ints .u32 j),(33,.int .i64 k),(34,.int .i64 l)],look [(24,dw 151 .u32 b)]⟩) (fun K_ (a,b,c,e,f,g,h,i,j,k,l,_)=>P.bK.l1 K_ a b c e f g h i j k l=some r/\K_<=m12) ?_ _ (_,_,_,_,_,_,_,_,_,_,_,()) ⟨h,Q2⟩ (aY _ _ ⟨rfl,rfl,rfl,rfl,rfl,rfl,rfl,rfl,rfl,rfl,rfl,trivial⟩ ⟨rfl,trivial⟩ rfl);rintro (_ | m20) ih19 ⟨x1,x5,x6,x7,x8,x25,x26,x27,x32,x33,x34,_⟩ ⟨h,b21⟩
   ·nomatch h
   dsimp only at h b21 ⊢;simp only [P.bK.l1] at h;refine bH (aa (r1 ?_));refine aa ?_;refine gk h (fun _ h=>?_) (fun _ h=>?_)
   ·obtain ⟨_,h⟩:=aj h;iterate 3 obtain ⟨_,h⟩:=aj h
    refine aE (aa (aC (aa (r5 ?_))));refine aa (ak ?_);iterate 16 refine o1 ?_
    refine ai (aa (r8 ?_));refine r3 ?_;refine r2 ?_;exact aO (ih19 m20 Q2 (_,_,_,_,_,_,_,_,_,_,_,()) ⟨h,Q2⟩) ⟨rfl,rfl,rfl,rfl,rfl,rfl,rfl,rfl,rfl,rfl,rfl,trivial⟩ ⟨rfl,trivial⟩ rfl
   iterate 2 obtain ⟨_,h⟩:=aj h
   refine bI (ak ?_);iterate 9 refine o1 ?_
   refine ai (r2 ?_);exact aO (ih11 m20 Q2 (_,_,_,_,_,()) ⟨h,Q2⟩) ⟨rfl,rfl,rfl,rfl,rfl,trivial⟩ ⟨rfl,trivial⟩ rfl
  refine bI (aa ?_);refine eQ (dF (k:=24) rfl) ?_;refine ak ?_;refine o1 ?_;obtain ⟨m,d,h⟩:=Q5 h;refine il (cG.v _ _ _ d) ?_;refine o1 ?_;refine ai ?_;cases h;exact sR
 skip;refine ak ?_;iterate 4 refine o1 ?_
 refine og rfl rfl rfl rfl (fun hb=>?_) (fun hb=>?_)
 ·obtain ⟨_,h⟩:=tkF h hb;iterate 3 refine oT ?_
  refine o1 ?_;refine ai ?_;exact ⟨(k,_,_,_,()),⟨h,Q2⟩,aY _ _ ⟨rfl,rfl,rfl,trivial⟩ trivial rfl⟩
 skip;obtain ⟨n,h⟩:=tkT h hb;have o:=hb;clear hb;iterate 3 refine Cn ?_
 refine o1 ?_;refine ai ?_;exact ⟨(k,_,_,_,()),⟨h,Q2⟩,aY _ _ ⟨rfl,rfl,rfl,trivial⟩ trivial rfl⟩
instance:FN Tryz.prog 142:=⟨⟨_,Tryz.func142,by decide,by simp [Tryz.f142]⟩⟩
theorem dT.v (k:Nat) (l0 j r:List Int) (h:P.dT.f k l0 j=some r):Fn Tryz.prog 142 [.ints .u32 l0,.ints .u32 j] (.ints .u32 r):=by
 refine bU Tryz.func142 rfl (Qe rfl) ?_;intro X hX;unfold P.dT.f at h;iterate 2 obtain ⟨_,h⟩:=aj h
 refine aa (r1 ?_);refine aa (r4 ?_);refine aa (r1 ?_);refine aa (aa (r3 ?_));refine aC (bN ?_);refine bP (D:=List Int×List Int×Int×List Int×Int×Int×Unit) (fun (a,b,c,e,f,g,_)=>⟨look [(1,.ints .u32 a),(5,.own 12),(6,.int .u64 c),(13,.ints .u32 e),(14,.int .i64 f),(15,.int .i64 g)],look [(12,dw 151 .u32 b)]⟩) (fun K_ (a,b,c,e,f,g,_)=>P.dT.l0 K_ a b c e f g=some r) ?_ _ (_,_,_,_,_,_,()) h (aY _ _ ⟨rfl,rfl,rfl,rfl,rfl,rfl,trivial⟩ ⟨rfl,trivial⟩ rfl);rintro (_ | m5) ih4 ⟨x1,x5,x6,x13,x14,x15,_⟩ h
 ·nomatch h
 dsimp only at h ⊢;simp only [P.dT.l0] at h;refine bH (aa (r1 ?_));refine aa ?_;refine gk h (fun _ h=>?_) (fun _ h=>?_)
 ·obtain ⟨_,h⟩:=aj h;obtain ⟨_,h⟩:=aj h;refine aE (aa (aC (aa (r5 ?_))));refine aa (r5 ?_);refine aa (aa (r4 ?_));refine gk h (fun _ h=>?_) (fun _ h=>?_)
  ·obtain ⟨_,h⟩:=aj h;refine r8 ?_;refine aa (r6 ?_);refine r3 ?_;refine r2 ?_;exact aO (ih4 m5 Q2 (_,_,_,_,_,_,()) h) ⟨rfl,rfl,rfl,rfl,rfl,rfl,trivial⟩ ⟨rfl,trivial⟩ rfl
  obtain ⟨_,h⟩:=aj h;refine aE (aa (r6 ?_));refine r3 ?_;refine r2 ?_;exact aO (ih4 m5 Q2 (_,_,_,_,_,_,()) h) ⟨rfl,rfl,rfl,rfl,rfl,rfl,trivial⟩ ⟨rfl,trivial⟩ rfl
 refine bI (aa ?_);refine eQ (dF (k:=12) rfl) ?_;refine ak ?_;refine o1 ?_;obtain ⟨i,d,h⟩:=Q5 h;refine il (cG.v _ _ _ d) ?_;refine o1 ?_;refine ai ?_;cases h;exact sR
instance:FN Tryz.prog 185:=⟨⟨_,Tryz.func185,by decide,by simp [Tryz.f185]⟩⟩
theorem cP.v (k:Nat) (l0 l1:List Int) (a2 a3:Int) (r:List Int) (h:P.cP.f k l0 l1 a2 a3=some r):Fn Tryz.prog 185 [.ints .u32 l0,.ints .u32 l1,.int .i64 a2,.int .i64 a3] (.ints .u32 r):=by
 refine bU Tryz.func185 rfl (Qe rfl) ?_;intro X hX;unfold P.cP.f at h;refine aa (r1 ?_);refine aa (aa ?_);refine iG (D:=Nat×List Int×List Int×Int×Int×Bool×Unit) (fun (_,b,c,e,f,g,_)=>⟨look [(0,.ints .u32 b),(1,.ints .u32 c),(2,.int .i64 e),(3,.int .i64 f),(14,.bool g)],look []⟩) (fun (a,b,c,e,f,g,_)=>P.cP.j0 a b c e f g=some r/\a<=k) ?_ ?_
 ·skip;rintro ⟨_ | m3,x0,x1,x2,x3,x14,_⟩ ⟨h,b2⟩
  ·nomatch h
  dsimp only at h b2 ⊢;simp only [P.cP.j0] at h;refine gk h (fun _ h=>?_) (fun _ h=>?_)
  ·refine aa (ak ?_);iterate 3 refine o1 ?_
   obtain ⟨t6,s,h⟩:=Q5 h;refine il (dB.v _ _ _ s) ?_;obtain ⟨t8,q,h⟩:=Q5 h;refine il (bK.v _ _ _ _ q) ?_;iterate 4 refine o1 ?_
   obtain ⟨C,n,h⟩:=Q5 h;refine il (dB.v _ _ _ n) ?_;obtain ⟨w,l,h⟩:=Q5 h;refine il (bK.v _ _ _ _ l) ?_;obtain ⟨B,i,h⟩:=Q5 h;refine il (dT.v _ _ _ _ i) ?_;refine o1 ?_;refine ai ?_;cases h;exact sR
  refine aE (aa (ak ?_));iterate 3 refine o1 ?_
  obtain ⟨z,j,h⟩:=Q5 h;refine il (dB.v _ _ _ j) ?_;obtain ⟨y,p,h⟩:=Q5 h;refine il (bK.v _ _ _ _ p) ?_;iterate 4 refine o1 ?_
  obtain ⟨t,o,h⟩:=Q5 h;refine il (dB.v _ _ _ o) ?_;obtain ⟨F,d,h⟩:=Q5 h;refine il (bK.v _ _ _ _ d) ?_;obtain ⟨A,m,h⟩:=Q5 h;refine il (dT.v _ _ _ _ m) ?_;refine o1 ?_;refine ai ?_;cases h;exact sR
 skip;refine ak ?_;iterate 3 refine o1 ?_
 refine og rfl rfl rfl rfl (fun hb=>?_) (fun hb=>?_)
 ·obtain ⟨_,h⟩:=tkF h hb;iterate 2 refine oT ?_
  refine o1 ?_;refine ai ?_;exact ⟨(k,_,_,_,_,_,()),⟨h,Q2⟩,aY _ _ ⟨rfl,rfl,rfl,rfl,rfl,trivial⟩ trivial rfl⟩
 skip;obtain ⟨u,h⟩:=tkT h hb;have x:=hb;clear hb;iterate 2 refine Cn ?_
 refine o1 ?_;refine ai ?_;exact ⟨(k,_,_,_,_,_,()),⟨h,Q2⟩,aY _ _ ⟨rfl,rfl,rfl,rfl,rfl,trivial⟩ trivial rfl⟩
instance:FN Tryz.prog 166:=⟨⟨_,Tryz.func166,by decide,by simp [Tryz.f166]⟩⟩
theorem bm.v (k:Nat) (l0 l1:List Int) (r:List Int×List Int×Bool) (h:P.bm.f k l0 l1=some r):Fn Tryz.prog 166 [.ints .u32 l0,.ints .u32 l1] (.tup [.ints .u32 r.1,.ints .u32 r.2.1,.bool r.2.2]):=by
 refine bU Tryz.func166 rfl (Qe rfl) ?_;intro X hX;unfold P.bm.f at h;refine aa (r3 ?_);refine aa (ak ?_);refine o1 ?_;obtain ⟨t1,u,h⟩:=Q5 h;refine il (ix.v _ _ u) ?_;refine o1 ?_;refine ai (aa (aa (ak ?_)));refine o1 ?_;obtain ⟨t3,t,h⟩:=Q5 h;refine il (ix.v _ _ t) ?_;iterate 3 refine o1 ?_
 refine ai ?_;refine gk h (fun _ h=>?_) (fun _ h=>?_)
 ·refine aa (r3 ?_);obtain rfl:=QF h;exact jl ⟨.inl rfl,.three (.tmp rt) (.tmp rt) (.tmp rt) rfl rfl rfl⟩
 refine aE (aa (ak ?_));iterate 3 refine o1 ?_
 obtain ⟨t9,m,h⟩:=Q5 h;refine il (fq.v _ _ _ _ m) ?_;obtain ⟨F,o,h⟩:=Q5 h;refine il (fg.v _ _ o) ?_;iterate 5 refine o1 ?_
 refine ai (aa (ak ?_));iterate 3 refine o1 ?_
 obtain ⟨G,p,h⟩:=Q5 h;refine il (fq.v _ _ _ _ p) ?_;obtain ⟨B,n,h⟩:=Q5 h;refine il (fg.v _ _ n) ?_;iterate 5 refine o1 ?_
 refine ai (aa (r4 ?_));refine aa (r6 ?_);refine aa (aC (bN ?_));refine bP (D:=List Int×List Int×Int×Int×Int×Int×Int×Int×Unit) (fun (a,b,c,e,f,g,h,i,_)=>⟨look [(0,.ints .u32 a),(1,.ints .u32 b),(12,.int .i64 c),(13,.int .i64 e),(14,.int .i64 f),(15,.int .i64 g),(16,.int .i64 h),(17,.int .i64 i)],look []⟩) (fun K_ (a,b,c,e,f,g,h,i,_)=>P.bm.l0 K_ a b c e f g h i=some r) ?_ _ (_,_,_,_,_,_,_,_,()) h (aY _ _ ⟨rfl,rfl,rfl,rfl,rfl,rfl,rfl,rfl,trivial⟩ trivial rfl);rintro (_ | m19) ih18 ⟨x0,x1,x12,x13,x14,x15,x16,x17,_⟩ h
 ·nomatch h
 dsimp only at h ⊢;simp only [P.bm.l0] at h;refine bH (aa (aa ?_));refine iG (D:=Nat×List Int×List Int×Int×Int×Int×Int×Int×Int×Bool×Unit) (fun (_,b,c,e,f,g,h,i,j,k,_)=>⟨look [(0,.ints .u32 b),(1,.ints .u32 c),(12,.int .i64 e),(13,.int .i64 f),(14,.int .i64 g),(15,.int .i64 h),(16,.int .i64 i),(17,.int .i64 j),(55,.bool k)],look []⟩) (fun (a,b,c,e,f,g,h,i,j,k,_)=>P.bm.j1 a b c e f g h i j k=some r/\a<=m19) ?_ ?_
 ·skip;rintro ⟨_ | m22,x0,x1,x12,x13,x14,x15,x16,x17,x55,_⟩ ⟨h,b21⟩
  ·nomatch h
  dsimp only at h b21 ⊢;simp only [P.bm.j1] at h;refine gk h (fun _ h=>?_) (fun _ h=>?_)
  ·obtain ⟨_,h⟩:=jC h;obtain ⟨_,h⟩:=jC h;refine aE (aC (aa (r8 ?_)));refine aa (aa (ak ?_));iterate 9 refine o1 ?_
   refine ai ?_;refine Nu h (fun _ h=>?_) (fun _ h=>?_)
   ·rcases m22 with _ | m29
    ·exact absurd h (by simp [P.bm.j2])
    simp only [P.bm.j2] at h;refine bI (aa (aa (r2 ?_)));refine gk h (fun _ h=>?_) (fun _ h=>?_)
    ·refine aa (r3 ?_);obtain rfl:=QF h;exact jl ⟨.inl rfl,.three (.tmp rt) (.tmp rt) (.tmp rt) rfl rfl rfl⟩
    refine aE (aa (ak ?_));iterate 4 refine o1 ?_
    obtain ⟨C,q,h⟩:=Q5 h;refine il (cP.v _ _ _ _ _ _ q) ?_;iterate 4 refine o1 ?_
    obtain ⟨A,l,h⟩:=Q5 h;refine il (cP.v _ _ _ _ _ _ l) ?_;iterate 3 refine o1 ?_
    refine ai ?_;obtain rfl:=QF h;exact jl ⟨.inl rfl,.three (.tmp rt) (.tmp rt) (.tmp rt) rfl rfl rfl⟩
   refine aE (aa (r8 ?_));refine aa (r8 ?_);refine r8 ?_;exact aO (ih18 m22 Q2 (_,_,_,_,_,_,_,_,()) h) ⟨rfl,rfl,rfl,rfl,rfl,rfl,rfl,rfl,trivial⟩ trivial rfl
  rcases m22 with _ | m42
  ·exact absurd h (by simp [P.bm.j2])
  simp only [P.bm.j2] at h;refine bI (aa (aa (r2 ?_)));refine gk h (fun _ h=>?_) (fun _ h=>?_)
  ·refine aa (r3 ?_);obtain rfl:=QF h;exact jl ⟨.inl rfl,.three (.tmp rt) (.tmp rt) (.tmp rt) rfl rfl rfl⟩
  refine aE (aa (ak ?_));iterate 4 refine o1 ?_
  obtain ⟨x,d,h⟩:=Q5 h;refine il (cP.v _ _ _ _ _ _ d) ?_;iterate 4 refine o1 ?_
  obtain ⟨y,s,h⟩:=Q5 h;refine il (cP.v _ _ _ _ _ _ s) ?_;iterate 3 refine o1 ?_
  refine ai ?_;obtain rfl:=QF h;exact jl ⟨.inl rfl,.three (.tmp rt) (.tmp rt) (.tmp rt) rfl rfl rfl⟩
 skip;refine ak ?_;iterate 5 refine o1 ?_
 refine og rfl rfl rfl rfl (fun hb=>?_) (fun hb=>?_)
 ·obtain ⟨_,h⟩:=tkF h hb;iterate 4 refine oT ?_
  refine o1 ?_;refine ai ?_;exact ⟨(m19,_,_,_,_,_,_,_,_,_,()),⟨h,Q2⟩,aY _ _ ⟨rfl,rfl,rfl,rfl,rfl,rfl,rfl,rfl,rfl,trivial⟩ trivial rfl⟩
 skip;obtain ⟨z,h⟩:=tkT h hb;have w:=hb;clear hb;iterate 4 refine Cn ?_
 refine o1 ?_;refine ai ?_;exact ⟨(m19,_,_,_,_,_,_,_,_,_,()),⟨h,Q2⟩,aY _ _ ⟨rfl,rfl,rfl,rfl,rfl,rfl,rfl,rfl,rfl,trivial⟩ trivial rfl⟩
instance:FN Tryz.prog 129:=⟨⟨_,Tryz.func129,by decide,by simp [Tryz.f129]⟩⟩
theorem cw.v (k:Nat) (l0 l1 r:List Int) (h:P.cw.f k l0 l1=some r):Fn Tryz.prog 129 [.ints .u32 l0,.ints .u32 l1] (.ints .u32 r):=by
 refine bU Tryz.func129 rfl (Qe rfl) ?_;intro X hX;unfold P.cw.f at h;refine aa (r1 ?_);refine aa (aa (ak ?_));iterate 2 refine o1 ?_
 obtain ⟨t1,n,h⟩:=Q5 h;refine il (dX.v _ _ _ _ n) ?_;refine o1 ?_;refine ai ?_;refine iG (D:=Nat×List Int×List Int×Unit) (fun d=>⟨look [(0,.ints .u32 d.2.1),(1,.ints .u32 d.2.2.1)],look []⟩) (fun (a,b,c,_)=>P.cw.j0 a b c=some r/\a<=k) ?_ ?_
 ·skip;rintro ⟨_ | m5,x0,x1,_⟩ ⟨h,b4⟩
  ·nomatch h
  dsimp only at h b4 ⊢;simp only [P.cw.j0] at h;refine aa (aC (bN ?_));refine bP (D:=List Int×List Int×Unit) (fun d=>⟨look [(0,.ints .u32 d.1),(1,.ints .u32 d.2.1)],look []⟩) (fun K_ d=>P.cw.l0 K_ d.1 d.2.1=some r/\K_<=m5) ?_ _ (_,_,()) ⟨h,Q2⟩ (aY _ _ ⟨rfl,rfl,trivial⟩ trivial rfl);rintro (_ | m8) ih7 ⟨x0,x1,_⟩ ⟨h,b9⟩
  ·nomatch h
  dsimp only at h b9 ⊢;simp only [P.cw.l0] at h;refine bH (aa (aa (r3 ?_)));refine gk h (fun _ h=>?_) (fun _ h=>?_)
  ·refine aE (aC (aa (aa (ak ?_))));iterate 2 refine o1 ?_
   obtain ⟨q,j,h⟩:=Q5 h;refine il (bm.v _ _ _ _ j) ?_;iterate 7 refine o1 ?_
   refine ai (aa (r1 ?_));refine gk h (fun _ h=>?_) (fun _ h=>?_)
   ·refine aa (r4 ?_);refine bI ?_;exact aO (ih7 m8 Q2 (_,_,()) ⟨h,Q2⟩) ⟨rfl,rfl,trivial⟩ trivial rfl
   refine aE (aa (ak ?_));iterate 2 refine o1 ?_
   obtain ⟨u,g,h⟩:=Q5 h;refine il (aJ.v _ _ _ _ g) ?_;iterate 5 refine o1 ?_
   refine ai (r4 ?_);exact aO (ih7 m8 Q2 (_,_,()) ⟨h,Q2⟩) ⟨rfl,rfl,trivial⟩ trivial rfl
  refine bI (aa (aa (r3 ?_)));refine gk h (fun _ h=>?_) (fun _ h=>?_)
  ·obtain ⟨_,h⟩:=aj h;refine aa (r3 ?_);cases h;exact sR
  refine aE (aa (ak ?_));iterate 2 refine o1 ?_
  obtain ⟨s,e,h⟩:=Q5 h;refine il (aJ.v _ _ _ _ e) ?_;iterate 5 refine o1 ?_
  refine ai (aa (ak ?_));refine o1 ?_;obtain ⟨t,l,h⟩:=Q5 h;refine il (fg.v _ _ l) ?_;iterate 5 refine o1 ?_
  refine ai (aa (ak ?_));refine o1 ?_;obtain ⟨o,m,h⟩:=Q5 h;refine il (fg.v _ _ m) ?_;iterate 5 refine o1 ?_
  refine ai (aa (aC (bN ?_)));refine bP (D:=Int×Int×Unit) (fun d=>⟨look [(12,.int .u64 d.1),(14,.int .u64 d.2.1)],look []⟩) (fun K_ d=>P.cw.l1 K_ d.1 d.2.1=some r/\K_<=m8) ?_ _ (_,_,()) ⟨h,Q2⟩ (aY _ _ ⟨rfl,rfl,trivial⟩ trivial rfl);rintro (_ | m35) ih34 ⟨x12,x14,_⟩ ⟨h,b36⟩
  ·nomatch h
  dsimp only at h b36 ⊢;simp only [P.cw.l1] at h;refine bH (aa (aa (r2 ?_)));refine Nu h (fun _ h=>?_) (fun _ h=>?_)
  ·refine aE (aC (gw ?_));iterate 6 refine s1 ?_
   refine lI ?_;exact aO (ih34 m35 Q2 (_,_,()) ⟨h,Q2⟩) ⟨rfl,rfl,trivial⟩ trivial rfl
  refine bI (aa (ak ?_));refine o1 ?_;obtain ⟨p,i,h⟩:=Q5 h;refine il (dB.v _ _ _ i) ?_;refine o1 ?_;refine ai ?_;cases h;exact sR
 skip;refine gk h (fun _ h=>?_) (fun _ h=>?_)
 ·refine r4 ?_;exact ⟨(k,_,_,()),⟨h,Q2⟩,aY _ _ ⟨rfl,rfl,trivial⟩ trivial rfl⟩
 refine aE ?_;exact ⟨(k,_,_,()),⟨h,Q2⟩,aY _ _ ⟨rfl,rfl,trivial⟩ trivial rfl⟩
instance:FN Tryz.prog 158:=⟨⟨_,Tryz.func158,by decide,by simp [Tryz.f158]⟩⟩
theorem ke.v (b:List Int) (r:Bool) (h:P.ke.f b=some r):Fn Tryz.prog 158 [.ints .u32 b] (.bool r):=by
 refine bU Tryz.func158 rfl (Qe rfl) ?_;intro X hX;unfold P.ke.f at h;refine aa (r1 ?_);refine aa (ak ?_);iterate 4 refine o1 ?_
 refine og rfl rfl rfl rfl (fun hb=>?_) (fun hb=>?_)
 ·obtain ⟨_,h⟩:=tkT h hb;iterate 4 refine oT ?_
  refine og rfl rfl rfl rfl (fun hb=>?_) (fun hb=>?_)
  ·obtain ⟨_,h⟩:=tkF h hb;iterate 2 obtain ⟨_,h⟩:=aj h
   iterate 8 refine oT ?_
   iterate 2 refine o1 ?_
   refine ai ?_;cases h;exact sR
  skip;obtain ⟨c7,h⟩:=tkT h hb;have g8:=hb;clear hb;iterate 7 refine Cn ?_
  refine oT ?_;iterate 2 refine o1 ?_
  refine ai ?_;cases h;exact sR
 skip;obtain ⟨c9,h⟩:=tkF h hb;have a:=hb;clear hb;iterate 4 refine Cn ?_
 iterate 7 refine opU ?_
 refine Cn ?_;iterate 2 refine o1 ?_
 refine ai ?_;cases h;exact sR
instance:FN Tryz.prog 162:=⟨⟨_,Tryz.func162,by decide,by simp [Tryz.f162]⟩⟩
theorem cU.o (k:Nat) (m l:Int) (r:List Int) (h:P.cU.f k m l=some r):FnO Tryz.prog 162 [.int .u64 m,.int .i64 l] (dw 5 .u8 r):=by
 refine yD Tryz.func162 rfl (Qe rfl) rfl ?_;intro X hX;unfold P.cU.f at h;refine aa (ak ?_);refine o1 ?_;refine ai (aa (ak ?_));refine dE rfl (sB 5 .u8 (.inr rfl) rfl rfl (ib hX (by decide))) ?_;refine ai (aa (aC (bN ?_)));refine bP (D:=Int×Int×List Int×Unit) (fun (a,b,c,_)=>⟨look [(0,.int .u64 a),(1,.int .i64 b),(5,.own 5)],look [(5,dw 5 .u8 c)]⟩) (fun K_ (a,b,c,_)=>P.cU.l0 K_ a b c=some r) ?_ _ (_,_,_,()) h (aY _ _ ⟨rfl,rfl,rfl,trivial⟩ ⟨rfl,trivial⟩ rfl);rintro (_ | m3) ih2 ⟨x0,x1,x5,_⟩ h
 ·nomatch h
 dsimp only at h ⊢;simp only [P.cU.l0] at h;refine bH (aa (aa (ak ?_)));iterate 3 refine o1 ?_
 refine og rfl rfl rfl rfl (fun hb=>?_) (fun hb=>?_)
 ·obtain ⟨_,h⟩:=tkF h hb;iterate 4 refine oT ?_
  refine o1 ?_;refine ai ?_;refine iV rfl (fun hb=>?_) (fun hb=>?_)
  ·obtain ⟨_,h⟩:=tkT h hb;obtain ⟨_,h⟩:=aj h;refine aE (aC (aa (ak ?_)));iterate 8 refine o1 ?_
   refine ai (ak ?_);iterate 3 refine o1 ?_
   refine ai ?_;exact aO (ih2 m3 Q2 (_,_,_,()) h) ⟨rfl,rfl,rfl,trivial⟩ ⟨rfl,trivial⟩ rfl
  skip;obtain ⟨c9,h⟩:=tkF h hb;have i:=hb;clear hb;refine bI (aa (aa (ak ?_)));iterate 5 refine o1 ?_
  refine ai (aC (bN ?_));refine bP (D:=List Int×Int×Int×Unit) (fun (a,b,c,_)=>⟨look [(5,.own 5),(6,.int .i64 b),(7,.int .i64 c)],look [(5,dw 5 .u8 a)]⟩) (fun K_ (a,b,c,_)=>P.cU.l1 K_ a b c=some r/\K_<=m3) ?_ _ (_,_,_,()) ⟨h,Q2⟩ (aY _ _ ⟨rfl,rfl,rfl,trivial⟩ ⟨rfl,trivial⟩ rfl);rintro (_ | m13) ih12 ⟨x5,x6,x7,_⟩ ⟨h,b14⟩
  ·nomatch h
  dsimp only at h b14 ⊢;simp only [P.cU.l1] at h;refine bH (aa (aa (ak ?_)));iterate 3 refine o1 ?_
  refine ai ?_;refine iV rfl (fun hb=>?_) (fun hb=>?_)
  ·obtain ⟨_,h⟩:=tkT h hb;iterate 4 obtain ⟨_,h⟩:=aj h
   refine aE (aa (aC ?_));refine FI [m4 [5] [] [35] [],m4 [6] [] [36] [],m4 [5] [] [37] [],m4 [7] [] [38] [],m4 [5] [] [39] [],m4 [7] [] [40] [],m4 [39,40] [5] [41] [],m4 [41] [5] [42] [],m4 [5] [] [43] [],m4 [6] [] [44] [],m4 [43,44] [5] [45] [],m4 [45] [5] [46] [],m4 [35,36] [5] [47] [],m4 [47,42] [5] [] [5],m4 [37,38] [5] [48] [],m4 [48,46] [5] [] [5]] [[],[],[],[],[],[],[4,5],[4,5,6],[],[],[8,9],[8,9,10],[0,1,4,5,6,7,8,9,10,11],[0,1,4,5,6,7,8,9,10,11,12],[0,1,2,3,4,5,6,7,8,9,10,11,12,13],[0,1,2,3,4,5,6,7,8,9,10,11,12,13,14]] ?_;refine dG [(5,_)] [] [(35,_)] [] ⟨rfl,trivial⟩ trivial (fun S0=>bG rfl rfl ow rfl) ?_;refine dG [(6,_)] [] [(36,_)] [] ⟨rfl,trivial⟩ trivial (fun S0=>bG rfl rfl ow rfl) ?_;refine dG [(5,_)] [] [(37,_)] [] ⟨rfl,trivial⟩ trivial (fun S0=>bG rfl rfl ow rfl) ?_;refine dG [(7,_)] [] [(38,_)] [] ⟨rfl,trivial⟩ trivial (fun S0=>bG rfl rfl ow rfl) ?_;refine dG [(5,_)] [] [(39,_)] [] ⟨rfl,trivial⟩ trivial (fun S0=>bG rfl rfl ow rfl) ?_;refine dG [(7,_)] [] [(40,_)] [] ⟨rfl,trivial⟩ trivial (fun S0=>bG rfl rfl ow rfl) ?_;refine dG [(39,_),(40,_)] [(5,_)] [(41,_)] [] ⟨rfl,rfl,trivial⟩ ⟨rfl,trivial⟩ (fun S0=>bG rfl rfl ow rfl) ?_;refine dG [(41,_)] [(5,_)] [(42,_)] [] ⟨rfl,trivial⟩ ⟨rfl,trivial⟩ (fun S0=>bG rfl rfl ow rfl) ?_;refine dG [(5,_)] [] [(43,_)] [] ⟨rfl,trivial⟩ trivial (fun S0=>bG rfl rfl ow rfl) ?_;refine dG [(6,_)] [] [(44,_)] [] ⟨rfl,trivial⟩ trivial (fun S0=>bG rfl rfl ow rfl) ?_;refine dG [(43,_),(44,_)] [(5,_)] [(45,_)] [] ⟨rfl,rfl,trivial⟩ ⟨rfl,trivial⟩ (fun S0=>bG rfl rfl ow rfl) ?_;refine dG [(45,_)] [(5,_)] [(46,_)] [] ⟨rfl,trivial⟩ ⟨rfl,trivial⟩ (fun S0=>bG rfl rfl ow rfl) ?_;refine dG [(35,_),(36,_)] [(5,_)] [(47,_)] [] ⟨rfl,rfl,trivial⟩ ⟨rfl,trivial⟩ (fun S0=>bG rfl rfl ow rfl) ?_;refine dG [(47,_),(42,_)] [(5,_)] [] [(5,_)] ⟨rfl,rfl,trivial⟩ ⟨rfl,trivial⟩ (fun S0=>bG rfl rfl ow rfl) ?_;refine dG [(37,_),(38,_)] [(5,_)] [(48,_)] [] ⟨rfl,rfl,trivial⟩ ⟨rfl,trivial⟩ (fun S0=>bG rfl rfl ow rfl) ?_;refine dG [(48,_),(46,_)] [(5,_)] [] [(5,_)] ⟨rfl,rfl,trivial⟩ ⟨rfl,trivial⟩ (fun S0=>bG rfl rfl ow rfl) ?_;refine dn ?_;refine ak ?_;iterate 6 refine o1 ?_
   refine ai ?_;exact aO (ih12 m13 Q2 (_,_,_,()) ⟨h,Q2⟩) ⟨rfl,rfl,rfl,trivial⟩ ⟨rfl,trivial⟩ rfl
  skip;obtain ⟨j,h⟩:=tkF h hb;have e:=hb;clear hb;refine bI (aa (ak ?_));iterate 2 refine o1 ?_
  refine ai ?_;obtain rfl:=QF h;exact jl ⟨.inl rfl,5,by decide,rfl,rfl⟩
 skip;obtain ⟨d,h⟩:=tkT h hb;have g:=hb;clear hb;obtain ⟨_,h⟩:=aj h;iterate 4 refine Cn ?_
 refine o1 ?_;refine ai ?_;refine iV rfl (fun hb=>?_) (fun hb=>?_)
 ·skip;refine aE (aC (aa (ak ?_)));iterate 8 refine o1 ?_
  refine ai (ak ?_);iterate 3 refine o1 ?_
  refine ai ?_;exact aO (ih2 m3 Q2 (_,_,_,()) h) ⟨rfl,rfl,rfl,trivial⟩ ⟨rfl,trivial⟩ rfl
 skip
 first | cases hb | (simp_all;done)
theorem cU.v (k:Nat) (b a:Int) (r:List Int) (h:P.cU.f k b a=some r):Fn Tryz.prog 162 [.int .u64 b,.int .i64 a] (.ints .u8 r):= JV (cU.o k b a r h)
instance:FN Tryz.prog 121:=⟨⟨_,Tryz.func121,by decide,by simp [Tryz.f121]⟩⟩
theorem fL.v (k:Nat) (l0:List Int) (r:ByteArray×Int) (h:P.fL.f k l0=some r):Fn Tryz.prog 121 [.ints .u32 l0] (.tup [.str r.1,.int .i64 r.2]):=by
 refine bU Tryz.func121 rfl (Qe rfl) ?_;intro X hX;unfold P.fL.f at h;refine aa (r2 ?_);refine aa (aa (ak ?_));refine o1 ?_;obtain ⟨t1,l,h⟩:=Q5 h;refine il (ke.v _ _ l) ?_;refine o1 ?_;refine ai ?_;refine Nu h (fun _ h=>?_) (fun _ h=>?_)
 ·refine aa (r2 ?_);cases h;exact Cm
 refine aE (aa (aa (r3 ?_)));refine gk h (fun _ h=>?_) (fun _ h=>?_)
 ·refine aa (r2 ?_);cases h;exact Cm
 refine aE (aa (ak ?_));refine dE rfl (sB 175 .u64 (.inr rfl) rfl rfl (ib hX (by decide))) ?_;refine ai (aa (aa (ak ?_)));obtain ⟨n,g,h⟩:=Q5 h;refine il (dB.v _ _ _ g) ?_;refine o1 ?_;refine ai (aC (bN ?_));refine bP (D:=List Int×List Int×List Int×Unit) (fun (a,b,c,_)=>⟨look [(0,.ints .u32 a),(4,.own 4),(5,.ints .u32 c)],look [(4,dw 175 .u64 b)]⟩) (fun K_ (a,b,c,_)=>P.fL.l0 K_ a b c=some r) ?_ _ (_,_,_,()) h (aY _ _ ⟨rfl,rfl,rfl,trivial⟩ ⟨rfl,trivial⟩ rfl);rintro (_ | m15) ih14 ⟨x0,x4,x5,_⟩ h
 ·nomatch h
 dsimp only at h ⊢;simp only [P.fL.l0] at h;refine bH (aa (aa (r3 ?_)));refine gk h (fun _ h=>?_) (fun _ h=>?_)
 ·refine aE (aC (aa (ak ?_)));iterate 2 refine o1 ?_
  obtain ⟨s,e,h⟩:=Q5 h;refine il (aJ.v _ _ _ _ e) ?_;iterate 5 refine o1 ?_
  refine ai (aa (ak ?_));refine o1 ?_;obtain ⟨p,i,h⟩:=Q5 h;refine il (fg.v _ _ i) ?_;obtain ⟨_,h⟩:=aj h;iterate 5 refine o1 ?_
  refine ai (aa (r5 ?_));refine r2 ?_;exact aO (ih14 m15 Q2 (_,_,_,()) h) ⟨rfl,rfl,rfl,trivial⟩ ⟨rfl,trivial⟩ rfl
 iterate 2 obtain ⟨_,h⟩:=aj h
 refine bI (aa (ak ?_));iterate 6 refine o1 ?_
 obtain ⟨q,d,h⟩:=Q5 h;refine opCO (cU.o _ _ _ _ d) ?_;refine o1 ?_;refine ai (aa (aa (r4 ?_)));refine aC (bN ?_);refine bP (D:=List Int×List Int×Int×Unit) (fun (a,b,c,_)=>⟨look [(4,.own 4),(10,.own 45),(11,.int .i64 c)],look [(4,dw 175 .u64 a),(45,dw 5 .u8 b)]⟩) (fun K_ (a,b,c,_)=>P.fL.l1 K_ a b c=some r/\K_<=m15) ?_ _ (_,_,_,()) ⟨h,Q2⟩ (aY _ _ ⟨rfl,rfl,rfl,trivial⟩ ⟨rfl,rfl,trivial⟩ rfl);rintro (_ | m31) ih30 ⟨x4,x10,x11,_⟩ ⟨h,b32⟩
 ·nomatch h
 dsimp only at h b32 ⊢;simp only [P.fL.l1] at h;refine bH (aa (aa (r2 ?_)));refine gk h (fun _ h=>?_) (fun _ h=>?_)
 ·obtain ⟨_,h⟩:=aj h;iterate 2 obtain ⟨_,h⟩:=aj h
  refine aE (aa (aC (aa (r2 ?_))));refine aa (ak ?_);iterate 5 refine o1 ?_
  obtain ⟨m,j,h⟩:=Q5 h;refine il (cU.v _ _ _ _ j) ?_;replace h:=EY h;obtain ⟨_,h⟩:=aj h;refine o1 ?_;refine ai ?_;refine eQ (dF (k:=53) rfl) ?_;refine r4 ?_;refine r3 ?_;exact aO (ih30 m31 Q2 (_,_,_,()) ⟨h,Q2⟩) ⟨rfl,rfl,rfl,trivial⟩ ⟨rfl,rfl,trivial⟩ rfl
 refine bI (aa (r4 ?_));cases h;exact Cm
instance:FN Tryz.prog 192:=⟨⟨_,Tryz.func192,by decide,by simp [Tryz.f192]⟩⟩
instance:FN Tryz.prog 141:=⟨⟨_,Tryz.func141,by decide,by simp [Tryz.f141]⟩⟩
theorem dM.v (k:Nat) (l0 l r:List Int) (h:P.dM.f k l0 l=some r):Fn Tryz.prog 141 [.ints .u32 l0,.ints .u32 l] (.ints .u32 r):=by
 refine bU Tryz.func141 rfl (Qe rfl) ?_;intro X hX;unfold P.dM.f at h;refine aa (r1 ?_);refine aa (aa (r5 ?_));refine iG (D:=Nat×List Int×List Int×Unit) (fun d=>⟨look [(0,.ints .u32 d.2.1),(1,.ints .u32 d.2.2.1)],look []⟩) (fun (a,b,c,_)=>P.dM.j0 a b c=some r/\a<=k) ?_ ?_
 ·skip;rintro ⟨_ | m3,x0,x1,_⟩ ⟨h,b2⟩
  ·nomatch h
  dsimp only at h b2 ⊢;simp only [P.dM.j0] at h;iterate 2 obtain ⟨_,h⟩:=aj h
  refine aa (r5 ?_);refine aa (r1 ?_);refine aa (aa (r3 ?_));refine aC (bN ?_);refine bP (D:=List Int×List Int×List Int×Int×List Int×Int×Int×Unit) (fun (a,b,c,e,f,g,h,_)=>⟨look [(0,.ints .u32 a),(1,.ints .u32 b),(5,.own 19),(6,.int .u64 e),(20,.ints .u32 f),(21,.int .i64 g),(22,.int .i64 h)],look [(19,dw 151 .u32 c)]⟩) (fun K_ (a,b,c,e,f,g,h,_)=>P.dM.l0 K_ a b c e f g h=some r/\K_<=m3) ?_ _ (_,_,_,_,_,_,_,()) ⟨h,Q2⟩ (aY _ _ ⟨rfl,rfl,rfl,rfl,rfl,rfl,rfl,trivial⟩ ⟨rfl,trivial⟩ rfl);rintro (_ | m8) ih7 ⟨x0,x1,x5,x6,x20,x21,x22,_⟩ ⟨h,b9⟩
  ·nomatch h
  dsimp only at h b9 ⊢;simp only [P.dM.l0] at h;refine bH (aa (r1 ?_));refine aa ?_;refine gk h (fun _ h=>?_) (fun _ h=>?_)
  ·obtain ⟨_,h⟩:=aj h;obtain ⟨_,h⟩:=aj h;refine aE (aa (aC (aa (r5 ?_))));refine aa (r5 ?_);refine aa (aa (r4 ?_));refine gk h (fun _ h=>?_) (fun _ h=>?_)
   ·obtain ⟨_,h⟩:=aj h;refine r8 ?_;refine aa (r6 ?_);refine r3 ?_;refine r2 ?_;exact aO (ih7 m8 Q2 (_,_,_,_,_,_,_,()) ⟨h,Q2⟩) ⟨rfl,rfl,rfl,rfl,rfl,rfl,rfl,trivial⟩ ⟨rfl,trivial⟩ rfl
   obtain ⟨_,h⟩:=aj h;refine aE (aa (r6 ?_));refine r3 ?_;refine r2 ?_;exact aO (ih7 m8 Q2 (_,_,_,_,_,_,_,()) ⟨h,Q2⟩) ⟨rfl,rfl,rfl,rfl,rfl,rfl,rfl,trivial⟩ ⟨rfl,trivial⟩ rfl
  iterate 2 obtain ⟨_,h⟩:=aj h
  refine bI (aa (r7 ?_));refine aa ?_;refine eQ (dF (k:=19) rfl) ?_;refine ak ?_;refine o1 ?_;obtain ⟨j,i,h⟩:=Q5 h;refine il (cG.v _ _ _ i) ?_;refine o1 ?_;refine ai ?_;cases h;exact sR
 skip;refine gk h (fun _ h=>?_) (fun _ h=>?_)
 ·refine r4 ?_;exact ⟨(k,_,_,()),⟨h,Q2⟩,aY _ _ ⟨rfl,rfl,trivial⟩ trivial rfl⟩
 refine aE ?_;exact ⟨(k,_,_,()),⟨h,Q2⟩,aY _ _ ⟨rfl,rfl,trivial⟩ trivial rfl⟩
instance:FN Tryz.prog 199:=⟨⟨_,Tryz.func199,by decide,by simp [Tryz.f199]⟩⟩
instance:FN Tryz.prog 146:=⟨⟨_,Tryz.func146,by decide,by simp [Tryz.f146]⟩⟩
theorem aT.v (k:Nat) (l0 r:List Int) (h:P.aT.f k l0=some r):Fn Tryz.prog 146 [.ints .i64 l0] (.ints .i64 r):=by
 refine bU Tryz.func146 rfl (Qe rfl) ?_;intro X hX;unfold P.aT.f at h;refine aa (r1 ?_);refine aa (r3 ?_);refine aa (aC (bN ?_));refine bP (D:=List Int×Int×Unit) (fun d=>⟨look [(0,.ints .i64 d.1),(3,.int .i64 d.2.1)],look []⟩) (fun K_ d=>P.aT.l0 K_ d.1 d.2.1=some r) ?_ _ (_,_,()) h (aY _ _ ⟨rfl,rfl,trivial⟩ trivial rfl);rintro (_ | m3) ih2 ⟨x0,x3,_⟩ h
 ·nomatch h
 dsimp only at h ⊢;simp only [P.aT.l0] at h;refine bH (aa (aa (ak ?_)));iterate 3 refine o1 ?_
 refine og rfl rfl rfl rfl (fun hb=>?_) (fun hb=>?_)
 ·obtain ⟨_,h⟩:=tkT h hb;iterate 2 obtain ⟨_,h⟩:=aj h
  iterate 6 refine oT ?_
  refine o1 ?_;refine ai ?_;refine gk h (fun _ h=>?_) (fun _ h=>?_)
  ·refine aE (aC (r3 ?_));exact aO (ih2 m3 Q2 (_,_,()) h) ⟨rfl,rfl,trivial⟩ trivial rfl
  iterate 2 obtain ⟨_,h⟩:=aj h
  refine bI (aa (r4 ?_));cases h;exact sR
 skip;obtain ⟨b,h⟩:=tkF h hb;have a:=hb;clear hb;iterate 2 obtain ⟨_,h⟩:=aj h
 iterate 6 refine Cn ?_
 refine o1 ?_;refine ai ?_;refine iV rfl (fun hb=>?_) (fun hb=>?_)
 ·skip
  first | cases hb | (simp_all;done)
 skip;refine bI (aa (r4 ?_));cases h;exact sR
instance:FN Tryz.prog 156:=⟨⟨_,Tryz.func156,by decide,by simp [Tryz.f156]⟩⟩
theorem bw.v (k:Nat) (l0:List Int) (i:Int) (r:List Int×Int) (h:P.bw.f k l0 i=some r):Fn Tryz.prog 156 [.ints .i64 l0,.int .i64 i] (.tup [.ints .i64 r.1,.int .i64 r.2]):=by
 refine bU Tryz.func156 rfl (Qe rfl) ?_;intro X hX;unfold P.bw.f at h;iterate 2 obtain ⟨_,h⟩:=aj h
 refine aa (r2 ?_);refine aa (r4 ?_);refine aa (r1 ?_);refine aa (aa (r4 ?_));refine aC (bN ?_);refine bP (D:=List Int×Int×List Int×Int×Int×Unit) (fun (a,b,c,e,f,_)=>⟨look [(0,.ints .i64 a),(1,.int .i64 b),(6,.own 11),(7,.int .i64 e),(8,.int .i64 f)],look [(11,dw 3 .i64 c)]⟩) (fun K_ (a,b,c,e,f,_)=>P.bw.l0 K_ a b c e f=some r) ?_ _ (_,_,_,_,_,()) h (aY _ _ ⟨rfl,rfl,rfl,rfl,rfl,trivial⟩ ⟨rfl,trivial⟩ rfl);rintro (_ | m5) ih4 ⟨x0,x1,x6,x7,x8,_⟩ h
 ·nomatch h
 dsimp only at h ⊢;simp only [P.bw.l0] at h;refine bH (aa (aa (r2 ?_)));refine gk h (fun _ h=>?_) (fun _ h=>?_)
 ·obtain ⟨_,h⟩:=aj h;obtain ⟨_,h⟩:=aj h;obtain ⟨_,h⟩:=jC h;obtain ⟨_,h⟩:=aj h;refine aE (aa (aC (aa (r8 ?_))));refine aa (r7 ?_);refine r4 ?_;refine r3 ?_;exact aO (ih4 m5 Q2 (_,_,_,_,_,()) h) ⟨rfl,rfl,rfl,rfl,rfl,trivial⟩ ⟨rfl,trivial⟩ rfl
 refine bI (aa ?_);refine eQ (dF (k:=11) rfl) ?_;refine ak ?_;refine o1 ?_;obtain ⟨g,d,h⟩:=Q5 h;refine il (aT.v _ _ _ d) ?_;iterate 3 refine o1 ?_
 refine ai ?_;cases h;exact Cm
instance:FN Tryz.prog 118:=⟨⟨_,Tryz.func118,by decide,by simp [Tryz.f118]⟩⟩
theorem aF.v (k:Nat) (l0 r:List Int) (h:P.aF.f k l0=some r):Fn Tryz.prog 118 [.ints .i64 l0] (.ints .u32 r):=by
 refine bU Tryz.func118 rfl (Qe rfl) ?_;intro X hX;unfold P.aF.f at h;refine aa (ak ?_);refine o1 ?_;refine ai (aa (ak ?_));refine dE rfl (sB 3 .i64 (.inr rfl) rfl rfl (ib hX (by decide))) ?_;refine ai (aa (aC (bN ?_)));refine bP (D:=List Int×List Int×Unit) (fun d=>⟨look [(0,.ints .i64 d.1),(3,.own 3)],look [(3,dw 3 .i64 d.2.1)]⟩) (fun K_ d=>P.aF.l0 K_ d.1 d.2.1=some r) ?_ _ (_,_,()) h (aY _ _ ⟨rfl,rfl,trivial⟩ ⟨rfl,trivial⟩ rfl);rintro (_ | m3) ih2 ⟨x0,x3,_⟩ h
 ·nomatch h
 dsimp only at h ⊢;simp only [P.aF.l0] at h;refine bH (aa (aa (r3 ?_)));refine gk h (fun _ h=>?_) (fun _ h=>?_)
 ·refine aE (aC (aa (ak ?_)));refine o1 ?_;obtain ⟨t6,e,h⟩:=Q5 h;refine il (bw.v _ _ _ _ e) ?_;obtain ⟨_,h⟩:=aj h;iterate 5 refine o1 ?_
  refine ai (aa (r5 ?_));refine r2 ?_;exact aO (ih2 m3 Q2 (_,_,()) h) ⟨rfl,rfl,trivial⟩ ⟨rfl,trivial⟩ rfl
 refine bI (aa (ak ?_));refine dE rfl (sB 151 .u32 (.inr rfl) rfl rfl (ib hX (by decide))) ?_;refine ai (aa (aa (r1 ?_)));refine aC (bN ?_);refine bP (D:=List Int×List Int×Int×Unit) (fun (a,b,c,_)=>⟨look [(3,.own 3),(6,.own 6),(7,.int .i64 c)],look [(3,dw 3 .i64 a),(6,dw 151 .u32 b)]⟩) (fun K_ (a,b,c,_)=>P.aF.l1 K_ a b c=some r/\K_<=m3) ?_ _ (_,_,_,()) ⟨h,Q2⟩ (aY _ _ ⟨rfl,rfl,rfl,trivial⟩ ⟨rfl,rfl,trivial⟩ rfl);rintro (_ | m13) ih12 ⟨x3,x6,x7,_⟩ ⟨h,b14⟩
 ·nomatch h
 dsimp only at h b14 ⊢;simp only [P.aF.l1] at h;refine bH (aa (aa (r4 ?_)));refine gk h (fun _ h=>?_) (fun _ h=>?_)
 ·obtain ⟨_,h⟩:=aj h;refine aE (aa (aC (aa (r6 ?_))));refine aa (aa (r5 ?_));refine gk h (fun _ h=>?_) (fun _ h=>?_)
  ·obtain ⟨_,h⟩:=aj h;obtain ⟨_,h⟩:=aj h;refine ak ?_;iterate 10 refine o1 ?_
   refine ai (r5 ?_);refine r3 ?_;exact aO (ih12 m13 Q2 (_,_,_,()) ⟨h,Q2⟩) ⟨rfl,rfl,rfl,trivial⟩ ⟨rfl,rfl,trivial⟩ rfl
  obtain ⟨_,h⟩:=aj h;refine aE (r5 ?_);refine r3 ?_;exact aO (ih12 m13 Q2 (_,_,_,()) ⟨h,Q2⟩) ⟨rfl,rfl,rfl,trivial⟩ ⟨rfl,rfl,trivial⟩ rfl
 refine bI (aa (r2 ?_));refine eQ (dF (k:=6) rfl) ?_;cases h;exact sR
instance:FN Tryz.prog 134:=⟨⟨_,Tryz.func134,by decide,by simp [Tryz.f134]⟩⟩
theorem aw.v (k:Nat) (l0:List Int) (m l:Int) (r:List Int) (h:P.aw.f k l0 m l=some r):Fn Tryz.prog 134 [.ints .i64 l0,.int .i64 m,.int .i64 l] (.ints .i64 r):=by
 refine bU Tryz.func134 rfl (Qe rfl) ?_;intro X hX;unfold P.aw.f at h;iterate 2 obtain ⟨_,h⟩:=aj h
 refine aa (r1 ?_);refine aa (r5 ?_);refine aa (aa (r3 ?_));refine aC (bN ?_);refine bP (D:=Int×Int×List Int×List Int×Int×Int×Unit) (fun (a,b,c,e,f,g,_)=>⟨look [(1,.int .i64 a),(2,.int .i64 b),(7,.own 13),(14,.ints .i64 e),(15,.int .i64 f),(16,.int .i64 g)],look [(13,dw 3 .i64 c)]⟩) (fun K_ (a,b,c,e,f,g,_)=>P.aw.l0 K_ a b c e f g=some r) ?_ _ (_,_,_,_,_,_,()) h (aY _ _ ⟨rfl,rfl,rfl,rfl,rfl,rfl,trivial⟩ ⟨rfl,trivial⟩ rfl);rintro (_ | m5) ih4 ⟨x1,x2,x7,x14,x15,x16,_⟩ h
 ·nomatch h
 dsimp only at h ⊢;simp only [P.aw.l0] at h;refine bH (aa (r1 ?_));refine aa ?_;refine gk h (fun _ h=>?_) (fun _ h=>?_)
 ·obtain ⟨_,h⟩:=aj h;iterate 2 obtain ⟨_,h⟩:=aj h
  refine aE (aa (aC (aa (r3 ?_))));iterate 2 refine aa (r6 ?_)
  refine r3 ?_;refine r2 ?_;exact aO (ih4 m5 Q2 (_,_,_,_,_,_,()) h) ⟨rfl,rfl,rfl,rfl,rfl,rfl,trivial⟩ ⟨rfl,trivial⟩ rfl
 refine bI (aa (aC (bN ?_)));refine bP (D:=Int×List Int×Unit) (fun d=>⟨look [(2,.int .i64 d.1),(7,.own 13)],look [(13,dw 3 .i64 d.2.1)]⟩) (fun K_ d=>P.aw.l1 K_ d.1 d.2.1=some r/\K_<=m5) ?_ _ (_,_,()) ⟨h,Q2⟩ (aY _ _ ⟨rfl,rfl,trivial⟩ ⟨rfl,trivial⟩ rfl);rintro (_ | m15) ih14 ⟨x2,x7,_⟩ ⟨h,b16⟩
 ·nomatch h
 dsimp only at h b16 ⊢;simp only [P.aw.l1] at h;refine bH (aa (aa (r2 ?_)));refine gk h (fun _ h=>?_) (fun _ h=>?_)
 ·obtain ⟨_,h⟩:=aj h;refine aE (aC (aa (r6 ?_)));refine r3 ?_;exact aO (ih14 m15 Q2 (_,_,()) ⟨h,Q2⟩) ⟨rfl,rfl,trivial⟩ ⟨rfl,trivial⟩ rfl
 refine bI (aa ?_);refine eQ (dF (k:=13) rfl) ?_;refine ak ?_;refine o1 ?_;obtain ⟨j,i,h⟩:=Q5 h;refine il (aT.v _ _ _ i) ?_;refine o1 ?_;refine ai ?_;cases h;exact sR
instance:FN Tryz.prog 98:=⟨⟨_,Tryz.func98,by decide,by simp [Tryz.f98]⟩⟩
theorem aM.v (k:Nat) (l0 d:List Int) (r:Int) (h:P.aM.f k l0 d=some r):Fn Tryz.prog 98 [.ints .i64 l0,.ints .i64 d] (.int .i64 r):=by
 refine bU Tryz.func98 rfl (Qe rfl) ?_;intro X hX;unfold P.aM.f at h;refine aa (r1 ?_);refine aa (aa (r5 ?_));refine Nu h (fun _ h=>?_) (fun _ h=>?_)
 ·refine aa (aa (r5 ?_));refine gk h (fun _ h=>?_) (fun _ h=>?_)
  ·refine aa (r1 ?_);cases h;exact sR
  refine aE (aa (r1 ?_));cases h;exact sR
 refine aE (aa (aa (r4 ?_)));refine aC (bN ?_);refine bP (D:=List Int×List Int×Int×Unit) (fun (a,b,c,_)=>⟨look [(0,.ints .i64 a),(1,.ints .i64 b),(5,.int .i64 c)],look []⟩) (fun K_ (a,b,c,_)=>P.aM.l0 K_ a b c=some r) ?_ _ (_,_,_,()) h (aY _ _ ⟨rfl,rfl,rfl,trivial⟩ trivial rfl);rintro (_ | m11) ih10 ⟨x0,x1,x5,_⟩ h
 ·nomatch h
 dsimp only at h ⊢;simp only [P.aM.l0] at h;refine bH (aa (aa (r2 ?_)));refine gk h (fun _ h=>?_) (fun _ h=>?_)
 ·obtain ⟨_,h⟩:=aj h;iterate 2 obtain ⟨_,h⟩:=aj h
  refine aE (aa (aC (aa (gw ?_))));iterate 9 refine s1 ?_
  refine lI ?_;refine Nu h (fun _ h=>?_) (fun _ h=>?_)
  ·refine aa (aa (gw ?_));iterate 9 refine s1 ?_
   refine lI ?_;refine gk h (fun _ h=>?_) (fun _ h=>?_)
   ·refine aa (r1 ?_);cases h;exact sR
   refine aE (aa (r1 ?_));cases h;exact sR
  refine aE (r3 ?_);exact aO (ih10 m11 Q2 (_,_,_,()) h) ⟨rfl,rfl,rfl,trivial⟩ trivial rfl
 refine bI (aa (r1 ?_));cases h;exact sR
instance:FN Tryz.prog 132:=⟨⟨_,Tryz.func132,by decide,by simp [Tryz.f132]⟩⟩
theorem bS.v (b:List Int) (r:Bool) (h:P.bS.f b=some r):Fn Tryz.prog 132 [.ints .u32 b] (.bool r):=by
 refine bU Tryz.func132 rfl (Qe rfl) ?_;intro X hX;unfold P.bS.f at h;refine aa (r1 ?_);refine aa (ak ?_);iterate 4 refine o1 ?_
 refine og rfl rfl rfl rfl (fun hb=>?_) (fun hb=>?_)
 ·obtain ⟨_,h⟩:=tkT h hb;iterate 4 refine oT ?_
  refine og rfl rfl rfl rfl (fun hb=>?_) (fun hb=>?_)
  ·obtain ⟨_,h⟩:=tkF h hb;iterate 2 obtain ⟨_,h⟩:=aj h
   iterate 8 refine oT ?_
   iterate 2 refine o1 ?_
   refine ai ?_;cases h;exact sR
  skip;obtain ⟨c7,h⟩:=tkT h hb;have g8:=hb;clear hb;iterate 7 refine Cn ?_
  refine oT ?_;iterate 2 refine o1 ?_
  refine ai ?_;cases h;exact sR
 skip;obtain ⟨c9,h⟩:=tkF h hb;have a:=hb;clear hb;iterate 4 refine Cn ?_
 iterate 7 refine opU ?_
 refine Cn ?_;iterate 2 refine o1 ?_
 refine ai ?_;cases h;exact sR
instance:FN Tryz.prog 119:=⟨⟨_,Tryz.func119,by decide,by simp [Tryz.f119]⟩⟩
theorem aK.v (k:Nat) (a:Int) (r:List Int) (h:P.aK.f k a=some r):Fn Tryz.prog 119 [.int .i64 a] (.ints .i64 r):=by
 refine bU Tryz.func119 rfl (Qe rfl) ?_;intro X hX;unfold P.aK.f at h;refine aa (r1 ?_);refine aa (ak ?_);refine dE rfl (Hl rfl rfl rfl (ib hX (by decide))) ?_;refine o1 ?_;refine ai (aa (aC (bN ?_)));refine bP (D:=Int×List Int×Unit) (fun d=>⟨look [(0,.int .i64 d.1),(3,.own 4)],look [(4,dw 3 .i64 d.2.1)]⟩) (fun K_ d=>P.aK.l0 K_ d.1 d.2.1=some r) ?_ _ (_,_,()) h (aY _ _ ⟨rfl,rfl,trivial⟩ ⟨rfl,trivial⟩ rfl);rintro (_ | m3) ih2 ⟨x0,x3,_⟩ h
 ·nomatch h
 dsimp only at h ⊢;simp only [P.aK.l0] at h;refine bH (aa (aa (r2 ?_)));refine gk h (fun _ h=>?_) (fun _ h=>?_)
 ·obtain ⟨_,h⟩:=aj h;refine aE (aC (aa (r6 ?_)));refine r3 ?_;exact aO (ih2 m3 Q2 (_,_,()) h) ⟨rfl,rfl,trivial⟩ ⟨rfl,trivial⟩ rfl
 refine bI (aa (r2 ?_));refine eQ (dF (k:=4) rfl) ?_;cases h;exact sR
instance:FN Tryz.prog 148:=⟨⟨_,Tryz.func148,by decide,by simp [Tryz.f148]⟩⟩
theorem dI.o (a r:List Int) (h:P.dI.f a=some r):FnO Tryz.prog 148 [.ints .i64 a] (dw 3 .i64 r):=by
 unfold P.dI.f at h;replace h:=EY h;obtain ⟨_,h⟩:=aj h;obtain rfl:=QF h;refine yD Tryz.func148 rfl (Qe rfl) rfl ?_;intro X hX;refine aa (ak (o1 (ai ?_)));refine aa (aa (ak (o1 (Lz rfl rfl UL.h rfl (ib hX (by decide)) (fun b hb=>ai (iV rfl (fun c=>?_) (fun c=>?_)))))))
 ·obtain rfl:a=[]:=QY (hb c).1;refine aa (ak ?_);refine dE rfl (sB 3 .i64 (.inr rfl) rfl rfl (ib hX (by decide))) ?_;refine ai (jl ⟨.inl rfl,2,by decide,rfl,rfl⟩)
 refine aE (aa (ak ?_));refine dE rfl (Hl rfl rfl rfl (ib hX (by decide))) ?_;refine o1 ?_;refine dE rfl (Er rfl rfl rfl rfl UL.h IF.h rfl rfl rfl rfl bl bl (by decide) (ib hX (by decide))) ?_;refine o1 ?_;refine ai (jl ⟨.inl rfl,5,by decide,rfl,rfl⟩)
instance:FN Tryz.prog 99:=⟨⟨_,Tryz.func99,by decide,by simp [Tryz.f99]⟩⟩
theorem aQ.v (k:Nat) (l0 j r:List Int) (h:P.aQ.f k l0 j=some r):Fn Tryz.prog 99 [.ints .i64 l0,.ints .i64 j] (.ints .i64 r):=by
 refine bU Tryz.func99 rfl (Qe rfl) ?_;intro X hX;unfold P.aQ.f at h;refine aa (r1 ?_);refine aa (ak ?_);refine o1 ?_;obtain ⟨t1,g,h⟩:=Q5 h;refine opCO (dI.o _ _ g) ?_;refine o1 ?_;refine ai (aa (r1 ?_));refine aa (aa (r3 ?_));refine aC (bN ?_);refine bP (D:=List Int×List Int×Int×Int×Int×Unit) (fun (a,b,c,e,f,_)=>⟨look [(1,.ints .i64 a),(5,.own 10),(6,.int .i64 c),(12,.int .i64 e),(13,.int .i64 f)],look [(10,dw 3 .i64 b)]⟩) (fun K_ (a,b,c,e,f,_)=>P.aQ.l0 K_ a b c e f=some r) ?_ _ (_,_,_,_,_,()) h (aY _ _ ⟨rfl,rfl,rfl,rfl,rfl,trivial⟩ ⟨rfl,trivial⟩ rfl);rintro (_ | m5) ih4 ⟨x1,x5,x6,x12,x13,_⟩ h
 ·nomatch h
 dsimp only at h ⊢;simp only [P.aQ.l0] at h;refine bH (aa (r1 ?_));refine aa ?_;refine gk h (fun _ h=>?_) (fun _ h=>?_)
 ·obtain ⟨_,h⟩:=aj h;obtain ⟨_,h⟩:=aj h;refine aE (aa (aC (aa (r2 ?_))));refine aa (r7 ?_);refine aa (aa (r4 ?_));refine gk h (fun _ h=>?_) (fun _ h=>?_)
  ·refine r7 ?_;refine aa (r1 ?_);refine aa (aa (r2 ?_));refine gk h (fun _ h=>?_) (fun _ h=>?_)
   ·refine aa (r3 ?_);refine r1 ?_;refine r5 ?_;refine r2 ?_;exact aO (ih4 m5 Q2 (_,_,_,_,_,()) h) ⟨rfl,rfl,rfl,rfl,rfl,trivial⟩ ⟨rfl,trivial⟩ rfl
   refine aE (r5 ?_);refine r2 ?_;exact aO (ih4 m5 Q2 (_,_,_,_,_,()) h) ⟨rfl,rfl,rfl,rfl,rfl,trivial⟩ ⟨rfl,trivial⟩ rfl
  refine aE (aa (r1 ?_));refine aa (aa (r2 ?_));refine gk h (fun _ h=>?_) (fun _ h=>?_)
  ·refine aa (r3 ?_);refine r1 ?_;refine r5 ?_;refine r2 ?_;exact aO (ih4 m5 Q2 (_,_,_,_,_,()) h) ⟨rfl,rfl,rfl,rfl,rfl,trivial⟩ ⟨rfl,trivial⟩ rfl
  refine aE (r5 ?_);refine r2 ?_;exact aO (ih4 m5 Q2 (_,_,_,_,_,()) h) ⟨rfl,rfl,rfl,rfl,rfl,trivial⟩ ⟨rfl,trivial⟩ rfl
 refine bI (aa ?_);refine eQ (dF (k:=10) rfl) ?_;refine ak ?_;refine o1 ?_;obtain ⟨i,d,h⟩:=Q5 h;refine il (aT.v _ _ _ d) ?_;refine o1 ?_;refine ai ?_;cases h;exact sR
instance:FN Tryz.prog 168:=⟨⟨_,Tryz.func168,by decide,by simp [Tryz.f168]⟩⟩
theorem aR.v (k:Nat) (l0:List Int) (r:Int×Bool) (h:P.aR.f k l0=some r):Fn Tryz.prog 168 [.ints .i64 l0] (.tup [.int .i64 r.1,.bool r.2]):=by
 refine bU Tryz.func168 rfl (Qe rfl) ?_;intro X hX;unfold P.aR.f at h;refine aa (r2 ?_);refine aa (aa (r3 ?_));refine gk h (fun _ h=>?_) (fun _ h=>?_)
 ·refine aa (r2 ?_);cases h;exact Cm
 refine aE (aa (r1 ?_));refine aa (aa (r4 ?_));refine aC (bN ?_);refine bP (D:=List Int×Int×Int×Unit) (fun (a,b,c,_)=>⟨look [(0,.ints .i64 a),(4,.int .i64 b),(5,.int .i64 c)],look []⟩) (fun K_ (a,b,c,_)=>P.aR.l0 K_ a b c=some r) ?_ _ (_,_,_,()) h (aY _ _ ⟨rfl,rfl,rfl,trivial⟩ trivial rfl);rintro (_ | m7) ih6 ⟨x0,x4,x5,_⟩ h
 ·nomatch h
 dsimp only at h ⊢;simp only [P.aR.l0] at h;refine bH (aa (aa (r2 ?_)));refine gk h (fun _ h=>?_) (fun _ h=>?_)
 ·obtain ⟨_,h⟩:=aj h;obtain ⟨_,h⟩:=aj h;refine aE (aa (aC (r8 ?_)));refine r3 ?_;exact aO (ih6 m7 Q2 (_,_,_,()) h) ⟨rfl,rfl,rfl,trivial⟩ trivial rfl
 refine bI (aa (r3 ?_));cases h;exact Cm
instance:FN Tryz.prog 170:=⟨⟨_,Tryz.func170,by decide,by simp [Tryz.f170]⟩⟩
theorem an.v (k:Nat) (l0 l1:List Int) (r:Int) (h:P.an.f k l0 l1=some r):Fn Tryz.prog 170 [.ints .i64 l0,.ints .i64 l1] (.int .i64 r):=by
 refine bU Tryz.func170 rfl (Qe rfl) ?_;intro X hX;unfold P.an.f at h;refine aa (r1 ?_);refine aa (r3 ?_);refine aa (r2 ?_);refine aa (aa (r2 ?_));refine aC (bN ?_);refine bP (D:=List Int×List Int×Int×Int×Int×Int×Unit) (fun (a,b,c,e,f,g,_)=>⟨look [(0,.ints .i64 a),(1,.ints .i64 b),(5,.int .i64 c),(6,.int .i64 e),(7,.int .i64 f),(8,.int .i64 g)],look []⟩) (fun K_ (a,b,c,e,f,g,_)=>P.an.l0 K_ a b c e f g=some r) ?_ _ (_,_,_,_,_,_,()) h (aY _ _ ⟨rfl,rfl,rfl,rfl,rfl,rfl,trivial⟩ trivial rfl);rintro (_ | m3) ih2 ⟨x0,x1,x5,x6,x7,x8,_⟩ h
 ·nomatch h
 dsimp only at h ⊢;simp only [P.an.l0] at h;refine bH (aa (aa (r5 ?_)));refine gk h (fun _ h=>?_) (fun _ h=>?_)
 ·refine aE (aa (aC (aa (r3 ?_))));refine aa (r4 ?_);refine gk h (fun _ h=>?_) (fun _ h=>?_)
  ·obtain ⟨_,h⟩:=aj h;refine r7 ?_;refine r3 ?_;exact aO (ih2 m3 Q2 (_,_,_,_,_,_,()) h) ⟨rfl,rfl,rfl,rfl,rfl,rfl,trivial⟩ trivial rfl
  refine aE (r3 ?_);exact aO (ih2 m3 Q2 (_,_,_,_,_,_,()) h) ⟨rfl,rfl,rfl,rfl,rfl,rfl,trivial⟩ trivial rfl
 refine bI (aa (aa (r3 ?_)));refine aC (bN ?_);refine bP (D:=List Int×List Int×Int×Int×Int×Int×Unit) (fun (a,b,c,e,f,g,_)=>⟨look [(0,.ints .i64 a),(1,.ints .i64 b),(5,.int .i64 c),(6,.int .i64 e),(7,.int .i64 f),(9,.int .i64 g)],look []⟩) (fun K_ (a,b,c,e,f,g,_)=>P.an.l1 K_ a b c e f g=some r/\K_<=m3) ?_ _ (_,_,_,_,_,_,()) ⟨h,Q2⟩ (aY _ _ ⟨rfl,rfl,rfl,rfl,rfl,rfl,trivial⟩ trivial rfl);rintro (_ | m15) ih14 ⟨x0,x1,x5,x6,x7,x9,_⟩ ⟨h,b16⟩
 ·nomatch h
 dsimp only at h b16 ⊢;simp only [P.an.l1] at h;refine bH (aa (aa (r5 ?_)));refine gk h (fun _ h=>?_) (fun _ h=>?_)
 ·obtain ⟨_,h⟩:=aj h;obtain ⟨_,h⟩:=aj h;refine aE (aa (aC (r8 ?_)));refine r3 ?_;exact aO (ih14 m15 Q2 (_,_,_,_,_,_,()) ⟨h,Q2⟩) ⟨rfl,rfl,rfl,rfl,rfl,rfl,trivial⟩ trivial rfl
 refine bI (aa (aa (r2 ?_)));refine iG (D:=Nat×List Int×List Int×Int×Int×Unit) (fun (_,b,c,e,f,_)=>⟨look [(0,.ints .i64 b),(1,.ints .i64 c),(6,.int .i64 e),(7,.int .i64 f)],look []⟩) (fun (a,b,c,e,f,_)=>P.an.j2 a b c e f=some r/\a<=m15) ?_ ?_
 ·skip;rintro ⟨_ | m25,x0,x1,x6,x7,_⟩ ⟨h,b24⟩
  ·nomatch h
  dsimp only at h b24 ⊢;simp only [P.an.j2] at h;obtain ⟨_,h⟩:=jC h;refine aa (r5 ?_);refine aa (aC (bN ?_));refine bP (D:=List Int×List Int×Int×Unit) (fun (a,b,c,_)=>⟨look [(0,.ints .i64 a),(1,.ints .i64 b),(10,.int .i64 c)],look []⟩) (fun K_ (a,b,c,_)=>P.an.l2 K_ a b c=some r/\K_<=m25) ?_ _ (_,_,_,()) ⟨h,Q2⟩ (aY _ _ ⟨rfl,rfl,rfl,trivial⟩ trivial rfl);rintro (_ | m29) ih28 ⟨x0,x1,x10,_⟩ ⟨h,b30⟩
  ·nomatch h
  dsimp only at h b30 ⊢;simp only [P.an.l2] at h;refine bH (aa (aa (ak ?_)));iterate 2 refine o1 ?_
  obtain ⟨m,l,h⟩:=Q5 h;refine il (aw.v _ _ _ _ _ l) ?_;refine o1 ?_;obtain ⟨o,j,h⟩:=Q5 h;refine il (aM.v _ _ _ _ j) ?_;refine o1 ?_;refine ai ?_;refine gk h (fun _ h=>?_) (fun _ h=>?_)
  ·refine aE (aC (r3 ?_));exact aO (ih28 m29 Q2 (_,_,_,()) ⟨h,Q2⟩) ⟨rfl,rfl,rfl,trivial⟩ trivial rfl
  refine bI (aa (aC (bN ?_)));refine bP (D:=List Int×List Int×Int×Unit) (fun (a,b,c,_)=>⟨look [(0,.ints .i64 a),(1,.ints .i64 b),(10,.int .i64 c)],look []⟩) (fun K_ (a,b,c,_)=>P.an.l3 K_ a b c=some r/\K_<=m29) ?_ _ (_,_,_,()) ⟨h,Q2⟩ (aY _ _ ⟨rfl,rfl,rfl,trivial⟩ trivial rfl);rintro (_ | m41) ih40 ⟨x0,x1,x10,_⟩ ⟨h,b42⟩
  ·nomatch h
  dsimp only at h b42 ⊢;simp only [P.an.l3] at h;refine bH (aa (aa (ak ?_)));iterate 4 refine o1 ?_
  refine og rfl rfl rfl rfl (fun hb=>?_) (fun hb=>?_)
  ·obtain ⟨_,h⟩:=tkT h hb;iterate 3 refine oT ?_
   obtain ⟨p,i,h⟩:=Q5 h;refine opCT (aw.v _ _ _ _ _ i) ?_;refine oT ?_;obtain ⟨q,d,h⟩:=Q5 h;refine opCT (aM.v _ _ _ _ d) ?_;refine oT ?_;refine o1 ?_;refine ai ?_;refine gk h (fun _ h=>?_) (fun _ h=>?_)
   ·refine aE (aC (r3 ?_));exact aO (ih40 m41 Q2 (_,_,_,()) ⟨h,Q2⟩) ⟨rfl,rfl,rfl,trivial⟩ trivial rfl
   refine bI (aa (r2 ?_));cases h;exact sR
  skip;obtain ⟨s,h⟩:=tkF h hb;have n:=hb;clear hb;iterate 7 refine Cn ?_
  refine o1 ?_;refine ai ?_;refine iV rfl (fun hb=>?_) (fun hb=>?_)
  ·skip
   first | cases hb | (simp_all;done)
  skip;refine bI (aa (r2 ?_));cases h;exact sR
 skip;refine gk h (fun _ h=>?_) (fun _ h=>?_)
 ·obtain ⟨_,h⟩:=aj h;refine r4 ?_;exact ⟨(m15,_,_,_,_,()),⟨h,Q2⟩,aY _ _ ⟨rfl,rfl,rfl,rfl,trivial⟩ trivial rfl⟩
 refine aE ?_;exact ⟨(m15,_,_,_,_,()),⟨h,Q2⟩,aY _ _ ⟨rfl,rfl,rfl,rfl,trivial⟩ trivial rfl⟩
instance:FN Tryz.prog 147:=⟨⟨_,Tryz.func147,by decide,by simp [Tryz.f147]⟩⟩
theorem aG.v (k:Nat) (l0 l1:List Int) (r:List Int×List Int) (h:P.aG.f k l0 l1=some r):Fn Tryz.prog 147 [.ints .i64 l0,.ints .i64 l1] (.tup [.ints .i64 r.1,.ints .i64 r.2]):=by
 refine bU Tryz.func147 rfl (Qe rfl) ?_;intro X hX;unfold P.aG.f at h;refine aa (r2 ?_);refine aa (aa (ak ?_));iterate 2 refine o1 ?_
 obtain ⟨t1,t,h⟩:=Q5 h;refine il (aM.v _ _ _ _ t) ?_;refine o1 ?_;refine ai ?_;refine gk h (fun _ h=>?_) (fun _ h=>?_)
 ·refine aa (r4 ?_);cases h;exact Cm
 refine aE (aa (aa (ak ?_)));refine o1 ?_;obtain ⟨t7,u,h⟩:=Q5 h;refine il (aR.v _ _ _ u) ?_;iterate 5 refine o1 ?_
 refine ai (aa (r1 ?_));refine gk h (fun _ h=>?_) (fun _ h=>?_)
 ·refine aa (ak ?_);refine o1 ?_;obtain ⟨F,p,h⟩:=Q5 h;refine il (aR.v _ _ _ p) ?_;obtain ⟨_,h⟩:=jC h;iterate 5 refine o1 ?_
  refine ai (aa ?_);refine FI [m4 [6] [] [32] [],m4 [8] [] [33] [],m4 [32,33] [] [34] [],m4 [34] [] [35] [],m4 [6] [] [36] [],m4 [8] [] [37] [],m4 [36,37] [] [38] [],m4 [38] [] [39] [],m4 [35] [] [4] [],m4 [39] [] [5] []] [[],[],[0,1],[0,1,2],[],[],[4,5],[0,1,2,3,4,5,6],[0,1,2,3,4,5,6,7],[0,1,2,3,4,5,6,7,8]] ?_;refine dG [(6,_)] [] [(32,_)] [] ⟨rfl,trivial⟩ trivial (fun S0=>bG rfl rfl ow rfl) ?_;refine dG [(8,_)] [] [(33,_)] [] ⟨rfl,trivial⟩ trivial (fun S0=>bG rfl rfl ow rfl) ?_;refine dG [(32,_),(33,_)] [] [(34,_)] [] ⟨rfl,rfl,trivial⟩ trivial (fun S0=>bG rfl rfl ow rfl) ?_;obtain ⟨B,g,h⟩:=Q5 h;refine dG [(34,_)] [] [(35,_)] [] ⟨rfl,trivial⟩ trivial (fun S0=>bG rfl rfl (oc (aK.v _ _ _ g)) rfl) ?_;refine dG [(6,_)] [] [(36,_)] [] ⟨rfl,trivial⟩ trivial (fun S0=>bG rfl rfl ow rfl) ?_;refine dG [(8,_)] [] [(37,_)] [] ⟨rfl,trivial⟩ trivial (fun S0=>bG rfl rfl ow rfl) ?_;refine dG [(36,_),(37,_)] [] [(38,_)] [] ⟨rfl,rfl,trivial⟩ trivial (fun S0=>bG rfl rfl ow rfl) ?_;obtain ⟨I,d,h⟩:=Q5 h;refine dG [(38,_)] [] [(39,_)] [] ⟨rfl,trivial⟩ trivial (fun S0=>bG rfl rfl (oc (aK.v _ _ _ d)) rfl) ?_;refine dG [(35,_)] [] [(4,_)] [] ⟨rfl,trivial⟩ trivial (fun S0=>bG rfl rfl ow rfl) ?_;refine dG [(39,_)] [] [(5,_)] [] ⟨rfl,trivial⟩ trivial (fun S0=>bG rfl rfl ow rfl) ?_;refine dn ?_;cases h;exact Cm
 refine aE (aa (aa (r3 ?_)));refine gk h (fun _ h=>?_) (fun _ h=>?_)
 ·obtain ⟨_,h⟩:=aj h;refine aa (ak ?_);iterate 4 refine o1 ?_
  obtain ⟨G,q,h⟩:=Q5 h;refine il (bw.v _ _ _ _ q) ?_;iterate 5 refine o1 ?_
  refine ai (aa (ak ?_));iterate 2 refine o1 ?_
  obtain ⟨w,n,h⟩:=Q5 h;refine il (aK.v _ _ _ n) ?_;iterate 2 refine o1 ?_
  refine ai ?_;cases h;exact Cm
 iterate 2 obtain ⟨_,h⟩:=aj h
 refine aE (aa (r4 ?_));refine aa (r2 ?_);refine aa (aa (r4 ?_));refine aC (bN ?_);refine bP (D:=List Int×List Int×List Int×List Int×Int×Unit) (fun (a,b,c,e,f,_)=>⟨look [(0,.ints .i64 a),(1,.ints .i64 b),(12,.own 56),(13,.ints .i64 e),(14,.int .i64 f)],look [(56,dw 3 .i64 c)]⟩) (fun K_ (a,b,c,e,f,_)=>P.aG.l0 K_ a b c e f=some r) ?_ _ (_,_,_,_,_,()) h (aY _ _ ⟨rfl,rfl,rfl,rfl,rfl,trivial⟩ ⟨rfl,trivial⟩ rfl);rintro (_ | m33) ih32 ⟨x0,x1,x12,x13,x14,_⟩ h
 ·nomatch h
 dsimp only at h ⊢;simp only [P.aG.l0] at h;refine bH (aa (aa (r2 ?_)));refine gk h (fun _ h=>?_) (fun _ h=>?_)
 ·obtain ⟨_,h⟩:=aj h;obtain ⟨_,h⟩:=aj h;refine aE (aa (aC (aa (ak ?_))));iterate 5 refine o1 ?_
  obtain ⟨C,j,h⟩:=Q5 h;refine il (aw.v _ _ _ _ _ j) ?_;refine o1 ?_;refine ai (aa (aa (ak ?_)));iterate 2 refine o1 ?_
  obtain ⟨A,m,h⟩:=Q5 h;refine il (aM.v _ _ _ _ m) ?_;refine o1 ?_;refine ai ?_;refine gk h (fun _ h=>?_) (fun _ h=>?_)
  ·refine bI (r3 ?_);exact aO (ih32 m33 Q2 (_,_,_,_,_,()) h) ⟨rfl,rfl,rfl,rfl,rfl,trivial⟩ ⟨rfl,trivial⟩ rfl
  refine aE (aa (ak ?_));iterate 4 refine o1 ?_
  obtain ⟨x,l,h⟩:=Q5 h;refine il (an.v _ _ _ _ l) ?_;obtain ⟨_,h⟩:=aj h;replace h:=EY h;iterate 2 refine o1 ?_
  refine ai (ak ?_);iterate 6 refine o1 ?_
  obtain ⟨y,s,h⟩:=Q5 h;refine il (aw.v _ _ _ _ _ s) ?_;obtain ⟨H,i,h⟩:=Q5 h;refine il (aQ.v _ _ _ _ i) ?_;refine o1 ?_;refine ai (r3 ?_);exact aO (ih32 m33 Q2 (_,_,_,_,_,()) h) ⟨rfl,rfl,rfl,rfl,rfl,trivial⟩ ⟨rfl,trivial⟩ rfl
 refine bI (aa ?_);refine eQ (dF (k:=56) rfl) ?_;refine ak ?_;refine o1 ?_;obtain ⟨z,o,h⟩:=Q5 h;refine il (aT.v _ _ _ o) ?_;iterate 3 refine o1 ?_
 refine ai ?_;cases h;exact Cm
instance:FN Tryz.prog 133:=⟨⟨_,Tryz.func133,by decide,by simp [Tryz.f133]⟩⟩
theorem aA.v (k:Nat) (l0 l1 r:List Int) (h:P.aA.f k l0 l1=some r):Fn Tryz.prog 133 [.ints .i64 l0,.ints .i64 l1] (.ints .i64 r):=by
 refine bU Tryz.func133 rfl (Qe rfl) ?_;intro X hX;unfold P.aA.f at h;refine aa (r1 ?_);refine aa (aC (bN ?_));refine bP (D:=List Int×List Int×Unit) (fun d=>⟨look [(0,.ints .i64 d.1),(1,.ints .i64 d.2.1)],look []⟩) (fun K_ d=>P.aA.l0 K_ d.1 d.2.1=some r) ?_ _ (_,_,()) h (aY _ _ ⟨rfl,rfl,trivial⟩ trivial rfl);rintro (_ | m3) ih2 ⟨x0,x1,_⟩ h
 ·nomatch h
 dsimp only at h ⊢;simp only [P.aA.l0] at h;refine bH (aa (aa (r3 ?_)));refine gk h (fun _ h=>?_) (fun _ h=>?_)
 ·refine aE (aC (aa (ak ?_)));refine o1 ?_;obtain ⟨t6,m,h⟩:=Q5 h;refine il (aR.v _ _ _ m) ?_;iterate 5 refine o1 ?_
  refine ai (aa (ak ?_));refine o1 ?_;obtain ⟨t8,l,h⟩:=Q5 h;refine il (aR.v _ _ _ l) ?_;iterate 5 refine o1 ?_
  refine ai (aa (aa ?_));refine iG (D:=Nat×List Int×List Int×Int×Int×Bool×Unit) (fun (_,b,c,e,f,g,_)=>⟨look [(0,.ints .i64 b),(1,.ints .i64 c),(5,.int .i64 e),(7,.int .i64 f),(27,.bool g)],look []⟩) (fun (a,b,c,e,f,g,_)=>P.aA.j1 a b c e f g=some r/\a<=m3) ?_ ?_
  ·skip;rintro ⟨_ | m12,x0,x1,x5,x7,x27,_⟩ ⟨h,b11⟩
   ·nomatch h
   dsimp only at h b11 ⊢;simp only [P.aA.j1] at h;refine gk h (fun _ h=>?_) (fun _ h=>?_)
   ·refine aa (aC (bN ?_));refine bP (D:=Int×Int×Unit) (fun d=>⟨look [(5,.int .i64 d.1),(7,.int .i64 d.2.1)],look []⟩) (fun K_ d=>P.aA.l1 K_ d.1 d.2.1=some r/\K_<=m12) ?_ _ (_,_,()) ⟨h,Q2⟩ (aY _ _ ⟨rfl,rfl,trivial⟩ trivial rfl);rintro (_ | m17) ih16 ⟨x5,x7,_⟩ ⟨h,b18⟩
    ·nomatch h
    dsimp only at h b18 ⊢;simp only [P.aA.l1] at h;refine bH (aa (aa (r2 ?_)));refine gk h (fun _ h=>?_) (fun _ h=>?_)
    ·obtain ⟨_,h⟩:=jC h;refine aE (aC (gw ?_));iterate 6 refine s1 ?_
     refine lI ?_;exact aO (ih16 m17 Q2 (_,_,()) ⟨h,Q2⟩) ⟨rfl,rfl,trivial⟩ trivial rfl
    refine bI (aa (ak ?_));refine o1 ?_;obtain ⟨o,i,h⟩:=Q5 h;refine il (aK.v _ _ _ i) ?_;refine o1 ?_;refine ai ?_;cases h;exact sR
   refine aE (aa (ak ?_));iterate 2 refine o1 ?_
   obtain ⟨p,j,h⟩:=Q5 h;refine il (aG.v _ _ _ _ j) ?_;iterate 5 refine o1 ?_
   refine ai (r4 ?_);exact aO (ih2 m12 Q2 (_,_,()) h) ⟨rfl,rfl,trivial⟩ trivial rfl
  skip;refine ak ?_;iterate 2 refine o1 ?_
  refine og rfl rfl rfl rfl (fun hb=>?_) (fun hb=>?_)
  ·obtain ⟨_,h⟩:=tkT h hb;refine oT ?_;refine o1 ?_;refine ai ?_;exact ⟨(m3,_,_,_,_,_,()),⟨h,Q2⟩,aY _ _ ⟨rfl,rfl,rfl,rfl,rfl,trivial⟩ trivial rfl⟩
  skip;obtain ⟨q,h⟩:=tkF h hb;have n:=hb;clear hb;refine Cn ?_;refine o1 ?_;refine ai ?_;exact ⟨(m3,_,_,_,_,_,()),⟨h,Q2⟩,aY _ _ ⟨rfl,rfl,rfl,rfl,rfl,trivial⟩ trivial rfl⟩
 refine bI (aa (r2 ?_));cases h;exact sR
instance:FN Tryz.prog 127:=⟨⟨_,Tryz.func127,by decide,by simp [Tryz.f127]⟩⟩
instance:FN Tryz.prog 144:=⟨⟨_,Tryz.func144,by decide,by simp [Tryz.f144]⟩⟩
theorem aD.v (k:Nat) (l0 d:List Int) (r:Bool) (h:P.aD.f k l0 d=some r):Fn Tryz.prog 144 [.ints .u32 l0,.ints .u32 d] (.bool r):=by
 refine bU Tryz.func144 rfl (Qe rfl) ?_;intro X hX;unfold P.aD.f at h;refine aa (r1 ?_);refine aa (aa (r5 ?_));refine Nu h (fun _ h=>?_) (fun _ h=>?_)
 ·refine aa (r1 ?_);cases h;exact sR
 refine aE (aa (aa (r3 ?_)));refine aC (bN ?_);refine bP (D:=List Int×List Int×Int×Int×Unit) (fun (a,b,c,e,_)=>⟨look [(0,.ints .u32 a),(1,.ints .u32 b),(12,.int .i64 c),(13,.int .i64 e)],look []⟩) (fun K_ (a,b,c,e,_)=>P.aD.l0 K_ a b c e=some r) ?_ _ (_,_,_,_,()) h (aY _ _ ⟨rfl,rfl,rfl,rfl,trivial⟩ trivial rfl);rintro (_ | m7) ih6 ⟨x0,x1,x12,x13,_⟩ h
 ·nomatch h
 dsimp only at h ⊢;simp only [P.aD.l0] at h;refine bH (aa (r1 ?_));refine aa ?_;refine gk h (fun _ h=>?_) (fun _ h=>?_)
 ·obtain ⟨_,h⟩:=aj h;iterate 2 obtain ⟨_,h⟩:=aj h
  refine aE (aa (aC (aa (r2 ?_))));refine aa (gw ?_);iterate 9 refine s1 ?_
  refine lI ?_;refine Nu h (fun _ h=>?_) (fun _ h=>?_)
  ·refine aa (r1 ?_);cases h;exact sR
  refine aE (r2 ?_);exact aO (ih6 m7 Q2 (_,_,_,_,()) h) ⟨rfl,rfl,rfl,rfl,trivial⟩ trivial rfl
 refine bI (aa (r1 ?_));cases h;exact sR
instance:FN Tryz.prog 95:=⟨⟨_,Tryz.func95,by decide,by simp [Tryz.f95]⟩⟩
theorem ax.v (k:Nat) (l0 l1 r:List Int) (h:P.ax.f k l0 l1=some r):Fn Tryz.prog 95 [.ints .i64 l0,.ints .i64 l1] (.ints .i64 r):=by
 refine bU Tryz.func95 rfl (Qe rfl) ?_;intro X hX;unfold P.ax.f at h;iterate 2 obtain ⟨_,h⟩:=aj h
 refine aa (r1 ?_);refine aa (r8 ?_);refine aa (aa (r3 ?_));refine aC (bN ?_);refine bP (D:=List Int×List Int×List Int×Int×Int×Unit) (fun (a,b,c,e,f,_)=>⟨look [(1,.ints .i64 a),(5,.own 18),(19,.ints .i64 c),(20,.int .i64 e),(21,.int .i64 f)],look [(18,dw 3 .i64 b)]⟩) (fun K_ (a,b,c,e,f,_)=>P.ax.l0 K_ a b c e f=some r) ?_ _ (_,_,_,_,_,()) h (aY _ _ ⟨rfl,rfl,rfl,rfl,rfl,trivial⟩ ⟨rfl,trivial⟩ rfl);rintro (_ | m5) ih4 ⟨x1,x5,x19,x20,x21,_⟩ h
 ·nomatch h
 dsimp only at h ⊢;simp only [P.ax.l0] at h;refine bH (aa (r1 ?_));refine aa ?_;refine gk h (fun _ h=>?_) (fun _ h=>?_)
 ·obtain ⟨_,h⟩:=aj h;obtain ⟨_,h⟩:=aj h;refine aE (aa (aC (aa (r5 ?_))));refine aa (r1 ?_);refine aa (aa (r3 ?_));refine aC (bN ?_);refine bP (D:=List Int×List Int×Int×Int×Int×List Int×Int×Int×List Int×Int×Int×Unit) (fun (a,b,c,e,f,g,h,i,j,k,l,_)=>⟨look [(1,.ints .i64 a),(5,.own 18),(6,.int .i64 c),(7,.int .i64 e),(8,.int .i64 f),(19,.ints .i64 g),(20,.int .i64 h),(21,.int .i64 i),(26,.ints .i64 j),(27,.int .i64 k),(28,.int .i64 l)],look [(18,dw 3 .i64 b)]⟩) (fun K_ (a,b,c,e,f,g,h,i,j,k,l,_)=>P.ax.l1 K_ a b c e f g h i j k l=some r/\K_<=m5) ?_ _ (_,_,_,_,_,_,_,_,_,_,_,()) ⟨h,Q2⟩ (aY _ _ ⟨rfl,rfl,rfl,rfl,rfl,rfl,rfl,rfl,rfl,rfl,rfl,trivial⟩ ⟨rfl,trivial⟩ rfl);rintro (_ | m12) ih11 ⟨x1,x5,x6,x7,x8,x19,x20,x21,x26,x27,x28,_⟩ ⟨h,b13⟩
  ·nomatch h
  dsimp only at h b13 ⊢;simp only [P.ax.l1] at h;refine bH (aa (r1 ?_));refine aa ?_;refine gk h (fun _ h=>?_) (fun _ h=>?_)
  ·obtain ⟨_,h⟩:=aj h;iterate 3 obtain ⟨_,h⟩:=aj h
   refine aE (aa (aC (aa (r5 ?_))));refine aa (ak ?_);iterate 13 refine o1 ?_
   refine ai (aa (r8 ?_));refine r3 ?_;refine r2 ?_;exact aO (ih11 m12 Q2 (_,_,_,_,_,_,_,_,_,_,_,()) ⟨h,Q2⟩) ⟨rfl,rfl,rfl,rfl,rfl,rfl,rfl,rfl,rfl,rfl,rfl,trivial⟩ ⟨rfl,trivial⟩ rfl
  refine bI (aa (r5 ?_));refine aC (bN ?_);refine bP (D:=List Int×List Int×Int×Int×List Int×Int×Int×Unit) (fun (a,b,c,e,f,g,h,_)=>⟨look [(1,.ints .i64 a),(5,.own 18),(8,.int .i64 c),(11,.int .i64 e),(19,.ints .i64 f),(20,.int .i64 g),(21,.int .i64 h)],look [(18,dw 3 .i64 b)]⟩) (fun K_ (a,b,c,e,f,g,h,_)=>P.ax.l2 K_ a b c e f g h=some r/\K_<=m12) ?_ _ (_,_,_,_,_,_,_,()) ⟨h,Q2⟩ (aY _ _ ⟨rfl,rfl,rfl,rfl,rfl,rfl,rfl,trivial⟩ ⟨rfl,trivial⟩ rfl);rintro (_ | m24) ih23 ⟨x1,x5,x8,x11,x19,x20,x21,_⟩ ⟨h,b25⟩
  ·nomatch h
  dsimp only at h b25 ⊢;simp only [P.ax.l2] at h;refine bH (aa (aa (r2 ?_)));refine gk h (fun _ h=>?_) (fun _ h=>?_)
  ·obtain ⟨_,h⟩:=aj h;obtain ⟨_,h⟩:=aj h;refine aE (aa (aC (aa (r7 ?_))));refine aa (r6 ?_);iterate 2 refine r3 ?_
   exact aO (ih23 m24 Q2 (_,_,_,_,_,_,_,()) ⟨h,Q2⟩) ⟨rfl,rfl,rfl,rfl,rfl,rfl,rfl,trivial⟩ ⟨rfl,trivial⟩ rfl
  refine bI (r2 ?_);exact aO (ih4 m24 Q2 (_,_,_,_,_,()) h) ⟨rfl,rfl,rfl,rfl,rfl,trivial⟩ ⟨rfl,trivial⟩ rfl
 refine bI (aa ?_);refine eQ (dF (k:=18) rfl) ?_;refine ak ?_;refine o1 ?_;obtain ⟨m,d,h⟩:=Q5 h;refine il (aT.v _ _ _ d) ?_;refine o1 ?_;refine ai ?_;cases h;exact sR
instance:FN Tryz.prog 97:=⟨⟨_,Tryz.func97,by decide,by simp [Tryz.f97]⟩⟩
theorem aB.v (k:Nat) (l0 m r:List Int) (h:P.aB.f k l0 m=some r):Fn Tryz.prog 97 [.ints .i64 l0,.ints .i64 m] (.ints .i64 r):=by
 refine bU Tryz.func97 rfl (Qe rfl) ?_;intro X hX;unfold P.aB.f at h;refine aa (ak ?_);refine o1 ?_;refine ai (aa (ak ?_));refine dE rfl (sB 3 .i64 (.inr rfl) rfl rfl (ib hX (by decide))) ?_;refine ai (aa (r1 ?_));refine aa (aa (r1 ?_));refine aC (bN ?_);refine bP (D:=List Int×List Int×List Int×Int×Int×Unit) (fun (a,b,c,e,f,_)=>⟨look [(0,.ints .i64 a),(1,.ints .i64 b),(5,.own 5),(6,.int .i64 e),(7,.int .i64 f)],look [(5,dw 3 .i64 c)]⟩) (fun K_ (a,b,c,e,f,_)=>P.aB.l0 K_ a b c e f=some r) ?_ _ (_,_,_,_,_,()) h (aY _ _ ⟨rfl,rfl,rfl,rfl,rfl,trivial⟩ ⟨rfl,trivial⟩ rfl);rintro (_ | m3) ih2 ⟨x0,x1,x5,x6,x7,_⟩ h
 ·nomatch h
 dsimp only at h ⊢;simp only [P.aB.l0] at h;refine bH (aa (aa ?_));refine iG (D:=Nat×List Int×List Int×List Int×Int×Int×Bool×Unit) (fun (_,b,c,e,f,g,h,_)=>⟨look [(0,.ints .i64 b),(1,.ints .i64 c),(5,.own 5),(6,.int .i64 f),(7,.int .i64 g),(21,.bool h)],look [(5,dw 3 .i64 e)]⟩) (fun (a,b,c,e,f,g,h,_)=>P.aB.j1 a b c e f g h=some r/\a<=m3) ?_ ?_
 ·skip;rintro ⟨_ | m6,x0,x1,x5,x6,x7,x21,_⟩ ⟨h,b5⟩
  ·nomatch h
  dsimp only at h b5 ⊢;simp only [P.aB.j1] at h;refine gk h (fun _ h=>?_) (fun _ h=>?_)
  ·refine aE (aa (aC (aa (aa (r4 ?_)))));refine gk h (fun _ h=>?_) (fun _ h=>?_)
   ·obtain ⟨_,h⟩:=aj h;refine r7 ?_;refine aa (aa (r4 ?_));refine gk h (fun _ h=>?_) (fun _ h=>?_)
    ·obtain ⟨_,h⟩:=aj h;refine r7 ?_;refine aa (r6 ?_);iterate 2 refine r3 ?_
     exact aO (ih2 m6 Q2 (_,_,_,_,_,()) h) ⟨rfl,rfl,rfl,rfl,rfl,trivial⟩ ⟨rfl,trivial⟩ rfl
    obtain ⟨_,h⟩:=aj h;refine aE (aa (r6 ?_));iterate 2 refine r3 ?_
    exact aO (ih2 m6 Q2 (_,_,_,_,_,()) h) ⟨rfl,rfl,rfl,rfl,rfl,trivial⟩ ⟨rfl,trivial⟩ rfl
   refine aE (aa (aa (r4 ?_)));refine gk h (fun _ h=>?_) (fun _ h=>?_)
   ·obtain ⟨_,h⟩:=aj h;obtain ⟨_,h⟩:=aj h;refine r7 ?_;refine aa (r6 ?_);iterate 2 refine r3 ?_
    exact aO (ih2 m6 Q2 (_,_,_,_,_,()) h) ⟨rfl,rfl,rfl,rfl,rfl,trivial⟩ ⟨rfl,trivial⟩ rfl
   obtain ⟨_,h⟩:=aj h;refine aE (aa (r6 ?_));iterate 2 refine r3 ?_
   exact aO (ih2 m6 Q2 (_,_,_,_,_,()) h) ⟨rfl,rfl,rfl,rfl,rfl,trivial⟩ ⟨rfl,trivial⟩ rfl
  refine bI (aa (r2 ?_));refine eQ (dF (k:=5) rfl) ?_;cases h;exact sR
 skip;refine ak ?_;iterate 5 refine o1 ?_
 refine og rfl rfl rfl rfl (fun hb=>?_) (fun hb=>?_)
 ·obtain ⟨_,h⟩:=tkF h hb;iterate 4 refine oT ?_
  iterate 2 refine o1 ?_
  refine og rfl rfl rfl rfl (fun hb=>?_) (fun hb=>?_)
  ·obtain ⟨_,h⟩:=tkF h hb;iterate 2 refine oT ?_
   refine o1 ?_;refine ai ?_;exact ⟨(m3,_,_,_,_,_,_,()),⟨h,Q2⟩,aY _ _ ⟨rfl,rfl,rfl,rfl,rfl,rfl,trivial⟩ ⟨rfl,trivial⟩ rfl⟩
  skip;obtain ⟨l,h⟩:=tkT h hb;have i:=hb;clear hb;iterate 2 refine Cn ?_
  refine o1 ?_;refine ai ?_;exact ⟨(m3,_,_,_,_,_,_,()),⟨h,Q2⟩,aY _ _ ⟨rfl,rfl,rfl,rfl,rfl,rfl,trivial⟩ ⟨rfl,trivial⟩ rfl⟩
 skip;obtain ⟨d,h⟩:=tkT h hb;have j:=hb;clear hb;iterate 4 refine Cn ?_
 iterate 2 refine o1 ?_
 iterate 2 refine Cn ?_
 refine o1 ?_;refine ai ?_;exact ⟨(m3,_,_,_,_,_,_,()),⟨h,Q2⟩,aY _ _ ⟨rfl,rfl,rfl,rfl,rfl,rfl,trivial⟩ ⟨rfl,trivial⟩ rfl⟩
instance:FN Tryz.prog 145:=⟨⟨_,Tryz.func145,by decide,by simp [Tryz.f145]⟩⟩
end Go.Proofs.YtfbgaddecbiimaaGreatDoor.V
end
section
namespace Go.Proofs.YtfbgaddecbiimaaGreatDoor.E
open Go.RowKit Go.Proofs.YtfbgaddecbiimaaGreatDoorW.PrintWords Go.Proofs.YtfbgaddecbiimaaGreatDoorW.PrintMore Go.Proofs.YtfbgaddecbiimaaGreatDoor.V
def jN:pO T:=qw (.list (.int .i64)) (.list (.int .i64)) (.list (.int .i64)) (fun k b a=>P.aB.f k b a)
theorem lz:dN T (97,jN):=ff rfl (FN.h (P:=Tryz.prog)) fun k b a r h=>by
 have q:=aB.v k b a r h;simp only [eV] at q;exact ⟨_,rfl,q⟩
def jM:pO T:=qw (.list (.int .i64)) (.list (.int .i64)) (.int .i64) (fun k b a=>P.aM.f k b a)
theorem lg:dN T (98,jM):=ff rfl (FN.h (P:=Tryz.prog)) fun k b a r h=>by
 have q:=aM.v k b a r h;simp only [eV] at q;exact ⟨_,rfl,q⟩
def iM:pO T:=qw (.list (.int .i64)) (.list (.int .i64)) (.pair (.list (.int .i64)) (.pair (.list (.int .i64)) .unit)) (fun k b a=>(P.aG.f k b a).map fun r=>(r.1,r.2,()))
theorem j9:dN T (147,iM):=ff rfl (FN.h (P:=Tryz.prog)) fun k b a r h=>by
 obtain ⟨r1,h1,rfl⟩:=Qr.1 h;have q:=aG.v k b a r1 h1;simp only [eV] at q;exact ⟨_,rfl,q⟩
def jL:pO T:=qw (.list (.int .i64)) (.list (.int .i64)) (.list (.int .i64)) (fun k b a=>P.aA.f k b a)
theorem k9:dN T (133,jL):=ff rfl (FN.h (P:=Tryz.prog)) fun k b a r h=>by
 have q:=aA.v k b a r h;simp only [eV] at q;exact ⟨_,rfl,q⟩
def jK:pO T:=Bq (.int .i64) (.list (.int .i64)) (fun k a=>P.aK.f k a)
theorem k8:dN T (119,jK):=ka rfl (FN.h (P:=Tryz.prog)) fun k a r h=>by
 have q:=aK.v k a r h;simp only [eV] at q;exact ⟨_,rfl,q⟩
def jJ:pO T:=qw (.list (.int .i64)) (.list (.int .i64)) (.list (.int .i64)) (fun k b a=>P.ax.f k b a)
theorem k7:dN T (95,jJ):=ff rfl (FN.h (P:=Tryz.prog)) fun k b a r h=>by
 have q:=ax.v k b a r h;simp only [eV] at q;exact ⟨_,rfl,q⟩
def jb:pO T:=orc3 (.list (.int .i64)) (.int .i64) (.int .i64) (.list (.int .i64)) (fun k c b a=>P.aw.f k c b a)
theorem kE:dN T (134,jb):=JC rfl (FN.h (P:=Tryz.prog)) fun k c b a r h=>by
 have q:=aw.v k c b a r h;simp only [eV] at q;exact ⟨_,rfl,q⟩
def jI:pO T:=qw (.list (.int .i64)) (.list (.int .i64)) (.list (.int .i64)) (fun k b a=>P.aQ.f k b a)
theorem k6:dN T (99,jI):=ff rfl (FN.h (P:=Tryz.prog)) fun k b a r h=>by
 have q:=aQ.v k b a r h;simp only [eV] at q;exact ⟨_,rfl,q⟩
def ja:pO T:=Bq (.list (.int .u32)) .bool (fun k a=>P.bS.f a)
theorem kD:dN T (132,ja):=ka rfl (FN.h (P:=Tryz.prog)) fun k a r h=>by
 have q:=bS.v a r h;simp only [eV] at q;exact ⟨_,rfl,q⟩
def iZ:pO T:=Bq (.list (.int .i64)) (.list (.int .u32)) (fun k a=>P.aF.f k a)
theorem kC:dN T (118,iZ):=ka rfl (FN.h (P:=Tryz.prog)) fun k a r h=>by
 have q:=aF.v k a r h;simp only [eV] at q;exact ⟨_,rfl,q⟩
def vO:pO T:=qw (.list (.int .u32)) (.list (.int .u32)) (.list (.int .u32)) (fun k b a=>P.dM.f k b a)
theorem uU:dN T (141,vO):=ff rfl (FN.h (P:=Tryz.prog)) fun k b a r h=>by
 have q:=dM.v k b a r h;simp only [eV] at q;exact ⟨_,rfl,q⟩
def tW:pO T:=Bq (.list (.int .u32)) (.int .i64) (fun k a=>P.ix.f a)
theorem tV:dN T (184,tW):=ka rfl (FN.h (P:=Tryz.prog)) fun k a r h=>by
 have q:=ix.v a r h;simp only [eV] at q;exact ⟨_,rfl,q⟩
def vN:pO T:=qw (.list (.int .u32)) (.list (.int .u32)) (.int .i64) (fun k b a=>P.dX.f k b a)
theorem uT:dN T (138,vN):=ff rfl (FN.h (P:=Tryz.prog)) fun k b a r h=>by
 have q:=dX.v k b a r h;simp only [eV] at q;exact ⟨_,rfl,q⟩
def qv:pO T:=qw (.list (.int .u32)) (.list (.int .u32)) (.pair (.list (.int .u32)) (.pair (.list (.int .u32)) .unit)) (fun k b a=>(P.aJ.f k b a).map fun r=>(r.1,r.2,()))
theorem rQ:dN T (160,qv):=ff rfl (FN.h (P:=Tryz.prog)) fun k b a r h=>by
 obtain ⟨r1,h1,rfl⟩:=Qr.1 h;have q:=aJ.v k b a r1 h1;simp only [eV] at q;exact ⟨_,rfl,q⟩
def tU:pO T:=Bq (.int .u64) (.list (.int .u32)) (fun k a=>P.dB.f k a)
theorem tT:dN T (159,tU):=ka rfl (FN.h (P:=Tryz.prog)) fun k a r h=>by
 have q:=dB.v k a r h;simp only [eV] at q;exact ⟨_,rfl,q⟩
def vM:pO T:=qw (.list (.int .u32)) (.list (.int .u32)) (.list (.int .u32)) (fun k b a=>P.cw.f k b a)
theorem uS:dN T (129,vM):=ff rfl (FN.h (P:=Tryz.prog)) fun k b a r h=>by
 have q:=cw.v k b a r h;simp only [eV] at q;exact ⟨_,rfl,q⟩
def vL:pO T:=qw (.list (.int .u32)) (.list (.int .u32)) (.list (.int .u32)) (fun k b a=>P.bK.f k b a)
theorem uR:dN T (139,vL):=ff rfl (FN.h (P:=Tryz.prog)) fun k b a r h=>by
 have q:=bK.v k b a r h;simp only [eV] at q;exact ⟨_,rfl,q⟩
def vK:pO T:=qw (.list (.int .u32)) (.int .i64) (.list (.int .u32)) (fun k b a=>P.fD.f k b a)
theorem uQ:dN T (175,vK):=ff rfl (FN.h (P:=Tryz.prog)) fun k b a r h=>by
 have q:=fD.v k b a r h;simp only [eV] at q;exact ⟨_,rfl,q⟩
def vJ:pO T:=qw (.list (.int .u32)) (.list (.int .u32)) (.list (.int .u32)) (fun k b a=>P.dT.f k b a)
theorem uP:dN T (142,vJ):=ff rfl (FN.h (P:=Tryz.prog)) fun k b a r h=>by
 have q:=dT.v k b a r h;simp only [eV] at q;exact ⟨_,rfl,q⟩
def tS:pO T:=Bq (.list (.int .u32)) (.pair .str (.pair (.int .i64) .unit)) (fun k a=>(P.fL.f k a).map fun r=>(r.1,r.2,()))
theorem tR:dN T (121,tS):=ka rfl (FN.h (P:=Tryz.prog)) fun k a r h=>by
 obtain ⟨r1,h1,rfl⟩:=Qr.1 h;have q:=fL.v k a r1 h1;simp only [eV] at q;exact ⟨_,rfl,q⟩
def si:pO T:=Bq (.list (.int .u32)) .bool (fun k a=>P.ke.f a)
theorem sL:dN T (158,si):=ka rfl (FN.h (P:=Tryz.prog)) fun k a r h=>by
 have q:=ke.v a r h;simp only [eV] at q;exact ⟨_,rfl,q⟩
def gx:pO T:=qw (.list (.int .u32)) (.list (.int .u32)) .bool (fun k b a=>P.aD.f k b a)
theorem iY:dN T (144,gx):=ff rfl (FN.h (P:=Tryz.prog)) fun k b a r h=>by
 have q:=aD.v k b a r h;simp only [eV] at q;exact ⟨_,rfl,q⟩
def orcA:List (Nat×pO T):=[(97,jN),(98,jM),(147,iM),(133,jL),(119,jK),(95,jJ),(134,jb),(99,jI),(132,ja),(118,iZ),(141,vO),(184,tW),(138,vN),(160,qv),(159,tU),(129,vM),(139,vL),(175,vK),(142,vJ),(121,tS),(158,si),(144,gx)]
theorem JB:∀ x∈orcA,dN T x:=by
 simp only [orcA,Qo,Yi,or_false,forall_eq_or_imp,forall_eq];exact ⟨lz,lg,j9,k9,k8,k7,kE,k6,kD,kC,uU,tV,uT,rQ,tT,uS,uR,uQ,uP,tR,sL,iY⟩
end Go.Proofs.YtfbgaddecbiimaaGreatDoor.E
end
section
namespace Go.Proofs.YtfbgaddecbiimaaGreatDoor.E
open Go.RowKit Go.Shelf
def blF:Nat->Nat
 | 169=>124
 | n=>n
def blT:Nat->Nat
 | 70=>138
 | 9=>9
 | 0=>0
 | 72=>140
 | 37=>32
 | 127=>181
 | 3=>3
 | 5=>5
 | n=>n
def MF:Ren:=⟨blF,blT,fun n=>n⟩
theorem ME:Lays.n169 Tryz.prog MF :=
 { mixed:=Eq.refl true,f169:=Eq.trans Tryz.func124 (congrArg some (Eq.refl (Body.n169 MF))),t0:=Tryz.underlying0,a0:=Tryz.isAgg0,z0:=Tryz.sizeOf0,v0:=Tryz.zeroValue0,t3:=Tryz.underlying3,a3:=Tryz.isAgg3,z3:=Tryz.sizeOf3,v3:=Tryz.zeroValue3,t9:=Tryz.underlying9,a9:=Tryz.isAgg9,z9:=Tryz.sizeOf9,v9:=Tryz.zeroValue9,t37:=Tryz.underlying32,a37:=Tryz.isAgg32,z37:=Tryz.sizeOf32,v37:=Tryz.zeroValue32,t70:=Tryz.underlying138,a70:=Tryz.isAgg138,z70:=Tryz.sizeOf138,v70:=Tryz.zeroValue138,t72:=Tryz.underlying140,a72:=Tryz.isAgg140,z72:=Tryz.sizeOf140,v72:=Tryz.zeroValue140,t127:=Tryz.underlying181,a127:=Tryz.isAgg181,z127:=Tryz.sizeOf181,v127:=Tryz.zeroValue181 }
theorem bextra:Builder.Extra Tryz.prog MF where
 sizeBuilder:=Q4
 liesBuilder:=Q4
 t5:=Tryz.underlying5
 a5:=Tryz.isAgg5
 z5:=Tryz.sizeOf5
 v5:=Tryz.zeroValue5
 infoByte:=Q4
 cellsByte:=Q4
 sizeByte:=Q4
 neB5:=by decide
theorem qX (B b:Nat) (l:List UInt8) (w:World) (h:Lib.IsBuilder 140 5 B b (Lib.byteCells l) w) (hBw:B<=w.heap.size) :
 Calls Tryz.prog 124 #[.pointer (some ⟨b,0,none⟩)] w fun e w'=>e = .returned (.string ⟨l.toArray⟩)/\Below B w w':=Any.Builder_String_any ME bextra B b l w h hBw
theorem MH:(Tryz.prog.info? 140).map (·.size)=some 2:=by kernel_rfl
theorem b_lies:liesAt Tryz.prog Tryz.prog.depth 140 (2 / Tryz.prog.cellsOf 140) 0 140 1=true:=by kernel_rfl
theorem MI:(Tryz.prog.info? 5).map (fun i=>(i.zero,i.size,i.bytes))=some (some (.int .u8 0),1,1):=by kernel_rfl
theorem Ca (b:Nat) (w:World) (a:w.cell? ⟨b,0,none⟩=some (.pointer (some ⟨b,0,none⟩))) :
 Calls Tryz.prog 157 #[.pointer (some ⟨b,0,none⟩)] w fun e w'=>e = .returned (.tuple #[])/\w'=w:=by
 obtain ⟨j,hj,_⟩:=Qr.1 MH
 go_enter Tryz.func157,Tryz.ntmps157
 go_wp2
 rw [Lib.run_neq_ptr_same w _ Tryz.underlying138 hj]
 go_wp2
 go_end0
 exact ⟨rfl,rfl⟩
theorem sq (b:Nat) (w:World) (c:w.cell? ⟨b,0,none⟩=some (.pointer none)) (hsh:w.shape? b=some (140,2)) (hfz:w.frozen? ⟨b,0,none⟩=false) :
 Calls Tryz.prog 157 #[.pointer (some ⟨b,0,none⟩)] w fun e w'=>e = .returned (.tuple #[])/\w'=w.setCell ⟨b,0,none⟩ (.pointer (some ⟨b,0,none⟩)):=by
 obtain ⟨j,hj,a⟩:=Qr.1 MH
 go_enter Tryz.func157,Tryz.ntmps157
 go_wp2
 rw [Lib.run_to_unsafe w ⟨b,0,none⟩ Tryz.underlying138 Tryz.underlying189 hj (by rw [a];decide) hsh (Nat.zero_lt_succ 1)];simp only [Result.andThen];rw [Oper.upon_value]
 go_wp2
 rw [run_callFunc_extern Tryz.func172 Q4 Q4 Q4 (e:=Extern.AbiNoEscape.same) Q4];rw [Lib.run_noEscape];simp only [Result.andThen];rw [Oper.upon_value]
 go_wp2
 rw [Lib.run_from_unsafe w ⟨b,0,none⟩ Tryz.underlying189 Tryz.underlying138 hj hsh b_lies];simp only [Result.andThen];rw [Oper.upon_value]
 go_wp2
 go_end0
 exact ⟨rfl,rfl⟩
theorem IK (B b:Nat) (bs:List Value) (w:World) (h:Lib.IsBuilder 140 5 B b bs w) :
 Calls Tryz.prog 157 #[.pointer (some ⟨b,0,none⟩)] w fun e w'=>e = .returned (.tuple #[])/\(Lib.BuilderAt 140 5 B b (.pointer (some ⟨b,0,none⟩)) bs w'/\Below B w w'):=by
 rcases h with h | h
 ·refine (sq b w h.cell0 h.shape h.frozen0).mono ?_;rintro e w' ⟨rfl,rfl⟩;exact ⟨rfl,h.used _,(Below.refl B w).setCell (p:=⟨b,0,none⟩) h.1 _⟩
 refine (Ca b w h.cell0).mono ?_;rintro e w' ⟨rfl,rfl⟩;exact ⟨rfl,h,Below.refl B _⟩
theorem yP (B b:Nat) (bs:List Value) (c:Int) (w:World) (h:Lib.IsBuilder 140 5 B b bs w) (hlen:bs.length+1<=140737488355328) (hBw:B<=w.heap.size) :
 Calls Tryz.prog 120 #[.pointer (some ⟨b,0,none⟩),.int .u8 c] w fun e w'=>e = .returned .nilIface/\(Lib.BuilderAt 140 5 B b (.pointer (some ⟨b,0,none⟩)) (bs++[.int .u8 c]) w'/\Below B w w'):=by
 obtain ⟨i0,hi,l,f,i⟩:=info_parts MI
 go_enter Tryz.func120,Tryz.ntmps120
 go_wp2_with (go_at_call 157;refine (IK B b bs _ h).mono ?_)
 rintro e w1 ⟨rfl,h1,hb1⟩;obtain ⟨hB,v,a,hown,m⟩:=h1;have c0:w1.cell? ⟨b,0,none⟩=some (.pointer (some ⟨b,0,none⟩)):=by rw [Lib.cell_of_heap a];rfl
 have c1:w1.cell? ⟨b,1,none⟩=some v:=by rw [Lib.cell_of_heap a];rfl
 go_wp2_with (at_builtin;refine wpList_append_own _ rfl _ _ 32 rfl B 5 i0 (.int .u8 0) 1 1 Tryz.underlying32 hi l f i rfl (by decide) _ _ _ rfl (hown.alloc _) ⟨w1.heap.size,0,none⟩ 1 1 [.int .u8 c] rfl rfl ?c1 ?c2 ?c3 ?c4 ?c5 ?_)
 case c1 =>
  intro j u hj
  match j,hj with
  | 0,hj=>simp at hj;subst hj;simp [Addr.add]
 case c2=>intro u hu;simp at hu;subst hu;rfl
 case c3=>unfold maxLen;omega
 case c4=>omega
 case c5=>have:=hb1.size;simp;omega
 intro v' w2 hown' hgrow _;have n:b<w1.heap.size:=by
  rcases We b w1.heap.size with h' | h'
  ·exact h'
  simp [Xt h'] at a
 have d:w2.heap[b]?=some (.cells #[.pointer (some ⟨b,0,none⟩),v] 140 (0,0)):=by
  rw [hgrow.block b (by simp;omega) (fun e=>m e.symm),Lib.alloc_old w1 _ b n];exact a
 have d0:w2.cell? ⟨b,0,none⟩=some (.pointer (some ⟨b,0,none⟩)):=by rw [Lib.cell_of_heap d];rfl
 have d1:w2.cell? ⟨b,1,none⟩=some v:=by rw [Lib.cell_of_heap d];rfl
 have f1:w2.frozen? ⟨b,1,none⟩=false:=Lib.frozen_of_heap d 1;obtain ⟨g,cap,rfl⟩:∃ g cap,v' = .slice (some ⟨g,0,none⟩) (bs.length+1) cap:=by
  rcases hown'.2 with ⟨_,h0⟩ | ⟨g,cap,cur,hv,_⟩
  ·omega
  exact ⟨g,cap,hv⟩
 go_wp2
 go_ret
 refine ⟨rfl,?_,?_⟩
 ·exact Lib.BuilderAt.put (T:=140) (e:=5) hB d (bs':=bs++[.int .u8 c]) (by simpa using hown') (by decide)
 exact ((hb1.alloc (by have:=hb1.size;omega) _).grown hgrow (by have:=hb1.size;simp;omega) (fun k hk=>(hown.lt k hk).1)).setCell (p:=⟨b,1,none⟩) hB _
theorem iJ (B b:Nat) (bs:List Value) (s:ByteArray) (w:World) (h:Lib.IsBuilder 140 5 B b bs w) (hlen:bs.length+s.size<=140737488355328) (hBw:B<=w.heap.size) :
 Calls Tryz.prog 122 #[.pointer (some ⟨b,0,none⟩),.string s] w fun e w'=>e = .returned (.tuple #[.int .i64 s.size,.nilIface])/\(Lib.BuilderAt 140 5 B b (.pointer (some ⟨b,0,none⟩)) (bs++Lib.strCells s) w'/\Below B w w'):=by
 obtain ⟨i0,hi,i,d,f⟩:=info_parts MI
 go_enter Tryz.func122,Tryz.ntmps122
 go_wp2_with (go_at_call 157;refine (IK B b bs _ h).mono ?_)
 rintro e w1 ⟨rfl,h1,hb1⟩;obtain ⟨hB,v,a,hown,j⟩:=h1;have c0:w1.cell? ⟨b,0,none⟩=some (.pointer (some ⟨b,0,none⟩)):=by rw [Lib.cell_of_heap a];rfl
 have c1:w1.cell? ⟨b,1,none⟩=some v:=by rw [Lib.cell_of_heap a];rfl
 go_wp2_with (at_builtin;refine Lib.wpList_append_own_string _ rfl _ _ 32 9 rfl B 5 i0 Tryz.underlying32 Tryz.underlying9 hi i d f _ _ _ rfl hown s rfl ?c3 ?c4 ?c5 ?_)
 case c3=>unfold maxLen;omega
 case c4=>omega
 case c5=>have:=hb1.size;omega
 intro v' w2 hown' hgrow _;have l:b<w1.heap.size:=by
  rcases We b w1.heap.size with h' | h'
  ·exact h'
  simp [Xt h'] at a
 have c:w2.heap[b]?=some (.cells #[.pointer (some ⟨b,0,none⟩),v] 140 (0,0)):=by
  rw [hgrow.block b l (fun e=>j e.symm)];exact a
 have d0:w2.cell? ⟨b,0,none⟩=some (.pointer (some ⟨b,0,none⟩)):=by rw [Lib.cell_of_heap c];rfl
 have d1:w2.cell? ⟨b,1,none⟩=some v:=by rw [Lib.cell_of_heap c];rfl
 have f1:w2.frozen? ⟨b,1,none⟩=false:=Lib.frozen_of_heap c 1;obtain ⟨ao,n',cap,rfl⟩:∃ ao n' cap,v' = .slice ao n' cap:=by
  rcases hown'.2 with ⟨hv,_⟩ | ⟨g,cap,cur,hv,_⟩
  ·exact ⟨_,_,_,hv⟩
  exact ⟨_,_,_,hv⟩
 go_wp2
 go_ret2
 refine ⟨rfl,?_,?_⟩
 ·exact Lib.BuilderAt.put (T:=140) (e:=5) hB c (bs':=bs++Lib.strCells s) (by simpa [Lib.strCells_length] using hown') (by decide)
 exact (hb1.grown hgrow (by have:=hb1.size;omega) (fun k hk=>(hown.lt k hk).1)).setCell (p:=⟨b,1,none⟩) hB _
end Go.Proofs.YtfbgaddecbiimaaGreatDoor.E
end
end
