/- PolyDivides holds: Divide returns the quotient of an exact division, and ErrExact if there is none (the last of 6 texts). No condition beyond the statement's own. -/
import Derived.SizedLaws
import Derived.ChangeSlices
import Derived.Test.YtfbgaddecbiimaaGreatDoorRows
import Derived.Test.YtfbgaddecbiimaaGreatDoorCards
import Derived.Test.YtfbgaddecbiimaaGreatDoorTie
import Derived.ProofKit
import Derived.OpenShut
import Derived.ShutString
import Derived.ChangeOld
import Derived.ChangeSame
import Derived.ChangeVars
import Derived.JoinedOf
import Derived.LaidLaws
import Derived.SevenTiedAt
import Derived.Test.YtfbgaddecbiimaaGreatDoorPDivides5
set_option linter.unusedSimpArgs false
set_option linter.unusedSectionVars false
set_option linter.unusedVariables false
set_option maxRecDepth 100000
set_option maxHeartbeats 4000000
section
namespace Go.Proofs.YtfbgaddecbiimaaGreatDoor.G
structure MZ (n K:Nat) (B:Int) (u:Tm) (y:List Tm) (I:List Tm->Prop) (mu:List Tm->Nat):Prop where
 len:∀ {r},I r->fQ n r->r.length<=1600000000000
 ex:∀ {r},I r->fQ n r->∀ t∈r,(∀ x∈t.1,0<=x/\x+256<B)/\Wd K t.2
 next:∀ {t r r1 m},I (t :: r)->fQ n (t :: r)->fQ n r1->m.1.length=n->(∀ x∈m.1,0<=x)->t.1=bj m.1 u.1->m.2=t.2 / u.2->eW r1 (r++neg (kB y m))->I r1/\mu r1<mu (t :: r)
theorem le_wE:∀ {e:Ex},(∀ x∈e,(0:Int)<=x)->∀ x∈e,x<=wE e
 | [],_,x,h=>by cases h
 | a :: l,h0,x,h=>by
  have p:1<=6 ^ l.length:=Nat.pow_pos (by decide);have q:a.toNat*1<=a.toNat*6 ^ l.length:=Wi _ p;have ha:=h0 a (Q7 ..);rw [wE];rcases Qo.1 h with rfl | h
  ·omega
  have:=le_wE (fun x hx=>h0 x (Qa _ hx)) x h;omega
section
variable {n:Nat} {x y:List Tm} {u:Tm}
theorem XB.Co {E:Int} {p:List Tm} (h:XB E p) {t:Tm} (ht:t∈p):∀ k∈t.1,0<=k/\k<=E:=fun k hk=>⟨(h t ht).1 k hk,Vf (oL (h t ht).1 hk) (h t ht).2⟩
theorem muX_lt {S:List Ex} {t b:Ex} (ht:t∈S) (h:fa t b=true):(S.filter fun x=>decide (x=b)||fa b x).length<(S.filter fun x=>decide (x=t)||fa t x).length:=by
 refine filter_lt (fun z hz=>?_) ht Q3 ?_
 ·rcases XN.1 hz with g | g
  ·rw [VE g,h];exact WM _
  rw [fT h g];exact WM _
 have:=rH h;rw [this,Q8 (BJ h)];rfl
theorem Ow {W:Nat} (hW:W=1679616) (hn:n<=8) (sx:eO n x) (hy:fQ n (u :: y)) (cx:CB 12 x) (cy:CB 12 (u :: y)) (xx:XB 5 x) (xy:XB 5 (u :: y)) (lx:x.length<=6) (ly:y.length<=5) :
 ∃ I mu,MZ n (12*(W+1)) 1099511627776 u y I mu/\(∀ r,fQ n r->eW r x->I r)/\∀ r,mu r<=1415176098156:=by
 obtain ⟨Dx,Hx,x0,x1,x2,x3⟩:=cx;obtain ⟨Dy,Hy,y0,y1,y2,y3⟩:=cy;have q:((Dy:Int):Rat)≠0:=fun e=>by have:=Wz.1 (e.trans Rat.intCast_zero.symm);omega
 obtain ⟨z,z1,z2⟩:=y3;have p:=hy.nz u (Q7 ..);have G:z≠0:=fun h=>by
  rw [h,Rat.intCast_zero] at z1;exact (VB.1 z1).elim p q
 have C:=YL.of z1 q z2;have F:=z2.pos;have i:(1:Int)<=z.natAbs:=Q2;have f:(z.natAbs:Int)<=WB ^ 12:=Q2;have hE:Hy-z.natAbs<=WB ^ 12:=Q2;generalize (z.natAbs:Int)=β at *
 generalize Hy-β=E at *
 have hσ:=oe 12;have d:(WB ^ 12) ^ W=WB ^ (12*W):=(Yw ..).symm;have hH:Hx*(WB ^ 12) ^ W<=WB ^ (12*(W+1)):=by
  have:=jo (a:=12) (b:=12*W) x2 (Int.le_of_eq d) (by rw [d];exact Vz (oe _))
  rwa [show 12+12*W=12*(W+1) by omega] at this
 have hK:Dx*β ^ W<=WB ^ (12*(W+1)):=by
  have h1:β ^ W<=WB ^ (12*W):=by rw [<- d];exact rG Q2 f W
  have:=jo (a:=12) (b:=12*W) x1 h1 (VS Q2)
  rwa [show 12+12*W=12*(W+1) by omega] at this
 generalize hσe:WB ^ 12=σ at *
 have h6:6 ^ n<=W:=by rw [hW];exact XH (n:=6) (by decide) hn
 have lu:=hy.len u (Q7 ..);have c:Len n y:=fun t ht=>hy.len t (Qa _ ht);have nu:=xy.Co (Q7 ..);have ns:∀ s∈y,∀ k∈s.1,0<=k/\k<=5:=fun s hs=>xy.Co (Qa _ hs);have A:NN y:=fun s hs k hk=>(ns s hs k hk).1;have o:∀ e∈x.map (·.1),e.length=n/\∀ k∈e,k<=5:=fun e he=>by
  obtain ⟨t,ht,rfl⟩:=Qs.1 he;exact ⟨sx.len t ht,fun k hk=>(xx.Co ht k hk).2⟩
 have B:=SL_len (X:=x.map (·.1)) (u:=u.1) (y:=y) (by rw [QZ];exact lx) ly;have wv:∀ {m t:Tm},m.1.length=n->(∀ k∈m.1,0<=k)->t.1=bj m.1 u.1->∀ s∈y,wE (bj s.1 m.1)+1<=wE t.1:=fun {m t} lm nm ht s hs=>by
  rw [ht,Fg ((c s hs).trans lm.symm) (A s hs) nm,Fg (lm.trans lu.symm) nm (fun k hk=>(nu k hk).1)];have:=wE_gt (lu.trans (c s hs).symm) ((Qv.1 hy.ord).1 s hs) (fun k hk=>(nu k hk).1) (ns s hs);omega
 refine ⟨fun r=>RC (x.map (·.1)) u.1 y r/\CF (dW Dx β W fun e=>wE e+1) (gW σ fun e=>wE e+1) (Hx*σ ^ W) r/\∀ t∈r,wE t.1+1<=W,fun r=>match r with
  | []=>0
  | t :: _=>((SL (x.map (·.1)) u.1 y).filter fun x=>decide (x=t.1)||fa t.1 x).length,⟨?_,?_,?_⟩,?_,?_⟩
 ·intro r h hr;have:=BL (l:=r.map (·.1)) (S:=SL (x.map (·.1)) u.1 y) (VK.2 hr.dst.ne) fun e he=>by
   obtain ⟨t,ht,rfl⟩:=Qs.1 he;exact h.1.mem hy xy o ht
  rw [QZ] at this;omega
 ·intro r h hr t ht;obtain ⟨h1,h2,h3⟩:=h;refine ⟨fun k hk=>⟨(h1 t ht).1 k hk,?_⟩,CF.wd x0 i f h2 hH hK ht⟩;have a:=le_wE (h1 t ht).1 k hk;have b:=h3 t ht;omega
 ·intro t r r1 m h hr hr1 lm nm ht hm he;obtain ⟨h1,h2,h3⟩:=h;have hw:=wv lm nm ht;refine ⟨⟨RC.next lu c lm A nm ht h1 hr1.dst fun e=>he.co e,CF.next i f hE p hm (h3 t (Q7 ..)) Q2 C (fun s hs=>by have:=hw s hs;omega) h2 (fun w hw=>hr.len w (Qa _ hw)) (Len.neg (Len.kB c lm)) hr1.dst fun e=>he.co e,fun w hw'=>?_⟩,?_⟩
  ·obtain ⟨v,hv,e⟩:=hr1.dst.from (fun e=>he.co e) hw';rw [<- e];rcases QT.1 hv with g | g
   ·exact h3 v (Qa _ g)
   obtain ⟨v',D,rfl⟩:=Qs.1 g;obtain ⟨s,hs,rfl⟩:=Qs.1 D;have a:=hw s hs;have b:=h3 t (Q7 ..);show wE (bj s.1 m.1)+1<=W;omega
  have j:=h1.mem hy xy o (Q7 ..);cases r1 with
  | nil=>exact Yo (V5.2 ⟨j,Q3⟩)
  | cons b r1=>exact muX_lt j (AH oH hy.M3 hr.M3 hr1.dst lm ht he (Q7 ..))
 ·intro r hr he;have hx:=XB.of hr.dst (fun e=>he.co e) xx;refine ⟨RC.start lu c hr.len (fun t ht k hk=>(hx.Co ht k hk).1) fun t ht=>?_,eO.CF (Im Q2 _) hr.dst sx.len (fun e=>he.co e) (CF.start i f (fun t ht=>?_) x3),fun t ht=>?_⟩
  ·obtain ⟨v,hv,e⟩:=hr.dst.from (fun e=>he.co e) ht;exact Qs.2 ⟨v,hv,e⟩
  ·have:=Hp (xx.Co ht);rw [sx.len t ht] at this;show wE t.1+1<=W;omega
  have:=Hp (hx.Co ht);rw [hr.len t ht] at this;omega
 intro r;cases r with
 | nil=>exact Qy _
 | cons t r=>exact Qu (Wn _ _) B
theorem CL.tail {D H:Int} {t:Tm} {p:List Tm} (h:CL D H (t :: p)):CL D H p:=by
 obtain ⟨z,h1,h2⟩:=h;exact h2.mono Q2
theorem Lk {a b r:List Tm} (hy:fQ n (u :: y)) (ha:eO n a) (hb:eO n b) (d:eW (prod a (u :: y)) r) (c:eW (prod b (u :: y)) r):a.Perm b:=ha.wH hb fun e=>(ql ha.len hb.len hy (d.trans c.symm)).co e
open Classical in
theorem J0 {p:List Tm} (sp:eO n p) (hy:fQ n (u :: y)) (cp:CB 12 p) (cy:CB 12 (u :: y)) (xp:XB 5 p) (xy:XB 5 (u :: y)) (lp:p.length<=6) (ly:y.length<=5) :
 ∃ I mu,MZ n 24 1099511627776 u y I mu/\(∀ r,eW (prod p (u :: y)) r->I r)/\∀ r,I r->mu r<=6:=by
 have d:∀ {q r},eO n q->eW (prod q (u :: y)) r->(if h:∃ q,eO n q/\eW (prod q (u :: y)) r then h.choose.length else 0)=q.length:=fun {q r} h1 h2=>by
  have hex:∃ q,eO n q/\eW (prod q (u :: y)) r:=⟨q,h1,h2⟩;rw [dif_pos hex];exact (Lk hy hex.choose_spec.1 h1 hex.choose_spec.2 h2).length_eq
 refine ⟨fun r=>∃ q,eO n q/\CB 12 q/\XB 5 q/\q.length<=6/\eW (prod q (u :: y)) r,fun r=>if h:∃ q,eO n q/\eW (prod q (u :: y)) r then h.choose.length else 0,⟨?_,?_,?_⟩,?_,?_⟩
 ·rintro r ⟨q,h1,h2,h3,h4,h5⟩ hr;have:=hr.dst.zi (fun e=>(h5.co e).symm) (S:=(prod q (u :: y)).map (·.1)) fun t ht=>Qs.2 ⟨t,ht,rfl⟩;rw [QZ] at this;have e:(prod q (u :: y)).length=q.length*(y.length+1):=dZ fun t _=>by simp [kB]
  rw [e] at this;have:=Y1 h4 (show y.length+1<=6 by omega);omega
 ·rintro r ⟨q,h1,h2,h3,h4,h5⟩ hr t ht;have hx:=XB.of hr.dst (fun e=>(h5.co e).symm) (XB.prod h1.len hy.len h3 xy);exact ⟨fun k hk=>by have:=hx.Co ht k hk;omega,hr.dst.wd (fun e=>(h5.co e).symm) (h2.prod cy) ht⟩
 ·rintro t r r1 m ⟨q,h1,h2,h3,h4,h5⟩ hr hr1 lm nm ht hm he;have f:=hy.nz u (Q7 ..);have g:t.2=m.2*u.2:=by
   rw [hm,Rat.div_def];have:=Rat.mul_inv_cancel _ f;grind
  obtain ⟨q',a,b,c⟩:=xD oH h1 h3.nn hy.M3 hr.M3 lm ht g he h5;have hl:=a.length_eq;rw [List.length_cons] at hl;refine ⟨⟨q',b.1.tail,?_,fun w hw=>h3 w (a.symm.subset (Qa _ hw)),Q2,c⟩,?_⟩
  ·obtain ⟨D,H,d0,d1,d2,d3⟩:=h2;exact ⟨D,H,d0,d1,d2,(d3.perm a).tail⟩
  show (if h:∃ q,eO n q/\eW (prod q (u :: y)) r1 then h.choose.length else 0)<_;rw [d b.1.tail c];show _<(if h:∃ q,eO n q/\eW (prod q (u :: y)) (t :: r) then h.choose.length else 0);rw [d h1 h5];omega
 ·exact fun r he=>⟨p,sp,cp,xp,lp,he⟩
 rintro r ⟨q,h1,h2,h3,h4,h5⟩;show (if h:∃ q,eO n q/\eW (prod q (u :: y)) r then h.choose.length else 0)<=6;rw [d h1 h5];exact h4
end
end Go.Proofs.YtfbgaddecbiimaaGreatDoor.G
end
section
namespace Go.Proofs.YtfbgaddecbiimaaGreatDoor.Q
open Go.RowKit Go.Proofs.YtfbgaddecbiimaaGreatDoorW.PrintWords Go.Proofs.YtfbgaddecbiimaaGreatDoorW.PrintMore Go.Proofs.YtfbgaddecbiimaaGreatDoor.V Go.Proofs.YtfbgaddecbiimaaGreatDoor.E
open Go.Proofs.YtfbgaddecbiimaaGreatDoor.P (Dg Nm vl WW RR bE gI aV jW kL dK aH bC aW cJ cD u64)
open Go.Proofs.YtfbgaddecbiimaaGreatDoor.G (Ex Tm cY co eW fQ eO iW CB XB Wd Len WB kM fk kU)
def nh (n:Nat) (B:Int) (K:Nat) (t:ae):Prop:=t.1.length=n/\(∀ e∈t.1,0<=e/\e<B)/\E8 K t.2.1
theorem nh.mono {n K L:Nat} {B:Int} {t:ae} (h:nh n B K t) (hk:K<=L):nh n B L t:=⟨h.1,h.2.1,h.2.2.mono hk⟩
theorem nh.up {n K:Nat} {B C:Int} {t:ae} (h:nh n B K t) (hk:B<=C):nh n C K t:=⟨h.1,fun e he=>⟨(h.2.1 e he).1,by have:=(h.2.1 e he).2;omega⟩,h.2.2⟩
section
variable {n K L:Nat} {B:Int} {l l' r:List ae}
theorem cmp_ex {t u:ae} (ht:nh n B K t) (hu:nh n B L u) (hn:n<=8) {c:Int} (h:cZ t.1 u.1=c):Ev (fun k=>fm k t.1 u.1) c:=by
 have h1:=ht.1;have h2:=hu.1;rw [<- h];exact xR _ _ Q2 Q2
theorem add_ex {t u:ae} (ht:nh n B K t) (hu:nh n B L u) (hKL:K+L<200000000) (he:t.1=u.1):∃ v,Ev (fun k=>hY k t.2.1 u.2.1) v/\Ev (fun k=>jc k v) (FL (gB t.2.1+gB u.2.1))/\(∀ z,nh n B (K+L+1) (t.1,v,z)/\fi (t.1,v,z)=((fi t).1,(fi t).2+(fi u).2)):=by
 obtain ⟨a1,a2,a3⟩:=ht;obtain ⟨b1,b2,b3⟩:=hu;obtain ⟨v,v1,v2,v3⟩:=xY a3.rb.1 b3.rb.1 a3.rb.2 b3.rb.2 Q2;refine ⟨v,v1,qz v2,fun z=>⟨⟨a1,a2,_,v2,v3⟩,?_⟩⟩;show (t.1,gB v)=_;rw [mq v2];rfl
theorem Jw (hn:n<=8) (hKL:K+L<200000000) (hl:l.length+l'.length<=1700000000000) (hx:∀ u∈l,nh n B K u) (hy:∀ u∈l',nh n B L u):∀ (s i j:Nat),i<=l.length->j<=l'.length->(l.length-i)+(l'.length-j)=s->∀ acc:List ae,acc.length<=i+j->∃ r:List ae,aL (fun k m=>dS.l0 k m (i:Int) (j:Int) ((n:Int),l,()) ((n:Int),l',()) ((0:Int),[],()) (n:Int) acc) ((n:Int),acc++r,())/\cT r=fk (cT (l.drop i)) (cT (l'.drop j))/\(∀ u∈r,nh n B (K+L+1) u)/\r.length<=s:=by
 intro s
 induction s using Nat.strongRecOn with
 | _ s ih =>
 intro i j hi hj hs acc ha;have C:∀ {i:Nat},¬ (i:Int)<(i:Int):=fun {i}=>Q2;have p:∀ (h:i<l.length),fk (cT (l.drop i)) (cT (l'.drop j))=fi l[i] :: fk (cT (l.drop (i+1))) (cT (l'.drop j))->∃ r:List ae,aL (fun k m=>dS.j0 k m (i:Int) (j:Int) (1:Int) ((n:Int),l,()) ((n:Int),l',()) ((0:Int),[],()) (n:Int) acc) ((n:Int),acc++r,())/\cT r=fk (cT (l.drop i)) (cT (l'.drop j))/\(∀ u∈r,nh n B (K+L+1) u)/\r.length<=s:=fun h he=>by
  have e:(cH (t:=ah) l (i:Int):ae)=l[i]:=cE h;obtain ⟨r,r1,r2,r3,r4⟩:=ih (s-1) Q2 (i+1) j h hj Q2 (acc++[l[i]]) (by simp only [Qf,List.length_cons,List.length_nil];omega);refine ⟨l[i] :: r,?_,by rw [he,eG,r2],fun v hv=>?_,by simp only [List.length_cons];omega⟩
  ·rw [show acc++l[i] :: r=(acc++[l[i]])++r by simp];refine aL.bT rfl (aL.iT (by dsimp only;omega) ?_);show aL (fun k m=>if (List.length acc+List.length [(cH (t:=ah) l (i:Int):ae)])*80<=140737488355328 then dS.l0 k m (wrap64 ((i:Int)+(1:Int))) (j:Int) ((n:Int),l,()) ((n:Int),l',()) ((0:Int),[],()) (n:Int) (acc++[(cH (t:=ah) l (i:Int):ae)]) else none) _;rw [e,fY Q2];exact aL.iT (by simp only [List.length_cons,List.length_nil];omega) r1
  rcases Qo.1 hv with rfl | hv
  ·exact (hx _ (Qi h)).mono Q2
  exact r3 v hv
 have y:∀ (h:j<l'.length),fk (cT (l.drop i)) (cT (l'.drop j))=fi l'[j] :: fk (cT (l.drop i)) (cT (l'.drop (j+1)))->∃ r:List ae,aL (fun k m=>dS.j0 k m (i:Int) (j:Int) (-1:Int) ((n:Int),l,()) ((n:Int),l',()) ((0:Int),[],()) (n:Int) acc) ((n:Int),acc++r,())/\cT r=fk (cT (l.drop i)) (cT (l'.drop j))/\(∀ u∈r,nh n B (K+L+1) u)/\r.length<=s:=fun h he=>by
  have e:(cH (t:=ah) l' (j:Int):ae)=l'[j]:=cE h;obtain ⟨r,r1,r2,r3,r4⟩:=ih (s-1) Q2 i (j+1) hi h Q2 (acc++[l'[j]]) (by simp only [Qf,List.length_cons,List.length_nil];omega);refine ⟨l'[j] :: r,?_,by rw [he,eG,r2],fun v hv=>?_,by simp only [List.length_cons];omega⟩
  ·rw [show acc++l'[j] :: r=(acc++[l'[j]])++r by simp];refine aL.bF rfl (aL.bT rfl (aL.iT (by dsimp only;omega) ?_));show aL (fun k m=>if (List.length acc+List.length [(cH (t:=ah) l' (j:Int):ae)])*80<=140737488355328 then dS.l0 k m (i:Int) (wrap64 ((j:Int)+(1:Int))) ((n:Int),l,()) ((n:Int),l',()) ((0:Int),[],()) (n:Int) (acc++[(cH (t:=ah) l' (j:Int):ae)]) else none) _;rw [e,fY Q2];exact aL.iT (by simp only [List.length_cons,List.length_nil];omega) r1
  rcases Qo.1 hv with rfl | hv
  ·exact (hy _ (Qi h)).mono Q2
  exact r3 v hv
 by_cases ci:i=l.length
 ·have d0:l.drop i=[]:=by rw [ci];exact V2
  by_cases cj:j=l'.length
  ·have d1:l'.drop j=[]:=by rw [cj];exact V2
   refine ⟨[],?_,by rw [d0,d1,show cT ([]:List ae)=[] from rfl,G.rh],(fun v hv=>by cases hv),Q3⟩;rw [Vq];exact aL.step (fun k m=>dS.aN k m _ _ _ _ _ _ _) (aL.bind (a:=false) (bF (Q8 (by show ¬ (i:Int)<(l.length:Int);omega)) (tk (by show ¬ (j:Int)<(l'.length:Int);omega))) (aL.bF rfl (aL.of (aV _))))
  have b:j<l'.length:=Q2;obtain ⟨r,r1,r2⟩:=y b (by rw [d0,eJ b,eG,show cT ([]:List ae)=[] from rfl,Hh]);exact ⟨r,aL.step (fun k m=>dS.aN k m _ _ _ _ _ _ _) (aL.bind (a:=true) (bF (Q8 (by show ¬ (i:Int)<(l.length:Int);omega)) (BP (by show (j:Int)<(l'.length:Int);omega))) (aL.bT rfl (aL.bT (by rw [ci];exact Yh _) r1))),r2⟩
 have d:i<l.length:=Q2;have x:∀ {g:Nat->Option Bool},Ev (fun k=>bif decide ((i:Int)<(l.length:Int)) then some true else g k) true:=fun {g}=>bT (Qb Q2) (aV _);have q:((i:Int)==(l.length:Int))=false:=QE.2 Q2
 by_cases cj:j=l'.length
 ·have d1:l'.drop j=[]:=by rw [cj];exact V2
  obtain ⟨r,r1,r2⟩:=p d (by rw [d1,eJ d,eG,show cT ([]:List ae)=[] from rfl,Ki]);exact ⟨r,aL.step (fun k m=>dS.aN k m _ _ _ _ _ _ _) (aL.bind (a:=true) x (aL.bT rfl (aL.bF q (aL.bT (by rw [cj];exact Yh _) r1)))),r2⟩
 have b:j<l'.length:=Q2;have A:((j:Int)==(l'.length:Int))=false:=QE.2 Q2;have ei:(cH (t:=ah) l (i:Int):ae)=l[i]:=cE d;have ej:(cH (t:=ah) l' (j:Int):ae)=l'[j]:=cE b;have ht:=hx _ (Qi d);have hu:=hy _ (Qi b);have o:l[i].1.length=l'[j].1.length:=ht.1.trans hu.1.symm;have c3:=cmp3 o;have f:∀ {R:ay} {c:Int},cZ l[i].1 l'[j].1=c->aL (fun k m=>dS.j0 k m (i:Int) (j:Int) c ((n:Int),l,()) ((n:Int),l',()) ((0:Int),[],()) (n:Int) acc) R->aL (fun k m=>dS.l0 k m (i:Int) (j:Int) ((n:Int),l,()) ((n:Int),l',()) ((0:Int),[],()) (n:Int) acc) R:=fun {R c} hc h=>by
  refine aL.step (fun k m=>dS.aN k m _ _ _ _ _ _ _) (aL.bind (a:=true) x (aL.bT rfl (aL.bF q (aL.bF A (aL.iT (by show 0<=(i:Int)/\(i:Int)<(l.length:Int);omega) (aL.iT (by show 0<=(j:Int)/\(j:Int)<(l'.length:Int);omega) ?_))))));rw [ei,ej];exact aL.bind (cmp_ex ht hu hn hc) h
 by_cases g:G.fa l[i].1 l'[j].1=true
 ·rw [Qk g] at c3;obtain ⟨r,r1,r2⟩:=p d (by rw [eJ d,eJ b,eG,eG,OQ g]);exact ⟨r,f c3 r1,r2⟩
 by_cases g':G.fa l'[j].1 l[i].1=true
 ·rw [Qc g,Qk g'] at c3;obtain ⟨r,r1,r2⟩:=y b (by rw [eJ d,eJ b,eG,eG,OP g g']);exact ⟨r,f c3 r1,r2⟩
 rw [Qc g,Qc g'] at c3;obtain ⟨v,v1,v2,v3⟩:=add_ex ht hu hKL (G.kh o (by simpa using g) (by simpa using g'));obtain ⟨v3,v4⟩:=v3 ();have hd:fk (cT (l.drop i)) (cT (l'.drop j))=fk (fi l[i] :: cT (l.drop (i+1))) (fi l'[j] :: cT (l'.drop (j+1))):=by rw [eJ d,eJ b,eG,eG]
 by_cases z:gB l[i].2.1+gB l'[j].2.1=0
 ·obtain ⟨r,r1,r2,r3,r4⟩:=ih (s-2) Q2 (i+1) (j+1) d b Q2 acc Q2;refine ⟨r,f c3 (aL.bF rfl (aL.bF rfl (aL.iT (by show 0<=(i:Int)/\(i:Int)<(l.length:Int);omega) (aL.iT (by show 0<=(j:Int)/\(j:Int)<(l'.length:Int);omega) ?_)))),by rw [hd,OO g g' z,r2],r3,Q2⟩;rw [ei,ej];refine aL.bind v1 (aL.bind v2 (aL.bF (sgn_nz z) ?_));show aL (fun k m=>dS.l0 k m (wrap64 ((i:Int)+(1:Int))) (wrap64 ((j:Int)+(1:Int))) ((n:Int),l,()) ((n:Int),l',()) ((0:Int),[],()) (n:Int) acc) _;rw [fY Q2,fY Q2];exact r1
 obtain ⟨r,r1,r2,r3,r4⟩:=ih (s-2) Q2 (i+1) (j+1) d b Q2 (acc++[(l[i].1,v,())]) (by simp only [Qf,List.length_cons,List.length_nil];omega);refine ⟨(l[i].1,v,()) :: r,?_,by rw [hd,OR g g' z,eG,r2,v4],fun w hw=>?_,by simp only [List.length_cons];omega⟩
 ·rw [show acc++(l[i].1,v,()) :: r=(acc++[(l[i].1,v,())])++r by simp];refine f c3 (aL.bF rfl (aL.bF rfl (aL.iT (by show 0<=(i:Int)/\(i:Int)<(l.length:Int);omega) (aL.iT (by show 0<=(j:Int)/\(j:Int)<(l'.length:Int);omega) ?_))));rw [ei,ej];refine aL.bind v1 (aL.bind v2 (aL.bT (Nq z) (aL.iT (by show 0<=(i:Int)/\(i:Int)<(l.length:Int);omega) (aL.iT (by simp only [List.length_cons,List.length_nil];omega) ?_))));show aL (fun k m=>dS.l0 k m (wrap64 ((i:Int)+(1:Int))) (wrap64 ((j:Int)+(1:Int))) ((n:Int),l,()) ((n:Int),l',()) ((0:Int),[],()) (n:Int) (acc++[(l[i].1,v,())])) _;rw [fY Q2,fY Q2];exact r1
 rcases Qo.1 hw with rfl | hw
 ·exact v3
 exact r3 w hw
theorem DG {l:List ae} {v:bA} {p:Rat} (hok:∀ u∈l,nh n B K u) (hv:RB WW v p) (hp:Sz WW L p) (c0:p≠0) (hl:l.length<=1700000000000) (hKL:K+L<1000000000):∃ r,Ev (fun k=>fJ k ((n:Int),l,()) v) ((n:Int),r,())/\r.length=l.length/\(∀ u∈r,nh n B (K+L) u)/\cT r=kU p (cT l):=by
 have b:=qz hv;have a:=pS (n:=l.length) (P:=fun i=>∀ acc:List ae,acc.length=i->∃ r:List ae,r.length=l.length-i/\(∀ u∈r,nh n B (K+L) u)/\cT r=kU p (cT (l.drop i))/\aL (fun k m=>fJ.l0 k m l (l.length:Int) (i:Int) v ((0:Int),[],()) (n:Int) acc) ((n:Int),acc++r,())) ?_ ?_ 0 (Qy _) [] rfl
 ·obtain ⟨r,h1,h2,h3,h4⟩:=a;exact ⟨r,Ev.step (fun k=>Bl k _ _) (Ev.bind b (bF (by rw [qa];exact Q8 c0) h4.diag)),Q2,h2,h3⟩
 ·intro acc hacc;exact ⟨[],Q3,(fun u hu=>by cases hu),by rw [V2];rfl,aL.step (fun k m=>fJ.aN k m _ _ _ _ _ _ _) (aL.bF (Q8 Q2) (by rw [Vq];exact aL.of (aV _)))⟩
 intro i hi ih acc hacc;have e:(cH (t:=ah) l (i:Int):ae)=l[i]:=cE hi;obtain ⟨o1,o2,o3⟩:=hok l[i] (Qi hi);obtain ⟨w,w1,w2,w3⟩:=oJ o3.rb.1 hv o3.rb.2 hp Q2;obtain ⟨r,h1,h2,h3,h4⟩:=ih (acc++[(l[i].1,w,())]) (by simp [hacc]);refine ⟨(l[i].1,w,()) :: r,by simp only [List.length_cons];omega,fun u hu=>?_,?_,?_⟩
 ·rcases Qo.1 hu with rfl | hu
  ·exact ⟨o1,o2,_,w2,w3⟩
  exact h2 u hu
 ·rw [eJ hi,eG,eG,h3];show (l[i].1,gB w) :: _=(l[i].1,gB l[i].2.1*p) :: _;rw [mq w2];rfl
 rw [show acc++(l[i].1,w,()) :: r=(acc++[(l[i].1,w,())])++r by simp];refine aL.step (fun k m=>fJ.aN k m _ _ _ _ _ _ _) (aL.bT (Qb Q2) (aL.iT Q2 ?_));rw [e];refine aL.bind w1 (aL.iT (by simp only [List.length_cons,List.length_nil];omega) ?_);rw [fY Q2];exact h4
theorem DF {l:List ae} {t:ae} (hn:n<=8) (hB:B<=1099511627776) (hl:l.length<=100000) (hKL:K+L<1000000000) (hok:∀ u∈l,nh n B K u) (ht:nh n B L t) (hb:∀ u∈l,∀ e∈G.bj u.1 t.1,0<=e/\e<B) :
 ∃ ls:List ae,Ev (fun k=>bX k ((n:Int),l,()) t) ((n:Int),ls,())/\ls.length=l.length/\(∀ u∈ls,nh n B (K+L) u)/\cT ls=G.kB (cT l) (fi t):=by
 obtain ⟨t1,t2,t3⟩:=ht;have c:=pS (n:=l.length) (P:=fun i=>∀ acc:List ae,acc.length=i->∃ ls:List ae,ls.length=l.length-i/\(∀ u∈ls,nh n B (K+L) u)/\cT ls=G.kB (cT (l.drop i)) (fi t)/\aL (fun k m=>bX.l0 k m l (l.length:Int) (i:Int) ((n:Int),l,()) t ((0:Int),[],()) (n:Int) acc) ((n:Int),acc++ls,())) ?_ ?_ 0 (Qy _) [] rfl
 ·obtain ⟨ls,h1,h2,h3,h4⟩:=c;exact ⟨ls,Ev.step (fun k=>tP k _ _) h4.diag,Q2,h2,h3⟩
 ·intro acc hacc;exact ⟨[],Q3,(fun u h=>by cases h),by rw [V2];rfl,aL.step (fun k m=>bX.aN k m _ _ _ _ _ _ _ _) (aL.bF (Q8 Q2) (by rw [Vq];exact aL.of (aV _)))⟩
 intro i hi ih acc hacc;have e:(cH (t:=ah) l (i:Int):ae)=l[i]:=cE hi;obtain ⟨o1,o2,o3⟩:=hok l[i] (Qi hi);have d:=hb l[i] (Qi hi);obtain ⟨v,v1,v2,v3⟩:=oJ o3.rb.1 t3.rb.1 o3.rb.2 t3.rb.2 Q2;obtain ⟨ls,h1,h2,h3,h4⟩:=ih (acc++[(G.bj l[i].1 t.1,v,())]) (by simp [hacc]);refine ⟨(G.bj l[i].1 t.1,v,()) :: ls,by simp only [List.length_cons];omega,fun u hu=>?_,?_,?_⟩
 ·rcases Qo.1 hu with rfl | hu
  ·exact ⟨by rw [G.dD (o1.trans t1.symm)];exact o1,d,⟨_,v2,v3⟩⟩
  exact h2 u hu
 ·rw [eJ hi,eG,eG,h3];show _ :: _=(G.bj l[i].1 t.1,gB l[i].2.1*gB t.2.1) :: _;rw [fi,mq v2];rfl
 rw [show acc++(G.bj l[i].1 t.1,v,()) :: ls=(acc++[(G.bj l[i].1 t.1,v,())])++ls by simp];refine aL.step (fun k m=>bX.aN k m _ _ _ _ _ _ _ _) (aL.bT (Qb Q2) (aL.iT Q2 (aL.iT (by show (0:Int)<=(n:Int)/\(n:Int)<=(n:Int)/\8*(n:Int).toNat<=281474976710656/\(n:Int).toNat<=maxLen;unfold maxLen;omega) ?_)));rw [e];show aL (fun k g=>bX.l1 k k g l (l.length:Int) (i:Int) (List.length (List.replicate (Int.toNat (n:Int)) ((0:Int):Int)):Int) (0:Int) ((n:Int),l,()) t ((0:Int),[],()) (n:Int) acc l[i] (List.replicate (Int.toNat (n:Int)) ((0:Int):Int))) _;rw [Int.toNat_natCast,QI,<- EF n l[i].1 t.1];have key:=pS (n:=n) (P:=fun j=>dV (fun k o g=>bX.l1 k o g l (l.length:Int) (i:Int) (n:Int) (j:Int) ((n:Int),l,()) t ((0:Int),[],()) (n:Int) acc l[i] (EH n l[i].1 t.1 j)) ((n:Int),(acc++[(G.bj l[i].1 t.1,v,())])++ls,())) ?_ ?_ 0 (Qy _)
 ·exact key.diag
 ·rw [EG o1 t1];refine dV.step (fun k o g=>bX.eF k o g _ _ _ _ _ _ _ _ _ _ _ _) (dV.bF (Q8 Q2) (dV.bind v1 (dV.iT (by simp only [List.length_cons,List.length_nil];omega) (dV.of ?_))));rw [fY Q2];exact h4
 intro j hj ihj;have f:(EH n l[i].1 t.1 j).length=n:=by simp [EH]
 have e1:(cH (t:=(.int .i64)) l[i].1 (j:Int):Int)=l[i].1.getD j 0:=rfl;have e2:(cH (t:=(.int .i64)) t.1 (j:Int):Int)=t.1.getD j 0:=rfl;have b:j<l[i].1.length:=Q2;have a:j<t.1.length:=Q2;have a1:=o2 _ (Qi b);have a2:=t2 _ (Qi a);have g1:l[i].1.getD j 0=l[i].1[j]:=by rw [Q6,Qh b];rfl
 have g2:t.1.getD j 0=t.1[j]:=by rw [Q6,Qh a];rfl
 refine dV.step (fun k o g=>bX.eF k o g _ _ _ _ _ _ _ _ _ _ _ _) (dV.bT (Qb Q2) (dV.iT Q2 (dV.iT Q2 (dV.iT Q2 ?_))));rw [e1,e2,fY Q2,cD Q2 Q2,Int.toNat_natCast,Is hj];exact ihj
theorem Jv (hok:∀ u∈l,nh n B K u) (hok':∀ u∈l',nh n B L u) (hn:n<=8) (hl:l.length+l'.length<=1700000000000) (hKL:K+L<100000000):∃ r,Ev (fun k=>Bk k ((n:Int),l,()) ((n:Int),l',())) ((n:Int),r,())/\r.length<=l.length+l'.length/\(∀ u∈r,nh n B (K+L+2) u)/\cT r=fk (cT l) (kU ((-1:Int):Rat) (cT l')):=by
 obtain ⟨v,v1,v2,v3⟩:=Gv (z:=-1) Q2 Q2;obtain ⟨s,s1,s2,s3,s4⟩:=DG hok' v2 v3 (by decide) Q2 Q2;obtain ⟨r,r1,r2,r3,r4⟩:=Jw hn Q2 Q2 hok s3 _ 0 0 (Qy _) (Qy _) rfl [] Q3;rw [V9,V9,s4] at r2;exact ⟨r,Ev.step (fun k=>Ge k _ _) (Ev.bind (Ev.step (fun k=>Gf k _) (Ev.bind v1 (Ev.bind s1 (aV _)))) (Ev.bind (Ev.step (fun k=>Gk k _ _) r1.diag) (aV _))),Q2,r3,r2⟩
def yZ (n:Nat) (a b:List Int) (j:Nat):List Int:=(List.range n).map fun i=>if i<j then a.getD i 0-b.getD i 0 else 0
theorem Md (n:Nat) (a b:List Int):yZ n a b 0=List.replicate n 0:=by
 apply QP (by simp [yZ]);intro i h1 h2;simp [yZ]
theorem Oq {n:Nat} {a b:List Int} {j:Nat} (h:j<n):(yZ n a b j).set j (a.getD j 0-b.getD j 0)=yZ n a b (j+1):=by
 apply QP (by simp [yZ]);intro i h1 h2;simp only [yZ,VU,Qz,VR]
 by_cases c:j=i
 ·subst c;rw [Qk rfl,Qk Q2]
 rw [Qc c]
 by_cases d:i<j
 ·rw [Qk d,Qk Q2]
 rw [Qc d,Qc Q2]
theorem Me {n:Nat} {a b:List Int} (ha:a.length=n) (hb:b.length=n):yZ n a b n=G.fI a b:=by
 apply QP (by simp [yZ,G.fI,ha,hb]);intro i h1 h2;have hi:i<n:=by simpa [yZ] using h1
 simp only [yZ,Qz,VR,G.fI,WR,Qk hi];rw [Q6,Q6,Qh Q2,Qh Q2];rfl
noncomputable def noM:ae:=([],(false,[],[],()),())
theorem xN {t u:ae} (ht:nh n B K t) (hu:nh n B L u) (hn:n<=8) (hB:B<=1099511627776) (hKL:K+L<1000000000) (p:gB u.2.1≠0) :
 (∃ v,Ev (fun k=>cR k t u) ((G.fI t.1 u.1,v,()),true,())/\(∀ x∈G.fI t.1 u.1,0<=x)/\RB WW v (gB t.2.1 / gB u.2.1)/\Sz WW (K+L) (gB t.2.1 / gB u.2.1))∨Ev (fun k=>cR k t u) (noM,false,())/\∃ i,t.1.getD i 0<u.1.getD i 0:=by
 obtain ⟨t1,t2,t3⟩:=ht;obtain ⟨u1,u2,u3⟩:=hu;obtain ⟨v,v1,v2,v3⟩:=Gw t3.rb.1 u3.rb.1 t3.rb.2 u3.rb.2 p Q2;have l:=pS (n:=n) (P:=fun j=>(∀ i,i<j->u.1.getD i 0<=t.1.getD i 0)->(aL (fun k m=>cR.l0 k m t.1 (n:Int) (j:Int) t u noM (yZ n t.1 u.1 j)) ((G.fI t.1 u.1,v,()),true,())/\∀ i,i<n->u.1.getD i 0<=t.1.getD i 0)∨(aL (fun k m=>cR.l0 k m t.1 (n:Int) (j:Int) t u noM (yZ n t.1 u.1 j)) (noM,false,())/\∃ i,t.1.getD i 0<u.1.getD i 0)) ?_ ?_ 0 (Qy _) (fun i hi=>Q2)
 ·have hc:0<=(List.length t.1:Int)/\(List.length t.1:Int)<=(List.length t.1:Int)/\8*(Int.toNat (List.length t.1:Int))<=281474976710656/\(Int.toNat (List.length t.1:Int))<=maxLen:=by
   rw [t1];unfold maxLen;omega
  have go:∀ {R:ae×Bool×Unit},aL (fun k m=>cR.l0 k m t.1 (n:Int) ((0:Nat):Int) t u noM (yZ n t.1 u.1 0)) R->Ev (fun k=>cR k t u) R:=fun {R} h=>by
   refine Ev.step (fun k=>xO k _ _) (iT hc ?_);rw [t1,Int.toNat_natCast,<- Md n t.1 u.1];exact h.diag
  rcases l with ⟨h,g⟩ | ⟨h,g⟩
  ·refine .inl ⟨v,go h,fun x hx=>?_,v2,v3⟩;obtain ⟨i,hi,rfl⟩:=QL hx;rw [G.iS (t1.trans u1.symm)] at hi;have:=g i Q2;have e:=G.jR (t1.trans u1.symm) i;rw [G.eB (by rw [G.iS (t1.trans u1.symm)];exact hi)] at e;rw [e];omega
  exact .inr ⟨go h,g⟩
 ·intro hall;refine .inl ⟨?_,hall⟩;rw [Me t1 u1];exact aL.step (fun k m=>cR.aN k m _ _ _ _ _ _ _) (aL.bF (Q8 Q2) (aL.bind v1 (aL.of (aV _))))
 intro j hj ih hall;have o:(yZ n t.1 u.1 j).length=n:=by simp [yZ]
 have e1:(cH (t:=(.int .i64)) t.1 (j:Int):Int)=t.1.getD j 0:=rfl;have e2:(cH (t:=(.int .i64)) u.1 (j:Int):Int)=u.1.getD j 0:=rfl;have f:j<t.1.length:=Q2;have b:j<u.1.length:=Q2;have a1:=t2 _ (Qi f);have a2:=u2 _ (Qi b);rw [<- G.eB f] at a1;rw [<- G.eB b] at a2;have e3:(cH (t:=(.int .i64)) (yZ n t.1 u.1 (j+1)) (j:Int):Int)=t.1.getD j 0-u.1.getD j 0:=by
  show (yZ n t.1 u.1 (j+1)).getD j 0=_;rw [G.eB (by simp [yZ];exact hj)];simp [yZ]
 have a:∀ {R:ae×Bool×Unit},aL (fun k m=>bif decide (t.1.getD j 0-u.1.getD j 0<(0:Int)) then some (noM,false,()) else cR.l0 k m t.1 (n:Int) ((j+1:Nat):Int) t u noM (yZ n t.1 u.1 (j+1))) R->aL (fun k m=>cR.l0 k m t.1 (n:Int) (j:Int) t u noM (yZ n t.1 u.1 j)) R:=fun {R} h=>by
  refine aL.step (fun k m=>cR.aN k m _ _ _ _ _ _ _) (aL.bT (Qb Q2) (aL.iT Q2 (aL.iT Q2 (aL.iT Q2 (aL.iT (by rw [Vg];omega) ?_)))));rw [e1,e2,fY Q2,cD Q2 Q2,Int.toNat_natCast,Oq hj,e3];exact h
 by_cases c:t.1.getD j 0-u.1.getD j 0<0
 ·exact .inr ⟨a (aL.bT (Qb c) (aL.of (aV _))),j,Q2⟩
 rcases ih (fun i hi=>by
  by_cases d:i=j
  ·subst d;omega
  exact hall i Q2) with ⟨h,g⟩ | ⟨h,g⟩
 ·exact .inl ⟨a (aL.bF (Q8 c) h),g⟩
 exact .inr ⟨a (aL.bF (Q8 c) h),g⟩
end
open Go.Proofs.YtfbgaddecbiimaaGreatDoor.G (neg kB prod bj NN MZ)
section
variable {n K L:Nat} {B:Int}
theorem NS {l:List ae} {C:Nat} {B':Int} (h:∀ u∈l,nh n B' C u) (hx:∀ t∈cT l,(∀ x∈t.1,0<=x/\x+256<B)/\Wd K t.2):∀ u∈l,nh n (B-256) (K+1) u:=fun u hu=>by
 obtain ⟨o1,o2,o3⟩:=h u hu;obtain ⟨a,b⟩:=hx _ (kq hu);exact ⟨o1,fun e he=>by have:=a e he;omega,_,o3.rb.1,Cs b⟩
theorem EJ {u0:ae} {ys:List ae} {I:List Tm->Prop} {mu:List Tm->Nat} (hn:n<=8) (hB:B<=1099511627776) (hB0:1024<=B) (hKL:K+L<40000000) (hy:∀ w∈u0 :: ys,su n L w) (sy:fQ n (cT (u0 :: ys))) (ly:ys.length<=1000) (D:MZ n K B (fi u0) (cT ys) I mu) :
 ∀ (s:Nat) (r acc:List ae),mu (cT r)<=s->I (cT r)->(∀ w∈r,nh n (B-256) (K+1) w)->fQ n (cT r)->acc.length+s<=1500000000000 ->
 (∃ q:List ae,aL (fun k m=>dR.l0 k m ((n:Int),r,()) ((n:Int),u0 :: ys,()) ((0:Int),[],()) acc) (((n:Int),acc++q,()),true,())/\(∀ w∈q,nh n B (K+1+L) w)/\q.length<=s/\fQ n (cT q)/\NN (cT q)/\eW (prod (cT q) (cT (u0 :: ys))) (cT r)) ∨
 (aL (fun k m=>dR.l0 k m ((n:Int),r,()) ((n:Int),u0 :: ys,()) ((0:Int),[],()) acc) (((0:Int),[],()),false,())/\∀ q,eO n q->NN q->¬ eW (prod q (cT (u0 :: ys))) (cT r)):=by
 intro s
 induction s using Nat.strongRecOn with
 | _ s ih =>
 intro r acc hs hI hok sr ha;have C:∀ w∈u0 :: ys,nh n B L w:=fun w hw=>nh.up (B:=256) (hy w hw) Q2;have ou:=C u0 (Q7 ..);have A:gB u0.2.1≠0:=sy.nz (fi u0) (Q7 ..);cases r with
 | nil =>
  refine .inl ⟨[],?_,(fun w hw=>by cases hw),Q3,fQ.nil n,(fun w hw=>by cases hw),.refl _⟩;rw [Vq];exact aL.step (fun k m=>dR.aN k m _ _ _ _) (aL.bF rfl (aL.of (aV _)))
 | cons t r =>
  have ot:=hok t (Q7 ..);have c1:decide ((List.length (t :: r):Int)>(0:Int))=true:=gt0 Q3;have h0:0<=(0:Int)/\(0:Int)<(List.length (t :: r):Int):=by simp only [List.length_cons];omega
  have o:0<=(0:Int)/\(0:Int)<(List.length (u0 :: ys):Int):=by simp only [List.length_cons];omega
  have lr:(t :: r).length<=1600000000000:=by rw [<- kr];exact D.len hI sr
  rcases xN (ot.up Q2:nh n B (K+1) t) ou hn hB Q2 A with ⟨v,v1,v2,v3,v4⟩ | ⟨v1,i,hi⟩
  ·have lt:=ot.1;have lu:=ou.1;have lm:(G.fI t.1 u0.1).length=n:=by rw [G.iS (lt.trans lu.symm),lt]
   have ht:t.1=bj (G.fI t.1 u0.1) u0.1:=by
    apply G.qR (by rw [G.dD (lm.trans lu.symm),lm,lt]);intro i;rw [G.gS (lm.trans lu.symm),G.jR (lt.trans lu.symm)];omega
   have om:nh n B (K+1+L) (G.fI t.1 u0.1,v,()):=by
    refine ⟨lm,fun e he=>⟨v2 e he,?_⟩,_,v3,v4⟩;obtain ⟨i,hi,rfl⟩:=QL he;have g:i<t.1.length:=by rw [lt,<- lm];exact hi
    have e1:=G.jR (lt.trans lu.symm) i;rw [G.eB hi] at e1;dsimp only at e1 ⊢;rw [e1,G.eB g];have a1:=ot.2.1 _ (Qi g);have a2:=G.uh (fun x hx=>((hy u0 (Q7 ..)).2.1 x hx).1) i;omega
   have H:∀ e∈G.fI t.1 u0.1,e<B-256:=fun e he=>by
    obtain ⟨i,hi,rfl⟩:=QL he;have g:i<t.1.length:=by rw [lt,<- lm];exact hi
    have e1:=G.jR (lt.trans lu.symm) i;rw [G.eB hi] at e1;rw [e1,G.eB g];have a1:=ot.2.1 _ (Qi g);have a2:=G.uh (fun x hx=>((hy u0 (Q7 ..)).2.1 x hx).1) i;omega
   obtain ⟨z,z1,z2,z3,z4⟩:=DF (t:=(G.fI t.1 u0.1,v,())) hn hB (by simp only [List.length_cons];omega) (show L+(K+1+L)<1000000000 by omega) C om (fun w hw e he=>by
    have ow:=hy w hw;refine ⟨G.nH (fun x hx=>(ow.2.1 x hx).1) v2 he,?_⟩;obtain ⟨i,hi,rfl⟩:=QL he;have J:w.1.length=(G.fI t.1 u0.1).length:=ow.1.trans lm.symm;have e1:=G.gS J i;rw [G.eB hi] at e1;dsimp only at e1 ⊢;rw [e1];have a1:=G.wO (b:=255) Q2 (fun x hx=>by have:=(ow.2.1 x hx).2;omega) i;have a2:=G.wO (b:=B-257) Q2 (fun x hx=>by have:=H x hx;omega) i;omega)
   obtain ⟨r1,r2,r3,r4,r5⟩:=Jv (fun w hw=>(hok w hw).up Q2:∀ w∈t :: r,nh n B (K+1) w) z3 hn (by rw [z2];simp only [List.length_cons] at lr ⊢;omega) Q2;have p:(fi (G.fI t.1 u0.1,v,())).2=(fi t).2 / (fi u0).2:=mq v3;have l:(fi t).2=(fi (G.fI t.1 u0.1,v,())).2*(fi u0).2:=by
    rw [p,Rat.div_def];have F:(fi u0).2≠0:=A;have:=Rat.mul_inv_cancel _ F;grind
   have y:(fi (G.fI t.1 u0.1,v,())).2≠0:=fun h=>sr.nz (fi t) (List.mem_cons_self ..) (by rw [l,h];grind);generalize hM:((G.fI t.1 u0.1,v,()):ae)=M at *
   have d:(fi M).1=G.fI t.1 u0.1:=by rw [<- hM];rfl
   have sz:fQ n (kU ((-1:Int):Rat) (kB (cT (u0 :: ys)) (fi M))):=by
    refine fQ.kU ⟨?_,fun w hw=>?_,?_⟩ (by decide)
    ·refine VK.2 (Xg (fun {a b} ha hb h=>?_) sy.ord);exact G.rM ((sy.len a ha).trans (by rw [d,lm])) ((sy.len b hb).trans (by rw [d,lm])) h
    ·obtain ⟨x,hx,rfl⟩:=Qs.1 hw;exact fun e=>(VB.1 e).elim (sy.nz x hx) y
    exact Len.kB sy.len (by rw [d,lm])
   rw [z4] at r5;obtain ⟨s1,s2⟩:=G.oa _ _ sr sz;rw [<- r5] at s1 s2;have he:eW (cT r1) (cT r++neg (kB (cT ys) (fi M))):=by
    refine G.CP (t:=fi t) (u:=fi u0) (by rw [d];exact ht) l fun f=>?_;rw [s2,G.cF,(Hz _) f];rfl
   obtain ⟨i1,i2⟩:=D.next hI sr s1 (by rw [d];exact lm) (by rw [d];exact v2) (by rw [d];exact ht) p he;have i3:=NS r4 (D.ex i1 s1);have N:mu (cT r1)<s:=QN i2 hs;have j:∀ {R:ay×Bool×Unit},aL (fun k m=>dR.l0 k m ((n:Int),r1,()) ((n:Int),u0 :: ys,()) ((0:Int),[],()) (acc++[M])) R->aL (fun k m=>dR.l0 k m ((n:Int),t :: r,()) ((n:Int),u0 :: ys,()) ((0:Int),[],()) acc) R:=fun {R} h =>
    aL.step (fun k m=>dR.aN k m _ _ _ _) (aL.bT c1 (aL.iT h0 (aL.iT o (aL.bind v1 (aL.bF rfl (aL.iT (by simp only [List.length_cons,List.length_nil];omega) (aL.bind z1 (aL.bind r2 h))))))))
   rcases ih (s-1) Q2 r1 (acc++[M]) Q2 i1 i3 s1 (by simp only [Qf,List.length_cons,List.length_nil];omega) with ⟨q,q1,q2,q3,q4,q5,q6⟩ | ⟨q1,q2⟩
   ·obtain ⟨g1,g2⟩:=G.Dr G.oH (m:=fi M) (t:=fi t) (u:=fi u0) q4.dst sy.M3 sr.M3 s1.dst (by rw [d];exact lm) y (by rw [d];exact ht) l he q6;refine .inl ⟨M :: q,?_,fun w hw=>?_,by simp only [List.length_cons];omega,⟨Qv.2 ⟨g1.2,q4.ord⟩,g1.1.nz,g1.1.len⟩,fun w hw=>?_,g2⟩
    ·rw [show acc++M :: q=(acc++[M])++q by simp];exact j q1
    ·rcases Qo.1 hw with rfl | hw
     ·exact om
     exact q2 w hw
    rcases Qo.1 hw with rfl | hw
    ·rw [d];exact v2
    exact q5 w hw
   refine .inr ⟨j q1,fun q hq nq hp=>?_⟩;obtain ⟨q',a,b,c⟩:=G.xD G.oH (m:=fi M) (t:=fi t) (u:=fi u0) hq nq sy.M3 sr.M3 (by rw [d];exact lm) (by rw [d];exact ht) l he hp;exact q2 q' b.1.tail (fun w hw=>nq w (a.symm.subset (Qa _ hw))) c
  refine .inr ⟨aL.step (fun k m=>dR.aN k m _ _ _ _) (aL.bT c1 (aL.iT h0 (aL.iT o (aL.bind v1 (aL.bT rfl (aL.of (aV _))))))),fun q hq nq hp=>?_⟩;have:=G.HO G.oH (t:=fi t) (u:=fi u0) hq nq sy.M3 sr.M3 hp i;exact absurd (show u0.1.getD i 0<=t.1.getD i 0 from this) Q2
end
end Go.Proofs.YtfbgaddecbiimaaGreatDoor.Q
end
section
namespace Go.Proofs.YtfbgaddecbiimaaGreatDoor.G
def un (n:Nat):List Ex:=(List.range n).map fun i=>Cy n i 1
theorem CH:∀ {e:Ex},(∀ x∈e,(0:Int)<=x)->dA e=0->e=zE e.length
 | [],_,_=>rfl
 | a :: l,h,hs=>by
  have h0:=h a (Q7 ..);have h1:=kX (a:=l) fun x hx=>h x (Qa _ hx);rw [dA] at hs;have ih:=CH (e:=l) (fun x hx=>h x (Qa _ hx)) Q2;show a :: l=List.replicate (l.length+1) 0;rw [List.replicate_succ,show a=0 by omega];exact congrArg _ ih
theorem LI {n:Nat}:∀ (j:Nat) {e:Ex},e.length=n->(∀ x∈e,(0:Int)<=x)->dA e=j->e∈ms n (un n) j
 | 0,e,he,h0,hs=>by
  rw [wJ,QB,<- he];exact CH h0 hs
 | j+1,e,he,h0,hs=>by
  have hex:∃ i,∃ h:i<e.length,1<=e[i]:=by
   apply QK;intro c;have:∀ l:Ex,(∀ x∈l,x<=0)->dA l<=0:=fun l hl=>by
    induction l with
    | nil=>exact Vl _
    | cons a l ih =>
     have:=hl a (Q7 ..);have:=ih fun x hx=>hl x (Qa _ hx);rw [dA];omega
   have:=this e fun x hx=>by
    obtain ⟨i,hi,rfl⟩:=QL hx;apply QK;intro d;exact c ⟨i,hi,Q2⟩
   omega
  obtain ⟨i,hi,h1⟩:=hex;have e1:e=bj (e.set i (e[i]-1)) (Cy n i 1):=by
   rw [<- Nr (by rw [Vg,he]) Q2];apply QP Q3;intro k hk1 hk2;simp only [List.set_set,VU];split
   ·rename_i h;subst h;rw [eB (by rw [Vg];exact hi)];simp
   rfl
  rw [e1];refine Bz n _ j _ _ (LI j (by rw [Vg,he]) (fun x hx=>mem_set h0 Q2 hx) ?_) (Qs.2 ⟨i,Wu.2 Q2,rfl⟩);rw [CI hi,hs];omega
def mo (n:Nat):List Ex:=(List.range 6).flatMap (ms n (un n))
theorem LJ {n:Nat} {e:Ex} (he:e.length=n) (a:∀ x∈e,(0:Int)<=x) (hs:dA e<=5):e∈mo n:=by
 have:=kX a;exact Wp.2 ⟨(dA e).toNat,Wu.2 Q2,LI _ he a Q2⟩
theorem LH {n:Nat} (hn:n<=8):(mo n).length<=1287:=by
 have h:∀ j,(ms n (un n) j).length<=Fa 8 j:=fun j=>by
  rw [Gy];exact G8 j (by rw [un,QZ,Xc];exact hn)
 have e:∀ l:List Nat,(l.flatMap (ms n (un n))).length<=(l.map (Fa 8)).sum:=fun l=>by
  induction l with
  | nil=>simp
  | cons a l ih =>
   have:=h a;rw [V7,Qf,QV,List.sum_cons];omega
 exact Qu (e _) (by simp [List.range_succ,Fa])
section
variable {n:Nat} {x y:List Tm} {u:Tm}
theorem few5 (hn:n<=8) {r:List Tm} (hr:eO n r) (hx:XB 5 r):r.length<=1287:=by
 have:=BL (l:=r.map (·.1)) (S:=mo n) (VK.2 hr.ne) fun e he=>by
  obtain ⟨t,ht,rfl⟩:=Qs.1 he;exact LJ (hr.len t ht) (hx t ht).1 (hx t ht).2
 rw [QZ] at this;exact Qu this (LH hn)
def ltE (a b:Ex):Bool:=fa b a
theorem Bo:Ord ltE:=⟨iA,fun h h'=>fT h' h,fun hl h h'=>kh hl h' h,fun ha hb h=>rM hb ha h⟩
def rk (S:List Ex) (e:Ex):Nat:=(S.filter fun x=>decide (x=e)||fa x e).length
theorem rk_lt {S:List Ex} {t b:Ex} (ht:t∈S) (h:fa b t=true):rk S b+1<=rk S t:=by
 refine filter_lt (p:=fun x=>decide (x=b)||fa x b) (q:=fun x=>decide (x=t)||fa x t) (fun z hz=>?_) ht Q3 ?_
 ·rcases XN.1 hz with g | g
  ·rw [VE g,h];exact WM _
  rw [fT g h];exact WM _
 have:=rH h;rw [this,Q8 fun e=>BJ h e.symm];rfl
def mr (S:List Ex) (r:List Tm):Nat:=(S.filter fun x=>r.any fun w=>decide (x=w.1)||fa x w.1).length
theorem mr_lt {S:List Ex} {t:Tm} {r c:List Tm} (ht:t.1∈S) (h:∀ b∈c,fa b.1 t.1=true):mr S c<mr S (t :: r):=by
 refine filter_lt (p:=fun x=>c.any fun w=>decide (x=w.1)||fa x w.1) (q:=fun x=>(t :: r).any fun w=>decide (x=w.1)||fa x w.1) (fun z hz=>?_) ht Q3 ?_
 ·obtain ⟨w,hw,g⟩:=WU.1 hz;refine WU.2 ⟨t,Q7 ..,?_⟩;rcases XN.1 g with g | g
  ·rw [VE g,h w hw];exact WM _
  rw [fT g (h w hw)];exact WM _
 rw [VD];intro w hw;have a:=h w hw;rw [rH a,Q8 fun e=>BJ a e.symm];simp
theorem NY {S:List Ex} {r r':List Tm} (h:r.Perm r'):mr S r=mr S r':=by
 unfold mr;congr 1;congr 1;funext z;rw [Bool.eq_iff_iff,WU,WU];exact ⟨fun ⟨w,a,b⟩=>⟨w,h.subset a,b⟩,fun ⟨w,a,b⟩=>⟨w,h.symm.subset a,b⟩⟩
structure MW (n K:Nat) (u:Tm) (y:List Tm) (I:List Tm->Prop) (mu:List Tm->Nat):Prop where
 perm:∀ {r r'},r.Perm r'->I r->I r'/\mu r'=mu r
 ex:∀ {r},I r->∀ t∈r,Wd K t.2
 next:∀ {t r r1 m},I (t :: r)->wB ltE n t r->XB 5 (t :: r)->eO n r1->m.1.length=n->(∀ x∈m.1,0<=x)->t.1=bj m.1 u.1->m.2=t.2 / u.2->eW r1 (r++neg (kB y m))->I r1/\mu r1<mu (t :: r)
theorem Nz (hn:n<=8) (sx:eO n x) (hy:wB ltE n u y) (cx:CB 12 x) (cy:CB 12 (u :: y)) (xx:XB 5 x) :
 ∃ I mu,MW n 15456 u y I mu/\(∀ r,eO n r->eW r x->I r)/\∀ r,mu r<=1287:=by
 obtain ⟨Dx,Hx,x0,x1,x2,x3⟩:=cx;obtain ⟨Dy,Hy,y0,y1,y2,y3⟩:=cy;have j:((Dy:Int):Rat)≠0:=fun e=>by have:=Wz.1 (e.trans Rat.intCast_zero.symm);omega
 obtain ⟨z,z1,z2⟩:=y3;have i:=hy.1.nz u (Q7 ..);have A:z≠0:=fun h=>by
  rw [h,Rat.intCast_zero] at z1;exact (VB.1 z1).elim i j
 have p:=YL.of z1 j z2;have q:=z2.pos;have f:(1:Int)<=z.natAbs:=Q2;have d:(z.natAbs:Int)<=WB ^ 12:=Q2;have hE:Hy-z.natAbs<=WB ^ 12:=Q2;generalize (z.natAbs:Int)=β at *
 generalize Hy-β=E at *
 have hσ:=oe 12;have v:=LH hn;generalize hS:mo n=S at *
 generalize hW:S.length=W at *
 have c:(WB ^ 12) ^ W=WB ^ (12*W):=(Yw ..).symm;have hH:Hx*(WB ^ 12) ^ W<=WB ^ (12*(W+1)):=by
  have:=jo (a:=12) (b:=12*W) x2 (Int.le_of_eq c) (by rw [c];exact Vz (oe _))
  rwa [show 12+12*W=12*(W+1) by omega] at this
 have hK:Dx*β ^ W<=WB ^ (12*(W+1)):=by
  have h1:β ^ W<=WB ^ (12*W):=by rw [<- c];exact rG Q2 d W
  have:=jo (a:=12) (b:=12*W) x1 h1 (VS Q2)
  rwa [show 12+12*W=12*(W+1) by omega] at this
 have k:WB ^ (12*(W+1))<=WB ^ 15456:=zm Q2;generalize hσe:WB ^ 12=σ at *
 have o:∀ e,rk S e<=W:=fun e=>by rw [<- hW];exact Wn _ _
 have lu:=hy.len;have l:Len n y:=fun t ht=>hy.1.len t (Qa _ ht);refine ⟨fun r=>CF (dW Dx β W (rk S)) (gW σ (rk S)) (Hx*σ ^ W) r,mr S,⟨?_,?_,?_⟩,?_,?_⟩
 ·exact fun h hi=>⟨hi.perm h,(NY h).symm⟩
 ·exact fun h t ht=>by
   obtain ⟨a,b⟩:=CF.wd x0 f d h hH hK ht;exact ⟨Vf a k,Vf b k⟩
 ·intro t r r1 m h hr hx hr1 lm nm ht hm he;have g:t.1∈S:=by rw [<- hS];exact LJ hr.len (hx t (Q7 ..)).1 (hx t (Q7 ..)).2
  have hw:∀ s∈y,rk S (bj s.1 m.1)+1<=rk S t.1:=fun s hs=>rk_lt g (by
   rw [ht,fK m.1];exact rM ((l s hs).trans lm.symm) (lu.trans lm.symm) (hy.2 s hs))
  have h1:1<=rk S t.1:=Yo (V5.2 ⟨g,Q3⟩);exact ⟨CF.next f d hE i hm (o _) h1 p hw h (fun w hw=>hr.1.len w (Qa _ hw)) (Len.neg (Len.kB l lm)) hr1 fun e=>he.co e,mr_lt g fun b hb=>AH Bo hy hr hr1 lm ht he hb⟩
 ·exact fun r hr he=>eO.CF (Im Q2 _) hr sx.len (fun e=>he.co e) (CF.start f d (fun t ht=>o _) x3)
 exact fun r=>by
  have:mr S r<=S.length:=Wn _ _;omega
end
end Go.Proofs.YtfbgaddecbiimaaGreatDoor.G
end
section
namespace Go.Proofs.YtfbgaddecbiimaaGreatDoor.Q
open Go.RowKit Go.Proofs.YtfbgaddecbiimaaGreatDoorW.PrintWords Go.Proofs.YtfbgaddecbiimaaGreatDoorW.PrintMore Go.Proofs.YtfbgaddecbiimaaGreatDoor.V Go.Proofs.YtfbgaddecbiimaaGreatDoor.E
open Go.Proofs.YtfbgaddecbiimaaGreatDoor.P (Dg Nm vl WW RR bE gI aV jW kL dK aH bC aW cJ cD u64)
open Go.Proofs.YtfbgaddecbiimaaGreatDoor.G (Ex Tm cY co eW fQ eO iW CB XB Wd Len WB kM fk kU neg kB prod bj NN wB ltE MW dA)
theorem nD {e:List Int} (h:e.length<=8):eh e=e++List.replicate (8-e.length) 0:=cX _ _ _ h
theorem L3 {e:List Int} (h:e.length<=8) (i:Nat):(eh e).getD i 0=e.getD i 0:=by
 rw [nD h,Q6,Q6]
 by_cases c:i<e.length
 ·rw [Vm c]
 rw [Vj Q2,Vh (by omega:e.length<=i),Ye];split<;>rfl
theorem gt_pad {a b:List Int} (h:a.length=b.length) (ha:a.length<=8):G.fa (eh a) (eh b)=G.fa a b:=by
 rw [nD ha,nD Q2,h];exact G.yw _ h
theorem M4 (k:Nat):List.zipWith (fun x y:Int=>x-y) (List.replicate k 0) (List.replicate k 0)=List.replicate k 0:=by simp
theorem Jy {x y:List Int} (h:x.length=y.length) (hx:x.length<=8):G.fI (eh x) (eh y)=eh (G.fI x y):=by
 have hl:=G.iS h;rw [nD hx,nD Q2,nD Q2,hl];unfold G.fI;rw [List.zipWith_append h,h];congr 1;exact M4 _
section
variable {n K L:Nat} {r:List ae}
theorem pg.at0 {t:ae} (h:pg n K t) (hn:n<=8) (i:Nat):t.1.getD i 0=(t.1.take n).getD i 0:=by
 conv=>lhs;rw [h.1]
 exact L3 (by have:=h.2.1;omega) i
theorem pg.gt {t u:ae} (h:pg n K t) (h':pg n L u) (hn:n<=8):G.fa t.1 u.1=G.fa (t.1.take n) (u.1.take n):=by
 conv=>lhs;rw [h.1,h'.1]
 exact gt_pad (h.2.1.trans h'.2.1.symm) (by have:=h.2.1;omega)
theorem tE (h:∀ u∈r,pg n K u) (hl:r.length<=100000) (p:0<r.length):∃ b,∃ hb:b<r.length,Ev (fun k=>aZ k r) (b:Int)/\∀ j (hj:j<r.length),G.fa r[b].1 r[j].1=false:=by
 have o:=pS (n:=r.length) (P:=fun i=>∀ b (hb:b<r.length),(∀ j (hj:j<r.length),j<i->G.fa r[b].1 r[j].1=false)->∃ b',∃ a:b'<r.length,aL (fun k m=>aZ.l0 k m r (b:Int) r (r.length:Int) (i:Int)) (b':Int)/\∀ j (hj:j<r.length),G.fa r[b'].1 r[j].1=false) ?_ ?_ 0 (Qy _) 0 p (fun j hj h=>Q2)
 ·obtain ⟨b,hb,h1,h2⟩:=o;exact ⟨b,hb,Ev.step (fun k=>nM k r) h1.diag,h2⟩
 ·intro b hb hj;exact ⟨b,hb,aL.step (fun k m=>aZ.aN k m _ _ _ _ _) (aL.bF (Q8 Q2) (aL.of (aV _))),fun j hj'=>hj j hj' hj'⟩
 intro i hi ih b hb hj;have e:(cH (t:=ab) r (i:Int):ae)=r[i]:=cE hi;have e':(cH (t:=ab) r (b:Int):ae)=r[b]:=cE hb;have l:=mN r[b].1 r[i].1 (h _ (Qi hb)).len (h _ (Qi hi)).len;have c3:=cmp3 ((h _ (Qi hb)).len.trans (h _ (Qi hi)).len.symm);have f:∀ {R:Int} {c:Bool},decide (cZ r[b].1 r[i].1>0)=c->aL (fun k m=>bif c then aZ.j0 k m r (i:Int) r (r.length:Int) (i:Int) else aZ.j0 k m r (b:Int) r (r.length:Int) (i:Int)) R->aL (fun k m=>aZ.l0 k m r (b:Int) r (r.length:Int) (i:Int)) R:=fun {R c} hc hR=>by
  refine aL.step (fun k m=>aZ.aN k m _ _ _ _ _) (aL.bT (Qb Q2) (aL.iT Q2 (aL.iT Q2 ?_)));rw [e,e'];rw [hc] at l;exact aL.bind l hR
 by_cases g:G.fa r[b].1 r[i].1=true
 ·rw [Qk g] at c3;obtain ⟨b',a,r1,r2⟩:=ih i hi (fun j hj' hji=>by
   by_cases d:j=i
   ·subst d;exact G.iA _
   cases c:G.fa r[i].1 r[j].1 with
   | false=>rfl
   | true =>
    have:=G.fT g c;rw [hj j hj' Q2] at this;cases this)
  refine ⟨b',a,f (c:=true) (by rw [c3];rfl) (aL.bT rfl ?_),r2⟩;show aL (fun k m=>aZ.l0 k m r (i:Int) r (r.length:Int) (wrap64 ((i:Int)+(1:Int)))) _;rw [fY Q2];exact r1
 rw [Qc g] at c3;obtain ⟨b',a,r1,r2⟩:=ih b hb (fun j hj' hji=>by
  by_cases d:j=i
  ·subst d;simpa using g
  exact hj j hj' Q2)
 refine ⟨b',a,f (c:=false) (by rw [c3];split<;>rfl) (aL.bF rfl ?_),r2⟩;show aL (fun k m=>aZ.l0 k m r (b:Int) r (r.length:Int) (wrap64 ((i:Int)+(1:Int)))) _;rw [fY Q2];exact r1
theorem LP (h:∀ u∈r,pg n K u) (hn:n<=8) (hd:eO n (cA n r)) {b:Nat} (hb:b<r.length) (hl:∀ j (hj:j<r.length),G.fa r[b].1 r[j].1=false):∃ rest,(cA n r).Perm (iR n r[b] :: rest)/\wB ltE n (iR n r[b]) rest:=by
 obtain ⟨a,c,e,-⟩:=G.BX hb;have hp:r.Perm (r[b] :: (a++c)):=by
  refine (List.Perm.of_eq e).trans WV
 have d:(cA n r).Perm (iR n r[b] :: cA n (a++c)):=hp.map _;have hd':=hd.perm d;refine ⟨_,d,hd',fun w hw=>?_⟩;obtain ⟨u,hu,rfl⟩:=Qs.1 hw;have f:u∈r:=hp.symm.subset (Qa _ hu);obtain ⟨j,hj,rfl⟩:=QL f;have ob:=h _ (Qi hb);have oj:=h _ (Qi hj);have h1:=hl j hj;rw [ob.gt oj hn] at h1;show G.fa (r[j].1.take n) (r[b].1.take n)=true;cases c2:G.fa (r[j].1.take n) (r[b].1.take n) with
 | true=>rfl
 | false =>
  have:=G.kh (ob.2.1.trans oj.2.1.symm) h1 c2;exact absurd this ((Qv.1 hd'.ne).1 _ hw)
def wo (a b:List Int) (j:Nat):List Int:=(List.range 8).map fun i=>if i<j then a.getD i 0-b.getD i 0 else a.getD i 0
theorem Mb {a b:List Int} (ha:a.length=8):wo a b 0=a:=by
 apply QP (by simp [wo,ha]);intro i h1 h2;simp [wo,Q6,Qh h2]
theorem BN (a b:List Int) (j:Nat):(wo a b j).length=8:=by simp [wo]
theorem Oo {a b:List Int} {j:Nat} (h:j<(wo a b j).length):(wo a b j)[j]=a.getD j 0:=by simp [wo]
theorem On {a b:List Int} {j:Nat} (h:j<(wo a b (j+1)).length):(wo a b (j+1))[j]=a.getD j 0-b.getD j 0:=by simp [wo]
theorem Om {a b:List Int} {j:Nat}:(wo a b j).set j (a.getD j 0-b.getD j 0)=wo a b (j+1):=by
 apply QP (by simp [wo]);intro i h1 h2;simp only [wo,VU,Qz,VR]
 by_cases c:j=i
 ·subst c;rw [Qk rfl,Qk Q2]
 rw [Qc c]
 by_cases d:i<j
 ·rw [Qk d,Qk Q2]
 rw [Qc d,Qc Q2]
theorem Mc {a b:List Int} (ha:a.length=8) (hb:b.length=8):wo a b 8=G.fI a b:=by
 apply QP (by simp [wo,G.fI,ha,hb]);intro i h1 h2;have hi:i<8:=by simpa [wo] using h1
 simp only [wo,Qz,VR,G.fI,WR,Qk hi];rw [Q6,Q6,Qh Q2,Qh Q2];rfl
theorem Jd {x0 x1 acc:List ae} {x8:Int} {t u:ae} (m:t.1.length=8) (l:u.1.length=8) (ht:∀ i,0<=t.1.getD i 0/\t.1.getD i 0<=1000) (hu:∀ i,0<=u.1.getD i 0/\u.1.getD i 0<=1000) :
 ((∀ i,i<8->u.1.getD i 0<=t.1.getD i 0)/\∀ R,dV (fun k e f=>az.l1 k e f x0 x1 x8 (8:Int) u acc (G.fI t.1 u.1,t.2)) R->dV (fun k e f=>az.l1 k e f x0 x1 x8 (0:Int) u acc t) R) ∨
 (∃ i,t.1.getD i 0<u.1.getD i 0)/\dV (fun k e f=>az.l1 k e f x0 x1 x8 (0:Int) u acc t) ([],false,()):=by
 have b:=pS (n:=8) (P:=fun j=>(∀ i,i<j->u.1.getD i 0<=t.1.getD i 0)->((∀ i,i<8->u.1.getD i 0<=t.1.getD i 0)/\∀ R,dV (fun k e f=>az.l1 k e f x0 x1 x8 (8:Int) u acc (G.fI t.1 u.1,t.2)) R->dV (fun k e f=>az.l1 k e f x0 x1 x8 (j:Int) u acc (wo t.1 u.1 j,t.2)) R)∨(∃ i,t.1.getD i 0<u.1.getD i 0)/\dV (fun k e f=>az.l1 k e f x0 x1 x8 (j:Int) u acc (wo t.1 u.1 j,t.2)) ([],false,())) ?_ ?_ 0 (Qy _) (fun i hi=>Q2)
 ·rw [Mb m] at b;exact b
 ·intro hall;refine .inl ⟨hall,fun R hR=>?_⟩;rw [Mc m l];exact hR
 intro j hj ih hall;have e1:uI (0:Int) 8 (wo t.1 u.1 j) (j:Int)=t.1.getD j 0:=by
  rw [mi (BN _ _ _) hj];exact Oo _
 have e2:uI (0:Int) 8 u.1 (j:Int)=u.1.getD j 0:=by
  rw [mi l hj,Q6,Qh Q2];rfl
 have e3:uI (0:Int) 8 (wo t.1 u.1 (j+1)) (j:Int)=t.1.getD j 0-u.1.getD j 0:=by
  rw [mi (BN _ _ _) hj];exact On _
 have a1:=ht j;have a2:=hu j;have a:∀ {R:List ae×Bool×Unit},dV (fun k e f=>bif decide (t.1.getD j 0-u.1.getD j 0<(0:Int)) then some ([],false,()) else az.l1 k e f x0 x1 x8 ((j+1:Nat):Int) u acc (wo t.1 u.1 (j+1),t.2)) R->dV (fun k e f=>az.l1 k e f x0 x1 x8 (j:Int) u acc (wo t.1 u.1 j,t.2)) R:=fun {R} h=>by
  refine dV.step (fun k e f=>az.eF k e f _ _ _ _ _ _ _) (dV.bT (Qb Q2) (dV.iT Q2 (dV.iT Q2 (dV.iT Q2 (dV.iT Q2 ?_)))));dsimp only;rw [e1,e2,fY Q2,cD Q2 Q2,AM (BN _ _ _) hj,Om,e3];exact h
 by_cases c:t.1.getD j 0-u.1.getD j 0<0
 ·exact .inr ⟨⟨j,Q2⟩,a (dV.bT (Qb c) (dV.of (aL.of (aV _))))⟩
 rcases ih (fun i hi=>by
  by_cases d:i=j
  ·subst d;omega
  exact hall i Q2) with ⟨g,h⟩ | ⟨g,h⟩
 ·exact .inl ⟨g,fun R hR=>a (dV.bF (Q8 c) (h R hR))⟩
 exact .inr ⟨g,a (dV.bF (Q8 c) h)⟩
end
section
variable {n K L:Nat} {r:List ae}
theorem Ou {p:List Tm} {m:Tm} (h:eO n p) (lm:m.1.length=n) (hm:m.2≠0):eO n (kB p m):=by
 refine ⟨VK.2 (Xg (fun {a b} ha hb hab e=>hab (G.yV ((h.len a ha).trans lm.symm) ((h.len b hb).trans lm.symm) e)) h.ne),fun w hw=>?_,Len.kB h.len lm⟩;obtain ⟨x,hx,rfl⟩:=Qs.1 hw;exact fun e=>(VB.1 e).elim (h.nz x hx) hm
theorem cb_sft {a k:Nat} {p:List Tm} {m:Tm} (h:CB a p) (hm:Wd k m.2):CB (a+k) (kB p m):=by
 obtain ⟨D,H,d0,d1,d2,d3⟩:=h;exact ⟨D*m.2.den,H*WB ^ k,WX d0 (by have:=m.2.den_pos;omega),G.jo d1 hm.2 Q2,G.jo d2 (Vl _) (Vz (G.oe k)),G.CL.kB hm.cz d3⟩
theorem wd_mul {a b:Nat} {x y:Rat} (hx:Wd a x) (hy:Wd b y):Wd (a+b) (x*y):=by
 obtain ⟨h1,h2⟩:=G.Cz.size (WX (by have:=x.den_pos;omega) (by have:=y.den_pos;omega)) (hx.cz.mul hy.cz);exact ⟨Vf h2 (by rw [<- Va];exact Vl _),Vf h1 (G.jo hx.2 hy.2 Q2)⟩
theorem Jn {ys:List ae} {u0:ae} {y:List Tm} {I:List Tm->Prop} {mu:List Tm->Nat} {most:Int} (hn:n<=8) (hy:∀ w∈ys,pg n 4 w) (hu:u0∈ys) (hpy:(cA n ys).Perm (iR n u0 :: y)) (sy:wB ltE n (iR n u0) y) (dy:eO n (cA n ys)) (cy:CB 12 (cA n ys)) (xy:XB 5 (cA n ys)) (ly:ys.length<=6) (D:MW n 15456 (iR n u0) y I mu) (hm1:-1<=most) (hm5:most<=5) :
 ∀ (s:Nat) (r acc:List ae),mu (cA n r)<=s->I (cA n r)->(∀ w∈r,pg n 46369 w)->eO n (cA n r)->XB most (cA n r)->acc.length+s<=10000 ->
 (∃ q,aL (fun k m=>az.l0 k m r ys most u0 acc) (acc++q,true,())/\(∀ w∈q,pg n 46373 w)/\q.length<=s/\eO n (cA n q)/\NN (cA n q)/\eW (prod (cA n q) (iR n u0 :: y)) (cA n r)) ∨
 (aL (fun k m=>az.l0 k m r ys most u0 acc) ([],false,())/\r≠[]/\∀ q,eO n q->NN q->kM q+kM (iR n u0 :: y)<=most->¬ eW (prod q (iR n u0 :: y)) (cA n r)):=by
 intro s
 induction s using Nat.strongRecOn with
 | _ s ih =>
 intro r acc hs hI hok hd hx ha
 by_cases h0:r=[]
 ·subst h0;refine .inl ⟨[],?_,(fun w hw=>by cases hw),Q3,eO.nil n,(fun w hw=>by cases hw),.refl _⟩;rw [Vq];exact aL.step (fun k m=>az.aN k m _ _ _ _ _) (aL.bF rfl (aL.of (aV _)))
 have hx5:XB 5 (cA n r):=hx.mono hm5;have hl:r.length<=1287:=by have:=G.few5 hn hd hx5;rwa [CE] at this
 have aa:=Wj.2 h0;obtain ⟨b,hb,b1,b2⟩:=tE hok Q2 aa;obtain ⟨l,hpr,g⟩:=LP hok hn hd hb b2;have e:(cH (t:=ab) r (b:Int):ae)=r[b]:=cE hb;have J:=Qi hb;generalize r[b]=t at *
 have ot:=hok t J;have ou:=hy u0 hu;obtain ⟨I1,I2⟩:=D.perm hpr hI;have ac:=hx5.Co (ir (n:=n) J);have U:=xy.Co (ir (n:=n) hu);have bt:=ot.bound (B:=5) Q2 hn ac;have bu:=ou.bound (B:=5) Q2 hn U;have hEr:eW (cA n r) (iR n t :: l):=fun f=>G.jf f hpr;have A:∀ {R},dV (fun k m1 m0=>az.l1 k m1 m0 r ys most (0:Int) u0 acc t) R->aL (fun k m=>az.l0 k m r ys most u0 acc) R:=fun {R} h=>by
  refine aL.step (fun k m=>az.aN k m _ _ _ _ _) (aL.bT (gt0 h0) (aL.bind b1 (aL.iT Q2 ?_)));rw [e];exact h.diag
 rcases Jd (x0:=r) (x1:=ys) (acc:=acc) (x8:=most) ot.len ou.len (fun i=>⟨(bt i).1,by have:=(bt i).2;omega⟩) (fun i=>⟨(bu i).1,by have:=(bu i).2;omega⟩) with ⟨hall,go⟩ | ⟨⟨i,hi⟩,h⟩
 ·have lt:(t.1.take n).length=n:=ot.2.1;have lu:(u0.1.take n).length=n:=ou.2.1;have lE:(G.fI (t.1.take n) (u0.1.take n)).length=n:=by rw [G.iS (lt.trans lu.symm),lt]
  have C:G.fI t.1 u0.1=eh (G.fI (t.1.take n) (u0.1.take n)):=by
   rw [<- Jy (lt.trans lu.symm) Q2,<- ot.1,<- ou.1]
  have p:(G.fI t.1 u0.1).take n=G.fI (t.1.take n) (u0.1.take n):=by
   rw [C]
   conv=>lhs;arg 1;rw [<- lE]
   exact gg Q2
  have hE:∀ i,(G.fI (t.1.take n) (u0.1.take n)).getD i 0=t.1.getD i 0-u0.1.getD i 0:=fun i=>by
   rw [G.jR (lt.trans lu.symm),ot.at0 hn,ou.at0 hn]
  generalize hEe:G.fI (t.1.take n) (u0.1.take n)=F at *
  have nF:∀ x∈F,0<=x:=fun x hx=>by
   obtain ⟨i,hi,rfl⟩:=QL hx;have h1:=hE i;rw [G.eB hi] at h1;have:=hall i Q2;rw [h1];omega
  have ht:(iR n t).1=bj F (iR n u0).1:=by
   show t.1.take n=bj F (u0.1.take n);apply G.qR (by rw [G.dD (lE.trans lu.symm),lE,lt]);intro i;rw [G.gS (lE.trans lu.symm),hE,<- ot.at0 hn,<- ou.at0 hn];omega
  have ag:dA (iR n t).1=dA F+dA (iR n u0).1:=by rw [ht];exact G.jF (lE.trans lu.symm)
  have ah:0<=dA (iR n u0).1:=G.kX fun x hx=>(U x hx).1;have aj:dA (iR n t).1<=most:=(hx _ (ir J)).2;have ad:∀ x∈F,0<=x/\x<=5:=fun x hx=>⟨nF x hx,by have:=G.oL nF hx;omega⟩;have N:mL u0.2.1≠0:=sy.1.nz (iR n u0) (Q7 ..);obtain ⟨v,v1,v2,v3⟩:=FY ot.2.2.rb.1 ou.2.2.rb.1 ot.2.2.rb.2 ou.2.2.rb.2 N Q2;have oM:pg n 46373 (G.fI t.1 u0.1,v,t.2.2):=⟨by show G.fI t.1 u0.1=eh ((G.fI t.1 u0.1).take n);rw [p];exact C,by show ((G.fI t.1 u0.1).take n).length=n;rw [p];exact lE,_,v2,v3⟩;have bM:=oM.bound (B:=5) Q2 hn (fun x hx=>ad x (by rw [<- p];exact hx));have V:Ev (fun k=>bL k (G.fI t.1 u0.1)) (dA F):=by
   have:=kZ (G.fI t.1 u0.1) oM.len (fun x hx=>by
    obtain ⟨i,hi,rfl⟩:=QL hx;have:=bM i;dsimp only at this;rw [G.eB hi] at this;omega)
   rw [C,FO Q2,ry] at this;rw [C];exact this
  have H:(iR n (G.fI t.1 u0.1,v,t.2.2)).2=(iR n t).2 / (iR n u0).2:=rA v2;have d:(iR n (G.fI t.1 u0.1,v,t.2.2)).1=F:=p;generalize hM:((G.fI t.1 u0.1,v,t.2.2):ae)=M at *
  have o:(iR n t).2=(iR n M).2*(iR n u0).2:=by
   rw [H,Rat.div_def];have Y:(iR n u0).2≠0:=N;have:=Rat.mul_inv_cancel _ Y;grind
  have S:(iR n M).2≠0:=fun h=>g.1.nz (iR n t) (List.mem_cons_self ..) (by rw [o,h];grind);have lm:(iR n M).1.length=n:=by rw [d,lE]
  obtain ⟨ls,l1,l2,l3,l4⟩:=Bc hn Q2 (show 4+46373<1000000 by omega) hy oM (fun w hw j=>by have:=(hy w hw).bound (B:=5) Q2 hn (xy.Co (ir (n:=n) hw)) j;omega) (fun j=>by have:=bM j;omega);have hW:Wd (15456+13) (iR n M).2:=by
   have w2:=Cs (dy.wd (fun _=>rfl) cy (ir hu));rw [H,Rat.div_def];exact wd_mul (D.ex I1 (iR n t) (Q7 ..)) (KF (Fs w2 N))
  have dl:eO n (cA n ls):=by rw [l4];exact Ou dy lm S
  obtain ⟨v7,g1,g2⟩:=Dc (q:=cA n r) (q':=kB (cA n ys) (iR n M)) (⟨hl,hok,hd,.refl _⟩:RT n 46369 1287 _ r) (⟨Q2,l3,dl,by rw [l4];exact .refl _⟩:RT n (4+46373) 6 _ ls) hn Q2 (cb_sft cy hW) Q2 Q2;have he:eW (cA n v7) (l++neg (kB y (iR n M))):=by
   refine G.CP (t:=iR n t) (u:=iR n u0) (by rw [d];exact ht) o fun f=>?_;rw [g2.eqv,G.cF,G.cF,hEr,G.jn,G.jn,G.wL,G.wL,G.jf _ hpy]
  have xr:XB 5 (iR n t :: l):=fun w hw=>hx5 w (hpr.symm.subset hw);obtain ⟨i1,i2⟩:=D.next I1 g xr g2.dst lm (by rw [d];exact nF) (by rw [d];exact ht) H he;have o7:∀ w∈v7,pg n 46369 w:=fun w hw=>by
   obtain ⟨o1,o2,o3⟩:=g2.ok w hw;exact ⟨o1,o2,mL w.2.1,o3.rb.1,oq aW (Aw (D.ex i1 _ (ir hw))) Q2⟩
  have xs:XB 10 (kB (cA n ys) (iR n M)):=fun w hw=>by
   obtain ⟨z,hz,rfl⟩:=Qs.1 hw;refine ⟨fun k hk=>G.nH (xy z hz).1 (by rw [d];exact nF) hk,?_⟩;show dA (bj z.1 (iR n M).1)<=10;rw [G.jF ((dy.len z hz).trans lm.symm),d];have:=(xy z hz).2;omega
  have x7:XB 10 (cA n v7):=g2.M5 ((hx5.mono Q2).append xs.neg);have W:=mP g2.ok hn (by have:=g2.len;omega) x7 Q2;have K:∀ {R},aL (fun k m0=>bif decide (kM (cA n v7)>most) then some ([],false,()) else az.l0 k m0 v7 ys most u0 (acc++[M])) R->aL (fun k m=>az.l0 k m r ys most u0 acc) R:=fun {R} h=>by
   refine A (go R (dV.step (fun k m1 m0=>az.eF k m1 m0 _ _ _ _ _ _ _) (dV.bF (Q8 Q2) (dV.bind V (dV.bF (Q8 Q2) (dV.bind v1 ?_))))));dsimp only;rw [hM];exact dV.iT (by simp only [List.length_cons,List.length_nil];omega) (dV.bind l1 (dV.bind g1 (dV.bind W (dV.of h))))
  have L:∀ {q},eO n q->NN q->eW (prod q (iR n u0 :: y)) (cA n r)->∃ q',eO n q'/\(∀ w∈q',w∈q)/\eW (prod q' (iR n u0 :: y)) (cA n v7):=fun {q} hq nq hp=>by
   obtain ⟨q',a,b,c⟩:=G.xD G.Bo hq nq sy g lm (by rw [d];exact ht) o he (hp.trans hEr);exact ⟨q',b.1.tail,fun w hw=>a.symm.subset (Qa _ hw),c⟩
  by_cases c:kM (cA n v7)>most
  ·refine .inr ⟨K (aL.bT (Qb c) (aL.of (aV _))),h0,fun q hq nq hdq hp=>?_⟩;obtain ⟨q',a,b',c'⟩:=L hq nq hp;have:kM (cA n v7)<=most:=G.qU hm1 fun w hw=>by
    obtain ⟨z,hz,ez⟩:=g2.dst.from (fun e=>(c'.co e).symm) hw;rw [<- ez];obtain ⟨a1,O,Z⟩:=Wp.1 hz;obtain ⟨a2,Q,rfl⟩:=Qs.1 Z;show dA (bj a2.1 a1.1)<=most;rw [G.jF ((sy.1.len a2 Q).trans (a.len a1 O).symm)];have p1:=G.kf Q;have p2:=G.kf (b' a1 O);omega
   omega
  have xm:XB most (cA n v7):=fun w hw=>⟨(x7 w hw).1,by have:=G.kf hw;omega⟩;have ai:mu (cA n v7)<s:=Q2;rcases ih (s-1) Q2 v7 (acc++[M]) Q2 i1 o7 g2.dst xm (by simp only [Qf,List.length_cons,List.length_nil];omega) with ⟨q,q1,q2,q3,q4,q5,q6⟩ | ⟨q1,-,q2⟩
  ·obtain ⟨w1,w2⟩:=G.Dr G.Bo (m:=iR n M) (t:=iR n t) (u:=iR n u0) q4 sy g g2.dst lm S (by rw [d];exact ht) o he q6;refine .inl ⟨M :: q,?_,fun w hw=>?_,by simp only [List.length_cons];omega,w1.1,fun w hw=>?_,w2.trans hEr.symm⟩
   ·rw [show acc++M :: q=(acc++[M])++q by simp];exact K (aL.bF (Q8 c) q1)
   ·rcases Qo.1 hw with rfl | hw
    ·exact oM
    exact q2 w hw
   rcases Qo.1 hw with rfl | hw
   ·rw [d];exact nF
   exact q5 w hw
  refine .inr ⟨K (aL.bF (Q8 c) q1),h0,fun q hq nq hdq hp=>?_⟩;obtain ⟨q',a,b',c'⟩:=L hq nq hp;have:kM q'<=kM q:=G.qU (G.qT q) fun w hw=>G.kf (b' w hw);exact q2 q' a (fun w hw=>nq w (b' w hw)) Q2 c'
 refine .inr ⟨A h,h0,fun q hq nq hdq hp=>?_⟩;have:=G.HO G.Bo (t:=iR n t) (u:=iR n u0) hq nq sy g (hp.trans hEr) i;have e1:=ot.at0 hn i;have e2:=ou.at0 hn i;have af:(u0.1.take n).getD i 0<=(t.1.take n).getD i 0:=this;omega
end
end Go.Proofs.YtfbgaddecbiimaaGreatDoor.Q
end
section
namespace Go.Proofs.YtfbgaddecbiimaaGreatDoor.G
def hv (a:Rat):List Rat->Rat
 | []=>0
 | c :: l=>c+a*hv a l
def sd (a:Rat):List Rat->List Rat
 | c :: d :: l=>hv a (d :: l) :: sd a (d :: l)
 | _=>[]
theorem hv_sd (a T:Rat):∀ l:List Rat,hv T l=hv a l+(T-a)*hv T (sd a l)
 | []=>by simp only [hv,sd];grind
 | [c]=>by simp only [hv,sd];grind
 | c :: d :: l=>by
  have ih:=hv_sd a T (d :: l);show c+T*hv T (d :: l)=c+a*hv a (d :: l)+(T-a)*(hv a (d :: l)+T*hv T (sd a (d :: l)));rw [ih];grind
theorem FM (a:Rat):∀ (c:Rat) (l:List Rat),(sd a (c :: l)).length=l.length
 | _,[]=>rfl
 | _,d :: l=>by rw [sd,List.length_cons,FM a d l,List.length_cons]
def Bd (V x:Rat):Prop:=-V<=x/\x<=V
theorem Bd.mono {V W x:Rat} (h:Bd V x) (hw:V<=W):Bd W x:=by unfold Bd at *;grind
theorem Bd.add {V W x y:Rat} (h:Bd V x) (g:Bd W y):Bd (V+W) (x+y):=by unfold Bd at *;grind
theorem Bd.sub {V W x y:Rat} (h:Bd V x) (g:Bd W y):Bd (V+W) (x-y):=by unfold Bd at *;grind
theorem Bd.fz {V x:Rat} (h:Bd V x):0<=V:=by unfold Bd at *;grind
theorem Bd.mul {V x a b:Rat} (h:Bd V x) (c:0<=a) (hb:a<=b):Bd (b*V) (a*x):=by
 have hV:=h.fz;obtain ⟨h1,h2⟩:=h;have e1:=Rat.mul_le_mul_of_nonneg_left h1 c;have e2:=Rat.mul_le_mul_of_nonneg_left h2 c;have e3:=Rat.mul_le_mul_of_nonneg_right hb hV;unfold Bd;grind
theorem D8 {a M:Rat} (b:0<=a) (ha:a<=10):∀ {l:List Rat},Bd M (hv a l)->(∀ x∈sd a l,Bd M x)->∀ x∈l,Bd (11*M) x
 | [],_,_,x,hx=>by cases hx
 | [c],h,_,x,hx=>by
  rw [List.mem_singleton] at hx;subst hx;have hM:=h.fz;have:hv a [x]=x:=by simp only [hv];grind
  rw [this] at h;exact h.mono (by grind)
 | c :: d :: l,h,hs,x,hx=>by
  have h1:Bd M (hv a (d :: l)):=hs _ (by rw [sd];exact Q7 ..);have h2:∀ x∈sd a (d :: l),Bd M x:=fun x hx=>hs x (by rw [sd];exact Qa _ hx);rcases Qo.1 hx with rfl | hx
  ·have e:hv a (x :: d :: l)-a*hv a (d :: l)=x:=by rw [hv];grind
   have:=h.sub (h1.mul b ha);rw [e] at this;exact this.mono (by grind)
  exact D8 b ha h1 h2 x hx
theorem GY:∀ (l:List Rat) (pts:List Int) (V:Rat),pts.Pairwise (·≠·)->pts.length=l.length->(∀ a∈pts,0<=a/\a<=10)->(∀ a∈pts,Bd V (hv (a:Rat) l))->0<=V->∀ c∈l,Bd (24 ^ l.length*V) c
 | [],_,_,_,_,_,_,_,c,hc=>by cases hc
 | c :: l,[],_,_,h,_,_,_,_,_=>by simp at h
 | c :: l,a :: ps,V,hp,hl,hr,hb,hV,x,hx=>by
  obtain ⟨hp1,hp2⟩:=Qv.1 hp;obtain ⟨a0,a1⟩:=hr a (Q7 ..);have ra0:(0:Rat)<=(a:Rat):=WJ.2 a0;have ra1:(a:Rat)<=10:=by have:=V3.2 a1;simpa using this
  have hba:=hb a (Q7 ..);have g:ps.length=(sd (a:Rat) (c :: l)).length:=by rw [FM];simpa using hl
  have ih:=GY (sd (a:Rat) (c :: l)) ps (2*V) hp2 g (fun b h=>hr b (List.mem_cons_of_mem _ h)) (fun b h=>?_) (by grind)
  ·rw [FM] at ih;have hM:(0:Rat)<=24 ^ l.length*(2*V):=Rat.mul_nonneg (Rat.pow_nonneg (by decide)) (by grind);have j:(1:Rat)<=24 ^ l.length:=by
    have:∀ k:Nat,(1:Rat)<=24 ^ k:=fun k=>by
     induction k with
     | zero=>rw [Yp];exact Yb
     | succ k ih=>rw [Rat.pow_succ];grind
    exact this _
   have d:V<=24 ^ l.length*(2*V):=by
    have:=Rat.mul_le_mul_of_nonneg_right j (show (0:Rat)<=2*V by grind);grind
   have:=D8 ra0 ra1 (hba.mono d) ih x hx;refine this.mono ?_;rw [List.length_cons,Rat.pow_succ];grind
  have i:=hp1 b h;have hbb:=hb b (Qa _ h);have e:=hv_sd (a:Rat) (b:Rat) (c :: l);generalize hv (b:Rat) (sd (a:Rat) (c :: l))=w at *
  have hd:=hbb.sub hba;rw [e] at hd;have f:Bd (V+V) (((b-a:Int):Rat)*w):=by
   rw [Rat.intCast_sub];have e2:hv (a:Rat) (c :: l)+((b:Rat)-a)*w-hv (a:Rat) (c :: l)=((b:Rat)-a)*w:=by grind
   rw [e2] at hd;exact hd
  obtain ⟨g1,g2⟩:=f;rcases Int.lt_or_gt_of_ne i with c1 | c1
  ·have h1:(1:Rat)<=((b-a:Int):Rat):=by
    have:=V3.2 (show (1:Int)<=b-a by omega);simpa using this
   generalize ((b-a:Int):Rat)=q at *
   unfold Bd;constructor
   ·apply Classical.byContradiction;intro hh;have hw:w < -(2*V):=by grind
    have:=Rat.mul_le_mul_of_nonneg_left (show w<=-(2*V) by grind) (show (0:Rat)<=q-1 by grind);have:=Rat.mul_nonneg (show (0:Rat)<=q-1 by grind) (show (0:Rat)<=2*V by grind);grind
   apply Classical.byContradiction;intro hh;have hw:2*V<w:=by grind
   have:=Rat.mul_le_mul_of_nonneg_left (show 2*V<=w by grind) (show (0:Rat)<=q-1 by grind);have:=Rat.mul_nonneg (show (0:Rat)<=q-1 by grind) (show (0:Rat)<=2*V by grind);grind
  have h1:((b-a:Int):Rat)<=-1:=by
   have:=V3.2 (show b-a<=(-1:Int) by omega);simpa using this
  generalize ((b-a:Int):Rat)=q at *
  unfold Bd;constructor
  ·apply Classical.byContradiction;intro hh;have hw:w < -(2*V):=by grind
   have:=Rat.mul_le_mul_of_nonneg_left (show w<=-(2*V) by grind) (show (0:Rat)<=-1-q by grind);have:=Rat.mul_nonneg (show (0:Rat)<=-1-q by grind) (show (0:Rat)<=2*V by grind);grind
  apply Classical.byContradiction;intro hh;have hw:2*V<w:=by grind
  have:=Rat.mul_le_mul_of_nonneg_left (show 2*V<=w by grind) (show (0:Rat)<=-1-q by grind);have:=Rat.mul_nonneg (show (0:Rat)<=-1-q by grind) (show (0:Rat)<=2*V by grind);grind
def ev (a:Rat) (p:List Tm):List Tm:=p.map fun t=>(t.1.tail,t.2*a ^ (t.1.headD 0).toNat)
theorem uZ (m:Ex->Rat) (a:Rat):∀ p,cY m (ev a p)=cY (fun e=>a ^ (e.headD 0).toNat*m e.tail) p
 | []=>rfl
 | t :: p=>by
  have ih:=uZ m a p;show t.2*a ^ (t.1.headD 0).toNat*m t.1.tail+cY m (ev a p)=_;rw [ih];simp only [cY];grind
theorem eW.ev {p q:List Tm} (h:eW p q) (a:Rat):eW (ev a p) (ev a q):=fun m=>by rw [uZ,uZ,h]
section
variable {n:Nat}
theorem Ot {p q:List Tm} (hp:Len (n+1) p) (hq:Len (n+1) q) (np:NN p) (nq:NN q) (a:Rat):eW (ev a (prod p q)) (prod (ev a p) (ev a q)):=fun m=>by
 rw [uZ,dh,dh,uZ];refine jB fun t ht=>.inr ?_;rw [uZ,<- mD];refine jB fun u hu=>.inr ?_;have lt:=hp t ht;have lu:=hq u hu;have n1:=np t ht;have n2:=nq u hu
 match he:t.1,hf:u.1,lt,lu,n1,n2 with
 | [],_,h,_,_,_=>simp at h
 | _ :: _,[],_,h,_,_=>simp at h
 | k :: e,j :: f,_,_,n1,n2 =>
  have h1:=n1 k (List.mem_cons_self ..);have h2:=n2 j (List.mem_cons_self ..);show a ^ (j+k).toNat*m (bj f e)=a ^ k.toNat*(a ^ j.toNat*m (bj f e));rw [show (j+k).toNat=k.toNat+j.toNat by omega,DD];grind
theorem Len.ev {p:List Tm} (h:Len (n+1) p) (a:Rat):Len n (ev a p):=fun t ht=>by
 obtain ⟨u,hu,rfl⟩:=Qs.1 ht;show u.1.tail.length=n;rw [List.length_tail,h u hu];rfl
def X5 (p:List Tm):Prop:=∀ t∈p,∀ x∈t.1,(0:Int)<=x/\x<=5
theorem X5.ev {p:List Tm} (h:X5 p) (a:Rat):X5 (ev a p):=fun t ht=>by
 obtain ⟨u,hu,rfl⟩:=Qs.1 ht;exact fun x hx=>h u hu x (List.mem_of_mem_tail hx)
def ma (f:Nat->Rat):Nat->Nat->List Rat
 | _,0=>[]
 | i,m+1=>f i :: ma f (i+1) m
theorem tD (f:Nat->Rat):∀ (i m:Nat),(ma f i m).length=m
 | _,0=>rfl
 | i,m+1=>by rw [ma,List.length_cons,tD f (i+1) m]
theorem xw (f:Nat->Rat):∀ (i m k:Nat),i<=k->k<i+m->f k∈ma f i m
 | i,0,k,h,h'=>Q2
 | i,m+1,k,h,h'=>by
  rw [ma]
  by_cases e:i=k
  ·rw [e];exact Q7 ..
  exact Qa _ (xw f (i+1) m k Q2 Q2)
theorem Df (a:Rat) (f g:Nat->Rat):∀ (i m:Nat),hv a (ma (fun k=>f k+g k) i m)=hv a (ma f i m)+hv a (ma g i m)
 | _,0=>by simp only [ma,hv];grind
 | i,m+1=>by
  have ih:=Df a f g (i+1) m;simp only [ma,hv,ih];grind
theorem zJ (a:Rat):∀ (i m:Nat),hv a (ma (fun _=>0) i m)=0
 | _,0=>rfl
 | i,m+1=>by
  have ih:=zJ a (i+1) m;simp only [ma,hv,ih];grind
theorem zK (a:Rat) (f:Nat->Rat):∀ (i m:Nat),(∀ k,i<=k->f k=0)->hv a (ma f i m)=0
 | _,0,_=>rfl
 | i,m+1,h=>by
  have ih:=zK a f (i+1) m fun k hk=>h k Q2;simp only [ma,hv,ih,h i (Nat.le_refl _)];grind
theorem De (a c:Rat) (h:Nat):∀ (i m:Nat),i<=h->h<i+m->hv a (ma (fun k=>if k=h then c else 0) i m)=c*a ^ (h-i)
 | _,0,_,_=>Q2
 | i,m+1,h1,h2=>by
  rw [ma,hv]
  by_cases e:i=h
  ·rw [if_pos e,e,zK a _ (h+1) m (fun k hk=>if_neg Q2),Nat.sub_self,Rat.pow_zero];grind
  rw [if_neg e,De a c h (i+1) m Q2 Q2,show h-i=(h-(i+1))+1 by omega,Rat.pow_succ];grind
def row (p:List Tm) (e:Ex):List Rat:=ma (fun k=>co p ((k:Int) :: e)) 0 6
theorem AV (a:Rat) (e:Ex):∀ {p:List Tm},Len (n+1) p->X5 p->hv a (row p e)=co (ev a p) e
 | [],_,_=>zJ a 0 6
 | t :: p,hl,hx=>by
  have ih:=AV a e (p:=p) (fun u hu=>hl u (Qa _ hu)) (fun u hu=>hx u (Qa _ hu));have lt:=hl t (Q7 ..);have xt:=hx t (Q7 ..)
  match he:t.1,lt,xt with
  | [],h,_=>simp at h
  | k :: f,_,xt =>
   obtain ⟨k0,k5⟩:=xt k (Q7 ..);have h1:row (t :: p) e=ma (fun j=>(if j=k.toNat then (if f=e then t.2 else 0) else 0)+co p ((j:Int) :: e)) 0 6:=by
    unfold row;congr 1;funext j;rw [iI,he];congr 1
    by_cases c:j=k.toNat
    ·rw [Qk c]
     by_cases d:f=e
     ·rw [Qk d,Qk (by rw [d];congr 1;omega)]
     rw [Qc d,Qc (fun h=>d (List.cons.inj h).2)]
    rw [Qc c,Qc (fun h=>c (by have:=(List.cons.inj h).1;omega))]
   have h2:co (ev a (t :: p)) e=(if f=e then t.2*a ^ k.toNat else 0)+co (ev a p) e:=by
    show co (_ :: ev a p) e=_;rw [iI];simp only [he,List.tail_cons,List.headD_cons]
   rw [h1,Df,h2,De a _ k.toNat 0 6 Q2 Q2,Nat.sub_zero];have b:hv a (ma (fun k=>co p ((k:Int) :: e)) 0 6)=co (ev a p) e:=ih;rw [b];congr 1
   by_cases d:f=e
   ·rw [Qk d,Qk d]
   rw [if_neg d,if_neg d];grind
def AB:Rat->List Tm->Prop
 | H,[]=>0<=H
 | H,t :: l=>∃ c,Bd c t.2/\AB (H-c) l
theorem AB.mono:∀ {l:List Tm} {H K:Rat},AB H l->H<=K->AB K l
 | [],H,K,h,hh=>Rat.le_trans h hh
 | t :: l,H,K,⟨c,h1,h2⟩,hh=>⟨c,h1,h2.mono (by grind)⟩
theorem AB.pos:∀ {l:List Tm} {H:Rat},AB H l->0<=H
 | [],H,h=>h
 | t :: l,H,⟨c,h1,h2⟩=>by have:=h1.fz;have:=h2.pos;grind
theorem AB.co (e:Ex):∀ {l:List Tm} {H:Rat},AB H l->Bd H (co l e)
 | [],H,h=>by rw [vi];unfold Bd;have:0<=H:=h;grind
 | t :: l,H,⟨c,h1,h2⟩=>by
  have ih:=h2.co e;have:=h1.fz;rw [iI];split
  ·have:=h1.add ih;exact this.mono (by grind)
  unfold Bd at *;grind
theorem pow5 {a:Rat} (c:0<=a) (ha:a<=10):∀ k:Nat,k<=5->0<=a ^ k/\a ^ k<=100000:=by
 have b:∀ k:Nat,0<=a ^ k/\a ^ k<=10 ^ k:=fun k=>by
  induction k with
  | zero=>rw [Yp,Yp];exact ⟨by decide,Yb⟩
  | succ k ih =>
   rw [Rat.pow_succ,Rat.pow_succ];refine ⟨Rat.mul_nonneg ih.1 c,?_⟩;have e1:=Rat.mul_le_mul_of_nonneg_right ih.2 c;have e2:=Rat.mul_le_mul_of_nonneg_left ha (show (0:Rat)<=10 ^ k by have:=ih;grind);grind
 intro k hk;refine ⟨(b k).1,Rat.le_trans (b k).2 ?_⟩;have:k=0∨k=1∨k=2∨k=3∨k=4∨k=5:=Q2;rcases this with rfl | rfl | rfl | rfl | rfl | rfl<;>decide
theorem AB.ev {a:Rat} (b:0<=a) (ha:a<=10):∀ {l:List Tm} {H:Rat},X5 l->AB H l->AB (100000*H) (ev a l)
 | [],H,_,h=>by have:(0:Rat)<=H:=h;show (0:Rat)<=100000*H;grind
 | t :: l,H,hx,⟨c,h1,h2⟩=>by
  have ih:=AB.ev b ha (fun u hu=>hx u (Qa _ hu)) h2;have hk:(t.1.headD 0).toNat<=5:=by
   have xt:=hx t (Q7 ..);cases h:t.1 with
   | nil=>simp
   | cons k f =>
    have:=xt k (by rw [h];exact Q7 ..);simp only [List.headD_cons];omega
  obtain ⟨p0,p1⟩:=pow5 b ha _ hk;refine ⟨100000*c,?_,ih.mono (by grind)⟩;have e:t.2*a ^ (t.1.headD 0).toNat=a ^ (t.1.headD 0).toNat*t.2:=Rat.mul_comm ..;show Bd _ (t.2*a ^ (t.1.headD 0).toNat);rw [e];exact h1.mul p0 p1
def Wh (p:List Tm):Prop:=∀ e,∃ z:Int,co p e=(z:Rat)
theorem Wh.ev {p:List Tm} (h:Wh p) (hl:Len (n+1) p) (hx:X5 p) (a:Int):Wh (ev (a:Rat) p):=fun e=>by
 rw [<- AV (a:Rat) e hl hx];have key:∀ i m:Nat,∃ z:Int,hv (a:Rat) (ma (fun k=>co p ((k:Int) :: e)) i m)=(z:Rat):=fun i m=>by
  induction m generalizing i with
  | zero=>exact ⟨0,by simp [ma,hv]⟩
  | succ m ih =>
   obtain ⟨z,hz⟩:=ih (i+1);obtain ⟨y,hy⟩:=h ((i:Int) :: e);refine ⟨y+a*z,?_⟩;rw [ma,hv,hz,hy,XM,VT]
 exact key 0 6
theorem FH {l:List Rat} (hl:l.length=6) (hne:∃ c∈l,c≠0):∃ pts:List Int,pts.Pairwise (·≠·)/\pts.length=6/\(∀ a∈pts,0<=a/\a<=10)/\∀ a∈pts,hv (a:Rat) l≠0:=by
 have all:([0,1,2,3,4,5,6,7,8,9,10]:List Int).Pairwise (·≠·):=by decide
 have d:∀ a∈([0,1,2,3,4,5,6,7,8,9,10]:List Int),0<=a/\a<=10:=by decide
 generalize hA:([0,1,2,3,4,5,6,7,8,9,10]:List Int)=A at *
 have e:A.length=11:=by rw [<- hA];rfl
 have h1:(A.filter fun a:Int=>decide (hv (a:Rat) l=0)).length+(A.filter fun a:Int=>!decide (hv (a:Rat) l=0)).length=A.length:=by
  clear hA e all d
  induction A with
  | nil=>rfl
  | cons b T ih =>
   by_cases c:hv (b:Rat) l=0
   ·rw [Vp (by simp [c]),VC (by simp [c]),List.length_cons,List.length_cons];omega
   rw [VC (by simp [c]),Vp (by simp [c]),List.length_cons,List.length_cons];omega
 have h2:(A.filter fun a:Int=>decide (hv (a:Rat) l=0)).length<=5:=by
  apply QK;intro h;obtain ⟨c,hc,f⟩:=hne;have:=GY l ((A.filter fun a:Int=>decide (hv (a:Rat) l=0)).take 6) 0 ((all.sublist WT).sublist (List.take_sublist ..)) (by rw [Qd,hl];omega) (fun a ha=>d a (V5.1 (VO ha)).1) (fun a ha=>by
   have:=(V5.1 (VO ha)).2;rw [Vc] at this;rw [this];unfold Bd;exact ⟨by decide,Yb⟩) Yb c hc
  unfold Bd at this;rw [Rat.mul_zero] at this;grind
 refine ⟨(A.filter fun a:Int=>!decide (hv (a:Rat) l=0)).take 6,(all.sublist WT).sublist (List.take_sublist ..),by rw [Qd];omega,fun a ha=>d a (V5.1 (VO ha)).1,fun a ha=>?_⟩;have:=(V5.1 (VO ha)).2;simpa using this
end
theorem Al:∀ (n:Nat) {s y x:List Tm} {H:Rat},Len n s->Len n y->X5 s->X5 y->X5 x->Wh y->(∃ e,co y e≠0)->eW (prod s y) x->AB H x->Len n x->∀ e:Ex,e.length=n->Bd (19110297600000 ^ n*H) (co s e)
 | 0,s,y,x,H,ls,ly,_,_,_,wy,⟨e0,h0⟩,he,hx,lx,e,hl=>by
  have e1:e=[]:=Wb.1 hl;subst e1;obtain ⟨t,ht,et⟩:=IB h0;have e2:e0=[]:=by rw [<- et];exact Wb.1 (ly t ht)
  subst e2;have e3:co (prod s y) []=co s []*co y []:=by
   show cY _ _=cY _ _*cY _ _;rw [dh,Rat.mul_comm,<- mD];refine jB fun a ha=>.inr ?_;have ea:=List.length_eq_zero_iff.1 (ls a ha);rw [ea];have:cY (fun f=>dl [] (bj f [])) y=cY (dl []) y:=jB fun b hb=>.inr (by rw [List.length_eq_zero_iff.1 (ly b hb)];rfl);rw [this];simp only [dl,if_true];grind
  have e4:=hx.co [];rw [<- he.co,e3] at e4;obtain ⟨z,hz⟩:=wy [];rw [hz] at e4 h0;rw [Yp,Rat.one_mul];have hH:=hx.pos;have r:z≠0:=fun h=>h0 (by rw [h];rfl);generalize co s []=c at *
  obtain ⟨g1,g2⟩:=e4;rcases Int.lt_or_gt_of_ne r with d | d
  ·have hq:(z:Rat)<=-1:=by have:=V3.2 (show z<=(-1:Int) by omega);simpa using this
   generalize (z:Rat)=q at *
   unfold Bd;constructor
   ·apply Classical.byContradiction;intro hh;have:=Rat.mul_le_mul_of_nonneg_left (show c<=-H by grind) (show (0:Rat)<=-1-q by grind);have:=Rat.mul_nonneg (show (0:Rat)<=-1-q by grind) hH;grind
   apply Classical.byContradiction;intro hh;have:=Rat.mul_le_mul_of_nonneg_left (show H<=c by grind) (show (0:Rat)<=-1-q by grind);have:=Rat.mul_nonneg (show (0:Rat)<=-1-q by grind) hH;grind
  have hq:(1:Rat)<=(z:Rat):=by have:=V3.2 (show (1:Int)<=z by omega);simpa using this
  generalize (z:Rat)=q at *
  unfold Bd;constructor
  ·apply Classical.byContradiction;intro hh;have:=Rat.mul_le_mul_of_nonneg_left (show c<=-H by grind) (show (0:Rat)<=q-1 by grind);have:=Rat.mul_nonneg (show (0:Rat)<=q-1 by grind) hH;grind
  apply Classical.byContradiction;intro hh;have:=Rat.mul_le_mul_of_nonneg_left (show H<=c by grind) (show (0:Rat)<=q-1 by grind);have:=Rat.mul_nonneg (show (0:Rat)<=q-1 by grind) hH;grind
 | n+1,s,y,x,H,ls,ly,xs,xy,xx,wy,⟨e0,h0⟩,he,hx,lx,e,hl=>by
  obtain ⟨t,ht,et⟩:=IB h0;have hH:=hx.pos
  match e,hl with
  | k :: f,hl =>
  have v:∀ (k0:Int) (f0:Ex),e0=k0 :: f0->Bd (19110297600000 ^ (n+1)*H) (co s (k :: f)):=fun k0 f0 hk0=>by
   have w:=xy t ht k0 (by rw [et,hk0];exact Q7 ..);obtain ⟨i,p1,p2,p3,p4⟩:=FH (l:=row y f0) (tD _ _ _) ⟨_,xw _ 0 6 k0.toNat (Qy _) Q2,by rw [show ((k0.toNat:Nat):Int)=k0 by omega,<- hk0];exact h0⟩;have o:∀ a∈i,Bd (19110297600000 ^ n*(100000*H)) (hv (a:Rat) (row s f)):=fun a ha=>by
    obtain ⟨a0,a1⟩:=p3 a ha;have p:(0:Rat)<=(a:Rat):=WJ.2 a0;have j:(a:Rat)<=10:=by have:=V3.2 a1;simpa using this
    rw [AV (a:Rat) f ls xs];refine Al n (ls.ev _) (ly.ev _) (xs.ev _) (xy.ev _) (xx.ev _) (wy.ev ly xy a) ⟨f0,by rw [<- AV (a:Rat) f0 ly xy];exact p4 a ha⟩ ?_ (AB.ev p j xx hx) (lx.ev _) f (by simpa using hl);exact (Ot ls ly (fun t ht x hx=>(xs t ht x hx).1) (fun t ht x hx=>(xy t ht x hx).1) _).symm.trans (he.ev _)
   have hV:(0:Rat)<=19110297600000 ^ n*(100000*H):=Rat.mul_nonneg (Rat.pow_nonneg (by decide)) (by grind);have g:=GY (row s f) i _ p1 (by rw [p2];exact (tD _ _ _).symm) p3 o hV;rw [show (row s f).length=6 from tD _ _ _] at g;have m:(24:Rat) ^ 6*(19110297600000 ^ n*(100000*H))=19110297600000 ^ (n+1)*H:=by
    rw [show (24:Rat) ^ 6=191102976 by decide,Rat.pow_succ];grind
   rw [m] at g
   by_cases c:0<=k/\k<=5
   ·have:=g _ (xw (fun k=>co s ((k:Int) :: f)) 0 6 k.toNat (Qy _) Q2);rw [show ((k.toNat:Nat):Int)=k by omega] at this;exact this
   rw [yL fun u hu e=>c (xs u hu k (by rw [e];exact List.mem_cons_self ..))];have:(0:Rat)<=19110297600000 ^ (n+1)*H:=Rat.mul_nonneg (Rat.pow_nonneg (by decide)) hH;unfold Bd;grind
  match h:e0,ly t ht with
  | [],hl0=>rw [et] at hl0;simp at hl0
  | k0 :: f0,_=>exact v k0 f0 rfl
def Dv (p:Int) (c:Rat):Prop:=∃ z:Int,c=((p*z:Int):Rat)
theorem Dv.add {p:Int} {a b:Rat} (h:Dv p a) (h':Dv p b):Dv p (a+b):=by
 obtain ⟨x,rfl⟩:=h;obtain ⟨y,rfl⟩:=h';exact ⟨x+y,by rw [WY,XM]⟩
theorem Dv.zero (p:Int):Dv p 0:=⟨0,Q3⟩
theorem Dv.mul {p:Int} {a b:Rat} (h:Dv p a) (h':∃ z:Int,b=(z:Rat)):Dv p (b*a):=by
 obtain ⟨x,rfl⟩:=h;obtain ⟨y,rfl⟩:=h';refine ⟨x*y,?_⟩;rw [<- Rat.intCast_mul];congr 1;grind
theorem Dv.co {p:Int} (e:Ex):∀ {l:List Tm},(∀ t∈l,Dv p t.2)->Dv p (co l e)
 | [],_=>Dv.zero p
 | t :: l,h=>by
  rw [iI];refine Dv.add ?_ (Dv.co e fun u hu=>h u (Qa _ hu));split
  ·exact h t (Q7 ..)
  exact Dv.zero p
def Pr (p:Int):Prop:=1<p/\∀ a b:Int,p ∣ a*b->p ∣ a∨p ∣ b
theorem pr_ex (c:Nat) (hc:1<c):∃ p:Nat,Pr (p:Int)/\p ∣ c:=by
 induction c using Nat.strongRecOn with
 | _ c ih =>
 by_cases h:∀ d,d ∣ c->d=1∨d=c
 ·refine ⟨c,⟨Q2,fun a b hab=>?_⟩,Nat.dvd_refl c⟩;have h1:c ∣ a.natAbs*b.natAbs:=by
   rw [<- Vw];exact Y2.1 hab
  rcases h _ (Nat.gcd_dvd_left c a.natAbs) with g | g
  ·exact .inr (Y2.2 (Nat.Coprime.dvd_of_dvd_mul_left g h1))
  refine .inl (Y2.2 ?_);have:=Nat.gcd_dvd_right c a.natAbs
  rwa [g] at this
 obtain ⟨d,hd⟩:=Classical.not_forall.1 h;have h1:d ∣ c:=QK fun g=>hd fun g'=>absurd g' g;have h2:¬ (d=1∨d=c):=fun g=>hd fun _=>g;have h3:=Yy Q2 h1;have h4:d≠0:=fun g=>by rw [g] at h1;have:=Yl h1;omega
 obtain ⟨p,p1,p2⟩:=ih d Q2 Q2;exact ⟨p,p1,Nat.dvd_trans p2 h1⟩
noncomputable def nd (p:Int) (t:Tm):Bool:=@decide (¬ Dv p t.2) (Classical.propDecidable _)
theorem rE {p:Int} {t:Tm}:nd p t=true↔¬ Dv p t.2:=@decide_eq_true_iff _ (Classical.propDecidable _)
theorem uC (f:Tm->Bool) (m:Ex->Rat):∀ l,cY m l=cY m (l.filter f)+cY m (l.filter fun t=>!f t)
 | []=>by simp only [List.filter_nil,cY];grind
 | t :: l=>by
  have ih:=uC f m l;cases c:f t with
  | true=>rw [List.filter_cons_of_pos c,List.filter_cons_of_neg (by simp [c])];simp only [cY];grind
  | false=>rw [List.filter_cons_of_neg (by simp [c]),List.filter_cons_of_pos (by simp [c])];simp only [cY];grind
def Kj (p:List Tm):Prop:=∀ t∈p,∃ z:Int,t.2=(z:Rat)
section
variable {n:Nat}
theorem fQ.filter {p:List Tm} (h:fQ n p) (f:Tm->Bool):fQ n (p.filter f):=⟨h.ord.sublist WT,fun t ht=>h.nz t (V5.1 ht).1,fun t ht=>h.len t (V5.1 ht).1⟩
theorem Iv {ℓ:Int} {p q:List Tm} (h:(∀ t∈p,Dv ℓ t.2)/\Kj q∨Kj p/\∀ t∈q,Dv ℓ t.2) (e:Ex):Dv ℓ (co (prod p q) e):=Dv.co e fun v hv=>by
 obtain ⟨t,ht,hv⟩:=Wp.1 hv;obtain ⟨u,hu,rfl⟩:=Qs.1 hv;rcases h with ⟨a,b⟩ | ⟨a,b⟩
 ·exact (a t ht).mul (b u hu)
 show Dv ℓ (u.2*t.2);rw [Yq];exact (b u hu).mul (a t ht)
theorem gauss {ℓ:Int} (hℓ:Pr ℓ) {p q:List Tm} (hp:fQ n p) (hq:fQ n q) (wp:Kj p) (wq:Kj q) (h:∀ e,Dv ℓ (co (prod p q) e)) (hn:∃ t∈q,¬ Dv ℓ t.2):∀ t∈p,Dv ℓ t.2:=by
 intro t ht;apply QK;intro hd;obtain ⟨u,hu,f⟩:=hn;have h1:t∈p.filter (nd ℓ):=V5.2 ⟨ht,rE.2 hd⟩;have h2:u∈q.filter (nd ℓ):=V5.2 ⟨hu,rE.2 f⟩;have s1:=hp.filter (nd ℓ);have s2:=hq.filter (nd ℓ);have w1:Kj (p.filter (nd ℓ)):=fun t ht=>wp t (V5.1 ht).1;have w2:Kj (q.filter (nd ℓ)):=fun t ht=>wq t (V5.1 ht).1;have m1:∀ t∈p.filter (nd ℓ),¬ Dv ℓ t.2:=fun t ht=>rE.1 (V5.1 ht).2;have m2:∀ t∈q.filter (nd ℓ),¬ Dv ℓ t.2:=fun t ht=>rE.1 (V5.1 ht).2;have d1:∀ t∈p.filter (fun t=>!nd ℓ t),Dv ℓ t.2:=fun t ht=>QK fun g=>by
  have:=(V5.1 ht).2;rw [rE.2 g] at this;cases this
 have d2:∀ t∈q.filter (fun t=>!nd ℓ t),Dv ℓ t.2:=fun t ht=>QK fun g=>by
  have:=(V5.1 ht).2;rw [rE.2 g] at this;cases this
 have d:∀ e,Dv ℓ (co (prod (p.filter (nd ℓ)) (q.filter (nd ℓ))) e):=fun e=>by
  have e1:co (prod p q) e=co (prod (p.filter (nd ℓ)) (q.filter (nd ℓ))) e+co (prod (p.filter (nd ℓ)) (q.filter fun t=>!nd ℓ t)) e+co (prod (p.filter fun t=>!nd ℓ t) q) e:=by
   have a1:eW p (p.filter (nd ℓ)++p.filter fun t=>!nd ℓ t):=fun m=>by rw [cF];exact uC _ m p
   have a2:eW q (q.filter (nd ℓ)++q.filter fun t=>!nd ℓ t):=fun m=>by rw [cF];exact uC _ m q
   have b1:=((a1.prod (.refl q)).trans (E5 _ _ q)).co e;have b2:=(((eW.refl (p.filter (nd ℓ))).prod a2).trans (Ln _ _ _)).co e;rw [J5] at b1 b2;rw [b1,b2]
  obtain ⟨x,hx⟩:=h e;obtain ⟨y,hy⟩:=Iv (ℓ:=ℓ) (p:=p.filter (nd ℓ)) (q:=q.filter fun t=>!nd ℓ t) (.inr ⟨w1,d2⟩) e;obtain ⟨z,hz⟩:=Iv (ℓ:=ℓ) (p:=p.filter fun t=>!nd ℓ t) (q:=q) (.inl ⟨d1,wq⟩) e;refine ⟨x-y-z,?_⟩;rw [hx,hy,hz] at e1;rw [Int.mul_sub,Int.mul_sub,Rat.intCast_sub,Rat.intCast_sub];grind
 match hP:p.filter (nd ℓ),hQ:q.filter (nd ℓ) with
 | [],_=>rw [hP] at h1;cases h1
 | _ :: _,[]=>rw [hQ] at h2;cases h2
 | a :: P,b :: Q =>
  rw [hP,hQ] at d;rw [hP] at s1 w1 m1;rw [hQ] at s2 w2 m2;obtain ⟨c,-⟩:=pU oH s1.len s2.len (wD s1) (wD s2);rw [s1.dst.gh a (Q7 ..),s2.dst.gh b (Q7 ..)] at c;obtain ⟨x,hx⟩:=w1 a (Q7 ..);obtain ⟨y,hy⟩:=w2 b (Q7 ..);obtain ⟨z,hz⟩:=d (bj a.1 b.1);rw [c,hx,hy,<- VT] at hz;have i:=Wz.1 hz;rcases hℓ.2 x y ⟨z,i⟩ with ⟨w,hw⟩ | ⟨w,hw⟩
  ·exact m1 a (Q7 ..) ⟨w,by rw [hx,hw]⟩
  exact m2 b (Q7 ..) ⟨w,by rw [hy,hw]⟩
theorem nat_ne {c:Nat} (h:1<=c):((c:Int):Rat)≠0:=fun e=>by
 have:=Wz.1 (e.trans Rat.intCast_zero.symm);omega
theorem wF {p:List Tm} (h:fQ n p) {c:Rat} (hc:c≠0):fQ n (kU c p):=by
 refine ⟨VK.2 h.ord,fun t ht=>?_,fun t ht=>?_⟩
 ·obtain ⟨u,hu,rfl⟩:=Qs.1 ht;exact fun e=>(VB.1 e).elim (h.nz u hu) hc
 obtain ⟨u,hu,rfl⟩:=Qs.1 ht;exact h.len u hu
theorem KV (c:Rat) (p q:List Tm) (e:Ex):co (prod (kU c p) q) e=c*co (prod p q) e:=by
 show cY _ _=c*cY _ _;rw [dh,jO,dh]
theorem GZ {q:List Tm} (hq:fQ n q) (wq:Kj q) (pq:∀ ℓ,Pr ℓ->∃ t∈q,¬ Dv ℓ t.2):∀ (c:Nat) {p:List Tm},1<=c->fQ n p->(∀ t∈p,∃ z:Int,t.2*((c:Int):Rat)=(z:Rat))->(∀ e,∃ z:Int,co (prod p q) e=(z:Rat))->Kj p:=by
 intro c
 induction c using Nat.strongRecOn with
 | _ c ih =>
 intro p hc hp hz hw
 by_cases c1:c=1
 ·intro t ht;obtain ⟨z,h⟩:=hz t ht;rw [c1] at h;exact ⟨z,by rw [<- h];simp⟩
 obtain ⟨ℓ,hℓ,d,rfl⟩:=pr_ex c Q2;have hd:1<=d:=by
  rcases X0 d with h | h
  ·rw [h] at hc;omega
  exact h
 have f:1<ℓ:=by have:=hℓ.1;omega
 have b:=nat_ne hc;have h1:=gauss hℓ (wF hp b) hq (fun t ht=>by
  obtain ⟨u,hu,rfl⟩:=Qs.1 ht;exact hz u hu) wq (fun e=>by
  obtain ⟨z,h⟩:=hw e;rw [KV,h];exact ⟨d*z,by rw [<- VT,Int.natCast_mul,Ws]⟩) (pq _ hℓ)
 refine ih d (by have:=Nat.mul_lt_mul_of_pos_right f hd;omega) hd hp (fun t ht=>?_) hw;obtain ⟨z,h⟩:=h1 (t.1,t.2*(((ℓ*d:Nat):Int):Rat)) (Qs.2 ⟨t,ht,rfl⟩);refine ⟨z,?_⟩;have h2:t.2*(((ℓ*d:Nat):Int):Rat)=((ℓ*z:Int):Rat):=h;rw [Int.natCast_mul,VT,VT] at h2;have a:=nat_ne (show 1<=ℓ by omega);generalize ((ℓ:Int):Rat)=L at *
 have h3:L*(t.2*((d:Int):Rat)-z)=0:=by grind
 rcases VB.1 h3 with g | g
 ·exact absurd g a
 grind
theorem Mq:∀ (p:List Tm),∃ c:Nat,1<=c/\∀ t∈p,∃ z:Int,t.2*((c:Int):Rat)=(z:Rat)
 | []=>⟨1,Qn 1,fun t ht=>by cases ht⟩
 | t :: p=>by
  obtain ⟨c,h1,h2⟩:=Mq p;have hd:=t.2.den_pos;have ht:t.2*((t.2.den:Int):Rat)=(t.2.num:Rat):=by
   have h1:=VQ t.2;rw [Y9] at h1;have h0:=nat_ne hd;generalize ((t.2.den:Int):Rat)=d at *
   generalize hn:(t.2.num:Rat)=m at *
   rw [<- h1,Rat.div_mul_cancel h0]
  refine ⟨t.2.den*c,Nat.mul_pos hd h1,fun u hu=>?_⟩;rw [Int.natCast_mul,VT];rcases Qo.1 hu with rfl | hu
  ·exact ⟨u.2.num*c,by rw [Rat.intCast_mul,<- ht];grind⟩
  obtain ⟨z,hz⟩:=h2 u hu;exact ⟨z*t.2.den,by rw [Rat.intCast_mul,<- hz];grind⟩
def cg:List Tm->Nat
 | []=>0
 | t :: l=>Nat.gcd t.2.num.natAbs (cg l)
theorem Ha:∀ {l:List Tm} {t:Tm},t∈l->cg l ∣ t.2.num.natAbs
 | u :: l,t,h=>by
  rcases Qo.1 h with rfl | h
  ·exact Nat.gcd_dvd_left ..
  exact Nat.dvd_trans (Nat.gcd_dvd_right ..) (Ha h)
theorem Mg {d:Nat}:∀ {l:List Tm},(∀ t∈l,d ∣ t.2.num.natAbs)->d ∣ cg l
 | [],_=>Nat.dvd_zero d
 | t :: l,h=>Nat.dvd_gcd (h t (Q7 ..)) (Mg fun u hu=>h u (Qa _ hu))
end
section
variable {n:Nat}
theorem B7 {D:Int}:∀ {l:List Tm} {H:Int},CL D H l->∀ t∈l,∃ z:Int,t.2*(D:Rat)=(z:Rat)/\(z.natAbs:Int)<=H
 | [],_,_,t,ht=>by cases ht
 | u :: l,H,⟨z,h1,h2⟩,t,ht=>by
  rcases Qo.1 ht with rfl | ht
  ·exact ⟨z,h1,by have:=h2.pos;omega⟩
  obtain ⟨y,a,b⟩:=B7 h2 t ht;exact ⟨y,a,Q2⟩
theorem wM {c:Rat} {z:Int} (h:c=(z:Rat)):c.num=z:=by rw [h,Rat.num_intCast]
theorem Ju {y:List Tm} {u:Tm} (hy:fQ n (u :: y)) (w:Kj (u :: y)):∃ g:Nat,1<=g/\g ∣ u.2.num.natAbs/\Kj (kU (1 / ((g:Int):Rat)) (u :: y))/\∀ ℓ,Pr ℓ->∃ t∈kU (1 / ((g:Int):Rat)) (u :: y),¬ Dv ℓ t.2:=by
 have c:u.2.num.natAbs≠0:=by
  obtain ⟨z,hz⟩:=w u (Q7 ..);rw [wM hz];intro h;have:z=0:=Q2;exact hy.nz u (Q7 ..) (by rw [hz,this];rfl)
 have hd:cg (u :: y) ∣ u.2.num.natAbs:=Ha (Q7 ..);have hg:1<=cg (u :: y):=Nat.pos_of_ne_zero fun h=>by rw [h] at hd;exact c (Yl hd)
 have a:=nat_ne hg;have d:∀ x:Rat,x*(1 / ((cg (u :: y):Int):Rat))*((cg (u :: y):Int):Rat)=x:=fun x=>by
  rw [Rat.div_def,Rat.mul_assoc,Rat.mul_assoc,Rat.inv_mul_cancel _ a];grind
 refine ⟨_,hg,hd,fun t ht=>?_,fun ℓ hℓ=>?_⟩
 ·obtain ⟨v,hv,rfl⟩:=List.mem_map.1 ht;obtain ⟨z,hz⟩:=w v hv;obtain ⟨q,hq⟩:=Int.ofNat_dvd_left.2 (Ha hv);rw [wM hz] at hq;refine ⟨q,?_⟩;show v.2*_=_;rw [hz,hq,Rat.intCast_mul,Rat.div_def];have:=Rat.mul_inv_cancel _ a;grind
 apply QK;intro hno;have b:∀ v∈u :: y,cg (u :: y)*ℓ.natAbs ∣ v.2.num.natAbs:=fun v hv=>by
  have h1:Dv ℓ (v.2*(1 / ((cg (u :: y):Int):Rat))):=QK fun h=>hno ⟨_,Qs.2 ⟨v,hv,rfl⟩,h⟩;obtain ⟨z,hz⟩:=h1;have h2:=d v.2;rw [hz,<- VT] at h2;rw [wM h2.symm];refine ⟨z.natAbs,?_⟩;rw [Vw,Vw,Int.natAbs_natCast,Nat.mul_comm,Nat.mul_assoc]
 have h3:=Yy Q2 (Mg b);have h4:2<=ℓ.natAbs:=by have:=hℓ.1;omega
 have h5:cg (u :: y)*2<=cg (u :: y)*ℓ.natAbs:=Wi _ h4;omega
theorem ab_of {D:Int} (hD:1<=D) {c:Int} (hc:0<=c):∀ {l:List Tm} {H:Int},CL D H l->AB (((c*H:Int)):Rat) (kU (c:Rat) l)
 | [],H,h=>WJ.2 (QX hc h)
 | t :: l,H,⟨z,h1,h2⟩=>by
  have ih:=ab_of hD hc h2;refine ⟨((c*z.natAbs:Int):Rat),?_,ih.mono ?_⟩
  ·show Bd _ (t.2*(c:Rat));have hb:Bd (((z.natAbs:Int)):Rat) t.2:=by
    have e:(z:Rat)<=((z.natAbs:Int):Rat):=V3.2 Q2;have a:(((-(z.natAbs:Int)):Int):Rat)<=(z:Rat):=V3.2 Q2;have b:(0:Rat)<=((z.natAbs:Int):Rat):=WJ.2 Q2;have f:(1:Rat)<=(D:Rat):=by have:=V3.2 hD;simpa using this
    rw [Rat.intCast_neg] at a;rw [<- h1] at e a;generalize ((z.natAbs:Int):Rat)=Z at *
    generalize (D:Rat)=d at *
    generalize t.2=x at *
    unfold Bd;constructor
    ·apply Classical.byContradiction;intro hh;have:=Rat.mul_le_mul_of_nonneg_left (show x<=-Z by grind) (show (0:Rat)<=d-1 by grind);have:=Rat.mul_nonneg (show (0:Rat)<=d-1 by grind) b;grind
    apply Classical.byContradiction;intro hh;have:=Rat.mul_le_mul_of_nonneg_left (show Z<=x by grind) (show (0:Rat)<=d-1 by grind);have:=Rat.mul_nonneg (show (0:Rat)<=d-1 by grind) b;grind
   have:=hb.mul (WJ.2 hc) Yb;rw [Yq t.2,VT];exact this
  rw [<- Rat.intCast_sub];exact V3.2 (by rw [Int.mul_sub];omega)
theorem HN {s y x:List Tm} {u:Tm} (hn:n<=8) (hs:fQ n s) (hy:fQ n (u :: y)) (lx:Len n x) (xs:X5 s) (xy:X5 (u :: y)) (xx:X5 x) (he:eW (prod s (u :: y)) x) (cx:CB 12 x) (cy:CB 12 (u :: y)):∀ t∈s,Wd 64 t.2:=by
 obtain ⟨Dx,Hx,x0,x1,x2,x3⟩:=cx;obtain ⟨Dy,Hy,y0,y1,y2,y3⟩:=cy;have i:((Dy:Int):Rat)≠0:=fun e=>by have:=Wz.1 (e.trans Rat.intCast_zero.symm);omega
 have A:((Dx:Int):Rat)≠0:=fun e=>by have:=Wz.1 (e.trans Rat.intCast_zero.symm);omega
 have wY:Kj (kU (Dy:Rat) (u :: y)):=fun t ht=>by
  obtain ⟨v,hv,rfl⟩:=Qs.1 ht;obtain ⟨z,hz,_⟩:=B7 y3 v hv;exact ⟨z,hz⟩
 have sY:fQ n ((u.1,u.2*(Dy:Rat)) :: kU (Dy:Rat) y):=wF hy i;have eY:eW (prod s (kU (Dy:Rat) (u :: y))) (kU (Dy:Rat) x):=fun m=>by
  have:=he m;rw [jO,<- this,dh,dh,<- mD];exact congrArg (fun f=>cY f s) (funext fun e=>by rw [jO])
 have k:∀ (c:Rat) {p:List Tm},X5 p->X5 (kU c p):=fun c p h t ht=>by
  obtain ⟨v,hv,rfl⟩:=Qs.1 ht;exact h v hv
 have q:=Al n (H:=((Dy*Hx:Int):Rat)) hs.len (Len.kU hy.len _) xs (k _ xy) (k _ xx) (fun e=>by
  have j:∀ {l:List Tm},Kj l->∃ z:Int,co l e=(z:Rat):=fun {l} h=>by
   induction l with
   | nil=>exact ⟨0,by simp [vi]⟩
   | cons t l ih =>
    obtain ⟨a,ha⟩:=ih fun u hu=>h u (Qa _ hu);obtain ⟨b,hb⟩:=h t (Q7 ..);rw [iI,ha,hb];split
    ·exact ⟨b+a,by rw [XM]⟩
    exact ⟨a,by grind⟩
  exact j wY) ⟨u.1,by rw [show kU (Dy:Rat) (u :: y)=(u.1,u.2*(Dy:Rat)) :: kU (Dy:Rat) y from rfl,sY.dst.gh _ (Q7 ..)];exact sY.nz _ (Q7 ..)⟩ eY (ab_of Q2 Q2 x3) (Len.kU lx _)
 obtain ⟨g,g1,g2,g3,g4⟩:=Ju (u:=(u.1,u.2*(Dy:Rat))) sY wY;have hg:=nat_ne g1;have D:(g:Int)<=Hy:=by
  obtain ⟨z,hz,hb⟩:=B7 y3 u (Q7 ..);have e1:(u.1,u.2*(Dy:Rat)).2.num=z:=wM hz;rw [e1] at g2;have C:z≠0:=fun h=>sY.nz _ (Q7 ..) (by show u.2*(Dy:Rat)=0;rw [hz,h];rfl);have:=Yy Q2 g2;omega
 generalize hG:((g:Int):Rat)=G at *
 have r:G*(Dx:Rat) / (Dy:Rat)≠0:=by
  rw [Rat.div_def];intro h;rcases VB.1 h with h | h
  ·rcases VB.1 h with h | h
   ·exact hg h
   exact A h
  have:=Rat.mul_inv_cancel _ i;rw [h] at this;grind
 have sP:=wF hs r;obtain ⟨c,c1,c2⟩:=Mq (kU (G*(Dx:Rat) / (Dy:Rat)) s);have hw:=GZ (wF sY (c:=1 / G) (by
  rw [Rat.div_def];intro h;have:=Rat.mul_inv_cancel _ hg;grind)) g3 g4 c c1 sP c2 (fun e=>by
  have j:∀ {l:List Tm},Kj l->∃ z:Int,co l e=(z:Rat):=fun {l} h=>by
   induction l with
   | nil=>exact ⟨0,by simp [vi]⟩
   | cons t l ih =>
    obtain ⟨a,ha⟩:=ih fun u hu=>h u (Qa _ hu);obtain ⟨b,hb⟩:=h t (Q7 ..);rw [iI,ha,hb];split
    ·exact ⟨b+a,by rw [XM]⟩
    exact ⟨a,by grind⟩
  obtain ⟨z,hz⟩:=j (l:=kU (Dx:Rat) x) fun t ht=>by
   obtain ⟨v,hv,rfl⟩:=Qs.1 ht;obtain ⟨z,hz,_⟩:=B7 x3 v hv;exact ⟨z,hz⟩
  refine ⟨z,?_⟩;rw [<- hz];show cY _ _=cY _ _;rw [dh,jO,jO,<- he (dl e),dh];have e1:(fun e'=>cY (fun f=>dl e (bj f e')) (kU (1 / G) ((u.1,u.2*(Dy:Rat)) :: kU (Dy:Rat) y)))=fun e'=>(1 / G*(Dy:Rat))*cY (fun f=>dl e (bj f e')) (u :: y):=funext fun e'=>by
   rw [jO,show (u.1,u.2*(Dy:Rat)) :: kU (Dy:Rat) y=kU (Dy:Rat) (u :: y) from rfl,jO,Rat.mul_assoc]
  rw [e1,mD,<- Rat.mul_assoc];congr 1;rw [Rat.div_def,Rat.div_def];have a1:=Rat.mul_inv_cancel _ i;have a2:=Rat.mul_inv_cancel _ hg;grind)
 intro t ht;obtain ⟨z,hz⟩:=hw _ (Qs.2 ⟨t,ht,rfl⟩);have o:t.2*(G*(Dx:Rat) / (Dy:Rat))=(z:Rat):=hz;have e2:t.2*(((g:Int)*Dx:Int):Rat)=((z*Dy:Int):Rat):=by
  rw [Rat.intCast_mul,Rat.intCast_mul,hG,<- o,Rat.div_def];have a1:=Rat.mul_inv_cancel _ i;grind
 have w:(0:Int)<(g:Int)*Dx:=WX Q2 x0;have d:(g:Int)*Dx<=WB ^ 24:=jo (a:=12) (b:=12) Q2 x1 Q2;have hb:=q t.1 (hs.len t ht);rw [hs.dst.gh t ht] at hb;have hV:(19110297600000:Rat) ^ n*((Dy*Hx:Int):Rat)<=((WB ^ 40:Int):Rat):=by
  have h1:((19110297600000:Int) ^ n)<=WB ^ 16:=by
   refine Vf (rG (by decide) (show (19110297600000:Int)<=WB ^ 2 by decide) n) ?_;rw [<- Yw];exact zm Q2
  have h2:(19110297600000:Int) ^ n*(Dy*Hx)<=WB ^ (16+(12+12)):=jo h1 (jo y1 x2 x3.pos) (QX Q2 x3.pos);have:=V3.2 h2;rw [VT,Rat.intCast_pow] at this;exact this
 have B:((z*Dy).natAbs:Int)<=WB ^ 64:=by
  have h1:Bd (((WB ^ 40*WB ^ 24:Int)):Rat) (((z*Dy:Int)):Rat):=by
   rw [<- e2,Yq,VT (WB ^ 40),Yq ((WB ^ 40:Int):Rat)];exact (hb.mono hV).mul (WJ.2 Q2) (V3.2 d)
  obtain ⟨b1,b2⟩:=h1;rw [<- Rat.intCast_neg] at b1;have b1:=V3.1 b1;have b2:=V3.1 b2;rw [<- Va,show 40+24=64 from rfl] at b1 b2;omega
 obtain ⟨a,b⟩:=Cz.size w ⟨_,e2,B⟩;exact ⟨b,Vf a (Vf d (zm Q2))⟩
end
end Go.Proofs.YtfbgaddecbiimaaGreatDoor.G
end
section
namespace Go.Proofs.YtfbgaddecbiimaaGreatDoor.Q
open Go.RowKit Go.Proofs.YtfbgaddecbiimaaGreatDoorW.PrintWords Go.Proofs.YtfbgaddecbiimaaGreatDoorW.PrintMore Go.Proofs.YtfbgaddecbiimaaGreatDoor.V Go.Proofs.YtfbgaddecbiimaaGreatDoor.E
open Go.Proofs.YtfbgaddecbiimaaGreatDoor.P (Dg Nm vl WW RR bE gI aV jW kL dK aH bC aW cJ cD u64)
open Go.Proofs.YtfbgaddecbiimaaGreatDoor.G (Ex Tm cY co eW fQ eO iW CB XB Wd Len WB kM fk kU neg kB prod bj NN wB ltE MW MZ dA)
section
variable {n K M:Nat} {q:List Tm} {l:List ae}
theorem sW (h:PT n K M q l) (hK:K<=200) (hM:M<=4000) (hn:n<=8) (hx:XB 40 q):fR ((n:Int),l,())/\Ev (fun k=>gF k ((n:Int),l,())) (((n:Int),l,()),(0:Int),()):=by
 have hl:=h.len;have hv:fR ((n:Int),l,()):=zu hn (Qu hl hM) hK h.ok h.srt (fun u hu=>(h.xb hx hu).2) (fun u hu e he=>((h.xb hx hu).1 e he).2);have e:=ku (h.arg hn Q2);rw [fZ hv] at e;exact ⟨hv,Ev.step (fun k=>pz k _) (Ev.bind e (bF rfl (Ev.bind (vI hn Q2 Q2 h.ok) (aV _))))⟩
theorem okT_x {B:Int} {L:Nat} (h:∀ w∈l,su n K w) (hB:512<=B) (hK:K<=L):∀ w∈l,nh n (B-256) L w:=fun w hw=>(nh.up (B:=256) (h w hw) Q2).mono hK
theorem ze {a:ae} {ys:List ae} (hn:n<=8) (hp:PT n 1 6 (cT l) l) (hq:PT n 1 6 (cT (a :: ys)) (a :: ys)) (cx:CB 12 (cT l)) (cy:CB 12 (cT (a :: ys))) (xx:XB 5 (cT l)) (xy:XB 5 (cT (a :: ys))) :
 (∃ q,∃ C,Ev (fun k=>dR k ((n:Int),l,()) ((n:Int),a :: ys,())) (((n:Int),q,()),true,())/\(∀ w∈q,nh n 1099511627776 C w)/\fQ n (cT q)/\NN (cT q)/\eW (prod (cT q) (cT (a :: ys))) (cT l)) ∨
 (Ev (fun k=>dR k ((n:Int),l,()) ((n:Int),a :: ys,())) (ya,false,())/\∀ q,eO n q->NN q->¬ eW (prod q (cT (a :: ys))) (cT l)):=by
 obtain ⟨W,hW⟩:∃ W:Nat,W=1679616:=⟨_,rfl⟩;have ly:=hq.len;simp only [List.length_cons] at ly;obtain ⟨I,mu,D,i1,i2⟩:=G.Ow (u:=fi a) (y:=cT ys) hW hn hp.srt.dst hq.srt cx cy xx xy (by rw [kr];exact hp.len) (by rw [kr];omega);rcases EJ (L:=1) hn Q2 Q2 Q2 hq.ok hq.srt Q2 D 1415176098156 l [] (i2 _) (i1 _ hp.srt (.refl _)) (okT_x hp.ok Q2 Q2) hp.srt Q3 with ⟨q,q1,q2,q3,q4,q5,q6⟩ | ⟨q1,q2⟩
 ·exact .inl ⟨q,_,Ev.step (fun k=>mS k _ _) q1.diag,q2,q4,q5,q6⟩
 exact .inr ⟨Ev.step (fun k=>mS k _ _) q1.diag,q2⟩
theorem we {a:ae} {ys m:List ae} {p:List Tm} (hn:n<=8) (sp:fQ n p) (hm:PT n 25 36 (prod p (cT (a :: ys))) m) (hq:PT n 1 6 (cT (a :: ys)) (a :: ys)) (cx:CB 12 p) (cy:CB 12 (cT (a :: ys))) (xx:XB 5 p) (xy:XB 5 (cT (a :: ys))) (lp:p.length<=6) :
 ∃ q,∃ C,Ev (fun k=>dR k ((n:Int),m,()) ((n:Int),a :: ys,())) (((n:Int),q,()),true,())/\(∀ w∈q,nh n 1099511627776 C w)/\cT q=p:=by
 have ly:=hq.len;simp only [List.length_cons] at ly;obtain ⟨I,mu,D,i1,i2⟩:=G.J0 (u:=fi a) (y:=cT ys) sp.dst hq.srt cx cy xx xy lp (by rw [kr];omega);have hI:=i1 _ hm.eqv.symm;rcases EJ (L:=1) hn Q2 Q2 Q2 hq.ok hq.srt Q2 D 6 m [] (i2 _ hI) hI (okT_x hm.ok Q2 Q2) hm.srt Q3 with ⟨q,q1,q2,q3,q4,q5,q6⟩ | ⟨q1,q2⟩
 ·refine ⟨q,_,Ev.step (fun k=>mS k _ _) q1.diag,q2,q4.uniq sp fun e=>?_⟩;exact (G.ql q4.len sp.len hq.srt (q6.trans hm.eqv)).co e
 exact absurd hm.eqv.symm (q2 p sp.dst xx.nn)
theorem Bg {q x y:List Tm} {u:Tm} (hq:eO n q) (nq:NN q) (hy:eO n (u :: y)) (hx:eO n x) (he:eW (prod q (u :: y)) x) (xx:XB 5 x) (xy:XB 5 (u :: y)):XB 5 q/\(q≠[]->kM q+kM (u :: y)<=kM x):=by
 by_cases c:q=[]
 ·subst c;exact ⟨XB.nil _,fun h=>absurd rfl h⟩
 have e:=G.Mr hq hy hx (fun e=>(he.co e).symm) c (List.cons_ne_nil _ _) (fun t ht=>G.kX (nq t ht)) (fun t ht=>G.kX (xy t ht).1);have d1:=XB.kM xx Q2;have d2:=G.kf (Q7 ..:u∈u :: y);have d3:=G.kX (xy u (Q7 ..)).1;exact ⟨fun t ht=>⟨nq t ht,by have:=G.kf ht;omega⟩,fun _=>Q2⟩
theorem quo_pt {q:List ae} {C:Nat} {B:Int} {x y:List Tm} {u:Tm} (hn:n<=8) (ok:∀ w∈q,nh n B C w) (hq:fQ n (cT q)) (nq:NN (cT q)) (hy:fQ n (u :: y)) (hx:eO n x) (he:eW (prod (cT q) (u :: y)) x) (xx:XB 5 x) (xy:XB 5 (u :: y)) (cx:CB 12 x) (cy:CB 12 (u :: y)):PT n 65 1287 (cT q) q:=by
 have hxq:=(Bg hq.dst nq hy.dst hx he xx xy).1;have hw:=G.HN hn hq hy hx.len (fun t ht=>hxq.Co ht) (fun t ht=>xy.Co ht) (fun t ht=>xx.Co ht) he cx cy;refine ⟨by have:=G.few5 hn hq.dst hxq;rwa [kr] at this,fun w hw'=>?_,hq,.refl _⟩;obtain ⟨o1,o2,o3⟩:=ok w hw';have hm:=kq hw';exact ⟨o1,fun e he=>by have:=hxq.Co hm e he;omega,_,o3.rb.1,Cs (hw _ hm)⟩
theorem y9 {x y:List ae} (hn:n<=8) (hx:RT n 4 6 (cA n x) x) (hy:RT n 4 6 (cA n y) y) (cx:CB 12 (cA n x)) (cy:CB 12 (cA n y)) (xx:XB 5 (cA n x)) (xy:XB 5 (cA n y)) (s:y≠[]) :
 (∃ q,Ev (fun k=>az k x y) (q,true,())/\(∀ w∈q,pg n 46373 w)/\eO n (cA n q)/\NN (cA n q)/\eW (prod (cA n q) (cA n y)) (cA n x)) ∨
 (Ev (fun k=>az k x y) ([],false,())/\∀ q,eO n q->NN q->¬ eW (prod q (cA n y)) (cA n x)):=by
 have ly:=hy.len;obtain ⟨b,hb,b1,b2⟩:=tE hy.ok Q2 (Wj.2 s);obtain ⟨c,hpr,a⟩:=LP hy.ok hn hy.dst hb b2;have e:(cH (t:=ab) y (b:Int):ae)=y[b]:=cE hb;have r:=Qi hb;have p:=mP hx.ok hn (by have:=hx.len;omega) xx Q2;have o:CB 12 (iR n y[b] :: c):=by
  obtain ⟨D,H,d0,d1,d2,d3⟩:=cy;exact ⟨D,H,d0,d1,d2,d3.perm hpr⟩
 have l:XB 5 (iR n y[b] :: c):=fun w hw=>xy w (hpr.symm.subset hw);generalize y[b]=u at *
 have j:∀ q,eW (prod q (cA n y)) (prod q (iR n u :: c)):=fun q f=>by
  rw [G.dh,G.dh];exact congrArg (fun g=>cY g q) (funext fun e=>G.jf _ hpr)
 obtain ⟨I,mu,D,i1,i2⟩:=G.Nz hn hx.dst a cx o xx;have d1:=G.qT (cA n x);have d2:=XB.kM xx Q2;have d:∀ {R},aL (fun k m=>az.l0 k m x y (kM (cA n x)) u []) R->Ev (fun k=>az k x y) R:=fun {R} h=>by
  refine Ev.step (fun k=>mX k _ _) (Ev.bind b1 (iT Q2 (Ev.bind p ?_)));rw [e];exact h.diag
 rcases Jn hn hy.ok r hpr a hy.dst cy xy ly D d1 d2 1287 x [] (i2 _) (i1 _ hx.dst (.refl _)) (fun w hw=>(hx.ok w hw).mono Q2) hx.dst (fun t ht=>⟨(xx t ht).1,G.kf ht⟩) Q3 with ⟨q,q1,q2,q3,q4,q5,q6⟩ | ⟨q1,x0,q2⟩
 ·exact .inl ⟨q,d q1,q2,q4,q5,(j _).trans q6⟩
 refine .inr ⟨d q1,fun q hq nq hp=>?_⟩;have i:=(j q).symm.trans hp
 by_cases h0:q=[]
 ·subst h0;exact x0 (XO.1 ((hx.dst.empty hq fun e=>(hp.co e).symm).2 rfl))
 exact q2 q hq nq ((Bg hq nq a.1 hx.dst i xx l).2 h0) i
end
theorem lQ {n:Nat} {l l':List ae} {R:ay×Bool×Unit} {S:ay×Int×Unit} (hpa:Ev (fun k=>lG k ((n:Int),l,()) ((n:Int),l',())) 0) (b:l'≠[]) (hd:Ev (fun k=>dR k ((n:Int),l,()) ((n:Int),l',())) R) (hs:R.2.1=true->Ev (fun k=>gF k R.1) S) (hs':R.2.1=false->S=(ya,(30:Int),())):Ev (fun k=>fG k ((n:Int),l,()) ((n:Int),l',())) S:=by
 have hz:((List.length l':Int)==(0:Int))=false:=QE.2 (by have:=Wj.2 b;omega);refine Ev.step (fun k=>qm k _ _) (Ev.bind hpa (Ev.bind (a:=false) (bT rfl (Ev.bind (a:=false) (Ev.step (fun k=>sb k _) (by rw [show ((List.length ((n:Int),l',()).2.1:Int)==(0:Int))=false from hz];exact aV _)) (aV _))) (bF rfl ?_)));unfold fG.j0;refine bF rfl (Ev.bind hd ?_);cases c:R.2.1 with
 | true=>exact bF rfl (Ev.bind (hs c) (aV _))
 | false=>exact bT rfl (by rw [hs' c];exact aV _)
theorem wj {p p':ay} (ha:pP p) (hb:pP p'):Ev (fun k=>iz k p p') true:=by
 refine Ev.step (fun k=>kH k p p') (Ev.bind Ke (bF rfl ?_))
 by_cases hne:p.1=p'.1
 case neg=>exact Ev.bind (a:=true) (bT (WS.2 hne) (aV _)) (Ev.bind (a:=true) (bT rfl (aV _)) (bT rfl (aV _)))
 have d:(p.1 != p'.1)=false:=by rw [hne];simp
 obtain ⟨t,t1,t2⟩:=zv ha 6 1 5;cases t with
 | false=>exact Ev.bind (a:=true) (bF d (Ev.bind t1 (aV _))) (Ev.bind (a:=true) (bT rfl (aV _)) (bT rfl (aV _)))
 | true =>
 obtain ⟨s,s1,s2⟩:=zv hb 6 1 5;cases s with
 | false=>exact Ev.bind (a:=false) (bF d (Ev.bind t1 (aV _))) (Ev.bind (a:=true) (bF rfl (Ev.bind s1 (aV _))) (bT rfl (aV _)))
 | true =>
 obtain ⟨n,hp⟩:=t2 rfl;obtain ⟨n',hq⟩:=s2 rfl;obtain rfl:n=n':=by
  have e1:p.1=(n:Int):=by rw [hp.eq]
  have e2:p'.1=(n':Int):=by rw [hq.eq]
  omega
 refine Ev.bind (a:=false) (bF d (Ev.bind t1 (aV _))) (Ev.bind (a:=false) (bF rfl (Ev.bind s1 (aV _))) (bF rfl ?_));obtain ⟨x,x1,x2,x3⟩:=hp.rte;obtain ⟨y,y1,y2,y3⟩:=hq.rte;have D:=hp.eq;have o:=hq.eq;have hn:=hp.n8;have g:=HU hp.arg hq.arg hp.ok hq.ok hne;have B:=hq.ok;have H:=hq.arg;generalize hl:p.2.1=l at *
 generalize hl':p'.2.1=l' at *
 have P1:=hp.pt;have P2:=hq.pt;have B1:=hp.cb;have B2:=hq.cb;have X1:=hp.xb;have X2:=hq.xb;rw [hl] at P1 B1 X1;rw [hl'] at P2 B2 X2;clear hl hl';subst D;subst o;refine Ev.bind x1 (Ev.bind y1 ?_);have y0:y=[]↔l'=[]:=by
  rw [<- XO (f:=iR n) (l:=y),<- XO (f:=fi) (l:=l')];show cA n y=[]↔cT l'=[];rw [y3]
 by_cases c:l'=[]
 ·have hy:=y0.2 c;subst hy;subst c;refine Ev.bind (a:=(ya,(20:Int),())) ?_ (bT rfl (Ev.bind (a:=true) (bT rfl (Ev.bind DV (aV _))) (aV _)));refine Ev.step (fun k=>qm k _ _) (Ev.bind g (Ev.bind (a:=true) (bT rfl (Ev.bind (a:=true) (Ev.step (fun k=>sb k _) (aV _)) (aV _))) (bT rfl ?_)));unfold fG.j0;exact bT rfl (aV _)
 have j:((List.length y:Int)==(0:Int))=false:=QE.2 (by have:=Wj.2 (fun h=>c (y0.1 h));omega);obtain ⟨m,m1,m2⟩:=F9 P1 P2 X1 X2 P1.srt.len P2.srt.len hn Q2 Q2 Q2 Q2 Q2 (B1.prod B2) Q2;have m3:PT n 25 36 (prod (cT l) (cT l')) m:=m2.to Q2 Q2 (.refl _);have xm:=XB.prod P1.srt.len P2.srt.len X1 X2;obtain ⟨mv,-⟩:=sW m3 Q2 Q2 hn (xm.mono Q2);have A:=HU (m3.arg hn Q2) H mv B rfl;obtain ⟨u0,ys,rfl⟩:∃ u0 ys,l'=u0 :: ys:=by
  cases l' with
  | nil=>exact absurd rfl c
  | cons u ys=>exact ⟨u,ys,rfl⟩
 obtain ⟨b,C,b1,b2,b3⟩:=we hn P1.srt m3 P2 B1 B2 X1 X2 (by rw [kr];exact P1.len);have b4:PT n 13 6 (cT l) b:=⟨by rw [<- kr,b3,kr];exact P1.len,fun w hw=>by
  obtain ⟨o1,o2,o3⟩:=b2 w hw;have hm:=kq hw;rw [b3] at hm;exact ⟨o1,fun e he=>by have:=X1.Co hm e he;omega,_,o3.rb.1,Cs (P1.srt.dst.wd (fun _=>rfl) B1 hm)⟩,by rw [b3];exact P1.srt,by rw [b3];exact .refl _⟩
 obtain ⟨-,b5⟩:=sW b4 Q2 Q2 hn (X1.mono Q2);have b6:=b4.is x2 (.refl _) hn Q2 Q2 Q2 Q2;have i:∀ {v:ay×Int×Unit},Ev (fun k=>(xL k ((n:Int),l,()) ((n:Int),u0 :: ys,())).bind fun (v19:ay×Int×Unit) =>
  (fG k v19.1 ((n:Int),u0 :: ys,())).bind fun (v20:ay×Int×Unit) =>
  (bif v19.2.1==(0:Int) then some (v20.2.1==(0:Int)) else some false).bind fun (b21:Bool) =>
  (bif b21 then (aP k x ((n:Int),l,()).1).bind fun (v22:ay) =>
  (aI k v20.1 v22).bind fun (v23:Bool) =>
  some v23 else some false).bind fun (b24:Bool) =>
  some b24) true:=fun {v}=>by
  refine Ev.bind (Ev.step (fun k=>DE k _ _) (Ev.bind g (bF rfl (Ev.bind m1 (aV _))))) (Ev.bind (lQ A c b1 (fun _=>b5) (fun h=>by cases h)) (Ev.bind (a:=true) (bT rfl (aV _)) (Ev.bind (a:=true) (bT rfl ?_) (aV _))));obtain ⟨K,hK⟩:=b6;exact ⟨K,fun k hk=>(kG k _ _ _).symm.trans (hK (k+1) Q2)⟩
 have R1:RT n 4 6 (cA n x) x:=⟨x2.len,x2.ok,x2.dst,.refl _⟩;have R2:RT n 4 6 (cA n y) y:=⟨y2.len,y2.ok,y2.dst,.refl _⟩;have F:y≠[]:=fun h=>c (y0.1 h);have rd:=y9 hn R1 R2 (by rw [x3];exact B1) (by rw [y3];exact B2) (by rw [x3];exact X1) (by rw [y3];exact X2) F;rw [x3,y3] at rd;rcases ze hn P1 P2 B1 B2 X1 X2 with ⟨q,C',q1,q2,q3,q4,q5⟩ | ⟨q1,q2⟩
 ·rcases rd with ⟨r,r1,r2,r3,r4,r5⟩ | ⟨r1,r2⟩
  ·have PQ:=quo_pt hn q2 q3 q4 P2.srt P1.srt.dst q5 X1 X2 B1 B2;have XQ:=(Bg q3.dst q4 P2.srt.dst P1.srt.dst q5 X1 X2).1;obtain ⟨-,q6⟩:=sW PQ Q2 Q2 hn (XQ.mono Q2);have he:eW (cA n r) (cT q):=G.ql r3.len q3.len P2.srt (r5.trans q5.symm);have RQ:RT n 193 1287 (cT q) r:=by
    have hperm:=r3.wH q3.dst fun e=>he.co e;refine ⟨by rw [<- CE (n:=n),hperm.length_eq,kr];exact PQ.len,fun w hw=>?_,r3,he⟩;obtain ⟨o1,o2,o3⟩:=r2 w hw;obtain ⟨z,hz,ez⟩:=Qs.1 (hperm.subset (ir (n:=n) hw));have e2:gB z.2.1=mL w.2.1:=congrArg Prod.snd ez;have I:=G.HN hn q3 P2.srt P1.srt.len (fun t ht=>XQ.Co ht) (fun t ht=>X2.Co ht) (fun t ht=>X1.Co ht) q5 B1 B2 _ (kq hz);have J:Wd 64 (mL w.2.1):=by rw [<- e2];exact I
    exact ⟨o1,o2,_,o3.rb.1,oq aW (Aw J) Q2⟩
   have is:=PQ.is RQ (.refl _) hn Q2 Q2 Q2 Q2;exact Ev.bind (lQ g c q1 (fun _=>q6) (fun h=>by cases h)) (bF j (Ev.bind r1 (Ev.bind (a:=false) (bT rfl (Ev.bind (a:=false) (bF rfl (Ev.bind is (aV _))) (aV _))) (Ev.bind (a:=false) (bF rfl (Ev.bind (a:=false) (bF rfl (aV _)) (aV _))) (bF rfl (i (v:=(ya,0,()))))))))
  exact absurd q5 (r2 _ q3.dst q4)
 rcases rd with ⟨r,r1,r2,r3,r4,r5⟩ | ⟨r1,r2⟩
 ·exact absurd r5 (q2 _ r3 r4)
 exact Ev.bind (lQ (S:=(ya,(30:Int),())) g c q1 (fun h=>by cases h) (fun _=>rfl)) (bF j (Ev.bind r1 (Ev.bind (a:=false) (bF rfl (aV _)) (Ev.bind (a:=false) (bF rfl (Ev.bind (a:=false) (bT rfl (Ev.bind (a:=false) (bF rfl (Ev.bind DV (aV _))) (aV _))) (aV _))) (bF rfl (i (v:=(ya,0,()))))))))
end Go.Proofs.YtfbgaddecbiimaaGreatDoor.Q
end
section
namespace Go.Proofs.YtfbgaddecbiimaaGreatDoor.polyDivides
open Go.ChangeShapes Go.WideShapes Go.ChangeAt Go.RowKit
open Go.ChangeMaps (open_string shut_string)
open Go.Proofs.YtfbgaddecbiimaaGreatDoor.V Go.Proofs.YtfbgaddecbiimaaGreatDoor.E
theorem own:ownKnob Tryz.prog.godebug=none:=by kernel_rfl
theorem laidOut:laidOutB Tryz.prog=true:=by kernel_rfl
def Fh:DataW Unit->Array Value
 | .agg l=>(l.map fun d=>match d with
  | .lit (.int k n)=>Value.int k n
  | _=>undef).toArray
 | _=>#[]
noncomputable def Ad (os:Os):World :=
 let w0:=World.holding Tryz.prog os ⟨#[],#[],[]⟩
 { w0 with heap:=((w0.heap.modify 2 fun
  | .cells _ t frozen=>.cells (Fh Rows.laid_math_bits_deBruijn32tab) t frozen
  | o=>o).modify 3 fun
  | .cells _ t frozen=>.cells (Fh Rows.laid_math_bits_deBruijn64tab) t frozen
  | o=>o).modify 0 fun
  | .cells _ t frozen=>.cells (Fh Rows.laid_internal_strconv_uint64pow10) t frozen
  | o=>o }
theorem LR (os:Os) (args:Array Value):laidMet Tryz.prog Rows.polyDividesRow.laid ((Ad os).forCall (fun _ _=>0) ⟨#[],args,[]⟩).memory :=
 laidMet_of_run' 8 Q4 Q4
theorem lifted (os:Os) (started:os.Started) (H:Type) (enc:TypeId×Value->H) :
 ReturnsInHanded {} Tryz.checked os 10 .any (fun w args=>(Rows.polyDividesSpec.pre enc Tryz.prog Tryz.f10 Rows.polyDividesRow.domain false w args/\laidMet Tryz.prog Rows.polyDividesRow.laid w)/\sizedMet enc Tryz.prog Tryz.f10 (OpenSpec.ofChange Rows.polyDividesSpec) false w args)
  (Rows.polyDividesSpec.post enc Tryz.prog Tryz.f10 false true false false):=by
 refine returnsInHanded_of_change_and (C:=Tryz.checked) (X:=fun w _=>laidMet Tryz.prog Rows.polyDividesRow.laid w) (fun _ _ _ hh h=>h.of_heap hh) own started Q4 Tryz.func10
  (ChangeSpec.witness_at (enc:=enc) (C:=Tryz.checked) (os:=os) (X:=fun w _=>laidMet Tryz.prog Rows.polyDividesRow.laid w) false (Ad os) #[.agg #[.int .i64 0,.slice none 0 0],.agg #[.int .i64 0,.slice none 0 0]] 8 rfl Q4 Q4 Q4 Q4 Q4 (LR os _)) ?_
 intro W base args ds gs before hval0 hW _ hsz0 hL _;have a:∀ (j:Nat) t v,Tryz.f10.params[j]?=some t->args[j]?=some v->Value.okWide Tryz.prog W .any base t v:=hval0;have l:=hW;obtain ⟨p,q,d,hV,rfl,s,z⟩:=hW;have hA:DataW.TrodAll enc Tryz.prog W 0 (fun _=>true) true Tryz.f10.params.toList args.toList ds p:=d;rw [Tryz.params10] at hA a;obtain ⟨v0,y,d0,u,p0,q0,o,rfl,rfl,h0,r0⟩:=trodAll_cons hA;obtain ⟨v1,r,d1,A,p1,q1,rfl,rfl,rfl,h1,r1⟩:=trodAll_cons r0;obtain ⟨rfl,rfl,rfl⟩:=trodAll_nil r1;obtain rfl:args = #[v0,v1]:=by cases args;simp_all
 obtain ⟨rfl,rfl⟩:=trodVars_none hV;have k0:=h0;have f:∀ x∈p0,x.block<W.heap.size:=by obtain ⟨m,hm⟩:=k0;exact DataW.trod_lt m _ _ _ hm
 obtain ⟨y0,f0,g0⟩:=IP Q.Fq (n:=16) (t:=24) (c:=af) Q4 Q4 (a 0 24 v0 rfl rfl) h0;have k1:=h1;have g:∀ x∈p1,x.block<W.heap.size:=by obtain ⟨m,hm⟩:=k1;exact DataW.trod_lt m _ _ _ hm
 obtain ⟨y1,f1,g1⟩:=IP Q.Fq (n:=16) (t:=24) (c:=af) Q4 Q4 (a 1 24 v1 rfl rfl) h1;clear d hval0 hsz0;obtain ⟨k,hk⟩:=(Q.wj (Q.E3 f0) (Q.E3 f1)).rounds;obtain ⟨_,pv,hp,hF⟩:=(Ez Q.Fq orc_ok Q.mixed Q.noGo k).fn 10 [.v af y0,.v af y1] true rfl hk;obtain rfl:=QF hp;refine (hF (fun b=>b<W.heap.size) W #[v0,v1] (fun b h=>h) rfl (fun i h=>?_)).mono fun e W' ⟨v,he,bel,hv⟩=>?_
 ·match i,h with
  | 0,h=>exact g0
  | 1,h=>exact g1
  | i+2,h=>exact absurd h (by simp only [QZ,List.length_cons,List.length_nil];omega)
 have hb:=im hv;subst hb;subst he;exact ⟨_,rfl,_,_,_,[],_,[],l,trodAll_mk1 (shut_bool Tryz.underlying4 _),(trodAll_cons_mk (Below.trod laidOut Q4 (VE Q4) k0 bel f) (trodAll_cons_mk (Below.trod laidOut Q4 (VE Q4) k1 bel g) trodAll_mk0)),rfl,bel.frame _,fun h=>by cases h⟩
theorem over:Rows.polyDividesRow.holds Tryz.pinned (OpenSpec.ofChange Rows.polyDividesSpec) :=
 OpenClaim.holds_of_wide 10 Tryz.f10 rfl rfl rfl rfl rfl rfl rfl ⟨rfl,rfl,rfl,rfl,rfl⟩ rfl rfl rfl rfl rfl Q4 Tryz.func10 Q4
  (VE Q4) (by unfold Func.isWrapper;first | (rw [Qk (by decide +kernel)];kernel_rfl) | (rw [Qc (by decide +kernel)];exact ⟨rfl,rfl⟩))
  (fun os started H enc _=>lifted os started H enc)
theorem proved:Rows.PolyDividesCardSaid :=
 Claim7.holds_tied_plain_at .later [] [.data,.data,.data] true (true,"7c1c4094e72754773423f799c4afd1ed3b246fc2b5dc0deefca3ede80156512f") false
  over (fun _ h=>by cases h) Q4 (fun _ h=>by cases h) polyDivides_row_tie rfl ⟨rfl,rfl⟩ Q4 rfl
  (fun f fn hf hfn=>by
   obtain rfl:f=10:=QF ((show Tryz.prog.funcNamed "isochrone/isochronelaw03.PolyDivides" = some 10 by kernel_rfl).symm.trans hf) |>.symm
   obtain rfl:fn=Tryz.f10:=(QF (Tryz.func10.symm.trans hfn)).symm;exact ⟨Q4,fun j t ht=>by
    rw [Tryz.params10] at ht;have ht2:t=24:=by
     match j,ht with
     | 0,ht=>simp at ht;subst ht;simp
     | 1,ht=>simp at ht;subst ht;simp
     | j+2,ht=>simp at ht
    rcases ht2 with rfl;exact (show Tryz.prog.wantsStandIn 24=false by kernel_rfl)⟩)
  Q4
#print axioms proved
end Go.Proofs.YtfbgaddecbiimaaGreatDoor.polyDivides
namespace Go.Proofs.YtfbgaddecbiimaaGreatDoor
theorem polyDivides_holds:Rows.PolyDividesCardSaid:=polyDivides.proved
end Go.Proofs.YtfbgaddecbiimaaGreatDoor
end
