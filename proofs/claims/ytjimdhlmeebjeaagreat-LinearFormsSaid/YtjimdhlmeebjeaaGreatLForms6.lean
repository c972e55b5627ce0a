/- Check of package linear accepts exactly the valid systems, and the functions refuse others with ErrForm and great ones with ErrBudget, before anything else (the last of 6 texts). No condition beyond the statement's own. -/
import Derived.SizedLaws
import Derived.ChangeSlices
import Derived.Test.YtjimdhlmeebjeaaGreatRows
import Derived.WalkKit
import Derived.ProofKit
import Derived.OpenShut
import Derived.ShutString
import Derived.ChangeOld
import Derived.Below
import Derived.KernelRfl
import Derived.Test.YtjimdhlmeebjeaaGreatLForms5
set_option linter.unusedSimpArgs false
set_option linter.unusedSectionVars false
section
namespace Go.Proofs.YtjimdhlmeebjeaaGreat.Q
open Go.RowKit Go.Proofs.YtjimdhlmeebjeaaGreatW.PrintWords Go.Proofs.YtjimdhlmeebjeaaGreatW.PrintMore Go.Proofs.YtjimdhlmeebjeaaGreat.V Go.Proofs.YtjimdhlmeebjeaaGreat.E
open Go.Proofs.YtjimdhlmeebjeaaGreat.P (Dg Nm vl WW RR bL gI evs evk evb e9 aH aT cA w64 u64)
open Go.Proofs.YtjimdhlmeebjeaaGreat.F (bY ce dJ fh Af jF fg Bd oX bdC Dq rlf MB GB UB PB XB DB PtOK wL fr ND upd)
set_option linter.unusedVariables false
def KS (K n:Nat):Nat→Nat
 | 0=>K+(K*(n+2)+1)
 | t+1=>(4*KS K n t+2)*(n+3)+1
def LS:Nat→Nat
 | 0=>10
 | t+1=>LS t+LS t*LS t
def BK (K:Nat):Nat:=4294967296 ^ K
def wo (K n Lm:Nat):Prop :=
 (∀ t,t<n+1→KS K n t≤1000000) ∧
 (∀ t,t<n+1→(UB (BK K) (BK K) n t+GB (BK K) (BK K) n t)*(BK K*BK K ^ (n+1)*BK K*BK K ^ Lm)<4294967296 ^ 200) ∧
 (∀ j,j<n+1→XB (BK K) (BK K) n j*DB (BK K) (BK K) n j<4294967296 ^ 200∧DB (BK K) (BK K) n j<4294967296 ^ 200) ∧
 (∀ j,j<n→(MB (BK K) (BK K) n (n-1-j)+n*(MB (BK K) (BK K) n (n-1-j)*XB (BK K) (BK K) n j))*(MB (BK K) (BK K) n (n-1-j)*PB (BK K) (BK K) n j)<4294967296 ^ 1000∧MB (BK K) (BK K) n (n-1-j)*PB (BK K) (BK K) n j<4294967296 ^ 1000)
instance (K n Lm:Nat):Decidable (wo K n Lm):=by unfold wo;infer_instance
theorem pI {x:Rat} {N D J:Nat} (hn:x.num.natAbs≤N) (hd:x.den≤D) (h1:N<4294967296 ^ J) (h2:D<4294967296 ^ J):Sz WW J x:=by
 have e:WW ^ J=((4294967296 ^ J:Nat):Int):=by rw [P.cS,Int.natCast_pow];rfl
 refine ⟨?_,?_⟩<;>rw [e]<;>omega
theorem yz {x:Rat} {K:Nat} (h:Sz WW K x):ND (BK K) (BK K) x:=by
 have e:WW ^ K=((4294967296 ^ K:Nat):Int):=by rw [P.cS,Int.natCast_pow];rfl
 obtain ⟨h1,h2⟩:=h
 rw [e] at h1 h2
 unfold BK
 exact ⟨by omega,by omega⟩
theorem LS_le {t:Nat} (h:t≤2):LS t≤20000:=by
 rcases (by omega:t=0∨t=1∨t=2) with rfl | rfl | rfl<;>decide
theorem LS_le3 {t:Nat} (h:t≤3):LS t<1000000000:=by
 rcases (by omega:t=0∨t=1∨t=2∨t=3) with rfl | rfl | rfl | rfl<;>decide
theorem mS {n:Nat} {s:List dL} (hs:s.length≤10):∀ t,(F.stg n s t).length≤LS t
 | 0=>by
  have h:=F.iw (n:=n) (Af n s) []
  have e:(Af n s).length=s.length:=by simp [Af]
  unfold F.stg fh
  rw [e,List.length_nil] at h
  unfold LS
  omega
 | t+1=>by
  have ih:=mS (n:=n) hs t
  have h:=Ax (n:=n) (i:=t) (q:=F.stg n s t)
  have h2:=Nat.mul_le_mul ih ih
  unfold F.stg LS
  omega
theorem Co {c:List Rat} {p:Nat→Rat} {q:List Rat}:∀ m,(∀ k,k<m→p k=q.getD k 0)→F.lin c p m=sY c q m
 | 0,_=>rfl
 | m+1,h=>by
  simp only [F.lin,sY]
  rw [Co m (fun k hk=>h k (by omega)),h m (by omega)]
section
variable {K n Lm:Nat} {l:List bj} {s:List dL}
def SRs (K n:Nat) (s:List dL) (o:List (List bw)) (j:Nat):Prop:=o.length=j+1∧∀ t,t≤j→RRs (KS K n t) n (n+1+s.length) (rdT (t:=.list ai) o (t:Int):List bw) (F.stg n s t)
theorem Solve_l0 (hn:n≤3) (hl:s.length≤10) (hnum:wo K n Lm) {R:List az×List az×Int×Unit→Prop}
 (hc:∀ o,SRs K n s o n→∃ z,Ev2 (fun k m=>aO.l1 k m (n:Int) l (o.length:Int) (0:Int) o) z∧R z) :
 ∀ j,j≤n→∀ o,SRs K n s o j→∃ z,Ev2 (fun k m=>aO.l0 k m (n:Int) l (n:Int) (j:Int) o) z∧R z:=by
 refine dn ?_ (fun j hj ih=>?_)
 ·intro o ho
  obtain ⟨z,z1,z2⟩:=hc o ho
  exact ⟨z,Ev2.step (fun k m=>aO.aV k m _ _ _ _ _) (Ev2.bF (decide_eq_false (by omega)) (Ev2.ofd z1)),z2⟩
 ·intro o ho
  have hr:=ho.2 j (Nat.le_refl _)
  have hk:=hnum.1 j (by omega)
  have hcn:=mS (n:=n) hl j
  have hls:=LS_le (show j≤2 by omega)
  have hrl:=hr.1
  obtain ⟨v,v1,v2⟩:=vV (i:=j) hr (by omega) hj (by omega) (by omega) (by omega) (by
   have:=Nat.mul_le_mul (show 4*KS K n j+3≤4000003 by omega) (show n+3≤6 by omega)
   omega)
  have hol:=ho.1
  obtain ⟨z,z1,z2⟩:=ih (o++[v]) ⟨by simp [hol],fun t ht=>by
   by_cases c:t≤j
   ·have e:(rdT (t:=.list ai) (o++[v]) (t:Int):List bw)=(rdT (t:=.list ai) o (t:Int):List bw):=by
     rw [cJ (by simp;omega),cJ (by omega),List.getElem_append_left]
    rw [e];exact ho.2 t c
   ·have et:t=j+1:=by omega
    subst et
    have e:(rdT (t:=.list ai) (o++[v]) ((j+1:Nat):Int):List bw)=v:=by
     rw [cJ (by simp;omega),List.getElem_append_right (by omega)]
     simp [hol]
    rw [e];exact v2⟩
  refine ⟨z,Ev2.step (fun k m=>aO.aV k m _ _ _ _ _) (Ev2.bT (decide_eq_true (by omega)) (Ev2.iT (by omega) (Ev2.bind v1 (Ev2.iT (by simp;omega) ?_)))),z2⟩
  rw [iS (by omega)];exact z1
theorem Solve_l2 {q:List Rat} {J:Nat} {M0:Nat→Nat} {r:List az} (h:RLs WW J r q) (hJ:J<1000000000) (hl:r.length<1000000):∃ m,Ev3 (fun k m1 m0=>aO.l2 k m1 m0 (r.length:Int) (0:Int) r) (([]:List az),m,(0:Int),())∧RLs WW J m (q.map fun x=>-x):=by
 have key:∀ j,j≤r.length→∀ r',RP WW J r' r.length r.length (fun i=>if i<j then -q.getD i 0 else q.getD i 0)→∃ m,Ev3 (fun k m1 m0=>aO.l2 k m1 m0 (r.length:Int) (j:Int) r') (([]:List az),m,(0:Int),())∧RLs WW J m (q.map fun x=>-x):=by
  refine dn ?_ (fun j hj ih=>?_)
  ·intro r' hr'
   refine ⟨r',Ev3.step (fun k m n=>aO.kP k m n _ _ _) (Ev3.bF (decide_eq_false (by omega)) (Ev3.of (Ev2.of (evs _)))),hr'.rls (by rw [List.length_map,h.1]) (fun i hi=>?_)⟩
   simp only [if_pos hi]
   exact (F.getD_map (f:=fun x=>-x) (by simp) q i).symm
  ·intro r' hr'
   obtain ⟨a1,a2⟩:=hr'.2 j hj
   simp only [if_neg (Nat.lt_irrefl j)] at a1 a2
   obtain ⟨v,v1,v2,v3⟩:=gF a1 a2 (by omega)
   obtain ⟨m,m1,m2⟩:=ih (r'.set j v) ⟨by simp [hr'.1],fun i hi=>by
    rw [yk (by rw [hr'.1];exact hi)]
    by_cases c:i=j
    ·subst c
     rw [if_pos rfl];dsimp only;rw [if_pos (Nat.lt_succ_self _)];exact ⟨v2,v3⟩
    ·rw [if_neg c]
     have:=hr'.2 i hi
     dsimp only at this ⊢
     by_cases c2:i<j
     ·rw [if_pos c2] at this;rw [if_pos (by omega)];exact this
     ·rw [if_neg c2] at this;rw [if_neg (by omega)];exact this⟩
   have hl':=hr'.1
   refine ⟨m,Ev3.step (fun k m n=>aO.kP k m n _ _ _) (Ev3.bT (decide_eq_true (by omega)) (Ev3.iT (by omega) (Ev3.bind v1 (Ev3.iT (by omega) ?_)))),m2⟩
   rw [iS (by omega),Int.toNat_natCast];exact m1
 exact key 0 (by omega) r ⟨rfl,fun i hi=>by simp only [Nat.not_lt_zero,if_false];exact h.at hi⟩
theorem uV {B:Int} {J J':Nat} {m:List az} {q:List Rat} (h:RLs B J m q) (hz:∀ x,x∈q→Sz B J' x):RLs B J' m q:=⟨h.1,fun i h1 h2=>⟨(h.2 i h1 h2).1,hz _ (List.getElem_mem h2)⟩⟩
theorem Solve_l3 (hn:n≤3) (hl:s.length≤10) (hsys:F.Sys n (BK K) (BK K) s) (hnum:wo K n Lm) {o:List (List bw)} (ho:SRs K n s o n) :
 ∀ i,i≤n→∀ j,i+j=n→∀ p,PtOK n (BK K) (BK K) s j p→∀ r:List az,r.length=n→(∀ k,i≤k→k<n→RB WW (rdT (t:=ah) r (k:Int):az) (p k)) →
  ∃ pt p',Ev2 (fun k m=>aO.l3 k m ((i:Int)-1) r o) (pt,([]:List az),(0:Int),())∧pt.length=n∧(∀ k,k<n→RB WW (rdT (t:=ah) pt (k:Int):az) (p' k))∧PtOK n (BK K) (BK K) s n p':=by
 intro i
 induction i with
 | zero =>
  intro _ j hj p hp r hr hk
  obtain rfl:j=n:=by omega
  exact ⟨r,p,Ev2.step (fun k m=>aO.jV k m _ _ _) (Ev2.bF (decide_eq_false (by omega)) (Ev2.of (evs _))),hr,fun k h=>hk k (by omega) h,hp⟩
 | succ i ih =>
  intro hi j hj p hp r hr hk
  have hij:i+1+j=n:=hj
  have ej:n-1-j=i:=by omega
  have hrr:=ho.2 i (by omega)
  have hks:=hnum.1 i (by omega)
  have hsz:∀ k,i<k→k<n→RB WW (rdT (t:=ah) r (k:Int):az) (p k)∧Sz WW 200 (p k):=fun k h1 h2=>by
   obtain ⟨a,b⟩:=hp.sz k (by omega) h2
   obtain ⟨c,d⟩:=hnum.2.2.1 j (by omega)
   exact ⟨hk k (by omega) h2,pI (F.Ca a) b (Nat.lt_of_le_of_lt (Nat.mul_le_mul_left _ b) c) d⟩
  have hcn:=mS (n:=n) hl i
  have hls:=LS_le3 (show i≤3 by omega)
  have hrl:=hrr.1
  have hmul:=Nat.mul_le_mul (show n≤3 from hn) (show KS K n i+200+1≤1000201 by omega)
  obtain ⟨v,v1,v2⟩:=Cp (i:=i) (Kp:=200) hrr (by omega) (by omega) (by omega) (by omega) (by omega) (by omega:n≤r.length) (by omega) hsz (by omega)
  have hok:=F.pt_ok hsys hij hp
  obtain ⟨lh,ll⟩:=F.pt_lim hsys hij hp
  have hpd:=hp.prod i hij
  have hJ:∀ x,fr x (MB (BK K) (BK K) n i+n*(MB (BK K) (BK K) n i*XB (BK K) (BK K) n j))→(∃ a:Nat,1≤a∧a≤MB (BK K) (BK K) n i∧∃ y:Int,x*((a*F.gE i p j:Nat):Rat)=(y:Rat))→Sz WW 1000 x:=fun x hx ⟨a,a1,a2,y,hy⟩=>by
   have hd:=Nat.le_of_dvd (Nat.mul_pos a1 (F.qo j)) (F.gN hy)
   have hd2:x.den≤MB (BK K) (BK K) n i*PB (BK K) (BK K) n j:=Nat.le_trans hd (Nat.mul_le_mul a2 hpd)
   obtain ⟨c,d⟩:=hnum.2.2.2 j (by omega)
   rw [ej] at c d
   exact pI (F.Ca hx) hd2 (Nat.lt_of_le_of_lt (Nat.mul_le_mul_left _ hd2) c) d
  obtain ⟨w,y,w1,w2,w3⟩:=pick_sp v2 hok (J:=1000) (by decide) (by decide) (fun e=>hJ _ (ll e).1 (ll e).2) (fun e=>hJ _ (lh e).1 (lh e).2)
  have hstep:=F.pt_step hsys hij hp w3
  obtain ⟨pt,p',z1,z2⟩:=ih (by omega) (j+1) (by omega) (upd p i y) hstep (r.set i w) (by simpa using hr) (fun k h1 h2=>by
   rw [yk (by omega)]
   by_cases c:k=i
   ·subst c
    rw [if_pos rfl]
    have:upd p k y k=y:=if_pos rfl
    rw [this];exact w2
   ·rw [if_neg c,F.ux c];exact hk k (by omega) h2)
  have hol:=ho.1
  have e1:(((i+1:Nat):Int)-1)=(i:Int):=by omega
  refine ⟨pt,p',Ev2.step (fun k m=>aO.jV k m _ _ _) ?_,z2⟩
  rw [e1]
  refine Ev2.bT (decide_eq_true (by omega)) (Ev2.iT (by omega) (Ev2.bind v1 (Ev2.bind w1 (Ev2.iT (by simp only;omega) ?_))))
  rw [w64 (by omega) (by omega),Int.toNat_natCast];exact z1
end
end Go.Proofs.YtjimdhlmeebjeaaGreat.Q
end
section
namespace Go.Proofs.YtjimdhlmeebjeaaGreat.Q
open Go.RowKit Go.Proofs.YtjimdhlmeebjeaaGreatW.PrintWords Go.Proofs.YtjimdhlmeebjeaaGreatW.PrintMore Go.Proofs.YtjimdhlmeebjeaaGreat.V Go.Proofs.YtjimdhlmeebjeaaGreat.E
open Go.Proofs.YtjimdhlmeebjeaaGreat.P (Dg Nm vl WW RR bL gI evs evk evb e9 aH aT cA w64 u64)
open Go.Proofs.YtjimdhlmeebjeaaGreat.F (bY ce dJ fh Af jF fg Bd oX bdC Dq rlf MB GB UB PB XB DB PtOK wL fr ND upd)
set_option linter.unusedVariables false
section
variable {K n Lm:Nat} {l:List bj} {s:List dL}
def Sol (n:Nat) (s:List dL) (z:List az×List az×Int×Unit):Prop :=
 (∃ pt pq,z=(pt,[],0,())∧RLs WW 200 pt pq∧pq.length=n∧∀ k,k<s.length→fV (sY (ln s k).1 pq n) (rlf s k) (kf s k)) ∨
 (∃ m mq,z=([],m,0,())∧RLs WW 200 m mq∧mq.length=s.length∧rp n s mq)
theorem BC {t:Nat} (ht:t≤n) (hl:s.length≤Lm) (hsys:F.Sys n (BK K) (BK K) s) (hnum:wo K n Lm) {r:bY} (hr:r∈F.stg n s t):∀ x,x∈wL n s.length r→Sz WW 200 x:=by
 intro x hx
 have hB:=hsys.pos
 obtain ⟨z,z1,z2⟩:=F.ref_size (F.qb hsys t ht r hr) (fun k hk=>F.sc_nd hsys hk) (F.UB_pos hB hB t) (Nat.mul_pos (Nat.mul_pos hB (Nat.pow_pos hB)) hB) hB x hx
 have h1:=hnum.2.1 t (by omega)
 have h2:BK K ^ s.length≤BK K ^ Lm:=Nat.pow_le_pow_right hB hl
 have h3:=Nat.mul_le_mul_left (UB (BK K) (BK K) n t+GB (BK K) (BK K) n t) (Nat.mul_le_mul_left (BK K*BK K ^ (n+1)*BK K) h2)
 refine pI (N:=(UB (BK K) (BK K) n t+GB (BK K) (BK K) n t)*(BK K*BK K ^ (n+1)*BK K*BK K ^ s.length)) (D:=1) ?_ ?_ (Nat.lt_of_le_of_lt h3 h1) (Nat.one_lt_pow (by decide) (by decide))
 ·rw [z1,Rat.num_intCast];exact z2
 ·rw [z1,Rat.den_intCast];exact Nat.le_refl _
theorem Solve_l1 (hn:n≤3) (hls:l.length=s.length) (hl:s.length≤Lm) (hLm:Lm≤10) (hsys:F.Sys n (BK K) (BK K) s) (hnum:wo K n Lm) {o:List (List bw)} (ho:SRs K n s o n) :
 ∀ t,t≤n+1→(∀ t',t'<t→∀ r,r∈F.stg n s t'→dJ n r=false)→∃ z,Ev2 (fun k m=>aO.l1 k m (n:Int) l (o.length:Int) (t:Int) o) z∧Sol n s z:=by
 have hol:=ho.1
 refine dn ?_ (fun t ht ih=>?_)
 ·intro hno
  obtain ⟨pt,p',z1,z2,z3,z4⟩:=Solve_l3 hn (by omega) hsys hnum ho n (Nat.le_refl _) 0 (by omega) (fun _=>0) (F.pt_zero hsys (hno n (by omega)) _) (List.replicate (Int.toNat (n:Int)) (false,[],[],())) (by simp) (fun k h1 h2=>by omega)
  refine ⟨_,Ev2.step (fun k m=>aO.bR k m _ _ _ _ _) (Ev2.bF (decide_eq_false (by omega)) (Ev2.iT ⟨by omega,by omega,by rw [Int.toNat_natCast];omega,by rw [Int.toNat_natCast];unfold maxLen;omega⟩ ?_)),.inl ⟨pt,(List.range n).map p',rfl,?_,by simp,?_⟩⟩
  ·rw [w64 (by omega) (by omega)]
   exact Ev2.ofd z1
  ·have hR:RP WW 200 pt n n p':=⟨z2,fun k hk=>⟨z3 k hk,by
    obtain ⟨a,b⟩:=z4.sz k (by omega) hk
    obtain ⟨c,d⟩:=hnum.2.2.1 n (by omega)
    exact pI (F.Ca a) b (Nat.lt_of_le_of_lt (Nat.mul_le_mul_left _ b) c) d⟩⟩
   exact hR.rls (by simp) (fun i hi=>by simp [List.getD_eq_getElem?_getD,hi])
  ·intro k hk
   have:=F.pt_done hsys z4 k hk
   rwa [Co (q:=(List.range n).map p') n (fun i hi=>by simp [List.getD_eq_getElem?_getD,hi])] at this
 ·intro hno
  have hrr:=ho.2 t (by omega)
  have hks:=hnum.1 t (by omega)
  have hcn:=mS (n:=n) (s:=s) (by omega) t
  have hls3:=LS_le3 (show t≤3 by omega)
  have hrl:=hrr.1
  rcases pC hrr (by omega) (by omega) (by omega) (by omega) with ⟨v,v1,v2⟩ | ⟨v,r,v1,v2,v3,v4,v5⟩
  ·obtain ⟨z,z1,z2⟩:=ih (fun t' ht' r hr=>by
    by_cases c:t'=t
    ·subst c;exact v2 r hr
    ·exact hno t' (by omega) r hr)
   refine ⟨z,Ev2.step (fun k m=>aO.bR k m _ _ _ _ _) (Ev2.bT (decide_eq_true (by omega)) (Ev2.iT (by omega) (Ev2.bind v1 (Ev2.bF rfl ?_)))),z2⟩
   rw [iS (by omega)];exact z1
  ·have vl:v.1.length=n+1+s.length:=by rw [v2.1.1];exact v4
   have dl:(v.1.drop (n+1)).length=s.length:=by simp [vl]
   obtain ⟨m,m1,m2⟩:=rQ (kk:=s.length) (v2.1.drop (n+1)) (by omega) (by omega) (by omega) (by
    have:=Nat.mul_le_mul (show KS K n t+1≤1000001 by omega) (show s.length+2≤12 by omega)
    omega)
   have ml:m.length=s.length:=by rw [m2.1,F.jr];simp [v4]
   obtain ⟨k1,k2⟩:=v2.at (i:=n) (by omega)
   have hsg:=cx k1
   have e1:v.2.2.1=r.2:=v2.2.2
   have ht:Ev (fun k=>bif v.2.2.1==(0:Int) then (cg k v).bind fun (v7:az)=>(cD k v7).bind fun (v8:Int)=>some (decide (v8>(0:Int))) else some false) (decide (r.2=0∧0<ce r n)):=by
    rw [e1]
    by_cases c:r.2=0
    ·refine bT (by rw [c];rfl) (Ev.bind (fJ v2 (by omega) (by omega)) (Ev.bind hsg ?_))
     rw [sgd_gt]
     have:decide (r.2=0∧0<ce r n)=decide (0<ce r n):=by simp [c]
     rw [this];exact evs _
    ·have:decide (r.2=0∧0<ce r n)=false:=by simp [c]
     rw [this]
     exact bF (by rw [beq_eq_false_iff_ne];exact c) (evs _)
   have hn64:n<9223372036854775807:=by omega
   have hz:=BC (t:=t) (by omega) hl hsys hnum v3
   have hrl2:(wL n s.length r).length=s.length:=by
    unfold wL
    split<;>simp [F.jr,v4]
   by_cases c:r.2=0∧0<ce r n
   ·obtain ⟨m',x1,x2⟩:=Solve_l2 (M0:=fun _=>0) m2 (by
     have:=Nat.mul_le_mul (show KS K n t≤1000000 by omega) (show s.length+1≤11 by omega)
     omega) (by omega)
    have er:wL n s.length r=(fg s.length (r.1.drop (n+1))).map fun x=>-x:=by unfold wL;rw [if_pos c]
    refine ⟨_,Ev2.step (fun k m=>aO.bR k m _ _ _ _ _) (Ev2.bT (decide_eq_true (by omega)) (Ev2.iT (by omega) (Ev2.bind v1 (Ev2.bT rfl ?_)))),.inr ⟨m',_,rfl,uV (by rw [er];exact x2) hz,hrl2,F.ref_ok (F.qb hsys t (by omega) r v3) hsys.rel v5⟩⟩
    rw [iS hn64,hls]
    refine Ev2.iT (by simp only;omega) ?_
    rw [Int.toNat_natCast]
    exact Ev2.bind m1 (Ev2.iT (by omega) (Ev2.bind ht (Ev2.bT (decide_eq_true c) x1.diag)))
   ·have er:wL n s.length r=fg s.length (r.1.drop (n+1)):=by unfold wL;rw [if_neg c]
    refine ⟨_,Ev2.step (fun k m=>aO.bR k m _ _ _ _ _) (Ev2.bT (decide_eq_true (by omega)) (Ev2.iT (by omega) (Ev2.bind v1 (Ev2.bT rfl ?_)))),.inr ⟨m,_,rfl,uV (by rw [er];exact m2) hz,hrl2,F.ref_ok (F.qb hsys t (by omega) r v3) hsys.rel v5⟩⟩
    rw [iS hn64,hls]
    refine Ev2.iT (by simp only;omega) ?_
    rw [Int.toNat_natCast]
    exact Ev2.bind m1 (Ev2.iT (by omega) (Ev2.bind ht (Ev2.bF (decide_eq_false c) (Ev2.of (evs _)))))
theorem C4 (ha:AK l) (hok:OkS (n:Int) l) (hn:n≤3) (hl:l.length≤10):Ev (fun k=>dY k (n:Int) l) 0:=by
 have hc:=lS (n:=(n:Int)) ha
 rw [qV hok] at hc
 exact Ev.step (fun k=>ik k _ _) (Ev.bind hc (bF rfl (Ev.bind (a:=false) (bF (decide_eq_false (by omega)) (by rw [decide_eq_false (by omega)];exact evs _)) (bF rfl (evs _)))))
theorem zk (ha:AK l) (hok:OkS (n:Int) l) (hs:RSs WW K l s) (hK:1≤K) (hn:n≤3) (hl:s.length≤Lm) (hLm:Lm≤10) (hsys:F.Sys n (BK K) (BK K) s) (hnum:wo K n Lm):∃ z,Ev (fun k=>aO k (n:Int) l) z∧Sol n s z:=by
 have hls:=hs.1
 have hk0:=hnum.1 0 (by omega)
 unfold KS at hk0
 have hkn:K*(n+2)≤1000000:=by omega
 obtain ⟨m,m1,m2⟩:=Cg hs hK hsys.len (by omega) (by omega) (by
  have:(K+1)*(n+3)=K*(n+2)+K+(n+3):=by rw [Nat.add_mul,Nat.mul_succ];omega
  omega)
 have mc:(Af n s).length=s.length:=by simp [Af]
 have ml:=m2.1
 obtain ⟨v,v1,v2⟩:=tE m2 (by omega) (by omega) (by omega) (by omega)
 obtain ⟨z,z1,z2⟩:=Solve_l0 (l:=l) (R:=Sol n s) hn (by omega) hnum (fun o ho=>Solve_l1 hn hls hl hLm hsys hnum ho 0 (by omega) (fun t' h=>by omega)) 0 (by omega) [v] ⟨rfl,fun t ht=>by
  obtain rfl:t=0:=by omega
  exact v2⟩
 exact ⟨z,Ev.step (fun k=>kO k _ _) (Ev.bind (C4 ha hok hn (by omega)) (bF rfl (Ev.bind m1 (Ev.bind v1 z1.diag)))),z2⟩
end
theorem num1:∀ n,n<4→wo 1 n 10:=by decide +kernel
end Go.Proofs.YtjimdhlmeebjeaaGreat.Q
end
section
namespace Go.Proofs.YtjimdhlmeebjeaaGreat.Q
open Go.RowKit Go.Proofs.YtjimdhlmeebjeaaGreatW.PrintWords Go.Proofs.YtjimdhlmeebjeaaGreatW.PrintMore Go.Proofs.YtjimdhlmeebjeaaGreat.V Go.Proofs.YtjimdhlmeebjeaaGreat.E
open Go.Proofs.YtjimdhlmeebjeaaGreat.P (Dg Nm vl WW RR bL gI evs evk evb e9 aH aT cA w64 u64)
open Go.Proofs.YtjimdhlmeebjeaaGreat.F (rlf)
set_option linter.unusedVariables false
def SatS (n:Nat) (s:List dL):Prop:=∃ x:Nat→Rat,∀ k,k<s.length→fV (F.lin (ln s k).1 x n) (rlf s k) (kf s k)
theorem CZ {f m:Nat→Rat}:∀ L,(∀ k,k<L→m k*f k≤0)→comb f m L≤0∧((∃ k,k<L∧m k*f k<0)→comb f m L<0)
 | 0,_=>⟨Rat.le_refl,fun ⟨k,h,_⟩=>by omega⟩
 | L+1,h=>by
  obtain ⟨h1,h2⟩:=CZ (f:=f) (m:=m) L (fun k hk=>h k (by omega))
  have h3:=h L (by omega)
  simp only [comb]
  refine ⟨by grind,fun ⟨k,hk,hs⟩=>?_⟩
  by_cases e:k=L
  ·subst e;grind
  ·have:=h2 ⟨k,by omega,hs⟩
   grind
theorem y8 (f g m:Nat→Rat):∀ L,comb (fun k=>f k-g k) m L=comb f m L-comb g m L
 | 0=>by simp only [comb];grind
 | L+1=>by
  have:=y8 f g m L
  simp only [comb,this];grind
theorem wa {s:List dL} {m:Nat→Rat} {x:Nat→Rat} {L:Nat}:∀ n,(∀ i,i<n→comb (cf s i) m L=0)→comb (fun k=>F.lin (ln s k).1 x n) m L=0
 | 0,_=>by
  have:∀ L,comb (fun k=>F.lin (ln s k).1 x 0) m L=0:=fun L=>by
   induction L with
   | zero=>rfl
   | succ L ih =>
    show comb (fun k=>F.lin (ln s k).1 x 0) m L+m L*0=0
    rw [ih];grind
  exact this L
 | n+1,h=>by
  have ih:=wa (m:=m) (x:=x) (L:=L) n (fun i hi=>h i (by omega))
  have h2:=h n (by omega)
  have key:∀ L,comb (fun k=>F.lin (ln s k).1 x (n+1)) m L=comb (fun k=>F.lin (ln s k).1 x n) m L+x n*comb (cf s n) m L:=fun L=>by
   induction L with
   | zero=>simp only [comb];grind
   | succ L ih =>
    show comb (fun k=>F.lin (ln s k).1 x (n+1)) m L+m L*(F.lin (ln s L).1 x n+(ln s L).1.getD n 0*x n)=(comb (fun k=>F.lin (ln s k).1 x n) m L+m L*F.lin (ln s L).1 x n)+x n*(comb (cf s n) m L+m L*(ln s L).1.getD n 0)
    rw [ih];grind
  rw [key,ih,h2];grind
theorem tw {n:Nat} {s:List dL} {m:List Rat} (hr:∀ k,k<s.length→rlf s k=0∨rlf s k=1∨rlf s k=2) (h:rp n s m):¬ SatS n s:=by
 rintro ⟨x,hx⟩
 obtain ⟨h1,h2,h3⟩:=h
 have e0:=wa (x:=x) n h2
 have e1:=y8 (fun k=>F.lin (ln s k).1 x n) (kf s) (gf m) s.length
 rw [e0] at e1
 have term:∀ k,k<s.length→gf m k*(F.lin (ln s k).1 x n-kf s k)≤0∧(rlf s k=2→0<gf m k→gf m k*(F.lin (ln s k).1 x n-kf s k)<0):=fun k hk=>by
  have hs:=hx k hk
  unfold fV at hs
  rcases hr k hk with r | r | r
  ·have e:F.lin (ln s k).1 x n=kf s k:=by rw [r] at hs;simpa using hs
   refine ⟨?_,fun h=>by rw [r] at h;exact absurd h (by decide)⟩
   rw [e];grind
  ·have hm:=h1 k hk (show rlf s k>0 by omega)
   have e:F.lin (ln s k).1 x n≤kf s k:=by rw [r] at hs;simp at hs;grind
   refine ⟨?_,fun h=>by rw [r] at h;exact absurd h (by decide)⟩
   have:=Rat.mul_nonneg hm (show (0:Rat)≤kf s k-F.lin (ln s k).1 x n by grind)
   grind
  ·have hm:=h1 k hk (show rlf s k>0 by omega)
   have e:F.lin (ln s k).1 x n<kf s k:=by rw [r] at hs;simp at hs;exact hs
   refine ⟨?_,fun _ hp=>?_⟩
   ·have:=Rat.mul_nonneg hm (show (0:Rat)≤kf s k-F.lin (ln s k).1 x n by grind)
    grind
   ·have:=Rat.mul_pos hp (show (0:Rat)<kf s k-F.lin (ln s k).1 x n by grind)
    grind
 obtain ⟨c1,c2⟩:=CZ (f:=fun k=>F.lin (ln s k).1 x n-kf s k) (m:=gf m) s.length (fun k hk=>(term k hk).1)
 rw [e1] at c1 c2
 rcases h3 with h3 | ⟨h3,k,k1,k2,k3⟩
 ·have:comb (kf s) (gf m) s.length<0:=h3
  grind
 ·have:=c2 ⟨k,k1,(term k k1).2 k2 k3⟩
  have h3':comb (kf s) (gf m) s.length=0:=h3
  grind
def NumL (N:Nat) (x:bj):Prop:=(x.2.2.1.2.1.length≤N∧x.2.2.1.2.2.1.length≤N)∧∀ c∈x.1,c.2.1.length≤N∧c.2.2.1.length≤N
theorem AJ (N:Nat) {l:List bj} (ha:AK l):∃ t,Ev (fun k=>ay k l (N:Int)) t∧(t=true→∀ x∈l,NumL N x):=by
 have main:∀ i,i≤l.length→(∀ j,j<i→∀ h:j<l.length,NumL N l[j])→∃ r,Ev2 (fun k m=>ay.l0 k m (N:Int) l (l.length:Int) (i:Int)) r∧(r=true→∀ x∈l,NumL N x):=by
  refine dn ?_ (fun i hi ih=>?_)
  ·intro hall
   exact ⟨true,Ev2.step (fun k m=>ay.aV k m _ _ _ _) (Ev2.bF (decide_eq_false (by omega)) (Ev2.of (evs _))),fun _=>lz.2 hall⟩
  ·intro hall
   have e:(rdT (t:=av) l (i:Int):bj)=l[i]:=cJ hi
   have hal:=(ha.2 _ (List.getElem_mem hi)).1
   have hsh:=kD l[i].2.2.1 N
   by_cases c:(l[i].1.length:Int)>12
   ·exact ⟨false,Ev2.step (fun k m=>ay.aV k m _ _ _ _) (Ev2.bT (decide_eq_true (by omega)) (Ev2.iT (by omega) (Ev2.bind (a:=true) (bT (by rw [e];exact decide_eq_true c) (evs _)) (Ev2.bT rfl (Ev2.of (evs _)))))),fun h=>by simp at h⟩
   ·by_cases hs:l[i].2.2.1.2.1.length≤N∧l[i].2.2.1.2.2.1.length≤N
    ·rw [decide_eq_true hs] at hsh
     have inner:∀ j,j≤l[i].1.length→(∀ j',j'<j→∀ h:j'<l[i].1.length,l[i].1[j'].2.1.length≤N∧l[i].1[j'].2.2.1.length≤N)→∃ r,Ev3 (fun k m1 m0=>ay.l1 k m1 m0 (N:Int) l (l.length:Int) (i:Int) l[i].1 (l[i].1.length:Int) (j:Int)) r∧(r=true→∀ x∈l,NumL N x):=by
      refine dn ?_ (fun j hj ih2=>?_)
      ·intro hc
       obtain ⟨r,r1,r2⟩:=ih (fun j' hj' h'=>by
        by_cases e':j'=i
        ·subst e';exact ⟨hs,lz.2 hc⟩
        ·exact hall j' (by omega) h')
       refine ⟨r,Ev3.step (fun k m1 m0=>ay.bR k m1 m0 _ _ _ _ _ _ _) (Ev3.bF (decide_eq_false (by omega)) (Ev3.of ?_)),r2⟩
       rw [iS (Nat.lt_of_lt_of_le hi ha.1)];exact r1
      ·intro hc
       have ej:(rdT (t:=ah) l[i].1 (j:Int):az)=l[i].1[j]:=cJ hj
       have hsj:=kD l[i].1[j] N
       by_cases hq:l[i].1[j].2.1.length≤N∧l[i].1[j].2.2.1.length≤N
       ·rw [decide_eq_true hq] at hsj
        obtain ⟨r,r1,r2⟩:=ih2 (fun j' hj' h'=>by
         by_cases e':j'=j
         ·subst e';exact hq
         ·exact hc j' (by omega) h')
        refine ⟨r,Ev3.step (fun k m1 m0=>ay.bR k m1 m0 _ _ _ _ _ _ _) (Ev3.bT (decide_eq_true (by omega)) (Ev3.iT (by omega) (Ev3.bind (by rw [ej];exact hsj) (Ev3.bF rfl ?_)))),r2⟩
        rw [iS (Nat.lt_of_lt_of_le hj hal.1)];exact r1
       ·rw [decide_eq_false hq] at hsj
        exact ⟨false,Ev3.step (fun k m1 m0=>ay.bR k m1 m0 _ _ _ _ _ _ _) (Ev3.bT (decide_eq_true (by omega)) (Ev3.iT (by omega) (Ev3.bind (by rw [ej];exact hsj) (Ev3.bT rfl (Ev3.of (Ev2.of (evs _))))))),fun h=>by simp at h⟩
     obtain ⟨r,r1,r2⟩:=inner 0 (by omega) (fun j' h'=>by omega)
     refine ⟨r,Ev2.step (fun k m=>ay.aV k m _ _ _ _) (Ev2.bT (decide_eq_true (by omega)) (Ev2.iT (by omega) (Ev2.bind (a:=false) (bF (by rw [e];exact decide_eq_false c) (Ev.bind (a:=true) (by rw [e];exact hsh) (evs _))) (Ev2.bF rfl ?_)))),r2⟩
     rw [e];exact r1.diag
    ·rw [decide_eq_false hs] at hsh
     exact ⟨false,Ev2.step (fun k m=>ay.aV k m _ _ _ _) (Ev2.bT (decide_eq_true (by omega)) (Ev2.iT (by omega) (Ev2.bind (a:=true) (bF (by rw [e];exact decide_eq_false c) (Ev.bind (a:=false) (by rw [e];exact hsh) (evs _))) (Ev2.bT rfl (Ev2.of (evs _)))))),fun h=>by simp at h⟩
 obtain ⟨r,r1,r2⟩:=main 0 (by omega) (fun j h=>by omega)
 exact ⟨r,Ev.step (fun k=>jl k _ _) r1.diag,r2⟩
theorem xO {N:Nat} {v:az} (h:VN 20 v) (h1:v.2.1.length≤N∧v.2.2.1.length≤N):RB WW v (valq v)∧Sz WW N (valq v):=by
 obtain ⟨a,_⟩:=xM h
 exact ⟨a,wA aH a h1.1 h1.2⟩
theorem Bs {n:Int} {N:Nat} {l:List bj} (h:OkS n l) (hN:∀ x∈l,NumL N x):RSs WW N l (nQ l):=by
 refine ⟨by simp [nQ],fun i h1 h2=>?_⟩
 have ho:=h.2 _ (List.getElem_mem h1)
 have hn:=hN _ (List.getElem_mem h1)
 simp only [nQ,List.getElem_map]
 refine ⟨⟨by simp [pY,tm],fun j g1 g2=>?_⟩,rfl,xO ho.1.2.2.2 hn.1⟩
 simp only [pY,tm,List.getElem_map]
 exact xO (ho.2 _ (List.getElem_mem g1)) (hn.2 _ (List.getElem_mem g1))
theorem Cm {l:List bj} {k:Nat} (hk:k<l.length):ln (nQ l) k=pY l[k]:=by
 rw [qM (by simp [nQ];exact hk)];simp [nQ]
theorem xU {N n:Nat} {l:List bj} (h:OkS (n:Int) l) (hN:∀ x∈l,NumL N x):F.Sys n (BK N) (BK N) (nQ l):=by
 have hlen:(nQ l).length=l.length:=by simp [nQ]
 refine ⟨Nat.pow_pos (by decide),Nat.pow_pos (by decide),fun k hk=>?_,fun k hk=>?_,fun k hk x hx=>?_⟩
 ·rw [hlen] at hk
  have:=(h.2 _ (List.getElem_mem hk)).1.1
  rw [Cm hk]
  simp only [pY,tk];omega
 ·rw [hlen] at hk
  have:=(h.2 _ (List.getElem_mem hk)).1.2
  unfold rlf
  rw [Cm hk]
  simp only [pY];omega
 ·rw [hlen] at hk
  have ho:=h.2 _ (List.getElem_mem hk)
  have hn:=hN _ (List.getElem_mem hk)
  rw [Cm hk] at hx
  rcases List.mem_append.1 hx with hx | hx
  ·simp only [pY,tm] at hx
   obtain ⟨c,hc,rfl⟩:=List.mem_map.1 hx
   exact yz (xO (ho.2 _ hc) (hn.2 _ hc)).2
  ·rw [List.mem_singleton] at hx
   rw [hx]
   exact yz (xO ho.1.2.2.2 hn.1).2
theorem Dd {B:Int} {K:Nat} {l:List az} {q:List Rat} (h:RLs WW K l q) (hK:K≤4096) (hl:l.length≤1000000):Args l:=by
 refine ⟨by omega,fun x hx=>?_⟩
 obtain ⟨i,hi,rfl⟩:=List.getElem_of_mem hx
 obtain ⟨a,b⟩:=h.2 i hi (by rw [← h.1];exact hi)
 exact td a b (by omega)
theorem vn_of {K:Nat} {l:List az} {q:List Rat} (h:RLs WW K l q):∀ x∈l,VN K x:=fun x hx=>by
 obtain ⟨i,hi,rfl⟩:=List.getElem_of_mem hx
 exact ⟨_,h.2 i hi (by rw [← h.1];exact hi)⟩
theorem val_of {K:Nat} {l:List az} {q:List Rat} (h:RLs WW K l q):tm l=q:=by
 refine List.ext_getElem (by rw [tk,h.1]) (fun i h1 h2=>?_)
 have hi:i<l.length:=by rw [tk] at h1;exact h1
 simp only [tm,List.getElem_map]
 exact wM (h.2 i hi h2).1
theorem CC {n:Nat} {s:List dL} {q:List Rat} (hlen:∀ k,k<s.length→(ln s k).1.length=n):zo s q↔∀ k,k<s.length→fV (sY (ln s k).1 q n) (rlf s k) (kf s k):=by
 constructor
 ·intro h k hk
  have:=h _ (List.getElem_mem hk)
  have e:=qM hk
  unfold dotq at this
  have hl:=hlen k hk
  unfold rlf kf
  rw [e] at hl ⊢
  rwa [hl] at this
 ·intro h y hy
  obtain ⟨k,hk,rfl⟩:=List.getElem_of_mem hy
  have:=h k hk
  have e:=qM hk
  have hl:=hlen k hk
  unfold rlf kf at this
  rw [e] at hl this
  unfold dotq
  rwa [hl]
end Go.Proofs.YtjimdhlmeebjeaaGreat.Q
end
section
namespace Go.Proofs.YtjimdhlmeebjeaaGreat.E
open Go.RowKit Go.Proofs.YtjimdhlmeebjeaaGreat.V
theorem vrel_lit {w:World} {F:Fo} {a b} {v u:Value} (h:fK w F a b v (.cv (.lit u))):v=u:=by
 cases h with
 | cv h=>cases h;rfl
end Go.Proofs.YtjimdhlmeebjeaaGreat.E
end
section
namespace Go.Proofs.YtjimdhlmeebjeaaGreat.Q
open Go.RowKit Go.Proofs.YtjimdhlmeebjeaaGreatW.PrintWords Go.Proofs.YtjimdhlmeebjeaaGreatW.PrintMore Go.Proofs.YtjimdhlmeebjeaaGreat.V Go.Proofs.YtjimdhlmeebjeaaGreat.E
open Go.Proofs.YtjimdhlmeebjeaaGreat.P (Dg Nm vl WW RR bL gI evs evk evb e9 aH aT cA w64 u64)
open Go.Proofs.YtjimdhlmeebjeaaGreat.F (rlf)
set_option linter.unusedVariables false
theorem zM {z:Int} (h0:-1000000000000<z) (h1:z<1000000000000):∃ r,Ev (fun k=>gb k z) r∧RB RR r (z:Rat)∧Sz RR 4 (z:Rat):=by
 have hsz:Sz RR 4 (z:Rat):=by
  constructor
  ·rw [Rat.num_intCast];have:(RR:Int) ^ 4=10000000000000000:=by decide
   omega
  ·rw [Rat.den_intCast];decide
 by_cases c:z<0
 ·obtain ⟨x,x1,x2⟩:=s_Int (a:=-z) (by omega) (by omega)
  refine ⟨_,Ev.step (fun k=>gX k z) (bT (decide_eq_true c) (Ev.bind (by rw [w64 (x:=-z) (by omega) (by omega)];exact x1) (evs _))),⟨?_,?_,xE lA⟩,hsz⟩
  ·rw [Rat.num_intCast];exact (decide_eq_true c).symm
  ·rw [Rat.num_intCast,show ((z.natAbs:Nat):Int) = -z by omega];exact x2
 ·obtain ⟨x,x1,x2⟩:=s_Int (a:=z) (by omega) (by omega)
  refine ⟨_,Ev.step (fun k=>gX k z) (bF (decide_eq_false c) (Ev.bind x1 (evs _))),⟨?_,?_,xE lA⟩,hsz⟩
  ·rw [Rat.num_intCast];exact (decide_eq_false c).symm
  ·rw [Rat.num_intCast,show ((z.natAbs:Nat):Int)=z by omega];exact x2
theorem AZ {z:Int} {K:Nat} (h:z.natAbs<4294967296 ^ K) (hK:1≤K):Sz WW K (z:Rat):=by
 have e:WW ^ K=((4294967296 ^ K:Nat):Int):=by rw [P.cS,Int.natCast_pow];rfl
 have:=Nat.one_lt_pow (n:=K) (by omega) (show 1<4294967296 by decide)
 refine ⟨?_,?_⟩
 ·rw [e,Rat.num_intCast];omega
 ·rw [e,Rat.den_intCast];omega
theorem B9 {z:Int} (h0:-1000000000000<z) (h1:z<1000000000000):∃ r,Ev (fun k=>dy k z) r∧RB WW r (z:Rat):=by
 obtain ⟨a,a1,a2,a3⟩:=zM h0 h1
 obtain ⟨b,b1,b2⟩:=BA a2 a3 (by decide)
 exact ⟨b,Ev.step (fun k=>kX k z) (Ev.bind a1 (Ev.bind b1 (evs _))),b2⟩
def LnOK (K n:Nat) (x:bj) (y:dL):Prop:=RLn WW K x y∧y.1.length=n∧0≤y.2.1∧y.2.1≤2
theorem yE {K n:Nat} {x:bj} {y:dL} (h:LnOK K n x y) (hK:K≤20) (hn:n≤8):ArgL x∧OkL (n:Int) x∧NumL K x∧pY x=y:=by
 obtain ⟨⟨h1,h2,h3,h4⟩,h5,h6,h7⟩:=h
 have hl:x.1.length=n:=by rw [h1.1,h5]
 refine ⟨⟨Dd (B:=WW) h1 (by omega) (by omega),td h3 h4 (by omega)⟩,⟨⟨by omega,by omega,by omega,_,h3,eB aH h4 hK⟩,vn_of (h1.mono aH hK)⟩,⟨fz aT h3 h4,fun c hc=>?_⟩,?_⟩
 ·obtain ⟨i,hi,rfl⟩:=List.getElem_of_mem hc
  obtain ⟨a,b⟩:=h1.2 i hi (by rw [← h1.1];exact hi)
  exact fz aT a b
 ·obtain ⟨a,b,c⟩:=y
  simp only [pY,val_of h1,wM h3]
  simp only at h2
  rw [h2]
theorem uB {K n:Nat} {l:List bj} {s:List dL} (hl:l.length=s.length) (h:∀ i,∀ h1:i<l.length,∀ h2:i<s.length,LnOK K n l[i] s[i]) (hK:K≤20) (hn:n≤8) (h40:l.length≤40):AK l∧OkS (n:Int) l∧(∀ x∈l,NumL K x)∧nQ l=s:=by
 have each:∀ x∈l,ArgL x∧OkL (n:Int) x∧NumL K x:=fun x hx=>by
  obtain ⟨i,hi,rfl⟩:=List.getElem_of_mem hx
  obtain ⟨a,b,c,_⟩:=yE (h i hi (by rw [← hl];exact hi)) hK hn
  exact ⟨a,b,c⟩
 refine ⟨⟨by omega,fun x hx=>(each x hx).1⟩,⟨⟨by omega,by omega,h40⟩,fun x hx=>(each x hx).2.1⟩,fun x hx=>(each x hx).2.2,?_⟩
 refine List.ext_getElem (by simp [nQ,hl]) (fun i h1 h2=>?_)
 simp only [nQ,List.getElem_map]
 exact (yE (h i (by simpa [nQ] using h1) h2) hK hn).2.2.2
theorem ln_one {K:Nat} {v w:az} {p q:Rat} {rel:Int} (hv:RB WW v p) (hp:Sz WW K p) (hw:RB WW w q) (hq:Sz WW K q) (hr:0≤rel∧rel≤2):LnOK K 1 ([v],rel,w,()) ([p],rel,q):=by
 refine ⟨⟨⟨rfl,fun i h1 h2=>?_⟩,rfl,hw,hq⟩,rfl,hr.1,hr.2⟩
 have:i=0:=by simp at h1;omega
 subst this
 exact ⟨hv,hp⟩
theorem Da:Ev (fun k=>fy k) true:=by
 obtain ⟨a,a1,a2⟩:=B9 (z:=-1) (by decide) (by decide)
 obtain ⟨b,b1,b2⟩:=B9 (z:=1) (by decide) (by decide)
 obtain ⟨c,c1,c2⟩:=B9 (z:=0) (by decide) (by decide)
 have za:Sz WW 1 ((-1:Int):Rat):=AZ (by decide) (by decide)
 have zb:Sz WW 1 ((1:Int):Rat):=AZ (by decide) (by decide)
 have zc:Sz WW 1 ((0:Int):Rat):=AZ (by decide) (by decide)
 have low:=ln_one a2 za a2 za (rel:=1) (by decide)
 have high:=ln_one b2 zb c2 zc (rel:=1) (by decide)
 obtain ⟨x1,x2,x3,x4⟩:=uB (K:=1) (n:=1) (l:=[([a],1,a,()),([b],1,c,())]) (s:=[([((-1:Int):Rat)],1,((-1:Int):Rat)),([((1:Int):Rat)],1,((0:Int):Rat))]) rfl (fun i h1 h2=>by
  match i,h1,h2 with
  | 0,_,_=>exact low
  | 1,_,_=>exact high
  | i+2,h,_=>simp at h;omega) (by decide) (by decide) (by simp)
 obtain ⟨y1,y2,y3,y4⟩:=uB (K:=1) (n:=1) (l:=[([a],1,a,())]) (s:=[([((-1:Int):Rat)],1,((-1:Int):Rat))]) rfl (fun i h1 h2=>by
  match i,h1,h2 with
  | 0,_,_=>exact low
  | i+1,h,_=>simp at h) (by decide) (by decide) (by simp)
 have e1:((-1:Int):Rat) = -1:=rfl
 have e2:((1:Int):Rat)=1:=rfl
 have e3:((0:Int):Rat)=0:=rfl
 obtain ⟨z,z1,z2⟩:=zk (K:=1) (n:=1) (Lm:=10) x1 x2 (Bs x2 x3) (by decide) (by decide) (by rw [x4];decide) (by decide) (xU x2 x3) (num1 1 (by decide))
 obtain ⟨w,w1,w2⟩:=zk (K:=1) (n:=1) (Lm:=10) y1 y2 (Bs y2 y3) (by decide) (by decide) (by rw [y4];decide) (by decide) (xU y2 y3) (num1 1 (by decide))
 have hz:∃ m,z=([],m,0,())∧m.length=2:=by
  rcases z2 with ⟨pt,pq,rfl,p1,p2,p3⟩ | ⟨m,mq,rfl,m1,m2,m3⟩
  ·exfalso
   rw [x4] at p3
   have h0:=p3 0 (by decide)
   have h1:=p3 1 (by decide)
   unfold fV at h0 h1
   simp [ln,rlf,kf,sY] at h0 h1
   grind
  ·exact ⟨m,rfl,by rw [m1.1,m2,x4];rfl⟩
 have hw:∃ pt pq,w=(pt,[],0,())∧RLs WW 200 pt pq∧pq.length=1∧∀ k,k<(nQ [([a],1,a,())]).length→fV (sY (ln (nQ [([a],1,a,())]) k).1 pq 1) (rlf (nQ [([a],1,a,())]) k) (kf (nQ [([a],1,a,())]) k):=by
  rcases w2 with h | ⟨m,mq,rfl,m1,m2,m3⟩
  ·exact h
  ·exfalso
   refine tw (xU y2 y3).rel m3 ⟨fun _=>1,fun k hk=>?_⟩
   rw [y4] at hk ⊢
   have:k=0:=by simp at hk;omega
   subst this
   left
   simp [ln,rlf,kf,F.lin]
   grind
 obtain ⟨m,rfl,ml⟩:=hz
 obtain ⟨pt,pq,rfl,p1,p2,p3⟩:=hw
 have pl:pt.length=1:=by rw [p1.1,p2]
 have hH:=zn (n:=((1:Nat):Int)) (l:=[([a],1,a,())]) (pt:=pt) y1 (Dd (B:=WW) p1 (by decide) (by omega))
 rw [qV y2,qV ⟨vn_of p1,by omega⟩,val_of p1,iq ((CC (xU y2 y3).len).2 p3)] at hH
 refine Ev.step (fun k=>j6 k) (Ev.bind a1 (Ev.bind a1 (Ev.bind b1 (Ev.bind c1 (Ev.bind z1 (Ev.bind w1 (Ev.bind hH ?_)))))))
 simp only [ml,pl]
 exact evs _
end Go.Proofs.YtjimdhlmeebjeaaGreat.Q
end
section
namespace Go.Proofs.YtjimdhlmeebjeaaGreat.Q
open Go.RowKit Go.Proofs.YtjimdhlmeebjeaaGreatW.PrintWords Go.Proofs.YtjimdhlmeebjeaaGreatW.PrintMore Go.Proofs.YtjimdhlmeebjeaaGreat.V Go.Proofs.YtjimdhlmeebjeaaGreat.E
open Go.Proofs.YtjimdhlmeebjeaaGreat.P (Dg Nm vl WW RR bL gI evs evk evb e9 aH aT cA w64 u64)
set_option linter.unusedVariables false
theorem arg_rats {l:List az} (h:AN (.list ah) l):Args l:=⟨h.1,fun x hx=>De (h.2 x hx)⟩
theorem Df {l:List bj} (h:AN (.list av) l):AK l:=⟨h.1,fun x hx=>⟨arg_rats (h.2 x hx).1,De (h.2 x hx).2.2.1⟩⟩
end Go.Proofs.YtjimdhlmeebjeaaGreat.Q
end
section
namespace Go.Proofs.YtjimdhlmeebjeaaGreat.Q
open Go.RowKit Go.Proofs.YtjimdhlmeebjeaaGreatW.PrintWords Go.Proofs.YtjimdhlmeebjeaaGreatW.PrintMore Go.Proofs.YtjimdhlmeebjeaaGreat.V Go.Proofs.YtjimdhlmeebjeaaGreat.E
open Go.Proofs.YtjimdhlmeebjeaaGreat.P (Dg Nm vl WW RR bL gI evs evk evb e9 aH aT cA w64 u64)
open Go.Proofs.YtjimdhlmeebjeaaGreat.F (rlf)
set_option linter.unusedVariables false
theorem or_ev (a b:Bool):Ev (fun _=>bif a then some true else some b) (a||b):=by cases a<;>exact evs _
theorem orn_ev {f:Nat→Option Bool} {t:Bool} (b:Bool) (h:Ev f t):Ev (fun k=>bif b then some true else (f k).bind fun v=>some (!v)) (b||!t):=by
 cases b with
 | true=>exact bT rfl (evs _)
 | false=>exact bF rfl (Ev.bind h (by rw [Bool.false_or];exact evs _))
end Go.Proofs.YtjimdhlmeebjeaaGreat.Q
end
section
namespace Go.Proofs.YtjimdhlmeebjeaaGreat.Q
open Go.RowKit Go.Proofs.YtjimdhlmeebjeaaGreatW.PrintWords Go.Proofs.YtjimdhlmeebjeaaGreatW.PrintMore Go.Proofs.YtjimdhlmeebjeaaGreat.V Go.Proofs.YtjimdhlmeebjeaaGreat.E
open Go.Proofs.YtjimdhlmeebjeaaGreat.P (Dg Nm vl WW RR bL gI evs evk evb e9 aH aT cA w64 u64)
set_option linter.unusedVariables false
theorem AE {n:Int} {l:List bj} (ha:AK l) (hok:¬ OkS n l):Ev (fun k=>dY k n l) 3:=by
 have hc:=lS (n:=n) ha
 rw [mH hok] at hc
 exact Ev.step (fun k=>ik k _ _) (Ev.bind hc (bT rfl (evs _)))
theorem wg {n:Int} {l:List bj} (ha:AK l) (hok:OkS n l) (hg:n>3∨(l.length:Int)>10):Ev (fun k=>dY k n l) 60:=by
 have hc:=lS (n:=n) ha
 rw [qV hok] at hc
 refine Ev.step (fun k=>ik k _ _) (Ev.bind hc (bF rfl (Ev.bind (or_ev _ _) ?_)))
 have:(decide (n>3)||decide ((l.length:Int)>10))=true:=by rcases hg with h | h<;>simp [h]
 rw [this]
 exact bT rfl (evs _)
theorem yU {n:Int} {l:List bj} {e:Int} (ha:AK l) (he:e=3∧¬ OkS n l∨e=60) (hb:Ev (fun k=>dY k n l) e):Ev (fun k=>bf.j1 k n l e) true:=by
 have e0:(e==(0:Int))=false:=by rcases he with ⟨h,_⟩ | h<;>rw [h]<;>rfl
 have e1:(e != (0:Int))=true:=by rcases he with ⟨h,_⟩ | h<;>rw [h]<;>rfl
 have eb:(e != e)=false:=by simp
 have z0:wrap64 (wrap64 (wrap64 (((0:Nat):Int)+((0:Nat):Int))+0)+((0:Nat):Int))=0:=by decide +kernel
 have hS:Ev (fun k=>aO k n l) ([],[],e,()):=Ev.step (fun k=>kO k _ _) (Ev.bind hb (bT e1 (evs _)))
 have hM:Ev (fun k=>jB k n l []) (0,(false,[],[],()),e,()):=Ev.step (fun k=>tR k _ _ _) (Ev.bind hb (bT e1 (evs _)))
 have hP:Ev (fun k=>fB k n l (-1)) ([],e,()):=Ev.step (fun k=>ov k _ _ _) (Ev.bind hb (bT e1 (evs _)))
 unfold bf.j1
 refine bF e0 (Ev.bind hS (Ev.bind hM (Ev.bind hP ?_)))
 refine Ev.bind (a:=false) (bF eb (by rw [eb];exact evs _)) (Ev.bind (a:=false) (bF rfl (by rw [eb];exact evs _)) (Ev.bind (a:=false) (bF rfl (evk (by simp only [List.length_nil,z0];rfl))) (Ev.bind (a:=false) (bF rfl (Ev.bind wK (Ev.bind (a:=false) (bF rfl (evs _)) (evs _)))) (bF rfl ?_))))
 rcases he with ⟨rfl,hn⟩ | rfl
 ·have hH:=zn (n:=n) (l:=l) (pt:=[]) ha ⟨by simp,fun x h=>by simp at h⟩
  have hR:=AH (n:=n) (l:=l) (mv:=[]) ha ⟨by simp,fun x h=>by simp at h⟩
  rw [mH hn] at hH hR
  exact bF rfl (Ev.bind hH (Ev.bind hR (Ev.bind (a:=true) (bT rfl (evs _)) (Ev.bind (a:=true) (bT rfl (evs _)) (Ev.bind (a:=true) (bT rfl (evs _)) (evs _))))))
 ·exact bT rfl (evs _)
theorem qR {n:Int} {l:List bj} (hn:(Lit.int .i64 n).wf=true) (ha:AK l):Ev (fun k=>bf k n l) true:=by
 obtain ⟨t,t1,t2⟩:=AJ 2 ha
 refine Ev.step (fun k=>im k n l) (Ev.bind Da (bF rfl (Ev.bind (orn_ev _ t1) ?_)))
 cases (decide ((List.length l:Int)>(44:Int))||!t) with
 | true=>exact bT rfl (evs _)
 | false =>
  refine bF rfl ?_
  have hc:=lS (n:=n) ha
  have hv:=tx (n:=n) ha
  by_cases ok:OkS n l
  ·rw [qV ok] at hc hv
   refine Ev.bind hc (Ev.bind hv (bF rfl ?_))
   by_cases hg:n>3∨(l.length:Int)>10
   ·have e:(decide (n>3)||decide ((l.length:Int)>10))=true:=by rcases hg with h | h<;>simp [h]
    exact (bF rfl (Ev.bind (bT rfl (Ev.bind (or_ev _ _) (evs _))) (bT e (yU ha (.inr rfl) (wg ha ok hg)))):Ev (fun k=>bf.j0 k n l 0 0) true)
   ·have e:(decide (n>3)||decide ((l.length:Int)>10))=false:=by
     simp only [not_or] at hg
     simp [hg.1];omega
    exact (bF rfl (Ev.bind (bT rfl (Ev.bind (or_ev _ _) (evs _))) (bF e (bT rfl (evs _)))):Ev (fun k=>bf.j0 k n l 0 0) true)
  ·rw [mH ok] at hc hv
   exact Ev.bind hc (Ev.bind hv (bT rfl (bF rfl (Ev.bind (a:=false) (bF rfl (evs _)) (bF rfl (yU ha (.inl ⟨rfl,ok⟩) (AE ha ok)))))))
end Go.Proofs.YtjimdhlmeebjeaaGreat.Q
end
section
namespace Go.Proofs.YtjimdhlmeebjeaaGreat.linearForms
open Go.ChangeShapes Go.WideShapes Go.ChangeAt Go.RowKit
open Go.ChangeMaps (open_string shut_string)
open Go.Proofs.YtjimdhlmeebjeaaGreat.V Go.Proofs.YtjimdhlmeebjeaaGreat.E
theorem own:ownKnob Tryz.prog.godebug=none:=by kernel_rfl
theorem laidOut:laidOutB Tryz.prog=true:=by kernel_rfl
set_option maxRecDepth 100000 in
theorem lifted (os:Os) (started:os.Started) (H:Type) (enc:TypeId×Value→H) :
 ReturnsInHanded {} Tryz.checked os 8 .any (Rows.linearFormsSpec.pre6 enc Tryz.prog Tryz.f8 Rows.linearFormsRow.domain false) (Rows.linearFormsSpec.post enc Tryz.prog Tryz.f8 false true false false):=by
 refine returnsInHanded_of_change_sized (C:=Tryz.checked) own started (by kernel_rfl) Tryz.func8
  (ChangeSpec.witness6 (enc:=enc) (C:=Tryz.checked) false ⟨#[],#[.int .i64 0,.slice none 0 0],[]⟩ 8 (by kernel_rfl) (by kernel_rfl) (by kernel_rfl) (by kernel_rfl)) ?_
 intro W base args ds gs before hval0 hW hcnd hsz0 _
 have hval:∀ (j:Nat) t v,Tryz.f8.params[j]?=some t→args[j]?=some v→Value.okWide Tryz.prog W .any base t v:=hval0
 have hW':=hW
 obtain ⟨p,q,hA0,hV,rfl,hfz,hnd⟩:=hW
 have hA:DataW.TrodAll enc Tryz.prog W 0 (fun _=>true) true Tryz.f8.params.toList args.toList ds p:=hA0
 rw [Tryz.params8] at hA hval
 obtain ⟨v0,vs0,d0,ds0,p0,q0,hargs,rfl,rfl,h0,r0⟩:=trodAll_cons hA
 obtain ⟨v1,vs1,d1,ds1,p1,q1,rfl,rfl,rfl,h1,r1⟩:=trodAll_cons r0
 obtain ⟨rfl,rfl,rfl⟩:=trodAll_nil r1
 obtain rfl:args = #[v0,v1]:=by cases args;simp_all
 obtain ⟨rfl,rfl⟩:=trodVars_none hV
 have k0:=h0
 have lt0:∀ x∈p0,x.block<W.heap.size:=by obtain ⟨m,hm⟩:=k0;exact DataW.trod_lt m _ _ _ hm
 obtain ⟨y0,f0,g0⟩:=Dh Q.AY (n:=16) (t:=3) (c:=(.int .i64)) (by kernel_rfl) (by kernel_rfl) (hval 0 3 v0 rfl rfl) h0
 have k1:=h1
 have lt1:∀ x∈p1,x.block<W.heap.size:=by obtain ⟨m,hm⟩:=k1;exact DataW.trod_lt m _ _ _ hm
 obtain ⟨y1,f1,g1⟩:=Dh Q.AY (n:=16) (t:=22) (c:=(.list av)) (by kernel_rfl) (by kernel_rfl) (hval 1 22 v1 rfl rfl) h1
 clear hA0 hval0 hsz0
 obtain ⟨k,hk⟩:=(Q.qR (Q.arg_int f0) (Q.Df f1)).rounds
 obtain ⟨_,pv,hp,hF⟩:=(yV Q.AY orc_ok Q.mixed Q.noGo k).fn 8 [.v (.int .i64) y0,.v (.list av) y1] true rfl hk
 obtain rfl:=Option.some.inj hp
 refine (hF (fun b=>b<W.heap.size) W #[v0,v1] (fun b h=>h) rfl (fun i h=>?_)).mono fun e W' ⟨v,he,bel,hv⟩=>?_
 ·match i,h with
  | 0,h=>exact g0
  | 1,h=>exact g1
  | i+2,h=>exact absurd h (by simp only [List.length_map,List.length_cons,List.length_nil];omega)
 ·have hb:=vrel_lit hv
  subst hb
  subst he
  exact ⟨_,rfl,_,_,_,[],_,[],hW',trodAll_mk1 (shut_bool Tryz.underlying4 _),(trodAll_cons_mk (Below.trod laidOut (by kernel_rfl) (of_decide_eq_true (by kernel_rfl)) k0 bel lt0) (trodAll_cons_mk (Below.trod laidOut (by kernel_rfl) (of_decide_eq_true (by kernel_rfl)) k1 bel lt1) trodAll_mk0)),rfl,bel.frame _,fun h=>by cases h⟩
theorem over:Rows.linearFormsRow.holds Tryz.pinned (OpenSpec.ofChange Rows.linearFormsSpec) :=
 OpenClaim.holds_of_wide 8 Tryz.f8 rfl rfl rfl rfl rfl rfl rfl ⟨rfl,rfl,rfl,rfl,rfl⟩ rfl rfl rfl rfl rfl (by kernel_rfl) Tryz.func8 (by kernel_rfl)
  (of_decide_eq_true (by kernel_rfl)) (by unfold Func.isWrapper;first | (rw [if_pos (by decide +kernel)];kernel_rfl) | (rw [if_neg (by decide +kernel)];exact ⟨rfl,rfl⟩))
  (fun os started H enc _=>lifted os started H enc)
theorem proved:Rows.LinearFormsSaid:=over
#print axioms proved
end Go.Proofs.YtjimdhlmeebjeaaGreat.linearForms
namespace Go.Proofs.YtjimdhlmeebjeaaGreat
theorem linearForms_holds:Rows.LinearFormsSaid:=linearForms.proved
end Go.Proofs.YtjimdhlmeebjeaaGreat
end
