/- Project of package linear removes a variable so that a point satisfies the result exactly if some value of that variable makes it satisfy the system (the last of 6 texts). No condition beyond the statement's own. -/
import Derived.SizedLaws
import Derived.ChangeSlices
import Derived.Test.YtjimdhlmeebjeaaGreatRows
import Derived.WalkKit
import Derived.ProofKit
import Derived.OpenShut
import Derived.ShutString
import Derived.ChangeOld
import Derived.Below
import Derived.KernelRfl
import Derived.Test.YtjimdhlmeebjeaaGreatProjects5
set_option linter.unusedSimpArgs false
set_option linter.unusedSectionVars false
section
namespace Go.Proofs.YtjimdhlmeebjeaaGreat.Q
open Go.RowKit Go.Proofs.YtjimdhlmeebjeaaGreatW.PrintWords Go.Proofs.YtjimdhlmeebjeaaGreatW.PrintMore Go.Proofs.YtjimdhlmeebjeaaGreat.V Go.Proofs.YtjimdhlmeebjeaaGreat.E
open Go.Proofs.YtjimdhlmeebjeaaGreat.P (Dg Nm vl WW RR bS gI evs evk evb fv aM aY bj w64 u64)
open Go.Proofs.YtjimdhlmeebjeaaGreat.F (cx ce ja dW eV gP wq iq iK gF dV dU pK fE dO)
set_option linter.unusedVariables false
theorem uQ {i:Nat}:∀ (q:List cx) (j k:Nat),(∀ m,m<k→∀ h:m<q.length,¬ (q[m].2=0∧ce q[m] i≠0))→(h:k<q.length)→(q[k].2=0∧ce q[k] i≠0)→iK i q j=some (j+k)
 | [],j,k,_,h,_=>by simp at h
 | r :: l,j,k,hm,h,hk=>by
  unfold iK
  cases k with
  | zero=>rw [if_pos (by simpa using hk)];rfl
  | succ k =>
   rw [if_neg (by have:=hm 0 (by omega) (by simp);simpa using this)]
   have:=uQ (i:=i) l (j+1) k (fun m hm' hl=>by have:=hm (m+1) (by omega) (by simpa using hl);simpa using this) (by simpa using h) (by simpa using hk)
   rw [this];congr 1;omega
theorem uP {i:Nat}:∀ (q:List cx) (j:Nat),(∀ m,∀ h:m<q.length,¬ (q[m].2=0∧ce q[m] i≠0))→iK i q j=none
 | [],j,_=>rfl
 | r :: l,j,hm=>by
  unfold iK
  rw [if_neg (by have:=hm 0 (by simp);simpa using this)]
  exact uP l (j+1) (fun m hl=>by have:=hm (m+1) (by simpa using hl);simpa using this)
theorem pd {i:Nat} (q:List cx) (r:cx):gF i (q++[r])=gF i q++(if ce r i=0 then [r] else []):=by
 unfold gF;rw [List.filter_append];by_cases c:ce r i=0<;>simp [c,List.filter_cons]
theorem nV {i:Nat} (q:List cx) (r:cx):dV i (q++[r])=dV i q++(if ce r i<0 then [r] else []):=by
 unfold dV;rw [List.filter_append];by_cases c:ce r i<0<;>simp [c,List.filter_cons]
theorem nK {i:Nat} (q:List cx) (r:cx):dU i (q++[r])=dU i q++(if 0<ce r i then [r] else []):=by
 unfold dU;rw [List.filter_append];by_cases c:0<ce r i<;>simp [c,List.filter_cons]
theorem sC {n i:Nat} (lo up:List cx):(fE n i lo up).length=lo.length*up.length:=by
 unfold fE
 induction lo with
 | nil=>simp
 | cons a l ih=>simp only [List.flatMap_cons,List.length_append,List.length_map,List.length_cons,Nat.succ_mul] at ih ⊢;omega
theorem uR {n i:Nat} {q:List cx}:(dO n q i).length≤q.length+q.length*q.length:=by
 have hp:∀ x:List cx,(eV n x).length≤x.length:=fun x=>by
  have:=F.gU (n:=n) x []
  rw [List.length_nil,Nat.zero_add] at this
  exact this
 unfold dO
 split
 ·next k hk =>
  have h1:=hp (iq n q k i)
  have h2:=oi (n:=n) (i:=i) (k:=k) (piv:=q.getD k ([],0)) q 0
  unfold iq at h1 ⊢
  omega
 ·have h1:=hp (gF i q++fE n i (dV i q) (dU i q))
  have h2:(gF i q).length≤q.length:=List.length_filter_le ..
  have h3:(dV i q).length≤q.length:=List.length_filter_le ..
  have h4:(dU i q).length≤q.length:=List.length_filter_le ..
  have h5:=Nat.mul_le_mul h3 h4
  rw [List.length_append,sC] at h1
  omega
section
variable {K n L:Nat} {l:List bE} {q:List cx} {i:Nat}
theorem elim_l3 {K':Nat} {X:List bE} {Y:Int} {Post:List bE→Prop} {up:List bE} {uq:List cx} (hup:RRs K n L up uq) (hpos:∀ u,u∈uq→0<ce u i) {v:bE} {r:cx} (hv:qK K n v r) (hr:r.1.length=L) (hn:n+1≤L) (hi:i<n) (hn2:n≤900) (hl:up.length≤20000) (hL:L<1000000) (hs:(4*K+3)*(n+3)<33554432) (hK':K'=(4*K+2)*(n+3)+1)
 {o:List bE} {oq:List cx} (ho:RRs K' n L o oq) (hol:o.length≤1000000000) (hc:∀ o',RRs K' n L o' (oq++uq.map (pK n i r))→∃ z,Ev2 (fun k m=>aB.l2 k m (i:Int) X (X.length:Int) (wrap64 (Y+1)) o' up) z∧Post z) :
 ∃ z,Ev3 (fun k m1 m0=>aB.l3 k m1 m0 (i:Int) X (X.length:Int) Y (up.length:Int) ((0:Nat):Int) o up v) z∧Post z:=by
 have hK:4*K+3<33554432:=by
  have:=Nat.mul_le_mul_left (4*K+3) (show 1≤n+3 by omega)
  omega
 have vl:v.1.length=L:=by rw [hv.1.1];exact hr
 have key:∀ j,j≤up.length→∀ o',RRs K' n L o' (oq++(uq.take j).map (pK n i r))→∃ z,Ev3 (fun k m1 m0=>aB.l3 k m1 m0 (i:Int) X (X.length:Int) Y (up.length:Int) (j:Int) o' up v) z∧Post z:=by
  refine dn ?_ (fun j hj ih=>?_)
  ·intro o' ho'
   rw [hup.1,List.take_length] at ho'
   obtain ⟨z,z1,z2⟩:=hc o' ho'
   exact ⟨z,Ev3.step (fun k m n=>aB.td k m n _ _ _ _ _ _ _ _ _) (Ev3.bF (decide_eq_false (by omega)) (Ev3.of z1)),z2⟩
  ·intro o' ho'
   have hjq:j<uq.length:=by rw [← hup.1];exact hj
   obtain ⟨a,b,c⟩:=hup.at hj
   obtain ⟨a1,a2⟩:=a.at (i:=i) (by omega)
   obtain ⟨b1,b2⟩:=hv.at (i:=i) (by omega)
   obtain ⟨e,e1,e2,e3⟩:=iH b1 b2 (by omega)
   obtain ⟨w,w1,w2⟩:=ky (Ka:=K) (Kb:=K) a1 e2 a2 e3 hv a (by rw [hr,b]) (by rw [hr];exact hn) hn2 (by rw [hr];exact hL) (by
    refine Nat.lt_of_le_of_lt (Nat.mul_le_mul_right _ ?_) hs
    omega)
   have w3:qK K' n w (pK n i r (uq.getD j ([],0))):=by
    refine w2.mono ?_
    have e:K+K+2*K+1=4*K+1:=by omega
    rw [hK',e];exact pairK
   have ol:o'.length=o.length+j:=by
    rw [ho'.1,ho.1]
    simp;omega
   obtain ⟨z,z1,z2⟩:=ih (o'++[w]) (by
    rw [oz hjq,List.map_append,← List.append_assoc]
    exact ho'.snoc w3 ((F.o5 (by rw [hr,b])).trans hr))
   refine ⟨z,Ev3.step (fun k m n=>aB.td k m n _ _ _ _ _ _ _ _ _) (Ev3.bT (decide_eq_true (by omega)) (Ev3.iT (by omega) (Ev3.iT (by omega) (Ev3.iT (by omega) (Ev3.bind e1 (Ev3.bind w1 (Ev3.iT (by simp;omega) ?_))))))),z2⟩
   rw [ic (by omega)];exact z1
 exact key 0 (by omega) o (by simpa using ho)
theorem elim_l2 {K':Nat} {lo up:List bE} {lq uq:List cx} (hlo:RRs K n L lo lq) (hup:RRs K n L up uq) (hpos:∀ u,u∈uq→0<ce u i) (hn:n+1≤L) (hi:i<n) (hn2:n≤900) (hl:lo.length≤20000) (hl2:up.length≤20000) (hL:L<1000000) (hs:(4*K+3)*(n+3)<33554432) (hK':K'=(4*K+2)*(n+3)+1) (hK2:K'<400000000)
 {o:List bE} {oq:List cx} (ho:RRs K' n L o oq) (hol:o.length≤20000) :
 ∃ z,Ev2 (fun k m=>aB.l2 k m (i:Int) lo (lo.length:Int) ((0:Nat):Int) o up) z∧RRs K' n L z (eV n (oq++fE n i lq uq)):=by
 have hcount:∀ j,j≤lo.length→(fE n i (lq.take j) uq).length≤400000000:=fun j hj=>by
  rw [sC,← hup.1]
  have:(lq.take j).length≤20000:=by simp;omega
  have:=Nat.mul_le_mul this hl2
  omega
 have key:∀ j,j≤lo.length→∀ o',RRs K' n L o' (oq++fE n i (lq.take j) uq)→∃ z,Ev2 (fun k m=>aB.l2 k m (i:Int) lo (lo.length:Int) (j:Int) o' up) z∧RRs K' n L z (eV n (oq++fE n i lq uq)):=by
  refine dn ?_ (fun j hj ih=>?_)
  ·intro o' ho'
   have hc:=hcount lo.length (Nat.le_refl _)
   have e:lq.take lo.length=lq:=by rw [hlo.1,List.take_length]
   rw [e] at ho' hc
   have ol:o'.length=o.length+(fE n i lq uq).length:=by rw [ho'.1,ho.1];simp
   obtain ⟨z,z1,z2⟩:=ry ho' hn (by omega) hL hK2
   exact ⟨z,Ev2.step (fun k m=>aB.tf k m _ _ _ _ _ _) (Ev2.bF (decide_eq_false (by omega)) (Ev2.of (Ev.bind z1 (evs _)))),z2⟩
  ·intro o' ho'
   have hjq:j<lq.length:=by rw [← hlo.1];exact hj
   have hc:=hcount j (by omega)
   obtain ⟨a,b,c⟩:=hlo.at hj
   have ol:o'.length=o.length+(fE n i (lq.take j) uq).length:=by rw [ho'.1,ho.1];simp
   have ep:fE n i (lq.take (j+1)) uq=fE n i (lq.take j) uq++uq.map (pK n i (lq.getD j ([],0))):=by
    rw [oz hjq];unfold fE;simp
   obtain ⟨z,z1,z2⟩:=elim_l3 (X:=lo) (Y:=(j:Int)) (Post:=fun z=>RRs K' n L z (eV n (oq++fE n i lq uq))) hup hpos a b hn hi hn2 hl2 hL hs hK' ho' (by omega) (fun o2 ho2=>by
    rw [ic (by omega)]
    refine ih o2 ?_
    rw [ep,← List.append_assoc];exact ho2)
   exact ⟨z,Ev2.step (fun k m=>aB.tf k m _ _ _ _ _ _) (Ev2.bT (decide_eq_true (by omega)) (Ev2.iT (by omega) z1.diag)),z2⟩
 exact key 0 (by omega) o (by simpa [fE] using ho)
theorem elim_l1 {K':Nat} (h:RRs K n L l q) (hn:n+1≤L) (hi:i<n) (hn2:n≤900) (hl:l.length≤20000) (hL:L<1000000) (hs:(4*K+3)*(n+3)<33554432) (hK':K'=(4*K+2)*(n+3)+1) (hK2:K'<400000000) :
 ∃ z,Ev2 (fun k m=>aB.l1 k m (i:Int) l (l.length:Int) ((0:Nat):Int) [] [] []) z∧RRs K' n L z (eV n (gF i q++fE n i (dV i q) (dU i q))):=by
 have fl:∀ (f:cx→Bool) (j:Nat),((q.take j).filter f).length≤l.length:=fun f j=>by
  have h1:((q.take j).filter f).length≤(q.take j).length:=List.length_filter_le ..
  have h2:(q.take j).length≤q.length:=by simp;omega
  have:=h.1
  omega
 have key:∀ j,j≤l.length→∀ a b c,RRs K n L a (gF i (q.take j))→RRs K n L b (dV i (q.take j))→RRs K n L c (dU i (q.take j))→∃ z,Ev2 (fun k m=>aB.l1 k m (i:Int) l (l.length:Int) (j:Int) a b c) z∧RRs K' n L z (eV n (gF i q++fE n i (dV i q) (dU i q))):=by
  refine dn ?_ (fun j hj ih=>?_)
  ·intro a b c ha hb hc
   have la:=ha.1
   have lb:=hb.1
   have lc:=hc.1
   have l1:=fl (fun r=>decide (ce r i=0)) l.length
   have l2:=fl (fun r=>decide (ce r i<0)) l.length
   have l3:=fl (fun r=>decide (0<ce r i)) l.length
   unfold gF at la
   unfold dV at lb
   unfold dU at lc
   rw [h.1,List.take_length] at ha hb hc
   obtain ⟨z,z1,z2⟩:=elim_l2 (i:=i) hb hc (fun u hu=>(F.iI.1 hu).2) hn hi hn2 (by omega) (by omega) hL hs hK' hK2 (ha.mono (by rw [hK'];exact KleK)) (by omega)
   exact ⟨z,Ev2.step (fun k m=>aB.bZ k m _ _ _ _ _ _ _) (Ev2.bF (decide_eq_false (by omega)) (Ev2.ofd z1)),z2⟩
  ·intro a b c ha hb hc
   have la:=ha.1
   have lb:=hb.1
   have lc:=hc.1
   have l1:=fl (fun r=>decide (ce r i=0)) j
   have l2:=fl (fun r=>decide (ce r i<0)) j
   have l3:=fl (fun r=>decide (0<ce r i)) j
   unfold gF at la
   unfold dV at lb
   unfold dU at lc
   have hjq:j<q.length:=by rw [← h.1];exact hj
   obtain ⟨d,e,f⟩:=h.at hj
   obtain ⟨d1,d2⟩:=d.at (i:=i) (by omega)
   have hsg:=cY d1
   have et:=oz hjq
   rcases fh (ce (q.getD j ([],0)) i) with ⟨es,hc0⟩ | ⟨es,hc0⟩ | ⟨es,hc0⟩
   ·have n1:¬ ce (q.getD j ([],0)) i=0:=by grind
    have n2:¬ 0<ce (q.getD j ([],0)) i:=by grind
    obtain ⟨z,z1,z2⟩:=ih a (b++[(rdT (t:=aj) l (j:Int):bE)]) c (by rw [et,pd,if_neg n1,List.append_nil];exact ha) (by rw [et,nV,if_pos hc0];exact hb.snoc d e) (by rw [et,nK,if_neg n2,List.append_nil];exact hc)
    rw [es] at hsg
    refine ⟨z,Ev2.step (fun k m=>aB.bZ k m _ _ _ _ _ _ _) (Ev2.bT (decide_eq_true (by omega)) (Ev2.iT (by omega) (Ev2.iT (by omega) (Ev2.bind hsg (Ev2.bF rfl (Ev2.bF rfl (Ev2.iT (by simp;omega) ?_))))))),z2⟩
    show Ev2 (fun k m=>aB.l1 k m (i:Int) l (l.length:Int) (wrap64 ((j:Int)+1)) a (b++[(rdT (t:=aj) l (j:Int):bE)]) c) z
    rw [ic (by omega)];exact z1
   ·have n1:¬ ce (q.getD j ([],0)) i<0:=by grind
    have n2:¬ 0<ce (q.getD j ([],0)) i:=by grind
    obtain ⟨z,z1,z2⟩:=ih (a++[(rdT (t:=aj) l (j:Int):bE)]) b c (by rw [et,pd,if_pos hc0];exact ha.snoc d e) (by rw [et,nV,if_neg n1,List.append_nil];exact hb) (by rw [et,nK,if_neg n2,List.append_nil];exact hc)
    rw [es] at hsg
    refine ⟨z,Ev2.step (fun k m=>aB.bZ k m _ _ _ _ _ _ _) (Ev2.bT (decide_eq_true (by omega)) (Ev2.iT (by omega) (Ev2.iT (by omega) (Ev2.bind hsg (Ev2.bT rfl (Ev2.iT (by simp;omega) ?_)))))),z2⟩
    show Ev2 (fun k m=>aB.l1 k m (i:Int) l (l.length:Int) (wrap64 ((j:Int)+1)) (a++[(rdT (t:=aj) l (j:Int):bE)]) b c) z
    rw [ic (by omega)];exact z1
   ·have n1:¬ ce (q.getD j ([],0)) i<0:=by grind
    have n2:¬ ce (q.getD j ([],0)) i=0:=by grind
    obtain ⟨z,z1,z2⟩:=ih a b (c++[(rdT (t:=aj) l (j:Int):bE)]) (by rw [et,pd,if_neg n2,List.append_nil];exact ha) (by rw [et,nV,if_neg n1,List.append_nil];exact hb) (by rw [et,nK,if_pos hc0];exact hc.snoc d e)
    rw [es] at hsg
    refine ⟨z,Ev2.step (fun k m=>aB.bZ k m _ _ _ _ _ _ _) (Ev2.bT (decide_eq_true (by omega)) (Ev2.iT (by omega) (Ev2.iT (by omega) (Ev2.bind hsg (Ev2.bF rfl (Ev2.bT rfl (Ev2.iT (by simp;omega) ?_))))))),z2⟩
    show Ev2 (fun k m=>aB.l1 k m (i:Int) l (l.length:Int) (wrap64 ((j:Int)+1)) a b (c++[(rdT (t:=aj) l (j:Int):bE)])) z
    rw [ic (by omega)];exact z1
 exact key 0 (by omega) [] [] [] RRs.nil RRs.nil RRs.nil
theorem qF (h:RRs K n L l q) (hn:n+1≤L) (hi:i<n) (hn2:n≤900) (hl:l.length≤20000) (hL:L<1000000) (hs:(4*K+3)*(n+3)<33554432) :
 ∃ o,Ev (fun k=>aB k l (i:Int)) o∧RRs ((4*K+2)*(n+3)+1) n L o (dO n q i):=by
 have hK2:(4*K+2)*(n+3)+1<400000000:=by
  have:=Nat.mul_le_mul_right (n+3) (show 4*K+2≤4*K+3 by omega)
  omega
 have hlq:=h.1
 have key:∀ j,j≤l.length→(∀ m,m<j→∀ h:m<q.length,¬ (q[m].2=0∧ce q[m] i≠0))→∃ o,Ev2 (fun k m=>aB.l0 k m l (i:Int) l (l.length:Int) (j:Int)) o∧RRs ((4*K+2)*(n+3)+1) n L o (dO n q i):=by
  refine dn ?_ (fun j hj ih=>?_)
  ·intro hno
   obtain ⟨z,z1,z2⟩:=elim_l1 (i:=i) h hn hi hn2 hl hL hs rfl hK2
   have e:dO n q i=eV n (gF i q++fE n i (dV i q) (dU i q)):=by
    unfold dO
    rw [uP q 0 (fun m hm=>hno m (by omega) hm)]
   refine ⟨z,Ev2.step (fun k m=>aB.aO k m _ _ _ _ _) (Ev2.bF (decide_eq_false (by omega)) (Ev2.ofd z1)),by rw [e];exact z2⟩
  ·intro hno
   have hjq:j<q.length:=by omega
   obtain ⟨a,b,c⟩:=h.at hj
   have eg:q.getD j ([],0)=q[j]:=by rw [List.getD_eq_getElem?_getD,List.getElem?_eq_getElem hjq];rfl
   obtain ⟨a1,a2⟩:=a.at (i:=i) (by omega)
   have hsg:=cY a1
   have e1:(rdT (t:=aj) l (j:Int):bE).2.2.1=(q.getD j ([],0)).2:=a.2.2
   by_cases c0:(q.getD j ([],0)).2=0∧ce (q.getD j ([],0)) i≠0
   ·obtain ⟨s,s1,s2⟩:=ve h hn hi hn2 (by omega) hL hs hj c0.2
    have sl:s.length≤l.length:=by
     have h2:=oi (n:=n) (i:=i) (k:=j) (piv:=q.getD j ([],0)) q 0
     rw [s2.1];unfold iq;omega
    obtain ⟨z,z1,z2⟩:=ry s2 hn (by omega) hL hK2
    have e:dO n q i=eV n (iq n q j i):=by
     unfold dO
     rw [uQ q 0 j hno hjq (by rw [← eg];exact c0),Nat.zero_add]
    refine ⟨z,Ev2.step (fun k m=>aB.aO k m _ _ _ _ _) (Ev2.bT (decide_eq_true (by omega)) (Ev2.iT (by omega) (Ev2.bind (a:=true) (bT (by rw [e1,c0.1];rfl) (iT (by omega) (Ev.bind hsg (by rw [qq,decide_eq_true c0.2];exact evs _)))) (Ev2.bT rfl (Ev2.of (Ev.bind s1 (Ev.bind z1 (evs _)))))))),by rw [e];exact z2⟩
   ·obtain ⟨z,z1,z2⟩:=ih (fun m hm hmq=>by
     by_cases e:m=j
     ·subst e;rw [← eg];exact c0
     ·exact hno m (by omega) hmq)
    have ht:Ev (fun k=>bif (rdT (t:=aj) l (j:Int):bE).2.2.1==(0:Int) then if 0≤(i:Int)∧(i:Int)<(List.length ((rdT (t:=aj) l (j:Int):bE).1):Int) then (dD k (rdT (t:=ah) ((rdT (t:=aj) l (j:Int):bE).1) (i:Int):aA)).bind fun (v1:Int)=>some (v1 != (0:Int)) else none else some false) false:=by
     rw [e1]
     by_cases r0:(q.getD j ([],0)).2=0
     ·refine bT (by rw [r0];rfl) (iT (by omega) (Ev.bind hsg ?_))
      rw [qq,decide_eq_false (fun h=>c0 ⟨r0,h⟩)];exact evs _
     ·exact bF (by rw [beq_eq_false_iff_ne];exact r0) (evs _)
    refine ⟨z,Ev2.step (fun k m=>aB.aO k m _ _ _ _ _) (Ev2.bT (decide_eq_true (by omega)) (Ev2.iT (by omega) (Ev2.bind ht (Ev2.bF rfl ?_)))),z2⟩
    rw [ic (by omega)];exact z1
 obtain ⟨z,z1,z2⟩:=key 0 (by omega) (fun m hm=>by omega)
 exact ⟨z,Ev.step (fun k=>nY k l _) z1.diag,z2⟩
theorem ra (h:RRs K n L l q) (hn:n+1≤L) (hl:l.length<1000000000) (hL:L<1000000) (hK:K<400000000) :
 (∃ v,Ev (fun k=>aZ k l) (v,false,())∧∀ r,r∈q→dW n r=false)∨∃ v r,Ev (fun k=>aZ k l) (v,true,())∧qK K n v r∧r∈q∧r.1.length=L∧dW n r=true:=by
 have key:∀ j,j≤l.length→(∀ m,m<j→∀ h:m<q.length,dW n q[m]=false) →
  (∃ v,Ev2 (fun k m=>aZ.l0 k m l (l.length:Int) (j:Int) ([],(0:Int),(0:Int),())) (v,false,())∧∀ r,r∈q→dW n r=false)∨∃ v r,Ev2 (fun k m=>aZ.l0 k m l (l.length:Int) (j:Int) ([],(0:Int),(0:Int),())) (v,true,())∧qK K n v r∧r∈q∧r.1.length=L∧dW n r=true:=by
  refine dn ?_ (fun j hj ih=>?_)
  ·intro hno
   refine .inl ⟨_,Ev2.step (fun k m=>aZ.aO k m _ _ _ _) (Ev2.bF (decide_eq_false (by omega)) (Ev2.of (evs _))),fun r hr=>?_⟩
   obtain ⟨m,hm,rfl⟩:=List.getElem_of_mem hr
   exact hno m (by rw [h.1];exact hm) hm
  ·intro hno
   have hjq:j<q.length:=by rw [← h.1];exact hj
   obtain ⟨a,b,c⟩:=h.at hj
   have eg:q.getD j ([],0)=q[j]:=by rw [List.getD_eq_getElem?_getD,List.getElem?_eq_getElem hjq];rfl
   have hc:=nG a (by omega) (by omega) (by omega)
   cases e:dW n (q.getD j ([],0)) with
   | true =>
    rw [e] at hc
    exact .inr ⟨_,q.getD j ([],0),Ev2.step (fun k m=>aZ.aO k m _ _ _ _) (Ev2.bT (decide_eq_true (by omega)) (Ev2.iT (by omega) (Ev2.bind hc (Ev2.bT rfl (Ev2.of (evs _)))))),a,by rw [eg];exact List.getElem_mem _,b,e⟩
   | false =>
    rw [e] at hc
    have step:∀ z,Ev2 (fun k m=>aZ.l0 k m l (l.length:Int) ((j+1:Nat):Int) ([],(0:Int),(0:Int),())) z→Ev2 (fun k m=>aZ.l0 k m l (l.length:Int) (j:Int) ([],(0:Int),(0:Int),())) z:=fun z hz=>by
     refine Ev2.step (fun k m=>aZ.aO k m _ _ _ _) (Ev2.bT (decide_eq_true (by omega)) (Ev2.iT (by omega) (Ev2.bind hc (Ev2.bF rfl ?_))))
     rw [ic (by omega)];exact hz
    rcases ih (fun m hm hmq=>by
     by_cases e':m=j
     ·subst e';rw [← eg];exact e
     ·exact hno m (by omega) hmq) with ⟨v,v1,v2⟩ | ⟨v,r,v1,v2⟩
    ·exact .inl ⟨v,step _ v1,v2⟩
    ·exact .inr ⟨v,r,step _ v1,v2⟩
 rcases key 0 (by omega) (fun m hm=>by omega) with ⟨v,v1,v2⟩ | ⟨v,r,v1,v2⟩
 ·exact .inl ⟨v,Ev.step (fun k=>gX k l) v1.diag,v2⟩
 ·exact .inr ⟨v,r,Ev.step (fun k=>gX k l) v1.diag,v2⟩
end
end Go.Proofs.YtjimdhlmeebjeaaGreat.Q
end
section
namespace Go.Proofs.YtjimdhlmeebjeaaGreat.Q
open Go.RowKit Go.Proofs.YtjimdhlmeebjeaaGreatW.PrintWords Go.Proofs.YtjimdhlmeebjeaaGreatW.PrintMore Go.Proofs.YtjimdhlmeebjeaaGreat.V Go.Proofs.YtjimdhlmeebjeaaGreat.E
open Go.Proofs.YtjimdhlmeebjeaaGreat.P (Dg Nm vl WW RR bS gI evs evk evb fv aM aY bj w64 u64)
open Go.Proofs.YtjimdhlmeebjeaaGreat.F (cx ce Bd cN pY bdC kg Fe)
set_option linter.unusedVariables false
theorem ux {a:Int} (h0:-1000000000≤a) (h1:a≤1000000000):∃ r,Ev (fun k=>sR k a) r∧RB WW r (a:Rat)∧Sz WW 1 (a:Rat):=by
 have fin:∀ r,RB WW r (a:Rat)→Sz WW 1 (a:Rat):=fun r hr=>by
  refine ⟨?_,?_⟩
  ·rw [Rat.num_intCast,Int.pow_one,P.dx];omega
  ·rw [Rat.den_intCast,Int.pow_one,P.dx];decide
 by_cases c:a<0
 ·obtain ⟨l,l1,l2⟩:=P.fy (a:=-a) (by omega) (by omega)
  obtain ⟨r,r1,r2⟩:=fw (s:=true) (m:=1) (b:=[1]) (by
   have:=l2.fm aY (k:=1) (by rw [Int.pow_one,P.dx];omega)
   omega) (by simp) l2 (zu aY) (by omega)
  have e:Rat.divInt (sg true (-a)) 1=(a:Rat):=by rw [kx];congr 1;simp [sg]
  rw [e] at r2
  refine ⟨r,Ev.step (fun k=>pO k a) (bT (decide_eq_true c) ?_),r2,fin r r2⟩
  have e2:wrap64 (a+1)=a+1:=w64 (by omega) (by omega)
  have e3:wrap64 (-(a+1)) = -(a+1):=w64 (by omega) (by omega)
  have e4:IntKind.u64.wrap (-(a+1)) = -(a+1):=u64 (by omega) (by omega)
  have e5:IntKind.u64.wrap (-(a+1)+1) = -a:=by rw [u64 (by omega) (by omega)];omega
  rw [e2,e3,e4,e5]
  exact Ev.bind (Ev.step (fun k=>nU k _) l1) (Ev.bind r1 (evs _))
 ·obtain ⟨l,l1,l2⟩:=P.fy (a:=a) (by omega) (by omega)
  obtain ⟨r,r1,r2⟩:=fw (s:=false) (m:=1) (b:=[1]) (by
   have:=l2.fm aY (k:=1) (by rw [Int.pow_one,P.dx];omega)
   omega) (by simp) l2 (zu aY) (by omega)
  have e:Rat.divInt (sg false a) 1=(a:Rat):=by rw [kx];rfl
  rw [e] at r2
  refine ⟨r,Ev.step (fun k=>pO k a) (bF (decide_eq_false c) ?_),r2,fin r r2⟩
  rw [u64 (by omega) (by omega)]
  exact Ev.bind (Ev.step (fun k=>nU k _) l1) (Ev.bind r1 (evs _))
theorem Frac_sp:∃ r,Ev (fun k=>vF k (1:Int) (4:Int)) r∧RB WW r (1 / 4)∧Sz WW 2 (1 / 4):=by
 obtain ⟨a,a1,a2,a3⟩:=ux (a:=1) (by decide) (by decide)
 obtain ⟨b,b1,b2,b3⟩:=ux (a:=4) (by decide) (by decide)
 obtain ⟨c,c1,c2,c3⟩:=kj a2 b2 a3 b3 (by decide) (by decide)
 have e:((1:Int):Rat) / ((4:Int):Rat)=1 / 4:=by simp
 rw [e] at c2 c3
 exact ⟨c,Ev.step (fun k=>yS k _ _) (Ev.bind a1 (Ev.bind b1 (Ev.bind c1 (evs _)))),c2,c3⟩
def BB (K:Nat) (v:cZ) (b:Bd):Prop:=v.2.2.1=b.hasLo∧v.2.2.2.1=b.hasHi∧v.2.2.2.2.1=b.openLo∧v.2.2.2.2.2.1=b.openHi∧(b.hasLo=true→RB WW v.1 b.lo∧Sz WW K b.lo)∧(b.hasHi=true→RB WW v.2.1 b.hi∧Sz WW K b.hi)
section
variable {K:Nat} {v:cZ} {b:Bd} {w:aA} {x:Rat}
theorem Be (h:BB K v b) (hw:RB WW w x) (hx:Sz WW K x) (o:Bool) (hK:K<500000000) (sign:Int) (hs:0<sign):∃ v',Ev (fun k=>aX k v w sign o) ((),v')∧BB K v' (b.lM x o):=by
 obtain ⟨lo,hi,hl,hh,ol,oh⟩:=b
 obtain ⟨v1,v2,v3,v4,v5,v6,_⟩:=v
 obtain ⟨h1,h2,h3,h4,h5,h6⟩:=h
 simp only at h1 h2 h3 h4 h5 h6
 subst h1 h2 h3 h4
 cases v4 with
 | false =>
  refine ⟨(v1,w,v3,true,v5,o,()),Ev.step (fun k=>cT k _ _ _ _) (bT (decide_eq_true hs) (bF rfl ?_)),?_⟩
  ·show Ev (fun k=>aX.j0 k o (-1) (v1,v2,v3,false,v5,v6,()) w) _
   refine bT rfl ?_
   cases o<;>exact evs _
  ·exact ⟨rfl,rfl,rfl,rfl,h5,fun _=>⟨hw,hx⟩⟩
 | true =>
  obtain ⟨g1,g2⟩:=h6 rfl
  have hc:=fG hw g1 hx g2 (by omega)
  rcases gb x hi with ⟨e,hlt⟩ | ⟨e,heq⟩ | ⟨e,hgt⟩
  ·rw [e] at hc
   refine ⟨(v1,w,v3,true,v5,o,()),Ev.step (fun k=>cT k _ _ _ _) (bT (decide_eq_true hs) (bT rfl (Ev.bind hc ?_))),?_⟩
   ·show Ev (fun k=>aX.j0 k o (-1) (v1,v2,v3,true,v5,v6,()) w) _
    refine bT rfl ?_
    cases o<;>exact evs _
   ·unfold Bd.lM
    rw [if_pos (.inr hlt)]
    exact ⟨rfl,rfl,rfl,rfl,h5,fun _=>⟨hw,hx⟩⟩
  ·rw [e] at hc
   refine ⟨(v1,v2,v3,true,v5,v6||o,()),Ev.step (fun k=>cT k _ _ _ _) (bT (decide_eq_true hs) (bT rfl (Ev.bind hc ?_))),?_⟩
   ·show Ev (fun k=>aX.j0 k o 0 (v1,v2,v3,true,v5,v6,()) w) _
    refine bF rfl ?_
    cases v6<;>cases o<;>exact evs _
   ·unfold Bd.lM
    rw [if_neg (by simp [heq,Rat.lt_irrefl]),if_pos heq]
    exact ⟨rfl,rfl,rfl,rfl,h5,h6⟩
  ·rw [e] at hc
   have n1:¬ x<hi:=Rat.not_lt.2 (Rat.le_of_lt hgt)
   have n2:¬ x=hi:=fun e=>by rw [e] at hgt;exact absurd hgt Rat.lt_irrefl
   refine ⟨(v1,v2,v3,true,v5,v6,()),Ev.step (fun k=>cT k _ _ _ _) (bT (decide_eq_true hs) (bT rfl (Ev.bind hc ?_))),?_⟩
   ·show Ev (fun k=>aX.j0 k o 1 (v1,v2,v3,true,v5,v6,()) w) _
    refine bF rfl ?_
    cases v6<;>cases o<;>exact evs _
   ·unfold Bd.lM
    rw [if_neg (by simp [n1]),if_neg n2]
    exact ⟨rfl,rfl,rfl,rfl,h5,h6⟩
theorem Bc (h:BB K v b) (hw:RB WW w x) (hx:Sz WW K x) (o:Bool) (hK:K<500000000) (sign:Int) (hs:¬ 0<sign):∃ v',Ev (fun k=>aX k v w sign o) ((),v')∧BB K v' (b.lL x o):=by
 obtain ⟨lo,hi,hl,hh,ol,oh⟩:=b
 obtain ⟨v1,v2,v3,v4,v5,v6,_⟩:=v
 obtain ⟨h1,h2,h3,h4,h5,h6⟩:=h
 simp only at h1 h2 h3 h4 h5 h6
 subst h1 h2 h3 h4
 cases v3 with
 | false =>
  refine ⟨(w,v2,true,v4,o,v6,()),Ev.step (fun k=>cT k _ _ _ _) (bF (decide_eq_false hs) (bF rfl ?_)),?_⟩
  ·show Ev (fun k=>aX.j1 k o 1 (v1,v2,false,v4,v5,v6,()) w) _
   refine bT rfl ?_
   cases o<;>exact evs _
  ·exact ⟨rfl,rfl,rfl,rfl,fun _=>⟨hw,hx⟩,h6⟩
 | true =>
  obtain ⟨g1,g2⟩:=h5 rfl
  have hc:=fG hw g1 hx g2 (by omega)
  rcases gb x lo with ⟨e,hlt⟩ | ⟨e,heq⟩ | ⟨e,hgt⟩
  ·rw [e] at hc
   have n1:¬ lo<x:=Rat.not_lt.2 (Rat.le_of_lt hlt)
   have n2:¬ x=lo:=fun e=>by rw [e] at hlt;exact absurd hlt Rat.lt_irrefl
   refine ⟨(v1,v2,true,v4,v5,v6,()),Ev.step (fun k=>cT k _ _ _ _) (bF (decide_eq_false hs) (bT rfl (Ev.bind hc ?_))),?_⟩
   ·show Ev (fun k=>aX.j1 k o (-1) (v1,v2,true,v4,v5,v6,()) w) _
    refine bF rfl ?_
    cases v5<;>cases o<;>exact evs _
   ·unfold Bd.lL
    rw [if_neg (by simp [n1]),if_neg n2]
    exact ⟨rfl,rfl,rfl,rfl,h5,h6⟩
  ·rw [e] at hc
   refine ⟨(v1,v2,true,v4,v5||o,v6,()),Ev.step (fun k=>cT k _ _ _ _) (bF (decide_eq_false hs) (bT rfl (Ev.bind hc ?_))),?_⟩
   ·show Ev (fun k=>aX.j1 k o 0 (v1,v2,true,v4,v5,v6,()) w) _
    refine bF rfl ?_
    cases v5<;>cases o<;>exact evs _
   ·unfold Bd.lL
    rw [if_neg (by simp [heq,Rat.lt_irrefl]),if_pos heq]
    exact ⟨rfl,rfl,rfl,rfl,h5,h6⟩
  ·rw [e] at hc
   refine ⟨(w,v2,true,v4,o,v6,()),Ev.step (fun k=>cT k _ _ _ _) (bF (decide_eq_false hs) (bT rfl (Ev.bind hc ?_))),?_⟩
   ·show Ev (fun k=>aX.j1 k o 1 (v1,v2,true,v4,v5,v6,()) w) _
    refine bT rfl ?_
    cases o<;>exact evs _
   ·unfold Bd.lL
    rw [if_pos (.inr hgt)]
    exact ⟨rfl,rfl,rfl,rfl,fun _=>⟨hw,hx⟩,h6⟩
theorem min_sp {a c:aA} {p q:Rat} {J L:Nat} (ha:RB WW a p) (hc:RB WW c q) (hp:Sz WW J p) (hq:Sz WW L q) (h:J+L<1073741824):∃ r,Ev (fun k=>yQ k a c) r∧RB WW r (if p≤q then p else q):=by
 have hcm:=fG ha hc hp hq h
 by_cases e:p≤q
 ·rw [if_pos e]
  exact ⟨a,Ev.step (fun k=>uv k _ _) (Ev.bind hcm (bT (by rw [EM];exact decide_eq_true e) (evs _))),ha⟩
 ·rw [if_neg e]
  exact ⟨c,Ev.step (fun k=>uv k _ _) (Ev.bind hcm (bF (by rw [EM];exact decide_eq_false e) (evs _))),hc⟩
theorem EN (p q:Rat):decide (pc p q≥0)=decide (q≤p):=by
 rcases gb p q with ⟨e,h⟩ | ⟨e,h⟩ | ⟨e,h⟩
 ·rw [e,decide_eq_false (Rat.not_le.2 h)];rfl
 ·rw [e,decide_eq_true (show q≤p by rw [h];exact Rat.le_refl)];rfl
 ·rw [e,decide_eq_true (Rat.le_of_lt h)];rfl
theorem max_sp {a c:aA} {p q:Rat} {J L:Nat} (ha:RB WW a p) (hc:RB WW c q) (hp:Sz WW J p) (hq:Sz WW L q) (h:J+L<1073741824):∃ r,Ev (fun k=>yR k a c) r∧RB WW r (if q≤p then p else q):=by
 have hcm:=fG ha hc hp hq h
 by_cases e:q≤p
 ·rw [if_pos e]
  exact ⟨a,Ev.step (fun k=>uw k _ _) (Ev.bind hcm (bT (by rw [EN];exact decide_eq_true e) (evs _))),ha⟩
 ·rw [if_neg e]
  exact ⟨c,Ev.step (fun k=>uw k _ _) (Ev.bind hcm (bF (by rw [EN];exact decide_eq_false e) (evs _))),hc⟩
theorem pick_sp (h:BB K v b) (hok:b.ok) {J:Nat} (hJ:J≤1000) (hJ1:1≤J) (zl:b.hasLo=true→Sz WW J b.lo) (zh:b.hasHi=true→Sz WW J b.hi):∃ w y,Ev (fun k=>gY k v) (w,v)∧RB WW w y∧Fe b y:=by
 obtain ⟨lo,hi,hl,hh,ol,oh⟩:=b
 obtain ⟨v1,v2,v3,v4,v5,v6,_⟩:=v
 obtain ⟨h1,h2,h3,h4,h5,h6⟩:=h
 simp only at h1 h2 h3 h4 h5 h6 zl zh
 subst h1 h2 h3 h4
 unfold Fe
 simp only
 cases v3 with
 | false =>
  cases v4 with
  | false=>exact ⟨_,0,Ev.step (fun k=>dQ k _) (Ev.bind (a:=true) (bT rfl (evs _)) (bT rfl (Ev.bind eE (evs _)))),gj aY,by simp⟩
  | true =>
   obtain ⟨f,f1,f2,f3⟩:=l5 (h6 rfl).1 (zh rfl) (by omega)
   obtain ⟨g,g1,g2,g3⟩:=jv f2 (oF aY) f3 (tX aY (Nat.le_refl 1)) (by omega)
   obtain ⟨m,m1,m2⟩:=min_sp (gj aY) g2 (kE aY) g3 (by omega)
   exact ⟨m,_,Ev.step (fun k=>dQ k _) (Ev.bind (a:=false) (bT rfl (evs _)) (bF rfl (bT rfl (Ev.bind eE (Ev.bind f1 (Ev.bind gM (Ev.bind g1 (Ev.bind m1 (evs _))))))))),m2,by simp⟩
 | true =>
  cases v4 with
  | false =>
   obtain ⟨f,f1,f2,f3⟩:=l5 (h5 rfl).1 (zl rfl) (by omega)
   obtain ⟨g,g1,g2,g3⟩:=gN f2 (oF aY) f3 (tX aY (Nat.le_refl 1)) (by omega)
   obtain ⟨m,m1,m2⟩:=max_sp (gj aY) g2 (kE aY) g3 (by omega)
   exact ⟨m,_,Ev.step (fun k=>dQ k _) (Ev.bind (a:=false) (bF rfl (evs _)) (bF rfl (bF rfl (bT rfl (Ev.bind eE (Ev.bind f1 (Ev.bind gM (Ev.bind g1 (Ev.bind m1 (evs _)))))))))),m2,by simp⟩
  | true =>
   have he:=l7 (h5 rfl).1 (h6 rfl).1 (zl rfl) (zh rfl) (by omega)
   by_cases c:lo=hi
   ·refine ⟨v1,lo,Ev.step (fun k=>dQ k _) (Ev.bind (a:=false) (bF rfl (evs _)) (bF rfl (bF rfl (bF rfl (Ev.bind he (bT (decide_eq_true c) (evs _))))))),(h5 rfl).1,by simp [c]⟩
   ·have hlt:lo<hi:=by
     have:=hok rfl rfl
     simp only at this
     rcases this with h | ⟨h,_⟩
     ·exact h
     ·exact absurd h c
    obtain ⟨d,d1,d2,d3⟩:=jv (h6 rfl).1 (h5 rfl).1 (zh rfl) (zl rfl) (by omega)
    obtain ⟨f,f1,f2,f3⟩:=Frac_sp
    obtain ⟨m,m1,m2,m3⟩:=fF d2 f2 d3 f3 (by omega)
    obtain ⟨s,s1,s2,s3⟩:=gN (h5 rfl).1 m2 (zl rfl) m3 (by omega)
    obtain ⟨t,t1,t2,t3⟩:=jv (h6 rfl).1 m2 (zh rfl) m3 (by omega)
    obtain ⟨r,y,r1,r2,r3,r4⟩:=se s2 t2 s3 t3 (by grind) (by omega) (by omega)
    exact ⟨r,y,Ev.step (fun k=>dQ k _) (Ev.bind (a:=false) (bF rfl (evs _)) (bF rfl (bF rfl (bF rfl (Ev.bind he (bF (decide_eq_false c) (Ev.bind d1 (Ev.bind f1 (Ev.bind m1 (Ev.bind s1 (Ev.bind t1 (Ev.bind r1 (bF rfl (evs _)))))))))))))),r2,by simpa [c] using r4⟩
end
end Go.Proofs.YtjimdhlmeebjeaaGreat.Q
end
section
namespace Go.Proofs.YtjimdhlmeebjeaaGreat.Q
open Go.RowKit Go.Proofs.YtjimdhlmeebjeaaGreatW.PrintWords Go.Proofs.YtjimdhlmeebjeaaGreatW.PrintMore Go.Proofs.YtjimdhlmeebjeaaGreat.V Go.Proofs.YtjimdhlmeebjeaaGreat.E
open Go.Proofs.YtjimdhlmeebjeaaGreat.P (Dg Nm vl WW RR bS gI evs evk evb fv aM aY bj w64 u64)
open Go.Proofs.YtjimdhlmeebjeaaGreat.F (cx ce Bd cN pY bdC kg Fe)
set_option linter.unusedVariables false
theorem D5 {K n L i Kp:Nat} {l:List bE} {q:List cx} (h:RRs K n L l q) (hn:n+1≤L) (hi:i<n) (hn2:n≤900) (hl:l.length<1000000000) (hL:L<1000000) {rl:List aA} {p:Nat→Rat} (hrl:n≤rl.length) (hrl2:rl.length<1000000)
 (hp:∀ k,i<k→k<n→RB WW (rdT (t:=ah) rl (k:Int):aA) (p k)∧Sz WW Kp (p k)) (hs:2*K+n*(K+Kp+1)<100000000) :
 ∃ v,Ev (fun k=>bo k l (i:Int) rl) (v,rl)∧BB (2*K+n*(K+Kp+1)) v (pY (bdC n i p) i q):=by
 have hKp:K+Kp+1<100000000:=by
  have:=Nat.mul_le_mul_right (K+Kp+1) (show 1≤n by omega)
  omega
 generalize hZ:((false,[],[],()),(false,[],[],()),false,false,false,false,())=Z
 have key:∀ j,j≤l.length→∀ v,BB (2*K+n*(K+Kp+1)) v ((q.take j).foldl (cN (bdC n i p) i) Bd.none)→∃ v',Ev2 (fun k m=>bo.l0 k m (i:Int) l (l.length:Int) (j:Int) rl Z v) (v',rl)∧BB (2*K+n*(K+Kp+1)) v' (pY (bdC n i p) i q):=by
  refine dn ?_ (fun j hj ih=>?_)
  ·intro v hv
   rw [h.1,List.take_length] at hv
   exact ⟨v,Ev2.step (fun k m=>bo.aO k m _ _ _ _ _ _ _) (Ev2.bF (decide_eq_false (by omega)) (Ev2.of (evs _))),hv⟩
  ·intro v hv
   have hjq:j<q.length:=by rw [← h.1];exact hj
   obtain ⟨a,b,c⟩:=h.at hj
   have et:(q.take (j+1)).foldl (cN (bdC n i p) i) Bd.none=cN (bdC n i p) i ((q.take j).foldl (cN (bdC n i p) i) Bd.none) (q.getD j ([],0)):=by
    rw [oz hjq,List.foldl_append];rfl
   rw [et] at ih
   generalize hb:(q.take j).foldl (cN (bdC n i p) i) Bd.none=bb at hv ih
   generalize hr:q.getD j ([],0)=r at a b ih
   generalize hw:(rdT (t:=aj) l (j:Int):bE)=w at a c
   obtain ⟨a1,a2⟩:=a.at (i:=i) (by omega)
   have hsg:=cY a1
   have fin:∀ v',BB (2*K+n*(K+Kp+1)) v' (cN (bdC n i p) i bb r)→∃ v'',Ev2 (fun k m=>bo.j0 k m (i:Int) l (l.length:Int) (j:Int) rl Z v') (v'',rl)∧BB (2*K+n*(K+Kp+1)) v'' (pY (bdC n i p) i q):=by
    intro v' hv'
    obtain ⟨z,z1,z2⟩:=ih v' hv'
    refine ⟨z,?_,z2⟩
    show Ev2 (fun k m=>bo.l0 k m (i:Int) l (l.length:Int) (wrap64 ((j:Int)+1)) rl Z v') (z,rl)
    rw [ic (by omega)];exact z1
   by_cases c0:ce r i=0
   ·have es:cN (bdC n i p) i bb r=bb:=by unfold cN;rw [if_pos c0]
    obtain ⟨z,z1,z2⟩:=fin v (by rw [es];exact hv)
    refine ⟨z,Ev2.step (fun k m=>bo.aO k m _ _ _ _ _ _ _) (Ev2.bT (decide_eq_true (by omega)) (Ev2.iT (by omega) ?_)),z2⟩
    rw [hw]
    exact Ev2.iT (by omega) (Ev2.bind hsg (Ev2.bT (by rw [wO];exact decide_eq_true c0) z1))
   ·obtain ⟨k1,k2⟩:=a.at (i:=n) (by omega)
    have key2:∀ m,m≤n-(i+1)→∀ u,RB WW u (kg n i p r m)→Sz WW (K+m*(K+Kp+1)) (kg n i p r m)→∃ z,Ev3 (fun k m1 m0=>bo.l1 k m1 m0 (i:Int) ((i+1+m:Nat):Int) l (l.length:Int) (j:Int) rl Z v w (rdT (t:=ah) w.1 (i:Int):aA) u) (z,rl)∧BB (2*K+n*(K+Kp+1)) z (pY (bdC n i p) i q):=by
     refine dn ?_ (fun m hm ih2=>?_)
     ·intro u hu hz
      obtain ⟨d,d1,d2,d3⟩:=kj hu a1 hz a2 c0 (by
       have:=Nat.mul_le_mul_right (K+Kp+1) (show n-(i+1)≤n by omega)
       omega)
      have ed:kg n i p r (n-(i+1)) / ce r i=bdC n i p r:=rfl
      rw [ed] at d2 d3
      have d4:Sz WW (2*K+n*(K+Kp+1)) (bdC n i p r):=fa aM d3 (by
       have:=Nat.mul_le_mul_right (K+Kp+1) (show n-(i+1)≤n by omega)
       omega)
      have e1:w.2.2.1=r.2:=a.2.2
      by_cases c1:r.2=0
      ·obtain ⟨v1,x1,y1⟩:=Be hv d2 d4 false (by omega) 1 (by decide)
       obtain ⟨v2,x2,y2⟩:=Bc y1 d2 d4 false (by omega) (-1) (by decide)
       have es:cN (bdC n i p) i bb r=(bb.lM (bdC n i p r) false).lL (bdC n i p r) false:=by unfold cN;rw [if_neg c0,if_pos c1]
       obtain ⟨z,z1,z2⟩:=fin v2 (by rw [es];exact y2)
       exact ⟨z,Ev3.step (fun k m n=>bo.bZ k m n _ _ _ _ _ _ _ _ _ _ _) (Ev3.bF (decide_eq_false (by rw [a.2.1];omega)) (Ev3.bind d1 (Ev3.bT (by rw [e1,c1];rfl) (Ev3.bind x1 (Ev3.bind x2 (Ev3.of z1)))))),z2⟩
      ·have eb:(w.2.2.1==(2:Int))=decide (r.2=2):=by rw [e1];by_cases c:r.2=2<;>simp [c]
       rcases fh (ce r i) with ⟨es,hc⟩ | ⟨es,hc⟩ | ⟨es,hc⟩
       ·rw [es] at hsg
        obtain ⟨v1,x1,y1⟩:=Bc hv d2 d4 (decide (r.2=2)) (by omega) (-1) (by decide)
        have el:cN (bdC n i p) i bb r=bb.lL (bdC n i p r) (decide (r.2=2)):=by unfold cN;rw [if_neg c0,if_neg c1,if_neg (Rat.not_lt.2 (Rat.le_of_lt hc))]
        obtain ⟨z,z1,z2⟩:=fin v1 (by rw [el];exact y1)
        refine ⟨z,Ev3.step (fun k m n=>bo.bZ k m n _ _ _ _ _ _ _ _ _ _ _) (Ev3.bF (decide_eq_false (by rw [a.2.1];omega)) (Ev3.bind d1 (Ev3.bF (by rw [e1];simpa using c1) (Ev3.bind hsg ?_)))),z2⟩
        rw [eb]
        exact Ev3.bind x1 (Ev3.of z1)
       ·exact absurd hc c0
       ·rw [es] at hsg
        obtain ⟨v1,x1,y1⟩:=Be hv d2 d4 (decide (r.2=2)) (by omega) 1 (by decide)
        have el:cN (bdC n i p) i bb r=bb.lM (bdC n i p r) (decide (r.2=2)):=by unfold cN;rw [if_neg c0,if_neg c1,if_pos hc]
        obtain ⟨z,z1,z2⟩:=fin v1 (by rw [el];exact y1)
        refine ⟨z,Ev3.step (fun k m n=>bo.bZ k m n _ _ _ _ _ _ _ _ _ _ _) (Ev3.bF (decide_eq_false (by rw [a.2.1];omega)) (Ev3.bind d1 (Ev3.bF (by rw [e1];simpa using c1) (Ev3.bind hsg ?_)))),z2⟩
        rw [eb]
        exact Ev3.bind x1 (Ev3.of z1)
     ·intro u hu hz
      obtain ⟨b1,b2⟩:=a.at (i:=i+1+m) (by omega)
      obtain ⟨g1,g2⟩:=hp (i+1+m) (by omega) (by omega)
      have hmK:=Nat.mul_le_mul_right (K+Kp+1) (show m≤n by omega)
      obtain ⟨s,s1,s2,s3⟩:=fF b1 g1 b2 g2 (by omega)
      obtain ⟨t,t1,t2,t3⟩:=jv hu s2 hz s3 (by omega)
      have er:kg n i p r m-ce r (i+1+m)*p (i+1+m)=kg n i p r (m+1):=rfl
      rw [er] at t2 t3
      obtain ⟨z,z1,z2⟩:=ih2 t t2 (fa aM t3 (by rw [Nat.succ_mul];omega))
      refine ⟨z,Ev3.step (fun k m n=>bo.bZ k m n _ _ _ _ _ _ _ _ _ _ _) (Ev3.bT (decide_eq_true (by rw [a.2.1];omega)) (Ev3.iT (by omega) (Ev3.iT (by omega) (Ev3.bind s1 (Ev3.bind t1 ?_))))),z2⟩
      rw [ic (by omega)];exact z1
    obtain ⟨z,z1,z2⟩:=key2 0 (by omega) _ k1 (by simpa [kg] using k2)
    refine ⟨z,Ev2.step (fun k m=>bo.aO k m _ _ _ _ _ _ _) (Ev2.bT (decide_eq_true (by omega)) (Ev2.iT (by omega) ?_)),z2⟩
    rw [hw]
    refine Ev2.iT (by omega) (Ev2.bind hsg (Ev2.bF (by rw [wO];exact decide_eq_false c0) (Ev2.bind (ga a (by omega) (by omega)) ?_)))
    rw [ic (by omega)]
    exact z1.diag
 obtain ⟨v,v1,v2⟩:=key 0 (by omega) Z (by
  rw [← hZ]
  exact ⟨rfl,rfl,rfl,rfl,fun e=>by simp [Bd.none] at e,fun e=>by simp [Bd.none] at e⟩)
 refine ⟨v,Ev.step (fun k=>qV k l _ rl) ?_,v2⟩
 rw [hZ]
 exact v1.diag
end Go.Proofs.YtjimdhlmeebjeaaGreat.Q
end
section
namespace Go.Proofs.YtjimdhlmeebjeaaGreat.Q
open Go.RowKit Go.Proofs.YtjimdhlmeebjeaaGreatW.PrintWords Go.Proofs.YtjimdhlmeebjeaaGreatW.PrintMore Go.Proofs.YtjimdhlmeebjeaaGreat.V Go.Proofs.YtjimdhlmeebjeaaGreat.E
open Go.Proofs.YtjimdhlmeebjeaaGreat.P (Dg Nm vl WW RR bS gI evs evk evb fv aM aY bj w64 u64)
open Go.Proofs.YtjimdhlmeebjeaaGreat.F (cx ce dW eV tM dO fU Bd pY bdC Fe rlf MB GB UB PB XB DB PtOK yx gd ND upd)
set_option linter.unusedVariables false
def KS (K n:Nat):Nat→Nat
 | 0=>K+(K*(n+2)+1)
 | t+1=>(4*KS K n t+2)*(n+3)+1
def LS:Nat→Nat
 | 0=>10
 | t+1=>LS t+LS t*LS t
def BK (K:Nat):Nat:=4294967296 ^ K
def yd (K n Lm:Nat):Prop :=
 (∀ t,t<n+1→KS K n t≤1000000) ∧
 (∀ t,t<n+1→(UB (BK K) (BK K) n t+GB (BK K) (BK K) n t)*(BK K*BK K ^ (n+1)*BK K*BK K ^ Lm)<4294967296 ^ 200) ∧
 (∀ j,j<n+1→XB (BK K) (BK K) n j*DB (BK K) (BK K) n j<4294967296 ^ 200∧DB (BK K) (BK K) n j<4294967296 ^ 200) ∧
 (∀ j,j<n→(MB (BK K) (BK K) n (n-1-j)+n*(MB (BK K) (BK K) n (n-1-j)*XB (BK K) (BK K) n j))*(MB (BK K) (BK K) n (n-1-j)*PB (BK K) (BK K) n j)<4294967296 ^ 1000∧MB (BK K) (BK K) n (n-1-j)*PB (BK K) (BK K) n j<4294967296 ^ 1000)
instance (K n Lm:Nat):Decidable (yd K n Lm):=by unfold yd;infer_instance
theorem rk {x:Rat} {N D J:Nat} (hn:x.num.natAbs≤N) (hd:x.den≤D) (h1:N<4294967296 ^ J) (h2:D<4294967296 ^ J):Sz WW J x:=by
 have e:WW ^ J=((4294967296 ^ J:Nat):Int):=by rw [P.dx,Int.natCast_pow];rfl
 refine ⟨?_,?_⟩<;>rw [e]<;>omega
theorem Ao {x:Rat} {K:Nat} (h:Sz WW K x):ND (BK K) (BK K) x:=by
 have e:WW ^ K=((4294967296 ^ K:Nat):Int):=by rw [P.dx,Int.natCast_pow];rfl
 obtain ⟨h1,h2⟩:=h
 rw [e] at h1 h2
 unfold BK
 exact ⟨by omega,by omega⟩
theorem LS_le {t:Nat} (h:t≤2):LS t≤20000:=by
 rcases (by omega:t=0∨t=1∨t=2) with rfl | rfl | rfl<;>decide
theorem LS_le3 {t:Nat} (h:t≤3):LS t<1000000000:=by
 rcases (by omega:t=0∨t=1∨t=2∨t=3) with rfl | rfl | rfl | rfl<;>decide
theorem kb {n:Nat} {s:List dy} (hs:s.length≤10):∀ t,(F.stg n s t).length≤LS t
 | 0=>by
  have h:=F.gU (n:=n) (tM n s) []
  have e:(tM n s).length=s.length:=by simp [tM]
  unfold F.stg eV
  rw [e,List.length_nil] at h
  unfold LS
  omega
 | t+1=>by
  have ih:=kb (n:=n) hs t
  have h:=uR (n:=n) (i:=t) (q:=F.stg n s t)
  have h2:=Nat.mul_le_mul ih ih
  unfold F.stg LS
  omega
theorem s9 {c:List Rat} {p:Nat→Rat} {q:List Rat}:∀ m,(∀ k,k<m→p k=q.getD k 0)→F.lin c p m=o4 c q m
 | 0,_=>rfl
 | m+1,h=>by
  simp only [F.lin,o4]
  rw [s9 m (fun k hk=>h k (by omega)),h m (by omega)]
section
variable {K n Lm:Nat} {l:List aT} {s:List dy}
def SRs (K n:Nat) (s:List dy) (o:List (List bE)) (j:Nat):Prop:=o.length=j+1∧∀ t,t≤j→RRs (KS K n t) n (n+1+s.length) (rdT (t:=.list aj) o (t:Int):List bE) (F.stg n s t)
theorem Solve_l0 (hn:n≤3) (hl:s.length≤10) (hnum:yd K n Lm) {R:List aA×List aA×Int×Unit→Prop}
 (hc:∀ o,SRs K n s o n→∃ z,Ev2 (fun k m=>aU.l1 k m (n:Int) l (o.length:Int) (0:Int) o) z∧R z) :
 ∀ j,j≤n→∀ o,SRs K n s o j→∃ z,Ev2 (fun k m=>aU.l0 k m (n:Int) l (n:Int) (j:Int) o) z∧R z:=by
 refine dn ?_ (fun j hj ih=>?_)
 ·intro o ho
  obtain ⟨z,z1,z2⟩:=hc o ho
  exact ⟨z,Ev2.step (fun k m=>aU.aO k m _ _ _ _ _) (Ev2.bF (decide_eq_false (by omega)) (Ev2.ofd z1)),z2⟩
 ·intro o ho
  have hr:=ho.2 j (Nat.le_refl _)
  have hk:=hnum.1 j (by omega)
  have hcn:=kb (n:=n) hl j
  have hls:=LS_le (show j≤2 by omega)
  have hrl:=hr.1
  obtain ⟨v,v1,v2⟩:=qF (i:=j) hr (by omega) hj (by omega) (by omega) (by omega) (by
   have:=Nat.mul_le_mul (show 4*KS K n j+3≤4000003 by omega) (show n+3≤6 by omega)
   omega)
  have hol:=ho.1
  obtain ⟨z,z1,z2⟩:=ih (o++[v]) ⟨by simp [hol],fun t ht=>by
   by_cases c:t≤j
   ·have e:(rdT (t:=.list aj) (o++[v]) (t:Int):List bE)=(rdT (t:=.list aj) o (t:Int):List bE):=by
     rw [cB (by simp;omega),cB (by omega),List.getElem_append_left]
    rw [e];exact ho.2 t c
   ·have et:t=j+1:=by omega
    subst et
    have e:(rdT (t:=.list aj) (o++[v]) ((j+1:Nat):Int):List bE)=v:=by
     rw [cB (by simp;omega),List.getElem_append_right (by omega)]
     simp [hol]
    rw [e];exact v2⟩
  refine ⟨z,Ev2.step (fun k m=>aU.aO k m _ _ _ _ _) (Ev2.bT (decide_eq_true (by omega)) (Ev2.iT (by omega) (Ev2.bind v1 (Ev2.iT (by simp;omega) ?_)))),z2⟩
  rw [ic (by omega)];exact z1
theorem Solve_l2 {q:List Rat} {J:Nat} {M0:Nat→Nat} {r:List aA} (h:RLs WW J r q) (hJ:J<1000000000) (hl:r.length<1000000):∃ m,Ev3 (fun k m1 m0=>aU.l2 k m1 m0 (r.length:Int) (0:Int) r) (([]:List aA),m,(0:Int),())∧RLs WW J m (q.map fun x=>-x):=by
 have key:∀ j,j≤r.length→∀ r',RP WW J r' r.length r.length (fun i=>if i<j then -q.getD i 0 else q.getD i 0)→∃ m,Ev3 (fun k m1 m0=>aU.l2 k m1 m0 (r.length:Int) (j:Int) r') (([]:List aA),m,(0:Int),())∧RLs WW J m (q.map fun x=>-x):=by
  refine dn ?_ (fun j hj ih=>?_)
  ·intro r' hr'
   refine ⟨r',Ev3.step (fun k m n=>aU.tf k m n _ _ _) (Ev3.bF (decide_eq_false (by omega)) (Ev3.of (Ev2.of (evs _)))),hr'.rls (by rw [List.length_map,h.1]) (fun i hi=>?_)⟩
   simp only [if_pos hi]
   exact (F.getD_map (f:=fun x=>-x) (by simp) q i).symm
  ·intro r' hr'
   obtain ⟨a1,a2⟩:=hr'.2 j hj
   simp only [if_neg (Nat.lt_irrefl j)] at a1 a2
   obtain ⟨v,v1,v2,v3⟩:=iH a1 a2 (by omega)
   obtain ⟨m,m1,m2⟩:=ih (r'.set j v) ⟨by simp [hr'.1],fun i hi=>by
    rw [Dm (by rw [hr'.1];exact hi)]
    by_cases c:i=j
    ·subst c
     rw [if_pos rfl];dsimp only;rw [if_pos (Nat.lt_succ_self _)];exact ⟨v2,v3⟩
    ·rw [if_neg c]
     have:=hr'.2 i hi
     dsimp only at this ⊢
     by_cases c2:i<j
     ·rw [if_pos c2] at this;rw [if_pos (by omega)];exact this
     ·rw [if_neg c2] at this;rw [if_neg (by omega)];exact this⟩
   have hl':=hr'.1
   refine ⟨m,Ev3.step (fun k m n=>aU.tf k m n _ _ _) (Ev3.bT (decide_eq_true (by omega)) (Ev3.iT (by omega) (Ev3.bind v1 (Ev3.iT (by omega) ?_)))),m2⟩
   rw [ic (by omega),Int.toNat_natCast];exact m1
 exact key 0 (by omega) r ⟨rfl,fun i hi=>by simp only [Nat.not_lt_zero,if_false];exact h.at hi⟩
theorem rY {B:Int} {J J':Nat} {m:List aA} {q:List Rat} (h:RLs B J m q) (hz:∀ x,x∈q→Sz B J' x):RLs B J' m q:=⟨h.1,fun i h1 h2=>⟨(h.2 i h1 h2).1,hz _ (List.getElem_mem h2)⟩⟩
theorem Solve_l3 (hn:n≤3) (hl:s.length≤10) (hsys:F.Sys n (BK K) (BK K) s) (hnum:yd K n Lm) {o:List (List bE)} (ho:SRs K n s o n) :
 ∀ i,i≤n→∀ j,i+j=n→∀ p,PtOK n (BK K) (BK K) s j p→∀ r:List aA,r.length=n→(∀ k,i≤k→k<n→RB WW (rdT (t:=ah) r (k:Int):aA) (p k)) →
  ∃ pt p',Ev2 (fun k m=>aU.l3 k m ((i:Int)-1) r o) (pt,([]:List aA),(0:Int),())∧pt.length=n∧(∀ k,k<n→RB WW (rdT (t:=ah) pt (k:Int):aA) (p' k))∧PtOK n (BK K) (BK K) s n p':=by
 intro i
 induction i with
 | zero =>
  intro _ j hj p hp r hr hk
  obtain rfl:j=n:=by omega
  exact ⟨r,p,Ev2.step (fun k m=>aU.td k m _ _ _) (Ev2.bF (decide_eq_false (by omega)) (Ev2.of (evs _))),hr,fun k h=>hk k (by omega) h,hp⟩
 | succ i ih =>
  intro hi j hj p hp r hr hk
  have hij:i+1+j=n:=hj
  have ej:n-1-j=i:=by omega
  have hrr:=ho.2 i (by omega)
  have hks:=hnum.1 i (by omega)
  have hsz:∀ k,i<k→k<n→RB WW (rdT (t:=ah) r (k:Int):aA) (p k)∧Sz WW 200 (p k):=fun k h1 h2=>by
   obtain ⟨a,b⟩:=hp.sz k (by omega) h2
   obtain ⟨c,d⟩:=hnum.2.2.1 j (by omega)
   exact ⟨hk k (by omega) h2,rk (F.DR a) b (Nat.lt_of_le_of_lt (Nat.mul_le_mul_left _ b) c) d⟩
  have hcn:=kb (n:=n) hl i
  have hls:=LS_le3 (show i≤3 by omega)
  have hrl:=hrr.1
  have hmul:=Nat.mul_le_mul (show n≤3 from hn) (show KS K n i+200+1≤1000201 by omega)
  obtain ⟨v,v1,v2⟩:=D5 (i:=i) (Kp:=200) hrr (by omega) (by omega) (by omega) (by omega) (by omega) (by omega:n≤r.length) (by omega) hsz (by omega)
  have hok:=F.pt_ok hsys hij hp
  obtain ⟨lh,ll⟩:=F.pt_lim hsys hij hp
  have hpd:=hp.prod i hij
  have hJ:∀ x,gd x (MB (BK K) (BK K) n i+n*(MB (BK K) (BK K) n i*XB (BK K) (BK K) n j))→(∃ a:Nat,1≤a∧a≤MB (BK K) (BK K) n i∧∃ y:Int,x*((a*F.iG i p j:Nat):Rat)=(y:Rat))→Sz WW 1000 x:=fun x hx ⟨a,a1,a2,y,hy⟩=>by
   have hd:=Nat.le_of_dvd (Nat.mul_pos a1 (F.sA j)) (F.iP hy)
   have hd2:x.den≤MB (BK K) (BK K) n i*PB (BK K) (BK K) n j:=Nat.le_trans hd (Nat.mul_le_mul a2 hpd)
   obtain ⟨c,d⟩:=hnum.2.2.2 j (by omega)
   rw [ej] at c d
   exact rk (F.DR hx) hd2 (Nat.lt_of_le_of_lt (Nat.mul_le_mul_left _ hd2) c) d
  obtain ⟨w,y,w1,w2,w3⟩:=pick_sp v2 hok (J:=1000) (by decide) (by decide) (fun e=>hJ _ (ll e).1 (ll e).2) (fun e=>hJ _ (lh e).1 (lh e).2)
  have hstep:=F.pt_step hsys hij hp w3
  obtain ⟨pt,p',z1,z2⟩:=ih (by omega) (j+1) (by omega) (upd p i y) hstep (r.set i w) (by simpa using hr) (fun k h1 h2=>by
   rw [Dm (by omega)]
   by_cases c:k=i
   ·subst c
    rw [if_pos rfl]
    have:upd p k y k=y:=if_pos rfl
    rw [this];exact w2
   ·rw [if_neg c,F.wv c];exact hk k (by omega) h2)
  have hol:=ho.1
  have e1:(((i+1:Nat):Int)-1)=(i:Int):=by omega
  refine ⟨pt,p',Ev2.step (fun k m=>aU.td k m _ _ _) ?_,z2⟩
  rw [e1]
  refine Ev2.bT (decide_eq_true (by omega)) (Ev2.iT (by omega) (Ev2.bind v1 (Ev2.bind w1 (Ev2.iT (by simp only;omega) ?_))))
  rw [w64 (by omega) (by omega),Int.toNat_natCast];exact z1
end
end Go.Proofs.YtjimdhlmeebjeaaGreat.Q
end
section
namespace Go.Proofs.YtjimdhlmeebjeaaGreat.Q
open Go.RowKit Go.Proofs.YtjimdhlmeebjeaaGreatW.PrintWords Go.Proofs.YtjimdhlmeebjeaaGreatW.PrintMore Go.Proofs.YtjimdhlmeebjeaaGreat.V Go.Proofs.YtjimdhlmeebjeaaGreat.E
open Go.Proofs.YtjimdhlmeebjeaaGreat.P (Dg Nm vl WW RR bS gI evs evk evb fv aM aY bj w64 u64)
open Go.Proofs.YtjimdhlmeebjeaaGreat.F (cx ce dW eV tM dO fU Bd pY bdC Fe rlf MB GB UB PB XB DB PtOK yx gd ND upd)
set_option linter.unusedVariables false
section
variable {K n Lm:Nat} {l:List aT} {s:List dy}
def Sol (n:Nat) (s:List dy) (z:List aA×List aA×Int×Unit):Prop :=
 (∃ pt pq,z=(pt,[],0,())∧RLs WW 200 pt pq∧pq.length=n∧∀ k,k<s.length→fB (o4 (ln s k).1 pq n) (rlf s k) (kf s k)) ∨
 (∃ m mq,z=([],m,0,())∧RLs WW 200 m mq∧mq.length=s.length∧CD n s mq)
theorem Dh {t:Nat} (ht:t≤n) (hl:s.length≤Lm) (hsys:F.Sys n (BK K) (BK K) s) (hnum:yd K n Lm) {r:cx} (hr:r∈F.stg n s t):∀ x,x∈yx n s.length r→Sz WW 200 x:=by
 intro x hx
 have hB:=hsys.pos
 obtain ⟨z,z1,z2⟩:=F.ref_size (F.qo hsys t ht r hr) (fun k hk=>F.sc_nd hsys hk) (F.UB_pos hB hB t) (Nat.mul_pos (Nat.mul_pos hB (Nat.pow_pos hB)) hB) hB x hx
 have h1:=hnum.2.1 t (by omega)
 have h2:BK K ^ s.length≤BK K ^ Lm:=Nat.pow_le_pow_right hB hl
 have h3:=Nat.mul_le_mul_left (UB (BK K) (BK K) n t+GB (BK K) (BK K) n t) (Nat.mul_le_mul_left (BK K*BK K ^ (n+1)*BK K) h2)
 refine rk (N:=(UB (BK K) (BK K) n t+GB (BK K) (BK K) n t)*(BK K*BK K ^ (n+1)*BK K*BK K ^ s.length)) (D:=1) ?_ ?_ (Nat.lt_of_le_of_lt h3 h1) (Nat.one_lt_pow (by decide) (by decide))
 ·rw [z1,Rat.num_intCast];exact z2
 ·rw [z1,Rat.den_intCast];exact Nat.le_refl _
theorem Solve_l1 (hn:n≤3) (hls:l.length=s.length) (hl:s.length≤Lm) (hLm:Lm≤10) (hsys:F.Sys n (BK K) (BK K) s) (hnum:yd K n Lm) {o:List (List bE)} (ho:SRs K n s o n) :
 ∀ t,t≤n+1→(∀ t',t'<t→∀ r,r∈F.stg n s t'→dW n r=false)→∃ z,Ev2 (fun k m=>aU.l1 k m (n:Int) l (o.length:Int) (t:Int) o) z∧Sol n s z:=by
 have hol:=ho.1
 refine dn ?_ (fun t ht ih=>?_)
 ·intro hno
  obtain ⟨pt,p',z1,z2,z3,z4⟩:=Solve_l3 hn (by omega) hsys hnum ho n (Nat.le_refl _) 0 (by omega) (fun _=>0) (F.pt_zero hsys (hno n (by omega)) _) (List.replicate (Int.toNat (n:Int)) (false,[],[],())) (by simp) (fun k h1 h2=>by omega)
  refine ⟨_,Ev2.step (fun k m=>aU.bZ k m _ _ _ _ _) (Ev2.bF (decide_eq_false (by omega)) (Ev2.iT ⟨by omega,by omega,by rw [Int.toNat_natCast];omega,by rw [Int.toNat_natCast];unfold maxLen;omega⟩ ?_)),.inl ⟨pt,(List.range n).map p',rfl,?_,by simp,?_⟩⟩
  ·rw [w64 (by omega) (by omega)]
   exact Ev2.ofd z1
  ·have hR:RP WW 200 pt n n p':=⟨z2,fun k hk=>⟨z3 k hk,by
    obtain ⟨a,b⟩:=z4.sz k (by omega) hk
    obtain ⟨c,d⟩:=hnum.2.2.1 n (by omega)
    exact rk (F.DR a) b (Nat.lt_of_le_of_lt (Nat.mul_le_mul_left _ b) c) d⟩⟩
   exact hR.rls (by simp) (fun i hi=>by simp [List.getD_eq_getElem?_getD,hi])
  ·intro k hk
   have:=F.pt_done hsys z4 k hk
   rwa [s9 (q:=(List.range n).map p') n (fun i hi=>by simp [List.getD_eq_getElem?_getD,hi])] at this
 ·intro hno
  have hrr:=ho.2 t (by omega)
  have hks:=hnum.1 t (by omega)
  have hcn:=kb (n:=n) (s:=s) (by omega) t
  have hls3:=LS_le3 (show t≤3 by omega)
  have hrl:=hrr.1
  rcases ra hrr (by omega) (by omega) (by omega) (by omega) with ⟨v,v1,v2⟩ | ⟨v,r,v1,v2,v3,v4,v5⟩
  ·obtain ⟨z,z1,z2⟩:=ih (fun t' ht' r hr=>by
    by_cases c:t'=t
    ·subst c;exact v2 r hr
    ·exact hno t' (by omega) r hr)
   refine ⟨z,Ev2.step (fun k m=>aU.bZ k m _ _ _ _ _) (Ev2.bT (decide_eq_true (by omega)) (Ev2.iT (by omega) (Ev2.bind v1 (Ev2.bF rfl ?_)))),z2⟩
   rw [ic (by omega)];exact z1
  ·have vl:v.1.length=n+1+s.length:=by rw [v2.1.1];exact v4
   have dl:(v.1.drop (n+1)).length=s.length:=by simp [vl]
   obtain ⟨m,m1,m2⟩:=ua (kk:=s.length) (v2.1.drop (n+1)) (by omega) (by omega) (by omega) (by
    have:=Nat.mul_le_mul (show KS K n t+1≤1000001 by omega) (show s.length+2≤12 by omega)
    omega)
   have ml:m.length=s.length:=by rw [m2.1,F.kd];simp [v4]
   obtain ⟨k1,k2⟩:=v2.at (i:=n) (by omega)
   have hsg:=cY k1
   have e1:v.2.2.1=r.2:=v2.2.2
   have ht:Ev (fun k=>bif v.2.2.1==(0:Int) then (cy k v).bind fun (v7:aA)=>(dD k v7).bind fun (v8:Int)=>some (decide (v8>(0:Int))) else some false) (decide (r.2=0∧0<ce r n)):=by
    rw [e1]
    by_cases c:r.2=0
    ·refine bT (by rw [c];rfl) (Ev.bind (ga v2 (by omega) (by omega)) (Ev.bind hsg ?_))
     rw [C1]
     have:decide (r.2=0∧0<ce r n)=decide (0<ce r n):=by simp [c]
     rw [this];exact evs _
    ·have:decide (r.2=0∧0<ce r n)=false:=by simp [c]
     rw [this]
     exact bF (by rw [beq_eq_false_iff_ne];exact c) (evs _)
   have hn64:n<9223372036854775807:=by omega
   have hz:=Dh (t:=t) (by omega) hl hsys hnum v3
   have hrl2:(yx n s.length r).length=s.length:=by
    unfold yx
    split<;>simp [F.kd,v4]
   by_cases c:r.2=0∧0<ce r n
   ·obtain ⟨m',x1,x2⟩:=Solve_l2 (M0:=fun _=>0) m2 (by
     have:=Nat.mul_le_mul (show KS K n t≤1000000 by omega) (show s.length+1≤11 by omega)
     omega) (by omega)
    have er:yx n s.length r=(fU s.length (r.1.drop (n+1))).map fun x=>-x:=by unfold yx;rw [if_pos c]
    refine ⟨_,Ev2.step (fun k m=>aU.bZ k m _ _ _ _ _) (Ev2.bT (decide_eq_true (by omega)) (Ev2.iT (by omega) (Ev2.bind v1 (Ev2.bT rfl ?_)))),.inr ⟨m',_,rfl,rY (by rw [er];exact x2) hz,hrl2,F.ref_ok (F.qo hsys t (by omega) r v3) hsys.rel v5⟩⟩
    rw [ic hn64,hls]
    refine Ev2.iT (by simp only;omega) ?_
    rw [Int.toNat_natCast]
    exact Ev2.bind m1 (Ev2.iT (by omega) (Ev2.bind ht (Ev2.bT (decide_eq_true c) x1.diag)))
   ·have er:yx n s.length r=fU s.length (r.1.drop (n+1)):=by unfold yx;rw [if_neg c]
    refine ⟨_,Ev2.step (fun k m=>aU.bZ k m _ _ _ _ _) (Ev2.bT (decide_eq_true (by omega)) (Ev2.iT (by omega) (Ev2.bind v1 (Ev2.bT rfl ?_)))),.inr ⟨m,_,rfl,rY (by rw [er];exact m2) hz,hrl2,F.ref_ok (F.qo hsys t (by omega) r v3) hsys.rel v5⟩⟩
    rw [ic hn64,hls]
    refine Ev2.iT (by simp only;omega) ?_
    rw [Int.toNat_natCast]
    exact Ev2.bind m1 (Ev2.iT (by omega) (Ev2.bind ht (Ev2.bF (decide_eq_false c) (Ev2.of (evs _)))))
theorem tz (ha:zC l) (hok:OkS (n:Int) l) (hn:n≤3) (hl:l.length≤10):Ev (fun k=>jn k (n:Int) l) 0:=by
 have hc:=wo (n:=(n:Int)) ha
 rw [tm hok] at hc
 exact Ev.step (fun k=>qW k _ _) (Ev.bind hc (bF rfl (Ev.bind (a:=false) (bF (decide_eq_false (by omega)) (by rw [decide_eq_false (by omega)];exact evs _)) (bF rfl (evs _)))))
theorem Bg (ha:zC l) (hok:OkS (n:Int) l) (hs:RSs WW K l s) (hK:1≤K) (hn:n≤3) (hl:s.length≤Lm) (hLm:Lm≤10) (hsys:F.Sys n (BK K) (BK K) s) (hnum:yd K n Lm):∃ z,Ev (fun k=>aU k (n:Int) l) z∧Sol n s z:=by
 have hls:=hs.1
 have hk0:=hnum.1 0 (by omega)
 unfold KS at hk0
 have hkn:K*(n+2)≤1000000:=by omega
 obtain ⟨m,m1,m2⟩:=xv hs hK hsys.len (by omega) (by omega) (by
  have:(K+1)*(n+3)=K*(n+2)+K+(n+3):=by rw [Nat.add_mul,Nat.mul_succ];omega
  omega)
 have mc:(tM n s).length=s.length:=by simp [tM]
 have ml:=m2.1
 obtain ⟨v,v1,v2⟩:=ry m2 (by omega) (by omega) (by omega) (by omega)
 obtain ⟨z,z1,z2⟩:=Solve_l0 (l:=l) (R:=Sol n s) hn (by omega) hnum (fun o ho=>Solve_l1 hn hls hl hLm hsys hnum ho 0 (by omega) (fun t' h=>by omega)) 0 (by omega) [v] ⟨rfl,fun t ht=>by
  obtain rfl:t=0:=by omega
  exact v2⟩
 exact ⟨z,Ev.step (fun k=>sZ k _ _) (Ev.bind (tz ha hok hn (by omega)) (bF rfl (Ev.bind m1 (Ev.bind v1 z1.diag)))),z2⟩
end
theorem num1:∀ n,n<4→yd 1 n 10:=by decide +kernel
end Go.Proofs.YtjimdhlmeebjeaaGreat.Q
end
section
namespace Go.Proofs.YtjimdhlmeebjeaaGreat.Q
open Go.RowKit Go.Proofs.YtjimdhlmeebjeaaGreatW.PrintWords Go.Proofs.YtjimdhlmeebjeaaGreatW.PrintMore Go.Proofs.YtjimdhlmeebjeaaGreat.V Go.Proofs.YtjimdhlmeebjeaaGreat.E
open Go.Proofs.YtjimdhlmeebjeaaGreat.P (Dg Nm vl WW RR bS gI evs evk evb fv aM aY bj w64 u64)
open Go.Proofs.YtjimdhlmeebjeaaGreat.F (rlf)
set_option linter.unusedVariables false
def SatS (n:Nat) (s:List dy):Prop:=∃ x:Nat→Rat,∀ k,k<s.length→fB (F.lin (ln s k).1 x n) (rlf s k) (kf s k)
theorem EL {f m:Nat→Rat}:∀ L,(∀ k,k<L→m k*f k≤0)→comb f m L≤0∧((∃ k,k<L∧m k*f k<0)→comb f m L<0)
 | 0,_=>⟨Rat.le_refl,fun ⟨k,h,_⟩=>by omega⟩
 | L+1,h=>by
  obtain ⟨h1,h2⟩:=EL (f:=f) (m:=m) L (fun k hk=>h k (by omega))
  have h3:=h L (by omega)
  simp only [comb]
  refine ⟨by grind,fun ⟨k,hk,hs⟩=>?_⟩
  by_cases e:k=L
  ·subst e;grind
  ·have:=h2 ⟨k,by omega,hs⟩
   grind
theorem AW (f g m:Nat→Rat):∀ L,comb (fun k=>f k-g k) m L=comb f m L-comb g m L
 | 0=>by simp only [comb];grind
 | L+1=>by
  have:=AW f g m L
  simp only [comb,this];grind
theorem xT {s:List dy} {m:Nat→Rat} {x:Nat→Rat} {L:Nat}:∀ n,(∀ i,i<n→comb (cf s i) m L=0)→comb (fun k=>F.lin (ln s k).1 x n) m L=0
 | 0,_=>by
  have:∀ L,comb (fun k=>F.lin (ln s k).1 x 0) m L=0:=fun L=>by
   induction L with
   | zero=>rfl
   | succ L ih =>
    show comb (fun k=>F.lin (ln s k).1 x 0) m L+m L*0=0
    rw [ih];grind
  exact this L
 | n+1,h=>by
  have ih:=xT (m:=m) (x:=x) (L:=L) n (fun i hi=>h i (by omega))
  have h2:=h n (by omega)
  have key:∀ L,comb (fun k=>F.lin (ln s k).1 x (n+1)) m L=comb (fun k=>F.lin (ln s k).1 x n) m L+x n*comb (cf s n) m L:=fun L=>by
   induction L with
   | zero=>simp only [comb];grind
   | succ L ih =>
    show comb (fun k=>F.lin (ln s k).1 x (n+1)) m L+m L*(F.lin (ln s L).1 x n+(ln s L).1.getD n 0*x n)=(comb (fun k=>F.lin (ln s k).1 x n) m L+m L*F.lin (ln s L).1 x n)+x n*(comb (cf s n) m L+m L*(ln s L).1.getD n 0)
    rw [ih];grind
  rw [key,ih,h2];grind
theorem vk {n:Nat} {s:List dy} {m:List Rat} (hr:∀ k,k<s.length→rlf s k=0∨rlf s k=1∨rlf s k=2) (h:CD n s m):¬ SatS n s:=by
 rintro ⟨x,hx⟩
 obtain ⟨h1,h2,h3⟩:=h
 have e0:=xT (x:=x) n h2
 have e1:=AW (fun k=>F.lin (ln s k).1 x n) (kf s) (gf m) s.length
 rw [e0] at e1
 have term:∀ k,k<s.length→gf m k*(F.lin (ln s k).1 x n-kf s k)≤0∧(rlf s k=2→0<gf m k→gf m k*(F.lin (ln s k).1 x n-kf s k)<0):=fun k hk=>by
  have hs:=hx k hk
  unfold fB at hs
  rcases hr k hk with r | r | r
  ·have e:F.lin (ln s k).1 x n=kf s k:=by rw [r] at hs;simpa using hs
   refine ⟨?_,fun h=>by rw [r] at h;exact absurd h (by decide)⟩
   rw [e];grind
  ·have hm:=h1 k hk (show rlf s k>0 by omega)
   have e:F.lin (ln s k).1 x n≤kf s k:=by rw [r] at hs;simp at hs;grind
   refine ⟨?_,fun h=>by rw [r] at h;exact absurd h (by decide)⟩
   have:=Rat.mul_nonneg hm (show (0:Rat)≤kf s k-F.lin (ln s k).1 x n by grind)
   grind
  ·have hm:=h1 k hk (show rlf s k>0 by omega)
   have e:F.lin (ln s k).1 x n<kf s k:=by rw [r] at hs;simp at hs;exact hs
   refine ⟨?_,fun _ hp=>?_⟩
   ·have:=Rat.mul_nonneg hm (show (0:Rat)≤kf s k-F.lin (ln s k).1 x n by grind)
    grind
   ·have:=Rat.mul_pos hp (show (0:Rat)<kf s k-F.lin (ln s k).1 x n by grind)
    grind
 obtain ⟨c1,c2⟩:=EL (f:=fun k=>F.lin (ln s k).1 x n-kf s k) (m:=gf m) s.length (fun k hk=>(term k hk).1)
 rw [e1] at c1 c2
 rcases h3 with h3 | ⟨h3,k,k1,k2,k3⟩
 ·have:comb (kf s) (gf m) s.length<0:=h3
  grind
 ·have:=c2 ⟨k,k1,(term k k1).2 k2 k3⟩
  have h3':comb (kf s) (gf m) s.length=0:=h3
  grind
def Bh (N:Nat) (x:aT):Prop:=(x.2.2.1.2.1.length≤N∧x.2.2.1.2.2.1.length≤N)∧∀ c∈x.1,c.2.1.length≤N∧c.2.2.1.length≤N
theorem CA (N:Nat) {l:List aT} (ha:zC l):∃ t,Ev (fun k=>aw k l (N:Int)) t∧(t=true→∀ x∈l,Bh N x):=by
 have main:∀ i,i≤l.length→(∀ j,j<i→∀ h:j<l.length,Bh N l[j])→∃ r,Ev2 (fun k m=>aw.l0 k m (N:Int) l (l.length:Int) (i:Int)) r∧(r=true→∀ x∈l,Bh N x):=by
  refine dn ?_ (fun i hi ih=>?_)
  ·intro hall
   exact ⟨true,Ev2.step (fun k m=>aw.aO k m _ _ _ _) (Ev2.bF (decide_eq_false (by omega)) (Ev2.of (evs _))),fun _=>j7.2 hall⟩
  ·intro hall
   have e:(rdT (t:=av) l (i:Int):aT)=l[i]:=cB hi
   have hal:=(ha.2 _ (List.getElem_mem hi)).1
   have hsh:=fq l[i].2.2.1 N
   by_cases c:(l[i].1.length:Int)>12
   ·exact ⟨false,Ev2.step (fun k m=>aw.aO k m _ _ _ _) (Ev2.bT (decide_eq_true (by omega)) (Ev2.iT (by omega) (Ev2.bind (a:=true) (bT (by rw [e];exact decide_eq_true c) (evs _)) (Ev2.bT rfl (Ev2.of (evs _)))))),fun h=>by simp at h⟩
   ·by_cases hs:l[i].2.2.1.2.1.length≤N∧l[i].2.2.1.2.2.1.length≤N
    ·rw [decide_eq_true hs] at hsh
     have inner:∀ j,j≤l[i].1.length→(∀ j',j'<j→∀ h:j'<l[i].1.length,l[i].1[j'].2.1.length≤N∧l[i].1[j'].2.2.1.length≤N)→∃ r,Ev3 (fun k m1 m0=>aw.l1 k m1 m0 (N:Int) l (l.length:Int) (i:Int) l[i].1 (l[i].1.length:Int) (j:Int)) r∧(r=true→∀ x∈l,Bh N x):=by
      refine dn ?_ (fun j hj ih2=>?_)
      ·intro hc
       obtain ⟨r,r1,r2⟩:=ih (fun j' hj' h'=>by
        by_cases e':j'=i
        ·subst e';exact ⟨hs,j7.2 hc⟩
        ·exact hall j' (by omega) h')
       refine ⟨r,Ev3.step (fun k m1 m0=>aw.bZ k m1 m0 _ _ _ _ _ _ _) (Ev3.bF (decide_eq_false (by omega)) (Ev3.of ?_)),r2⟩
       rw [ic (Nat.lt_of_lt_of_le hi ha.1)];exact r1
      ·intro hc
       have ej:(rdT (t:=ah) l[i].1 (j:Int):aA)=l[i].1[j]:=cB hj
       have hsj:=fq l[i].1[j] N
       by_cases hq:l[i].1[j].2.1.length≤N∧l[i].1[j].2.2.1.length≤N
       ·rw [decide_eq_true hq] at hsj
        obtain ⟨r,r1,r2⟩:=ih2 (fun j' hj' h'=>by
         by_cases e':j'=j
         ·subst e';exact hq
         ·exact hc j' (by omega) h')
        refine ⟨r,Ev3.step (fun k m1 m0=>aw.bZ k m1 m0 _ _ _ _ _ _ _) (Ev3.bT (decide_eq_true (by omega)) (Ev3.iT (by omega) (Ev3.bind (by rw [ej];exact hsj) (Ev3.bF rfl ?_)))),r2⟩
        rw [ic (Nat.lt_of_lt_of_le hj hal.1)];exact r1
       ·rw [decide_eq_false hq] at hsj
        exact ⟨false,Ev3.step (fun k m1 m0=>aw.bZ k m1 m0 _ _ _ _ _ _ _) (Ev3.bT (decide_eq_true (by omega)) (Ev3.iT (by omega) (Ev3.bind (by rw [ej];exact hsj) (Ev3.bT rfl (Ev3.of (Ev2.of (evs _))))))),fun h=>by simp at h⟩
     obtain ⟨r,r1,r2⟩:=inner 0 (by omega) (fun j' h'=>by omega)
     refine ⟨r,Ev2.step (fun k m=>aw.aO k m _ _ _ _) (Ev2.bT (decide_eq_true (by omega)) (Ev2.iT (by omega) (Ev2.bind (a:=false) (bF (by rw [e];exact decide_eq_false c) (Ev.bind (a:=true) (by rw [e];exact hsh) (evs _))) (Ev2.bF rfl ?_)))),r2⟩
     rw [e];exact r1.diag
    ·rw [decide_eq_false hs] at hsh
     exact ⟨false,Ev2.step (fun k m=>aw.aO k m _ _ _ _) (Ev2.bT (decide_eq_true (by omega)) (Ev2.iT (by omega) (Ev2.bind (a:=true) (bF (by rw [e];exact decide_eq_false c) (Ev.bind (a:=false) (by rw [e];exact hsh) (evs _))) (Ev2.bT rfl (Ev2.of (evs _)))))),fun h=>by simp at h⟩
 obtain ⟨r,r1,r2⟩:=main 0 (by omega) (fun j h=>by omega)
 exact ⟨r,Ev.step (fun k=>gw k _ _) r1.diag,r2⟩
theorem zE {N:Nat} {v:aA} (h:VN 20 v) (h1:v.2.1.length≤N∧v.2.2.1.length≤N):RB WW v (Bn v)∧Sz WW N (Bn v):=by
 obtain ⟨a,_⟩:=qm h
 exact ⟨a,vd aM a h1.1 h1.2⟩
theorem yt {n:Int} {N:Nat} {l:List aT} (h:OkS n l) (hN:∀ x∈l,Bh N x):RSs WW N l (eB l):=by
 refine ⟨by simp [eB],fun i h1 h2=>?_⟩
 have ho:=h.2 _ (List.getElem_mem h1)
 have hn:=hN _ (List.getElem_mem h1)
 simp only [eB,List.getElem_map]
 refine ⟨⟨by simp [o9,nu],fun j g1 g2=>?_⟩,rfl,zE ho.1.2.2.2 hn.1⟩
 simp only [o9,nu,List.getElem_map]
 exact zE (ho.2 _ (List.getElem_mem g1)) (hn.2 _ (List.getElem_mem g1))
theorem D1 {l:List aT} {k:Nat} (hk:k<l.length):ln (eB l) k=o9 l[k]:=by
 rw [qD (by simp [eB];exact hk)];simp [eB]
theorem rM {N n:Nat} {l:List aT} (h:OkS (n:Int) l) (hN:∀ x∈l,Bh N x):F.Sys n (BK N) (BK N) (eB l):=by
 have hlen:(eB l).length=l.length:=by simp [eB]
 refine ⟨Nat.pow_pos (by decide),Nat.pow_pos (by decide),fun k hk=>?_,fun k hk=>?_,fun k hk x hx=>?_⟩
 ·rw [hlen] at hk
  have:=(h.2 _ (List.getElem_mem hk)).1.1
  rw [D1 hk]
  simp only [o9,nJ];omega
 ·rw [hlen] at hk
  have:=(h.2 _ (List.getElem_mem hk)).1.2
  unfold rlf
  rw [D1 hk]
  simp only [o9];omega
 ·rw [hlen] at hk
  have ho:=h.2 _ (List.getElem_mem hk)
  have hn:=hN _ (List.getElem_mem hk)
  rw [D1 hk] at hx
  rcases List.mem_append.1 hx with hx | hx
  ·simp only [o9,nu] at hx
   obtain ⟨c,hc,rfl⟩:=List.mem_map.1 hx
   exact Ao (zE (ho.2 _ hc) (hn.2 _ hc)).2
  ·rw [List.mem_singleton] at hx
   rw [hx]
   exact Ao (zE ho.1.2.2.2 hn.1).2
theorem zw {B:Int} {K:Nat} {l:List aA} {q:List Rat} (h:RLs WW K l q) (hK:K≤4096) (hl:l.length≤1000000):Args l:=by
 refine ⟨by omega,fun x hx=>?_⟩
 obtain ⟨i,hi,rfl⟩:=List.getElem_of_mem hx
 obtain ⟨a,b⟩:=h.2 i hi (by rw [← h.1];exact hi)
 exact tD a b (by omega)
theorem vn_of {K:Nat} {l:List aA} {q:List Rat} (h:RLs WW K l q):∀ x∈l,VN K x:=fun x hx=>by
 obtain ⟨i,hi,rfl⟩:=List.getElem_of_mem hx
 exact ⟨_,h.2 i hi (by rw [← h.1];exact hi)⟩
theorem CJ {K:Nat} {l:List aA} {q:List Rat} (h:RLs WW K l q):nu l=q:=by
 refine List.ext_getElem (by rw [nJ,h.1]) (fun i h1 h2=>?_)
 have hi:i<l.length:=by rw [nJ] at h1;exact h1
 simp only [nu,List.getElem_map]
 exact vm (h.2 i hi h2).1
theorem Ek {n:Nat} {s:List dy} {q:List Rat} (hlen:∀ k,k<s.length→(ln s k).1.length=n):jV s q↔∀ k,k<s.length→fB (o4 (ln s k).1 q n) (rlf s k) (kf s k):=by
 constructor
 ·intro h k hk
  have:=h _ (List.getElem_mem hk)
  have e:=qD hk
  unfold uS at this
  have hl:=hlen k hk
  unfold rlf kf
  rw [e] at hl ⊢
  rwa [hl] at this
 ·intro h y hy
  obtain ⟨k,hk,rfl⟩:=List.getElem_of_mem hy
  have:=h k hk
  have e:=qD hk
  have hl:=hlen k hk
  unfold rlf kf at this
  rw [e] at hl this
  unfold uS
  rwa [hl]
end Go.Proofs.YtjimdhlmeebjeaaGreat.Q
end
section
namespace Go.Proofs.YtjimdhlmeebjeaaGreat.E
open Go.RowKit Go.Proofs.YtjimdhlmeebjeaaGreat.V
theorem vrel_lit {w:World} {F:Fo} {a b} {v u:Value} (h:gD w F a b v (.cv (.lit u))):v=u:=by
 cases h with
 | cv h=>cases h;rfl
end Go.Proofs.YtjimdhlmeebjeaaGreat.E
end
section
namespace Go.Proofs.YtjimdhlmeebjeaaGreat.Q
open Go.RowKit Go.Proofs.YtjimdhlmeebjeaaGreatW.PrintWords Go.Proofs.YtjimdhlmeebjeaaGreatW.PrintMore Go.Proofs.YtjimdhlmeebjeaaGreat.V Go.Proofs.YtjimdhlmeebjeaaGreat.E
open Go.Proofs.YtjimdhlmeebjeaaGreat.P (Dg Nm vl WW RR bS gI evs evk evb fv aM aY bj w64 u64)
open Go.Proofs.YtjimdhlmeebjeaaGreat.F (rlf)
set_option linter.unusedVariables false
theorem BE {z:Int} (h0:-1000000000000<z) (h1:z<1000000000000):∃ r,Ev (fun k=>hY k z) r∧RB RR r (z:Rat)∧Sz RR 4 (z:Rat):=by
 have hsz:Sz RR 4 (z:Rat):=by
  constructor
  ·rw [Rat.num_intCast];have:(RR:Int) ^ 4=10000000000000000:=by decide
   omega
  ·rw [Rat.den_intCast];decide
 by_cases c:z<0
 ·obtain ⟨x,x1,x2⟩:=s_Int (a:=-z) (by omega) (by omega)
  refine ⟨_,Ev.step (fun k=>iZ k z) (bT (decide_eq_true c) (Ev.bind (by rw [w64 (x:=-z) (by omega) (by omega)];exact x1) (evs _))),⟨?_,?_,zu eI⟩,hsz⟩
  ·rw [Rat.num_intCast];exact (decide_eq_true c).symm
  ·rw [Rat.num_intCast,show ((z.natAbs:Nat):Int) = -z by omega];exact x2
 ·obtain ⟨x,x1,x2⟩:=s_Int (a:=z) (by omega) (by omega)
  refine ⟨_,Ev.step (fun k=>iZ k z) (bF (decide_eq_false c) (Ev.bind x1 (evs _))),⟨?_,?_,zu eI⟩,hsz⟩
  ·rw [Rat.num_intCast];exact (decide_eq_false c).symm
  ·rw [Rat.num_intCast,show ((z.natAbs:Nat):Int)=z by omega];exact x2
theorem zL {z:Int} {K:Nat} (h:z.natAbs<4294967296 ^ K) (hK:1≤K):Sz WW K (z:Rat):=by
 have e:WW ^ K=((4294967296 ^ K:Nat):Int):=by rw [P.dx,Int.natCast_pow];rfl
 have:=Nat.one_lt_pow (n:=K) (by omega) (show 1<4294967296 by decide)
 refine ⟨?_,?_⟩
 ·rw [e,Rat.num_intCast];omega
 ·rw [e,Rat.den_intCast];omega
theorem DP {z:Int} (h0:-1000000000000<z) (h1:z<1000000000000):∃ r,Ev (fun k=>dS k z) r∧RB WW r (z:Rat):=by
 obtain ⟨a,a1,a2,a3⟩:=BE h0 h1
 obtain ⟨b,b1,b2⟩:=Df a2 a3 (by decide)
 exact ⟨b,Ev.step (fun k=>mB k z) (Ev.bind a1 (Ev.bind b1 (evs _))),b2⟩
def LnOK (K n:Nat) (x:aT) (y:dy):Prop:=RLn WW K x y∧y.1.length=n∧0≤y.2.1∧y.2.1≤2
theorem vL {K n:Nat} {x:aT} {y:dy} (h:LnOK K n x y) (hK:K≤20) (hn:n≤8):ArgL x∧OkL (n:Int) x∧Bh K x∧o9 x=y:=by
 obtain ⟨⟨h1,h2,h3,h4⟩,h5,h6,h7⟩:=h
 have hl:x.1.length=n:=by rw [h1.1,h5]
 refine ⟨⟨zw (B:=WW) h1 (by omega) (by omega),tD h3 h4 (by omega)⟩,⟨⟨by omega,by omega,by omega,_,h3,fa aM h4 hK⟩,vn_of (h1.mono aM hK)⟩,⟨fp aY h3 h4,fun c hc=>?_⟩,?_⟩
 ·obtain ⟨i,hi,rfl⟩:=List.getElem_of_mem hc
  obtain ⟨a,b⟩:=h1.2 i hi (by rw [← h1.1];exact hi)
  exact fp aY a b
 ·obtain ⟨a,b,c⟩:=y
  simp only [o9,CJ h1,vm h3]
  simp only at h2
  rw [h2]
theorem wB {K n:Nat} {l:List aT} {s:List dy} (hl:l.length=s.length) (h:∀ i,∀ h1:i<l.length,∀ h2:i<s.length,LnOK K n l[i] s[i]) (hK:K≤20) (hn:n≤8) (h40:l.length≤40):zC l∧OkS (n:Int) l∧(∀ x∈l,Bh K x)∧eB l=s:=by
 have each:∀ x∈l,ArgL x∧OkL (n:Int) x∧Bh K x:=fun x hx=>by
  obtain ⟨i,hi,rfl⟩:=List.getElem_of_mem hx
  obtain ⟨a,b,c,_⟩:=vL (h i hi (by rw [← hl];exact hi)) hK hn
  exact ⟨a,b,c⟩
 refine ⟨⟨by omega,fun x hx=>(each x hx).1⟩,⟨⟨by omega,by omega,h40⟩,fun x hx=>(each x hx).2.1⟩,fun x hx=>(each x hx).2.2,?_⟩
 refine List.ext_getElem (by simp [eB,hl]) (fun i h1 h2=>?_)
 simp only [eB,List.getElem_map]
 exact (vL (h i (by simpa [eB] using h1) h2) hK hn).2.2.2
theorem ln_one {K:Nat} {v w:aA} {p q:Rat} {rel:Int} (hv:RB WW v p) (hp:Sz WW K p) (hw:RB WW w q) (hq:Sz WW K q) (hr:0≤rel∧rel≤2):LnOK K 1 ([v],rel,w,()) ([p],rel,q):=by
 refine ⟨⟨⟨rfl,fun i h1 h2=>?_⟩,rfl,hw,hq⟩,rfl,hr.1,hr.2⟩
 have:i=0:=by simp at h1;omega
 subst this
 exact ⟨hv,hp⟩
theorem EY:Ev (fun k=>gm k) true:=by
 obtain ⟨a,a1,a2⟩:=DP (z:=-1) (by decide) (by decide)
 obtain ⟨b,b1,b2⟩:=DP (z:=1) (by decide) (by decide)
 obtain ⟨c,c1,c2⟩:=DP (z:=0) (by decide) (by decide)
 have za:Sz WW 1 ((-1:Int):Rat):=zL (by decide) (by decide)
 have zb:Sz WW 1 ((1:Int):Rat):=zL (by decide) (by decide)
 have zc:Sz WW 1 ((0:Int):Rat):=zL (by decide) (by decide)
 have low:=ln_one a2 za a2 za (rel:=1) (by decide)
 have high:=ln_one b2 zb c2 zc (rel:=1) (by decide)
 obtain ⟨x1,x2,x3,x4⟩:=wB (K:=1) (n:=1) (l:=[([a],1,a,()),([b],1,c,())]) (s:=[([((-1:Int):Rat)],1,((-1:Int):Rat)),([((1:Int):Rat)],1,((0:Int):Rat))]) rfl (fun i h1 h2=>by
  match i,h1,h2 with
  | 0,_,_=>exact low
  | 1,_,_=>exact high
  | i+2,h,_=>simp at h;omega) (by decide) (by decide) (by simp)
 obtain ⟨y1,y2,y3,y4⟩:=wB (K:=1) (n:=1) (l:=[([a],1,a,())]) (s:=[([((-1:Int):Rat)],1,((-1:Int):Rat))]) rfl (fun i h1 h2=>by
  match i,h1,h2 with
  | 0,_,_=>exact low
  | i+1,h,_=>simp at h) (by decide) (by decide) (by simp)
 have e1:((-1:Int):Rat) = -1:=rfl
 have e2:((1:Int):Rat)=1:=rfl
 have e3:((0:Int):Rat)=0:=rfl
 obtain ⟨z,z1,z2⟩:=Bg (K:=1) (n:=1) (Lm:=10) x1 x2 (yt x2 x3) (by decide) (by decide) (by rw [x4];decide) (by decide) (rM x2 x3) (num1 1 (by decide))
 obtain ⟨w,w1,w2⟩:=Bg (K:=1) (n:=1) (Lm:=10) y1 y2 (yt y2 y3) (by decide) (by decide) (by rw [y4];decide) (by decide) (rM y2 y3) (num1 1 (by decide))
 have hz:∃ m,z=([],m,0,())∧m.length=2:=by
  rcases z2 with ⟨pt,pq,rfl,p1,p2,p3⟩ | ⟨m,mq,rfl,m1,m2,m3⟩
  ·exfalso
   rw [x4] at p3
   have h0:=p3 0 (by decide)
   have h1:=p3 1 (by decide)
   unfold fB at h0 h1
   simp [ln,rlf,kf,o4] at h0 h1
   grind
  ·exact ⟨m,rfl,by rw [m1.1,m2,x4];rfl⟩
 have hw:∃ pt pq,w=(pt,[],0,())∧RLs WW 200 pt pq∧pq.length=1∧∀ k,k<(eB [([a],1,a,())]).length→fB (o4 (ln (eB [([a],1,a,())]) k).1 pq 1) (rlf (eB [([a],1,a,())]) k) (kf (eB [([a],1,a,())]) k):=by
  rcases w2 with h | ⟨m,mq,rfl,m1,m2,m3⟩
  ·exact h
  ·exfalso
   refine vk (rM y2 y3).rel m3 ⟨fun _=>1,fun k hk=>?_⟩
   rw [y4] at hk ⊢
   have:k=0:=by simp at hk;omega
   subst this
   left
   simp [ln,rlf,kf,F.lin]
   grind
 obtain ⟨m,rfl,ml⟩:=hz
 obtain ⟨pt,pq,rfl,p1,p2,p3⟩:=hw
 have pl:pt.length=1:=by rw [p1.1,p2]
 have hH:=Holds_sp (n:=((1:Nat):Int)) (l:=[([a],1,a,())]) (pt:=pt) y1 (zw (B:=WW) p1 (by decide) (by omega))
 rw [tm y2,tm ⟨vn_of p1,by omega⟩,CJ p1,eQ ((Ek (rM y2 y3).len).2 p3)] at hH
 refine Ev.step (fun k=>kY k) (Ev.bind a1 (Ev.bind a1 (Ev.bind b1 (Ev.bind c1 (Ev.bind z1 (Ev.bind w1 (Ev.bind hH ?_)))))))
 simp only [ml,pl]
 exact evs _
theorem light_ev {n:Int} {l:List aT} (most:Int) (ha:zC l):∃ t,Ev (fun k=>gk k n l most) t∧(t=true→n≤3∧(l.length:Int)≤most∧(∀ x∈l,Bh 1 x)∧OkS n l):=by
 obtain ⟨t,t1,t2⟩:=CA 1 ha
 have hv:=oC (n:=n) ha
 have e1:Ev (fun _=>bif decide (n≤(3:Int)) then some (decide ((List.length l:Int)≤most)) else some false) (decide (n≤3)&&decide ((List.length l:Int)≤most)):=by
  cases decide (n≤(3:Int))<;>exact evs _
 by_cases c1:(decide (n≤3)&&decide ((List.length l:Int)≤most))=true
 ·rw [c1] at e1
  simp only [Bool.and_eq_true,decide_eq_true_eq] at c1
  cases t with
  | false=>exact ⟨false,Ev.step (fun k=>eA k _ _ _) (Ev.bind e1 (Ev.bind (a:=false) (bT rfl (Ev.bind t1 (evs _))) (Ev.bind (a:=false) (bF rfl (evs _)) (evs _)))),fun h=>by simp at h⟩
  | true =>
   by_cases c2:OkS n l
   ·rw [tm c2] at hv
    exact ⟨true,Ev.step (fun k=>eA k _ _ _) (Ev.bind e1 (Ev.bind (a:=true) (bT rfl (Ev.bind t1 (evs _))) (Ev.bind (a:=true) (bT rfl (Ev.bind hv (evs _))) (evs _)))),fun _=>⟨c1.1,c1.2,t2 rfl,c2⟩⟩
   ·rw [qZ c2] at hv
    exact ⟨false,Ev.step (fun k=>eA k _ _ _) (Ev.bind e1 (Ev.bind (a:=true) (bT rfl (Ev.bind t1 (evs _))) (Ev.bind (a:=false) (bT rfl (Ev.bind hv (evs _))) (evs _)))),fun h=>by simp at h⟩
 ·rw [Bool.eq_false_iff.2 c1] at e1
  exact ⟨false,Ev.step (fun k=>eA k _ _ _) (Ev.bind e1 (Ev.bind (a:=false) (bF rfl (evs _)) (Ev.bind (a:=false) (bF rfl (evs _)) (evs _)))),fun h=>by simp at h⟩
end Go.Proofs.YtjimdhlmeebjeaaGreat.Q
end
section
namespace Go.Proofs.YtjimdhlmeebjeaaGreat.Q
open Go.RowKit Go.Proofs.YtjimdhlmeebjeaaGreatW.PrintWords Go.Proofs.YtjimdhlmeebjeaaGreatW.PrintMore Go.Proofs.YtjimdhlmeebjeaaGreat.V Go.Proofs.YtjimdhlmeebjeaaGreat.E
open Go.Proofs.YtjimdhlmeebjeaaGreat.P (Dg Nm vl WW RR bS gI evs evk evb fv aM aY bj w64 u64)
set_option linter.unusedVariables false
theorem Ba {l:List aA} (h:CE (.list ah) l):Args l:=⟨h.1,fun x hx=>E1 (h.2 x hx)⟩
theorem E2 {l:List aT} (h:CE (.list av) l):zC l:=⟨h.1,fun x hx=>⟨Ba (h.2 x hx).1,E1 (h.2 x hx).2.2.1⟩⟩
end Go.Proofs.YtjimdhlmeebjeaaGreat.Q
end
section
namespace Go.Proofs.YtjimdhlmeebjeaaGreat.Q
open Go.RowKit Go.Proofs.YtjimdhlmeebjeaaGreatW.PrintWords Go.Proofs.YtjimdhlmeebjeaaGreatW.PrintMore Go.Proofs.YtjimdhlmeebjeaaGreat.V Go.Proofs.YtjimdhlmeebjeaaGreat.E
open Go.Proofs.YtjimdhlmeebjeaaGreat.P (Dg Nm vl WW RR bS gI evs evk evb fv aM aY bj w64 u64)
open Go.Proofs.YtjimdhlmeebjeaaGreat.F (rlf)
set_option linter.unusedVariables false
theorem or_ev (a b:Bool):Ev (fun _=>bif a then some true else some b) (a||b):=by cases a<;>exact evs _
theorem orn_ev {f:Nat→Option Bool} {t:Bool} (b:Bool) (h:Ev f t):Ev (fun k=>bif b then some true else (f k).bind fun v=>some (!v)) (b||!t):=by
 cases b with
 | true=>exact bT rfl (evs _)
 | false=>exact bF rfl (Ev.bind h (by rw [Bool.false_or];exact evs _))
end Go.Proofs.YtjimdhlmeebjeaaGreat.Q
end
section
namespace Go.Proofs.YtjimdhlmeebjeaaGreat.F
open Go.Proofs.YtjimdhlmeebjeaaGreat.Q (fB o4 comb dy ln cf kf gf CD ye)
set_option linter.unusedVariables false
theorem D4 {a b:List Rat} {x:Nat→Rat}:∀ m,m≤a.length→lin (a++b) x m=lin a x m
 | 0,_=>rfl
 | m+1,h=>by
  have h1:=D4 (a:=a) (b:=b) (x:=x) m (by omega)
  have h2:(a++b).getD m 0=a.getD m 0:=by simp [List.getD_eq_getElem?_getD,List.getElem?_append_left (show m<a.length by omega)]
  simp only [lin,h1,h2]
theorem app_last {a:List Rat} {v:Rat} {n:Nat} (h:a.length=n):(a++[v]).getD n 0=v:=by subst h;simp [List.getD_eq_getElem?_getD]
end Go.Proofs.YtjimdhlmeebjeaaGreat.F
end
section
namespace Go.Proofs.YtjimdhlmeebjeaaGreat.Q
open Go.RowKit Go.Proofs.YtjimdhlmeebjeaaGreatW.PrintWords Go.Proofs.YtjimdhlmeebjeaaGreatW.PrintMore Go.Proofs.YtjimdhlmeebjeaaGreat.V Go.Proofs.YtjimdhlmeebjeaaGreat.E
open Go.Proofs.YtjimdhlmeebjeaaGreat.P (Dg Nm vl WW RR bS gI evs evk evb fv aM aY bj w64 u64)
open Go.Proofs.YtjimdhlmeebjeaaGreat.F (cx ce dW eV tM dO Bd pY bdC rlf MB ND)
set_option linter.unusedVariables false
def Val (n:Nat) (s:List dy) (c:List Rat) (t:Rat):Prop:=∃ x:Nat→Rat,(∀ k,k<s.length→fB (F.lin (ln s k).1 x n) (rlf s k) (kf s k))∧F.lin c x n=t
theorem ok_has {b:Bd} (hok:b.ok):∃ t,b.has t:=by
 obtain ⟨lo,hi,hl,hh,ol,oh⟩:=b
 unfold F.Bd.ok at hok
 unfold F.Bd.has F.under
 simp only at hok ⊢
 cases hl with
 | false=>cases hh with
  | false=>exact ⟨0,by simp,by simp⟩
  | true=>exact ⟨hi-1,by intro _;left;grind,by simp⟩
 | true=>cases hh with
  | false=>exact ⟨lo+1,by simp,by intro _;left;grind⟩
  | true =>
   rcases hok rfl rfl with h | ⟨h,h2,h3⟩
   ·exact ⟨(lo+hi) / 2,by intro _;left;grind,by intro _;left;grind⟩
   ·exact ⟨lo,by intro _;right;exact ⟨h,h3⟩,by intro _;right;exact ⟨rfl,h2⟩⟩
end Go.Proofs.YtjimdhlmeebjeaaGreat.Q
end
section
namespace Go.Proofs.YtjimdhlmeebjeaaGreat.Q
open Go.RowKit Go.Proofs.YtjimdhlmeebjeaaGreatW.PrintWords Go.Proofs.YtjimdhlmeebjeaaGreatW.PrintMore Go.Proofs.YtjimdhlmeebjeaaGreat.V Go.Proofs.YtjimdhlmeebjeaaGreat.E
open Go.Proofs.YtjimdhlmeebjeaaGreat.P (Dg Nm vl WW RR bS gI evs evk evb fv aM aY bj w64 u64)
open Go.Proofs.YtjimdhlmeebjeaaGreat.F (rlf cx ce gG dY cN Bd)
set_option linter.unusedVariables false
theorem yw {a b:List aA} {p q:List Rat} {K L:Nat} (ha:RLs RR K a p) (hb:RLs RR L b q) (hl:a.length≤b.length) (hs:(K+L+1)*(a.length+1)<67108864):∃ r,Ev (fun k=>cg k a b) (r,b)∧RB RR r (uS p q)∧Sz RR (1+a.length*(K+L+1)) (uS p q):=by
 have la:a.length<67108864:=by
  have:1*(a.length+1)≤(K+L+1)*(a.length+1):=Nat.mul_le_mul_right _ (by omega)
  omega
 have key:∀ i,i≤a.length→∀ v,RB RR v (o4 p q i)→Sz RR (1+i*(K+L+1)) (o4 p q i)→∃ r,Ev2 (fun k m=>cg.l0 k m a (a.length:Int) (i:Int) b (false,[],[],()) v) (r,b)∧RB RR r (o4 p q a.length)∧Sz RR (1+a.length*(K+L+1)) (o4 p q a.length):=by
  refine dn ?_ (fun i hi ih=>?_)
  ·intro v hv hz
   exact ⟨v,Ev2.step (fun k m=>cg.aO k m _ _ _ _ _ _) (Ev2.bF (decide_eq_false (by omega)) (Ev2.of (evs _))),hv,hz⟩
  ·intro v hv hz
   obtain ⟨a1,a2⟩:=ha.at hi
   obtain ⟨b1,b2⟩:=hb.at (i:=i) (by omega)
   have hK:K+L<67108864:=by
    have:(K+L+1)*1≤(K+L+1)*(a.length+1):=Nat.mul_le_mul_left _ (by omega)
    omega
   have hI:i*(K+L+1)+(K+L+1)≤(K+L+1)*(a.length+1):=by
    rw [← Nat.succ_mul,Nat.mul_comm]
    exact Nat.mul_le_mul_left _ (by omega)
   obtain ⟨m1,h1,h2,h3⟩:=pE a1 b1 a2 b2 (by omega)
   obtain ⟨m2,g1,g2,g3⟩:=pF hv h2 hz h3 (by omega)
   obtain ⟨r,r1,r2,r3⟩:=ih m2 g2 (fa bj g3 (by rw [Nat.succ_mul];omega))
   refine ⟨r,Ev2.step (fun k m=>cg.aO k m _ _ _ _ _ _) (Ev2.bT (decide_eq_true (by omega)) (Ev2.iT (by omega) (Ev2.iT (by omega) (Ev2.bind h1 (Ev2.bind g1 ?_))))),r2,r3⟩
   rw [ic (by omega)]
   exact r1
 obtain ⟨r,r1,r2,r3⟩:=key 0 (by omega) _ (gj eI) (by rw [Nat.zero_mul];exact kE eI)
 rw [ha.1] at r2 r3
 refine ⟨r,Ev.step (fun k=>kQ k a b) (Ev.bind jx r1.diag),r2,?_⟩
 rw [ha.1]
 exact r3
theorem RLs.set {B:Int} {K:Nat} {l:List aA} {q:List Rat} {v:aA} {x:Rat} (h:RLs B K l q) (hv:RB B v x) (hx:Sz B K x) (i:Nat):RLs B K (l.set i v) (q.set i x):=by
 refine ⟨by simp [h.1],fun j h1 h2=>?_⟩
 rw [List.getElem_set,List.getElem_set]
 by_cases c:i=j
 ·rw [if_pos c,if_pos c];exact ⟨hv,hx⟩
 ·rw [if_neg c,if_neg c];exact h.2 j (by simpa using h1) (by simpa using h2)
def rowOf (y:dy):cx:=(y.1++[y.2.2],y.2.1)
theorem wZ {y:dy} {n:Nat} (h:y.1.length=n) (x:Nat→Rat):F.lin (rowOf y).1 x n=F.lin y.1 x n:=F.D4 n (by omega)
theorem uc {y:dy} {n:Nat} (h:y.1.length=n):ce (rowOf y) n=y.2.2:=F.app_last h
theorem rowOf_ce {y:dy} {n i:Nat} (h:y.1.length=n) (hi:i<n):ce (rowOf y) i=y.1.getD i 0:=by
 unfold ce rowOf
 simp [List.getD_eq_getElem?_getD,List.getElem?_append_left (show i<y.1.length by omega)]
theorem oA {y:dy} {n:Nat} (h:y.1.length=n) (x:Nat→Rat):gG n (rowOf y) x↔fB (F.lin y.1 x n) y.2.1 y.2.2:=by
 unfold gG
 rw [wZ h,uc h];rfl
theorem set_get {q:List Rat} {i k:Nat} {v:Rat} (hk:k<q.length):(q.set i v).getD k 0=F.upd (fun k=>q.getD k 0) i v k:=by
 unfold F.upd
 by_cases c:k=i
 ·subst c
  rw [if_pos rfl]
  simp [List.getD_eq_getElem?_getD,hk]
 ·rw [if_neg c]
  simp [List.getD_eq_getElem?_getD,List.getElem?_set,Ne.symm c]
theorem zp {c q:List Rat} {i n:Nat} {v:Rat} (hc:c.length=n) (hq:q.length=n):uS c (q.set i v)=F.lin c (F.upd (fun k=>q.getD k 0) i v) n:=by
 unfold uS
 rw [hc]
 exact (s9 n (fun k hk=>(set_get (by omega)).symm)).symm
def ExQ (n:Nat) (s:List dy) (x:Nat→Rat) (i:Nat):Prop:=∃ v,∀ y,y∈s→gG n (rowOf y) (F.upd x i v)
def BR (J:Nat) (u o ou oo:Bool) (lo hi:aA) (b:Bd):Prop:=u=b.hasLo∧o=b.hasHi∧ou=b.openLo∧oo=b.openHi∧(b.hasLo=true→RB RR lo b.lo∧Sz RR J b.lo)∧(b.hasHi=true→RB RR hi b.hi∧Sz RR J b.hi)
theorem ex_alg {n i:Nat} {s:List dy} {x:Nat→Rat} (hi:i<n) (hs:∀ y,y∈s→y.1.length=n∧0≤y.2.1∧y.2.1≤2) (hz:∀ y,y∈s→ce (rowOf y) i=0→gG n (rowOf y) x) (hp:∀ y,y∈s→ce (rowOf y) i≠0→y.2.1≠0) :
 ExQ n s x i↔((s.map rowOf).foldl (cN (fun r=>dY n i x r / ce r i) i) Bd.none).ok:=by
 have hrel:∀ r,r∈s.map rowOf→F.jc r:=fun r hr=>by
  obtain ⟨y,hy,rfl⟩:=List.mem_map.1 hr
  have:=hs y hy
  show y.2.1=0∨y.2.1=1∨y.2.1=2
  omega
 have hh:=fun v=>F.vO (bd:=fun r=>dY n i x r / ce r i) (p:=x) hi v (s.map rowOf) Bd.none hrel (fun r _ _=>rfl)
 constructor
 ·rintro ⟨v,hv⟩
  refine F.xo ((hh v).2 ⟨F.AG v,fun r hr _=>?_⟩)
  obtain ⟨y,hy,rfl⟩:=List.mem_map.1 hr
  exact hv y hy
 ·intro hok
  obtain ⟨v,hv⟩:=ok_has hok
  refine ⟨v,fun y hy=>?_⟩
  by_cases c:ce (rowOf y) i=0
  ·rw [F.jQ hi c];exact hz y hy c
  ·exact ((hh v).1 hv).2 _ (List.mem_map.2 ⟨y,hy,rfl⟩) c
theorem ok_test {J:Nat} {u o ou oo:Bool} {lo hi:aA} {b:Bd} (h:BR J u o ou oo lo hi b) (hJ:J<100000000):Ev (fun k=>(bif !u then some true else some (!o)).bind fun (b18:Bool)=>bif b18 then some true else (cD k lo hi).bind fun (v19:Int)=>(bif decide (v19<(0:Int)) then some true else (bif v19==(0:Int) then some (!ou) else some false).bind fun (b20:Bool)=>(bif b20 then some (!oo) else some false).bind fun (b21:Bool)=>some b21).bind fun (b22:Bool)=>some b22) (dc b.ok):=by
 obtain ⟨blo,bhi,hl,hh,ol,oh⟩:=b
 obtain ⟨h1,h2,h3,h4,h5,h6⟩:=h
 simp only at h1 h2 h3 h4 h5 h6
 subst h1 h2 h3 h4
 have triv:(u=false∨o=false)→dc (Bd.ok ⟨blo,bhi,u,o,ou,oo⟩)=true:=fun e=>eQ (fun a b=>by
  simp only at a b
  rcases e with e | e
  ·rw [e] at a;cases a
  ·rw [e] at b;cases b)
 cases u with
 | false=>rw [triv (.inl rfl)];exact Ev.bind (a:=true) (bT rfl (evs _)) (bT rfl (evs _))
 | true=>cases o with
  | false=>rw [triv (.inr rfl)];exact Ev.bind (a:=true) (bF rfl (evs _)) (bT rfl (evs _))
  | true =>
   obtain ⟨a1,a2⟩:=h5 rfl
   obtain ⟨b1,b2⟩:=h6 rfl
   have hc:=jr a1 b1 a2 b2 (by omega)
   have hok:Bd.ok ⟨blo,bhi,true,true,ou,oo⟩↔blo<bhi∨(blo=bhi∧ou=false∧oo=false):=⟨fun h=>h rfl rfl,fun h _ _=>h⟩
   refine Ev.bind (a:=false) (bF rfl (evs _)) (bF rfl (Ev.bind hc ?_))
   rcases gb blo bhi with ⟨e,hlt⟩ | ⟨e,heq⟩ | ⟨e,hgt⟩
   ·rw [e,eQ (hok.2 (.inl hlt))]
    exact Ev.bind (a:=true) (bT rfl (evs _)) (evs _)
   ·rw [e]
    cases ou with
    | true =>
     rw [dh (fun h=>by
      rcases hok.1 h with h | ⟨_,h,_⟩
      ·rw [heq] at h;exact absurd h Rat.lt_irrefl
      ·cases h)]
     exact Ev.bind (a:=false) (bF rfl (Ev.bind (a:=false) (bT rfl (evs _)) (Ev.bind (a:=false) (bF rfl (evs _)) (evs _)))) (evs _)
    | false=>cases oo with
     | true =>
      rw [dh (fun h=>by
       rcases hok.1 h with h | ⟨_,_,h⟩
       ·rw [heq] at h;exact absurd h Rat.lt_irrefl
       ·cases h)]
      exact Ev.bind (a:=false) (bF rfl (Ev.bind (a:=true) (bT rfl (evs _)) (Ev.bind (a:=false) (bT rfl (evs _)) (evs _)))) (evs _)
     | false =>
      rw [eQ (hok.2 (.inr ⟨heq,rfl,rfl⟩))]
      exact Ev.bind (a:=true) (bF rfl (Ev.bind (a:=true) (bT rfl (evs _)) (Ev.bind (a:=true) (bT rfl (evs _)) (evs _)))) (evs _)
   ·rw [e,dh (fun h=>by
     rcases hok.1 h with h | ⟨h,_⟩
     ·exact absurd h (Rat.not_lt.2 (Rat.le_of_lt hgt))
     ·rw [h] at hgt;exact absurd hgt Rat.lt_irrefl)]
    exact Ev.bind (a:=false) (bF rfl (Ev.bind (a:=false) (bF rfl (evs _)) (Ev.bind (a:=false) (bF rfl (evs _)) (evs _)))) (evs _)
end Go.Proofs.YtjimdhlmeebjeaaGreat.Q
end
section
namespace Go.Proofs.YtjimdhlmeebjeaaGreat.Q
open Go.RowKit Go.Proofs.YtjimdhlmeebjeaaGreatW.PrintWords Go.Proofs.YtjimdhlmeebjeaaGreatW.PrintMore Go.Proofs.YtjimdhlmeebjeaaGreat.V Go.Proofs.YtjimdhlmeebjeaaGreat.E
open Go.Proofs.YtjimdhlmeebjeaaGreat.P (Dg Nm vl WW RR bS gI evs evk evb fv aM aY bj w64 u64)
open Go.Proofs.YtjimdhlmeebjeaaGreat.F (rlf cx ce gG dY cN Bd)
set_option linter.unusedVariables false
theorem cmpq_lt (p q:Rat):decide (pc p q<(0:Int))=decide (p<q):=by
 rcases gb p q with ⟨e,h⟩ | ⟨e,h⟩ | ⟨e,h⟩
 ·rw [e,decide_eq_true h];rfl
 ·rw [e,decide_eq_false (show ¬ p<q by rw [h];exact Rat.lt_irrefl)];rfl
 ·rw [e,decide_eq_false (Rat.not_lt.2 (Rat.le_of_lt h))];rfl
theorem EO (p q:Rat):(pc p q==(0:Int))=decide (p=q):=by
 rcases gb p q with ⟨e,h⟩ | ⟨e,h⟩ | ⟨e,h⟩
 ·rw [e,decide_eq_false (Rat.ne_of_lt h)];rfl
 ·rw [e,decide_eq_true h];rfl
 ·rw [e,decide_eq_false (Ne.symm (Rat.ne_of_lt h))];rfl
section
variable {J:Nat} {u o ou oo:Bool} {lo hi v:aA} {b:Bd} {x:Rat}
theorem hi_test (h:BR J u o ou oo lo hi b) (hv:RB RR v x) (hx:Sz RR J x) (hJ:J<100000000):Ev (fun k=>bif !o then some true else (cD k v hi).bind fun (v10:Int)=>some (decide (v10<(0:Int)))) (decide (b.hasHi=false∨x<b.hi)):=by
 obtain ⟨h1,h2,h3,h4,h5,h6⟩:=h
 cases e:b.hasHi with
 | false=>rw [e] at h2;subst h2;exact bT rfl (by simp;exact evs _)
 | true =>
  rw [e] at h2;subst h2
  obtain ⟨a1,a2⟩:=h6 e
  refine bF rfl (Ev.bind (jr hv a1 hx a2 (by omega)) ?_)
  rw [cmpq_lt];simp;exact evs _
theorem lo_test (h:BR J u o ou oo lo hi b) (hv:RB RR v x) (hx:Sz RR J x) (hJ:J<100000000):Ev (fun k=>bif !u then some true else (cD k v lo).bind fun (v10:Int)=>some (decide (v10>(0:Int)))) (decide (b.hasLo=false∨b.lo<x)):=by
 obtain ⟨h1,h2,h3,h4,h5,h6⟩:=h
 cases e:b.hasLo with
 | false=>rw [e] at h1;subst h1;exact bT rfl (by simp;exact evs _)
 | true =>
  rw [e] at h1;subst h1
  obtain ⟨a1,a2⟩:=h5 e
  refine bF rfl (Ev.bind (jr hv a1 hx a2 (by omega)) ?_)
  rw [zt];simp;exact evs _
end
section
variable {n i:Nat} {l:List aT} {s:List dy} {pt:List aA} {q:List Rat}
theorem EA (hs:RSs RR 80 l s) (hsn:∀ y∈s,y.1.length=n∧0≤y.2.1∧y.2.1≤2) (hq:q.length=n) (hi:i<n) (hn:n≤3) (hl:l.length≤40) :
 ∀ j,j≤l.length→∀ u o ou oo lo hi' r q',BR 429 u o ou oo lo hi' (((s.take j).map rowOf).foldl (cN (fun r=>dY n i (fun k=>q.getD k 0) r / ce r i) i) Bd.none)→RLs RR 8 r q'→(∀ v,q'.set i v=q.set i v)→(∀ y,y∈s.take j→ce (rowOf y) i=0→gG n (rowOf y) fun k=>q.getD k 0)→(∀ y,y∈s.take j→ce (rowOf y) i≠0→y.2.1≠0) →
  Ev2 (fun k m=>aV.l0 k m l (i:Int) u o ou oo l (l.length:Int) (j:Int) r lo hi') (dc (ExQ n s (fun k=>q.getD k 0) i)):=by
 have hls:=hs.1
 refine dn ?_ (fun j hj ih=>?_)
 ·intro u o ou oo lo hi' r q' hb hr hqq hz hp
  rw [hls,List.take_length] at hb hz hp
  have hiff:=ex_alg hi hsn hz hp
  rw [rH hiff]
  exact Ev2.step (fun k m=>aV.aO k m _ _ _ _ _ _ _ _ _ _ _ _) (Ev2.bF (decide_eq_false (by omega)) (Ev2.of (ok_test hb (by decide))))
 ·intro u o ou oo lo hi' r q' hb hr hqq hz hp
  have hjs:j<s.length:=by omega
  obtain ⟨b1,b2,b3,b4⟩:=hs.2 j hj hjs
  have hy:=hsn _ (List.getElem_mem hjs)
  have ex:(rdT (t:=aD) l (j:Int):aT)=l[j]:=cB hj
  have et:s.take (j+1)=s.take j++[s[j]]:=List.take_succ_eq_append_getElem hjs
  generalize hgx:l[j]=x at b1 b2 b3 b4 ex
  have hmem:s[j]∈s:=List.getElem_mem hjs
  generalize hgy:s[j]=y at b1 b2 b3 b4 hy et hmem
  have xl:x.1.length=n:=by rw [b1.1];exact hy.1
  have ql:q'.length=n:=by
   have:=congrArg List.length (hqq 0)
   simpa [hq] using this
  have rl:r.length=n:=by rw [hr.1];exact ql
  have hr0:RLs RR 8 (r.set i (false,[],[1],())) (q.set i 0):=by rw [← hqq 0];exact hr.set (gj eI) (fa bj (kE eI) (by decide)) i
  obtain ⟨d,d1,d2,d3⟩:=yw b1 hr0 (by simp;omega) (by
   rw [xl]
   have:=Nat.mul_le_mul (show 80+8+1≤89 by decide) (show n+1≤4 by omega)
   omega)
  rw [zp hy.1 hq] at d2 d3
  rw [xl] at d3
  have d4:=fa bj d3 (show 1+n*(80+8+1)≤268 by omega)
  obtain ⟨e,e1,e2,e3⟩:=ug b3 d2 b4 d4 (by decide)
  have er:y.2.2-F.lin y.1 (F.upd (fun k=>q.getD k 0) i 0) n=dY n i (fun k=>q.getD k 0) (rowOf y):=by
   unfold dY
   rw [wZ hy.1,uc hy.1]
  rw [er] at e2 e3
  obtain ⟨a1,a2⟩:=b1.at (i:=i) (by omega)
  have ec:y.1.getD i 0=ce (rowOf y) i:=(rowOf_ce hy.1 hi).symm
  rw [ec] at a1 a2
  have hsg:Ev (fun k=>dM k (rdT (t:=ai) x.1 (i:Int):aA)) (sgn (ce (rowOf y) i)):=rZ a1
  have hstep:∀ {b:Bd},((s.take (j+1)).map rowOf).foldl (cN (fun r=>dY n i (fun k=>q.getD k 0) r / ce r i) i) Bd.none=b↔cN (fun r=>dY n i (fun k=>q.getD k 0) r / ce r i) i (((s.take j).map rowOf).foldl (cN (fun r=>dY n i (fun k=>q.getD k 0) r / ce r i) i) Bd.none) (rowOf y)=b:=by
   intro b
   rw [et,List.map_append,List.foldl_append];exact Iff.rfl
  generalize hB:((s.take j).map rowOf).foldl (cN (fun r=>dY n i (fun k=>q.getD k 0) r / ce r i) i) Bd.none=B at hb hstep
  have ezero:∀ v,ce (rowOf y) i=0→(gG n (rowOf y) (F.upd (fun k=>q.getD k 0) i v)↔fB 0 y.2.1 (dY n i (fun k=>q.getD k 0) (rowOf y))):=fun v h0=>by
   rw [F.zX hi,h0,Rat.zero_mul];exact Iff.rfl
  have next:∀ u o ou oo lo hi',BR 429 u o ou oo lo hi' (cN (fun r=>dY n i (fun k=>q.getD k 0) r / ce r i) i B (rowOf y))→(ce (rowOf y) i=0→gG n (rowOf y) fun k=>q.getD k 0)→(ce (rowOf y) i≠0→y.2.1≠0)→Ev2 (fun k m=>aV.j0 k m l (i:Int) u o ou oo l (l.length:Int) (j:Int) (r.set i (false,[],[1],())) lo hi') (dc (ExQ n s (fun k=>q.getD k 0) i)):=by
   intro u o ou oo lo hi' h1 h2 h3
   show Ev2 (fun k m=>aV.l0 k m l (i:Int) u o ou oo l (l.length:Int) (wrap64 ((j:Int)+1)) (r.set i (false,[],[1],())) lo hi') _
   rw [ic (by omega)]
   refine ih u o ou oo lo hi' _ _ (by rw [hstep.2 rfl];exact h1) hr0 (fun v=>by rw [List.set_set]) (fun z hz'=>?_) (fun z hz'=>?_)
   ·rw [et] at hz'
    rcases List.mem_append.1 hz' with h | h
    ·exact hz z h
    ·rw [List.mem_singleton.1 h];exact h2
   ·rw [et] at hz'
    rcases List.mem_append.1 hz' with h | h
    ·exact hp z h
    ·rw [List.mem_singleton.1 h];exact h3
  refine Ev2.step (fun k m=>aV.aO k m _ _ _ _ _ _ _ _ _ _ _ _) (Ev2.bT (decide_eq_true (by omega)) (Ev2.iT (by omega) ?_))
  rw [ex]
  refine Ev2.iT (by omega) (Ev2.bind jx (Ev2.iT (by omega) ?_))
  rw [Int.toNat_natCast]
  refine Ev2.bind d1 (Ev2.bind e1 (Ev2.bind hsg ?_))
  have erel:x.2.1=y.2.1:=b2
  rw [erel]
  by_cases c0:ce (rowOf y) i=0
  ·refine Ev2.bT (by rw [wO];exact decide_eq_true c0) (Ev2.bind jx (Ev2.bind (Ex y.2.1 hy.2 (gj eI) e2 (kE eI) e3 (by decide)) ?_))
   by_cases cf:fB 0 y.2.1 (dY n i (fun k=>q.getD k 0) (rowOf y))
   ·rw [eQ cf]
    refine Ev2.bF rfl (next u o ou oo lo hi' ?_ (fun _=>?_) (fun h=>absurd c0 h))
    ·unfold cN;rw [if_pos c0];exact hb
    ·rw [← F.jQ (v:=0) hi c0,ezero 0 c0];exact cf
   ·rw [dh cf]
    have:dc (ExQ n s (fun k=>q.getD k 0) i)=false:=dh (fun ⟨v,hv⟩=>cf ((ezero v c0).1 (hv y hmem)))
    rw [this]
    exact Ev2.bT rfl (Ev2.of (evs _))
  ·refine Ev2.bF (by rw [wO];exact decide_eq_false c0) ?_
   obtain ⟨g,g1,g2,g3⟩:=BG e2 a1 e3 a2 c0 (by decide)
   refine Ev2.bind g1 ?_
   by_cases r0:y.2.1=0
   ·refine Ev2.bT (by rw [r0];rfl) (Ev2.iT (by simp;omega) ?_)
    have hr9:RLs RR 800 ((r.set i (false,[],[1],())).set i g) (q.set i (dY n i (fun k=>q.getD k 0) (rowOf y) / ce (rowOf y) i)):=by
     have:=(hr0.mono bj (show 8≤800 by decide)).set g2 (fa bj g3 (by decide)) i
     have hss:(q.set i 0).set i (dY n i (fun k=>q.getD k 0) (rowOf y) / ce (rowOf y) i)=q.set i (dY n i (fun k=>q.getD k 0) (rowOf y) / ce (rowOf y) i):=List.set_set ..
     rw [hss] at this
     exact this
    have hH:=qv (n:=n) hs hr9 (by omega) (by omega) (by simp;omega) hsn
    have hiff:jV s (q.set i (dY n i (fun k=>q.getD k 0) (rowOf y) / ce (rowOf y) i))↔ExQ n s (fun k=>q.getD k 0) i:=by
     have hsat:∀ v,jV s (q.set i v)↔∀ z,z∈s→gG n (rowOf z) (F.upd (fun k=>q.getD k 0) i v):=fun v=>by
      unfold jV
      constructor
      ·intro h z hz'
       rw [oA (hsn z hz').1,← zp (hsn z hz').1 hq];exact h z hz'
      ·intro h z hz'
       rw [zp (hsn z hz').1 hq,← oA (hsn z hz').1];exact h z hz'
     rw [hsat]
     constructor
     ·intro h;exact ⟨_,h⟩
     ·rintro ⟨v,hv⟩
      have h1:=hv y hmem
      rw [F.wS hi (by show y.2.1=0∨y.2.1=1∨y.2.1=2;omega) c0,if_pos (show (rowOf y).2=0 from r0)] at h1
      rw [← h1];exact hv
    rw [rH hiff] at hH
    exact Ev2.of (Ev.bind hH (evs _))
   ·refine Ev2.bF (by rw [beq_eq_false_iff_ne];exact r0) (Ev2.bind hsg ?_)
    have hx':=fa bj g3 (show 80+268+1+80≤429 by decide)
    have eb:(y.2.1==(2:Int))=decide (y.2.1=2):=by by_cases c:y.2.1=2<;>simp [c]
    have hne:ce (rowOf y) i≠0→y.2.1≠0:=fun _=>r0
    by_cases cp:0<ce (rowOf y) i
    ·have el:cN (fun r=>dY n i (fun k=>q.getD k 0) r / ce r i) i B (rowOf y)=B.lM (dY n i (fun k=>q.getD k 0) (rowOf y) / ce (rowOf y) i) (decide (y.2.1=2)):=by unfold cN;rw [if_neg c0,if_neg (show ¬ (rowOf y).2=0 from r0),if_pos cp];rfl
     rw [el] at next
     generalize dY n i (fun k=>q.getD k 0) (rowOf y) / ce (rowOf y) i=X at g2 hx' next
     refine Ev2.bT (by rw [C1];exact decide_eq_true cp) (Ev2.bind (hi_test hb g2 hx' (by decide)) ?_)
     rw [eb]
     by_cases c1:B.hasHi=false∨X<B.hi
     ·refine Ev2.bT (decide_eq_true c1) (next _ _ _ _ _ _ ?_ (fun h=>absurd h c0) hne)
      unfold Bd.lM
      rw [if_pos c1]
      exact ⟨hb.1,rfl,hb.2.2.1,rfl,hb.2.2.2.2.1,fun _=>⟨g2,hx'⟩⟩
     ·have hh:B.hasHi=true:=by
       cases e:B.hasHi with
       | false=>exact absurd (.inl e) c1
       | true=>rfl
      obtain ⟨k1,k2⟩:=hb.2.2.2.2.2 hh
      refine Ev2.bF (decide_eq_false c1) (Ev2.bind (jr g2 k1 hx' k2 (by decide)) ?_)
      rw [EO]
      by_cases c2:X=B.hi
      ·refine Ev2.bind (a:=decide (y.2.1=2)) (bT (decide_eq_true c2) (evs _)) ?_
       by_cases c3:y.2.1=2
       ·refine Ev2.bT (decide_eq_true c3) (next _ _ _ _ _ _ ?_ (fun h=>absurd h c0) hne)
        unfold Bd.lM
        rw [if_neg c1,if_pos c2]
        exact ⟨hb.1,hb.2.1,hb.2.2.1,by simp [c3],hb.2.2.2.2⟩
       ·refine Ev2.bF (decide_eq_false c3) (next _ _ _ _ _ _ ?_ (fun h=>absurd h c0) hne)
        unfold Bd.lM
        rw [if_neg c1,if_pos c2]
        exact ⟨hb.1,hb.2.1,hb.2.2.1,by simp [c3];exact hb.2.2.2.1,hb.2.2.2.2⟩
      ·refine Ev2.bind (a:=false) (bF (decide_eq_false c2) (evs _)) (Ev2.bF rfl (next _ _ _ _ _ _ ?_ (fun h=>absurd h c0) hne))
       unfold Bd.lM
       rw [if_neg c1,if_neg c2]
       exact hb
    ·have el:cN (fun r=>dY n i (fun k=>q.getD k 0) r / ce r i) i B (rowOf y)=B.lL (dY n i (fun k=>q.getD k 0) (rowOf y) / ce (rowOf y) i) (decide (y.2.1=2)):=by unfold cN;rw [if_neg c0,if_neg (show ¬ (rowOf y).2=0 from r0),if_neg cp];rfl
     rw [el] at next
     generalize dY n i (fun k=>q.getD k 0) (rowOf y) / ce (rowOf y) i=X at g2 hx' next
     refine Ev2.bF (by rw [C1];exact decide_eq_false cp) (Ev2.bind (lo_test hb g2 hx' (by decide)) ?_)
     rw [eb]
     by_cases c1:B.hasLo=false∨B.lo<X
     ·refine Ev2.bT (decide_eq_true c1) (next _ _ _ _ _ _ ?_ (fun h=>absurd h c0) hne)
      unfold Bd.lL
      rw [if_pos c1]
      exact ⟨rfl,hb.2.1,rfl,hb.2.2.2.1,fun _=>⟨g2,hx'⟩,hb.2.2.2.2.2⟩
     ·have hh:B.hasLo=true:=by
       cases e:B.hasLo with
       | false=>exact absurd (.inl e) c1
       | true=>rfl
      obtain ⟨k1,k2⟩:=hb.2.2.2.2.1 hh
      refine Ev2.bF (decide_eq_false c1) (Ev2.bind (jr g2 k1 hx' k2 (by decide)) ?_)
      rw [EO]
      by_cases c2:X=B.lo
      ·refine Ev2.bind (a:=decide (y.2.1=2)) (bT (decide_eq_true c2) (evs _)) ?_
       by_cases c3:y.2.1=2
       ·refine Ev2.bT (decide_eq_true c3) (next _ _ _ _ _ _ ?_ (fun h=>absurd h c0) hne)
        unfold Bd.lL
        rw [if_neg c1,if_pos c2]
        exact ⟨hb.1,hb.2.1,by simp [c3],hb.2.2.2.1,hb.2.2.2.2⟩
       ·refine Ev2.bF (decide_eq_false c3) (next _ _ _ _ _ _ ?_ (fun h=>absurd h c0) hne)
        unfold Bd.lL
        rw [if_neg c1,if_pos c2]
        exact ⟨hb.1,hb.2.1,by simp [c3];exact hb.2.2.1,hb.2.2.2.1,hb.2.2.2.2⟩
      ·refine Ev2.bind (a:=false) (bF (decide_eq_false c2) (evs _)) (Ev2.bF rfl (next _ _ _ _ _ _ ?_ (fun h=>absurd h c0) hne))
       unfold Bd.lL
       rw [if_neg c1,if_neg c2]
       exact hb
theorem Fh (hs:RSs RR 80 l s) (hsn:∀ y∈s,y.1.length=n∧0≤y.2.1∧y.2.1≤2) (hp:RLs RR 8 pt q) (hq:q.length=n) (hi:i<n) (hn:n≤3) (hl:l.length≤40):Ev (fun k=>aV k l pt (i:Int)) (dc (ExQ n s (fun k=>q.getD k 0) i)):=by
 have pl:pt.length=n:=by rw [hp.1,hq]
 refine Ev.step (fun k=>ks k l pt _) (iT (by simp;omega) ?_)
 have:=EA (i:=i) hs hsn hq hi hn hl 0 (by omega) false false false false (false,[],[],()) (false,[],[],()) pt q ⟨rfl,rfl,rfl,rfl,fun e=>by simp [Bd.none] at e,fun e=>by simp [Bd.none] at e⟩ hp (fun v=>rfl) (fun y hy=>by simp at hy) (fun y hy=>by simp at hy)
 exact this.diag
end
end Go.Proofs.YtjimdhlmeebjeaaGreat.Q
end
section
namespace Go.Proofs.YtjimdhlmeebjeaaGreat.Q
open Go.RowKit Go.Proofs.YtjimdhlmeebjeaaGreatW.PrintWords Go.Proofs.YtjimdhlmeebjeaaGreatW.PrintMore Go.Proofs.YtjimdhlmeebjeaaGreat.V Go.Proofs.YtjimdhlmeebjeaaGreat.E
open Go.Proofs.YtjimdhlmeebjeaaGreat.P (Dg Nm vl WW RR bS gI evs evk evb fv aM aY bj w64 u64)
open Go.Proofs.YtjimdhlmeebjeaaGreat.F (rlf cx ce gG qY cW eV jS jB dW tM iB dO gF dV dU fE MB)
set_option linter.unusedVariables false
def nz (i:Nat) (q:List cx):Nat:=(q.filter fun r=>decide (ce r i≠0)).length
theorem nQ (i:Nat) (r:cx) (q:List cx):nz i (r :: q)=(if ce r i≠0 then 1 else 0)+nz i q:=by
 unfold nz
 by_cases c:ce r i=0<;>simp [List.filter_cons,c]
 omega
theorem nz_ins {n i:Nat} {r:cx} (hi:i<n):∀ q:List cx,nz i (qY n r q)≤nz i q+(if ce r i≠0 then 1 else 0)
 | []=>by unfold qY;rw [nQ,Nat.add_comm];exact Nat.le_refl _
 | o :: l=>by
  unfold qY
  by_cases c:F.yJ n r o=true
  ·have e:=(jS.1 c).2.2 i hi
   rw [if_pos c,nQ,nQ]
   have:(if ce (if ce r n<ce o n∨(ce r n=ce o n∧r.2>o.2) then r else o) i≠0 then 1 else 0)=(if ce o i≠0 then 1 else 0):=by
    split<;>simp [e]
   omega
  ·rw [if_neg c,nQ,nQ]
   have:=nz_ins (r:=r) hi l
   omega
theorem Am {n i:Nat} (hi:i<n):∀ (q out:List cx),nz i (q.foldl (cW n) out)≤nz i out+nz i q
 | [],out=>by simp [nz]
 | r :: l,out=>by
  rw [List.foldl_cons,nQ]
  have h1:=Am hi l (cW n out r)
  have h2:nz i (cW n out r)≤nz i out+(if ce r i≠0 then 1 else 0):=by
   unfold cW
   split
   ·omega
   ·exact nz_ins hi out
  omega
theorem Al {i:Nat}:∀ q:List cx,(dV i q).length+(dU i q).length=nz i q
 | []=>rfl
 | r :: l=>by
  have ih:=Al (i:=i) l
  rw [nQ]
  have e1:dV i (r :: l)=(if ce r i<0 then [r] else [])++dV i l:=by unfold dV;by_cases c:ce r i<0<;>simp [List.filter_cons,c]
  have e2:dU i (r :: l)=(if 0<ce r i then [r] else [])++dU i l:=by unfold dU;by_cases c:0<ce r i<;>simp [List.filter_cons,c]
  rw [e1,e2,List.length_append,List.length_append]
  by_cases c1:ce r i<0
  ·have c2:¬ 0<ce r i:=by grind
   have c3:ce r i≠0:=by grind
   rw [if_pos c1,if_neg c2,if_pos c3];simp;omega
  ·by_cases c2:0<ce r i
   ·have c3:ce r i≠0:=by grind
    rw [if_neg c1,if_pos c2,if_pos c3];simp;omega
   ·have c3:¬ ce r i≠0:=by grind
    rw [if_neg c1,if_neg c2,if_neg c3];simp;omega
def pn (i:Nat) (s:List dy):Nat:=(s.filter fun y=>decide (y.1.getD i 0≠0)).length
theorem nz_mat {n i:Nat} {s:List dy} (hn:∀ k,k<s.length→(ln s k).1.length=n) (hi:i<n):nz i (tM n s)=pn i s:=by
 have key:∀ j,j≤s.length→nz i ((List.range j).map (iB n s))=pn i (s.take j):=by
  intro j
  induction j with
  | zero=>intro _;rfl
  | succ j ih =>
   intro hj
   have h1:=ih (by omega)
   have e1:(List.range (j+1)).map (iB n s)=(List.range j).map (iB n s)++[iB n s j]:=by rw [List.range_succ,List.map_append];rfl
   have e2:s.take (j+1)=s.take j++[ln s j]:=by rw [List.take_succ_eq_append_getElem (by omega),qD (by omega)]
   have e3:ce (iB n s j) i=(ln s j).1.getD i 0*F.scf s j:=by
    rw [F.y7 (hn j (by omega)),if_pos hi];rfl
   have e4:ce (iB n s j) i≠0↔(ln s j).1.getD i 0≠0:=by
    rw [e3]
    have hf:=F.jA ((ln s j).1++[(ln s j).2.2])
    have hf':0<F.scf s j:=hf
    constructor
    ·intro h h2;exact h (by rw [h2];grind)
    ·intro h h2
     rcases Rat.mul_eq_zero.1 h2 with h2 | h2
     ·exact h h2
     ·rw [h2] at hf';exact absurd hf' Rat.lt_irrefl
   unfold nz pn at h1 ⊢
   rw [e1,e2,List.filter_append,List.filter_append,List.length_append,List.length_append,h1]
   congr 1
   by_cases c:(ln s j).1.getD i 0≠0
   ·have:=e4.2 c
    rw [List.filter_cons,List.filter_cons,if_pos (decide_eq_true this),if_pos (decide_eq_true c)];rfl
   ·have:¬ ce (iB n s j) i≠0:=fun h=>c (e4.1 h)
    rw [List.filter_cons,List.filter_cons,if_neg (by simpa using this),if_neg (by simpa using c)];rfl
 have:=key s.length (Nat.le_refl _)
 rw [List.take_length] at this
 exact this
theorem Dx {a b:Nat} (h:a+b≤6):a*b≤9:=by
 rcases (by omega:a=0∨a=1∨a=2∨a=3∨a=4∨a=5∨a=6) with e | e | e | e | e | e | e<;>subst e<;>omega
theorem elim_few {n i:Nat} {s:List dy} (hn:∀ k,k<s.length→(ln s k).1.length=n) (hi:i<n) (hs:s.length≤10) (hu:pn i s≤6):(dO n (F.stg n s 0) i).length≤40:=by
 have hp:∀ x:List cx,(eV n x).length≤x.length:=fun x=>by
  have:=F.gU (n:=n) x []
  rw [List.length_nil,Nat.zero_add] at this
  exact this
 have h0:=kb (n:=n) hs 0
 have hl0:LS 0=10:=rfl
 rw [hl0] at h0
 have hnz:nz i (F.stg n s 0)≤6:=by
  have h1:=Am hi (tM n s) []
  rw [nz_mat hn hi] at h1
  have e:nz i ([]:List cx)=0:=rfl
  unfold F.stg eV
  omega
 have hsp:=Al (i:=i) (F.stg n s 0)
 generalize F.stg n s 0=q at h0 hnz hsp
 unfold dO
 split
 ·next k hk =>
  have h1:=hp (F.iq n q k i)
  have h2:=oi (n:=n) (i:=i) (k:=k) (piv:=q.getD k ([],0)) q 0
  unfold F.iq at h1 ⊢
  omega
 ·have h1:=hp (gF i q++fE n i (dV i q) (dU i q))
  have h2:(gF i q).length≤q.length:=List.length_filter_le ..
  rw [List.length_append,sC] at h1
  have:=Dx (a:=(dV i q).length) (b:=(dU i q).length) (by omega)
  omega
def fg (n:Nat) (r:cx):dy:=(r.1.take n,r.2,ce r n)
theorem uF {n:Nat} {r:cx} (hr:n≤r.1.length) (x:Nat→Rat):fB (F.lin (fg n r).1 x n) (fg n r).2.1 (fg n r).2.2↔gG n r x:=by
 have:F.lin (r.1.take n) x n=F.lin r.1 x n:=F.D3 n (fun i hi=>getD_take hi)
 unfold gG fg
 rw [this]
section
variable {n:Nat} {l:List aT} {s:List dy} {i:Nat}
theorem Cz (ha:zC l) (hok:OkS (n:Int) l) (hN:∀ x∈l,Bh 1 x) (hn:n≤3) (hl:l.length≤10) (hi:i<n) :
 ∃ out,RSs WW 20 out ((dO n (F.stg n (eB l) 0) i).map (fg n))∧Ev (fun k=>bR k (n:Int) l (i:Int)) (ifc (OkS (n:Int) out) (out,(0:Int),()) ([],(2:Int),())):=by
 have hsys:=rM hok hN
 have hlen:(eB l).length=l.length:=by simp [eB]
 have hs:=yt hok hN
 have hnum:=num1 n (by omega)
 have hk0:=hnum.1 0 (by omega)
 have hk1:=hnum.1 1 (by omega)
 obtain ⟨m,m1,m2⟩:=xv hs (by decide) hsys.len (by omega) (by omega) (by omega)
 have hke:KS 1 n 0=1+(1*(n+2)+1):=rfl
 rw [← hke] at m2
 have mc:(tM n (eB l)).length=(eB l).length:=by simp [tM]
 have ml:=m2.1
 obtain ⟨v,v1,v2⟩:=ry m2 (by omega) (by omega) (by omega) (by omega)
 have hcn:=kb (n:=n) (s:=eB l) (by omega) 0
 have hl0:LS 0=10:=rfl
 rw [hl0] at hcn
 have vl:=v2.1
 obtain ⟨w,w1,w2⟩:=qF (i:=i) v2 (by omega) hi (by omega) (by
  have:(eV n (tM n (eB l))).length=(F.stg n (eB l) 0).length:=rfl
  omega) (by omega) (by
  have:=Nat.mul_le_mul (show 4*KS 1 n 0+3≤4000003 by omega) (show n+3≤6 by omega)
  omega)
 have hks:(4*KS 1 n 0+2)*(n+3)+1=KS 1 n 1:=rfl
 rw [hks] at w2
 have est:dO n (eV n (tM n (eB l))) i=dO n (F.stg n (eB l) 0) i:=rfl
 rw [est] at w2
 have hwc:=uR (n:=n) (i:=i) (q:=F.stg n (eB l) 0)
 have hwl:=w2.1
 have hsq:=Nat.mul_le_mul hcn hcn
 have hrow:∀ r,r∈dO n (F.stg n (eB l) 0) i→F.qi n (eB l).length (F.af n (eB l)) (rlf (eB l)) (F.scf (eB l)) (2*MB (BK 1) (BK 1) n 0*MB (BK 1) (BK 1) n 0) _ _ r:=F.EC hi (F.kC hsys.pos hsys.posD 0) (F.yf hsys.pos hsys.posD 0) (F.qo hsys 0 (by omega))
 have hbig:2*MB (BK 1) (BK 1) n 0*MB (BK 1) (BK 1) n 0<4294967296 ^ 20:=by
  rcases (by omega:n=0∨n=1∨n=2∨n=3) with e | e | e | e<;>rw [e]<;>decide +kernel
 have hcell:∀ r,r∈dO n (F.stg n (eB l) 0) i→∀ k,k≤n→Sz WW 20 (ce r k):=fun r hr k hk=>by
  obtain ⟨z,z1,z2⟩:=(hrow r hr).int k hk
  rw [z1];exact zL (Nat.lt_of_le_of_lt z2 hbig) (by decide)
 have main:∀ j,j≤w.length→∀ o,RSs WW 20 o (((dO n (F.stg n (eB l) 0) i).map (fg n)).take j)→∃ out,RSs WW 20 out ((dO n (F.stg n (eB l) 0) i).map (fg n))∧Ev2 (fun k m=>bR.l0 k m (n:Int) w (w.length:Int) (j:Int) o) (ifc (OkS (n:Int) out) (out,(0:Int),()) ([],(2:Int),())):=by
  refine dn ?_ (fun j hj ih=>?_)
  ·intro o ho
   rw [List.take_of_length_le (by simp;omega)] at ho
   refine ⟨o,ho,Ev2.step (fun k m=>bR.aO k m _ _ _ _ _) (Ev2.bF (decide_eq_false (by omega)) (Ev2.of ?_))⟩
   have ol:=ho.1
   have hao:zC o:=⟨by simp at ol;omega,fun x hx=>by
    obtain ⟨k,hk,rfl⟩:=List.getElem_of_mem hx
    obtain ⟨b1,b2,b3,b4⟩:=ho.2 k hk (by omega)
    refine ⟨zw (B:=WW) b1 (by decide) ?_,tD b3 b4 (by decide)⟩
    rw [b1.1,List.getElem_map]
    simp [fg];omega⟩
   have hc:=wo (n:=(n:Int)) hao
   by_cases c:OkS (n:Int) o
   ·rw [tm c] at hc ⊢
    exact Ev.bind hc (bF rfl (evs _))
   ·rw [qZ c] at hc ⊢
    exact Ev.bind hc (bT rfl (evs _))
  ·intro o ho
   have hjq:j<(dO n (F.stg n (eB l) 0) i).length:=by omega
   obtain ⟨a,b,c⟩:=w2.at hj
   have hmem:(dO n (F.stg n (eB l) 0) i).getD j ([],0)∈dO n (F.stg n (eB l) 0) i:=by
    rw [List.getD_eq_getElem?_getD,List.getElem?_eq_getElem hjq];exact List.getElem_mem _
   have et:((dO n (F.stg n (eB l) 0) i).map (fg n)).take (j+1)=((dO n (F.stg n (eB l) 0) i).map (fg n)).take j++[fg n ((dO n (F.stg n (eB l) 0) i).getD j ([],0))]:=by
    rw [List.take_succ_eq_append_getElem (by simpa using hjq),List.getElem_map,List.getD_eq_getElem?_getD,List.getElem?_eq_getElem hjq];rfl
   have hce:=hcell _ hmem
   generalize hR:(dO n (F.stg n (eB l) 0) i).getD j ([],0)=r at a b et hce
   generalize hW:(rdT (t:=aj) w (j:Int):bE)=y at a c
   obtain ⟨k1,k2⟩:=a.at (i:=n) (by omega)
   have hcopy:=nT k1 k2 (by omega)
   have tl:(y.1.take n).length=n:=by simp;omega
   have ol:o.length=j:=by rw [ho.1];simp;omega
   have inner:∀ g,g≤n→∃ out,RSs WW 20 out ((dO n (F.stg n (eB l) 0) i).map (fg n))∧Ev3 (fun k m1 m0=>bR.l1 k m1 m0 (n:Int) w (w.length:Int) (j:Int) (y.1.take n) (n:Int) (g:Int) o y.2.2.1 (rdT (t:=ah) y.1 (n:Int):aA) ((y.1.take n).take g)) (ifc (OkS (n:Int) out) (out,(0:Int),()) ([],(2:Int),())):=by
    refine dn ?_ (fun g hg ih2=>?_)
    ·have eg:(y.1.take n).take n=y.1.take n:=List.take_of_length_le (by omega)
     rw [eg]
     have hline:RLn WW 20 (y.1.take n,y.2.2.1,(rdT (t:=ah) y.1 (n:Int):aA),()) (fg n r):=by
      refine ⟨rY (a.1.take n) (fun x hx=>?_),a.2.2,k1,hce n (Nat.le_refl _)⟩
      obtain ⟨q,hq,rfl⟩:=F.qC hx
      exact hce q (by omega)
     obtain ⟨out,o1,o2⟩:=ih (o++[(y.1.take n,y.2.2.1,(rdT (t:=ah) y.1 (n:Int):aA),())]) (by rw [et];exact ho.snoc hline)
     refine ⟨out,o1,Ev3.step (fun k m1 m0=>bR.bZ k m1 m0 _ _ _ _ _ _ _ _ _ _ _) (Ev3.bF (decide_eq_false (by omega)) (Ev3.iT (by simp;omega) ?_))⟩
     rw [ic (by omega)]
     exact Ev3.of o2
    ·obtain ⟨out,o1,o2⟩:=ih2
     obtain ⟨g1,g2⟩:=a.at (i:=g) (by omega)
     have e3:(rdT (t:=ah) (y.1.take n) (g:Int):aA)=(rdT (t:=ah) y.1 (g:Int):aA):=by
      rw [cB (by omega),cB (by omega)];simp
     have hcg:=nT g1 g2 (by omega)
     have eg:(y.1.take n).take (g+1)=(y.1.take n).take g++[(rdT (t:=ah) y.1 (g:Int):aA)]:=by
      rw [List.take_succ_eq_append_getElem (by omega),← e3,cB (by omega)]
     rw [eg] at o2
     have gl:((y.1.take n).take g).length=g:=by simp;omega
     refine ⟨out,o1,Ev3.step (fun k m1 m0=>bR.bZ k m1 m0 _ _ _ _ _ _ _ _ _ _ _) (Ev3.bT (decide_eq_true (by omega)) (Ev3.iT (by omega) ?_))⟩
     rw [e3]
     refine Ev3.bind hcg (Ev3.iT (by simp only [List.length_append,gl,List.length_cons,List.length_nil];omega) ?_)
     rw [ic (by omega)];exact o2
   obtain ⟨out,o1,o2⟩:=inner 0 (by omega)
   refine ⟨out,o1,Ev2.step (fun k m=>bR.aO k m _ _ _ _ _) (Ev2.bT (decide_eq_true (by omega)) (Ev2.iT (by omega) ?_))⟩
   rw [hW]
   refine Ev2.bind (ga a (by omega) (by omega)) (Ev2.bind hcopy (Ev2.iT (by omega) ?_))
   rw [Int.toNat_natCast,tl]
   rw [List.take_zero] at o2
   exact o2.diag
 obtain ⟨out,o1,o2⟩:=main 0 (by omega) [] ⟨rfl,fun i h=>by simp at h⟩
 refine ⟨out,o1,Ev.step (fun k=>kq k _ _ _) (Ev.bind (tz ha hok (by omega) (by omega)) (bF rfl (Ev.bind (or_ev _ _) ?_)))⟩
 have eb:(decide ((i:Int)<0)||decide ((i:Int)≥(n:Int)))=false:=by
  rw [decide_eq_false (by omega),decide_eq_false (by omega)];rfl
 exact bF eb (Ev.bind m1 (Ev.bind v1 (Ev.bind w1 o2.diag)))
end
end Go.Proofs.YtjimdhlmeebjeaaGreat.Q
end
section
namespace Go.Proofs.YtjimdhlmeebjeaaGreat.Q
open Go.RowKit Go.Proofs.YtjimdhlmeebjeaaGreatW.PrintWords Go.Proofs.YtjimdhlmeebjeaaGreatW.PrintMore Go.Proofs.YtjimdhlmeebjeaaGreat.V Go.Proofs.YtjimdhlmeebjeaaGreat.E
open Go.Proofs.YtjimdhlmeebjeaaGreat.P (Dg Nm vl WW RR bS gI evs evk evb fv aM aY bj w64 u64)
open Go.Proofs.YtjimdhlmeebjeaaGreat.F (rlf cx ce gG dO)
set_option linter.unusedVariables false
theorem short_ev {l:List aA} (ha:Args l):∃ t,Ev (fun k=>bG k l) t∧(t=true→∀ x∈l,x.2.1.length≤2∧x.2.2.1.length≤2):=by
 have main:∀ i,i≤l.length→(∀ j,j<i→∀ h:j<l.length,l[j].2.1.length≤2∧l[j].2.2.1.length≤2)→∃ r,Ev2 (fun k m=>bG.l0 k m l (l.length:Int) (i:Int)) r∧(r=true→∀ x∈l,x.2.1.length≤2∧x.2.2.1.length≤2):=by
  refine dn ?_ (fun i hi ih=>?_)
  ·intro hall
   exact ⟨true,Ev2.step (fun k m=>bG.aO k m _ _ _) (Ev2.bF (decide_eq_false (by omega)) (Ev2.of (evs _))),fun _=>j7.2 hall⟩
  ·intro hall
   have e:(rdT (t:=ah) l (i:Int):aA)=l[i]:=cB hi
   have hsh:=fq l[i] 2
   by_cases c:l[i].2.1.length≤2∧l[i].2.2.1.length≤2
   ·rw [decide_eq_true c] at hsh
    obtain ⟨r,r1,r2⟩:=ih (fun j hj h=>by
     by_cases e':j=i
     ·subst e';exact c
     ·exact hall j (by omega) h)
    refine ⟨r,Ev2.step (fun k m=>bG.aO k m _ _ _) (Ev2.bT (decide_eq_true (by omega)) (Ev2.iT (by omega) ?_)),r2⟩
    rw [e]
    refine Ev2.bind hsh (Ev2.bF rfl ?_)
    rw [ic (Nat.lt_of_lt_of_le hi ha.1)];exact r1
   ·rw [decide_eq_false c] at hsh
    refine ⟨false,Ev2.step (fun k m=>bG.aO k m _ _ _) (Ev2.bT (decide_eq_true (by omega)) (Ev2.iT (by omega) ?_)),fun h=>by simp at h⟩
    rw [e]
    exact Ev2.bind hsh (Ev2.bT rfl (Ev2.of (evs _)))
 obtain ⟨r,r1,r2⟩:=main 0 (by omega) (fun j h=>by omega)
 exact ⟨r,Ev.step (fun k=>kX k _) r1.diag,r2⟩
theorem yc (N:Nat) {l:List aT} (ha:zC l) (h:∀ x∈l,Bh N x∧x.1.length≤12):Ev (fun k=>aw k l (N:Int)) true:=by
 have main:∀ i,i≤l.length→Ev2 (fun k m=>aw.l0 k m (N:Int) l (l.length:Int) (i:Int)) true:=by
  refine dn (Ev2.step (fun k m=>aw.aO k m _ _ _ _) (Ev2.bF (decide_eq_false (by omega)) (Ev2.of (evs _)))) (fun i hi ih=>?_)
  have e:(rdT (t:=av) l (i:Int):aT)=l[i]:=cB hi
  obtain ⟨⟨h1,h2⟩,h3⟩:=h _ (List.getElem_mem hi)
  have hsh:=fq l[i].2.2.1 N
  rw [decide_eq_true h1] at hsh
  have inner:∀ j,j≤l[i].1.length→Ev3 (fun k m1 m0=>aw.l1 k m1 m0 (N:Int) l (l.length:Int) (i:Int) l[i].1 (l[i].1.length:Int) (j:Int)) true:=by
   refine dn (Ev3.step (fun k m1 m0=>aw.bZ k m1 m0 _ _ _ _ _ _ _) (Ev3.bF (decide_eq_false (by omega)) (Ev3.of ?_))) (fun j hj ih2=>?_)
   ·rw [ic (Nat.lt_of_lt_of_le hi ha.1)];exact ih
   ·have ej:(rdT (t:=ah) l[i].1 (j:Int):aA)=l[i].1[j]:=cB hj
    have hsj:=fq l[i].1[j] N
    rw [decide_eq_true (h2 _ (List.getElem_mem hj))] at hsj
    refine Ev3.step (fun k m1 m0=>aw.bZ k m1 m0 _ _ _ _ _ _ _) (Ev3.bT (decide_eq_true (by omega)) (Ev3.iT (by omega) (Ev3.bind (by rw [ej];exact hsj) (Ev3.bF rfl ?_))))
    rw [ic (by omega)];exact ih2
  refine Ev2.step (fun k m=>aw.aO k m _ _ _ _) (Ev2.bT (decide_eq_true (by omega)) (Ev2.iT (by omega) (Ev2.bind (a:=false) (bF (by rw [e];exact decide_eq_false (by omega)) (Ev.bind (a:=true) (by rw [e];exact hsh) (evs _))) (Ev2.bF rfl ?_))))
  rw [e];exact (inner 0 (by omega)).diag
 exact Ev.step (fun k=>gw k _ _) (main 0 (by omega)).diag
theorem DQ {v:aA} {p:Rat} (h:RB WW v p):decide ((List.length v.2.1:Int)>0)=decide (p≠0):=by
 rw [D6 aM h.2.1]
 by_cases c:p=0
 ·subst c;rfl
 ·have:p.num≠0:=fun e=>c (Rat.num_eq_zero.1 e)
  rw [decide_eq_true c,decide_eq_true (show ((p.num.natAbs:Nat):Int)≠0 by omega)]
section
variable {n:Nat} {l:List aT} {i:Nat} {pt:List aA}
theorem proj_l1 (ha:zC l) (hok:OkS (n:Int) l) (hN:∀ x∈l,Bh 1 x) (hn:n≤3) (hl:l.length≤10) (hi:i<n) (hp:(∀ x∈pt,VN 200 x)∧(pt.length:Int)=(n:Int)) (hsh:∀ x∈pt,x.2.1.length≤2∧x.2.2.1.length≤2) {out:List aT} (ho:RSs WW 20 out ((dO n (F.stg n (eB l) 0) i).map (fg n))) (hoo:OkS (n:Int) out) :
 Ev2 (fun k m=>az.l1 k m l (i:Int) pt out out (out.length:Int) ((0:Nat):Int)) true:=by
 have hsys:=rM hok hN
 have ol:=ho.1
 have o40:=hoo.1.2.2
 have hrl:=F.rP hsys (show 0≤n by omega)
 have herel:=F.AO (n:=n) (i:=i) (F.rO hsys (show 0≤n by omega))
 have helen:=F.AP (n:=n) (i:=i) hrl
 have hgone:=F.xP (n:=n) (i:=i) hrl
 have key:∀ j,j≤out.length→Ev2 (fun k m=>az.l1 k m l (i:Int) pt out out (out.length:Int) (j:Int)) true:=by
  refine dn ?_ (fun j hj ih=>?_)
  ·have vn2:∀ x∈pt,VN 2 x:=fun x hx=>by
    obtain ⟨a,b⟩:=qm (hp.1 x hx)
    exact ⟨_,a,vd aM a (hsh x hx).1 (hsh x hx).2⟩
   obtain ⟨r,r1,r2⟩:=Fc (l:=pt) (N:=2) (by have:=hp.2;omega) vn2 (by decide)
   obtain ⟨o,o1,o2⟩:=Of_sp hoo
   obtain ⟨so,s1,s2⟩:=Of_sp hok
   have hvl:(nu pt).length=n:=by rw [nJ];have:=hp.2;omega
   have vout:eB out=(dO n (F.stg n (eB l) 0) i).map (fg n):=by
    refine List.ext_getElem (by simp [eB,ol]) (fun k h1 h2=>?_)
    have hk:k<out.length:=by simpa [eB] using h1
    obtain ⟨b1,b2,b3,b4⟩:=ho.2 k hk h2
    have eo:(eB out)[k]=o9 out[k]:=by simp [eB]
    rw [eo]
    have e1:=CJ b1
    have e2:=vm b3
    generalize ((dO n (F.stg n (eB l) 0) i).map (fg n))[k]=y at b2 e1 e2
    obtain ⟨y1,y2,y3⟩:=y
    simp only at b2 e1 e2
    simp only [o9,e1,e2,b2]
   rw [vout] at o2
   have hsn1:∀ y∈(dO n (F.stg n (eB l) 0) i).map (fg n),y.1.length=n∧0≤y.2.1∧y.2.1≤2:=fun y hy=>by
    obtain ⟨r,hr,rfl⟩:=List.mem_map.1 hy
    have h1:=helen r hr
    have h2:=herel r hr
    unfold F.jc at h2
    refine ⟨by simp [fg];omega,?_,?_⟩<;>simp only [fg]<;>omega
   have hsn2:∀ y∈eB l,y.1.length=n∧0≤y.2.1∧y.2.1≤2:=fun y hy=>by
    obtain ⟨k,hk,rfl⟩:=List.getElem_of_mem hy
    have h1:=hsys.len k hk
    have h2:=hsys.rel k hk
    unfold rlf at h2
    rw [qD hk] at h1 h2
    exact ⟨h1,by omega,by omega⟩
   have r800:=r2.mono bj (show 4*2≤800 by decide)
   have hH:=qv (n:=n) o2 r800 (by rw [o2.1,← ol];omega) (by omega) (by rw [r2.1];exact hvl) hsn1
   have hE:=Fh (i:=i) (n:=n) s2 hsn2 r2 hvl hi hn (by rw [s2.1];simp [eB];omega)
   have hiff:jV ((dO n (F.stg n (eB l) 0) i).map (fg n)) (nu pt)↔ExQ n (eB l) (fun k=>(nu pt).getD k 0) i:=by
    have h1:jV ((dO n (F.stg n (eB l) 0) i).map (fg n)) (nu pt)↔∀ r,r∈dO n (F.stg n (eB l) 0) i→gG n r (fun k=>(nu pt).getD k 0):=by
     unfold jV
     constructor
     ·intro h r hr
      have:=h _ (List.mem_map.2 ⟨r,hr,rfl⟩)
      have hl':=(hsn1 _ (List.mem_map.2 ⟨r,hr,rfl⟩)).1
      unfold uS at this
      rw [hl',← s9 (p:=fun k=>(nu pt).getD k 0) n (fun _ _=>rfl)] at this
      exact (uF (by rw [helen r hr];omega) _).1 this
     ·intro h y hy
      obtain ⟨r,hr,rfl⟩:=List.mem_map.1 hy
      have hl':=(hsn1 _ hy).1
      unfold uS
      rw [hl',← s9 (p:=fun k=>(nu pt).getD k 0) n (fun _ _=>rfl)]
      exact (uF (by rw [helen r hr];omega) _).2 (h r hr)
    rw [h1,F.AN hi hrl (F.rO hsys (by omega))]
    unfold ExQ
    constructor
    ·rintro ⟨v,hv⟩
     refine ⟨v,fun y hy=>?_⟩
     obtain ⟨k,hk,rfl⟩:=List.getElem_of_mem hy
     have:=(F.vg hsys).1 hv k hk
     unfold rlf kf at this
     rw [qD hk] at this
     rw [oA (hsn2 _ hy).1];exact this
    ·rintro ⟨v,hv⟩
     refine ⟨v,(F.vg hsys).2 (fun k hk=>?_)⟩
     have:=hv _ (List.getElem_mem hk)
     rw [oA (hsn2 _ (List.getElem_mem hk)).1] at this
     unfold rlf kf
     rw [qD hk];exact this
   rw [rH hiff] at hH
   refine Ev2.step (fun k m=>az.bZ k m _ _ _ _ _ _ _) (Ev2.bF (decide_eq_false (by omega)) (Ev2.of (Ev.bind r1 (Ev.bind o1 (Ev.bind hH (Ev.bind s1 (Ev.bind hE ?_)))))))
   rw [beq_self_eq_true];exact evs _
  ·have hj':j<((dO n (F.stg n (eB l) 0) i).map (fg n)).length:=by omega
   obtain ⟨b1,b2,b3,b4⟩:=ho.2 j hj hj'
   have hjq:j<(dO n (F.stg n (eB l) 0) i).length:=by simpa using hj'
   have hmem:=List.getElem_mem hjq
   have e:(rdT (t:=av) out (j:Int):aT)=out[j]:=cB hj
   rw [List.getElem_map] at b1
   have hR:=helen _ hmem
   have hG:=hgone _ hmem
   have bl:out[j].1.length=n:=by rw [b1.1];simp [fg];omega
   obtain ⟨c1,_⟩:=b1.at (i:=i) (by omega)
   have ec:(fg n (dO n (F.stg n (eB l) 0) i)[j]).1.getD i 0=0:=by
    unfold fg
    rw [getD_take hi];exact hG
   rw [ec] at c1
   refine Ev2.step (fun k m=>az.bZ k m _ _ _ _ _ _ _) (Ev2.bT (decide_eq_true (by omega)) (Ev2.iT (by omega) ?_))
   rw [e]
   refine Ev2.iT (by omega) (Ev2.bF (by rw [DQ c1];simp) ?_)
   rw [ic (by omega)];exact ih
 exact key 0 (by omega)
theorem oS {n i:Int} {l:List aT} {pt:List aA} (hn:(Lit.int .i64 n).wf=true) (ha:zC l) (hi:(Lit.int .i64 i).wf=true) (hp:Args pt):Ev (fun k=>az k n l i pt) true:=by
 obtain ⟨t,t1,t2⟩:=light_ev (n:=n) 10 ha
 obtain ⟨u,u1,u2⟩:=short_ev hp
 have hL:=yv n hp
 refine Ev.step (fun k=>im k n l i pt) (Ev.bind EY (bF rfl (Ev.bind t1 (Ev.bind (orn_ev _ hL) (Ev.bind (orn_ev _ u1) ?_)))))
 generalize hb:((!t||!dc ((∀ x∈pt,VN 200 x)∧(pt.length:Int)=n))||!u)=b
 cases b with
 | true=>exact bT rfl (evs _)
 | false =>
  refine bF rfl ?_
  simp only [Bool.or_eq_false_iff,Bool.not_eq_false'] at hb
  obtain ⟨⟨rfl,hlist⟩,rfl⟩:=hb
  rw [dc_iff] at hlist
  obtain ⟨h1,h2,h3,h4⟩:=t2 rfl
  have hsh:=u2 rfl
  obtain ⟨N,rfl⟩:∃ N:Nat,n=(N:Int):=⟨n.toNat,by have:=h4.1.1;omega⟩
  by_cases hr:i<0∨i≥(N:Int)
  ·have e:(decide (i<0)||decide (i≥(N:Int)))=true:=by rcases hr with h | h<;>simp [h]
   have hP:Ev (fun k=>bR k (N:Int) l i) ([],(1:Int),()):=Ev.step (fun k=>kq k _ _ _) (Ev.bind (tz ha h4 (by omega) (by omega)) (bF rfl (Ev.bind (or_ev _ _) (bT e (evs _)))))
   refine Ev.bind hP (Ev.bind (or_ev _ _) (bT e ?_))
   exact Ev.bind (a:=true) (bT rfl (evs _)) (evs _)
  ·have e:(decide (i<0)||decide (i≥(N:Int)))=false:=by
    simp only [not_or] at hr
    rw [decide_eq_false hr.1,decide_eq_false hr.2];rfl
   obtain ⟨I,rfl⟩:∃ I:Nat,i=(I:Int):=⟨i.toNat,by omega⟩
   have hi':I<N:=by omega
   have hsys:=rM h4 h3
   have vlen:(eB l).length=l.length:=by simp [eB]
   obtain ⟨out,o1,o2⟩:=Cz (i:=I) ha h4 h3 (by omega) (by omega) hi'
   refine Ev.bind o2 (Ev.bind (or_ev _ _) (bF e ?_))
   have key:∀ j,j≤l.length→∀ res:List aT×Int×Unit,res=ifc (OkS (N:Int) out) (out,(0:Int),()) ([],(2:Int),())→Ev2 (fun k m=>az.l0 k m (N:Int) l (I:Int) pt res.1 res.2.1 ((pn I ((eB l).take j):Nat):Int) l (l.length:Int) (j:Int)) true:=by
    refine dn ?_ (fun j hj ih=>?_)
    ·intro res hres
     have et:(eB l).take l.length=eB l:=by rw [← vlen,List.take_length]
     rw [et]
     by_cases hu:pn I (eB l)≤6
     ·have hfew:=elim_few hsys.len hi' (by omega) hu
      have ool:out.length≤40:=by rw [o1.1];simpa using hfew
      have hrl:=F.rP hsys (show 0≤N by omega)
      have herel:=F.AO (n:=N) (i:=I) (F.rO hsys (show 0≤N by omega))
      have helen:=F.AP (n:=N) (i:=I) hrl
      have each:∀ x∈out,ArgL x∧OkL (N:Int) x∧Bh 20 x:=fun x hx=>by
       obtain ⟨k,hk,rfl⟩:=List.getElem_of_mem hx
       have hk':k<((dO N (F.stg N (eB l) 0) I).map (fg N)).length:=by rw [← o1.1];exact hk
       have b:=o1.2 k hk hk'
       have hkq:k<(dO N (F.stg N (eB l) 0) I).length:=by simpa using hk'
       have hmem:=List.getElem_mem hkq
       have q1:=helen _ hmem
       have q2:=herel _ hmem
       unfold F.jc at q2
       have hln:LnOK 20 N out[k] ((dO N (F.stg N (eB l) 0) I).map (fg N))[k]:=by
        refine ⟨b,?_,?_,?_⟩<;>rw [List.getElem_map]<;>simp only [fg]
        ·simp;omega
        ·omega
        ·omega
       obtain ⟨c1,c2,c3,_⟩:=vL hln (by decide) (by omega)
       exact ⟨c1,c2,c3⟩
      have hoo:OkS (N:Int) out:=⟨⟨by omega,by omega,ool⟩,fun x hx=>(each x hx).2.1⟩
      have hao:zC out:=⟨by omega,fun x hx=>(each x hx).1⟩
      rw [tm hoo] at hres
      subst hres
      have hnum:Ev (fun k=>aw k out ((20:Nat):Int)) true:=yc 20 hao (fun x hx=>⟨(each x hx).2.2,by have:=(each x hx).2.1.1.1;omega⟩)
      have hval:=oC (n:=(N:Int)) hao
      rw [tm hoo] at hval
      have hl1:=proj_l1 ha h4 h3 (by omega) (by omega) hi' hlist hsh o1 hoo
      refine Ev2.step (fun k m=>az.aO k m _ _ _ _ _ _ _ _ _ _) (Ev2.bF (decide_eq_false (by omega)) (Ev2.bF (decide_eq_false (by omega)) (Ev2.of ?_)))
      refine Ev.bind (a:=false) (bF rfl (by rw [decide_eq_false (show ¬ (List.length out:Int)>40 by omega)];exact evs _)) (Ev.bind (a:=false) (bF rfl (Ev.bind hnum (evs _))) (Ev.bind (a:=false) (bF rfl (Ev.bind hval (evs _))) (bF rfl hl1.diag)))
     ·exact Ev2.step (fun k m=>az.aO k m _ _ _ _ _ _ _ _ _ _) (Ev2.bF (decide_eq_false (by omega)) (Ev2.bT (decide_eq_true (by omega)) (Ev2.of (evs _))))
    ·intro res hres
     have ej:(rdT (t:=av) l (j:Int):aT)=l[j]:=cB hj
     have o:=h4.2 _ (List.getElem_mem hj)
     have xl:l[j].1.length=N:=by have:=o.1.1;omega
     have ei:(rdT (t:=ah) l[j].1 (I:Int):aA)=l[j].1[I]:=cB (by omega)
     have hv:=(qm (o.2 _ (List.getElem_mem (show I<l[j].1.length by omega)))).1
     have hjv:j<(eB l).length:=by omega
     have et:(eB l).take (j+1)=(eB l).take j++[o9 l[j]]:=by
      rw [List.take_succ_eq_append_getElem hjv];simp [eB]
     have ec:(o9 l[j]).1.getD I 0=Bn l[j].1[I]:=by simp [o9,nu,List.getD_eq_getElem?_getD,xl,hi']
     have eu:pn I ((eB l).take (j+1))=pn I ((eB l).take j)+(if Bn l[j].1[I]≠0 then 1 else 0):=by
      unfold pn
      rw [et,List.filter_append,List.length_append,List.filter_cons,ec]
      by_cases c:Bn l[j].1[I]=0<;>simp [c]
     have ul:pn I ((eB l).take j)≤j:=by
      unfold pn
      have:=List.length_filter_le (fun y:dy=>decide (y.1.getD I 0≠0)) ((eB l).take j)
      simp at this ⊢;omega
     have:=ih res hres
     rw [eu] at this
     refine Ev2.step (fun k m=>az.aO k m _ _ _ _ _ _ _ _ _ _) (Ev2.bT (decide_eq_true (by omega)) (Ev2.iT (by omega) ?_))
     rw [ej]
     refine Ev2.iT (by omega) ?_
     rw [ei,DQ hv]
     by_cases c:Bn l[j].1[I]=0
     ·rw [if_neg (by simpa using c)] at this
      refine Ev2.bF (by simpa using c) ?_
      show Ev2 (fun k m=>az.l0 k m (N:Int) l (I:Int) pt res.1 res.2.1 ((pn I ((eB l).take j):Nat):Int) l (l.length:Int) (wrap64 ((j:Int)+1))) true
      rw [ic (by omega)];exact this
     ·rw [if_pos c] at this
      refine Ev2.bT (by simpa using c) ?_
      show Ev2 (fun k m=>az.l0 k m (N:Int) l (I:Int) pt res.1 res.2.1 (wrap64 (((pn I ((eB l).take j):Nat):Int)+1)) l (l.length:Int) (wrap64 ((j:Int)+1))) true
      rw [ic (by omega),ic (by omega)];exact this
   have:=key 0 (by omega) _ rfl
   exact this.diag
end
end Go.Proofs.YtjimdhlmeebjeaaGreat.Q
end
section
namespace Go.Proofs.YtjimdhlmeebjeaaGreat.linearProjects
open Go.ChangeShapes Go.WideShapes Go.ChangeAt Go.RowKit
open Go.ChangeMaps (open_string shut_string)
open Go.Proofs.YtjimdhlmeebjeaaGreat.V Go.Proofs.YtjimdhlmeebjeaaGreat.E
theorem own:ownKnob Tryz.prog.godebug=none:=by kernel_rfl
theorem laidOut:laidOutB Tryz.prog=true:=by kernel_rfl
set_option maxRecDepth 100000 in
theorem lifted (os:Os) (started:os.Started) (H:Type) (enc:TypeId×Value→H) :
 ReturnsInHanded {} Tryz.checked os 5 .any (Rows.linearProjectsSpec.pre6 enc Tryz.prog Tryz.f5 Rows.linearProjectsRow.domain false) (Rows.linearProjectsSpec.post enc Tryz.prog Tryz.f5 false true false false):=by
 refine returnsInHanded_of_change_sized (C:=Tryz.checked) own started (by kernel_rfl) Tryz.func5
  (ChangeSpec.witness6 (enc:=enc) (C:=Tryz.checked) false ⟨#[],#[.int .i64 0,.slice none 0 0,.int .i64 0,.slice none 0 0],[]⟩ 8 (by kernel_rfl) (by kernel_rfl) (by kernel_rfl) (by kernel_rfl)) ?_
 intro W base args ds gs before hval0 hW hcnd hsz0 _
 have hval:∀ (j:Nat) t v,Tryz.f5.params[j]?=some t→args[j]?=some v→Value.okWide Tryz.prog W .any base t v:=hval0
 have hW':=hW
 obtain ⟨p,q,hA0,hV,rfl,hfz,hnd⟩:=hW
 have hA:DataW.TrodAll enc Tryz.prog W 0 (fun _=>true) true Tryz.f5.params.toList args.toList ds p:=hA0
 rw [Tryz.params5] at hA hval
 obtain ⟨v0,vs0,d0,ds0,p0,q0,hargs,rfl,rfl,h0,r0⟩:=trodAll_cons hA
 obtain ⟨v1,vs1,d1,ds1,p1,q1,rfl,rfl,rfl,h1,r1⟩:=trodAll_cons r0
 obtain ⟨v2,vs2,d2,ds2,p2,q2,rfl,rfl,rfl,h2,r2⟩:=trodAll_cons r1
 obtain ⟨v3,vs3,d3,ds3,p3,q3,rfl,rfl,rfl,h3,r3⟩:=trodAll_cons r2
 obtain ⟨rfl,rfl,rfl⟩:=trodAll_nil r3
 obtain rfl:args = #[v0,v1,v2,v3]:=by cases args;simp_all
 obtain ⟨rfl,rfl⟩:=trodVars_none hV
 have k0:=h0
 have lt0:∀ x∈p0,x.block<W.heap.size:=by obtain ⟨m,hm⟩:=k0;exact DataW.trod_lt m _ _ _ hm
 obtain ⟨y0,f0,g0⟩:=wh Q.wA (n:=16) (t:=3) (c:=(.int .i64)) (by kernel_rfl) (by kernel_rfl) (hval 0 3 v0 rfl rfl) h0
 have k1:=h1
 have lt1:∀ x∈p1,x.block<W.heap.size:=by obtain ⟨m,hm⟩:=k1;exact DataW.trod_lt m _ _ _ hm
 obtain ⟨y1,f1,g1⟩:=wh Q.wA (n:=16) (t:=22) (c:=(.list av)) (by kernel_rfl) (by kernel_rfl) (hval 1 22 v1 rfl rfl) h1
 have k2:=h2
 have lt2:∀ x∈p2,x.block<W.heap.size:=by obtain ⟨m,hm⟩:=k2;exact DataW.trod_lt m _ _ _ hm
 obtain ⟨y2,f2,g2⟩:=wh Q.wA (n:=16) (t:=3) (c:=(.int .i64)) (by kernel_rfl) (by kernel_rfl) (hval 2 3 v2 rfl rfl) h2
 have k3:=h3
 have lt3:∀ x∈p3,x.block<W.heap.size:=by obtain ⟨m,hm⟩:=k3;exact DataW.trod_lt m _ _ _ hm
 obtain ⟨y3,f3,g3⟩:=wh Q.wA (n:=16) (t:=27) (c:=(.list ah)) (by kernel_rfl) (by kernel_rfl) (hval 3 27 v3 rfl rfl) h3
 clear hA0 hval0 hsz0
 obtain ⟨k,hk⟩:=(Q.oS (Q.E3 f0) (Q.E2 f1) (Q.E3 f2) (Q.Ba f3)).rounds
 obtain ⟨_,pv,hp,hF⟩:=(AL Q.wA orc_ok Q.mixed Q.noGo k).fn 5 [.v (.int .i64) y0,.v (.list av) y1,.v (.int .i64) y2,.v (.list ah) y3] true rfl hk
 obtain rfl:=Option.some.inj hp
 refine (hF (fun b=>b<W.heap.size) W #[v0,v1,v2,v3] (fun b h=>h) rfl (fun i h=>?_)).mono fun e W' ⟨v,he,bel,hv⟩=>?_
 ·match i,h with
  | 0,h=>exact g0
  | 1,h=>exact g1
  | 2,h=>exact g2
  | 3,h=>exact g3
  | i+4,h=>exact absurd h (by simp only [List.length_map,List.length_cons,List.length_nil];omega)
 ·have hb:=vrel_lit hv
  subst hb
  subst he
  exact ⟨_,rfl,_,_,_,[],_,[],hW',trodAll_mk1 (shut_bool Tryz.underlying4 _),(trodAll_cons_mk (Below.trod laidOut (by kernel_rfl) (of_decide_eq_true (by kernel_rfl)) k0 bel lt0) (trodAll_cons_mk (Below.trod laidOut (by kernel_rfl) (of_decide_eq_true (by kernel_rfl)) k1 bel lt1) (trodAll_cons_mk (Below.trod laidOut (by kernel_rfl) (of_decide_eq_true (by kernel_rfl)) k2 bel lt2) (trodAll_cons_mk (Below.trod laidOut (by kernel_rfl) (of_decide_eq_true (by kernel_rfl)) k3 bel lt3) trodAll_mk0)))),rfl,bel.frame _,fun h=>by cases h⟩
theorem over:Rows.linearProjectsRow.holds Tryz.pinned (OpenSpec.ofChange Rows.linearProjectsSpec) :=
 OpenClaim.holds_of_wide 5 Tryz.f5 rfl rfl rfl rfl rfl rfl rfl ⟨rfl,rfl,rfl,rfl,rfl⟩ rfl rfl rfl rfl rfl (by kernel_rfl) Tryz.func5 (by kernel_rfl)
  (of_decide_eq_true (by kernel_rfl)) (by unfold Func.isWrapper;first | (rw [if_pos (by decide +kernel)];kernel_rfl) | (rw [if_neg (by decide +kernel)];exact ⟨rfl,rfl⟩))
  (fun os started H enc _=>lifted os started H enc)
theorem proved:Rows.LinearProjectsSaid:=over
#print axioms proved
end Go.Proofs.YtjimdhlmeebjeaaGreat.linearProjects
namespace Go.Proofs.YtjimdhlmeebjeaaGreat
theorem linearProjects_holds:Rows.LinearProjectsSaid:=linearProjects.proved
end Go.Proofs.YtjimdhlmeebjeaaGreat
end
