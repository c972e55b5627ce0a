/- Adding a line never makes a system satisfiable, and it has no point exactly if the complement of the line has all of them (the last of 6 texts). No condition beyond the statement's own. -/
import Derived.SizedLaws
import Derived.ChangeSlices
import Derived.Test.YtjimdhlmeebjeaaGreatRows
import Derived.WalkKit
import Derived.ProofKit
import Derived.OpenShut
import Derived.ShutString
import Derived.ChangeOld
import Derived.Below
import Derived.KernelRfl
import Derived.Test.YtjimdhlmeebjeaaGreatAdds5
set_option linter.unusedSimpArgs false
set_option linter.unusedSectionVars false
section
namespace Go.Proofs.YtjimdhlmeebjeaaGreat.Q
open Go.RowKit Go.Proofs.YtjimdhlmeebjeaaGreatW.PrintWords Go.Proofs.YtjimdhlmeebjeaaGreatW.PrintMore Go.Proofs.YtjimdhlmeebjeaaGreat.V Go.Proofs.YtjimdhlmeebjeaaGreat.E
open Go.Proofs.YtjimdhlmeebjeaaGreat.P (Dg Nm vl WW RR bS gI evs evk evb fv aM aX bm w64 u64)
open Go.Proofs.YtjimdhlmeebjeaaGreat.F (cx ce iP eA fN gF vN iZ iv iB fA fy o9 fO kh)
set_option linter.unusedVariables false
theorem uk {i:Nat}:∀ (q:List cx) (j k:Nat),(∀ m,m<k→∀ h:m<q.length,¬ (q[m].2=0∧ce q[m] i≠0))→(h:k<q.length)→(q[k].2=0∧ce q[k] i≠0)→iv i q j=some (j+k)
 | [],j,k,_,h,_=>by simp at h
 | r :: l,j,k,hm,h,hk=>by
  unfold iv
  cases k with
  | zero=>rw [if_pos (by simpa using hk)];rfl
  | succ k =>
   rw [if_neg (by have:=hm 0 (by omega) (by simp);simpa using this)]
   have:=uk (i:=i) l (j+1) k (fun m hm' hl=>by have:=hm (m+1) (by omega) (by simpa using hl);simpa using this) (by simpa using h) (by simpa using hk)
   rw [this];congr 1;omega
theorem uj {i:Nat}:∀ (q:List cx) (j:Nat),(∀ m,∀ h:m<q.length,¬ (q[m].2=0∧ce q[m] i≠0))→iv i q j=none
 | [],j,_=>rfl
 | r :: l,j,hm=>by
  unfold iv
  rw [if_neg (by have:=hm 0 (by simp);simpa using this)]
  exact uj l (j+1) (fun m hl=>by have:=hm (m+1) (by simpa using hl);simpa using this)
theorem oR {i:Nat} (q:List cx) (r:cx):iB i (q++[r])=iB i q++(if ce r i=0 then [r] else []):=by
 unfold iB;rw [List.filter_append];by_cases c:ce r i=0<;>simp [c,List.filter_cons]
theorem nP {i:Nat} (q:List cx) (r:cx):fA i (q++[r])=fA i q++(if ce r i<0 then [r] else []):=by
 unfold fA;rw [List.filter_append];by_cases c:ce r i<0<;>simp [c,List.filter_cons]
theorem nF {i:Nat} (q:List cx) (r:cx):fy i (q++[r])=fy i q++(if 0<ce r i then [r] else []):=by
 unfold fy;rw [List.filter_append];by_cases c:0<ce r i<;>simp [c,List.filter_cons]
theorem wN {n i:Nat} (lo up:List cx):(fO n i lo up).length=lo.length*up.length:=by
 unfold fO
 induction lo with
 | nil=>simp
 | cons a l ih=>simp only [List.flatMap_cons,List.length_append,List.length_map,List.length_cons,Nat.succ_mul] at ih ⊢;omega
theorem BZ {n i:Nat} {q:List cx}:(kh n q i).length≤q.length+q.length*q.length:=by
 have hp:∀ x:List cx,(fN n x).length≤x.length:=fun x=>by
  have:=F.jc (n:=n) x []
  rw [List.length_nil,Nat.zero_add] at this
  exact this
 unfold kh
 split
 ·next k hk =>
  have h1:=hp (iZ n q k i)
  have h2:=qO (n:=n) (i:=i) (k:=k) (piv:=q.getD k ([],0)) q 0
  unfold iZ at h1 ⊢
  omega
 ·have h1:=hp (iB i q++fO n i (fA i q) (fy i q))
  have h2:(iB i q).length≤q.length:=List.length_filter_le ..
  have h3:(fA i q).length≤q.length:=List.length_filter_le ..
  have h4:(fy i q).length≤q.length:=List.length_filter_le ..
  have h5:=Nat.mul_le_mul h3 h4
  rw [List.length_append,wN] at h1
  omega
section
variable {K n L:Nat} {l:List bG} {q:List cx} {i:Nat}
theorem elim_l3 {K':Nat} {X:List bG} {Y:Int} {Post:List bG→Prop} {up:List bG} {uq:List cx} (hup:RRs K n L up uq) (hpos:∀ u,u∈uq→0<ce u i) {v:bG} {r:cx} (hv:qn K n v r) (hr:r.1.length=L) (hn:n+1≤L) (hi:i<n) (hn2:n≤900) (hl:up.length≤20000) (hL:L<1000000) (hs:(4*K+3)*(n+3)<33554432) (hK':K'=(4*K+2)*(n+3)+1)
 {o:List bG} {oq:List cx} (ho:RRs K' n L o oq) (hol:o.length≤1000000000) (hc:∀ o',RRs K' n L o' (oq++uq.map (o9 n i r))→∃ z,Ev2 (fun k m=>aB.l2 k m (i:Int) X (X.length:Int) (wrap64 (Y+1)) o' up) z∧Post z) :
 ∃ z,Ev3 (fun k m1 m0=>aB.l3 k m1 m0 (i:Int) X (X.length:Int) Y (up.length:Int) ((0:Nat):Int) o up v) z∧Post z:=by
 have hK:4*K+3<33554432:=by
  have:=Nat.mul_le_mul_left (4*K+3) (show 1≤n+3 by omega)
  omega
 have vl:v.1.length=L:=by rw [hv.1.1];exact hr
 have key:∀ j,j≤up.length→∀ o',RRs K' n L o' (oq++(uq.take j).map (o9 n i r))→∃ z,Ev3 (fun k m1 m0=>aB.l3 k m1 m0 (i:Int) X (X.length:Int) Y (up.length:Int) (j:Int) o' up v) z∧Post z:=by
  refine dn ?_ (fun j hj ih=>?_)
  ·intro o' ho'
   rw [hup.1,List.take_length] at ho'
   obtain ⟨z,z1,z2⟩:=hc o' ho'
   exact ⟨z,Ev3.step (fun k m n=>aB.kG k m n _ _ _ _ _ _ _ _ _) (Ev3.bF (decide_eq_false (by omega)) (Ev3.of z1)),z2⟩
  ·intro o' ho'
   have hjq:j<uq.length:=by rw [← hup.1];exact hj
   obtain ⟨a,b,c⟩:=hup.at hj
   obtain ⟨a1,a2⟩:=a.at (i:=i) (by omega)
   obtain ⟨b1,b2⟩:=hv.at (i:=i) (by omega)
   obtain ⟨e,e1,e2,e3⟩:=ir b1 b2 (by omega)
   obtain ⟨w,w1,w2⟩:=kj (Ka:=K) (Kb:=K) a1 e2 a2 e3 hv a (by rw [hr,b]) (by rw [hr];exact hn) hn2 (by rw [hr];exact hL) (by
    refine Nat.lt_of_le_of_lt (Nat.mul_le_mul_right _ ?_) hs
    omega)
   have w3:qn K' n w (o9 n i r (uq.getD j ([],0))):=by
    refine w2.mono ?_
    have e:K+K+2*K+1=4*K+1:=by omega
    rw [hK',e];exact pairK
   have ol:o'.length=o.length+j:=by
    rw [ho'.1,ho.1]
    simp;omega
   obtain ⟨z,z1,z2⟩:=ih (o'++[w]) (by
    rw [oe hjq,List.map_append,← List.append_assoc]
    exact ho'.snoc w3 ((F.vA (by rw [hr,b])).trans hr))
   refine ⟨z,Ev3.step (fun k m n=>aB.kG k m n _ _ _ _ _ _ _ _ _) (Ev3.bT (decide_eq_true (by omega)) (Ev3.iT (by omega) (Ev3.iT (by omega) (Ev3.iT (by omega) (Ev3.bind e1 (Ev3.bind w1 (Ev3.iT (by simp;omega) ?_))))))),z2⟩
   rw [iO (by omega)];exact z1
 exact key 0 (by omega) o (by simpa using ho)
theorem elim_l2 {K':Nat} {lo up:List bG} {lq uq:List cx} (hlo:RRs K n L lo lq) (hup:RRs K n L up uq) (hpos:∀ u,u∈uq→0<ce u i) (hn:n+1≤L) (hi:i<n) (hn2:n≤900) (hl:lo.length≤20000) (hl2:up.length≤20000) (hL:L<1000000) (hs:(4*K+3)*(n+3)<33554432) (hK':K'=(4*K+2)*(n+3)+1) (hK2:K'<400000000)
 {o:List bG} {oq:List cx} (ho:RRs K' n L o oq) (hol:o.length≤20000) :
 ∃ z,Ev2 (fun k m=>aB.l2 k m (i:Int) lo (lo.length:Int) ((0:Nat):Int) o up) z∧RRs K' n L z (fN n (oq++fO n i lq uq)):=by
 have hcount:∀ j,j≤lo.length→(fO n i (lq.take j) uq).length≤400000000:=fun j hj=>by
  rw [wN,← hup.1]
  have:(lq.take j).length≤20000:=by simp;omega
  have:=Nat.mul_le_mul this hl2
  omega
 have key:∀ j,j≤lo.length→∀ o',RRs K' n L o' (oq++fO n i (lq.take j) uq)→∃ z,Ev2 (fun k m=>aB.l2 k m (i:Int) lo (lo.length:Int) (j:Int) o' up) z∧RRs K' n L z (fN n (oq++fO n i lq uq)):=by
  refine dn ?_ (fun j hj ih=>?_)
  ·intro o' ho'
   have hc:=hcount lo.length (Nat.le_refl _)
   have e:lq.take lo.length=lq:=by rw [hlo.1,List.take_length]
   rw [e] at ho' hc
   have ol:o'.length=o.length+(fO n i lq uq).length:=by rw [ho'.1,ho.1];simp
   obtain ⟨z,z1,z2⟩:=uN ho' hn (by omega) hL hK2
   exact ⟨z,Ev2.step (fun k m=>aB.lY k m _ _ _ _ _ _) (Ev2.bF (decide_eq_false (by omega)) (Ev2.of (Ev.bind z1 (evs _)))),z2⟩
  ·intro o' ho'
   have hjq:j<lq.length:=by rw [← hlo.1];exact hj
   have hc:=hcount j (by omega)
   obtain ⟨a,b,c⟩:=hlo.at hj
   have ol:o'.length=o.length+(fO n i (lq.take j) uq).length:=by rw [ho'.1,ho.1];simp
   have ep:fO n i (lq.take (j+1)) uq=fO n i (lq.take j) uq++uq.map (o9 n i (lq.getD j ([],0))):=by
    rw [oe hjq];unfold fO;simp
   obtain ⟨z,z1,z2⟩:=elim_l3 (X:=lo) (Y:=(j:Int)) (Post:=fun z=>RRs K' n L z (fN n (oq++fO n i lq uq))) hup hpos a b hn hi hn2 hl2 hL hs hK' ho' (by omega) (fun o2 ho2=>by
    rw [iO (by omega)]
    refine ih o2 ?_
    rw [ep,← List.append_assoc];exact ho2)
   exact ⟨z,Ev2.step (fun k m=>aB.lY k m _ _ _ _ _ _) (Ev2.bT (decide_eq_true (by omega)) (Ev2.iT (by omega) z1.diag)),z2⟩
 exact key 0 (by omega) o (by simpa [fO] using ho)
theorem elim_l1 {K':Nat} (h:RRs K n L l q) (hn:n+1≤L) (hi:i<n) (hn2:n≤900) (hl:l.length≤20000) (hL:L<1000000) (hs:(4*K+3)*(n+3)<33554432) (hK':K'=(4*K+2)*(n+3)+1) (hK2:K'<400000000) :
 ∃ z,Ev2 (fun k m=>aB.l1 k m (i:Int) l (l.length:Int) ((0:Nat):Int) [] [] []) z∧RRs K' n L z (fN n (iB i q++fO n i (fA i q) (fy i q))):=by
 have fl:∀ (f:cx→Bool) (j:Nat),((q.take j).filter f).length≤l.length:=fun f j=>by
  have h1:((q.take j).filter f).length≤(q.take j).length:=List.length_filter_le ..
  have h2:(q.take j).length≤q.length:=by simp;omega
  have:=h.1
  omega
 have key:∀ j,j≤l.length→∀ a b c,RRs K n L a (iB i (q.take j))→RRs K n L b (fA i (q.take j))→RRs K n L c (fy i (q.take j))→∃ z,Ev2 (fun k m=>aB.l1 k m (i:Int) l (l.length:Int) (j:Int) a b c) z∧RRs K' n L z (fN n (iB i q++fO n i (fA i q) (fy i q))):=by
  refine dn ?_ (fun j hj ih=>?_)
  ·intro a b c ha hb hc
   have la:=ha.1
   have lb:=hb.1
   have lc:=hc.1
   have l1:=fl (fun r=>decide (ce r i=0)) l.length
   have l2:=fl (fun r=>decide (ce r i<0)) l.length
   have l3:=fl (fun r=>decide (0<ce r i)) l.length
   unfold iB at la
   unfold fA at lb
   unfold fy at lc
   rw [h.1,List.take_length] at ha hb hc
   obtain ⟨z,z1,z2⟩:=elim_l2 (i:=i) hb hc (fun u hu=>(F.iu.1 hu).2) hn hi hn2 (by omega) (by omega) hL hs hK' hK2 (ha.mono (by rw [hK'];exact KleK)) (by omega)
   exact ⟨z,Ev2.step (fun k m=>aB.cn k m _ _ _ _ _ _ _) (Ev2.bF (decide_eq_false (by omega)) (Ev2.ofd z1)),z2⟩
  ·intro a b c ha hb hc
   have la:=ha.1
   have lb:=hb.1
   have lc:=hc.1
   have l1:=fl (fun r=>decide (ce r i=0)) j
   have l2:=fl (fun r=>decide (ce r i<0)) j
   have l3:=fl (fun r=>decide (0<ce r i)) j
   unfold iB at la
   unfold fA at lb
   unfold fy at lc
   have hjq:j<q.length:=by rw [← h.1];exact hj
   obtain ⟨d,e,f⟩:=h.at hj
   obtain ⟨d1,d2⟩:=d.at (i:=i) (by omega)
   have hsg:=cW d1
   have et:=oe hjq
   rcases eL (ce (q.getD j ([],0)) i) with ⟨es,hc0⟩ | ⟨es,hc0⟩ | ⟨es,hc0⟩
   ·have n1:¬ ce (q.getD j ([],0)) i=0:=by grind
    have n2:¬ 0<ce (q.getD j ([],0)) i:=by grind
    obtain ⟨z,z1,z2⟩:=ih a (b++[(rdT (t:=aj) l (j:Int):bG)]) c (by rw [et,oR,if_neg n1,List.append_nil];exact ha) (by rw [et,nP,if_pos hc0];exact hb.snoc d e) (by rw [et,nF,if_neg n2,List.append_nil];exact hc)
    rw [es] at hsg
    refine ⟨z,Ev2.step (fun k m=>aB.cn k m _ _ _ _ _ _ _) (Ev2.bT (decide_eq_true (by omega)) (Ev2.iT (by omega) (Ev2.iT (by omega) (Ev2.bind hsg (Ev2.bF rfl (Ev2.bF rfl (Ev2.iT (by simp;omega) ?_))))))),z2⟩
    show Ev2 (fun k m=>aB.l1 k m (i:Int) l (l.length:Int) (wrap64 ((j:Int)+1)) a (b++[(rdT (t:=aj) l (j:Int):bG)]) c) z
    rw [iO (by omega)];exact z1
   ·have n1:¬ ce (q.getD j ([],0)) i<0:=by grind
    have n2:¬ 0<ce (q.getD j ([],0)) i:=by grind
    obtain ⟨z,z1,z2⟩:=ih (a++[(rdT (t:=aj) l (j:Int):bG)]) b c (by rw [et,oR,if_pos hc0];exact ha.snoc d e) (by rw [et,nP,if_neg n1,List.append_nil];exact hb) (by rw [et,nF,if_neg n2,List.append_nil];exact hc)
    rw [es] at hsg
    refine ⟨z,Ev2.step (fun k m=>aB.cn k m _ _ _ _ _ _ _) (Ev2.bT (decide_eq_true (by omega)) (Ev2.iT (by omega) (Ev2.iT (by omega) (Ev2.bind hsg (Ev2.bT rfl (Ev2.iT (by simp;omega) ?_)))))),z2⟩
    show Ev2 (fun k m=>aB.l1 k m (i:Int) l (l.length:Int) (wrap64 ((j:Int)+1)) (a++[(rdT (t:=aj) l (j:Int):bG)]) b c) z
    rw [iO (by omega)];exact z1
   ·have n1:¬ ce (q.getD j ([],0)) i<0:=by grind
    have n2:¬ ce (q.getD j ([],0)) i=0:=by grind
    obtain ⟨z,z1,z2⟩:=ih a b (c++[(rdT (t:=aj) l (j:Int):bG)]) (by rw [et,oR,if_neg n2,List.append_nil];exact ha) (by rw [et,nP,if_neg n1,List.append_nil];exact hb) (by rw [et,nF,if_pos hc0];exact hc.snoc d e)
    rw [es] at hsg
    refine ⟨z,Ev2.step (fun k m=>aB.cn k m _ _ _ _ _ _ _) (Ev2.bT (decide_eq_true (by omega)) (Ev2.iT (by omega) (Ev2.iT (by omega) (Ev2.bind hsg (Ev2.bF rfl (Ev2.bT rfl (Ev2.iT (by simp;omega) ?_))))))),z2⟩
    show Ev2 (fun k m=>aB.l1 k m (i:Int) l (l.length:Int) (wrap64 ((j:Int)+1)) a b (c++[(rdT (t:=aj) l (j:Int):bG)])) z
    rw [iO (by omega)];exact z1
 exact key 0 (by omega) [] [] [] RRs.nil RRs.nil RRs.nil
theorem xr (h:RRs K n L l q) (hn:n+1≤L) (hi:i<n) (hn2:n≤900) (hl:l.length≤20000) (hL:L<1000000) (hs:(4*K+3)*(n+3)<33554432) :
 ∃ o,Ev (fun k=>aB k l (i:Int)) o∧RRs ((4*K+2)*(n+3)+1) n L o (kh n q i):=by
 have hK2:(4*K+2)*(n+3)+1<400000000:=by
  have:=Nat.mul_le_mul_right (n+3) (show 4*K+2≤4*K+3 by omega)
  omega
 have hlq:=h.1
 have key:∀ j,j≤l.length→(∀ m,m<j→∀ h:m<q.length,¬ (q[m].2=0∧ce q[m] i≠0))→∃ o,Ev2 (fun k m=>aB.l0 k m l (i:Int) l (l.length:Int) (j:Int)) o∧RRs ((4*K+2)*(n+3)+1) n L o (kh n q i):=by
  refine dn ?_ (fun j hj ih=>?_)
  ·intro hno
   obtain ⟨z,z1,z2⟩:=elim_l1 (i:=i) h hn hi hn2 hl hL hs rfl hK2
   have e:kh n q i=fN n (iB i q++fO n i (fA i q) (fy i q)):=by
    unfold kh
    rw [uj q 0 (fun m hm=>hno m (by omega) hm)]
   refine ⟨z,Ev2.step (fun k m=>aB.aS k m _ _ _ _ _) (Ev2.bF (decide_eq_false (by omega)) (Ev2.ofd z1)),by rw [e];exact z2⟩
  ·intro hno
   have hjq:j<q.length:=by omega
   obtain ⟨a,b,c⟩:=h.at hj
   have eg:q.getD j ([],0)=q[j]:=by rw [List.getD_eq_getElem?_getD,List.getElem?_eq_getElem hjq];rfl
   obtain ⟨a1,a2⟩:=a.at (i:=i) (by omega)
   have hsg:=cW a1
   have e1:(rdT (t:=aj) l (j:Int):bG).2.2.1=(q.getD j ([],0)).2:=a.2.2
   by_cases c0:(q.getD j ([],0)).2=0∧ce (q.getD j ([],0)) i≠0
   ·obtain ⟨s,s1,s2⟩:=uC h hn hi hn2 (by omega) hL hs hj c0.2
    have sl:s.length≤l.length:=by
     have h2:=qO (n:=n) (i:=i) (k:=j) (piv:=q.getD j ([],0)) q 0
     rw [s2.1];unfold iZ;omega
    obtain ⟨z,z1,z2⟩:=uN s2 hn (by omega) hL hK2
    have e:kh n q i=fN n (iZ n q j i):=by
     unfold kh
     rw [uk q 0 j hno hjq (by rw [← eg];exact c0),Nat.zero_add]
    refine ⟨z,Ev2.step (fun k m=>aB.aS k m _ _ _ _ _) (Ev2.bT (decide_eq_true (by omega)) (Ev2.iT (by omega) (Ev2.bind (a:=true) (bT (by rw [e1,c0.1];rfl) (iT (by omega) (Ev.bind hsg (by rw [nj,decide_eq_true c0.2];exact evs _)))) (Ev2.bT rfl (Ev2.of (Ev.bind s1 (Ev.bind z1 (evs _)))))))),by rw [e];exact z2⟩
   ·obtain ⟨z,z1,z2⟩:=ih (fun m hm hmq=>by
     by_cases e:m=j
     ·subst e;rw [← eg];exact c0
     ·exact hno m (by omega) hmq)
    have ht:Ev (fun k=>bif (rdT (t:=aj) l (j:Int):bG).2.2.1==(0:Int) then if 0≤(i:Int)∧(i:Int)<(List.length ((rdT (t:=aj) l (j:Int):bG).1):Int) then (dB k (rdT (t:=ah) ((rdT (t:=aj) l (j:Int):bG).1) (i:Int):az)).bind fun (v1:Int)=>some (v1 != (0:Int)) else none else some false) false:=by
     rw [e1]
     by_cases r0:(q.getD j ([],0)).2=0
     ·refine bT (by rw [r0];rfl) (iT (by omega) (Ev.bind hsg ?_))
      rw [nj,decide_eq_false (fun h=>c0 ⟨r0,h⟩)];exact evs _
     ·exact bF (by rw [beq_eq_false_iff_ne];exact r0) (evs _)
    refine ⟨z,Ev2.step (fun k m=>aB.aS k m _ _ _ _ _) (Ev2.bT (decide_eq_true (by omega)) (Ev2.iT (by omega) (Ev2.bind ht (Ev2.bF rfl ?_)))),z2⟩
    rw [iO (by omega)];exact z1
 obtain ⟨z,z1,z2⟩:=key 0 (by omega) (fun m hm=>by omega)
 exact ⟨z,Ev.step (fun k=>nS k l _) z1.diag,z2⟩
theorem qF (h:RRs K n L l q) (hn:n+1≤L) (hl:l.length<1000000000) (hL:L<1000000) (hK:K<400000000) :
 (∃ v,Ev (fun k=>aY k l) (v,false,())∧∀ r,r∈q→eA n r=false)∨∃ v r,Ev (fun k=>aY k l) (v,true,())∧qn K n v r∧r∈q∧r.1.length=L∧eA n r=true:=by
 have key:∀ j,j≤l.length→(∀ m,m<j→∀ h:m<q.length,eA n q[m]=false) →
  (∃ v,Ev2 (fun k m=>aY.l0 k m l (l.length:Int) (j:Int) ([],(0:Int),(0:Int),())) (v,false,())∧∀ r,r∈q→eA n r=false)∨∃ v r,Ev2 (fun k m=>aY.l0 k m l (l.length:Int) (j:Int) ([],(0:Int),(0:Int),())) (v,true,())∧qn K n v r∧r∈q∧r.1.length=L∧eA n r=true:=by
  refine dn ?_ (fun j hj ih=>?_)
  ·intro hno
   refine .inl ⟨_,Ev2.step (fun k m=>aY.aS k m _ _ _ _) (Ev2.bF (decide_eq_false (by omega)) (Ev2.of (evs _))),fun r hr=>?_⟩
   obtain ⟨m,hm,rfl⟩:=List.getElem_of_mem hr
   exact hno m (by rw [h.1];exact hm) hm
  ·intro hno
   have hjq:j<q.length:=by rw [← h.1];exact hj
   obtain ⟨a,b,c⟩:=h.at hj
   have eg:q.getD j ([],0)=q[j]:=by rw [List.getD_eq_getElem?_getD,List.getElem?_eq_getElem hjq];rfl
   have hc:=nB a (by omega) (by omega) (by omega)
   cases e:eA n (q.getD j ([],0)) with
   | true =>
    rw [e] at hc
    exact .inr ⟨_,q.getD j ([],0),Ev2.step (fun k m=>aY.aS k m _ _ _ _) (Ev2.bT (decide_eq_true (by omega)) (Ev2.iT (by omega) (Ev2.bind hc (Ev2.bT rfl (Ev2.of (evs _)))))),a,by rw [eg];exact List.getElem_mem _,b,e⟩
   | false =>
    rw [e] at hc
    have step:∀ z,Ev2 (fun k m=>aY.l0 k m l (l.length:Int) ((j+1:Nat):Int) ([],(0:Int),(0:Int),())) z→Ev2 (fun k m=>aY.l0 k m l (l.length:Int) (j:Int) ([],(0:Int),(0:Int),())) z:=fun z hz=>by
     refine Ev2.step (fun k m=>aY.aS k m _ _ _ _) (Ev2.bT (decide_eq_true (by omega)) (Ev2.iT (by omega) (Ev2.bind hc (Ev2.bF rfl ?_))))
     rw [iO (by omega)];exact hz
    rcases ih (fun m hm hmq=>by
     by_cases e':m=j
     ·subst e';rw [← eg];exact e
     ·exact hno m (by omega) hmq) with ⟨v,v1,v2⟩ | ⟨v,r,v1,v2⟩
    ·exact .inl ⟨v,step _ v1,v2⟩
    ·exact .inr ⟨v,r,step _ v1,v2⟩
 rcases key 0 (by omega) (fun m hm=>by omega) with ⟨v,v1,v2⟩ | ⟨v,r,v1,v2⟩
 ·exact .inl ⟨v,Ev.step (fun k=>gM k l) v1.diag,v2⟩
 ·exact .inr ⟨v,r,Ev.step (fun k=>gM k l) v1.diag,v2⟩
end
end Go.Proofs.YtjimdhlmeebjeaaGreat.Q
end
section
namespace Go.Proofs.YtjimdhlmeebjeaaGreat.Q
open Go.RowKit Go.Proofs.YtjimdhlmeebjeaaGreatW.PrintWords Go.Proofs.YtjimdhlmeebjeaaGreatW.PrintMore Go.Proofs.YtjimdhlmeebjeaaGreat.V Go.Proofs.YtjimdhlmeebjeaaGreat.E
open Go.Proofs.YtjimdhlmeebjeaaGreat.P (Dg Nm vl WW RR bS gI evs evk evb fv aM aX bm w64 u64)
open Go.Proofs.YtjimdhlmeebjeaaGreat.F (cx ce Bd dN qg bdC j4 EE)
set_option linter.unusedVariables false
theorem tS {a:Int} (h0:-1000000000≤a) (h1:a≤1000000000):∃ r,Ev (fun k=>rX k a) r∧RB WW r (a:Rat)∧Sz WW 1 (a:Rat):=by
 have fin:∀ r,RB WW r (a:Rat)→Sz WW 1 (a:Rat):=fun r hr=>by
  refine ⟨?_,?_⟩
  ·rw [Rat.num_intCast,Int.pow_one,P.dm];omega
  ·rw [Rat.den_intCast,Int.pow_one,P.dm];decide
 by_cases c:a<0
 ·obtain ⟨l,l1,l2⟩:=P.fj (a:=-a) (by omega) (by omega)
  obtain ⟨r,r1,r2⟩:=fh (s:=true) (m:=1) (b:=[1]) (by
   have:=l2.fc aX (k:=1) (by rw [Int.pow_one,P.dm];omega)
   omega) (by simp) l2 (yW aX) (by omega)
  have e:Rat.divInt (sg true (-a)) 1=(a:Rat):=by rw [ki];congr 1;simp [sg]
  rw [e] at r2
  refine ⟨r,Ev.step (fun k=>pg k a) (bT (decide_eq_true c) ?_),r2,fin r r2⟩
  have e2:wrap64 (a+1)=a+1:=w64 (by omega) (by omega)
  have e3:wrap64 (-(a+1)) = -(a+1):=w64 (by omega) (by omega)
  have e4:IntKind.u64.wrap (-(a+1)) = -(a+1):=u64 (by omega) (by omega)
  have e5:IntKind.u64.wrap (-(a+1)+1) = -a:=by rw [u64 (by omega) (by omega)];omega
  rw [e2,e3,e4,e5]
  exact Ev.bind (Ev.step (fun k=>nO k _) l1) (Ev.bind r1 (evs _))
 ·obtain ⟨l,l1,l2⟩:=P.fj (a:=a) (by omega) (by omega)
  obtain ⟨r,r1,r2⟩:=fh (s:=false) (m:=1) (b:=[1]) (by
   have:=l2.fc aX (k:=1) (by rw [Int.pow_one,P.dm];omega)
   omega) (by simp) l2 (yW aX) (by omega)
  have e:Rat.divInt (sg false a) 1=(a:Rat):=by rw [ki];rfl
  rw [e] at r2
  refine ⟨r,Ev.step (fun k=>pg k a) (bF (decide_eq_false c) ?_),r2,fin r r2⟩
  rw [u64 (by omega) (by omega)]
  exact Ev.bind (Ev.step (fun k=>nO k _) l1) (Ev.bind r1 (evs _))
theorem Frac_sp:∃ r,Ev (fun k=>uS k (1:Int) (4:Int)) r∧RB WW r (1 / 4)∧Sz WW 2 (1 / 4):=by
 obtain ⟨a,a1,a2,a3⟩:=tS (a:=1) (by decide) (by decide)
 obtain ⟨b,b1,b2,b3⟩:=tS (a:=4) (by decide) (by decide)
 obtain ⟨c,c1,c2,c3⟩:=j8 a2 b2 a3 b3 (by decide) (by decide)
 have e:((1:Int):Rat) / ((4:Int):Rat)=1 / 4:=by simp
 rw [e] at c2 c3
 exact ⟨c,Ev.step (fun k=>yw k _ _) (Ev.bind a1 (Ev.bind b1 (Ev.bind c1 (evs _)))),c2,c3⟩
def BB (K:Nat) (v:cY) (b:Bd):Prop:=v.2.2.1=b.hasLo∧v.2.2.2.1=b.hasHi∧v.2.2.2.2.1=b.openLo∧v.2.2.2.2.2.1=b.openHi∧(b.hasLo=true→RB WW v.1 b.lo∧Sz WW K b.lo)∧(b.hasHi=true→RB WW v.2.1 b.hi∧Sz WW K b.hi)
section
variable {K:Nat} {v:cY} {b:Bd} {w:az} {x:Rat}
theorem AF (h:BB K v b) (hw:RB WW w x) (hx:Sz WW K x) (o:Bool) (hK:K<500000000) (sign:Int) (hs:0<sign):∃ v',Ev (fun k=>aV k v w sign o) ((),v')∧BB K v' (b.pR x o):=by
 obtain ⟨lo,hi,hl,hh,ol,oh⟩:=b
 obtain ⟨v1,v2,v3,v4,v5,v6,_⟩:=v
 obtain ⟨h1,h2,h3,h4,h5,h6⟩:=h
 simp only at h1 h2 h3 h4 h5 h6
 subst h1 h2 h3 h4
 cases v4 with
 | false =>
  refine ⟨(v1,w,v3,true,v5,o,()),Ev.step (fun k=>cQ k _ _ _ _) (bT (decide_eq_true hs) (bF rfl ?_)),?_⟩
  ·show Ev (fun k=>aV.j0 k o (-1) (v1,v2,v3,false,v5,v6,()) w) _
   refine bT rfl ?_
   cases o<;>exact evs _
  ·exact ⟨rfl,rfl,rfl,rfl,h5,fun _=>⟨hw,hx⟩⟩
 | true =>
  obtain ⟨g1,g2⟩:=h6 rfl
  have hc:=fx hw g1 hx g2 (by omega)
  rcases iQ x hi with ⟨e,hlt⟩ | ⟨e,heq⟩ | ⟨e,hgt⟩
  ·rw [e] at hc
   refine ⟨(v1,w,v3,true,v5,o,()),Ev.step (fun k=>cQ k _ _ _ _) (bT (decide_eq_true hs) (bT rfl (Ev.bind hc ?_))),?_⟩
   ·show Ev (fun k=>aV.j0 k o (-1) (v1,v2,v3,true,v5,v6,()) w) _
    refine bT rfl ?_
    cases o<;>exact evs _
   ·unfold Bd.pR
    rw [if_pos (.inr hlt)]
    exact ⟨rfl,rfl,rfl,rfl,h5,fun _=>⟨hw,hx⟩⟩
  ·rw [e] at hc
   refine ⟨(v1,v2,v3,true,v5,v6||o,()),Ev.step (fun k=>cQ k _ _ _ _) (bT (decide_eq_true hs) (bT rfl (Ev.bind hc ?_))),?_⟩
   ·show Ev (fun k=>aV.j0 k o 0 (v1,v2,v3,true,v5,v6,()) w) _
    refine bF rfl ?_
    cases v6<;>cases o<;>exact evs _
   ·unfold Bd.pR
    rw [if_neg (by simp [heq,Rat.lt_irrefl]),if_pos heq]
    exact ⟨rfl,rfl,rfl,rfl,h5,h6⟩
  ·rw [e] at hc
   have n1:¬ x<hi:=Rat.not_lt.2 (Rat.le_of_lt hgt)
   have n2:¬ x=hi:=fun e=>by rw [e] at hgt;exact absurd hgt Rat.lt_irrefl
   refine ⟨(v1,v2,v3,true,v5,v6,()),Ev.step (fun k=>cQ k _ _ _ _) (bT (decide_eq_true hs) (bT rfl (Ev.bind hc ?_))),?_⟩
   ·show Ev (fun k=>aV.j0 k o 1 (v1,v2,v3,true,v5,v6,()) w) _
    refine bF rfl ?_
    cases v6<;>cases o<;>exact evs _
   ·unfold Bd.pR
    rw [if_neg (by simp [n1]),if_neg n2]
    exact ⟨rfl,rfl,rfl,rfl,h5,h6⟩
theorem AE (h:BB K v b) (hw:RB WW w x) (hx:Sz WW K x) (o:Bool) (hK:K<500000000) (sign:Int) (hs:¬ 0<sign):∃ v',Ev (fun k=>aV k v w sign o) ((),v')∧BB K v' (b.pQ x o):=by
 obtain ⟨lo,hi,hl,hh,ol,oh⟩:=b
 obtain ⟨v1,v2,v3,v4,v5,v6,_⟩:=v
 obtain ⟨h1,h2,h3,h4,h5,h6⟩:=h
 simp only at h1 h2 h3 h4 h5 h6
 subst h1 h2 h3 h4
 cases v3 with
 | false =>
  refine ⟨(w,v2,true,v4,o,v6,()),Ev.step (fun k=>cQ k _ _ _ _) (bF (decide_eq_false hs) (bF rfl ?_)),?_⟩
  ·show Ev (fun k=>aV.j1 k o 1 (v1,v2,false,v4,v5,v6,()) w) _
   refine bT rfl ?_
   cases o<;>exact evs _
  ·exact ⟨rfl,rfl,rfl,rfl,fun _=>⟨hw,hx⟩,h6⟩
 | true =>
  obtain ⟨g1,g2⟩:=h5 rfl
  have hc:=fx hw g1 hx g2 (by omega)
  rcases iQ x lo with ⟨e,hlt⟩ | ⟨e,heq⟩ | ⟨e,hgt⟩
  ·rw [e] at hc
   have n1:¬ lo<x:=Rat.not_lt.2 (Rat.le_of_lt hlt)
   have n2:¬ x=lo:=fun e=>by rw [e] at hlt;exact absurd hlt Rat.lt_irrefl
   refine ⟨(v1,v2,true,v4,v5,v6,()),Ev.step (fun k=>cQ k _ _ _ _) (bF (decide_eq_false hs) (bT rfl (Ev.bind hc ?_))),?_⟩
   ·show Ev (fun k=>aV.j1 k o (-1) (v1,v2,true,v4,v5,v6,()) w) _
    refine bF rfl ?_
    cases v5<;>cases o<;>exact evs _
   ·unfold Bd.pQ
    rw [if_neg (by simp [n1]),if_neg n2]
    exact ⟨rfl,rfl,rfl,rfl,h5,h6⟩
  ·rw [e] at hc
   refine ⟨(v1,v2,true,v4,v5||o,v6,()),Ev.step (fun k=>cQ k _ _ _ _) (bF (decide_eq_false hs) (bT rfl (Ev.bind hc ?_))),?_⟩
   ·show Ev (fun k=>aV.j1 k o 0 (v1,v2,true,v4,v5,v6,()) w) _
    refine bF rfl ?_
    cases v5<;>cases o<;>exact evs _
   ·unfold Bd.pQ
    rw [if_neg (by simp [heq,Rat.lt_irrefl]),if_pos heq]
    exact ⟨rfl,rfl,rfl,rfl,h5,h6⟩
  ·rw [e] at hc
   refine ⟨(w,v2,true,v4,o,v6,()),Ev.step (fun k=>cQ k _ _ _ _) (bF (decide_eq_false hs) (bT rfl (Ev.bind hc ?_))),?_⟩
   ·show Ev (fun k=>aV.j1 k o 1 (v1,v2,true,v4,v5,v6,()) w) _
    refine bT rfl ?_
    cases o<;>exact evs _
   ·unfold Bd.pQ
    rw [if_pos (.inr hgt)]
    exact ⟨rfl,rfl,rfl,rfl,fun _=>⟨hw,hx⟩,h6⟩
theorem min_sp {a c:az} {p q:Rat} {J L:Nat} (ha:RB WW a p) (hc:RB WW c q) (hp:Sz WW J p) (hq:Sz WW L q) (h:J+L<1073741824):∃ r,Ev (fun k=>yu k a c) r∧RB WW r (if p≤q then p else q):=by
 have hcm:=fx ha hc hp hq h
 by_cases e:p≤q
 ·rw [if_pos e]
  exact ⟨a,Ev.step (fun k=>tQ k _ _) (Ev.bind hcm (bT (by rw [Ef];exact decide_eq_true e) (evs _))),ha⟩
 ·rw [if_neg e]
  exact ⟨c,Ev.step (fun k=>tQ k _ _) (Ev.bind hcm (bF (by rw [Ef];exact decide_eq_false e) (evs _))),hc⟩
theorem Eh (p q:Rat):decide (qi p q≥0)=decide (q≤p):=by
 rcases iQ p q with ⟨e,h⟩ | ⟨e,h⟩ | ⟨e,h⟩
 ·rw [e,decide_eq_false (Rat.not_le.2 h)];rfl
 ·rw [e,decide_eq_true (show q≤p by rw [h];exact Rat.le_refl)];rfl
 ·rw [e,decide_eq_true (Rat.le_of_lt h)];rfl
theorem max_sp {a c:az} {p q:Rat} {J L:Nat} (ha:RB WW a p) (hc:RB WW c q) (hp:Sz WW J p) (hq:Sz WW L q) (h:J+L<1073741824):∃ r,Ev (fun k=>yv k a c) r∧RB WW r (if q≤p then p else q):=by
 have hcm:=fx ha hc hp hq h
 by_cases e:q≤p
 ·rw [if_pos e]
  exact ⟨a,Ev.step (fun k=>tR k _ _) (Ev.bind hcm (bT (by rw [Eh];exact decide_eq_true e) (evs _))),ha⟩
 ·rw [if_neg e]
  exact ⟨c,Ev.step (fun k=>tR k _ _) (Ev.bind hcm (bF (by rw [Eh];exact decide_eq_false e) (evs _))),hc⟩
theorem pick_sp (h:BB K v b) (hok:b.ok) {J:Nat} (hJ:J≤1000) (hJ1:1≤J) (zl:b.hasLo=true→Sz WW J b.lo) (zh:b.hasHi=true→Sz WW J b.hi):∃ w y,Ev (fun k=>gN k v) (w,v)∧RB WW w y∧EE b y:=by
 obtain ⟨lo,hi,hl,hh,ol,oh⟩:=b
 obtain ⟨v1,v2,v3,v4,v5,v6,_⟩:=v
 obtain ⟨h1,h2,h3,h4,h5,h6⟩:=h
 simp only at h1 h2 h3 h4 h5 h6 zl zh
 subst h1 h2 h3 h4
 unfold EE
 simp only
 cases v3 with
 | false =>
  cases v4 with
  | false=>exact ⟨_,0,Ev.step (fun k=>dM k _) (Ev.bind (a:=true) (bT rfl (evs _)) (bT rfl (Ev.bind eu (evs _)))),gh aX,by simp⟩
  | true =>
   obtain ⟨f,f1,f2,f3⟩:=lS (h6 rfl).1 (zh rfl) (by omega)
   obtain ⟨g,g1,g2,g3⟩:=jl f2 (ov aX) f3 (tz aX (Nat.le_refl 1)) (by omega)
   obtain ⟨m,m1,m2⟩:=min_sp (gh aX) g2 (lI aX) g3 (by omega)
   exact ⟨m,_,Ev.step (fun k=>dM k _) (Ev.bind (a:=false) (bT rfl (evs _)) (bF rfl (bT rfl (Ev.bind eu (Ev.bind f1 (Ev.bind gB (Ev.bind g1 (Ev.bind m1 (evs _))))))))),m2,by simp⟩
 | true =>
  cases v4 with
  | false =>
   obtain ⟨f,f1,f2,f3⟩:=lS (h5 rfl).1 (zl rfl) (by omega)
   obtain ⟨g,g1,g2,g3⟩:=gC f2 (ov aX) f3 (tz aX (Nat.le_refl 1)) (by omega)
   obtain ⟨m,m1,m2⟩:=max_sp (gh aX) g2 (lI aX) g3 (by omega)
   exact ⟨m,_,Ev.step (fun k=>dM k _) (Ev.bind (a:=false) (bF rfl (evs _)) (bF rfl (bF rfl (bT rfl (Ev.bind eu (Ev.bind f1 (Ev.bind gB (Ev.bind g1 (Ev.bind m1 (evs _)))))))))),m2,by simp⟩
  | true =>
   have he:=lU (h5 rfl).1 (h6 rfl).1 (zl rfl) (zh rfl) (by omega)
   by_cases c:lo=hi
   ·refine ⟨v1,lo,Ev.step (fun k=>dM k _) (Ev.bind (a:=false) (bF rfl (evs _)) (bF rfl (bF rfl (bF rfl (Ev.bind he (bT (decide_eq_true c) (evs _))))))),(h5 rfl).1,by simp [c]⟩
   ·have hlt:lo<hi:=by
     have:=hok rfl rfl
     simp only at this
     rcases this with h | ⟨h,_⟩
     ·exact h
     ·exact absurd h c
    obtain ⟨d,d1,d2,d3⟩:=jl (h6 rfl).1 (h5 rfl).1 (zh rfl) (zl rfl) (by omega)
    obtain ⟨f,f1,f2,f3⟩:=Frac_sp
    obtain ⟨m,m1,m2,m3⟩:=fw d2 f2 d3 f3 (by omega)
    obtain ⟨s,s1,s2,s3⟩:=gC (h5 rfl).1 m2 (zl rfl) m3 (by omega)
    obtain ⟨t,t1,t2,t3⟩:=jl (h6 rfl).1 m2 (zh rfl) m3 (by omega)
    obtain ⟨r,y,r1,r2,r3,r4⟩:=rA s2 t2 s3 t3 (by grind) (by omega) (by omega)
    exact ⟨r,y,Ev.step (fun k=>dM k _) (Ev.bind (a:=false) (bF rfl (evs _)) (bF rfl (bF rfl (bF rfl (Ev.bind he (bF (decide_eq_false c) (Ev.bind d1 (Ev.bind f1 (Ev.bind m1 (Ev.bind s1 (Ev.bind t1 (Ev.bind r1 (bF rfl (evs _)))))))))))))),r2,by simpa [c] using r4⟩
end
end Go.Proofs.YtjimdhlmeebjeaaGreat.Q
end
section
namespace Go.Proofs.YtjimdhlmeebjeaaGreat.Q
open Go.RowKit Go.Proofs.YtjimdhlmeebjeaaGreatW.PrintWords Go.Proofs.YtjimdhlmeebjeaaGreatW.PrintMore Go.Proofs.YtjimdhlmeebjeaaGreat.V Go.Proofs.YtjimdhlmeebjeaaGreat.E
open Go.Proofs.YtjimdhlmeebjeaaGreat.P (Dg Nm vl WW RR bS gI evs evk evb fv aM aX bm w64 u64)
open Go.Proofs.YtjimdhlmeebjeaaGreat.F (cx ce Bd dN qg bdC j4 EE)
set_option linter.unusedVariables false
theorem DC {K n L i Kp:Nat} {l:List bG} {q:List cx} (h:RRs K n L l q) (hn:n+1≤L) (hi:i<n) (hn2:n≤900) (hl:l.length<1000000000) (hL:L<1000000) {rl:List az} {p:Nat→Rat} (hrl:n≤rl.length) (hrl2:rl.length<1000000)
 (hp:∀ k,i<k→k<n→RB WW (rdT (t:=ah) rl (k:Int):az) (p k)∧Sz WW Kp (p k)) (hs:2*K+n*(K+Kp+1)<100000000) :
 ∃ v,Ev (fun k=>bo k l (i:Int) rl) (v,rl)∧BB (2*K+n*(K+Kp+1)) v (qg (bdC n i p) i q):=by
 have hKp:K+Kp+1<100000000:=by
  have:=Nat.mul_le_mul_right (K+Kp+1) (show 1≤n by omega)
  omega
 generalize hZ:((false,[],[],()),(false,[],[],()),false,false,false,false,())=Z
 have key:∀ j,j≤l.length→∀ v,BB (2*K+n*(K+Kp+1)) v ((q.take j).foldl (dN (bdC n i p) i) Bd.none)→∃ v',Ev2 (fun k m=>bo.l0 k m (i:Int) l (l.length:Int) (j:Int) rl Z v) (v',rl)∧BB (2*K+n*(K+Kp+1)) v' (qg (bdC n i p) i q):=by
  refine dn ?_ (fun j hj ih=>?_)
  ·intro v hv
   rw [h.1,List.take_length] at hv
   exact ⟨v,Ev2.step (fun k m=>bo.aS k m _ _ _ _ _ _ _) (Ev2.bF (decide_eq_false (by omega)) (Ev2.of (evs _))),hv⟩
  ·intro v hv
   have hjq:j<q.length:=by rw [← h.1];exact hj
   obtain ⟨a,b,c⟩:=h.at hj
   have et:(q.take (j+1)).foldl (dN (bdC n i p) i) Bd.none=dN (bdC n i p) i ((q.take j).foldl (dN (bdC n i p) i) Bd.none) (q.getD j ([],0)):=by
    rw [oe hjq,List.foldl_append];rfl
   rw [et] at ih
   generalize hb:(q.take j).foldl (dN (bdC n i p) i) Bd.none=bb at hv ih
   generalize hr:q.getD j ([],0)=r at a b ih
   generalize hw:(rdT (t:=aj) l (j:Int):bG)=w at a c
   obtain ⟨a1,a2⟩:=a.at (i:=i) (by omega)
   have hsg:=cW a1
   have fin:∀ v',BB (2*K+n*(K+Kp+1)) v' (dN (bdC n i p) i bb r)→∃ v'',Ev2 (fun k m=>bo.j0 k m (i:Int) l (l.length:Int) (j:Int) rl Z v') (v'',rl)∧BB (2*K+n*(K+Kp+1)) v'' (qg (bdC n i p) i q):=by
    intro v' hv'
    obtain ⟨z,z1,z2⟩:=ih v' hv'
    refine ⟨z,?_,z2⟩
    show Ev2 (fun k m=>bo.l0 k m (i:Int) l (l.length:Int) (wrap64 ((j:Int)+1)) rl Z v') (z,rl)
    rw [iO (by omega)];exact z1
   by_cases c0:ce r i=0
   ·have es:dN (bdC n i p) i bb r=bb:=by unfold dN;rw [if_pos c0]
    obtain ⟨z,z1,z2⟩:=fin v (by rw [es];exact hv)
    refine ⟨z,Ev2.step (fun k m=>bo.aS k m _ _ _ _ _ _ _) (Ev2.bT (decide_eq_true (by omega)) (Ev2.iT (by omega) ?_)),z2⟩
    rw [hw]
    exact Ev2.iT (by omega) (Ev2.bind hsg (Ev2.bT (by rw [wk];exact decide_eq_true c0) z1))
   ·obtain ⟨k1,k2⟩:=a.at (i:=n) (by omega)
    have key2:∀ m,m≤n-(i+1)→∀ u,RB WW u (j4 n i p r m)→Sz WW (K+m*(K+Kp+1)) (j4 n i p r m)→∃ z,Ev3 (fun k m1 m0=>bo.l1 k m1 m0 (i:Int) ((i+1+m:Nat):Int) l (l.length:Int) (j:Int) rl Z v w (rdT (t:=ah) w.1 (i:Int):az) u) (z,rl)∧BB (2*K+n*(K+Kp+1)) z (qg (bdC n i p) i q):=by
     refine dn ?_ (fun m hm ih2=>?_)
     ·intro u hu hz
      obtain ⟨d,d1,d2,d3⟩:=j8 hu a1 hz a2 c0 (by
       have:=Nat.mul_le_mul_right (K+Kp+1) (show n-(i+1)≤n by omega)
       omega)
      have ed:j4 n i p r (n-(i+1)) / ce r i=bdC n i p r:=rfl
      rw [ed] at d2 d3
      have d4:Sz WW (2*K+n*(K+Kp+1)) (bdC n i p r):=eT aM d3 (by
       have:=Nat.mul_le_mul_right (K+Kp+1) (show n-(i+1)≤n by omega)
       omega)
      have e1:w.2.2.1=r.2:=a.2.2
      by_cases c1:r.2=0
      ·obtain ⟨v1,x1,y1⟩:=AF hv d2 d4 false (by omega) 1 (by decide)
       obtain ⟨v2,x2,y2⟩:=AE y1 d2 d4 false (by omega) (-1) (by decide)
       have es:dN (bdC n i p) i bb r=(bb.pR (bdC n i p r) false).pQ (bdC n i p r) false:=by unfold dN;rw [if_neg c0,if_pos c1]
       obtain ⟨z,z1,z2⟩:=fin v2 (by rw [es];exact y2)
       exact ⟨z,Ev3.step (fun k m n=>bo.cn k m n _ _ _ _ _ _ _ _ _ _ _) (Ev3.bF (decide_eq_false (by rw [a.2.1];omega)) (Ev3.bind d1 (Ev3.bT (by rw [e1,c1];rfl) (Ev3.bind x1 (Ev3.bind x2 (Ev3.of z1)))))),z2⟩
      ·have eb:(w.2.2.1==(2:Int))=decide (r.2=2):=by rw [e1];by_cases c:r.2=2<;>simp [c]
       rcases eL (ce r i) with ⟨es,hc⟩ | ⟨es,hc⟩ | ⟨es,hc⟩
       ·rw [es] at hsg
        obtain ⟨v1,x1,y1⟩:=AE hv d2 d4 (decide (r.2=2)) (by omega) (-1) (by decide)
        have el:dN (bdC n i p) i bb r=bb.pQ (bdC n i p r) (decide (r.2=2)):=by unfold dN;rw [if_neg c0,if_neg c1,if_neg (Rat.not_lt.2 (Rat.le_of_lt hc))]
        obtain ⟨z,z1,z2⟩:=fin v1 (by rw [el];exact y1)
        refine ⟨z,Ev3.step (fun k m n=>bo.cn k m n _ _ _ _ _ _ _ _ _ _ _) (Ev3.bF (decide_eq_false (by rw [a.2.1];omega)) (Ev3.bind d1 (Ev3.bF (by rw [e1];simpa using c1) (Ev3.bind hsg ?_)))),z2⟩
        rw [eb]
        exact Ev3.bind x1 (Ev3.of z1)
       ·exact absurd hc c0
       ·rw [es] at hsg
        obtain ⟨v1,x1,y1⟩:=AF hv d2 d4 (decide (r.2=2)) (by omega) 1 (by decide)
        have el:dN (bdC n i p) i bb r=bb.pR (bdC n i p r) (decide (r.2=2)):=by unfold dN;rw [if_neg c0,if_neg c1,if_pos hc]
        obtain ⟨z,z1,z2⟩:=fin v1 (by rw [el];exact y1)
        refine ⟨z,Ev3.step (fun k m n=>bo.cn k m n _ _ _ _ _ _ _ _ _ _ _) (Ev3.bF (decide_eq_false (by rw [a.2.1];omega)) (Ev3.bind d1 (Ev3.bF (by rw [e1];simpa using c1) (Ev3.bind hsg ?_)))),z2⟩
        rw [eb]
        exact Ev3.bind x1 (Ev3.of z1)
     ·intro u hu hz
      obtain ⟨b1,b2⟩:=a.at (i:=i+1+m) (by omega)
      obtain ⟨g1,g2⟩:=hp (i+1+m) (by omega) (by omega)
      have hmK:=Nat.mul_le_mul_right (K+Kp+1) (show m≤n by omega)
      obtain ⟨s,s1,s2,s3⟩:=fw b1 g1 b2 g2 (by omega)
      obtain ⟨t,t1,t2,t3⟩:=jl hu s2 hz s3 (by omega)
      have er:j4 n i p r m-ce r (i+1+m)*p (i+1+m)=j4 n i p r (m+1):=rfl
      rw [er] at t2 t3
      obtain ⟨z,z1,z2⟩:=ih2 t t2 (eT aM t3 (by rw [Nat.succ_mul];omega))
      refine ⟨z,Ev3.step (fun k m n=>bo.cn k m n _ _ _ _ _ _ _ _ _ _ _) (Ev3.bT (decide_eq_true (by rw [a.2.1];omega)) (Ev3.iT (by omega) (Ev3.iT (by omega) (Ev3.bind s1 (Ev3.bind t1 ?_))))),z2⟩
      rw [iO (by omega)];exact z1
    obtain ⟨z,z1,z2⟩:=key2 0 (by omega) _ k1 (by simpa [j4] using k2)
    refine ⟨z,Ev2.step (fun k m=>bo.aS k m _ _ _ _ _ _ _) (Ev2.bT (decide_eq_true (by omega)) (Ev2.iT (by omega) ?_)),z2⟩
    rw [hw]
    refine Ev2.iT (by omega) (Ev2.bind hsg (Ev2.bF (by rw [wk];exact decide_eq_false c0) (Ev2.bind (gn a (by omega) (by omega)) ?_)))
    rw [iO (by omega)]
    exact z1.diag
 obtain ⟨v,v1,v2⟩:=key 0 (by omega) Z (by
  rw [← hZ]
  exact ⟨rfl,rfl,rfl,rfl,fun e=>by simp [Bd.none] at e,fun e=>by simp [Bd.none] at e⟩)
 refine ⟨v,Ev.step (fun k=>qB k l _ rl) ?_,v2⟩
 rw [hZ]
 exact v1.diag
end Go.Proofs.YtjimdhlmeebjeaaGreat.Q
end
section
namespace Go.Proofs.YtjimdhlmeebjeaaGreat.Q
open Go.RowKit Go.Proofs.YtjimdhlmeebjeaaGreatW.PrintWords Go.Proofs.YtjimdhlmeebjeaaGreatW.PrintMore Go.Proofs.YtjimdhlmeebjeaaGreat.V Go.Proofs.YtjimdhlmeebjeaaGreat.E
open Go.Proofs.YtjimdhlmeebjeaaGreat.P (Dg Nm vl WW RR bS gI evs evk evb fv aM aX bm w64 u64)
open Go.Proofs.YtjimdhlmeebjeaaGreat.F (cx ce eA fN BF kh fM Bd qg bdC EE rlf MB GB UB PB XB DB PtOK ya fU ND upd)
set_option linter.unusedVariables false
def KS (K n:Nat):Nat→Nat
 | 0=>K+(K*(n+2)+1)
 | t+1=>(4*KS K n t+2)*(n+3)+1
def LS:Nat→Nat
 | 0=>10
 | t+1=>LS t+LS t*LS t
def BK (K:Nat):Nat:=4294967296 ^ K
def vM (K n Lm:Nat):Prop :=
 (∀ t,t<n+1→KS K n t≤1000000) ∧
 (∀ t,t<n+1→(UB (BK K) (BK K) n t+GB (BK K) (BK K) n t)*(BK K*BK K ^ (n+1)*BK K*BK K ^ Lm)<4294967296 ^ 200) ∧
 (∀ j,j<n+1→XB (BK K) (BK K) n j*DB (BK K) (BK K) n j<4294967296 ^ 200∧DB (BK K) (BK K) n j<4294967296 ^ 200) ∧
 (∀ j,j<n→(MB (BK K) (BK K) n (n-1-j)+n*(MB (BK K) (BK K) n (n-1-j)*XB (BK K) (BK K) n j))*(MB (BK K) (BK K) n (n-1-j)*PB (BK K) (BK K) n j)<4294967296 ^ 1000∧MB (BK K) (BK K) n (n-1-j)*PB (BK K) (BK K) n j<4294967296 ^ 1000)
instance (K n Lm:Nat):Decidable (vM K n Lm):=by unfold vM;infer_instance
theorem qM {x:Rat} {N D J:Nat} (hn:x.num.natAbs≤N) (hd:x.den≤D) (h1:N<4294967296 ^ J) (h2:D<4294967296 ^ J):Sz WW J x:=by
 have e:WW ^ J=((4294967296 ^ J:Nat):Int):=by rw [P.dm,Int.natCast_pow];rfl
 refine ⟨?_,?_⟩<;>rw [e]<;>omega
theorem zV {x:Rat} {K:Nat} (h:Sz WW K x):ND (BK K) (BK K) x:=by
 have e:WW ^ K=((4294967296 ^ K:Nat):Int):=by rw [P.dm,Int.natCast_pow];rfl
 obtain ⟨h1,h2⟩:=h
 rw [e] at h1 h2
 unfold BK
 exact ⟨by omega,by omega⟩
theorem LS_le {t:Nat} (h:t≤2):LS t≤20000:=by
 rcases (by omega:t=0∨t=1∨t=2) with rfl | rfl | rfl<;>decide
theorem LS_le3 {t:Nat} (h:t≤3):LS t<1000000000:=by
 rcases (by omega:t=0∨t=1∨t=2∨t=3) with rfl | rfl | rfl | rfl<;>decide
theorem n8 {n:Nat} {s:List dK} (hs:s.length≤10):∀ t,(F.stg n s t).length≤LS t
 | 0=>by
  have h:=F.jc (n:=n) (BF n s) []
  have e:(BF n s).length=s.length:=by simp [BF]
  unfold F.stg fN
  rw [e,List.length_nil] at h
  unfold LS
  omega
 | t+1=>by
  have ih:=n8 (n:=n) hs t
  have h:=BZ (n:=n) (i:=t) (q:=F.stg n s t)
  have h2:=Nat.mul_le_mul ih ih
  unfold F.stg LS
  omega
theorem yL {c:List Rat} {p:Nat→Rat} {q:List Rat}:∀ m,(∀ k,k<m→p k=q.getD k 0)→F.lin c p m=qE c q m
 | 0,_=>rfl
 | m+1,h=>by
  simp only [F.lin,qE]
  rw [yL m (fun k hk=>h k (by omega)),h m (by omega)]
section
variable {K n Lm:Nat} {l:List aW} {s:List dK}
def SRs (K n:Nat) (s:List dK) (o:List (List bG)) (j:Nat):Prop:=o.length=j+1∧∀ t,t≤j→RRs (KS K n t) n (n+1+s.length) (rdT (t:=.list aj) o (t:Int):List bG) (F.stg n s t)
theorem Solve_l0 (hn:n≤3) (hl:s.length≤10) (hnum:vM K n Lm) {R:List az×List az×Int×Unit→Prop}
 (hc:∀ o,SRs K n s o n→∃ z,Ev2 (fun k m=>aT.l1 k m (n:Int) l (o.length:Int) (0:Int) o) z∧R z) :
 ∀ j,j≤n→∀ o,SRs K n s o j→∃ z,Ev2 (fun k m=>aT.l0 k m (n:Int) l (n:Int) (j:Int) o) z∧R z:=by
 refine dn ?_ (fun j hj ih=>?_)
 ·intro o ho
  obtain ⟨z,z1,z2⟩:=hc o ho
  exact ⟨z,Ev2.step (fun k m=>aT.aS k m _ _ _ _ _) (Ev2.bF (decide_eq_false (by omega)) (Ev2.ofd z1)),z2⟩
 ·intro o ho
  have hr:=ho.2 j (Nat.le_refl _)
  have hk:=hnum.1 j (by omega)
  have hcn:=n8 (n:=n) hl j
  have hls:=LS_le (show j≤2 by omega)
  have hrl:=hr.1
  obtain ⟨v,v1,v2⟩:=xr (i:=j) hr (by omega) hj (by omega) (by omega) (by omega) (by
   have:=Nat.mul_le_mul (show 4*KS K n j+3≤4000003 by omega) (show n+3≤6 by omega)
   omega)
  have hol:=ho.1
  obtain ⟨z,z1,z2⟩:=ih (o++[v]) ⟨by simp [hol],fun t ht=>by
   by_cases c:t≤j
   ·have e:(rdT (t:=.list aj) (o++[v]) (t:Int):List bG)=(rdT (t:=.list aj) o (t:Int):List bG):=by
     rw [cJ (by simp;omega),cJ (by omega),List.getElem_append_left]
    rw [e];exact ho.2 t c
   ·have et:t=j+1:=by omega
    subst et
    have e:(rdT (t:=.list aj) (o++[v]) ((j+1:Nat):Int):List bG)=v:=by
     rw [cJ (by simp;omega),List.getElem_append_right (by omega)]
     simp [hol]
    rw [e];exact v2⟩
  refine ⟨z,Ev2.step (fun k m=>aT.aS k m _ _ _ _ _) (Ev2.bT (decide_eq_true (by omega)) (Ev2.iT (by omega) (Ev2.bind v1 (Ev2.iT (by simp;omega) ?_)))),z2⟩
  rw [iO (by omega)];exact z1
theorem Solve_l2 {q:List Rat} {J:Nat} {M0:Nat→Nat} {r:List az} (h:RLs WW J r q) (hJ:J<1000000000) (hl:r.length<1000000):∃ m,Ev3 (fun k m1 m0=>aT.l2 k m1 m0 (r.length:Int) (0:Int) r) (([]:List az),m,(0:Int),())∧RLs WW J m (q.map fun x=>-x):=by
 have key:∀ j,j≤r.length→∀ r',RP WW J r' r.length r.length (fun i=>if i<j then -q.getD i 0 else q.getD i 0)→∃ m,Ev3 (fun k m1 m0=>aT.l2 k m1 m0 (r.length:Int) (j:Int) r') (([]:List az),m,(0:Int),())∧RLs WW J m (q.map fun x=>-x):=by
  refine dn ?_ (fun j hj ih=>?_)
  ·intro r' hr'
   refine ⟨r',Ev3.step (fun k m n=>aT.lY k m n _ _ _) (Ev3.bF (decide_eq_false (by omega)) (Ev3.of (Ev2.of (evs _)))),hr'.rls (by rw [List.length_map,h.1]) (fun i hi=>?_)⟩
   simp only [if_pos hi]
   exact (F.getD_map (f:=fun x=>-x) (by simp) q i).symm
  ·intro r' hr'
   obtain ⟨a1,a2⟩:=hr'.2 j hj
   simp only [if_neg (Nat.lt_irrefl j)] at a1 a2
   obtain ⟨v,v1,v2,v3⟩:=ir a1 a2 (by omega)
   obtain ⟨m,m1,m2⟩:=ih (r'.set j v) ⟨by simp [hr'.1],fun i hi=>by
    rw [zH (by rw [hr'.1];exact hi)]
    by_cases c:i=j
    ·subst c
     rw [if_pos rfl];dsimp only;rw [if_pos (Nat.lt_succ_self _)];exact ⟨v2,v3⟩
    ·rw [if_neg c]
     have:=hr'.2 i hi
     dsimp only at this ⊢
     by_cases c2:i<j
     ·rw [if_pos c2] at this;rw [if_pos (by omega)];exact this
     ·rw [if_neg c2] at this;rw [if_neg (by omega)];exact this⟩
   have hl':=hr'.1
   refine ⟨m,Ev3.step (fun k m n=>aT.lY k m n _ _ _) (Ev3.bT (decide_eq_true (by omega)) (Ev3.iT (by omega) (Ev3.bind v1 (Ev3.iT (by omega) ?_)))),m2⟩
   rw [iO (by omega),Int.toNat_natCast];exact m1
 exact key 0 (by omega) r ⟨rfl,fun i hi=>by simp only [Nat.not_lt_zero,if_false];exact h.at hi⟩
theorem wz {B:Int} {J J':Nat} {m:List az} {q:List Rat} (h:RLs B J m q) (hz:∀ x,x∈q→Sz B J' x):RLs B J' m q:=⟨h.1,fun i h1 h2=>⟨(h.2 i h1 h2).1,hz _ (List.getElem_mem h2)⟩⟩
theorem Solve_l3 (hn:n≤3) (hl:s.length≤10) (hsys:F.Sys n (BK K) (BK K) s) (hnum:vM K n Lm) {o:List (List bG)} (ho:SRs K n s o n) :
 ∀ i,i≤n→∀ j,i+j=n→∀ p,PtOK n (BK K) (BK K) s j p→∀ r:List az,r.length=n→(∀ k,i≤k→k<n→RB WW (rdT (t:=ah) r (k:Int):az) (p k)) →
  ∃ pt p',Ev2 (fun k m=>aT.l3 k m ((i:Int)-1) r o) (pt,([]:List az),(0:Int),())∧pt.length=n∧(∀ k,k<n→RB WW (rdT (t:=ah) pt (k:Int):az) (p' k))∧PtOK n (BK K) (BK K) s n p':=by
 intro i
 induction i with
 | zero =>
  intro _ j hj p hp r hr hk
  obtain rfl:j=n:=by omega
  exact ⟨r,p,Ev2.step (fun k m=>aT.kG k m _ _ _) (Ev2.bF (decide_eq_false (by omega)) (Ev2.of (evs _))),hr,fun k h=>hk k (by omega) h,hp⟩
 | succ i ih =>
  intro hi j hj p hp r hr hk
  have hij:i+1+j=n:=hj
  have ej:n-1-j=i:=by omega
  have hrr:=ho.2 i (by omega)
  have hks:=hnum.1 i (by omega)
  have hsz:∀ k,i<k→k<n→RB WW (rdT (t:=ah) r (k:Int):az) (p k)∧Sz WW 200 (p k):=fun k h1 h2=>by
   obtain ⟨a,b⟩:=hp.sz k (by omega) h2
   obtain ⟨c,d⟩:=hnum.2.2.1 j (by omega)
   exact ⟨hk k (by omega) h2,qM (F.Dm a) b (Nat.lt_of_le_of_lt (Nat.mul_le_mul_left _ b) c) d⟩
  have hcn:=n8 (n:=n) hl i
  have hls:=LS_le3 (show i≤3 by omega)
  have hrl:=hrr.1
  have hmul:=Nat.mul_le_mul (show n≤3 from hn) (show KS K n i+200+1≤1000201 by omega)
  obtain ⟨v,v1,v2⟩:=DC (i:=i) (Kp:=200) hrr (by omega) (by omega) (by omega) (by omega) (by omega) (by omega:n≤r.length) (by omega) hsz (by omega)
  have hok:=F.pt_ok hsys hij hp
  obtain ⟨lh,ll⟩:=F.pt_lim hsys hij hp
  have hpd:=hp.prod i hij
  have hJ:∀ x,fU x (MB (BK K) (BK K) n i+n*(MB (BK K) (BK K) n i*XB (BK K) (BK K) n j))→(∃ a:Nat,1≤a∧a≤MB (BK K) (BK K) n i∧∃ y:Int,x*((a*F.iq i p j:Nat):Rat)=(y:Rat))→Sz WW 1000 x:=fun x hx ⟨a,a1,a2,y,hy⟩=>by
   have hd:=Nat.le_of_dvd (Nat.mul_pos a1 (F.rG j)) (F.iA hy)
   have hd2:x.den≤MB (BK K) (BK K) n i*PB (BK K) (BK K) n j:=Nat.le_trans hd (Nat.mul_le_mul a2 hpd)
   obtain ⟨c,d⟩:=hnum.2.2.2 j (by omega)
   rw [ej] at c d
   exact qM (F.Dm hx) hd2 (Nat.lt_of_le_of_lt (Nat.mul_le_mul_left _ hd2) c) d
  obtain ⟨w,y,w1,w2,w3⟩:=pick_sp v2 hok (J:=1000) (by decide) (by decide) (fun e=>hJ _ (ll e).1 (ll e).2) (fun e=>hJ _ (lh e).1 (lh e).2)
  have hstep:=F.pt_step hsys hij hp w3
  obtain ⟨pt,p',z1,z2⟩:=ih (by omega) (j+1) (by omega) (upd p i y) hstep (r.set i w) (by simpa using hr) (fun k h1 h2=>by
   rw [zH (by omega)]
   by_cases c:k=i
   ·subst c
    rw [if_pos rfl]
    have:upd p k y k=y:=if_pos rfl
    rw [this];exact w2
   ·rw [if_neg c,F.vP c];exact hk k (by omega) h2)
  have hol:=ho.1
  have e1:(((i+1:Nat):Int)-1)=(i:Int):=by omega
  refine ⟨pt,p',Ev2.step (fun k m=>aT.kG k m _ _ _) ?_,z2⟩
  rw [e1]
  refine Ev2.bT (decide_eq_true (by omega)) (Ev2.iT (by omega) (Ev2.bind v1 (Ev2.bind w1 (Ev2.iT (by simp only;omega) ?_))))
  rw [w64 (by omega) (by omega),Int.toNat_natCast];exact z1
end
end Go.Proofs.YtjimdhlmeebjeaaGreat.Q
end
section
namespace Go.Proofs.YtjimdhlmeebjeaaGreat.Q
open Go.RowKit Go.Proofs.YtjimdhlmeebjeaaGreatW.PrintWords Go.Proofs.YtjimdhlmeebjeaaGreatW.PrintMore Go.Proofs.YtjimdhlmeebjeaaGreat.V Go.Proofs.YtjimdhlmeebjeaaGreat.E
open Go.Proofs.YtjimdhlmeebjeaaGreat.P (Dg Nm vl WW RR bS gI evs evk evb fv aM aX bm w64 u64)
open Go.Proofs.YtjimdhlmeebjeaaGreat.F (cx ce eA fN BF kh fM Bd qg bdC EE rlf MB GB UB PB XB DB PtOK ya fU ND upd)
set_option linter.unusedVariables false
section
variable {K n Lm:Nat} {l:List aW} {s:List dK}
def Sol (n:Nat) (s:List dK) (z:List az×List az×Int×Unit):Prop :=
 (∃ pt pq,z=(pt,[],0,())∧RLs WW 200 pt pq∧pq.length=n∧∀ k,k<s.length→fq (qE (ln s k).1 pq n) (rlf s k) (kf s k)) ∨
 (∃ m mq,z=([],m,0,())∧RLs WW 200 m mq∧mq.length=s.length∧sU n s mq)
theorem CR {t:Nat} (ht:t≤n) (hl:s.length≤Lm) (hsys:F.Sys n (BK K) (BK K) s) (hnum:vM K n Lm) {r:cx} (hr:r∈F.stg n s t):∀ x,x∈ya n s.length r→Sz WW 200 x:=by
 intro x hx
 have hB:=hsys.pos
 obtain ⟨z,z1,z2⟩:=F.ref_size (F.rk hsys t ht r hr) (fun k hk=>F.sc_nd hsys hk) (F.UB_pos hB hB t) (Nat.mul_pos (Nat.mul_pos hB (Nat.pow_pos hB)) hB) hB x hx
 have h1:=hnum.2.1 t (by omega)
 have h2:BK K ^ s.length≤BK K ^ Lm:=Nat.pow_le_pow_right hB hl
 have h3:=Nat.mul_le_mul_left (UB (BK K) (BK K) n t+GB (BK K) (BK K) n t) (Nat.mul_le_mul_left (BK K*BK K ^ (n+1)*BK K) h2)
 refine qM (N:=(UB (BK K) (BK K) n t+GB (BK K) (BK K) n t)*(BK K*BK K ^ (n+1)*BK K*BK K ^ s.length)) (D:=1) ?_ ?_ (Nat.lt_of_le_of_lt h3 h1) (Nat.one_lt_pow (by decide) (by decide))
 ·rw [z1,Rat.num_intCast];exact z2
 ·rw [z1,Rat.den_intCast];exact Nat.le_refl _
theorem Solve_l1 (hn:n≤3) (hls:l.length=s.length) (hl:s.length≤Lm) (hLm:Lm≤10) (hsys:F.Sys n (BK K) (BK K) s) (hnum:vM K n Lm) {o:List (List bG)} (ho:SRs K n s o n) :
 ∀ t,t≤n+1→(∀ t',t'<t→∀ r,r∈F.stg n s t'→eA n r=false)→∃ z,Ev2 (fun k m=>aT.l1 k m (n:Int) l (o.length:Int) (t:Int) o) z∧Sol n s z:=by
 have hol:=ho.1
 refine dn ?_ (fun t ht ih=>?_)
 ·intro hno
  obtain ⟨pt,p',z1,z2,z3,z4⟩:=Solve_l3 hn (by omega) hsys hnum ho n (Nat.le_refl _) 0 (by omega) (fun _=>0) (F.pt_zero hsys (hno n (by omega)) _) (List.replicate (Int.toNat (n:Int)) (false,[],[],())) (by simp) (fun k h1 h2=>by omega)
  refine ⟨_,Ev2.step (fun k m=>aT.cn k m _ _ _ _ _) (Ev2.bF (decide_eq_false (by omega)) (Ev2.iT ⟨by omega,by omega,by rw [Int.toNat_natCast];omega,by rw [Int.toNat_natCast];unfold maxLen;omega⟩ ?_)),.inl ⟨pt,(List.range n).map p',rfl,?_,by simp,?_⟩⟩
  ·rw [w64 (by omega) (by omega)]
   exact Ev2.ofd z1
  ·have hR:RP WW 200 pt n n p':=⟨z2,fun k hk=>⟨z3 k hk,by
    obtain ⟨a,b⟩:=z4.sz k (by omega) hk
    obtain ⟨c,d⟩:=hnum.2.2.1 n (by omega)
    exact qM (F.Dm a) b (Nat.lt_of_le_of_lt (Nat.mul_le_mul_left _ b) c) d⟩⟩
   exact hR.rls (by simp) (fun i hi=>by simp [List.getD_eq_getElem?_getD,hi])
  ·intro k hk
   have:=F.pt_done hsys z4 k hk
   rwa [yL (q:=(List.range n).map p') n (fun i hi=>by simp [List.getD_eq_getElem?_getD,hi])] at this
 ·intro hno
  have hrr:=ho.2 t (by omega)
  have hks:=hnum.1 t (by omega)
  have hcn:=n8 (n:=n) (s:=s) (by omega) t
  have hls3:=LS_le3 (show t≤3 by omega)
  have hrl:=hrr.1
  rcases qF hrr (by omega) (by omega) (by omega) (by omega) with ⟨v,v1,v2⟩ | ⟨v,r,v1,v2,v3,v4,v5⟩
  ·obtain ⟨z,z1,z2⟩:=ih (fun t' ht' r hr=>by
    by_cases c:t'=t
    ·subst c;exact v2 r hr
    ·exact hno t' (by omega) r hr)
   refine ⟨z,Ev2.step (fun k m=>aT.cn k m _ _ _ _ _) (Ev2.bT (decide_eq_true (by omega)) (Ev2.iT (by omega) (Ev2.bind v1 (Ev2.bF rfl ?_)))),z2⟩
   rw [iO (by omega)];exact z1
  ·have vl:v.1.length=n+1+s.length:=by rw [v2.1.1];exact v4
   have dl:(v.1.drop (n+1)).length=s.length:=by simp [vl]
   obtain ⟨m,m1,m2⟩:=tC (kk:=s.length) (v2.1.drop (n+1)) (by omega) (by omega) (by omega) (by
    have:=Nat.mul_le_mul (show KS K n t+1≤1000001 by omega) (show s.length+2≤12 by omega)
    omega)
   have ml:m.length=s.length:=by rw [m2.1,F.jY];simp [v4]
   obtain ⟨k1,k2⟩:=v2.at (i:=n) (by omega)
   have hsg:=cW k1
   have e1:v.2.2.1=r.2:=v2.2.2
   have ht:Ev (fun k=>bif v.2.2.1==(0:Int) then (cD k v).bind fun (v7:az)=>(dB k v7).bind fun (v8:Int)=>some (decide (v8>(0:Int))) else some false) (decide (r.2=0∧0<ce r n)):=by
    rw [e1]
    by_cases c:r.2=0
    ·refine bT (by rw [c];rfl) (Ev.bind (gn v2 (by omega) (by omega)) (Ev.bind hsg ?_))
     rw [sgd_gt]
     have:decide (r.2=0∧0<ce r n)=decide (0<ce r n):=by simp [c]
     rw [this];exact evs _
    ·have:decide (r.2=0∧0<ce r n)=false:=by simp [c]
     rw [this]
     exact bF (by rw [beq_eq_false_iff_ne];exact c) (evs _)
   have hn64:n<9223372036854775807:=by omega
   have hz:=CR (t:=t) (by omega) hl hsys hnum v3
   have hrl2:(ya n s.length r).length=s.length:=by
    unfold ya
    split<;>simp [F.jY,v4]
   by_cases c:r.2=0∧0<ce r n
   ·obtain ⟨m',x1,x2⟩:=Solve_l2 (M0:=fun _=>0) m2 (by
     have:=Nat.mul_le_mul (show KS K n t≤1000000 by omega) (show s.length+1≤11 by omega)
     omega) (by omega)
    have er:ya n s.length r=(fM s.length (r.1.drop (n+1))).map fun x=>-x:=by unfold ya;rw [if_pos c]
    refine ⟨_,Ev2.step (fun k m=>aT.cn k m _ _ _ _ _) (Ev2.bT (decide_eq_true (by omega)) (Ev2.iT (by omega) (Ev2.bind v1 (Ev2.bT rfl ?_)))),.inr ⟨m',_,rfl,wz (by rw [er];exact x2) hz,hrl2,F.ref_ok (F.rk hsys t (by omega) r v3) hsys.rel v5⟩⟩
    rw [iO hn64,hls]
    refine Ev2.iT (by simp only;omega) ?_
    rw [Int.toNat_natCast]
    exact Ev2.bind m1 (Ev2.iT (by omega) (Ev2.bind ht (Ev2.bT (decide_eq_true c) x1.diag)))
   ·have er:ya n s.length r=fM s.length (r.1.drop (n+1)):=by unfold ya;rw [if_neg c]
    refine ⟨_,Ev2.step (fun k m=>aT.cn k m _ _ _ _ _) (Ev2.bT (decide_eq_true (by omega)) (Ev2.iT (by omega) (Ev2.bind v1 (Ev2.bT rfl ?_)))),.inr ⟨m,_,rfl,wz (by rw [er];exact m2) hz,hrl2,F.ref_ok (F.rk hsys t (by omega) r v3) hsys.rel v5⟩⟩
    rw [iO hn64,hls]
    refine Ev2.iT (by simp only;omega) ?_
    rw [Int.toNat_natCast]
    exact Ev2.bind m1 (Ev2.iT (by omega) (Ev2.bind ht (Ev2.bF (decide_eq_false c) (Ev2.of (evs _)))))
theorem Ej (ha:Cd l) (hok:OkS (n:Int) l) (hn:n≤3) (hl:l.length≤10):Ev (fun k=>kF k (n:Int) l) 0:=by
 have hc:=AL (n:=(n:Int)) ha
 rw [xa hok] at hc
 exact Ev.step (fun k=>qC k _ _) (Ev.bind hc (bF rfl (Ev.bind (a:=false) (bF (decide_eq_false (by omega)) (by rw [decide_eq_false (by omega)];exact evs _)) (bF rfl (evs _)))))
theorem vJ (ha:Cd l) (hok:OkS (n:Int) l) (hs:RSs WW K l s) (hK:1≤K) (hn:n≤3) (hl:s.length≤Lm) (hLm:Lm≤10) (hsys:F.Sys n (BK K) (BK K) s) (hnum:vM K n Lm):∃ z,Ev (fun k=>aT k (n:Int) l) z∧Sol n s z:=by
 have hls:=hs.1
 have hk0:=hnum.1 0 (by omega)
 unfold KS at hk0
 have hkn:K*(n+2)≤1000000:=by omega
 obtain ⟨m,m1,m2⟩:=Dt hs hK hsys.len (by omega) (by omega) (by
  have:(K+1)*(n+3)=K*(n+2)+K+(n+3):=by rw [Nat.add_mul,Nat.mul_succ];omega
  omega)
 have mc:(BF n s).length=s.length:=by simp [BF]
 have ml:=m2.1
 obtain ⟨v,v1,v2⟩:=uN m2 (by omega) (by omega) (by omega) (by omega)
 obtain ⟨z,z1,z2⟩:=Solve_l0 (l:=l) (R:=Sol n s) hn (by omega) hnum (fun o ho=>Solve_l1 hn hls hl hLm hsys hnum ho 0 (by omega) (fun t' h=>by omega)) 0 (by omega) [v] ⟨rfl,fun t ht=>by
  obtain rfl:t=0:=by omega
  exact v2⟩
 exact ⟨z,Ev.step (fun k=>sr k _ _) (Ev.bind (Ej ha hok hn (by omega)) (bF rfl (Ev.bind m1 (Ev.bind v1 z1.diag)))),z2⟩
end
theorem num1:∀ n,n<4→vM 1 n 10:=by decide +kernel
end Go.Proofs.YtjimdhlmeebjeaaGreat.Q
end
section
namespace Go.Proofs.YtjimdhlmeebjeaaGreat.Q
open Go.RowKit Go.Proofs.YtjimdhlmeebjeaaGreatW.PrintWords Go.Proofs.YtjimdhlmeebjeaaGreatW.PrintMore Go.Proofs.YtjimdhlmeebjeaaGreat.V Go.Proofs.YtjimdhlmeebjeaaGreat.E
open Go.Proofs.YtjimdhlmeebjeaaGreat.P (Dg Nm vl WW RR bS gI evs evk evb fv aM aX bm w64 u64)
set_option linter.unusedVariables false
set_option linter.unusedSectionVars false
section
variable {l:List aW} {s:List dK} {mv:List az} {m:List Rat} {n:Nat} (hs:RSs RR 80 l s) (hn:∀ y∈s,y.1.length=n) (hm:RLs RR 800 mv m) (hml:mv.length=l.length) (hl:l.length≤40) (hn8:n≤8)
include hs hn hm hml hl hn8
theorem xW {x:Bool} {sums:List az} {tot:az} (hx:x=true↔∃ k,k<s.length∧(ln s k).2.1=2∧0<gf m k) (hsum:RF RR 40000 sums n (fun i=>comb (cf s i) (gf m) s.length)) (ht:RB RR tot (comb (kf s) (gf m) s.length)) (hpos:∀ k,k<s.length→(ln s k).2.1>0→0≤gf m k) :
 Ev2 (fun k m0=>ao.l3 k m0 x sums (sums.length:Int) ((0:Nat):Int) tot) (dc (sU n s m)):=by
 have sl:sums.length=n:=hsum.1
 have sg1:∀ i,i<sums.length→Ev (fun k=>cE k (rdT (t:=ah) sums (i:Int):az)) (sgn (comb (cf s i) (gf m) s.length)):=fun i hi=>il (hsum.2 i (by omega)).1
 have go:∀ i,i<sums.length→comb (cf s i) (gf m) s.length=0→∀ r,Ev2 (fun k m0=>ao.l3 k m0 x sums (sums.length:Int) ((i+1:Nat):Int) tot) r→Ev2 (fun k m0=>ao.l3 k m0 x sums (sums.length:Int) (i:Int) tot) r:=by
  intro i hi h0 r hr
  refine Ev2.step (fun k m0=>ao.kG k m0 _ _ _ _ _) (Ev2.bT (decide_eq_true (by omega)) (Ev2.iT (by omega) (Ev2.bind (sg1 i hi) (Ev2.bF (by rw [nj,h0];rfl) ?_))))
  rw [iO (by omega)]
  exact hr
 by_cases c:∀ i,i<n→comb (cf s i) (gf m) s.length=0
 ·refine kt (E:=fun i r=>Ev2 (fun k m0=>ao.l3 k m0 x sums (sums.length:Int) (i:Int) tot) r) go ?_ (fun i hi=>c i (by omega))
  refine Ev2.step (fun k m0=>ao.kG k m0 _ _ _ _ _) (Ev2.bF (decide_eq_false (by omega)) (Ev2.of (Ev.bind (il ht) ?_)))
  rw [CD]
  by_cases c1:comb (kf s) (gf m) s.length<0
  ·rw [decide_eq_true c1,dY (show sU n s m from ⟨hpos,c,.inl c1⟩)]
   exact Ev.bind (a:=true) (bT rfl (evs _)) (evs _)
  ·rw [decide_eq_false c1]
   by_cases c2:comb (kf s) (gf m) s.length=0
   ·have:dc (sU n s m)=x:=(xv (p:=sU n s m) (t:=x) (by
     rw [hx]
     exact ⟨fun h=>⟨hpos,c,.inr ⟨c2,h⟩⟩,fun h=>h.2.2.elim (fun h=>absurd h c1) (fun h=>h.2)⟩)).symm
    rw [this]
    exact Ev.bind (a:=x) (bF rfl (Ev.bind (il ht) (Ev.bind (a:=x) (bT (by rw [wk,decide_eq_true c2]) (evs _)) (evs _)))) (evs _)
   ·rw [dg (show ¬ sU n s m from fun h=>h.2.2.elim c1 (fun h=>c2 h.1))]
    exact Ev.bind (a:=false) (bF rfl (Ev.bind (il ht) (Ev.bind (a:=false) (bF (by rw [wk,decide_eq_false c2]) (evs _)) (evs _)))) (evs _)
 ·rw [dg (show ¬ sU n s m from fun h=>c h.2.1)]
  obtain ⟨j,hj,hnj⟩:∃ i,i<n∧¬ comb (cf s i) (gf m) s.length=0:=Classical.byContradiction (fun hc=>c (fun i hi=>Classical.byContradiction (fun h2=>hc ⟨i,hi,h2⟩)))
  refine ks (E:=fun i r=>Ev2 (fun k m0=>ao.l3 k m0 x sums (sums.length:Int) (i:Int) tot) r) (fun i hi ht=>?_) go ⟨j,by omega,hnj⟩
  exact Ev2.step (fun k m0=>ao.kG k m0 _ _ _ _ _) (Ev2.bT (decide_eq_true (by omega)) (Ev2.iT (by omega) (Ev2.bind (sg1 i hi) (Ev2.bT (by rw [nj,decide_eq_true ht]) (Ev2.of (evs _))))))
theorem xX {k:Nat} (hk:k<l.length) (x:Bool) (tot:az) {sums:List az} (hsum:RF RR (1+k*881) sums n (fun i=>comb (cf s i) (gf m) k)) (hmk:RB RR (rdT (t:=ah) mv (k:Int):az) (gf m k)) (hmz:Sz RR 800 (gf m k)) {r:Bool}
 (hr:∀ sums',RF RR (1+(k+1)*881) sums' n (fun i=>comb (cf s i) (gf m) (k+1))→Ev2 (fun q m0=>ao.l1 q m0 mv x l (l.length:Int) ((k+1:Nat):Int) tot sums') r) :
 Ev3 (fun q m1 m0=>ao.l2 q m1 m0 mv x (k:Int) l (l.length:Int) (k:Int) (n:Int) ((0:Nat):Int) tot sums l[k]) r:=by
 have hks:k<s.length:=by rw [← hs.1];exact hk
 obtain ⟨q1,_,_,_⟩:=hs.2 k hk hks
 have hcl:l[k].1.length=n:=by rw [q1.1];exact hn _ (List.getElem_mem hks)
 have key:∀ d j,n-j=d→j≤n→∀ sums,RF RR (1+(k+1)*881) sums n (fun i=>if i<j then comb (cf s i) (gf m) (k+1) else comb (cf s i) (gf m) k)→(∀ i,j≤i→i<n→Sz RR (1+k*881) (comb (cf s i) (gf m) k))→Ev3 (fun q m1 m0=>ao.l2 q m1 m0 mv x (k:Int) l (l.length:Int) (k:Int) (n:Int) (j:Int) tot sums l[k]) r:=by
  intro d
  induction d with
  | zero =>
   intro j hd hj sums hS _
   have:j=n:=by omega
   subst this
   refine Ev3.step (fun q m1 m0=>ao.lY q m1 m0 _ _ _ _ _ _ _ _ _ _ _) (Ev3.bF (decide_eq_false (by omega)) (Ev3.of ?_))
   rw [iO (by omega)]
   exact hr sums (hS.congr (fun i hi=>by rw [if_pos hi]))
  | succ d ih =>
   intro j hd hj sums hS hz
   have hj':j<n:=by omega
   have hSl:=hS.1
   obtain ⟨a1,a2⟩:=q1.at (i:=j) (by omega)
   have e1:s[k].1.getD j 0=cf s j k:=by simp [cf,qf hks]
   rw [e1] at a1 a2
   obtain ⟨p1,p2,p3,p4⟩:=o4 hmk a1 hmz a2 (by decide)
   obtain ⟨b1,b2⟩:=hS.2 j hj'
   simp only [if_neg (Nat.lt_irrefl j)] at b1
   obtain ⟨g1,g2,g3,g4⟩:=mK b1 p3 (hz j (Nat.le_refl _) hj') p4 (by omega)
   have e2:comb (cf s j) (gf m) k+gf m k*cf s j k=comb (cf s j) (gf m) (k+1):=rfl
   rw [e2] at g3 g4
   refine Ev3.step (fun q m1 m0=>ao.lY q m1 m0 _ _ _ _ _ _ _ _ _ _ _) (Ev3.bT (decide_eq_true (by omega)) (Ev3.iT (by omega) (Ev3.iT (by omega) (Ev3.iT (by omega) (Ev3.bind p2 (Ev3.bind g2 (Ev3.iT (by omega) ?_)))))))
   rw [iO (by omega)]
   refine ih (j+1) (by omega) (by omega) _ ((hS.set hj' g3 (eT bm g4 (by omega))).congr (fun i hi=>?_)) (fun i h1 h2=>hz i (by omega) h2)
   by_cases c:i=j
   ·rw [if_pos c,if_pos (by omega),c]
   ·rw [if_neg c]
    by_cases c2:i<j
    ·rw [if_pos c2,if_pos (by omega)]
    ·rw [if_neg c2,if_neg (by omega)]
 exact key n 0 (by omega) (by omega) sums ((hsum.mono bm (by omega)).congr (fun i hi=>by rw [if_neg (by omega)])) (fun i _ hi=>(hsum.2 i hi).2)
theorem xY:∀ (d k:Nat),l.length-k=d→k≤l.length→∀ (x:Bool) (tot:az) (sums:List az),(x=true↔∃ j,j<k∧(ln s j).2.1=2∧0<gf m j)→RF RR (1+k*881) sums n (fun i=>comb (cf s i) (gf m) k)→RB RR tot (comb (kf s) (gf m) k)→Sz RR (1+k*881) (comb (kf s) (gf m) k)→(∀ j,j<k→(ln s j).2.1>0→0≤gf m j) →
 Ev2 (fun q m0=>ao.l1 q m0 mv x l (l.length:Int) (k:Int) tot sums) (dc (sU n s m)):=by
 have hsl:l.length=s.length:=hs.1
 intro d
 induction d with
 | zero =>
  intro k hd hk x tot sums hx hS hT hTz hpos
  have:k=s.length:=by omega
  subst this
  exact Ev2.step (fun q m0=>ao.cn q m0 _ _ _ _ _ _ _) (Ev2.bF (decide_eq_false (by omega)) (Ev2.ofd (xW hs hn hm hml hl hn8 hx (hS.mono bm (by omega)) hT hpos)))
 | succ d ih =>
  intro k hd hk x tot sums hx hS hT hTz hpos
  have hk':k<l.length:=by omega
  have hks:k<s.length:=by omega
  obtain ⟨q1,q2,q3,q4⟩:=hs.2 k hk' hks
  have e:(rdT (t:=aC) l (k:Int):aW)=l[k]:=cJ hk'
  have hrel:l[k].2.1=(ln s k).2.1:=by rw [qf hks];exact q2
  obtain ⟨m1,m2⟩:RB RR (rdT (t:=ah) mv (k:Int):az) (gf m k)∧Sz RR 800 (gf m k):=hm.at (i:=k) (by rw [hml];exact hk')
  have hd':l.length-(k+1)=d:=by rw [Nat.sub_succ,hd];rfl
  have hsg:=il m1
  have hki:0≤(k:Int)∧(k:Int)<(List.length mv:Int):=by omega
  rw [← e] at q3 hrel
  refine Ev2.step (fun q m0=>ao.cn q m0 _ _ _ _ _ _ _) (Ev2.bT (decide_eq_true (by omega)) (Ev2.iT (by omega) ?_))
  have next:(¬ ((ln s k).2.1>0∧gf m k<0))→∀ b9:Bool,(b9=true↔∃ j,j<k+1∧(ln s j).2.1=2∧0<gf m j)→Ev2 (fun q m0=>(if 0≤(k:Int)∧(k:Int)<(List.length mv:Int) then (cU q (rdT (t:=ah) mv (k:Int):az) (rdT (t:=aC) l (k:Int):aW).2.2.1).bind fun (v10:az)=>(cq q tot v10).bind fun (v11:az)=>ao.l2 q q m0 mv b9 (k:Int) l (l.length:Int) (k:Int) (List.length sums:Int) (0:Int) v11 sums (rdT (t:=aC) l (k:Int):aW) else none)) (dc (sU n s m)):=by
   intro hok b9 hb9
   have ek:s[k].2.2=kf s k:=by simp [kf,qf hks]
   rw [ek] at q3 q4
   obtain ⟨p1,p2,p3,p4⟩:=o4 m1 q3 m2 q4 (by decide)
   obtain ⟨g1,g2,g3,g4⟩:=mK hT p3 hTz p4 (by omega)
   have hsl2:sums.length=n:=hS.1
   refine Ev2.iT hki (Ev2.bind p2 (Ev2.bind g2 (Ev3.diag (g:=fun q m1 m0=>ao.l2 q m1 m0 mv b9 (k:Int) l (l.length:Int) (k:Int) (List.length sums:Int) ((0:Nat):Int) g1 sums (rdT (t:=aC) l (k:Int):aW)) ?_)))
   rw [hsl2,e]
   refine xX hs hn hm hml hl hn8 hk' b9 g1 hS m1 m2 (fun sums' hS'=>?_)
   exact ih (k+1) hd' hk' b9 g1 sums' hb9 hS' g3 (eT bm g4 (by omega)) (fun j hj hg=>by
    by_cases c:j=k
    ·rw [c] at hg ⊢
     exact Rat.not_lt.1 (fun h=>hok ⟨hg,h⟩)
    ·exact hpos j (by omega) hg)
  have strict:∀ t:Bool,(t=true↔((ln s k).2.1=2∧0<gf m k))→((x||t)=true↔∃ j,j<k+1∧(ln s j).2.1=2∧0<gf m j):=by
   intro t ht
   rw [Bool.or_eq_true,hx,ht]
   constructor
   ·rintro (⟨j,h1,h2⟩ | h)
    ·exact ⟨j,by omega,h2⟩
    ·exact ⟨k,by omega,h⟩
   ·rintro ⟨j,h1,h2⟩
    by_cases c:j=k
    ·rw [c] at h2;exact .inr h2
    ·exact .inl ⟨j,by omega,h2⟩
  have rest:(¬ ((ln s k).2.1>0∧gf m k<0))→Ev2 (fun q m0=>(bif x then some true else (bif (rdT (t:=aC) l (k:Int):aW).2.1==(2:Int) then if 0≤(k:Int)∧(k:Int)<(List.length mv:Int) then (cE q (rdT (t:=ah) mv (k:Int):az)).bind fun (v7:Int)=>some (decide (v7>(0:Int))) else none else some false).bind fun (b8:Bool)=>some b8).bind fun (b9:Bool)=>(if 0≤(k:Int)∧(k:Int)<(List.length mv:Int) then (cU q (rdT (t:=ah) mv (k:Int):az) (rdT (t:=aC) l (k:Int):aW).2.2.1).bind fun (v10:az)=>(cq q tot v10).bind fun (v11:az)=>ao.l2 q q m0 mv b9 (k:Int) l (l.length:Int) (k:Int) (List.length sums:Int) (0:Int) v11 sums (rdT (t:=aC) l (k:Int):aW) else none)) (dc (sU n s m)):=by
   intro hok
   cases x with
   | true=>exact Ev2.bind (a:=true) (bT rfl (evs _)) (next hok true (strict (dc ((ln s k).2.1=2∧0<gf m k)) dc_iff))
   | false =>
    by_cases c2:(ln s k).2.1=2
    ·refine Ev2.bind (a:=decide (0<gf m k)) (bF rfl (Ev.bind (a:=decide (0<gf m k)) (bT (by rw [hrel,c2];rfl) (iT hki (Ev.bind hsg ?_))) (evs _))) (next hok _ ?_)
     ·rw [sgd_gt];exact evs _
     ·have:=strict (decide (0<gf m k)) (by rw [decide_eq_true_eq];exact ⟨fun h=>⟨c2,h⟩,fun h=>h.2⟩)
      rwa [Bool.false_or] at this
    ·refine Ev2.bind (a:=false) (bF rfl (Ev.bind (a:=false) (bF (by rw [hrel];simpa using c2) (evs _)) (evs _))) (next hok _ ?_)
     have:=strict false (by simp [c2])
     rwa [Bool.false_or] at this
  by_cases c1:(ln s k).2.1>0
  ·by_cases c2:gf m k<0
   ·rw [dg (show ¬ sU n s m from fun h=>Rat.not_lt.2 (h.1 k hks c1) c2)]
    refine Ev2.bind (a:=true) (bT (by rw [hrel];exact decide_eq_true c1) (iT hki (Ev.bind hsg ?_))) (Ev2.bT rfl (Ev2.of (evs _)))
    rw [CD,decide_eq_true c2];exact evs _
   ·refine Ev2.bind (a:=false) (bT (by rw [hrel];exact decide_eq_true c1) (iT hki (Ev.bind hsg ?_))) (Ev2.bF rfl (rest (fun h=>c2 h.2)))
    rw [CD,decide_eq_false c2];exact evs _
  ·exact Ev2.bind (a:=false) (bF (by rw [hrel];exact decide_eq_false c1) (evs _)) (Ev2.bF rfl (rest (fun h=>c1 h.1)))
end
end Go.Proofs.YtjimdhlmeebjeaaGreat.Q
end
section
namespace Go.Proofs.YtjimdhlmeebjeaaGreat.Q
open Go.RowKit Go.Proofs.YtjimdhlmeebjeaaGreatW.PrintWords Go.Proofs.YtjimdhlmeebjeaaGreatW.PrintMore Go.Proofs.YtjimdhlmeebjeaaGreat.V Go.Proofs.YtjimdhlmeebjeaaGreat.E
open Go.Proofs.YtjimdhlmeebjeaaGreat.P (Dg Nm vl WW RR bS gI evs evk evb fv aM aX bm w64 u64)
set_option linter.unusedVariables false
theorem s7 {N:Nat} {l:List aW} {s:List dK} {mv:List az} {m:List Rat} (hs:RSs RR 80 l s) (hn:∀ y∈s,y.1.length=N) (hm:RLs RR 800 mv m) (hml:mv.length=l.length) (l40:l.length≤40) (hN8:N≤8):Ev (fun k=>ao k (N:Int) l mv) (dc (sU N s m)):=by
 refine Ev.step (fun k=>jR k _ l mv) (Ev.bind ky ?_)
 rw [Int.toNat_natCast]
 refine iT ⟨by omega,by omega,by omega,by simp only [maxLen];omega⟩ ?_
 refine Ev2.diag (g:=fun k m0=>ao.l0 k m0 l mv false _ ((0:Nat):Int) _ _) ?_
 have hlen:(List.replicate N ((false,[],[],()):az)).length=N:=List.length_replicate
 have key:∀ d i,N-i=d→i≤N→∀ sums:List az,sums.length=N→(∀ j,j<i→RB RR (rdT (t:=ah) sums (j:Int):az) 0)→Ev2 (fun k m0=>ao.l0 k m0 l mv false (List.length (List.replicate N ((false,[],[],()):az)):Int) (i:Int) (false,[],[1],()) sums) (dc (sU N s m)):=by
  intro d
  induction d with
  | zero =>
   intro i hd hi sums hsl hz
   have:i=N:=by omega
   subst this
   refine Ev2.step (fun k m0=>ao.aS k m0 _ _ _ _ _ _ _) (Ev2.bF (decide_eq_false (by omega)) (Ev2.ofd (g:=fun k m0=>ao.l1 k m0 mv false l (l.length:Int) ((0:Nat):Int) (false,[],[1],()) sums) ?_))
   refine xY hs hn hm hml l40 hN8 l.length 0 (by omega) (by omega) false _ sums (by simp) ⟨hsl,fun i hi=>?_⟩ (gh eR) (eT bm (lI eR) (by omega)) (fun j hj=>by omega)
   exact ⟨hz i hi,eT bm (lI eR) (by omega)⟩
  | succ d ih =>
   intro i hd hi sums hsl hz
   have hi':i<N:=by omega
   refine Ev2.step (fun k m0=>ao.aS k m0 _ _ _ _ _ _ _) (Ev2.bT (decide_eq_true (by omega)) (Ev2.bind ky (Ev2.iT (by omega) ?_)))
   rw [iO (by omega)]
   refine ih (i+1) (by omega) (by omega) _ (by simpa using hsl) (fun j hj=>?_)
   rw [Int.toNat_natCast,zH (by omega)]
   by_cases c:j=i
   ·rw [if_pos c];exact gh eR
   ·rw [if_neg c];exact hz j (by omega)
 exact key N 0 (by omega) (by omega) _ hlen (fun j hj=>by omega)
end Go.Proofs.YtjimdhlmeebjeaaGreat.Q
end
section
namespace Go.Proofs.YtjimdhlmeebjeaaGreat.Q
open Go.RowKit Go.Proofs.YtjimdhlmeebjeaaGreatW.PrintWords Go.Proofs.YtjimdhlmeebjeaaGreatW.PrintMore Go.Proofs.YtjimdhlmeebjeaaGreat.V Go.Proofs.YtjimdhlmeebjeaaGreat.E
open Go.Proofs.YtjimdhlmeebjeaaGreat.P (Dg Nm vl WW RR bS gI evs evk evb fv aM aX bm w64 u64)
open Go.Proofs.YtjimdhlmeebjeaaGreat.F (rlf)
set_option linter.unusedVariables false
def vK (n:Nat) (s:List dK):Prop:=∃ x:Nat→Rat,∀ k,k<s.length→fq (F.lin (ln s k).1 x n) (rlf s k) (kf s k)
theorem Ee {f m:Nat→Rat}:∀ L,(∀ k,k<L→m k*f k≤0)→comb f m L≤0∧((∃ k,k<L∧m k*f k<0)→comb f m L<0)
 | 0,_=>⟨Rat.le_refl,fun ⟨k,h,_⟩=>by omega⟩
 | L+1,h=>by
  obtain ⟨h1,h2⟩:=Ee (f:=f) (m:=m) L (fun k hk=>h k (by omega))
  have h3:=h L (by omega)
  simp only [comb]
  refine ⟨by grind,fun ⟨k,hk,hs⟩=>?_⟩
  by_cases e:k=L
  ·subst e;grind
  ·have:=h2 ⟨k,by omega,hs⟩
   grind
theorem Av (f g m:Nat→Rat):∀ L,comb (fun k=>f k-g k) m L=comb f m L-comb g m L
 | 0=>by simp only [comb];grind
 | L+1=>by
  have:=Av f g m L
  simp only [comb,this];grind
theorem xy {s:List dK} {m:Nat→Rat} {x:Nat→Rat} {L:Nat}:∀ n,(∀ i,i<n→comb (cf s i) m L=0)→comb (fun k=>F.lin (ln s k).1 x n) m L=0
 | 0,_=>by
  have:∀ L,comb (fun k=>F.lin (ln s k).1 x 0) m L=0:=fun L=>by
   induction L with
   | zero=>rfl
   | succ L ih =>
    show comb (fun k=>F.lin (ln s k).1 x 0) m L+m L*0=0
    rw [ih];grind
  exact this L
 | n+1,h=>by
  have ih:=xy (m:=m) (x:=x) (L:=L) n (fun i hi=>h i (by omega))
  have h2:=h n (by omega)
  have key:∀ L,comb (fun k=>F.lin (ln s k).1 x (n+1)) m L=comb (fun k=>F.lin (ln s k).1 x n) m L+x n*comb (cf s n) m L:=fun L=>by
   induction L with
   | zero=>simp only [comb];grind
   | succ L ih =>
    show comb (fun k=>F.lin (ln s k).1 x (n+1)) m L+m L*(F.lin (ln s L).1 x n+(ln s L).1.getD n 0*x n)=(comb (fun k=>F.lin (ln s k).1 x n) m L+m L*F.lin (ln s L).1 x n)+x n*(comb (cf s n) m L+m L*(ln s L).1.getD n 0)
    rw [ih];grind
  rw [key,ih,h2];grind
theorem oi {n:Nat} {s:List dK} {m:List Rat} (hr:∀ k,k<s.length→rlf s k=0∨rlf s k=1∨rlf s k=2) (h:sU n s m):¬ vK n s:=by
 rintro ⟨x,hx⟩
 obtain ⟨h1,h2,h3⟩:=h
 have e0:=xy (x:=x) n h2
 have e1:=Av (fun k=>F.lin (ln s k).1 x n) (kf s) (gf m) s.length
 rw [e0] at e1
 have term:∀ k,k<s.length→gf m k*(F.lin (ln s k).1 x n-kf s k)≤0∧(rlf s k=2→0<gf m k→gf m k*(F.lin (ln s k).1 x n-kf s k)<0):=fun k hk=>by
  have hs:=hx k hk
  unfold fq at hs
  rcases hr k hk with r | r | r
  ·have e:F.lin (ln s k).1 x n=kf s k:=by rw [r] at hs;simpa using hs
   refine ⟨?_,fun h=>by rw [r] at h;exact absurd h (by decide)⟩
   rw [e];grind
  ·have hm:=h1 k hk (show rlf s k>0 by omega)
   have e:F.lin (ln s k).1 x n≤kf s k:=by rw [r] at hs;simp at hs;grind
   refine ⟨?_,fun h=>by rw [r] at h;exact absurd h (by decide)⟩
   have:=Rat.mul_nonneg hm (show (0:Rat)≤kf s k-F.lin (ln s k).1 x n by grind)
   grind
  ·have hm:=h1 k hk (show rlf s k>0 by omega)
   have e:F.lin (ln s k).1 x n<kf s k:=by rw [r] at hs;simp at hs;exact hs
   refine ⟨?_,fun _ hp=>?_⟩
   ·have:=Rat.mul_nonneg hm (show (0:Rat)≤kf s k-F.lin (ln s k).1 x n by grind)
    grind
   ·have:=Rat.mul_pos hp (show (0:Rat)<kf s k-F.lin (ln s k).1 x n by grind)
    grind
 obtain ⟨c1,c2⟩:=Ee (f:=fun k=>F.lin (ln s k).1 x n-kf s k) (m:=gf m) s.length (fun k hk=>(term k hk).1)
 rw [e1] at c1 c2
 rcases h3 with h3 | ⟨h3,k,k1,k2,k3⟩
 ·have:comb (kf s) (gf m) s.length<0:=h3
  grind
 ·have:=c2 ⟨k,k1,(term k k1).2 k2 k3⟩
  have h3':comb (kf s) (gf m) s.length=0:=h3
  grind
def y8 (N:Nat) (x:aW):Prop:=(x.2.2.1.2.1.length≤N∧x.2.2.1.2.2.1.length≤N)∧∀ c∈x.1,c.2.1.length≤N∧c.2.2.1.length≤N
theorem Cb (N:Nat) {l:List aW} (ha:Cd l):∃ t,Ev (fun k=>aE k l (N:Int)) t∧(t=true→∀ x∈l,y8 N x):=by
 have main:∀ i,i≤l.length→(∀ j,j<i→∀ h:j<l.length,y8 N l[j])→∃ r,Ev2 (fun k m=>aE.l0 k m (N:Int) l (l.length:Int) (i:Int)) r∧(r=true→∀ x∈l,y8 N x):=by
  refine dn ?_ (fun i hi ih=>?_)
  ·intro hall
   exact ⟨true,Ev2.step (fun k m=>aE.aS k m _ _ _ _) (Ev2.bF (decide_eq_false (by omega)) (Ev2.of (evs _))),fun _=>kX.2 hall⟩
  ·intro hall
   have e:(rdT (t:=ax) l (i:Int):aW)=l[i]:=cJ hi
   have hal:=(ha.2 _ (List.getElem_mem hi)).1
   have hsh:=iH l[i].2.2.1 N
   by_cases c:(l[i].1.length:Int)>12
   ·exact ⟨false,Ev2.step (fun k m=>aE.aS k m _ _ _ _) (Ev2.bT (decide_eq_true (by omega)) (Ev2.iT (by omega) (Ev2.bind (a:=true) (bT (by rw [e];exact decide_eq_true c) (evs _)) (Ev2.bT rfl (Ev2.of (evs _)))))),fun h=>by simp at h⟩
   ·by_cases hs:l[i].2.2.1.2.1.length≤N∧l[i].2.2.1.2.2.1.length≤N
    ·rw [decide_eq_true hs] at hsh
     have inner:∀ j,j≤l[i].1.length→(∀ j',j'<j→∀ h:j'<l[i].1.length,l[i].1[j'].2.1.length≤N∧l[i].1[j'].2.2.1.length≤N)→∃ r,Ev3 (fun k m1 m0=>aE.l1 k m1 m0 (N:Int) l (l.length:Int) (i:Int) l[i].1 (l[i].1.length:Int) (j:Int)) r∧(r=true→∀ x∈l,y8 N x):=by
      refine dn ?_ (fun j hj ih2=>?_)
      ·intro hc
       obtain ⟨r,r1,r2⟩:=ih (fun j' hj' h'=>by
        by_cases e':j'=i
        ·subst e';exact ⟨hs,kX.2 hc⟩
        ·exact hall j' (by omega) h')
       refine ⟨r,Ev3.step (fun k m1 m0=>aE.cn k m1 m0 _ _ _ _ _ _ _) (Ev3.bF (decide_eq_false (by omega)) (Ev3.of ?_)),r2⟩
       rw [iO (Nat.lt_of_lt_of_le hi ha.1)];exact r1
      ·intro hc
       have ej:(rdT (t:=ah) l[i].1 (j:Int):az)=l[i].1[j]:=cJ hj
       have hsj:=iH l[i].1[j] N
       by_cases hq:l[i].1[j].2.1.length≤N∧l[i].1[j].2.2.1.length≤N
       ·rw [decide_eq_true hq] at hsj
        obtain ⟨r,r1,r2⟩:=ih2 (fun j' hj' h'=>by
         by_cases e':j'=j
         ·subst e';exact hq
         ·exact hc j' (by omega) h')
        refine ⟨r,Ev3.step (fun k m1 m0=>aE.cn k m1 m0 _ _ _ _ _ _ _) (Ev3.bT (decide_eq_true (by omega)) (Ev3.iT (by omega) (Ev3.bind (by rw [ej];exact hsj) (Ev3.bF rfl ?_)))),r2⟩
        rw [iO (Nat.lt_of_lt_of_le hj hal.1)];exact r1
       ·rw [decide_eq_false hq] at hsj
        exact ⟨false,Ev3.step (fun k m1 m0=>aE.cn k m1 m0 _ _ _ _ _ _ _) (Ev3.bT (decide_eq_true (by omega)) (Ev3.iT (by omega) (Ev3.bind (by rw [ej];exact hsj) (Ev3.bT rfl (Ev3.of (Ev2.of (evs _))))))),fun h=>by simp at h⟩
     obtain ⟨r,r1,r2⟩:=inner 0 (by omega) (fun j' h'=>by omega)
     refine ⟨r,Ev2.step (fun k m=>aE.aS k m _ _ _ _) (Ev2.bT (decide_eq_true (by omega)) (Ev2.iT (by omega) (Ev2.bind (a:=false) (bF (by rw [e];exact decide_eq_false c) (Ev.bind (a:=true) (by rw [e];exact hsh) (evs _))) (Ev2.bF rfl ?_)))),r2⟩
     rw [e];exact r1.diag
    ·rw [decide_eq_false hs] at hsh
     exact ⟨false,Ev2.step (fun k m=>aE.aS k m _ _ _ _) (Ev2.bT (decide_eq_true (by omega)) (Ev2.iT (by omega) (Ev2.bind (a:=true) (bF (by rw [e];exact decide_eq_false c) (Ev.bind (a:=false) (by rw [e];exact hsh) (evs _))) (Ev2.bT rfl (Ev2.of (evs _)))))),fun h=>by simp at h⟩
 obtain ⟨r,r1,r2⟩:=main 0 (by omega) (fun j h=>by omega)
 exact ⟨r,Ev.step (fun k=>jS k _ _) r1.diag,r2⟩
theorem tt {N:Nat} {v:az} (h:VN 20 v) (h1:v.2.1.length≤N∧v.2.2.1.length≤N):RB WW v (xL v)∧Sz WW N (xL v):=by
 obtain ⟨a,_⟩:=tr h
 exact ⟨a,vT aM a h1.1 h1.2⟩
theorem xV {n:Int} {N:Nat} {l:List aW} (h:OkS n l) (hN:∀ x∈l,y8 N x):RSs WW N l (iF l):=by
 refine ⟨by simp [iF],fun i h1 h2=>?_⟩
 have ho:=h.2 _ (List.getElem_mem h1)
 have hn:=hN _ (List.getElem_mem h1)
 simp only [iF,List.getElem_map]
 refine ⟨⟨by simp [nE,mE],fun j g1 g2=>?_⟩,rfl,tt ho.1.2.2.2 hn.1⟩
 simp only [nE,mE,List.getElem_map]
 exact tt (ho.2 _ (List.getElem_mem g1)) (hn.2 _ (List.getElem_mem g1))
theorem Dy {l:List aW} {k:Nat} (hk:k<l.length):ln (iF l) k=nE l[k]:=by
 rw [qf (by simp [iF];exact hk)];simp [iF]
theorem vU {N n:Nat} {l:List aW} (h:OkS (n:Int) l) (hN:∀ x∈l,y8 N x):F.Sys n (BK N) (BK N) (iF l):=by
 have hlen:(iF l).length=l.length:=by simp [iF]
 refine ⟨Nat.pow_pos (by decide),Nat.pow_pos (by decide),fun k hk=>?_,fun k hk=>?_,fun k hk x hx=>?_⟩
 ·rw [hlen] at hk
  have:=(h.2 _ (List.getElem_mem hk)).1.1
  rw [Dy hk]
  simp only [nE,jL];omega
 ·rw [hlen] at hk
  have:=(h.2 _ (List.getElem_mem hk)).1.2
  unfold rlf
  rw [Dy hk]
  simp only [nE];omega
 ·rw [hlen] at hk
  have ho:=h.2 _ (List.getElem_mem hk)
  have hn:=hN _ (List.getElem_mem hk)
  rw [Dy hk] at hx
  rcases List.mem_append.1 hx with hx | hx
  ·simp only [nE,mE] at hx
   obtain ⟨c,hc,rfl⟩:=List.mem_map.1 hx
   exact zV (tt (ho.2 _ hc) (hn.2 _ hc)).2
  ·rw [List.mem_singleton] at hx
   rw [hx]
   exact zV (tt ho.1.2.2.2 hn.1).2
theorem vE {B:Int} {K:Nat} {l:List az} {q:List Rat} (h:RLs WW K l q) (hK:K≤4096) (hl:l.length≤1000000):Args l:=by
 refine ⟨by omega,fun x hx=>?_⟩
 obtain ⟨i,hi,rfl⟩:=List.getElem_of_mem hx
 obtain ⟨a,b⟩:=h.2 i hi (by rw [← h.1];exact hi)
 exact uw a b (by omega)
theorem AP {K:Nat} {l:List az} {q:List Rat} (h:RLs WW K l q):∀ x∈l,VN K x:=fun x hx=>by
 obtain ⟨i,hi,rfl⟩:=List.getElem_of_mem hx
 exact ⟨_,h.2 i hi (by rw [← h.1];exact hi)⟩
theorem zk {K:Nat} {l:List az} {q:List Rat} (h:RLs WW K l q):mE l=q:=by
 refine List.ext_getElem (by rw [jL,h.1]) (fun i h1 h2=>?_)
 have hi:i<l.length:=by rw [jL] at h1;exact h1
 simp only [mE,List.getElem_map]
 exact yb (h.2 i hi h2).1
theorem sF {n:Nat} {s:List dK} {q:List Rat} (hlen:∀ k,k<s.length→(ln s k).1.length=n):qo s q↔∀ k,k<s.length→fq (qE (ln s k).1 q n) (rlf s k) (kf s k):=by
 constructor
 ·intro h k hk
  have:=h _ (List.getElem_mem hk)
  have e:=qf hk
  unfold Ar at this
  have hl:=hlen k hk
  unfold rlf kf
  rw [e] at hl ⊢
  rwa [hl] at this
 ·intro h y hy
  obtain ⟨k,hk,rfl⟩:=List.getElem_of_mem hy
  have:=h k hk
  have e:=qf hk
  have hl:=hlen k hk
  unfold rlf kf at this
  rw [e] at hl this
  unfold Ar
  rwa [hl]
theorem pX {n:Nat} {s:List dK} {q:List Rat} (h:∀ k,k<s.length→fq (qE (ln s k).1 q n) (rlf s k) (kf s k)):vK n s:=⟨fun k=>q.getD k 0,fun k hk=>by rw [yL (q:=q) n (fun i _=>rfl)];exact h k hk⟩
open Classical in
theorem xu {K n Lm:Nat} {l:List aW} (ha:Cd l) (hok:OkS (n:Int) l) (hN:∀ x∈l,y8 K x) (hK:1≤K) (hn:n≤3) (hl:l.length≤Lm) (hLm:Lm≤10) (hnum:vM K n Lm) :
 Ev (fun k=>dA k (n:Int) l) (if vK n (iF l) then 1 else 0):=by
 have hsys:=vU hok hN
 have hlen:(iF l).length=l.length:=by simp [iF]
 obtain ⟨z,z1,z2⟩:=vJ ha hok (xV hok hN) hK hn (by rw [hlen];exact hl) hLm hsys hnum
 obtain ⟨so,so1,so2⟩:=Of_sp hok
 have sol:so.length=l.length:=by rw [so2.1,hlen]
 have hsn:∀ y∈iF l,y.1.length=n∧0≤y.2.1∧y.2.1≤2:=fun y hy=>by
  obtain ⟨k,hk,rfl⟩:=List.getElem_of_mem hy
  have h1:=hsys.len k hk
  have h2:=hsys.rel k hk
  unfold rlf at h2
  rw [qf hk] at h1 h2
  exact ⟨h1,by omega,by omega⟩
 rcases z2 with ⟨pt,pq,rfl,p1,p2,p3⟩ | ⟨m,mq,rfl,m1,m2,m3⟩
 ·have hsat:=pX p3
  rw [if_pos hsat]
  have pl:pt.length=n:=by rw [p1.1,p2]
  have hL:=nI (n:Int) (vE (B:=WW) p1 (by decide) (by omega))
  rw [dY ⟨AP p1,by omega⟩] at hL
  obtain ⟨r,r1,r2⟩:=vL (l:=pt) (by omega) (AP p1) (by decide)
  rw [zk p1] at r2
  have hH:=pZ (n:=n) so2 r2 (by omega) (by omega) (by rw [r2.1];exact p2) hsn
  rw [dY ((sF hsys.len).2 p3)] at hH
  exact Ev.step (fun k=>gE k _ _) (Ev.bind z1 (bF rfl (Ev.bind so1 (Ev.bind hL (Ev.bind (a:=true) (bT rfl (Ev.bind r1 (Ev.bind hH (evs _)))) (bT rfl (bF rfl (evs _))))))))
 ·have hun:=oi hsys.rel m3
  rw [if_neg hun]
  have ml:m.length=l.length:=by rw [m1.1,m2,hlen]
  have hL:=nI (n:Int) (l:=[]) ⟨by simp,fun x h=>by simp at h⟩
  have hL2:=nI (l.length:Int) (vE (B:=WW) m1 (by decide) (by omega))
  rw [dY ⟨AP m1,by omega⟩] at hL2
  obtain ⟨r,r1,r2⟩:=vL (l:=m) (by omega) (AP m1) (by decide)
  rw [zk m1] at r2
  have hR:=s7 (N:=n) so2 (fun y hy=>(hsn y hy).1) r2 (by rw [r2.1,m2,sol,hlen]) (by omega) (by omega)
  rw [dY m3] at hR
  have hfirst:Ev (fun k=>bif dc ((∀ x∈([]:List az),VN 200 x)∧((([]:List az).length:Nat):Int)=(n:Int)) then (bf k []).bind fun (v4:List az)=>(bg k so v4).bind fun (v5:Bool)=>some v5 else some false) false:=by
   by_cases c:(∀ x∈([]:List az),VN 200 x)∧((([]:List az).length:Nat):Int)=(n:Int)
   ·rw [dY c]
    have n0:n=0:=by have:=c.2;simp at this;omega
    obtain ⟨r',r1',r2'⟩:=vL (l:=[]) (N:=200) (by simp) c.1 (by decide)
    have hH:=pZ (n:=n) so2 r2' (by omega) (by omega) (by rw [r2'.1,n0];rfl) hsn
    rw [dg (fun h=>hun (pX ((sF hsys.len).1 h)))] at hH
    exact bT rfl (Ev.bind r1' (Ev.bind hH (evs _)))
   ·rw [dg c];exact bF rfl (evs _)
  have e2:((List.length m:Nat):Int)=((List.length l:Nat):Int):=by omega
  exact Ev.step (fun k=>gE k _ _) (Ev.bind z1 (bF rfl (Ev.bind so1 (Ev.bind hL (Ev.bind hfirst (bF rfl (Ev.bind (a:=false) (bF rfl (Ev.bind hL2 (evs _))) (Ev.bind (a:=false) (bF rfl (Ev.bind r1 (Ev.bind hR (evs _)))) (bF rfl (evs _))))))))))
end Go.Proofs.YtjimdhlmeebjeaaGreat.Q
end
section
namespace Go.Proofs.YtjimdhlmeebjeaaGreat.E
open Go.RowKit Go.Proofs.YtjimdhlmeebjeaaGreat.V
theorem vrel_lit {w:World} {F:Fo} {a b} {v u:Value} (h:gu w F a b v (.cv (.lit u))):v=u:=by
 cases h with
 | cv h=>cases h;rfl
end Go.Proofs.YtjimdhlmeebjeaaGreat.E
end
section
namespace Go.Proofs.YtjimdhlmeebjeaaGreat.Q
open Go.RowKit Go.Proofs.YtjimdhlmeebjeaaGreatW.PrintWords Go.Proofs.YtjimdhlmeebjeaaGreatW.PrintMore Go.Proofs.YtjimdhlmeebjeaaGreat.V Go.Proofs.YtjimdhlmeebjeaaGreat.E
open Go.Proofs.YtjimdhlmeebjeaaGreat.P (Dg Nm vl WW RR bS gI evs evk evb fv aM aX bm w64 u64)
open Go.Proofs.YtjimdhlmeebjeaaGreat.F (rlf)
set_option linter.unusedVariables false
theorem Be {z:Int} (h0:-1000000000000<z) (h1:z<1000000000000):∃ r,Ev (fun k=>gP k z) r∧RB RR r (z:Rat)∧Sz RR 4 (z:Rat):=by
 have hsz:Sz RR 4 (z:Rat):=by
  constructor
  ·rw [Rat.num_intCast];have:(RR:Int) ^ 4=10000000000000000:=by decide
   omega
  ·rw [Rat.den_intCast];decide
 by_cases c:z<0
 ·obtain ⟨x,x1,x2⟩:=s_Int (a:=-z) (by omega) (by omega)
  refine ⟨_,Ev.step (fun k=>iN k z) (bT (decide_eq_true c) (Ev.bind (by rw [w64 (x:=-z) (by omega) (by omega)];exact x1) (evs _))),⟨?_,?_,yW eR⟩,hsz⟩
  ·rw [Rat.num_intCast];exact (decide_eq_true c).symm
  ·rw [Rat.num_intCast,show ((z.natAbs:Nat):Int) = -z by omega];exact x2
 ·obtain ⟨x,x1,x2⟩:=s_Int (a:=z) (by omega) (by omega)
  refine ⟨_,Ev.step (fun k=>iN k z) (bF (decide_eq_false c) (Ev.bind x1 (evs _))),⟨?_,?_,yW eR⟩,hsz⟩
  ·rw [Rat.num_intCast];exact (decide_eq_false c).symm
  ·rw [Rat.num_intCast,show ((z.natAbs:Nat):Int)=z by omega];exact x2
theorem Cq {z:Int} {K:Nat} (h:z.natAbs<4294967296 ^ K) (hK:1≤K):Sz WW K (z:Rat):=by
 have e:WW ^ K=((4294967296 ^ K:Nat):Int):=by rw [P.dm,Int.natCast_pow];rfl
 have:=Nat.one_lt_pow (n:=K) (by omega) (show 1<4294967296 by decide)
 refine ⟨?_,?_⟩
 ·rw [e,Rat.num_intCast];omega
 ·rw [e,Rat.den_intCast];omega
theorem Dl {z:Int} (h0:-1000000000000<z) (h1:z<1000000000000):∃ r,Ev (fun k=>dQ k z) r∧RB WW r (z:Rat):=by
 obtain ⟨a,a1,a2,a3⟩:=Be h0 h1
 obtain ⟨b,b1,b2⟩:=wD a2 a3 (by decide)
 exact ⟨b,Ev.step (fun k=>mi k z) (Ev.bind a1 (Ev.bind b1 (evs _))),b2⟩
def LnOK (K n:Nat) (x:aW) (y:dK):Prop:=RLn WW K x y∧y.1.length=n∧0≤y.2.1∧y.2.1≤2
theorem uZ {K n:Nat} {x:aW} {y:dK} (h:LnOK K n x y) (hK:K≤20) (hn:n≤8):ArgL x∧OkL (n:Int) x∧y8 K x∧nE x=y:=by
 obtain ⟨⟨h1,h2,h3,h4⟩,h5,h6,h7⟩:=h
 have hl:x.1.length=n:=by rw [h1.1,h5]
 refine ⟨⟨vE (B:=WW) h1 (by omega) (by omega),uw h3 h4 (by omega)⟩,⟨⟨by omega,by omega,by omega,_,h3,eT aM h4 hK⟩,AP (h1.mono aM hK)⟩,⟨fe aX h3 h4,fun c hc=>?_⟩,?_⟩
 ·obtain ⟨i,hi,rfl⟩:=List.getElem_of_mem hc
  obtain ⟨a,b⟩:=h1.2 i hi (by rw [← h1.1];exact hi)
  exact fe aX a b
 ·obtain ⟨a,b,c⟩:=y
  simp only [nE,zk h1,yb h3]
  simp only at h2
  rw [h2]
theorem vV {K n:Nat} {l:List aW} {s:List dK} (hl:l.length=s.length) (h:∀ i,∀ h1:i<l.length,∀ h2:i<s.length,LnOK K n l[i] s[i]) (hK:K≤20) (hn:n≤8) (h40:l.length≤40):Cd l∧OkS (n:Int) l∧(∀ x∈l,y8 K x)∧iF l=s:=by
 have each:∀ x∈l,ArgL x∧OkL (n:Int) x∧y8 K x:=fun x hx=>by
  obtain ⟨i,hi,rfl⟩:=List.getElem_of_mem hx
  obtain ⟨a,b,c,_⟩:=uZ (h i hi (by rw [← hl];exact hi)) hK hn
  exact ⟨a,b,c⟩
 refine ⟨⟨by omega,fun x hx=>(each x hx).1⟩,⟨⟨by omega,by omega,h40⟩,fun x hx=>(each x hx).2.1⟩,fun x hx=>(each x hx).2.2,?_⟩
 refine List.ext_getElem (by simp [iF,hl]) (fun i h1 h2=>?_)
 simp only [iF,List.getElem_map]
 exact (uZ (h i (by simpa [iF] using h1) h2) hK hn).2.2.2
theorem ln_one {K:Nat} {v w:az} {p q:Rat} {rel:Int} (hv:RB WW v p) (hp:Sz WW K p) (hw:RB WW w q) (hq:Sz WW K q) (hr:0≤rel∧rel≤2):LnOK K 1 ([v],rel,w,()) ([p],rel,q):=by
 refine ⟨⟨⟨rfl,fun i h1 h2=>?_⟩,rfl,hw,hq⟩,rfl,hr.1,hr.2⟩
 have:i=0:=by simp at h1;omega
 subst this
 exact ⟨hv,hp⟩
theorem Ep:Ev (fun k=>fY k) true:=by
 obtain ⟨a,a1,a2⟩:=Dl (z:=-1) (by decide) (by decide)
 obtain ⟨b,b1,b2⟩:=Dl (z:=1) (by decide) (by decide)
 obtain ⟨c,c1,c2⟩:=Dl (z:=0) (by decide) (by decide)
 have za:Sz WW 1 ((-1:Int):Rat):=Cq (by decide) (by decide)
 have zb:Sz WW 1 ((1:Int):Rat):=Cq (by decide) (by decide)
 have zc:Sz WW 1 ((0:Int):Rat):=Cq (by decide) (by decide)
 have low:=ln_one a2 za a2 za (rel:=1) (by decide)
 have high:=ln_one b2 zb c2 zc (rel:=1) (by decide)
 obtain ⟨x1,x2,x3,x4⟩:=vV (K:=1) (n:=1) (l:=[([a],1,a,()),([b],1,c,())]) (s:=[([((-1:Int):Rat)],1,((-1:Int):Rat)),([((1:Int):Rat)],1,((0:Int):Rat))]) rfl (fun i h1 h2=>by
  match i,h1,h2 with
  | 0,_,_=>exact low
  | 1,_,_=>exact high
  | i+2,h,_=>simp at h;omega) (by decide) (by decide) (by simp)
 obtain ⟨y1,y2,y3,y4⟩:=vV (K:=1) (n:=1) (l:=[([a],1,a,())]) (s:=[([((-1:Int):Rat)],1,((-1:Int):Rat))]) rfl (fun i h1 h2=>by
  match i,h1,h2 with
  | 0,_,_=>exact low
  | i+1,h,_=>simp at h) (by decide) (by decide) (by simp)
 have e1:((-1:Int):Rat) = -1:=rfl
 have e2:((1:Int):Rat)=1:=rfl
 have e3:((0:Int):Rat)=0:=rfl
 obtain ⟨z,z1,z2⟩:=vJ (K:=1) (n:=1) (Lm:=10) x1 x2 (xV x2 x3) (by decide) (by decide) (by rw [x4];decide) (by decide) (vU x2 x3) (num1 1 (by decide))
 obtain ⟨w,w1,w2⟩:=vJ (K:=1) (n:=1) (Lm:=10) y1 y2 (xV y2 y3) (by decide) (by decide) (by rw [y4];decide) (by decide) (vU y2 y3) (num1 1 (by decide))
 have hz:∃ m,z=([],m,0,())∧m.length=2:=by
  rcases z2 with ⟨pt,pq,rfl,p1,p2,p3⟩ | ⟨m,mq,rfl,m1,m2,m3⟩
  ·exfalso
   rw [x4] at p3
   have h0:=p3 0 (by decide)
   have h1:=p3 1 (by decide)
   unfold fq at h0 h1
   simp [ln,rlf,kf,qE] at h0 h1
   grind
  ·exact ⟨m,rfl,by rw [m1.1,m2,x4];rfl⟩
 have hw:∃ pt pq,w=(pt,[],0,())∧RLs WW 200 pt pq∧pq.length=1∧∀ k,k<(iF [([a],1,a,())]).length→fq (qE (ln (iF [([a],1,a,())]) k).1 pq 1) (rlf (iF [([a],1,a,())]) k) (kf (iF [([a],1,a,())]) k):=by
  rcases w2 with h | ⟨m,mq,rfl,m1,m2,m3⟩
  ·exact h
  ·exfalso
   refine oi (vU y2 y3).rel m3 ⟨fun _=>1,fun k hk=>?_⟩
   rw [y4] at hk ⊢
   have:k=0:=by simp at hk;omega
   subst this
   left
   simp [ln,rlf,kf,F.lin]
   grind
 obtain ⟨m,rfl,ml⟩:=hz
 obtain ⟨pt,pq,rfl,p1,p2,p3⟩:=hw
 have pl:pt.length=1:=by rw [p1.1,p2]
 have hH:=Holds_sp (n:=((1:Nat):Int)) (l:=[([a],1,a,())]) (pt:=pt) y1 (vE (B:=WW) p1 (by decide) (by omega))
 rw [xa y2,xa ⟨AP p1,by omega⟩,zk p1,dY ((sF (vU y2 y3).len).2 p3)] at hH
 refine Ev.step (fun k=>kO k) (Ev.bind a1 (Ev.bind a1 (Ev.bind b1 (Ev.bind c1 (Ev.bind z1 (Ev.bind w1 (Ev.bind hH ?_)))))))
 simp only [ml,pl]
 exact evs _
theorem z8 {n:Int} {l:List aW} (most:Int) (ha:Cd l):∃ t,Ev (fun k=>e9 k n l most) t∧(t=true→n≤3∧(l.length:Int)≤most∧(∀ x∈l,y8 1 x)∧OkS n l):=by
 obtain ⟨t,t1,t2⟩:=Cb 1 ha
 have hv:=uH (n:=n) ha
 have e1:Ev (fun _=>bif decide (n≤(3:Int)) then some (decide ((List.length l:Int)≤most)) else some false) (decide (n≤3)&&decide ((List.length l:Int)≤most)):=by
  cases decide (n≤(3:Int))<;>exact evs _
 by_cases c1:(decide (n≤3)&&decide ((List.length l:Int)≤most))=true
 ·rw [c1] at e1
  simp only [Bool.and_eq_true,decide_eq_true_eq] at c1
  cases t with
  | false=>exact ⟨false,Ev.step (fun k=>dX k _ _ _) (Ev.bind e1 (Ev.bind (a:=false) (bT rfl (Ev.bind t1 (evs _))) (Ev.bind (a:=false) (bF rfl (evs _)) (evs _)))),fun h=>by simp at h⟩
  | true =>
   by_cases c2:OkS n l
   ·rw [xa c2] at hv
    exact ⟨true,Ev.step (fun k=>dX k _ _ _) (Ev.bind e1 (Ev.bind (a:=true) (bT rfl (Ev.bind t1 (evs _))) (Ev.bind (a:=true) (bT rfl (Ev.bind hv (evs _))) (evs _)))),fun _=>⟨c1.1,c1.2,t2 rfl,c2⟩⟩
   ·rw [sE c2] at hv
    exact ⟨false,Ev.step (fun k=>dX k _ _ _) (Ev.bind e1 (Ev.bind (a:=true) (bT rfl (Ev.bind t1 (evs _))) (Ev.bind (a:=false) (bT rfl (Ev.bind hv (evs _))) (evs _)))),fun h=>by simp at h⟩
 ·rw [Bool.eq_false_iff.2 c1] at e1
  exact ⟨false,Ev.step (fun k=>dX k _ _ _) (Ev.bind e1 (Ev.bind (a:=false) (bF rfl (evs _)) (Ev.bind (a:=false) (bF rfl (evs _)) (evs _)))),fun h=>by simp at h⟩
end Go.Proofs.YtjimdhlmeebjeaaGreat.Q
end
section
namespace Go.Proofs.YtjimdhlmeebjeaaGreat.Q
open Go.RowKit Go.Proofs.YtjimdhlmeebjeaaGreatW.PrintWords Go.Proofs.YtjimdhlmeebjeaaGreatW.PrintMore Go.Proofs.YtjimdhlmeebjeaaGreat.V Go.Proofs.YtjimdhlmeebjeaaGreat.E
open Go.Proofs.YtjimdhlmeebjeaaGreat.P (Dg Nm vl WW RR bS gI evs evk evb fv aM aX bm w64 u64)
set_option linter.unusedVariables false
theorem AB {l:List az} (h:Cc (.list ah) l):Args l:=⟨h.1,fun x hx=>yY (h.2 x hx)⟩
theorem Eu {l:List aW} (h:Cc (.list ax) l):Cd l:=⟨h.1,fun x hx=>⟨AB (h.2 x hx).1,yY (h.2 x hx).2.2.1⟩⟩
end Go.Proofs.YtjimdhlmeebjeaaGreat.Q
end
section
namespace Go.Proofs.YtjimdhlmeebjeaaGreat.Q
open Go.RowKit Go.Proofs.YtjimdhlmeebjeaaGreatW.PrintWords Go.Proofs.YtjimdhlmeebjeaaGreatW.PrintMore Go.Proofs.YtjimdhlmeebjeaaGreat.V Go.Proofs.YtjimdhlmeebjeaaGreat.E
open Go.Proofs.YtjimdhlmeebjeaaGreat.P (Dg Nm vl WW RR bS gI evs evk evb fv aM aX bm w64 u64)
open Go.Proofs.YtjimdhlmeebjeaaGreat.F (rlf)
set_option linter.unusedVariables false
theorem orn_ev {f:Nat→Option Bool} {t:Bool} (b:Bool) (h:Ev f t):Ev (fun k=>bif b then some true else (f k).bind fun v=>some (!v)) (b||!t):=by
 cases b with
 | true=>exact bT rfl (evs _)
 | false=>exact bF rfl (Ev.bind h (by rw [Bool.false_or];exact evs _))
theorem uF {n:Nat} {s:List dK} {y:dK}:vK n (s++[y])↔∃ x:Nat→Rat,(∀ k,k<s.length→fq (F.lin (ln s k).1 x n) (rlf s k) (kf s k))∧fq (F.lin y.1 x n) y.2.1 y.2.2:=by
 have e1:∀ k,k<s.length→ln (s++[y]) k=ln s k:=fun k hk=>by
  unfold ln
  simp [List.getD_eq_getElem?_getD,List.getElem?_append_left hk]
 have e2:ln (s++[y]) s.length=y:=by simp [ln]
 constructor
 ·rintro ⟨x,hx⟩
  refine ⟨x,fun k hk=>?_,?_⟩
  ·have:=hx k (by simp;omega)
   unfold rlf kf at this ⊢
   rwa [e1 k hk] at this
  ·have:=hx s.length (by simp)
   unfold rlf kf at this
   rwa [e2] at this
 ·rintro ⟨x,h1,h2⟩
  refine ⟨x,fun k hk=>?_⟩
  unfold rlf kf
  by_cases c:k<s.length
  ·rw [e1 k c];exact h1 k c
  ·have:k=s.length:=by simp at hk;omega
   rw [this,e2];exact h2
theorem Et {l:List aW} {x:aW} (ha:Cd l) (hx:ArgL x) (hl:l.length≤100):Cd (l++[x]):=⟨by simp;omega,fun y hy=>by
 rcases List.mem_append.1 hy with h | h
 ·exact ha.2 y h
 ·rw [List.mem_singleton.1 h];exact hx⟩
theorem oks_snoc {n:Int} {l:List aW} {x:aW} (ho:OkS n l) (hx:OkL n x) (hl:l.length<40):OkS n (l++[x]):=⟨⟨ho.1.1,ho.1.2.1,by simp;omega⟩,fun y hy=>by
 rcases List.mem_append.1 hy with h | h
 ·exact ho.2 y h
 ·rw [List.mem_singleton.1 h];exact hx⟩
theorem num_snoc {N:Nat} {l:List aW} {x:aW} (ho:∀ y∈l,y8 N y) (hx:y8 N x):∀ y∈l++[x],y8 N y:=fun y hy=>by
 rcases List.mem_append.1 hy with h | h
 ·exact ho y h
 ·rw [List.mem_singleton.1 h];exact hx
theorem val_snoc (l:List aW) (x:aW):iF (l++[x])=iF l++[nE x]:=by simp [iF]
theorem Cn {v:az} {p:Rat} (hv:RB WW v p) (hz:Sz WW 1 p):∃ a b c,Ev (fun k=>cP k v) a∧Ev (fun k=>dP k a) b∧Ev (fun k=>dZ k b) c∧RB WW c (-p)∧Sz WW 1 (-p):=by
 obtain ⟨a,a1,a2,a3⟩:=rv hv hz (by decide)
 obtain ⟨b,b1,b2,b3⟩:=tH a2 a3
 obtain ⟨c,c1,c2⟩:=wD b2 b3 (by decide)
 exact ⟨a,b,c,a1,b1,c1,c2,zq hz⟩
theorem Dz {c:List Rat} {x:Nat→Rat}:∀ n,F.lin (c.map fun q=>-q) x n = -F.lin c x n
 | 0=>by simp only [F.lin];grind
 | n+1=>by
  have ih:=Dz (c:=c) (x:=x) n
  have e:(c.map fun q=>-q).getD n 0 = -c.getD n 0:=F.getD_map (f:=fun q=>-q) (by simp) c n
  simp only [F.lin,ih,e];grind
theorem neg_get {q:List Rat} {j:Nat} (h:j<q.length):(q.map fun x=>-x).take (j+1)=(q.map fun x=>-x).take j++[-q.getD j 0]:=by
 rw [jW (by simpa using h)]
 congr 2
 exact F.getD_map (f:=fun q=>-q) (by simp) q j
open Classical in
theorem tm {n:Int} {l:List aW} {x:aW} (hn:(Lit.int .i64 n).wf=true) (ha:Cd l) (hx:ArgL x):Ev (fun k=>bK k n l x) true:=by
 obtain ⟨t,t1,t2⟩:=z8 (n:=n) 6 ha
 obtain ⟨u,u1,u2⟩:=z8 (n:=n) (l:=[x]) 1 ⟨by simp,fun y hy=>by rw [List.mem_singleton.1 hy];exact hx⟩
 refine Ev.step (fun k=>jf k n l x) (Ev.bind Ep (bF rfl (Ev.bind (orn_ev _ t1) (Ev.bind (orn_ev _ u1) ?_))))
 generalize hb:((decide (n>2)||!t)||!u)=b
 cases b with
 | true=>exact bT rfl (evs _)
 | false =>
  refine bF rfl ?_
  simp only [Bool.or_eq_false_iff,decide_eq_false_iff_not,Bool.not_eq_false'] at hb
  obtain ⟨⟨hn2,rfl⟩,rfl⟩:=hb
  obtain ⟨_,h2,h3,h4⟩:=t2 rfl
  obtain ⟨_,_,g3,g4⟩:=u2 rfl
  have gx:=g3 x (List.mem_singleton.2 rfl)
  have gok:=g4.2 x (List.mem_singleton.2 rfl)
  obtain ⟨N,rfl⟩:∃ N:Nat,n=(N:Int):=⟨n.toNat,by have:=h4.1.1;omega⟩
  have hl:l.length≤6:=by omega
  have hd:=xu (K:=1) (Lm:=10) ha h4 h3 (by decide) (by omega) (by omega) (by decide) (num1 N (by omega))
  have more:∀ y,ArgL y→OkL (N:Int) y→y8 1 y→Ev (fun k=>dA k (N:Int) (l++[y])) (if vK N (iF l++[nE y]) then 1 else 0):=fun y y1 y2 y3=>by
   have:=xu (K:=1) (Lm:=10) (Et ha y1 (by omega)) (oks_snoc h4 y2 (by omega)) (num_snoc h3 y3) (by decide) (by omega) (by simp;omega) (by decide) (num1 N (by omega))
   rwa [val_snoc] at this
  have hm:=more x hx gok gx
  have hsub:vK N (iF l++[nE x])→vK N (iF l):=fun h=>by
   obtain ⟨p,p1,_⟩:=uF.1 h
   exact ⟨p,p1⟩
  have e0:(([]:List aW)++l)=l:=rfl
  refine Ev.bind hd (iT (by simp;omega) (iT (by simp;omega) ?_))
  rw [e0]
  refine Ev.bind hm (Ev.bind (a:=false) ?_ (Ev.bind (a:=false) ?_ (bF rfl ?_)))
  ·by_cases c:vK N (iF l)<;>by_cases d:vK N (iF l++[nE x])<;>simp only [if_pos,if_neg,c,d]<;>exact evs _
  ·by_cases c:vK N (iF l)<;>by_cases d:vK N (iF l++[nE x])
   ·rw [if_pos c,if_pos d];exact evs _
   ·rw [if_pos c,if_neg d];exact evs _
   ·exact absurd (hsub d) c
   ·rw [if_neg c,if_neg d];exact evs _
  ·by_cases r0:x.2.1=0
   ·exact bT (by rw [r0];rfl) (evs _)
   ·refine bF (by rw [beq_eq_false_iff_ne];exact r0) ?_
    have hrel:=gok.1.2
    obtain ⟨k1,k2⟩:=tt gok.1.2.2.2 gx.1
    obtain ⟨a,b,c,a1,b1,c1,c2,c3⟩:=Cn k1 k2
    refine Ev.bind a1 (Ev.bind b1 (Ev.bind c1 ?_))
    have xl:x.1.length=N:=by have:=gok.1.1;omega
    have hw:wrap64 (3-x.2.1)=3-x.2.1:=w64 (by omega) (by omega)
    rw [hw]
    have key:∀ j,j≤x.1.length→∀ r,RLs WW 1 r (((mE x.1).map fun q=>-q).take j)→Ev2 (fun k m=>bK.l0 k m (N:Int) l (if vK N (iF l) then 1 else 0) (if vK N (iF l++[nE x]) then 1 else 0) x.1 (x.1.length:Int) (j:Int) (3-x.2.1) c r) true:=by
     refine dn ?_ (fun j hj ih=>?_)
     ·intro r hr
      rw [List.take_of_length_le (by simp [jL])] at hr
      have hy:LnOK 1 N (r,3-x.2.1,c,()) ((mE x.1).map (fun q=>-q),3-x.2.1,-xL x.2.2.1):=⟨⟨hr,rfl,c2,c3⟩,by simp [jL,xl],by simp only;omega,by simp only;omega⟩
      obtain ⟨y1,y2,y3,y4⟩:=uZ hy (by decide) (by omega)
      have ho:=more _ y1 y2 y3
      rw [y4] at ho
      refine Ev2.step (fun k m=>bK.aS k m _ _ _ _ _ _ _ _ _ _) (Ev2.bF (decide_eq_false (by omega)) (Ev2.iT (by simp;omega) (Ev2.iT (by simp;omega) (Ev2.of ?_))))
      rw [e0]
      refine Ev.bind ho ?_
      have hiff:vK N (iF l)↔vK N (iF l++[nE x])∨vK N (iF l++[((mE x.1).map (fun q=>-q),3-x.2.1,-xL x.2.2.1)]):=by
       rw [uF,uF]
       constructor
       ·rintro ⟨p,hp⟩
        have hl2:=Dz (c:=mE x.1) (x:=p) N
        by_cases hq:fq (F.lin (mE x.1) p N) x.2.1 (xL x.2.2.1)
        ·exact .inl ⟨p,hp,hq⟩
        ·refine .inr ⟨p,hp,?_⟩
         show fq (F.lin ((mE x.1).map fun q=>-q) p N) (3-x.2.1) (-xL x.2.2.1)
         rw [hl2]
         have:x.2.1=1∨x.2.1=2:=by omega
         unfold fq at hq ⊢
         rcases this with e | e<;>rw [e] at hq ⊢<;>simp at hq ⊢<;>grind
       ·rintro (⟨p,hp,_⟩ | ⟨p,hp,_⟩)<;>exact ⟨p,hp⟩
      by_cases cA:vK N (iF l)
      ·rw [if_pos cA]
       rcases hiff.1 cA with h | h
       ·rw [if_pos h]
        by_cases cC:vK N (iF l++[((mE x.1).map (fun q=>-q),3-x.2.1,-xL x.2.2.1)])
        ·rw [if_pos cC];exact Ev.bind (a:=true) (bT rfl (Ev.bind (a:=true) (bT rfl (evs _)) (evs _))) (evs _)
        ·rw [if_neg cC];exact Ev.bind (a:=true) (bT rfl (Ev.bind (a:=true) (bT rfl (evs _)) (evs _))) (evs _)
       ·rw [if_pos h]
        by_cases cC:vK N (iF l++[nE x])
        ·rw [if_pos cC];exact Ev.bind (a:=true) (bT rfl (Ev.bind (a:=true) (bT rfl (evs _)) (evs _))) (evs _)
        ·rw [if_neg cC];exact Ev.bind (a:=true) (bT rfl (Ev.bind (a:=true) (bF rfl (evs _)) (evs _))) (evs _)
      ·rw [if_neg cA,if_neg (fun h=>cA (hiff.2 (.inl h))),if_neg (fun h=>cA (hiff.2 (.inr h)))]
       exact Ev.bind (a:=true) (bT rfl (Ev.bind (a:=false) (bF rfl (evs _)) (evs _))) (evs _)
     ·intro r hr
      have hjv:j<(mE x.1).length:=by rw [jL];exact hj
      have ej:(rdT (t:=ah) x.1 (j:Int):az)=x.1[j]:=cJ hj
      obtain ⟨v1,v2⟩:=tt (gok.2 _ (List.getElem_mem hj)) (gx.2 _ (List.getElem_mem hj))
      obtain ⟨d,e,f,d1,e1,f1,f2,f3⟩:=Cn v1 v2
      have eg:(mE x.1).getD j 0=xL x.1[j]:=by simp [mE,List.getD_eq_getElem?_getD,hj]
      have:=ih (r++[f]) (by rw [neg_get hjv,eg];exact hr.snoc f2 f3)
      have rl:r.length=j:=by rw [hr.1];simp [jL];omega
      refine Ev2.step (fun k m=>bK.aS k m _ _ _ _ _ _ _ _ _ _) (Ev2.bT (decide_eq_true (by omega)) (Ev2.iT (by omega) ?_))
      rw [ej]
      refine Ev2.bind d1 (Ev2.bind e1 (Ev2.bind f1 (Ev2.iT (by simp;omega) ?_)))
      rw [iO (by omega)];exact this
    exact (key 0 (by omega) [] (by rw [List.take_zero];exact RLs.nil)).diag
theorem arg_line {x:aW} (h:Cc ax x):ArgL x:=⟨AB h.1,yY h.2.2.1⟩
end Go.Proofs.YtjimdhlmeebjeaaGreat.Q
end
section
namespace Go.Proofs.YtjimdhlmeebjeaaGreat.linearAdds
open Go.ChangeShapes Go.WideShapes Go.ChangeAt Go.RowKit
open Go.ChangeMaps (open_string shut_string)
open Go.Proofs.YtjimdhlmeebjeaaGreat.V Go.Proofs.YtjimdhlmeebjeaaGreat.E
theorem own:ownKnob Tryz.prog.godebug=none:=by kernel_rfl
theorem laidOut:laidOutB Tryz.prog=true:=by kernel_rfl
set_option maxRecDepth 100000 in
theorem lifted (os:Os) (started:os.Started) (H:Type) (enc:TypeId×Value→H) :
 ReturnsInHanded {} Tryz.checked os 4 .any (Rows.linearAddsSpec.pre6 enc Tryz.prog Tryz.f4 Rows.linearAddsRow.domain false) (Rows.linearAddsSpec.post enc Tryz.prog Tryz.f4 false true false false):=by
 refine returnsInHanded_of_change_sized (C:=Tryz.checked) own started (by kernel_rfl) Tryz.func4
  (ChangeSpec.witness6 (enc:=enc) (C:=Tryz.checked) false ⟨#[],#[.int .i64 0,.slice none 0 0,.agg #[.slice none 0 0,.int .i64 0,.bool false,.slice none 0 0,.slice none 0 0]],[]⟩ 8 (by kernel_rfl) (by kernel_rfl) (by kernel_rfl) (by kernel_rfl)) ?_
 intro W base args ds gs before hval0 hW hcnd hsz0 _
 have hval:∀ (j:Nat) t v,Tryz.f4.params[j]?=some t→args[j]?=some v→Value.okWide Tryz.prog W .any base t v:=hval0
 have hW':=hW
 obtain ⟨p,q,hA0,hV,rfl,hfz,hnd⟩:=hW
 have hA:DataW.TrodAll enc Tryz.prog W 0 (fun _=>true) true Tryz.f4.params.toList args.toList ds p:=hA0
 rw [Tryz.params4] at hA hval
 obtain ⟨v0,vs0,d0,ds0,p0,q0,hargs,rfl,rfl,h0,r0⟩:=trodAll_cons hA
 obtain ⟨v1,vs1,d1,ds1,p1,q1,rfl,rfl,rfl,h1,r1⟩:=trodAll_cons r0
 obtain ⟨v2,vs2,d2,ds2,p2,q2,rfl,rfl,rfl,h2,r2⟩:=trodAll_cons r1
 obtain ⟨rfl,rfl,rfl⟩:=trodAll_nil r2
 obtain rfl:args = #[v0,v1,v2]:=by cases args;simp_all
 obtain ⟨rfl,rfl⟩:=trodVars_none hV
 have k0:=h0
 have lt0:∀ x∈p0,x.block<W.heap.size:=by obtain ⟨m,hm⟩:=k0;exact DataW.trod_lt m _ _ _ hm
 obtain ⟨y0,f0,g0⟩:=yZ Q.zp (n:=16) (t:=3) (c:=(.int .i64)) (by kernel_rfl) (by kernel_rfl) (hval 0 3 v0 rfl rfl) h0
 have k1:=h1
 have lt1:∀ x∈p1,x.block<W.heap.size:=by obtain ⟨m,hm⟩:=k1;exact DataW.trod_lt m _ _ _ hm
 obtain ⟨y1,f1,g1⟩:=yZ Q.zp (n:=16) (t:=22) (c:=(.list ax)) (by kernel_rfl) (by kernel_rfl) (hval 1 22 v1 rfl rfl) h1
 have k2:=h2
 have lt2:∀ x∈p2,x.block<W.heap.size:=by obtain ⟨m,hm⟩:=k2;exact DataW.trod_lt m _ _ _ hm
 obtain ⟨y2,f2,g2⟩:=yZ Q.zp (n:=16) (t:=32) (c:=ax) (by kernel_rfl) (by kernel_rfl) (hval 2 32 v2 rfl rfl) h2
 clear hA0 hval0 hsz0
 obtain ⟨k,hk⟩:=(Q.tm (Q.arg_int f0) (Q.Eu f1) (Q.arg_line f2)).rounds
 obtain ⟨_,pv,hp,hF⟩:=(An Q.zp orc_ok Q.mixed Q.noGo k).fn 4 [.v (.int .i64) y0,.v (.list ax) y1,.v ax y2] true rfl hk
 obtain rfl:=Option.some.inj hp
 refine (hF (fun b=>b<W.heap.size) W #[v0,v1,v2] (fun b h=>h) rfl (fun i h=>?_)).mono fun e W' ⟨v,he,bel,hv⟩=>?_
 ·match i,h with
  | 0,h=>exact g0
  | 1,h=>exact g1
  | 2,h=>exact g2
  | i+3,h=>exact absurd h (by simp only [List.length_map,List.length_cons,List.length_nil];omega)
 ·have hb:=vrel_lit hv
  subst hb
  subst he
  exact ⟨_,rfl,_,_,_,[],_,[],hW',trodAll_mk1 (shut_bool Tryz.underlying4 _),(trodAll_cons_mk (Below.trod laidOut (by kernel_rfl) (of_decide_eq_true (by kernel_rfl)) k0 bel lt0) (trodAll_cons_mk (Below.trod laidOut (by kernel_rfl) (of_decide_eq_true (by kernel_rfl)) k1 bel lt1) (trodAll_cons_mk (Below.trod laidOut (by kernel_rfl) (of_decide_eq_true (by kernel_rfl)) k2 bel lt2) trodAll_mk0))),rfl,bel.frame _,fun h=>by cases h⟩
theorem over:Rows.linearAddsRow.holds Tryz.pinned (OpenSpec.ofChange Rows.linearAddsSpec) :=
 OpenClaim.holds_of_wide 4 Tryz.f4 rfl rfl rfl rfl rfl rfl rfl ⟨rfl,rfl,rfl,rfl,rfl⟩ rfl rfl rfl rfl rfl (by kernel_rfl) Tryz.func4 (by kernel_rfl)
  (of_decide_eq_true (by kernel_rfl)) (by unfold Func.isWrapper;first | (rw [if_pos (by decide +kernel)];kernel_rfl) | (rw [if_neg (by decide +kernel)];exact ⟨rfl,rfl⟩))
  (fun os started H enc _=>lifted os started H enc)
theorem proved:Rows.LinearAddsSaid:=over
#print axioms proved
end Go.Proofs.YtjimdhlmeebjeaaGreat.linearAdds
namespace Go.Proofs.YtjimdhlmeebjeaaGreat
theorem linearAdds_holds:Rows.LinearAddsSaid:=linearAdds.proved
end Go.Proofs.YtjimdhlmeebjeaaGreat
end
