/- What Max of package linear says of the values of a linear form on the points of a system (the last of 6 texts). No condition beyond the statement's own. -/
import Derived.SizedLaws
import Derived.ChangeSlices
import Derived.Test.YtjimdhlmeebjeaaGreatRows
import Derived.WalkKit
import Derived.ProofKit
import Derived.OpenShut
import Derived.ShutString
import Derived.ChangeOld
import Derived.Below
import Derived.KernelRfl
import Derived.Test.YtjimdhlmeebjeaaGreatMaxes5
set_option linter.unusedSimpArgs false
set_option linter.unusedSectionVars false
section
namespace Go.Proofs.YtjimdhlmeebjeaaGreat.Q
open Go.RowKit Go.Proofs.YtjimdhlmeebjeaaGreatW.PrintWords Go.Proofs.YtjimdhlmeebjeaaGreatW.PrintMore Go.Proofs.YtjimdhlmeebjeaaGreat.V Go.Proofs.YtjimdhlmeebjeaaGreat.E
open Go.Proofs.YtjimdhlmeebjeaaGreat.P (Dg Nm vl WW RR bS gI evs evk evb fi aL aY bm w64 u64)
open Go.Proofs.YtjimdhlmeebjeaaGreat.F (cy ce jX iD dR AH np ub dM fF)
set_option linter.unusedVariables false
section
variable {v w:bJ} {r s:cy} {K n:Nat}
theorem gz (h:qT K n v r) (hn:n+1≤v.1.length) (hl:v.1.length<1000000):Ev (fun k=>cE k v) (rdT (t:=ah) v.1 (n:Int):aw):=by
 refine Ev.step (fun k=>lN k v) (iT ?_ ?_)
 ·rw [h.2.1];omega
 ·rw [h.2.1];exact evs _
theorem AG (h:qT K n v r) (hn:n+1≤v.1.length) (hl:v.1.length<1000000):Ev (fun k=>bU k v) (jX n r):=by
 have tl:(v.1.take n).length=n:=by simp;omega
 have key:∀ i,i≤n→(∀ j,j<i→ce r j=0)→Ev2 (fun k m=>bU.l0 k m (v.1.take n) (n:Int) (i:Int)) (jX n r):=by
  refine dn ?_ (fun i hi ih=>?_)
  ·intro hz
   rw [iD.2 hz]
   exact Ev2.step (fun k m=>bU.aR k m _ _ _) (Ev2.bF (decide_eq_false (by omega)) (Ev2.of (evs _)))
  ·intro hz
   have e3:(rdT (t:=ah) (v.1.take n) (i:Int):aw)=(rdT (t:=ah) v.1 (i:Int):aw):=by
    rw [cH (by omega),cH (by omega)];simp
   have hs:=cZ (h.at (i:=i) (by omega)).1
   refine Ev2.step (fun k m=>bU.aR k m _ _ _) (Ev2.bT (decide_eq_true (by omega)) (Ev2.iT (by omega) ?_))
   rw [e3]
   by_cases c:ce r i=0
   ·refine Ev2.bind hs (Ev2.bF (by rw [nO];simpa using c) ?_)
    rw [gM (by omega)]
    exact ih (fun j hj=>by
     by_cases e:j=i
     ·rw [e];exact c
     ·exact hz j (by omega))
   ·have:jX n r=false:=Bool.eq_false_iff.2 (fun e=>c (iD.1 e i hi))
    rw [this]
    exact Ev2.bind hs (Ev2.bT (by rw [nO];simpa using c) (Ev2.of (evs _)))
 refine Ev.step (fun k=>ou k v) (iT (by rw [h.2.1];omega) ?_)
 rw [h.2.1,Int.toNat_natCast,tl]
 exact (key 0 (by omega) (fun j hj=>by omega)).diag
theorem nY (h:qT K n v r) (hn:n+1≤v.1.length) (hl:v.1.length<1000000) (hK:K<1000000000):Ev (fun k=>cV k v) (dR n r):=by
 refine Ev.step (fun k=>ka k v) (Ev.bind (AG h hn hl) ?_)
 unfold dR
 cases jX n r with
 | false=>exact Ev.bind (a:=false) (bF rfl (evs _)) (evs _)
 | true =>
  obtain ⟨a1,a2⟩:=h.at (i:=n) (by omega)
  have hs:=qB (K:=1) (L:=K) v.2.2.1 (fm aY) a1 (jA aY) a2 (by omega)
  have e:dc (eD 0 v.2.2.1 (ce r n))=decide (eD 0 r.2 (ce r n)):=by rw [h.2.2];exact (yh decide_eq_true_iff).symm
  rw [e] at hs
  refine Ev.bind (a:=!decide (eD 0 r.2 (ce r n))) (bT rfl (Ev.bind dz (Ev.bind (gz h hn hl) (Ev.bind hs (evs _))))) ?_
  rw [Bool.true_and]
  exact evs _
theorem ze (h:qT K n v r) (k:qT K n w s) (hn:n≤v.1.length) (hn2:n≤w.1.length) (hl:n<1000000) (hK:K<500000000):Ev (fun k=>cx k v w) (AH n r s):=by
 have key:r.2≠0→s.2≠0→∀ i,i≤n→(∀ j,j<i→ce r j=ce s j)→Ev2 (fun k m=>cx.l0 k m (n:Int) (i:Int) v w) (AH n r s):=by
  intro hr hs
  refine dn ?_ (fun i hi ih=>?_)
  ·intro hz
   rw [np.2 ⟨hr,hs,hz⟩]
   exact Ev2.step (fun k m=>cx.aR k m _ _ _ _) (Ev2.bF (decide_eq_false (by omega)) (Ev2.of (evs _)))
  ·intro hz
   obtain ⟨a1,a2⟩:=h.at (i:=i) (by omega)
   obtain ⟨b1,b2⟩:=k.at (i:=i) (by omega)
   have he:=mh a1 b1 a2 b2 (by omega)
   refine Ev2.step (fun k m=>cx.aR k m _ _ _ _) (Ev2.bT (decide_eq_true (by omega)) (Ev2.iT (by omega) (Ev2.iT (by omega) (Ev2.bind he ?_))))
   by_cases c:ce r i=ce s i
   ·refine Ev2.bF (by simp [c]) ?_
    rw [gM (by omega)]
    exact ih (fun j hj=>by
     by_cases e:j=i
     ·rw [e];exact c
     ·exact hz j (by omega))
   ·have:AH n r s=false:=Bool.eq_false_iff.2 (fun e=>c ((np.1 e).2.2 i hi))
    rw [this]
    exact Ev2.bT (by simp [c]) (Ev2.of (evs _))
 refine Ev.step (fun k=>pd k v w) ?_
 rw [h.2.2,k.2.2,h.2.1]
 by_cases c1:r.2=0
 ·have:AH n r s=false:=Bool.eq_false_iff.2 (fun e=>(np.1 e).1 c1)
  rw [this]
  exact Ev.bind (a:=true) (bT (by simp [c1]) (evs _)) (bT rfl (evs _))
 ·by_cases c2:s.2=0
  ·have:AH n r s=false:=Bool.eq_false_iff.2 (fun e=>(np.1 e).2.1 c2)
   rw [this]
   exact Ev.bind (a:=true) (bF (by simp [c1]) (by rw [c2];exact evs _)) (bT rfl (evs _))
  ·exact Ev.bind (a:=false) (bF (by simp [c1]) (by rw [show (s.2==(0:Int))=false by simp [c2]];exact evs _)) (bF rfl (key c1 c2 0 (by omega) (fun j hj=>by omega)).diag)
end
def RRs (K n L:Nat) (l:List bJ) (q:List cy):Prop:=l.length=q.length∧∀ i,∀ h:i<l.length,∀ h':i<q.length,qT K n l[i] q[i]∧q[i].1.length=L
section
variable {K n L:Nat} {l:List bJ} {q:List cy}
theorem RRs.at (h:RRs K n L l q) {i:Nat} (hi:i<l.length):qT K n (rdT (t:=aj) l (i:Int):bJ) (q.getD i ([],0))∧(q.getD i ([],0)).1.length=L∧((rdT (t:=aj) l (i:Int):bJ).1).length=L:=by
 have h':i<q.length:=by rw [← h.1];exact hi
 have:=h.2 i hi h'
 have e:q.getD i ([],0)=q[i]:=by rw [List.getD_eq_getElem?_getD,List.getElem?_eq_getElem h'];rfl
 rw [show (rdT (t:=aj) l (i:Int):bJ)=l[i] from cH hi,e]
 exact ⟨this.1,this.2,by rw [this.1.1.1];exact this.2⟩
theorem RRs.nil:RRs K n L [] []:=⟨rfl,fun i h=>by simp at h⟩
theorem RRs.mono (h:RRs K n L l q) {K':Nat} (hK:K≤K'):RRs K' n L l q:=⟨h.1,fun i h1 h2=>⟨(h.2 i h1 h2).1.mono hK,(h.2 i h1 h2).2⟩⟩
theorem RRs.snoc {v:bJ} {r:cy} (h:RRs K n L l q) (hv:qT K n v r) (hr:r.1.length=L):RRs K n L (l++[v]) (q++[r]):=by
 refine ⟨by simp [h.1],fun i h1 h2=>?_⟩
 have hl:=h.1
 by_cases c:i<l.length
 ·rw [List.getElem_append_left c,List.getElem_append_left (by omega)]
  exact h.2 i c (by omega)
 ·have e:i=l.length:=by simp at h1;omega
  subst e
  rw [List.getElem_append_right (Nat.le_refl _),List.getElem_append_right (by omega)]
  simp only [Nat.sub_self,hl,List.getElem_cons_zero]
  exact ⟨hv,hr⟩
theorem RRs.set {v:bJ} {r:cy} (h:RRs K n L l q) (hv:qT K n v r) (hr:r.1.length=L) (i:Nat):RRs K n L (l.set i v) (q.set i r):=by
 refine ⟨by simp [h.1],fun j h1 h2=>?_⟩
 rw [List.getElem_set,List.getElem_set]
 by_cases c:i=j
 ·rw [if_pos c,if_pos c];exact ⟨hv,hr⟩
 ·rw [if_neg c,if_neg c];exact h.2 j (by simpa using h1) (by simpa using h2)
theorem ins_at {n:Nat} {r:cy} {q:List cy} {j:Nat} (h:j<q.length) (hp:AH n r (q.getD j ([],0))=false):q.take j++ub n r (q.drop j)=q.take (j+1)++ub n r (q.drop (j+1)):=by
 have e:q.getD j ([],0)=q[j]:=by rw [List.getD_eq_getElem?_getD,List.getElem?_eq_getElem h];rfl
 rw [e] at hp
 rw [List.drop_eq_getElem_cons h,List.take_succ_eq_append_getElem h,ub,if_neg (by rw [hp];decide),List.append_assoc]
 rfl
theorem ins_hit {n:Nat} {r:cy} {q:List cy} {j:Nat} (h:j<q.length) (hp:AH n r (q.getD j ([],0))=true):q.take j++ub n r (q.drop j)=if ce r n<ce (q.getD j ([],0)) n∨(ce r n=ce (q.getD j ([],0)) n∧r.2>(q.getD j ([],0)).2) then q.set j r else q:=by
 have e:q.getD j ([],0)=q[j]:=by rw [List.getD_eq_getElem?_getD,List.getElem?_eq_getElem h];rfl
 rw [e] at hp
 rw [e,List.drop_eq_getElem_cons h,ub,if_pos hp]
 split
 ·rw [List.set_eq_take_append_cons_drop,if_pos h]
 ·have:q=q.take j++q[j] :: q.drop (j+1):=by rw [← List.drop_eq_getElem_cons h,List.take_append_drop]
  exact this.symm
theorem cmp_test (p q:Rat) (x y:Int):Ev (fun _=>(bif decide (qO p q<(0:Int)) then some true else (bif qO p q==(0:Int) then some (decide (x>y)) else some false).bind fun (b9:Bool)=>some b9)) (decide (p<q∨(p=q∧x>y))):=by
 refine evk ?_
 rcases ja p q with ⟨e,h⟩ | ⟨e,h⟩ | ⟨e,h⟩
 ·rw [e];simp [h]
 ·rw [e];simp [h,Rat.lt_irrefl]
 ·rw [e]
  have h1:¬ p<q:=Rat.not_lt.2 (Rat.le_of_lt h)
  have h2:¬ p=q:=fun e=>by rw [e] at h;exact absurd h Rat.lt_irrefl
  simp [h1,h2]
section
variable {x10:List bJ} {X Y:Int} {v:bJ} {r:cy} {Post:List bJ→Prop}
theorem DY (hl:l.length<1000000000) (hc:∃ o,Ev2 (fun k m=>aU.l0 k m x10 X (wrap64 (Y+1)) l) o∧Post o):∀ j,j≤l.length→∃ o,Ev3 (fun k m1 m0=>aU.l1 k m1 m0 false x10 X Y (l.length:Int) (j:Int) l v) o∧Post o:=by
 obtain ⟨o,o1,o2⟩:=hc
 suffices ∀ j,j≤l.length→Ev3 (fun k m1 m0=>aU.l1 k m1 m0 false x10 X Y (l.length:Int) (j:Int) l v) o from fun j hj=>⟨o,this j hj,o2⟩
 refine dn ?_ (fun j hj ih=>?_)
 ·exact Ev3.step (fun k m n=>aU.bY k m n _ _ _ _ _ _ _ _) (Ev3.bF (decide_eq_false (by omega)) (Ev3.bF rfl (Ev3.of o1)))
 ·refine Ev3.step (fun k m n=>aU.bY k m n _ _ _ _ _ _ _ _) (Ev3.bT (decide_eq_true (by omega)) (Ev3.iT (by omega) (Ev3.bind (a:=true) (bT rfl (evs _)) (Ev3.bT rfl ?_))))
  show Ev3 (fun k m1 m0=>aU.l1 k m1 m0 false x10 X Y (l.length:Int) (wrap64 ((j:Int)+1)) l v) o
  rw [gM (by omega)];exact ih
theorem DX (h:RRs K n L l q) (hv:qT K n v r) (hr:r.1.length=L) (hn:n+1≤L) (hl:l.length<1000000000) (hL:L<1000000) (hK:K<400000000)
 (hc:∀ l',RRs K n L l' (ub n r q)→∃ o,Ev2 (fun k m=>aU.l0 k m x10 X (wrap64 (Y+1)) l') o∧Post o):∃ o,Ev3 (fun k m1 m0=>aU.l1 k m1 m0 true x10 X Y (l.length:Int) ((0:Nat):Int) l v) o∧Post o:=by
 have vl:v.1.length=L:=by rw [hv.1.1];exact hr
 have key:∀ j,j≤l.length→q.take j++ub n r (q.drop j)=ub n r q→∃ o,Ev3 (fun k m1 m0=>aU.l1 k m1 m0 true x10 X Y (l.length:Int) (j:Int) l v) o∧Post o:=by
  refine dn ?_ (fun j hj ih=>?_)
  ·intro he
   have e:ub n r q=q++[r]:=by
    rw [← he,h.1,List.take_length,List.drop_length];rfl
   obtain ⟨o,o1,o2⟩:=hc (l++[v]) (by rw [e];exact h.snoc hv hr)
   refine ⟨o,Ev3.step (fun k m n=>aU.bY k m n _ _ _ _ _ _ _ _) (Ev3.bF (decide_eq_false (by omega)) (Ev3.bT rfl (Ev3.iT ?_ (Ev3.of o1)))),o2⟩
   simp;omega
  ·intro he
   obtain ⟨a,b,c⟩:=h.at hj
   have hjq:j<q.length:=by rw [← h.1];exact hj
   have hp:=ze hv a (by omega) (by omega) (by omega) (by omega)
   cases hpar:AH n r (q.getD j ([],0)) with
   | false =>
    rw [hpar] at hp
    obtain ⟨o,o1,o2⟩:=ih (by rw [← ins_at hjq hpar];exact he)
    refine ⟨o,Ev3.step (fun k m n=>aU.bY k m n _ _ _ _ _ _ _ _) (Ev3.bT (decide_eq_true (by omega)) (Ev3.iT (by omega) (Ev3.bind (a:=true) (bF rfl (Ev.bind hp (evs _))) (Ev3.bT rfl ?_)))),o2⟩
    show Ev3 (fun k m1 m0=>aU.l1 k m1 m0 true x10 X Y (l.length:Int) (wrap64 ((j:Int)+1)) l v) o
    rw [gM (by omega)];exact o1
   | true =>
    rw [hpar] at hp
    rw [ins_hit hjq hpar] at he
    obtain ⟨a1,a2⟩:=hv.at (i:=n) (by omega)
    obtain ⟨b1,b2⟩:=a.at (i:=n) (by omega)
    have hcmp:=fA a1 b1 a2 b2 (by omega)
    have e1:v.2.2.1=r.2:=hv.2.2
    have e2:(rdT (t:=aj) l (j:Int):bJ).2.2.1=(q.getD j ([],0)).2:=a.2.2
    have ht:=cmp_test (ce r n) (ce (q.getD j ([],0)) n) r.2 (q.getD j ([],0)).2
    by_cases c:ce r n<ce (q.getD j ([],0)) n∨(ce r n=ce (q.getD j ([],0)) n∧r.2>(q.getD j ([],0)).2)
    ·rw [if_pos c] at he
     obtain ⟨o,o1,o2⟩:=DY (v:=v) (by simpa using hl) (hc (l.set j v) (by rw [← he];exact h.set hv hr j)) (j+1) (by simp;omega)
     refine ⟨o,Ev3.step (fun k m n=>aU.bY k m n _ _ _ _ _ _ _ _) (Ev3.bT (decide_eq_true (by omega)) (Ev3.iT (by omega) (Ev3.bind (a:=false) (bF rfl (Ev.bind hp (evs _))) (Ev3.bF rfl (Ev3.bind (gz hv (by omega) (by omega)) (Ev3.bind (gz a (by omega) (by omega)) (Ev3.bind hcmp ?_))))))),o2⟩
     simp only [e1,e2]
     refine Ev3.bind ht (Ev3.bT (decide_eq_true c) (Ev3.iT (by omega) ?_))
     show Ev3 (fun k m1 m0=>aU.l1 k m1 m0 false x10 X Y (l.length:Int) (wrap64 ((j:Int)+1)) (l.set (Int.toNat (j:Int)) v) v) o
     rw [gM (by omega),Int.toNat_natCast]
     simpa using o1
    ·rw [if_neg c] at he
     obtain ⟨o,o1,o2⟩:=DY (v:=v) hl (hc l (by rw [← he];exact h)) (j+1) (by omega)
     refine ⟨o,Ev3.step (fun k m n=>aU.bY k m n _ _ _ _ _ _ _ _) (Ev3.bT (decide_eq_true (by omega)) (Ev3.iT (by omega) (Ev3.bind (a:=false) (bF rfl (Ev.bind hp (evs _))) (Ev3.bF rfl (Ev3.bind (gz hv (by omega) (by omega)) (Ev3.bind (gz a (by omega) (by omega)) (Ev3.bind hcmp ?_))))))),o2⟩
     simp only [e1,e2]
     refine Ev3.bind ht (Ev3.bF (decide_eq_false c) ?_)
     show Ev3 (fun k m1 m0=>aU.l1 k m1 m0 false x10 X Y (l.length:Int) (wrap64 ((j:Int)+1)) l v) o
     rw [gM (by omega)]
     exact o1
 exact key 0 (by omega) (by simp)
end
theorem rK (h:RRs K n L l q) (hn:n+1≤L) (hl:l.length<1000000000) (hL:L<1000000) (hK:K<400000000):∃ o,Ev (fun k=>aU k l) o∧RRs K n L o (fF n q):=by
 have key:∀ i,i≤l.length→∀ o,RRs K n L o ((q.take i).foldl (dM n) [])→∃ o',Ev2 (fun k m=>aU.l0 k m l (l.length:Int) (i:Int) o) o'∧RRs K n L o' (fF n q):=by
  refine dn ?_ (fun i hi ih=>?_)
  ·intro o ho
   rw [h.1,List.take_length] at ho
   exact ⟨o,Ev2.step (fun k m=>aU.aR k m _ _ _ _) (Ev2.bF (decide_eq_false (by omega)) (Ev2.of (evs _))),ho⟩
  ·intro o ho
   obtain ⟨a,b,c⟩:=h.at hi
   have hiq:i<q.length:=by rw [← h.1];exact hi
   have e:q.getD i ([],0)=q[i]:=by rw [List.getD_eq_getElem?_getD,List.getElem?_eq_getElem hiq];rfl
   have et:(q.take (i+1)).foldl (dM n) []=dM n ((q.take i).foldl (dM n) []) (q.getD i ([],0)):=by
    rw [List.take_succ_eq_append_getElem hiq,List.foldl_append,e];rfl
   have ol:o.length≤i:=by
    have:=F.jm (n:=n) (q.take i) []
    rw [ho.1];simp at this;omega
   have hp:=AG a (by omega) (by omega)
   have hcd:=nY a (by omega) (by omega) (by omega)
   have htest:Ev (fun k=>bif jX n (q.getD i ([],0)) then (cV k (rdT (t:=aj) l (i:Int):bJ)).bind fun (v2:Bool)=>some (!v2) else some false) (jX n (q.getD i ([],0))&&!dR n (q.getD i ([],0))):=by
    cases hpb:jX n (q.getD i ([],0)) with
    | true=>exact bT rfl (Ev.bind hcd (evs _))
    | false=>exact bF rfl (evs _)
   by_cases c1:(jX n (q.getD i ([],0))&&!dR n (q.getD i ([],0)))=true
   ·obtain ⟨o',o1,o2⟩:=ih o (by rw [et];unfold dM;rw [if_pos c1];exact ho)
    refine ⟨o',Ev2.step (fun k m=>aU.aR k m _ _ _ _) (Ev2.bT (decide_eq_true (by omega)) (Ev2.iT (by omega) (Ev2.bind hp (Ev2.bind htest (Ev2.bT c1 ?_))))),o2⟩
    show Ev2 (fun k m=>aU.l0 k m l (l.length:Int) (wrap64 ((i:Int)+1)) o) o'
    rw [gM (by omega)];exact o1
   ·obtain ⟨o',o1,o2⟩:=DX (x10:=l) (X:=(l.length:Int)) (Y:=(i:Int)) (Post:=fun o'=>RRs K n L o' (fF n q)) ho a b hn (by omega) hL hK (fun l' hl'=>by
     rw [gM (by omega)]
     refine ih l' ?_
     rw [et];unfold dM;rw [if_neg c1];exact hl')
    exact ⟨o',Ev2.step (fun k m=>aU.aR k m _ _ _ _) (Ev2.bT (decide_eq_true (by omega)) (Ev2.iT (by omega) (Ev2.bind hp (Ev2.bind htest (Ev2.bF (Bool.eq_false_iff.2 c1) o1.diag))))),o2⟩
 obtain ⟨o,o1,o2⟩:=key 0 (by omega) [] RRs.nil
 exact ⟨o,Ev.step (fun k=>tk k l) o1.diag,o2⟩
end
end Go.Proofs.YtjimdhlmeebjeaaGreat.Q
end
section
namespace Go.Proofs.YtjimdhlmeebjeaaGreat.Q
open Go.RowKit Go.Proofs.YtjimdhlmeebjeaaGreatW.PrintWords Go.Proofs.YtjimdhlmeebjeaaGreatW.PrintMore Go.Proofs.YtjimdhlmeebjeaaGreat.V Go.Proofs.YtjimdhlmeebjeaaGreat.E
open Go.Proofs.YtjimdhlmeebjeaaGreat.P (Dg Nm vl WW RR bS gI evs evk evb fi aL aY bm w64 u64)
open Go.Proofs.YtjimdhlmeebjeaaGreat.F (cy ce iZ dR fF yA nV n6 gO wH jj iH iM fD fB pT fS kg)
set_option linter.unusedVariables false
theorem rss_at {B:Int} {K:Nat} {l:List aQ} {s:List di} (h:RSs B K l s) {i:Nat} (hi:i<l.length):RLn B K (rdT (t:=au) l (i:Int):aQ) (ln s i):=by
 have h':i<s.length:=by rw [← h.1];exact hi
 rw [show (rdT (t:=au) l (i:Int):aQ)=l[i] from cH hi,pc h']
 exact h.2 i hi h'
theorem unit_get (L k j:Nat) (h:j<L):(n6 L k).getD j 0=if j=k then 1 else 0:=by
 unfold n6
 rw [List.getD_eq_getElem?_getD,List.getElem?_map,List.getElem?_range h];rfl
theorem oJ (L k:Nat):(n6 L k).length=L:=by simp [n6]
theorem xI {l:List aQ} {s:List di} {K n:Nat} (h:RSs WW K l s) (hK:1≤K) (hn:∀ k,k<s.length→(ln s k).1.length=n) (hn2:n≤100) (hl:l.length≤1000) (hs:(K+1)*(n+3)<33554432) :
 ∃ o,Ev (fun k=>bL k (n:Int) l) o∧RRs (K+(K*(n+2)+1)) n (n+1+s.length) o (yA n s):=by
 have hls:=h.1
 have key:∀ i,i≤l.length→∀ o,RRs (K+(K*(n+2)+1)) n (n+1+s.length) o ((List.range i).map (nV n s))→∃ o',Ev2 (fun k m=>bL.l0 k m (n:Int) l l (l.length:Int) (i:Int) o) o'∧RRs (K+(K*(n+2)+1)) n (n+1+s.length) o' (yA n s):=by
  refine dn ?_ (fun i hi ih=>?_)
  ·intro o ho
   rw [hls] at ho
   exact ⟨o,Ev2.step (fun k m=>bL.aR k m _ _ _ _ _ _) (Ev2.bF (decide_eq_false (by omega)) (Ev2.of (evs _))),ho⟩
  ·intro o ho
   obtain ⟨a1,a2,a3,a4⟩:=rss_at h hi
   have hni:=hn i (by omega)
   have hol:o.length=i:=by rw [ho.1];simp
   generalize hx:(rdT (t:=au) l (i:Int):aQ)=x at a1 a2 a3 a4
   have xl:x.1.length=n:=by rw [a1.1];exact hni
   have hbase:RLs WW K (x.1++[x.2.2.1]) ((ln s i).1++[(ln s i).2.2]):=a1.snoc a3 a4
   have key2:∀ j,j≤l.length→∀ r,RLs WW K r ((ln s i).1++[(ln s i).2.2]++(n6 s.length i).take j)→∃ o',Ev3 (fun k m1 m0=>bL.l1 k m1 m0 (n:Int) l (i:Int) l (l.length:Int) (i:Int) (l.length:Int) (j:Int) o (n:Int) x.2.1 r) o'∧RRs (K+(K*(n+2)+1)) n (n+1+s.length) o' (yA n s):=by
    refine dn ?_ (fun j hj ih2=>?_)
    ·intro r hr
     rw [hls,List.take_of_length_le (by rw [oJ];exact Nat.le_refl _)] at hr
     have rl:r.length=n+1+s.length:=by rw [hr.1];simp [hni,oJ];omega
     obtain ⟨v,v1,v2⟩:=uy (v:=(r,(n:Int),x.2.1,())) (r:=((ln s i).1++[(ln s i).2.2]++n6 s.length i,(ln s i).2.1)) ⟨hr,rfl,a2⟩ (by simp only;omega) (by omega) (by simp only;omega) hs
     obtain ⟨o',o1,o2⟩:=ih (o++[v]) (by
      rw [List.range_succ,List.map_append]
      exact ho.snoc v2 (by unfold nV;rw [F.ko];simp [hni,oJ];omega))
     refine ⟨o',Ev3.step (fun k m n=>bL.bY k m n _ _ _ _ _ _ _ _ _ _ _ _) (Ev3.bF (decide_eq_false (by omega)) (Ev3.bind v1 (Ev3.iT (by simp;omega) ?_))),o2⟩
     rw [gM (by omega)]
     exact Ev3.of o1
    ·intro r hr
     have hu:=unit_get s.length i j (by omega)
     have ht:(n6 s.length i).take (j+1)=(n6 s.length i).take j++[(n6 s.length i).getD j 0]:=kj (by rw [oJ];omega)
     have rl:r.length=n+1+j:=by rw [hr.1];simp [hni,oJ];omega
     by_cases c:j=i
     ·rw [if_pos c] at hu
      obtain ⟨o',o1,o2⟩:=ih2 (r++[(false,[1],[1],())]) (by
       rw [ht,hu,← List.append_assoc]
       exact hr.snoc (nR aY) (se aY hK))
      refine ⟨o',Ev3.step (fun k m n=>bL.bY k m n _ _ _ _ _ _ _ _ _ _ _ _) (Ev3.bT (decide_eq_true (by omega)) (Ev3.bind dz (Ev3.bT (by rw [beq_iff_eq];omega) (Ev3.bind gH (Ev3.iT (by simp;omega) ?_))))),o2⟩
      rw [gM (by omega)]
      exact o1
     ·rw [if_neg c] at hu
      obtain ⟨o',o1,o2⟩:=ih2 (r++[(false,[],[1],())]) (by
       rw [ht,hu,← List.append_assoc]
       exact hr.snoc (fm aY) (eA aL (jA aY) hK))
      refine ⟨o',Ev3.step (fun k m n=>bL.bY k m n _ _ _ _ _ _ _ _ _ _ _ _) (Ev3.bT (decide_eq_true (by omega)) (Ev3.bind dz (Ev3.bF (by rw [beq_eq_false_iff_ne];omega) (Ev3.iT (by simp;omega) ?_)))),o2⟩
      rw [gM (by omega)]
      exact o1
   obtain ⟨o',o1,o2⟩:=key2 0 (by omega) _ (by rw [List.take_zero,List.append_nil];exact hbase)
   refine ⟨o',Ev2.step (fun k m=>bL.aR k m _ _ _ _ _ _) (Ev2.bT (decide_eq_true (by omega)) (Ev2.iT (by omega) ?_)),o2⟩
   rw [hx]
   exact Ev2.iT (by omega) (Ev2.iT (by simp;omega) o1.diag)
 obtain ⟨o,o1,o2⟩:=key 0 (by omega) [] RRs.nil
 exact ⟨o,Ev.step (fun k=>rk k _ l) o1.diag,o2⟩
theorem wQ {n i k:Nat} {piv r:cy}:∀ (l:List cy) (j:Nat),wH n piv i k j (l++[r])=wH n piv i k j l++(if j+l.length=k then [] else [gO n piv i r])
 | [],j=>by simp [wH]
 | q :: l,j=>by
  have ih:=wQ (n:=n) (i:=i) (k:=k) (piv:=piv) (r:=r) l (j+1)
  have e:j+1+l.length=j+(q :: l).length:=by simp;omega
  rw [e] at ih
  simp only [List.cons_append,wH]
  by_cases c:j=k
  ·rw [if_pos c,if_pos c,ih]
  ·rw [if_neg c,if_neg c,ih];rfl
theorem rC {n i k:Nat} {piv:cy}:∀ (l:List cy) (j:Nat),(wH n piv i k j l).length≤l.length
 | [],j=>by simp [wH]
 | q :: l,j=>by
  have ih:=rC (n:=n) (i:=i) (k:=k) (piv:=piv) l (j+1)
  unfold wH
  split<;>simp<;>omega
theorem oO {q:List cy} {i:Nat} (h:i<q.length):q.take (i+1)=q.take i++[q.getD i ([],0)]:=by
 rw [List.take_succ_eq_append_getElem h,List.getD_eq_getElem?_getD,List.getElem?_eq_getElem h];rfl
section
variable {K n L:Nat} {l:List bJ} {q:List cy} {i:Nat}
theorem pairK {K n:Nat}:(4*K+1)+((4*K+1)*(n+2)+1)≤(4*K+2)*(n+3)+1:=by
 have h1:(4*K+2)*(n+3)=(4*K+2)*(n+2)+(4*K+2):=by rw [Nat.mul_succ]
 have h2:(4*K+1)*(n+2)≤(4*K+2)*(n+2):=Nat.mul_le_mul_right _ (by omega)
 omega
theorem lX {K n:Nat}:(1+2*K+2*K+1)+((1+2*K+2*K+1)*(n+2)+1)=(4*K+2)*(n+3)+1:=by
 have e:1+2*K+2*K+1=4*K+2:=by omega
 have h1:(4*K+2)*(n+3)=(4*K+2)*(n+2)+(4*K+2):=by rw [Nat.mul_succ]
 rw [e];omega
theorem KleK {K n:Nat}:K≤(4*K+2)*(n+3)+1:=by
 have:=Nat.mul_le_mul_left (4*K+2) (show 1≤n+3 by omega)
 omega
theorem vr (h:RRs K n L l q) (hn:n+1≤L) (hi:i<n) (hn2:n≤900) (hl:l.length<1000000000) (hL:L<1000000) (hs:(4*K+3)*(n+3)<33554432) {k0:Nat} (hk:k0<l.length) (hp:ce (q.getD k0 ([],0)) i≠0) :
 ∃ o,Ev (fun k=>bh k l (k0:Int) (i:Int)) o∧RRs ((4*K+2)*(n+3)+1) n L o (jj n q k0 i):=by
 have hK:4*K+3<33554432:=by
  have:=Nat.mul_le_mul_left (4*K+3) (show 1≤n+3 by omega)
  omega
 obtain ⟨p1,p2,p3⟩:=h.at hk
 generalize hx:(rdT (t:=aj) l (k0:Int):bJ)=piv at p1 p3
 generalize hq:q.getD k0 ([],0)=pq at p1 p2 hp
 have key:∀ j,j≤l.length→∀ o,RRs ((4*K+2)*(n+3)+1) n L o (wH n pq i k0 0 (q.take j))→∃ o',Ev2 (fun k m=>bh.l0 k m (k0:Int) (i:Int) l (l.length:Int) (j:Int) o piv) o'∧RRs ((4*K+2)*(n+3)+1) n L o' (jj n q k0 i):=by
  refine dn ?_ (fun j hj ih=>?_)
  ·intro o ho
   rw [h.1,List.take_length] at ho
   unfold jj
   rw [hq]
   exact ⟨o,Ev2.step (fun k m=>bh.aR k m _ _ _ _ _ _ _) (Ev2.bF (decide_eq_false (by omega)) (Ev2.of (evs _))),ho⟩
  ·intro o ho
   have hjq:j<q.length:=by rw [← h.1];exact hj
   obtain ⟨a,b,c⟩:=h.at hj
   have et:wH n pq i k0 0 (q.take (j+1))=wH n pq i k0 0 (q.take j)++(if j=k0 then [] else [gO n pq i (q.getD j ([],0))]):=by
    rw [oO hjq,wQ]
    have:(q.take j).length=j:=by simp;omega
    rw [this,Nat.zero_add]
   have ol:o.length≤j:=by
    have:=rC (n:=n) (i:=i) (k:=k0) (piv:=pq) (q.take j) 0
    rw [ho.1];simp at this;omega
   by_cases cjk:j=k0
   ·rw [if_pos cjk,List.append_nil] at et
    obtain ⟨o',o1,o2⟩:=ih o (by rw [et];exact ho)
    refine ⟨o',Ev2.step (fun k m=>bh.aR k m _ _ _ _ _ _ _) (Ev2.bT (decide_eq_true (by omega)) (Ev2.iT (by omega) (Ev2.bT (by rw [beq_iff_eq];omega) ?_))),o2⟩
    show Ev2 (fun k m=>bh.l0 k m (k0:Int) (i:Int) l (l.length:Int) (wrap64 ((j:Int)+1)) o piv) o'
    rw [gM (by omega)];exact o1
   ·rw [if_neg cjk] at et
    obtain ⟨a1,a2⟩:=a.at (i:=i) (by omega)
    have hsg:=cZ a1
    have fin:∀ v:bJ,qT ((4*K+2)*(n+3)+1) n v (gO n pq i (q.getD j ([],0)))→(gO n pq i (q.getD j ([],0))).1.length=L→∃ o',Ev2 (fun k m=>bh.j1 k m (k0:Int) (i:Int) l (l.length:Int) (j:Int) o piv v) o'∧RRs ((4*K+2)*(n+3)+1) n L o' (jj n q k0 i):=by
     intro v hv hvl
     obtain ⟨o',o1,o2⟩:=ih (o++[v]) (by rw [et];exact ho.snoc hv hvl)
     refine ⟨o',Ev2.iT (by simp;omega) ?_,o2⟩
     show Ev2 (fun k m=>bh.l0 k m (k0:Int) (i:Int) l (l.length:Int) (wrap64 ((j:Int)+1)) (o++[v]) piv) o'
     rw [gM (by omega)];exact o1
    by_cases c0:ce (q.getD j ([],0)) i=0
    ·have es:gO n pq i (q.getD j ([],0))=q.getD j ([],0):=by unfold gO;rw [if_pos c0]
     obtain ⟨o',o1,o2⟩:=fin _ (by rw [es];exact a.mono KleK) (by rw [es];exact b)
     exact ⟨o',Ev2.step (fun k m=>bh.aR k m _ _ _ _ _ _ _) (Ev2.bT (decide_eq_true (by omega)) (Ev2.iT (by omega) (Ev2.bF (by rw [beq_eq_false_iff_ne];omega) (Ev2.iT (by omega) (Ev2.bind hsg (Ev2.bF (by rw [nO];simpa using c0) o1)))))),o2⟩
    ·have es:gO n pq i (q.getD j ([],0))=((iZ n 1 (q.getD j ([],0)) (-(ce (q.getD j ([],0)) i / ce pq i)) pq).1,(q.getD j ([],0)).2):=by unfold gO;rw [if_neg c0]
     obtain ⟨b1,b2⟩:=p1.at (i:=i) (by omega)
     obtain ⟨d,d1,d2,d3⟩:=kv a1 b1 a2 b2 hp (by omega)
     obtain ⟨e,e1,e2,e3⟩:=iE d2 d3 (by omega)
     obtain ⟨w,w1,w2,w3,w4⟩:=kD (Ka:=1) (Kb:=2*K) (nR aY) e2 (se aY (Nat.le_refl _)) (eA aL e3 (by omega)) a p1 (by rw [b,p2]) (by rw [b];exact hn) hn2 (by rw [b];exact hL) (by
      have:1+2*K+2*K+2=4*K+3:=by omega
      rw [this];exact hs)
     rw [lX] at w2
     obtain ⟨o',o1,o2⟩:=fin (w.1,w.2.1,(rdT (t:=aj) l (j:Int):bJ).2.2.1,w.2.2.2) (by rw [es];exact ⟨w2,w3,a.2.2⟩) (by rw [es];exact (F.wv (by rw [b,p2])).trans b)
     exact ⟨o',Ev2.step (fun k m=>bh.aR k m _ _ _ _ _ _ _) (Ev2.bT (decide_eq_true (by omega)) (Ev2.iT (by omega) (Ev2.bF (by rw [beq_eq_false_iff_ne];omega) (Ev2.iT (by omega) (Ev2.bind hsg (Ev2.bT (by rw [nO];simpa using c0) (Ev2.bind gH (Ev2.iT (by omega) (Ev2.bind d1 (Ev2.bind e1 (Ev2.bind w1 o1))))))))))),o2⟩
 obtain ⟨o,o1,o2⟩:=key 0 (by omega) [] (by rw [List.take_zero];exact RRs.nil)
 refine ⟨o,Ev.step (fun k=>nE k l _ _) (iT (by omega) ?_),o2⟩
 rw [hx];exact o1.diag
end
end Go.Proofs.YtjimdhlmeebjeaaGreat.Q
end
section
namespace Go.Proofs.YtjimdhlmeebjeaaGreat.Q
open Go.RowKit Go.Proofs.YtjimdhlmeebjeaaGreatW.PrintWords Go.Proofs.YtjimdhlmeebjeaaGreatW.PrintMore Go.Proofs.YtjimdhlmeebjeaaGreat.V Go.Proofs.YtjimdhlmeebjeaaGreat.E
open Go.Proofs.YtjimdhlmeebjeaaGreat.P (Dg Nm vl WW RR bS gI evs evk evb fi aL aY bm w64 u64)
open Go.Proofs.YtjimdhlmeebjeaaGreat.F (cy ce iZ dR fF gO wH jj iH iM fD fB pT fS kg)
set_option linter.unusedVariables false
theorem u7 {i:Nat}:∀ (q:List cy) (j k:Nat),(∀ m,m<k→∀ h:m<q.length,¬ (q[m].2=0∧ce q[m] i≠0))→(h:k<q.length)→(q[k].2=0∧ce q[k] i≠0)→iH i q j=some (j+k)
 | [],j,k,_,h,_=>by simp at h
 | r :: l,j,k,hm,h,hk=>by
  unfold iH
  cases k with
  | zero=>rw [if_pos (by simpa using hk)];rfl
  | succ k =>
   rw [if_neg (by have:=hm 0 (by omega) (by simp);simpa using this)]
   have:=u7 (i:=i) l (j+1) k (fun m hm' hl=>by have:=hm (m+1) (by omega) (by simpa using hl);simpa using this) (by simpa using h) (by simpa using hk)
   rw [this];congr 1;omega
theorem uZ {i:Nat}:∀ (q:List cy) (j:Nat),(∀ m,∀ h:m<q.length,¬ (q[m].2=0∧ce q[m] i≠0))→iH i q j=none
 | [],j,_=>rfl
 | r :: l,j,hm=>by
  unfold iH
  rw [if_neg (by have:=hm 0 (by simp);simpa using this)]
  exact uZ l (j+1) (fun m hl=>by have:=hm (m+1) (by simpa using hl);simpa using this)
theorem pF {i:Nat} (q:List cy) (r:cy):iM i (q++[r])=iM i q++(if ce r i=0 then [r] else []):=by
 unfold iM;rw [List.filter_append];by_cases c:ce r i=0<;>simp [c,List.filter_cons]
theorem oo {i:Nat} (q:List cy) (r:cy):fD i (q++[r])=fD i q++(if ce r i<0 then [r] else []):=by
 unfold fD;rw [List.filter_append];by_cases c:ce r i<0<;>simp [c,List.filter_cons]
theorem n5 {i:Nat} (q:List cy) (r:cy):fB i (q++[r])=fB i q++(if 0<ce r i then [r] else []):=by
 unfold fB;rw [List.filter_append];by_cases c:0<ce r i<;>simp [c,List.filter_cons]
theorem xx {n i:Nat} (lo up:List cy):(fS n i lo up).length=lo.length*up.length:=by
 unfold fS
 induction lo with
 | nil=>simp
 | cons a l ih=>simp only [List.flatMap_cons,List.length_append,List.length_map,List.length_cons,Nat.succ_mul] at ih ⊢;omega
theorem CS {n i:Nat} {q:List cy}:(kg n q i).length≤q.length+q.length*q.length:=by
 have hp:∀ x:List cy,(fF n x).length≤x.length:=fun x=>by
  have:=F.jm (n:=n) x []
  rw [List.length_nil,Nat.zero_add] at this
  exact this
 unfold kg
 split
 ·next k hk =>
  have h1:=hp (jj n q k i)
  have h2:=rC (n:=n) (i:=i) (k:=k) (piv:=q.getD k ([],0)) q 0
  unfold jj at h1 ⊢
  omega
 ·have h1:=hp (iM i q++fS n i (fD i q) (fB i q))
  have h2:(iM i q).length≤q.length:=List.length_filter_le ..
  have h3:(fD i q).length≤q.length:=List.length_filter_le ..
  have h4:(fB i q).length≤q.length:=List.length_filter_le ..
  have h5:=Nat.mul_le_mul h3 h4
  rw [List.length_append,xx] at h1
  omega
section
variable {K n L:Nat} {l:List bJ} {q:List cy} {i:Nat}
theorem elim_l3 {K':Nat} {X:List bJ} {Y:Int} {Post:List bJ→Prop} {up:List bJ} {uq:List cy} (hup:RRs K n L up uq) (hpos:∀ u,u∈uq→0<ce u i) {v:bJ} {r:cy} (hv:qT K n v r) (hr:r.1.length=L) (hn:n+1≤L) (hi:i<n) (hn2:n≤900) (hl:up.length≤20000) (hL:L<1000000) (hs:(4*K+3)*(n+3)<33554432) (hK':K'=(4*K+2)*(n+3)+1)
 {o:List bJ} {oq:List cy} (ho:RRs K' n L o oq) (hol:o.length≤1000000000) (hc:∀ o',RRs K' n L o' (oq++uq.map (pT n i r))→∃ z,Ev2 (fun k m=>aA.l2 k m (i:Int) X (X.length:Int) (wrap64 (Y+1)) o' up) z∧Post z) :
 ∃ z,Ev3 (fun k m1 m0=>aA.l3 k m1 m0 (i:Int) X (X.length:Int) Y (up.length:Int) ((0:Nat):Int) o up v) z∧Post z:=by
 have hK:4*K+3<33554432:=by
  have:=Nat.mul_le_mul_left (4*K+3) (show 1≤n+3 by omega)
  omega
 have vl:v.1.length=L:=by rw [hv.1.1];exact hr
 have key:∀ j,j≤up.length→∀ o',RRs K' n L o' (oq++(uq.take j).map (pT n i r))→∃ z,Ev3 (fun k m1 m0=>aA.l3 k m1 m0 (i:Int) X (X.length:Int) Y (up.length:Int) (j:Int) o' up v) z∧Post z:=by
  refine dn ?_ (fun j hj ih=>?_)
  ·intro o' ho'
   rw [hup.1,List.take_length] at ho'
   obtain ⟨z,z1,z2⟩:=hc o' ho'
   exact ⟨z,Ev3.step (fun k m n=>aA.kU k m n _ _ _ _ _ _ _ _ _) (Ev3.bF (decide_eq_false (by omega)) (Ev3.of z1)),z2⟩
  ·intro o' ho'
   have hjq:j<uq.length:=by rw [← hup.1];exact hj
   obtain ⟨a,b,c⟩:=hup.at hj
   obtain ⟨a1,a2⟩:=a.at (i:=i) (by omega)
   obtain ⟨b1,b2⟩:=hv.at (i:=i) (by omega)
   obtain ⟨e,e1,e2,e3⟩:=iE b1 b2 (by omega)
   obtain ⟨w,w1,w2⟩:=kD (Ka:=K) (Kb:=K) a1 e2 a2 e3 hv a (by rw [hr,b]) (by rw [hr];exact hn) hn2 (by rw [hr];exact hL) (by
    refine Nat.lt_of_le_of_lt (Nat.mul_le_mul_right _ ?_) hs
    omega)
   have w3:qT K' n w (pT n i r (uq.getD j ([],0))):=by
    refine w2.mono ?_
    have e:K+K+2*K+1=4*K+1:=by omega
    rw [hK',e];exact pairK
   have ol:o'.length=o.length+j:=by
    rw [ho'.1,ho.1]
    simp;omega
   obtain ⟨z,z1,z2⟩:=ih (o'++[w]) (by
    rw [oO hjq,List.map_append,← List.append_assoc]
    exact ho'.snoc w3 ((F.wv (by rw [hr,b])).trans hr))
   refine ⟨z,Ev3.step (fun k m n=>aA.kU k m n _ _ _ _ _ _ _ _ _) (Ev3.bT (decide_eq_true (by omega)) (Ev3.iT (by omega) (Ev3.iT (by omega) (Ev3.iT (by omega) (Ev3.bind e1 (Ev3.bind w1 (Ev3.iT (by simp;omega) ?_))))))),z2⟩
   rw [gM (by omega)];exact z1
 exact key 0 (by omega) o (by simpa using ho)
theorem elim_l2 {K':Nat} {lo up:List bJ} {lq uq:List cy} (hlo:RRs K n L lo lq) (hup:RRs K n L up uq) (hpos:∀ u,u∈uq→0<ce u i) (hn:n+1≤L) (hi:i<n) (hn2:n≤900) (hl:lo.length≤20000) (hl2:up.length≤20000) (hL:L<1000000) (hs:(4*K+3)*(n+3)<33554432) (hK':K'=(4*K+2)*(n+3)+1) (hK2:K'<400000000)
 {o:List bJ} {oq:List cy} (ho:RRs K' n L o oq) (hol:o.length≤20000) :
 ∃ z,Ev2 (fun k m=>aA.l2 k m (i:Int) lo (lo.length:Int) ((0:Nat):Int) o up) z∧RRs K' n L z (fF n (oq++fS n i lq uq)):=by
 have hcount:∀ j,j≤lo.length→(fS n i (lq.take j) uq).length≤400000000:=fun j hj=>by
  rw [xx,← hup.1]
  have:(lq.take j).length≤20000:=by simp;omega
  have:=Nat.mul_le_mul this hl2
  omega
 have key:∀ j,j≤lo.length→∀ o',RRs K' n L o' (oq++fS n i (lq.take j) uq)→∃ z,Ev2 (fun k m=>aA.l2 k m (i:Int) lo (lo.length:Int) (j:Int) o' up) z∧RRs K' n L z (fF n (oq++fS n i lq uq)):=by
  refine dn ?_ (fun j hj ih=>?_)
  ·intro o' ho'
   have hc:=hcount lo.length (Nat.le_refl _)
   have e:lq.take lo.length=lq:=by rw [hlo.1,List.take_length]
   rw [e] at ho' hc
   have ol:o'.length=o.length+(fS n i lq uq).length:=by rw [ho'.1,ho.1];simp
   obtain ⟨z,z1,z2⟩:=rK ho' hn (by omega) hL hK2
   exact ⟨z,Ev2.step (fun k m=>aA.mu k m _ _ _ _ _ _) (Ev2.bF (decide_eq_false (by omega)) (Ev2.of (Ev.bind z1 (evs _)))),z2⟩
  ·intro o' ho'
   have hjq:j<lq.length:=by rw [← hlo.1];exact hj
   have hc:=hcount j (by omega)
   obtain ⟨a,b,c⟩:=hlo.at hj
   have ol:o'.length=o.length+(fS n i (lq.take j) uq).length:=by rw [ho'.1,ho.1];simp
   have ep:fS n i (lq.take (j+1)) uq=fS n i (lq.take j) uq++uq.map (pT n i (lq.getD j ([],0))):=by
    rw [oO hjq];unfold fS;simp
   obtain ⟨z,z1,z2⟩:=elim_l3 (X:=lo) (Y:=(j:Int)) (Post:=fun z=>RRs K' n L z (fF n (oq++fS n i lq uq))) hup hpos a b hn hi hn2 hl2 hL hs hK' ho' (by omega) (fun o2 ho2=>by
    rw [gM (by omega)]
    refine ih o2 ?_
    rw [ep,← List.append_assoc];exact ho2)
   exact ⟨z,Ev2.step (fun k m=>aA.mu k m _ _ _ _ _ _) (Ev2.bT (decide_eq_true (by omega)) (Ev2.iT (by omega) z1.diag)),z2⟩
 exact key 0 (by omega) o (by simpa [fS] using ho)
theorem elim_l1 {K':Nat} (h:RRs K n L l q) (hn:n+1≤L) (hi:i<n) (hn2:n≤900) (hl:l.length≤20000) (hL:L<1000000) (hs:(4*K+3)*(n+3)<33554432) (hK':K'=(4*K+2)*(n+3)+1) (hK2:K'<400000000) :
 ∃ z,Ev2 (fun k m=>aA.l1 k m (i:Int) l (l.length:Int) ((0:Nat):Int) [] [] []) z∧RRs K' n L z (fF n (iM i q++fS n i (fD i q) (fB i q))):=by
 have fl:∀ (f:cy→Bool) (j:Nat),((q.take j).filter f).length≤l.length:=fun f j=>by
  have h1:((q.take j).filter f).length≤(q.take j).length:=List.length_filter_le ..
  have h2:(q.take j).length≤q.length:=by simp;omega
  have:=h.1
  omega
 have key:∀ j,j≤l.length→∀ a b c,RRs K n L a (iM i (q.take j))→RRs K n L b (fD i (q.take j))→RRs K n L c (fB i (q.take j))→∃ z,Ev2 (fun k m=>aA.l1 k m (i:Int) l (l.length:Int) (j:Int) a b c) z∧RRs K' n L z (fF n (iM i q++fS n i (fD i q) (fB i q))):=by
  refine dn ?_ (fun j hj ih=>?_)
  ·intro a b c ha hb hc
   have la:=ha.1
   have lb:=hb.1
   have lc:=hc.1
   have l1:=fl (fun r=>decide (ce r i=0)) l.length
   have l2:=fl (fun r=>decide (ce r i<0)) l.length
   have l3:=fl (fun r=>decide (0<ce r i)) l.length
   unfold iM at la
   unfold fD at lb
   unfold fB at lc
   rw [h.1,List.take_length] at ha hb hc
   obtain ⟨z,z1,z2⟩:=elim_l2 (i:=i) hb hc (fun u hu=>(F.iF.1 hu).2) hn hi hn2 (by omega) (by omega) hL hs hK' hK2 (ha.mono (by rw [hK'];exact KleK)) (by omega)
   exact ⟨z,Ev2.step (fun k m=>aA.bY k m _ _ _ _ _ _ _) (Ev2.bF (decide_eq_false (by omega)) (Ev2.ofd z1)),z2⟩
  ·intro a b c ha hb hc
   have la:=ha.1
   have lb:=hb.1
   have lc:=hc.1
   have l1:=fl (fun r=>decide (ce r i=0)) j
   have l2:=fl (fun r=>decide (ce r i<0)) j
   have l3:=fl (fun r=>decide (0<ce r i)) j
   unfold iM at la
   unfold fD at lb
   unfold fB at lc
   have hjq:j<q.length:=by rw [← h.1];exact hj
   obtain ⟨d,e,f⟩:=h.at hj
   obtain ⟨d1,d2⟩:=d.at (i:=i) (by omega)
   have hsg:=cZ d1
   have et:=oO hjq
   rcases eT (ce (q.getD j ([],0)) i) with ⟨es,hc0⟩ | ⟨es,hc0⟩ | ⟨es,hc0⟩
   ·have n1:¬ ce (q.getD j ([],0)) i=0:=by grind
    have n2:¬ 0<ce (q.getD j ([],0)) i:=by grind
    obtain ⟨z,z1,z2⟩:=ih a (b++[(rdT (t:=aj) l (j:Int):bJ)]) c (by rw [et,pF,if_neg n1,List.append_nil];exact ha) (by rw [et,oo,if_pos hc0];exact hb.snoc d e) (by rw [et,n5,if_neg n2,List.append_nil];exact hc)
    rw [es] at hsg
    refine ⟨z,Ev2.step (fun k m=>aA.bY k m _ _ _ _ _ _ _) (Ev2.bT (decide_eq_true (by omega)) (Ev2.iT (by omega) (Ev2.iT (by omega) (Ev2.bind hsg (Ev2.bF rfl (Ev2.bF rfl (Ev2.iT (by simp;omega) ?_))))))),z2⟩
    show Ev2 (fun k m=>aA.l1 k m (i:Int) l (l.length:Int) (wrap64 ((j:Int)+1)) a (b++[(rdT (t:=aj) l (j:Int):bJ)]) c) z
    rw [gM (by omega)];exact z1
   ·have n1:¬ ce (q.getD j ([],0)) i<0:=by grind
    have n2:¬ 0<ce (q.getD j ([],0)) i:=by grind
    obtain ⟨z,z1,z2⟩:=ih (a++[(rdT (t:=aj) l (j:Int):bJ)]) b c (by rw [et,pF,if_pos hc0];exact ha.snoc d e) (by rw [et,oo,if_neg n1,List.append_nil];exact hb) (by rw [et,n5,if_neg n2,List.append_nil];exact hc)
    rw [es] at hsg
    refine ⟨z,Ev2.step (fun k m=>aA.bY k m _ _ _ _ _ _ _) (Ev2.bT (decide_eq_true (by omega)) (Ev2.iT (by omega) (Ev2.iT (by omega) (Ev2.bind hsg (Ev2.bT rfl (Ev2.iT (by simp;omega) ?_)))))),z2⟩
    show Ev2 (fun k m=>aA.l1 k m (i:Int) l (l.length:Int) (wrap64 ((j:Int)+1)) (a++[(rdT (t:=aj) l (j:Int):bJ)]) b c) z
    rw [gM (by omega)];exact z1
   ·have n1:¬ ce (q.getD j ([],0)) i<0:=by grind
    have n2:¬ ce (q.getD j ([],0)) i=0:=by grind
    obtain ⟨z,z1,z2⟩:=ih a b (c++[(rdT (t:=aj) l (j:Int):bJ)]) (by rw [et,pF,if_neg n2,List.append_nil];exact ha) (by rw [et,oo,if_neg n1,List.append_nil];exact hb) (by rw [et,n5,if_pos hc0];exact hc.snoc d e)
    rw [es] at hsg
    refine ⟨z,Ev2.step (fun k m=>aA.bY k m _ _ _ _ _ _ _) (Ev2.bT (decide_eq_true (by omega)) (Ev2.iT (by omega) (Ev2.iT (by omega) (Ev2.bind hsg (Ev2.bF rfl (Ev2.bT rfl (Ev2.iT (by simp;omega) ?_))))))),z2⟩
    show Ev2 (fun k m=>aA.l1 k m (i:Int) l (l.length:Int) (wrap64 ((j:Int)+1)) a b (c++[(rdT (t:=aj) l (j:Int):bJ)])) z
    rw [gM (by omega)];exact z1
 exact key 0 (by omega) [] [] [] RRs.nil RRs.nil RRs.nil
theorem qM (h:RRs K n L l q) (hn:n+1≤L) (hi:i<n) (hn2:n≤900) (hl:l.length≤20000) (hL:L<1000000) (hs:(4*K+3)*(n+3)<33554432) :
 ∃ o,Ev (fun k=>aA k l (i:Int)) o∧RRs ((4*K+2)*(n+3)+1) n L o (kg n q i):=by
 have hK2:(4*K+2)*(n+3)+1<400000000:=by
  have:=Nat.mul_le_mul_right (n+3) (show 4*K+2≤4*K+3 by omega)
  omega
 have hlq:=h.1
 have key:∀ j,j≤l.length→(∀ m,m<j→∀ h:m<q.length,¬ (q[m].2=0∧ce q[m] i≠0))→∃ o,Ev2 (fun k m=>aA.l0 k m l (i:Int) l (l.length:Int) (j:Int)) o∧RRs ((4*K+2)*(n+3)+1) n L o (kg n q i):=by
  refine dn ?_ (fun j hj ih=>?_)
  ·intro hno
   obtain ⟨z,z1,z2⟩:=elim_l1 (i:=i) h hn hi hn2 hl hL hs rfl hK2
   have e:kg n q i=fF n (iM i q++fS n i (fD i q) (fB i q)):=by
    unfold kg
    rw [uZ q 0 (fun m hm=>hno m (by omega) hm)]
   refine ⟨z,Ev2.step (fun k m=>aA.aR k m _ _ _ _ _) (Ev2.bF (decide_eq_false (by omega)) (Ev2.ofd z1)),by rw [e];exact z2⟩
  ·intro hno
   have hjq:j<q.length:=by omega
   obtain ⟨a,b,c⟩:=h.at hj
   have eg:q.getD j ([],0)=q[j]:=by rw [List.getD_eq_getElem?_getD,List.getElem?_eq_getElem hjq];rfl
   obtain ⟨a1,a2⟩:=a.at (i:=i) (by omega)
   have hsg:=cZ a1
   have e1:(rdT (t:=aj) l (j:Int):bJ).2.2.1=(q.getD j ([],0)).2:=a.2.2
   by_cases c0:(q.getD j ([],0)).2=0∧ce (q.getD j ([],0)) i≠0
   ·obtain ⟨s,s1,s2⟩:=vr h hn hi hn2 (by omega) hL hs hj c0.2
    have sl:s.length≤l.length:=by
     have h2:=rC (n:=n) (i:=i) (k:=j) (piv:=q.getD j ([],0)) q 0
     rw [s2.1];unfold jj;omega
    obtain ⟨z,z1,z2⟩:=rK s2 hn (by omega) hL hK2
    have e:kg n q i=fF n (jj n q j i):=by
     unfold kg
     rw [u7 q 0 j hno hjq (by rw [← eg];exact c0),Nat.zero_add]
    refine ⟨z,Ev2.step (fun k m=>aA.aR k m _ _ _ _ _) (Ev2.bT (decide_eq_true (by omega)) (Ev2.iT (by omega) (Ev2.bind (a:=true) (bT (by rw [e1,c0.1];rfl) (iT (by omega) (Ev.bind hsg (by rw [nO,decide_eq_true c0.2];exact evs _)))) (Ev2.bT rfl (Ev2.of (Ev.bind s1 (Ev.bind z1 (evs _)))))))),by rw [e];exact z2⟩
   ·obtain ⟨z,z1,z2⟩:=ih (fun m hm hmq=>by
     by_cases e:m=j
     ·subst e;rw [← eg];exact c0
     ·exact hno m (by omega) hmq)
    have ht:Ev (fun k=>bif (rdT (t:=aj) l (j:Int):bJ).2.2.1==(0:Int) then if 0≤(i:Int)∧(i:Int)<(List.length ((rdT (t:=aj) l (j:Int):bJ).1):Int) then (dH k (rdT (t:=ah) ((rdT (t:=aj) l (j:Int):bJ).1) (i:Int):aw)).bind fun (v1:Int)=>some (v1 != (0:Int)) else none else some false) false:=by
     rw [e1]
     by_cases r0:(q.getD j ([],0)).2=0
     ·refine bT (by rw [r0];rfl) (iT (by omega) (Ev.bind hsg ?_))
      rw [nO,decide_eq_false (fun h=>c0 ⟨r0,h⟩)];exact evs _
     ·exact bF (by rw [beq_eq_false_iff_ne];exact r0) (evs _)
    refine ⟨z,Ev2.step (fun k m=>aA.aR k m _ _ _ _ _) (Ev2.bT (decide_eq_true (by omega)) (Ev2.iT (by omega) (Ev2.bind ht (Ev2.bF rfl ?_)))),z2⟩
    rw [gM (by omega)];exact z1
 obtain ⟨z,z1,z2⟩:=key 0 (by omega) (fun m hm=>by omega)
 exact ⟨z,Ev.step (fun k=>ov k l _) z1.diag,z2⟩
theorem lI (h:RRs K n L l q) (hn:n+1≤L) (hl:l.length<1000000000) (hL:L<1000000) (hK:K<400000000) :
 (∃ v,Ev (fun k=>bf k l) (v,false,())∧∀ r,r∈q→dR n r=false)∨∃ v r,Ev (fun k=>bf k l) (v,true,())∧qT K n v r∧r∈q∧r.1.length=L∧dR n r=true:=by
 have key:∀ j,j≤l.length→(∀ m,m<j→∀ h:m<q.length,dR n q[m]=false) →
  (∃ v,Ev2 (fun k m=>bf.l0 k m l (l.length:Int) (j:Int) ([],(0:Int),(0:Int),())) (v,false,())∧∀ r,r∈q→dR n r=false)∨∃ v r,Ev2 (fun k m=>bf.l0 k m l (l.length:Int) (j:Int) ([],(0:Int),(0:Int),())) (v,true,())∧qT K n v r∧r∈q∧r.1.length=L∧dR n r=true:=by
  refine dn ?_ (fun j hj ih=>?_)
  ·intro hno
   refine .inl ⟨_,Ev2.step (fun k m=>bf.aR k m _ _ _ _) (Ev2.bF (decide_eq_false (by omega)) (Ev2.of (evs _))),fun r hr=>?_⟩
   obtain ⟨m,hm,rfl⟩:=List.getElem_of_mem hr
   exact hno m (by rw [h.1];exact hm) hm
  ·intro hno
   have hjq:j<q.length:=by rw [← h.1];exact hj
   obtain ⟨a,b,c⟩:=h.at hj
   have eg:q.getD j ([],0)=q[j]:=by rw [List.getD_eq_getElem?_getD,List.getElem?_eq_getElem hjq];rfl
   have hc:=nY a (by omega) (by omega) (by omega)
   cases e:dR n (q.getD j ([],0)) with
   | true =>
    rw [e] at hc
    exact .inr ⟨_,q.getD j ([],0),Ev2.step (fun k m=>bf.aR k m _ _ _ _) (Ev2.bT (decide_eq_true (by omega)) (Ev2.iT (by omega) (Ev2.bind hc (Ev2.bT rfl (Ev2.of (evs _)))))),a,by rw [eg];exact List.getElem_mem _,b,e⟩
   | false =>
    rw [e] at hc
    have step:∀ z,Ev2 (fun k m=>bf.l0 k m l (l.length:Int) ((j+1:Nat):Int) ([],(0:Int),(0:Int),())) z→Ev2 (fun k m=>bf.l0 k m l (l.length:Int) (j:Int) ([],(0:Int),(0:Int),())) z:=fun z hz=>by
     refine Ev2.step (fun k m=>bf.aR k m _ _ _ _) (Ev2.bT (decide_eq_true (by omega)) (Ev2.iT (by omega) (Ev2.bind hc (Ev2.bF rfl ?_))))
     rw [gM (by omega)];exact hz
    rcases ih (fun m hm hmq=>by
     by_cases e':m=j
     ·subst e';rw [← eg];exact e
     ·exact hno m (by omega) hmq) with ⟨v,v1,v2⟩ | ⟨v,r,v1,v2⟩
    ·exact .inl ⟨v,step _ v1,v2⟩
    ·exact .inr ⟨v,r,step _ v1,v2⟩
 rcases key 0 (by omega) (fun m hm=>by omega) with ⟨v,v1,v2⟩ | ⟨v,r,v1,v2⟩
 ·exact .inl ⟨v,Ev.step (fun k=>gU k l) v1.diag,v2⟩
 ·exact .inr ⟨v,r,Ev.step (fun k=>gU k l) v1.diag,v2⟩
end
end Go.Proofs.YtjimdhlmeebjeaaGreat.Q
end
section
namespace Go.Proofs.YtjimdhlmeebjeaaGreat.Q
open Go.RowKit Go.Proofs.YtjimdhlmeebjeaaGreatW.PrintWords Go.Proofs.YtjimdhlmeebjeaaGreatW.PrintMore Go.Proofs.YtjimdhlmeebjeaaGreat.V Go.Proofs.YtjimdhlmeebjeaaGreat.E
open Go.Proofs.YtjimdhlmeebjeaaGreat.P (Dg Nm vl WW RR bS gI evs evk evb fi aL aY bm w64 u64)
open Go.Proofs.YtjimdhlmeebjeaaGreat.F (cy ce Bd dV nW bdC kr Fy)
set_option linter.unusedVariables false
theorem pX {a:Int} (h0:-1000000000≤a) (h1:a≤1000000000):∃ r,Ev (fun k=>pZ k a) r∧RB WW r (a:Rat)∧Sz WW 1 (a:Rat):=by
 have fin:∀ r,RB WW r (a:Rat)→Sz WW 1 (a:Rat):=fun r hr=>by
  refine ⟨?_,?_⟩
  ·rw [Rat.num_intCast,Int.pow_one,P.dx];omega
  ·rw [Rat.den_intCast,Int.pow_one,P.dx];decide
 by_cases c:a<0
 ·obtain ⟨l,l1,l2⟩:=P.fr (a:=-a) (by omega) (by omega)
  obtain ⟨r,r1,r2⟩:=fp (s:=true) (m:=1) (b:=[1]) (by
   have:=l2.fh aY (k:=1) (by rw [Int.pow_one,P.dx];omega)
   omega) (by simp) l2 (zT aY) (by omega)
  have e:Rat.divInt (sg true (-a)) 1=(a:Rat):=by rw [kC];congr 1;simp [sg]
  rw [e] at r2
  refine ⟨r,Ev.step (fun k=>pY k a) (bT (decide_eq_true c) ?_),r2,fin r r2⟩
  have e2:wrap64 (a+1)=a+1:=w64 (by omega) (by omega)
  have e3:wrap64 (-(a+1)) = -(a+1):=w64 (by omega) (by omega)
  have e4:IntKind.u64.wrap (-(a+1)) = -(a+1):=u64 (by omega) (by omega)
  have e5:IntKind.u64.wrap (-(a+1)+1) = -a:=by rw [u64 (by omega) (by omega)];omega
  rw [e2,e3,e4,e5]
  exact Ev.bind (Ev.step (fun k=>oi k _) l1) (Ev.bind r1 (evs _))
 ·obtain ⟨l,l1,l2⟩:=P.fr (a:=a) (by omega) (by omega)
  obtain ⟨r,r1,r2⟩:=fp (s:=false) (m:=1) (b:=[1]) (by
   have:=l2.fh aY (k:=1) (by rw [Int.pow_one,P.dx];omega)
   omega) (by simp) l2 (zT aY) (by omega)
  have e:Rat.divInt (sg false a) 1=(a:Rat):=by rw [kC];rfl
  rw [e] at r2
  refine ⟨r,Ev.step (fun k=>pY k a) (bF (decide_eq_false c) ?_),r2,fin r r2⟩
  rw [u64 (by omega) (by omega)]
  exact Ev.bind (Ev.step (fun k=>oi k _) l1) (Ev.bind r1 (evs _))
theorem Frac_sp:∃ r,Ev (fun k=>vM k (1:Int) (4:Int)) r∧RB WW r (1 / 4)∧Sz WW 2 (1 / 4):=by
 obtain ⟨a,a1,a2,a3⟩:=pX (a:=1) (by decide) (by decide)
 obtain ⟨b,b1,b2,b3⟩:=pX (a:=4) (by decide) (by decide)
 obtain ⟨c,c1,c2,c3⟩:=kv a2 b2 a3 b3 (by decide) (by decide)
 have e:((1:Int):Rat) / ((4:Int):Rat)=1 / 4:=by simp
 rw [e] at c2 c3
 exact ⟨c,Ev.step (fun k=>zp k _ _) (Ev.bind a1 (Ev.bind b1 (Ev.bind c1 (evs _)))),c2,c3⟩
def BB (K:Nat) (v:cY) (b:Bd):Prop:=v.2.2.1=b.hasLo∧v.2.2.2.1=b.hasHi∧v.2.2.2.2.1=b.openLo∧v.2.2.2.2.2.1=b.openHi∧(b.hasLo=true→RB WW v.1 b.lo∧Sz WW K b.lo)∧(b.hasHi=true→RB WW v.2.1 b.hi∧Sz WW K b.hi)
section
variable {K:Nat} {v:cY} {b:Bd} {w:aw} {x:Rat}
theorem BG (h:BB K v b) (hw:RB WW w x) (hx:Sz WW K x) (o:Bool) (hK:K<500000000) (sign:Int) (hs:0<sign):∃ v',Ev (fun k=>ba k v w sign o) ((),v')∧BB K v' (b.qv x o):=by
 obtain ⟨lo,hi,hl,hh,ol,oh⟩:=b
 obtain ⟨v1,v2,v3,v4,v5,v6,_⟩:=v
 obtain ⟨h1,h2,h3,h4,h5,h6⟩:=h
 simp only at h1 h2 h3 h4 h5 h6
 subst h1 h2 h3 h4
 cases v4 with
 | false =>
  refine ⟨(v1,w,v3,true,v5,o,()),Ev.step (fun k=>cU k _ _ _ _) (bT (decide_eq_true hs) (bF rfl ?_)),?_⟩
  ·show Ev (fun k=>ba.j0 k o (-1) (v1,v2,v3,false,v5,v6,()) w) _
   refine bT rfl ?_
   cases o<;>exact evs _
  ·exact ⟨rfl,rfl,rfl,rfl,h5,fun _=>⟨hw,hx⟩⟩
 | true =>
  obtain ⟨g1,g2⟩:=h6 rfl
  have hc:=fA hw g1 hx g2 (by omega)
  rcases ja x hi with ⟨e,hlt⟩ | ⟨e,heq⟩ | ⟨e,hgt⟩
  ·rw [e] at hc
   refine ⟨(v1,w,v3,true,v5,o,()),Ev.step (fun k=>cU k _ _ _ _) (bT (decide_eq_true hs) (bT rfl (Ev.bind hc ?_))),?_⟩
   ·show Ev (fun k=>ba.j0 k o (-1) (v1,v2,v3,true,v5,v6,()) w) _
    refine bT rfl ?_
    cases o<;>exact evs _
   ·unfold Bd.qv
    rw [if_pos (.inr hlt)]
    exact ⟨rfl,rfl,rfl,rfl,h5,fun _=>⟨hw,hx⟩⟩
  ·rw [e] at hc
   refine ⟨(v1,v2,v3,true,v5,v6||o,()),Ev.step (fun k=>cU k _ _ _ _) (bT (decide_eq_true hs) (bT rfl (Ev.bind hc ?_))),?_⟩
   ·show Ev (fun k=>ba.j0 k o 0 (v1,v2,v3,true,v5,v6,()) w) _
    refine bF rfl ?_
    cases v6<;>cases o<;>exact evs _
   ·unfold Bd.qv
    rw [if_neg (by simp [heq,Rat.lt_irrefl]),if_pos heq]
    exact ⟨rfl,rfl,rfl,rfl,h5,h6⟩
  ·rw [e] at hc
   have n1:¬ x<hi:=Rat.not_lt.2 (Rat.le_of_lt hgt)
   have n2:¬ x=hi:=fun e=>by rw [e] at hgt;exact absurd hgt Rat.lt_irrefl
   refine ⟨(v1,v2,v3,true,v5,v6,()),Ev.step (fun k=>cU k _ _ _ _) (bT (decide_eq_true hs) (bT rfl (Ev.bind hc ?_))),?_⟩
   ·show Ev (fun k=>ba.j0 k o 1 (v1,v2,v3,true,v5,v6,()) w) _
    refine bF rfl ?_
    cases v6<;>cases o<;>exact evs _
   ·unfold Bd.qv
    rw [if_neg (by simp [n1]),if_neg n2]
    exact ⟨rfl,rfl,rfl,rfl,h5,h6⟩
theorem BF (h:BB K v b) (hw:RB WW w x) (hx:Sz WW K x) (o:Bool) (hK:K<500000000) (sign:Int) (hs:¬ 0<sign):∃ v',Ev (fun k=>ba k v w sign o) ((),v')∧BB K v' (b.qu x o):=by
 obtain ⟨lo,hi,hl,hh,ol,oh⟩:=b
 obtain ⟨v1,v2,v3,v4,v5,v6,_⟩:=v
 obtain ⟨h1,h2,h3,h4,h5,h6⟩:=h
 simp only at h1 h2 h3 h4 h5 h6
 subst h1 h2 h3 h4
 cases v3 with
 | false =>
  refine ⟨(w,v2,true,v4,o,v6,()),Ev.step (fun k=>cU k _ _ _ _) (bF (decide_eq_false hs) (bF rfl ?_)),?_⟩
  ·show Ev (fun k=>ba.j1 k o 1 (v1,v2,false,v4,v5,v6,()) w) _
   refine bT rfl ?_
   cases o<;>exact evs _
  ·exact ⟨rfl,rfl,rfl,rfl,fun _=>⟨hw,hx⟩,h6⟩
 | true =>
  obtain ⟨g1,g2⟩:=h5 rfl
  have hc:=fA hw g1 hx g2 (by omega)
  rcases ja x lo with ⟨e,hlt⟩ | ⟨e,heq⟩ | ⟨e,hgt⟩
  ·rw [e] at hc
   have n1:¬ lo<x:=Rat.not_lt.2 (Rat.le_of_lt hlt)
   have n2:¬ x=lo:=fun e=>by rw [e] at hlt;exact absurd hlt Rat.lt_irrefl
   refine ⟨(v1,v2,true,v4,v5,v6,()),Ev.step (fun k=>cU k _ _ _ _) (bF (decide_eq_false hs) (bT rfl (Ev.bind hc ?_))),?_⟩
   ·show Ev (fun k=>ba.j1 k o (-1) (v1,v2,true,v4,v5,v6,()) w) _
    refine bF rfl ?_
    cases v5<;>cases o<;>exact evs _
   ·unfold Bd.qu
    rw [if_neg (by simp [n1]),if_neg n2]
    exact ⟨rfl,rfl,rfl,rfl,h5,h6⟩
  ·rw [e] at hc
   refine ⟨(v1,v2,true,v4,v5||o,v6,()),Ev.step (fun k=>cU k _ _ _ _) (bF (decide_eq_false hs) (bT rfl (Ev.bind hc ?_))),?_⟩
   ·show Ev (fun k=>ba.j1 k o 0 (v1,v2,true,v4,v5,v6,()) w) _
    refine bF rfl ?_
    cases v5<;>cases o<;>exact evs _
   ·unfold Bd.qu
    rw [if_neg (by simp [heq,Rat.lt_irrefl]),if_pos heq]
    exact ⟨rfl,rfl,rfl,rfl,h5,h6⟩
  ·rw [e] at hc
   refine ⟨(w,v2,true,v4,o,v6,()),Ev.step (fun k=>cU k _ _ _ _) (bF (decide_eq_false hs) (bT rfl (Ev.bind hc ?_))),?_⟩
   ·show Ev (fun k=>ba.j1 k o 1 (v1,v2,true,v4,v5,v6,()) w) _
    refine bT rfl ?_
    cases o<;>exact evs _
   ·unfold Bd.qu
    rw [if_pos (.inr hgt)]
    exact ⟨rfl,rfl,rfl,rfl,fun _=>⟨hw,hx⟩,h6⟩
theorem min_sp {a c:aw} {p q:Rat} {J L:Nat} (ha:RB WW a p) (hc:RB WW c q) (hp:Sz WW J p) (hq:Sz WW L q) (h:J+L<1073741824):∃ r,Ev (fun k=>zn k a c) r∧RB WW r (if p≤q then p else q):=by
 have hcm:=fA ha hc hp hq h
 by_cases e:p≤q
 ·rw [if_pos e]
  exact ⟨a,Ev.step (fun k=>uH k _ _) (Ev.bind hcm (bT (by rw [E5];exact decide_eq_true e) (evs _))),ha⟩
 ·rw [if_neg e]
  exact ⟨c,Ev.step (fun k=>uH k _ _) (Ev.bind hcm (bF (by rw [E5];exact decide_eq_false e) (evs _))),hc⟩
theorem E7 (p q:Rat):decide (qO p q≥0)=decide (q≤p):=by
 rcases ja p q with ⟨e,h⟩ | ⟨e,h⟩ | ⟨e,h⟩
 ·rw [e,decide_eq_false (Rat.not_le.2 h)];rfl
 ·rw [e,decide_eq_true (show q≤p by rw [h];exact Rat.le_refl)];rfl
 ·rw [e,decide_eq_true (Rat.le_of_lt h)];rfl
theorem max_sp {a c:aw} {p q:Rat} {J L:Nat} (ha:RB WW a p) (hc:RB WW c q) (hp:Sz WW J p) (hq:Sz WW L q) (h:J+L<1073741824):∃ r,Ev (fun k=>zo k a c) r∧RB WW r (if q≤p then p else q):=by
 have hcm:=fA ha hc hp hq h
 by_cases e:q≤p
 ·rw [if_pos e]
  exact ⟨a,Ev.step (fun k=>uI k _ _) (Ev.bind hcm (bT (by rw [E7];exact decide_eq_true e) (evs _))),ha⟩
 ·rw [if_neg e]
  exact ⟨c,Ev.step (fun k=>uI k _ _) (Ev.bind hcm (bF (by rw [E7];exact decide_eq_false e) (evs _))),hc⟩
theorem pick_sp (h:BB K v b) (hok:b.ok) {J:Nat} (hJ:J≤1000) (hJ1:1≤J) (zl:b.hasLo=true→Sz WW J b.lo) (zh:b.hasHi=true→Sz WW J b.hi):∃ w y,Ev (fun k=>gV k v) (w,v)∧RB WW w y∧Fy b y:=by
 obtain ⟨lo,hi,hl,hh,ol,oh⟩:=b
 obtain ⟨v1,v2,v3,v4,v5,v6,_⟩:=v
 obtain ⟨h1,h2,h3,h4,h5,h6⟩:=h
 simp only at h1 h2 h3 h4 h5 h6 zl zh
 subst h1 h2 h3 h4
 unfold Fy
 simp only
 cases v3 with
 | false =>
  cases v4 with
  | false=>exact ⟨_,0,Ev.step (fun k=>dU k _) (Ev.bind (a:=true) (bT rfl (evs _)) (bT rfl (Ev.bind dz (evs _)))),fm aY,by simp⟩
  | true =>
   obtain ⟨f,f1,f2,f3⟩:=mf (h6 rfl).1 (zh rfl) (by omega)
   obtain ⟨g,g1,g2,g3⟩:=jx f2 (nR aY) f3 (se aY (Nat.le_refl 1)) (by omega)
   obtain ⟨m,m1,m2⟩:=min_sp (fm aY) g2 (jA aY) g3 (by omega)
   exact ⟨m,_,Ev.step (fun k=>dU k _) (Ev.bind (a:=false) (bT rfl (evs _)) (bF rfl (bT rfl (Ev.bind dz (Ev.bind f1 (Ev.bind gH (Ev.bind g1 (Ev.bind m1 (evs _))))))))),m2,by simp⟩
 | true =>
  cases v4 with
  | false =>
   obtain ⟨f,f1,f2,f3⟩:=mf (h5 rfl).1 (zl rfl) (by omega)
   obtain ⟨g,g1,g2,g3⟩:=gJ f2 (nR aY) f3 (se aY (Nat.le_refl 1)) (by omega)
   obtain ⟨m,m1,m2⟩:=max_sp (fm aY) g2 (jA aY) g3 (by omega)
   exact ⟨m,_,Ev.step (fun k=>dU k _) (Ev.bind (a:=false) (bF rfl (evs _)) (bF rfl (bF rfl (bT rfl (Ev.bind dz (Ev.bind f1 (Ev.bind gH (Ev.bind g1 (Ev.bind m1 (evs _)))))))))),m2,by simp⟩
  | true =>
   have he:=mh (h5 rfl).1 (h6 rfl).1 (zl rfl) (zh rfl) (by omega)
   by_cases c:lo=hi
   ·refine ⟨v1,lo,Ev.step (fun k=>dU k _) (Ev.bind (a:=false) (bF rfl (evs _)) (bF rfl (bF rfl (bF rfl (Ev.bind he (bT (decide_eq_true c) (evs _))))))),(h5 rfl).1,by simp [c]⟩
   ·have hlt:lo<hi:=by
     have:=hok rfl rfl
     simp only at this
     rcases this with h | ⟨h,_⟩
     ·exact h
     ·exact absurd h c
    obtain ⟨d,d1,d2,d3⟩:=jx (h6 rfl).1 (h5 rfl).1 (zh rfl) (zl rfl) (by omega)
    obtain ⟨f,f1,f2,f3⟩:=Frac_sp
    obtain ⟨m,m1,m2,m3⟩:=fz d2 f2 d3 f3 (by omega)
    obtain ⟨s,s1,s2,s3⟩:=gJ (h5 rfl).1 m2 (zl rfl) m3 (by omega)
    obtain ⟨t,t1,t2,t3⟩:=jx (h6 rfl).1 m2 (zh rfl) m3 (by omega)
    obtain ⟨r,y,r1,r2,r3,r4⟩:=sF s2 t2 s3 t3 (by grind) (by omega) (by omega)
    exact ⟨r,y,Ev.step (fun k=>dU k _) (Ev.bind (a:=false) (bF rfl (evs _)) (bF rfl (bF rfl (bF rfl (Ev.bind he (bF (decide_eq_false c) (Ev.bind d1 (Ev.bind f1 (Ev.bind m1 (Ev.bind s1 (Ev.bind t1 (Ev.bind r1 (bF rfl (evs _)))))))))))))),r2,by simpa [c] using r4⟩
end
end Go.Proofs.YtjimdhlmeebjeaaGreat.Q
end
section
namespace Go.Proofs.YtjimdhlmeebjeaaGreat.Q
open Go.RowKit Go.Proofs.YtjimdhlmeebjeaaGreatW.PrintWords Go.Proofs.YtjimdhlmeebjeaaGreatW.PrintMore Go.Proofs.YtjimdhlmeebjeaaGreat.V Go.Proofs.YtjimdhlmeebjeaaGreat.E
open Go.Proofs.YtjimdhlmeebjeaaGreat.P (Dg Nm vl WW RR bS gI evs evk evb fi aL aY bm w64 u64)
open Go.Proofs.YtjimdhlmeebjeaaGreat.F (cy ce Bd dV nW bdC kr Fy)
set_option linter.unusedVariables false
theorem xL {K n L i Kp:Nat} {l:List bJ} {q:List cy} (h:RRs K n L l q) (hn:n+1≤L) (hi:i<n) (hn2:n≤900) (hl:l.length<1000000000) (hL:L<1000000) {rl:List aw} {p:Nat→Rat} (hrl:n≤rl.length) (hrl2:rl.length<1000000)
 (hp:∀ k,i<k→k<n→RB WW (rdT (t:=ah) rl (k:Int):aw) (p k)∧Sz WW Kp (p k)) (hs:2*K+n*(K+Kp+1)<100000000) :
 ∃ v,Ev (fun k=>bB k l (i:Int) rl) (v,rl)∧BB (2*K+n*(K+Kp+1)) v (nW (bdC n i p) i q):=by
 have hKp:K+Kp+1<100000000:=by
  have:=Nat.mul_le_mul_right (K+Kp+1) (show 1≤n by omega)
  omega
 generalize hZ:((false,[],[],()),(false,[],[],()),false,false,false,false,())=Z
 have key:∀ j,j≤l.length→∀ v,BB (2*K+n*(K+Kp+1)) v ((q.take j).foldl (dV (bdC n i p) i) Bd.none)→∃ v',Ev2 (fun k m=>bB.l0 k m (i:Int) l (l.length:Int) (j:Int) rl Z v) (v',rl)∧BB (2*K+n*(K+Kp+1)) v' (nW (bdC n i p) i q):=by
  refine dn ?_ (fun j hj ih=>?_)
  ·intro v hv
   rw [h.1,List.take_length] at hv
   exact ⟨v,Ev2.step (fun k m=>bB.aR k m _ _ _ _ _ _ _) (Ev2.bF (decide_eq_false (by omega)) (Ev2.of (evs _))),hv⟩
  ·intro v hv
   have hjq:j<q.length:=by rw [← h.1];exact hj
   obtain ⟨a,b,c⟩:=h.at hj
   have et:(q.take (j+1)).foldl (dV (bdC n i p) i) Bd.none=dV (bdC n i p) i ((q.take j).foldl (dV (bdC n i p) i) Bd.none) (q.getD j ([],0)):=by
    rw [oO hjq,List.foldl_append];rfl
   rw [et] at ih
   generalize hb:(q.take j).foldl (dV (bdC n i p) i) Bd.none=bb at hv ih
   generalize hr:q.getD j ([],0)=r at a b ih
   generalize hw:(rdT (t:=aj) l (j:Int):bJ)=w at a c
   obtain ⟨a1,a2⟩:=a.at (i:=i) (by omega)
   have hsg:=cZ a1
   have fin:∀ v',BB (2*K+n*(K+Kp+1)) v' (dV (bdC n i p) i bb r)→∃ v'',Ev2 (fun k m=>bB.j0 k m (i:Int) l (l.length:Int) (j:Int) rl Z v') (v'',rl)∧BB (2*K+n*(K+Kp+1)) v'' (nW (bdC n i p) i q):=by
    intro v' hv'
    obtain ⟨z,z1,z2⟩:=ih v' hv'
    refine ⟨z,?_,z2⟩
    show Ev2 (fun k m=>bB.l0 k m (i:Int) l (l.length:Int) (wrap64 ((j:Int)+1)) rl Z v') (z,rl)
    rw [gM (by omega)];exact z1
   by_cases c0:ce r i=0
   ·have es:dV (bdC n i p) i bb r=bb:=by unfold dV;rw [if_pos c0]
    obtain ⟨z,z1,z2⟩:=fin v (by rw [es];exact hv)
    refine ⟨z,Ev2.step (fun k m=>bB.aR k m _ _ _ _ _ _ _) (Ev2.bT (decide_eq_true (by omega)) (Ev2.iT (by omega) ?_)),z2⟩
    rw [hw]
    exact Ev2.iT (by omega) (Ev2.bind hsg (Ev2.bT (by rw [w9];exact decide_eq_true c0) z1))
   ·obtain ⟨k1,k2⟩:=a.at (i:=n) (by omega)
    have key2:∀ m,m≤n-(i+1)→∀ u,RB WW u (kr n i p r m)→Sz WW (K+m*(K+Kp+1)) (kr n i p r m)→∃ z,Ev3 (fun k m1 m0=>bB.l1 k m1 m0 (i:Int) ((i+1+m:Nat):Int) l (l.length:Int) (j:Int) rl Z v w (rdT (t:=ah) w.1 (i:Int):aw) u) (z,rl)∧BB (2*K+n*(K+Kp+1)) z (nW (bdC n i p) i q):=by
     refine dn ?_ (fun m hm ih2=>?_)
     ·intro u hu hz
      obtain ⟨d,d1,d2,d3⟩:=kv hu a1 hz a2 c0 (by
       have:=Nat.mul_le_mul_right (K+Kp+1) (show n-(i+1)≤n by omega)
       omega)
      have ed:kr n i p r (n-(i+1)) / ce r i=bdC n i p r:=rfl
      rw [ed] at d2 d3
      have d4:Sz WW (2*K+n*(K+Kp+1)) (bdC n i p r):=eA aL d3 (by
       have:=Nat.mul_le_mul_right (K+Kp+1) (show n-(i+1)≤n by omega)
       omega)
      have e1:w.2.2.1=r.2:=a.2.2
      by_cases c1:r.2=0
      ·obtain ⟨v1,x1,y1⟩:=BG hv d2 d4 false (by omega) 1 (by decide)
       obtain ⟨v2,x2,y2⟩:=BF y1 d2 d4 false (by omega) (-1) (by decide)
       have es:dV (bdC n i p) i bb r=(bb.qv (bdC n i p r) false).qu (bdC n i p r) false:=by unfold dV;rw [if_neg c0,if_pos c1]
       obtain ⟨z,z1,z2⟩:=fin v2 (by rw [es];exact y2)
       exact ⟨z,Ev3.step (fun k m n=>bB.bY k m n _ _ _ _ _ _ _ _ _ _ _) (Ev3.bF (decide_eq_false (by rw [a.2.1];omega)) (Ev3.bind d1 (Ev3.bT (by rw [e1,c1];rfl) (Ev3.bind x1 (Ev3.bind x2 (Ev3.of z1)))))),z2⟩
      ·have eb:(w.2.2.1==(2:Int))=decide (r.2=2):=by rw [e1];by_cases c:r.2=2<;>simp [c]
       rcases eT (ce r i) with ⟨es,hc⟩ | ⟨es,hc⟩ | ⟨es,hc⟩
       ·rw [es] at hsg
        obtain ⟨v1,x1,y1⟩:=BF hv d2 d4 (decide (r.2=2)) (by omega) (-1) (by decide)
        have el:dV (bdC n i p) i bb r=bb.qu (bdC n i p r) (decide (r.2=2)):=by unfold dV;rw [if_neg c0,if_neg c1,if_neg (Rat.not_lt.2 (Rat.le_of_lt hc))]
        obtain ⟨z,z1,z2⟩:=fin v1 (by rw [el];exact y1)
        refine ⟨z,Ev3.step (fun k m n=>bB.bY k m n _ _ _ _ _ _ _ _ _ _ _) (Ev3.bF (decide_eq_false (by rw [a.2.1];omega)) (Ev3.bind d1 (Ev3.bF (by rw [e1];simpa using c1) (Ev3.bind hsg ?_)))),z2⟩
        rw [eb]
        exact Ev3.bind x1 (Ev3.of z1)
       ·exact absurd hc c0
       ·rw [es] at hsg
        obtain ⟨v1,x1,y1⟩:=BG hv d2 d4 (decide (r.2=2)) (by omega) 1 (by decide)
        have el:dV (bdC n i p) i bb r=bb.qv (bdC n i p r) (decide (r.2=2)):=by unfold dV;rw [if_neg c0,if_neg c1,if_pos hc]
        obtain ⟨z,z1,z2⟩:=fin v1 (by rw [el];exact y1)
        refine ⟨z,Ev3.step (fun k m n=>bB.bY k m n _ _ _ _ _ _ _ _ _ _ _) (Ev3.bF (decide_eq_false (by rw [a.2.1];omega)) (Ev3.bind d1 (Ev3.bF (by rw [e1];simpa using c1) (Ev3.bind hsg ?_)))),z2⟩
        rw [eb]
        exact Ev3.bind x1 (Ev3.of z1)
     ·intro u hu hz
      obtain ⟨b1,b2⟩:=a.at (i:=i+1+m) (by omega)
      obtain ⟨g1,g2⟩:=hp (i+1+m) (by omega) (by omega)
      have hmK:=Nat.mul_le_mul_right (K+Kp+1) (show m≤n by omega)
      obtain ⟨s,s1,s2,s3⟩:=fz b1 g1 b2 g2 (by omega)
      obtain ⟨t,t1,t2,t3⟩:=jx hu s2 hz s3 (by omega)
      have er:kr n i p r m-ce r (i+1+m)*p (i+1+m)=kr n i p r (m+1):=rfl
      rw [er] at t2 t3
      obtain ⟨z,z1,z2⟩:=ih2 t t2 (eA aL t3 (by rw [Nat.succ_mul];omega))
      refine ⟨z,Ev3.step (fun k m n=>bB.bY k m n _ _ _ _ _ _ _ _ _ _ _) (Ev3.bT (decide_eq_true (by rw [a.2.1];omega)) (Ev3.iT (by omega) (Ev3.iT (by omega) (Ev3.bind s1 (Ev3.bind t1 ?_))))),z2⟩
      rw [gM (by omega)];exact z1
    obtain ⟨z,z1,z2⟩:=key2 0 (by omega) _ k1 (by simpa [kr] using k2)
    refine ⟨z,Ev2.step (fun k m=>bB.aR k m _ _ _ _ _ _ _) (Ev2.bT (decide_eq_true (by omega)) (Ev2.iT (by omega) ?_)),z2⟩
    rw [hw]
    refine Ev2.iT (by omega) (Ev2.bind hsg (Ev2.bF (by rw [w9];exact decide_eq_false c0) (Ev2.bind (gz a (by omega) (by omega)) ?_)))
    rw [gM (by omega)]
    exact z1.diag
 obtain ⟨v,v1,v2⟩:=key 0 (by omega) Z (by
  rw [← hZ]
  exact ⟨rfl,rfl,rfl,rfl,fun e=>by simp [Bd.none] at e,fun e=>by simp [Bd.none] at e⟩)
 refine ⟨v,Ev.step (fun k=>rm k l _ rl) ?_,v2⟩
 rw [hZ]
 exact v1.diag
end Go.Proofs.YtjimdhlmeebjeaaGreat.Q
end
section
namespace Go.Proofs.YtjimdhlmeebjeaaGreat.Q
open Go.RowKit Go.Proofs.YtjimdhlmeebjeaaGreatW.PrintWords Go.Proofs.YtjimdhlmeebjeaaGreatW.PrintMore Go.Proofs.YtjimdhlmeebjeaaGreat.V Go.Proofs.YtjimdhlmeebjeaaGreat.E
open Go.Proofs.YtjimdhlmeebjeaaGreat.P (Dg Nm vl WW RR bS gI evs evk evb fi aL aY bm w64 u64)
open Go.Proofs.YtjimdhlmeebjeaaGreat.F (cy ce dR fF yA kg fR Bd nW bdC Fy rlf MB GB UB PB XB DB PtOK yU fY ND upd)
set_option linter.unusedVariables false
def KS (K n:Nat):Nat→Nat
 | 0=>K+(K*(n+2)+1)
 | t+1=>(4*KS K n t+2)*(n+3)+1
def LS:Nat→Nat
 | 0=>10
 | t+1=>LS t+LS t*LS t
def BK (K:Nat):Nat:=4294967296 ^ K
def ud (K n Lm:Nat):Prop :=
 (∀ t,t<n+1→KS K n t≤1000000) ∧
 (∀ t,t<n+1→(UB (BK K) (BK K) n t+GB (BK K) (BK K) n t)*(BK K*BK K ^ (n+1)*BK K*BK K ^ Lm)<4294967296 ^ 200) ∧
 (∀ j,j<n+1→XB (BK K) (BK K) n j*DB (BK K) (BK K) n j<4294967296 ^ 200∧DB (BK K) (BK K) n j<4294967296 ^ 200) ∧
 (∀ j,j<n→(MB (BK K) (BK K) n (n-1-j)+n*(MB (BK K) (BK K) n (n-1-j)*XB (BK K) (BK K) n j))*(MB (BK K) (BK K) n (n-1-j)*PB (BK K) (BK K) n j)<4294967296 ^ 1000∧MB (BK K) (BK K) n (n-1-j)*PB (BK K) (BK K) n j<4294967296 ^ 1000)
instance (K n Lm:Nat):Decidable (ud K n Lm):=by unfold ud;infer_instance
theorem kK {x:Rat} {N D J:Nat} (hn:x.num.natAbs≤N) (hd:x.den≤D) (h1:N<4294967296 ^ J) (h2:D<4294967296 ^ J):Sz WW J x:=by
 have e:WW ^ J=((4294967296 ^ J:Nat):Int):=by rw [P.dx,Int.natCast_pow];rfl
 refine ⟨?_,?_⟩<;>rw [e]<;>omega
theorem AR {x:Rat} {K:Nat} (h:Sz WW K x):ND (BK K) (BK K) x:=by
 have e:WW ^ K=((4294967296 ^ K:Nat):Int):=by rw [P.dx,Int.natCast_pow];rfl
 obtain ⟨h1,h2⟩:=h
 rw [e] at h1 h2
 unfold BK
 exact ⟨by omega,by omega⟩
theorem LS_le {t:Nat} (h:t≤2):LS t≤20000:=by
 rcases (by omega:t=0∨t=1∨t=2) with rfl | rfl | rfl<;>decide
theorem BJ {t:Nat} (h:t≤3):LS t<1000000000:=by
 rcases (by omega:t=0∨t=1∨t=2∨t=3) with rfl | rfl | rfl | rfl<;>decide
theorem jB {n:Nat} {s:List di} (hs:s.length≤10):∀ t,(F.stg n s t).length≤LS t
 | 0=>by
  have h:=F.jm (n:=n) (yA n s) []
  have e:(yA n s).length=s.length:=by simp [yA]
  unfold F.stg fF
  rw [e,List.length_nil] at h
  unfold LS
  omega
 | t+1=>by
  have ih:=jB (n:=n) hs t
  have h:=CS (n:=n) (i:=t) (q:=F.stg n s t)
  have h2:=Nat.mul_le_mul ih ih
  unfold F.stg LS
  omega
theorem zF {c:List Rat} {p:Nat→Rat} {q:List Rat}:∀ m,(∀ k,k<m→p k=q.getD k 0)→F.lin c p m=qN c q m
 | 0,_=>rfl
 | m+1,h=>by
  simp only [F.lin,qN]
  rw [zF m (fun k hk=>h k (by omega)),h m (by omega)]
section
variable {K n Lm:Nat} {l:List aQ} {s:List di}
def SRs (K n:Nat) (s:List di) (o:List (List bJ)) (j:Nat):Prop:=o.length=j+1∧∀ t,t≤j→RRs (KS K n t) n (n+1+s.length) (rdT (t:=.list aj) o (t:Int):List bJ) (F.stg n s t)
theorem Solve_l0 (hn:n≤3) (hl:s.length≤10) (hnum:ud K n Lm) {R:List aw×List aw×Int×Unit→Prop}
 (hc:∀ o,SRs K n s o n→∃ z,Ev2 (fun k m=>aX.l1 k m (n:Int) l (o.length:Int) (0:Int) o) z∧R z) :
 ∀ j,j≤n→∀ o,SRs K n s o j→∃ z,Ev2 (fun k m=>aX.l0 k m (n:Int) l (n:Int) (j:Int) o) z∧R z:=by
 refine dn ?_ (fun j hj ih=>?_)
 ·intro o ho
  obtain ⟨z,z1,z2⟩:=hc o ho
  exact ⟨z,Ev2.step (fun k m=>aX.aR k m _ _ _ _ _) (Ev2.bF (decide_eq_false (by omega)) (Ev2.ofd z1)),z2⟩
 ·intro o ho
  have hr:=ho.2 j (Nat.le_refl _)
  have hk:=hnum.1 j (by omega)
  have hcn:=jB (n:=n) hl j
  have hls:=LS_le (show j≤2 by omega)
  have hrl:=hr.1
  obtain ⟨v,v1,v2⟩:=qM (i:=j) hr (by omega) hj (by omega) (by omega) (by omega) (by
   have:=Nat.mul_le_mul (show 4*KS K n j+3≤4000003 by omega) (show n+3≤6 by omega)
   omega)
  have hol:=ho.1
  obtain ⟨z,z1,z2⟩:=ih (o++[v]) ⟨by simp [hol],fun t ht=>by
   by_cases c:t≤j
   ·have e:(rdT (t:=.list aj) (o++[v]) (t:Int):List bJ)=(rdT (t:=.list aj) o (t:Int):List bJ):=by
     rw [cH (by simp;omega),cH (by omega),List.getElem_append_left]
    rw [e];exact ho.2 t c
   ·have et:t=j+1:=by omega
    subst et
    have e:(rdT (t:=.list aj) (o++[v]) ((j+1:Nat):Int):List bJ)=v:=by
     rw [cH (by simp;omega),List.getElem_append_right (by omega)]
     simp [hol]
    rw [e];exact v2⟩
  refine ⟨z,Ev2.step (fun k m=>aX.aR k m _ _ _ _ _) (Ev2.bT (decide_eq_true (by omega)) (Ev2.iT (by omega) (Ev2.bind v1 (Ev2.iT (by simp;omega) ?_)))),z2⟩
  rw [gM (by omega)];exact z1
theorem Solve_l2 {q:List Rat} {J:Nat} {M0:Nat→Nat} {r:List aw} (h:RLs WW J r q) (hJ:J<1000000000) (hl:r.length<1000000):∃ m,Ev3 (fun k m1 m0=>aX.l2 k m1 m0 (r.length:Int) (0:Int) r) (([]:List aw),m,(0:Int),())∧RLs WW J m (q.map fun x=>-x):=by
 have key:∀ j,j≤r.length→∀ r',RP WW J r' r.length r.length (fun i=>if i<j then -q.getD i 0 else q.getD i 0)→∃ m,Ev3 (fun k m1 m0=>aX.l2 k m1 m0 (r.length:Int) (j:Int) r') (([]:List aw),m,(0:Int),())∧RLs WW J m (q.map fun x=>-x):=by
  refine dn ?_ (fun j hj ih=>?_)
  ·intro r' hr'
   refine ⟨r',Ev3.step (fun k m n=>aX.mu k m n _ _ _) (Ev3.bF (decide_eq_false (by omega)) (Ev3.of (Ev2.of (evs _)))),hr'.rls (by rw [List.length_map,h.1]) (fun i hi=>?_)⟩
   simp only [if_pos hi]
   exact (F.getD_map (f:=fun x=>-x) (by simp) q i).symm
  ·intro r' hr'
   obtain ⟨a1,a2⟩:=hr'.2 j hj
   simp only [if_neg (Nat.lt_irrefl j)] at a1 a2
   obtain ⟨v,v1,v2,v3⟩:=iE a1 a2 (by omega)
   obtain ⟨m,m1,m2⟩:=ih (r'.set j v) ⟨by simp [hr'.1],fun i hi=>by
    rw [Ay (by rw [hr'.1];exact hi)]
    by_cases c:i=j
    ·subst c
     rw [if_pos rfl];dsimp only;rw [if_pos (Nat.lt_succ_self _)];exact ⟨v2,v3⟩
    ·rw [if_neg c]
     have:=hr'.2 i hi
     dsimp only at this ⊢
     by_cases c2:i<j
     ·rw [if_pos c2] at this;rw [if_pos (by omega)];exact this
     ·rw [if_neg c2] at this;rw [if_neg (by omega)];exact this⟩
   have hl':=hr'.1
   refine ⟨m,Ev3.step (fun k m n=>aX.mu k m n _ _ _) (Ev3.bT (decide_eq_true (by omega)) (Ev3.iT (by omega) (Ev3.bind v1 (Ev3.iT (by omega) ?_)))),m2⟩
   rw [gM (by omega),Int.toNat_natCast];exact m1
 exact key 0 (by omega) r ⟨rfl,fun i hi=>by simp only [Nat.not_lt_zero,if_false];exact h.at hi⟩
theorem xi {B:Int} {J J':Nat} {m:List aw} {q:List Rat} (h:RLs B J m q) (hz:∀ x,x∈q→Sz B J' x):RLs B J' m q:=⟨h.1,fun i h1 h2=>⟨(h.2 i h1 h2).1,hz _ (List.getElem_mem h2)⟩⟩
theorem Solve_l3 (hn:n≤3) (hl:s.length≤10) (hsys:F.Sys n (BK K) (BK K) s) (hnum:ud K n Lm) {o:List (List bJ)} (ho:SRs K n s o n) :
 ∀ i,i≤n→∀ j,i+j=n→∀ p,PtOK n (BK K) (BK K) s j p→∀ r:List aw,r.length=n→(∀ k,i≤k→k<n→RB WW (rdT (t:=ah) r (k:Int):aw) (p k)) →
  ∃ pt p',Ev2 (fun k m=>aX.l3 k m ((i:Int)-1) r o) (pt,([]:List aw),(0:Int),())∧pt.length=n∧(∀ k,k<n→RB WW (rdT (t:=ah) pt (k:Int):aw) (p' k))∧PtOK n (BK K) (BK K) s n p':=by
 intro i
 induction i with
 | zero =>
  intro _ j hj p hp r hr hk
  obtain rfl:j=n:=by omega
  exact ⟨r,p,Ev2.step (fun k m=>aX.kU k m _ _ _) (Ev2.bF (decide_eq_false (by omega)) (Ev2.of (evs _))),hr,fun k h=>hk k (by omega) h,hp⟩
 | succ i ih =>
  intro hi j hj p hp r hr hk
  have hij:i+1+j=n:=hj
  have ej:n-1-j=i:=by omega
  have hrr:=ho.2 i (by omega)
  have hks:=hnum.1 i (by omega)
  have hsz:∀ k,i<k→k<n→RB WW (rdT (t:=ah) r (k:Int):aw) (p k)∧Sz WW 200 (p k):=fun k h1 h2=>by
   obtain ⟨a,b⟩:=hp.sz k (by omega) h2
   obtain ⟨c,d⟩:=hnum.2.2.1 j (by omega)
   exact ⟨hk k (by omega) h2,kK (F.Eg a) b (Nat.lt_of_le_of_lt (Nat.mul_le_mul_left _ b) c) d⟩
  have hcn:=jB (n:=n) hl i
  have hls:=BJ (show i≤3 by omega)
  have hrl:=hrr.1
  have hmul:=Nat.mul_le_mul (show n≤3 from hn) (show KS K n i+200+1≤1000201 by omega)
  obtain ⟨v,v1,v2⟩:=xL (i:=i) (Kp:=200) hrr (by omega) (by omega) (by omega) (by omega) (by omega) (by omega:n≤r.length) (by omega) hsz (by omega)
  have hok:=F.pt_ok hsys hij hp
  obtain ⟨lh,ll⟩:=F.pt_lim hsys hij hp
  have hpd:=hp.prod i hij
  have hJ:∀ x,fY x (MB (BK K) (BK K) n i+n*(MB (BK K) (BK K) n i*XB (BK K) (BK K) n j))→(∃ a:Nat,1≤a∧a≤MB (BK K) (BK K) n i∧∃ y:Int,x*((a*F.iC i p j:Nat):Rat)=(y:Rat))→Sz WW 1000 x:=fun x hx ⟨a,a1,a2,y,hy⟩=>by
   have hd:=Nat.le_of_dvd (Nat.mul_pos a1 (F.sL j)) (F.iL hy)
   have hd2:x.den≤MB (BK K) (BK K) n i*PB (BK K) (BK K) n j:=Nat.le_trans hd (Nat.mul_le_mul a2 hpd)
   obtain ⟨c,d⟩:=hnum.2.2.2 j (by omega)
   rw [ej] at c d
   exact kK (F.Eg hx) hd2 (Nat.lt_of_le_of_lt (Nat.mul_le_mul_left _ hd2) c) d
  obtain ⟨w,y,w1,w2,w3⟩:=pick_sp v2 hok (J:=1000) (by decide) (by decide) (fun e=>hJ _ (ll e).1 (ll e).2) (fun e=>hJ _ (lh e).1 (lh e).2)
  have hstep:=F.pt_step hsys hij hp w3
  obtain ⟨pt,p',z1,z2⟩:=ih (by omega) (j+1) (by omega) (upd p i y) hstep (r.set i w) (by simpa using hr) (fun k h1 h2=>by
   rw [Ay (by omega)]
   by_cases c:k=i
   ·subst c
    rw [if_pos rfl]
    have:upd p k y k=y:=if_pos rfl
    rw [this];exact w2
   ·rw [if_neg c,F.rX c];exact hk k (by omega) h2)
  have hol:=ho.1
  have e1:(((i+1:Nat):Int)-1)=(i:Int):=by omega
  refine ⟨pt,p',Ev2.step (fun k m=>aX.kU k m _ _ _) ?_,z2⟩
  rw [e1]
  refine Ev2.bT (decide_eq_true (by omega)) (Ev2.iT (by omega) (Ev2.bind v1 (Ev2.bind w1 (Ev2.iT (by simp only;omega) ?_))))
  rw [w64 (by omega) (by omega),Int.toNat_natCast];exact z1
end
end Go.Proofs.YtjimdhlmeebjeaaGreat.Q
end
section
namespace Go.Proofs.YtjimdhlmeebjeaaGreat.Q
open Go.RowKit Go.Proofs.YtjimdhlmeebjeaaGreatW.PrintWords Go.Proofs.YtjimdhlmeebjeaaGreatW.PrintMore Go.Proofs.YtjimdhlmeebjeaaGreat.V Go.Proofs.YtjimdhlmeebjeaaGreat.E
open Go.Proofs.YtjimdhlmeebjeaaGreat.P (Dg Nm vl WW RR bS gI evs evk evb fi aL aY bm w64 u64)
open Go.Proofs.YtjimdhlmeebjeaaGreat.F (cy ce dR fF yA kg fR Bd nW bdC Fy rlf MB GB UB PB XB DB PtOK yU fY ND upd)
set_option linter.unusedVariables false
section
variable {K n Lm:Nat} {l:List aQ} {s:List di}
def Sol (n:Nat) (s:List di) (z:List aw×List aw×Int×Unit):Prop :=
 (∃ pt pq,z=(pt,[],0,())∧RLs WW 200 pt pq∧pq.length=n∧∀ k,k<s.length→eD (qN (ln s k).1 pq n) (rlf s k) (kf s k)) ∨
 (∃ m mq,z=([],m,0,())∧RLs WW 200 m mq∧mq.length=s.length∧rW n s mq)
theorem DK {t:Nat} (ht:t≤n) (hl:s.length≤Lm) (hsys:F.Sys n (BK K) (BK K) s) (hnum:ud K n Lm) {r:cy} (hr:r∈F.stg n s t):∀ x,x∈yU n s.length r→Sz WW 200 x:=by
 intro x hx
 have hB:=hsys.pos
 obtain ⟨z,z1,z2⟩:=F.ref_size (F.sm hsys t ht r hr) (fun k hk=>F.sc_nd hsys hk) (F.UB_pos hB hB t) (Nat.mul_pos (Nat.mul_pos hB (Nat.pow_pos hB)) hB) hB x hx
 have h1:=hnum.2.1 t (by omega)
 have h2:BK K ^ s.length≤BK K ^ Lm:=Nat.pow_le_pow_right hB hl
 have h3:=Nat.mul_le_mul_left (UB (BK K) (BK K) n t+GB (BK K) (BK K) n t) (Nat.mul_le_mul_left (BK K*BK K ^ (n+1)*BK K) h2)
 refine kK (N:=(UB (BK K) (BK K) n t+GB (BK K) (BK K) n t)*(BK K*BK K ^ (n+1)*BK K*BK K ^ s.length)) (D:=1) ?_ ?_ (Nat.lt_of_le_of_lt h3 h1) (Nat.one_lt_pow (by decide) (by decide))
 ·rw [z1,Rat.num_intCast];exact z2
 ·rw [z1,Rat.den_intCast];exact Nat.le_refl _
theorem Solve_l1 (hn:n≤3) (hls:l.length=s.length) (hl:s.length≤Lm) (hLm:Lm≤10) (hsys:F.Sys n (BK K) (BK K) s) (hnum:ud K n Lm) {o:List (List bJ)} (ho:SRs K n s o n) :
 ∀ t,t≤n+1→(∀ t',t'<t→∀ r,r∈F.stg n s t'→dR n r=false)→∃ z,Ev2 (fun k m=>aX.l1 k m (n:Int) l (o.length:Int) (t:Int) o) z∧Sol n s z:=by
 have hol:=ho.1
 refine dn ?_ (fun t ht ih=>?_)
 ·intro hno
  obtain ⟨pt,p',z1,z2,z3,z4⟩:=Solve_l3 hn (by omega) hsys hnum ho n (Nat.le_refl _) 0 (by omega) (fun _=>0) (F.y6 hsys (hno n (by omega)) _) (List.replicate (Int.toNat (n:Int)) (false,[],[],())) (by simp) (fun k h1 h2=>by omega)
  refine ⟨_,Ev2.step (fun k m=>aX.bY k m _ _ _ _ _) (Ev2.bF (decide_eq_false (by omega)) (Ev2.iT ⟨by omega,by omega,by rw [Int.toNat_natCast];omega,by rw [Int.toNat_natCast];unfold maxLen;omega⟩ ?_)),.inl ⟨pt,(List.range n).map p',rfl,?_,by simp,?_⟩⟩
  ·rw [w64 (by omega) (by omega)]
   exact Ev2.ofd z1
  ·have hR:RP WW 200 pt n n p':=⟨z2,fun k hk=>⟨z3 k hk,by
    obtain ⟨a,b⟩:=z4.sz k (by omega) hk
    obtain ⟨c,d⟩:=hnum.2.2.1 n (by omega)
    exact kK (F.Eg a) b (Nat.lt_of_le_of_lt (Nat.mul_le_mul_left _ b) c) d⟩⟩
   exact hR.rls (by simp) (fun i hi=>by simp [List.getD_eq_getElem?_getD,hi])
  ·intro k hk
   have:=F.pt_done hsys z4 k hk
   rwa [zF (q:=(List.range n).map p') n (fun i hi=>by simp [List.getD_eq_getElem?_getD,hi])] at this
 ·intro hno
  have hrr:=ho.2 t (by omega)
  have hks:=hnum.1 t (by omega)
  have hcn:=jB (n:=n) (s:=s) (by omega) t
  have hls3:=BJ (show t≤3 by omega)
  have hrl:=hrr.1
  rcases lI hrr (by omega) (by omega) (by omega) (by omega) with ⟨v,v1,v2⟩ | ⟨v,r,v1,v2,v3,v4,v5⟩
  ·obtain ⟨z,z1,z2⟩:=ih (fun t' ht' r hr=>by
    by_cases c:t'=t
    ·subst c;exact v2 r hr
    ·exact hno t' (by omega) r hr)
   refine ⟨z,Ev2.step (fun k m=>aX.bY k m _ _ _ _ _) (Ev2.bT (decide_eq_true (by omega)) (Ev2.iT (by omega) (Ev2.bind v1 (Ev2.bF rfl ?_)))),z2⟩
   rw [gM (by omega)];exact z1
  ·have vl:v.1.length=n+1+s.length:=by rw [v2.1.1];exact v4
   have dl:(v.1.drop (n+1)).length=s.length:=by simp [vl]
   obtain ⟨m,m1,m2⟩:=uo (kk:=s.length) (v2.1.drop (n+1)) (by omega) (by omega) (by omega) (by
    have:=Nat.mul_le_mul (show KS K n t+1≤1000001 by omega) (show s.length+2≤12 by omega)
    omega)
   have ml:m.length=s.length:=by rw [m2.1,F.ko];simp [v4]
   obtain ⟨k1,k2⟩:=v2.at (i:=n) (by omega)
   have hsg:=cZ k1
   have e1:v.2.2.1=r.2:=v2.2.2
   have ht:Ev (fun k=>bif v.2.2.1==(0:Int) then (cE k v).bind fun (v7:aw)=>(dH k v7).bind fun (v8:Int)=>some (decide (v8>(0:Int))) else some false) (decide (r.2=0∧0<ce r n)):=by
    rw [e1]
    by_cases c:r.2=0
    ·refine bT (by rw [c];rfl) (Ev.bind (gz v2 (by omega) (by omega)) (Ev.bind hsg ?_))
     rw [sgd_gt]
     have:decide (r.2=0∧0<ce r n)=decide (0<ce r n):=by simp [c]
     rw [this];exact evs _
    ·have:decide (r.2=0∧0<ce r n)=false:=by simp [c]
     rw [this]
     exact bF (by rw [beq_eq_false_iff_ne];exact c) (evs _)
   have hn64:n<9223372036854775807:=by omega
   have hz:=DK (t:=t) (by omega) hl hsys hnum v3
   have hrl2:(yU n s.length r).length=s.length:=by
    unfold yU
    split<;>simp [F.ko,v4]
   by_cases c:r.2=0∧0<ce r n
   ·obtain ⟨m',x1,x2⟩:=Solve_l2 (M0:=fun _=>0) m2 (by
     have:=Nat.mul_le_mul (show KS K n t≤1000000 by omega) (show s.length+1≤11 by omega)
     omega) (by omega)
    have er:yU n s.length r=(fR s.length (r.1.drop (n+1))).map fun x=>-x:=by unfold yU;rw [if_pos c]
    refine ⟨_,Ev2.step (fun k m=>aX.bY k m _ _ _ _ _) (Ev2.bT (decide_eq_true (by omega)) (Ev2.iT (by omega) (Ev2.bind v1 (Ev2.bT rfl ?_)))),.inr ⟨m',_,rfl,xi (by rw [er];exact x2) hz,hrl2,F.ref_ok (F.sm hsys t (by omega) r v3) hsys.rel v5⟩⟩
    rw [gM hn64,hls]
    refine Ev2.iT (by simp only;omega) ?_
    rw [Int.toNat_natCast]
    exact Ev2.bind m1 (Ev2.iT (by omega) (Ev2.bind ht (Ev2.bT (decide_eq_true c) x1.diag)))
   ·have er:yU n s.length r=fR s.length (r.1.drop (n+1)):=by unfold yU;rw [if_neg c]
    refine ⟨_,Ev2.step (fun k m=>aX.bY k m _ _ _ _ _) (Ev2.bT (decide_eq_true (by omega)) (Ev2.iT (by omega) (Ev2.bind v1 (Ev2.bT rfl ?_)))),.inr ⟨m,_,rfl,xi (by rw [er];exact m2) hz,hrl2,F.ref_ok (F.sm hsys t (by omega) r v3) hsys.rel v5⟩⟩
    rw [gM hn64,hls]
    refine Ev2.iT (by simp only;omega) ?_
    rw [Int.toNat_natCast]
    exact Ev2.bind m1 (Ev2.iT (by omega) (Ev2.bind ht (Ev2.bF (decide_eq_false c) (Ev2.of (evs _)))))
theorem yp (ha:yB l) (hok:OkS (n:Int) l) (hn:n≤3) (hl:l.length≤10):Ev (fun k=>jq k (n:Int) l) 0:=by
 have hc:=BN (n:=(n:Int)) ha
 rw [xQ hok] at hc
 exact Ev.step (fun k=>rn k _ _) (Ev.bind hc (bF rfl (Ev.bind (a:=false) (bF (decide_eq_false (by omega)) (by rw [decide_eq_false (by omega)];exact evs _)) (bF rfl (evs _)))))
theorem wF (ha:yB l) (hok:OkS (n:Int) l) (hs:RSs WW K l s) (hK:1≤K) (hn:n≤3) (hl:s.length≤Lm) (hLm:Lm≤10) (hsys:F.Sys n (BK K) (BK K) s) (hnum:ud K n Lm):∃ z,Ev (fun k=>aX k (n:Int) l) z∧Sol n s z:=by
 have hls:=hs.1
 have hk0:=hnum.1 0 (by omega)
 unfold KS at hk0
 have hkn:K*(n+2)≤1000000:=by omega
 obtain ⟨m,m1,m2⟩:=xI hs hK hsys.len (by omega) (by omega) (by
  have:(K+1)*(n+3)=K*(n+2)+K+(n+3):=by rw [Nat.add_mul,Nat.mul_succ];omega
  omega)
 have mc:(yA n s).length=s.length:=by simp [yA]
 have ml:=m2.1
 obtain ⟨v,v1,v2⟩:=rK m2 (by omega) (by omega) (by omega) (by omega)
 obtain ⟨z,z1,z2⟩:=Solve_l0 (l:=l) (R:=Sol n s) hn (by omega) hnum (fun o ho=>Solve_l1 hn hls hl hLm hsys hnum ho 0 (by omega) (fun t' h=>by omega)) 0 (by omega) [v] ⟨rfl,fun t ht=>by
  obtain rfl:t=0:=by omega
  exact v2⟩
 exact ⟨z,Ev.step (fun k=>tm k _ _) (Ev.bind (yp ha hok hn (by omega)) (bF rfl (Ev.bind m1 (Ev.bind v1 z1.diag)))),z2⟩
end
theorem num1:∀ n,n<4→ud 1 n 10:=by decide +kernel
theorem num4:∀ n,n<3→ud 4 n 10:=by decide +kernel
end Go.Proofs.YtjimdhlmeebjeaaGreat.Q
end
section
namespace Go.Proofs.YtjimdhlmeebjeaaGreat.Q
open Go.RowKit Go.Proofs.YtjimdhlmeebjeaaGreatW.PrintWords Go.Proofs.YtjimdhlmeebjeaaGreatW.PrintMore Go.Proofs.YtjimdhlmeebjeaaGreat.V Go.Proofs.YtjimdhlmeebjeaaGreat.E
open Go.Proofs.YtjimdhlmeebjeaaGreat.P (Dg Nm vl WW RR bS gI evs evk evb fi aL aY bm w64 u64)
set_option linter.unusedVariables false
set_option linter.unusedSectionVars false
section
variable {l:List aQ} {s:List di} {mv:List aw} {m:List Rat} {n:Nat} (hs:RSs RR 80 l s) (hn:∀ y∈s,y.1.length=n) (hm:RLs RR 800 mv m) (hml:mv.length=l.length) (hl:l.length≤40) (hn8:n≤8)
include hs hn hm hml hl hn8
theorem yP {x:Bool} {sums:List aw} {tot:aw} (hx:x=true↔∃ k,k<s.length∧(ln s k).2.1=2∧0<gf m k) (hsum:RF RR 40000 sums n (fun i=>comb (cf s i) (gf m) s.length)) (ht:RB RR tot (comb (kf s) (gf m) s.length)) (hpos:∀ k,k<s.length→(ln s k).2.1>0→0≤gf m k) :
 Ev2 (fun k m0=>ao.l3 k m0 x sums (sums.length:Int) ((0:Nat):Int) tot) (dc (rW n s m)):=by
 have sl:sums.length=n:=hsum.1
 have sg1:∀ i,i<sums.length→Ev (fun k=>cG k (rdT (t:=ah) sums (i:Int):aw)) (sgn (comb (cf s i) (gf m) s.length)):=fun i hi=>iA (hsum.2 i (by omega)).1
 have go:∀ i,i<sums.length→comb (cf s i) (gf m) s.length=0→∀ r,Ev2 (fun k m0=>ao.l3 k m0 x sums (sums.length:Int) ((i+1:Nat):Int) tot) r→Ev2 (fun k m0=>ao.l3 k m0 x sums (sums.length:Int) (i:Int) tot) r:=by
  intro i hi h0 r hr
  refine Ev2.step (fun k m0=>ao.kU k m0 _ _ _ _ _) (Ev2.bT (decide_eq_true (by omega)) (Ev2.iT (by omega) (Ev2.bind (sg1 i hi) (Ev2.bF (by rw [nO,h0];rfl) ?_))))
  rw [gM (by omega)]
  exact hr
 by_cases c:∀ i,i<n→comb (cf s i) (gf m) s.length=0
 ·refine kJ (E:=fun i r=>Ev2 (fun k m0=>ao.l3 k m0 x sums (sums.length:Int) (i:Int) tot) r) go ?_ (fun i hi=>c i (by omega))
  refine Ev2.step (fun k m0=>ao.kU k m0 _ _ _ _ _) (Ev2.bF (decide_eq_false (by omega)) (Ev2.of (Ev.bind (iA ht) ?_)))
  rw [Dt]
  by_cases c1:comb (kf s) (gf m) s.length<0
  ·rw [decide_eq_true c1,dW (show rW n s m from ⟨hpos,c,.inl c1⟩)]
   exact Ev.bind (a:=true) (bT rfl (evs _)) (evs _)
  ·rw [decide_eq_false c1]
   by_cases c2:comb (kf s) (gf m) s.length=0
   ·have:dc (rW n s m)=x:=(yh (p:=rW n s m) (t:=x) (by
     rw [hx]
     exact ⟨fun h=>⟨hpos,c,.inr ⟨c2,h⟩⟩,fun h=>h.2.2.elim (fun h=>absurd h c1) (fun h=>h.2)⟩)).symm
    rw [this]
    exact Ev.bind (a:=x) (bF rfl (Ev.bind (iA ht) (Ev.bind (a:=x) (bT (by rw [w9,decide_eq_true c2]) (evs _)) (evs _)))) (evs _)
   ·rw [dh (show ¬ rW n s m from fun h=>h.2.2.elim c1 (fun h=>c2 h.1))]
    exact Ev.bind (a:=false) (bF rfl (Ev.bind (iA ht) (Ev.bind (a:=false) (bF (by rw [w9,decide_eq_false c2]) (evs _)) (evs _)))) (evs _)
 ·rw [dh (show ¬ rW n s m from fun h=>c h.2.1)]
  obtain ⟨j,hj,hnj⟩:∃ i,i<n∧¬ comb (cf s i) (gf m) s.length=0:=Classical.byContradiction (fun hc=>c (fun i hi=>Classical.byContradiction (fun h2=>hc ⟨i,hi,h2⟩)))
  refine kI (E:=fun i r=>Ev2 (fun k m0=>ao.l3 k m0 x sums (sums.length:Int) (i:Int) tot) r) (fun i hi ht=>?_) go ⟨j,by omega,hnj⟩
  exact Ev2.step (fun k m0=>ao.kU k m0 _ _ _ _ _) (Ev2.bT (decide_eq_true (by omega)) (Ev2.iT (by omega) (Ev2.bind (sg1 i hi) (Ev2.bT (by rw [nO,decide_eq_true ht]) (Ev2.of (evs _))))))
theorem yQ {k:Nat} (hk:k<l.length) (x:Bool) (tot:aw) {sums:List aw} (hsum:RF RR (1+k*881) sums n (fun i=>comb (cf s i) (gf m) k)) (hmk:RB RR (rdT (t:=ah) mv (k:Int):aw) (gf m k)) (hmz:Sz RR 800 (gf m k)) {r:Bool}
 (hr:∀ sums',RF RR (1+(k+1)*881) sums' n (fun i=>comb (cf s i) (gf m) (k+1))→Ev2 (fun q m0=>ao.l1 q m0 mv x l (l.length:Int) ((k+1:Nat):Int) tot sums') r) :
 Ev3 (fun q m1 m0=>ao.l2 q m1 m0 mv x (k:Int) l (l.length:Int) (k:Int) (n:Int) ((0:Nat):Int) tot sums l[k]) r:=by
 have hks:k<s.length:=by rw [← hs.1];exact hk
 obtain ⟨q1,_,_,_⟩:=hs.2 k hk hks
 have hcl:l[k].1.length=n:=by rw [q1.1];exact hn _ (List.getElem_mem hks)
 have key:∀ d j,n-j=d→j≤n→∀ sums,RF RR (1+(k+1)*881) sums n (fun i=>if i<j then comb (cf s i) (gf m) (k+1) else comb (cf s i) (gf m) k)→(∀ i,j≤i→i<n→Sz RR (1+k*881) (comb (cf s i) (gf m) k))→Ev3 (fun q m1 m0=>ao.l2 q m1 m0 mv x (k:Int) l (l.length:Int) (k:Int) (n:Int) (j:Int) tot sums l[k]) r:=by
  intro d
  induction d with
  | zero =>
   intro j hd hj sums hS _
   have:j=n:=by omega
   subst this
   refine Ev3.step (fun q m1 m0=>ao.mu q m1 m0 _ _ _ _ _ _ _ _ _ _ _) (Ev3.bF (decide_eq_false (by omega)) (Ev3.of ?_))
   rw [gM (by omega)]
   exact hr sums (hS.congr (fun i hi=>by rw [if_pos hi]))
  | succ d ih =>
   intro j hd hj sums hS hz
   have hj':j<n:=by omega
   have hSl:=hS.1
   obtain ⟨a1,a2⟩:=q1.at (i:=j) (by omega)
   have e1:s[k].1.getD j 0=cf s j k:=by simp [cf,pc hks]
   rw [e1] at a1 a2
   obtain ⟨p1,p2,p3,p4⟩:=ng hmk a1 hmz a2 (by decide)
   obtain ⟨b1,b2⟩:=hS.2 j hj'
   simp only [if_neg (Nat.lt_irrefl j)] at b1
   obtain ⟨g1,g2,g3,g4⟩:=ni b1 p3 (hz j (Nat.le_refl _) hj') p4 (by omega)
   have e2:comb (cf s j) (gf m) k+gf m k*cf s j k=comb (cf s j) (gf m) (k+1):=rfl
   rw [e2] at g3 g4
   refine Ev3.step (fun q m1 m0=>ao.mu q m1 m0 _ _ _ _ _ _ _ _ _ _ _) (Ev3.bT (decide_eq_true (by omega)) (Ev3.iT (by omega) (Ev3.iT (by omega) (Ev3.iT (by omega) (Ev3.bind p2 (Ev3.bind g2 (Ev3.iT (by omega) ?_)))))))
   rw [gM (by omega)]
   refine ih (j+1) (by omega) (by omega) _ ((hS.set hj' g3 (eA bm g4 (by omega))).congr (fun i hi=>?_)) (fun i h1 h2=>hz i (by omega) h2)
   by_cases c:i=j
   ·rw [if_pos c,if_pos (by omega),c]
   ·rw [if_neg c]
    by_cases c2:i<j
    ·rw [if_pos c2,if_pos (by omega)]
    ·rw [if_neg c2,if_neg (by omega)]
 exact key n 0 (by omega) (by omega) sums ((hsum.mono bm (by omega)).congr (fun i hi=>by rw [if_neg (by omega)])) (fun i _ hi=>(hsum.2 i hi).2)
theorem yR:∀ (d k:Nat),l.length-k=d→k≤l.length→∀ (x:Bool) (tot:aw) (sums:List aw),(x=true↔∃ j,j<k∧(ln s j).2.1=2∧0<gf m j)→RF RR (1+k*881) sums n (fun i=>comb (cf s i) (gf m) k)→RB RR tot (comb (kf s) (gf m) k)→Sz RR (1+k*881) (comb (kf s) (gf m) k)→(∀ j,j<k→(ln s j).2.1>0→0≤gf m j) →
 Ev2 (fun q m0=>ao.l1 q m0 mv x l (l.length:Int) (k:Int) tot sums) (dc (rW n s m)):=by
 have hsl:l.length=s.length:=hs.1
 intro d
 induction d with
 | zero =>
  intro k hd hk x tot sums hx hS hT hTz hpos
  have:k=s.length:=by omega
  subst this
  exact Ev2.step (fun q m0=>ao.bY q m0 _ _ _ _ _ _ _) (Ev2.bF (decide_eq_false (by omega)) (Ev2.ofd (yP hs hn hm hml hl hn8 hx (hS.mono bm (by omega)) hT hpos)))
 | succ d ih =>
  intro k hd hk x tot sums hx hS hT hTz hpos
  have hk':k<l.length:=by omega
  have hks:k<s.length:=by omega
  obtain ⟨q1,q2,q3,q4⟩:=hs.2 k hk' hks
  have e:(rdT (t:=aC) l (k:Int):aQ)=l[k]:=cH hk'
  have hrel:l[k].2.1=(ln s k).2.1:=by rw [pc hks];exact q2
  obtain ⟨m1,m2⟩:RB RR (rdT (t:=ah) mv (k:Int):aw) (gf m k)∧Sz RR 800 (gf m k):=hm.at (i:=k) (by rw [hml];exact hk')
  have hd':l.length-(k+1)=d:=by rw [Nat.sub_succ,hd];rfl
  have hsg:=iA m1
  have hki:0≤(k:Int)∧(k:Int)<(List.length mv:Int):=by omega
  rw [← e] at q3 hrel
  refine Ev2.step (fun q m0=>ao.bY q m0 _ _ _ _ _ _ _) (Ev2.bT (decide_eq_true (by omega)) (Ev2.iT (by omega) ?_))
  have next:(¬ ((ln s k).2.1>0∧gf m k<0))→∀ b9:Bool,(b9=true↔∃ j,j<k+1∧(ln s j).2.1=2∧0<gf m j)→Ev2 (fun q m0=>(if 0≤(k:Int)∧(k:Int)<(List.length mv:Int) then (cN q (rdT (t:=ah) mv (k:Int):aw) (rdT (t:=aC) l (k:Int):aQ).2.2.1).bind fun (v10:aw)=>(cB q tot v10).bind fun (v11:aw)=>ao.l2 q q m0 mv b9 (k:Int) l (l.length:Int) (k:Int) (List.length sums:Int) (0:Int) v11 sums (rdT (t:=aC) l (k:Int):aQ) else none)) (dc (rW n s m)):=by
   intro hok b9 hb9
   have ek:s[k].2.2=kf s k:=by simp [kf,pc hks]
   rw [ek] at q3 q4
   obtain ⟨p1,p2,p3,p4⟩:=ng m1 q3 m2 q4 (by decide)
   obtain ⟨g1,g2,g3,g4⟩:=ni hT p3 hTz p4 (by omega)
   have hsl2:sums.length=n:=hS.1
   refine Ev2.iT hki (Ev2.bind p2 (Ev2.bind g2 (Ev3.diag (g:=fun q m1 m0=>ao.l2 q m1 m0 mv b9 (k:Int) l (l.length:Int) (k:Int) (List.length sums:Int) ((0:Nat):Int) g1 sums (rdT (t:=aC) l (k:Int):aQ)) ?_)))
   rw [hsl2,e]
   refine yQ hs hn hm hml hl hn8 hk' b9 g1 hS m1 m2 (fun sums' hS'=>?_)
   exact ih (k+1) hd' hk' b9 g1 sums' hb9 hS' g3 (eA bm g4 (by omega)) (fun j hj hg=>by
    by_cases c:j=k
    ·rw [c] at hg ⊢
     exact Rat.not_lt.1 (fun h=>hok ⟨hg,h⟩)
    ·exact hpos j (by omega) hg)
  have strict:∀ t:Bool,(t=true↔((ln s k).2.1=2∧0<gf m k))→((x||t)=true↔∃ j,j<k+1∧(ln s j).2.1=2∧0<gf m j):=by
   intro t ht
   rw [Bool.or_eq_true,hx,ht]
   constructor
   ·rintro (⟨j,h1,h2⟩ | h)
    ·exact ⟨j,by omega,h2⟩
    ·exact ⟨k,by omega,h⟩
   ·rintro ⟨j,h1,h2⟩
    by_cases c:j=k
    ·rw [c] at h2;exact .inr h2
    ·exact .inl ⟨j,by omega,h2⟩
  have rest:(¬ ((ln s k).2.1>0∧gf m k<0))→Ev2 (fun q m0=>(bif x then some true else (bif (rdT (t:=aC) l (k:Int):aQ).2.1==(2:Int) then if 0≤(k:Int)∧(k:Int)<(List.length mv:Int) then (cG q (rdT (t:=ah) mv (k:Int):aw)).bind fun (v7:Int)=>some (decide (v7>(0:Int))) else none else some false).bind fun (b8:Bool)=>some b8).bind fun (b9:Bool)=>(if 0≤(k:Int)∧(k:Int)<(List.length mv:Int) then (cN q (rdT (t:=ah) mv (k:Int):aw) (rdT (t:=aC) l (k:Int):aQ).2.2.1).bind fun (v10:aw)=>(cB q tot v10).bind fun (v11:aw)=>ao.l2 q q m0 mv b9 (k:Int) l (l.length:Int) (k:Int) (List.length sums:Int) (0:Int) v11 sums (rdT (t:=aC) l (k:Int):aQ) else none)) (dc (rW n s m)):=by
   intro hok
   cases x with
   | true=>exact Ev2.bind (a:=true) (bT rfl (evs _)) (next hok true (strict (dc ((ln s k).2.1=2∧0<gf m k)) dc_iff))
   | false =>
    by_cases c2:(ln s k).2.1=2
    ·refine Ev2.bind (a:=decide (0<gf m k)) (bF rfl (Ev.bind (a:=decide (0<gf m k)) (bT (by rw [hrel,c2];rfl) (iT hki (Ev.bind hsg ?_))) (evs _))) (next hok _ ?_)
     ·rw [sgd_gt];exact evs _
     ·have:=strict (decide (0<gf m k)) (by rw [decide_eq_true_eq];exact ⟨fun h=>⟨c2,h⟩,fun h=>h.2⟩)
      rwa [Bool.false_or] at this
    ·refine Ev2.bind (a:=false) (bF rfl (Ev.bind (a:=false) (bF (by rw [hrel];simpa using c2) (evs _)) (evs _))) (next hok _ ?_)
     have:=strict false (by simp [c2])
     rwa [Bool.false_or] at this
  by_cases c1:(ln s k).2.1>0
  ·by_cases c2:gf m k<0
   ·rw [dh (show ¬ rW n s m from fun h=>Rat.not_lt.2 (h.1 k hks c1) c2)]
    refine Ev2.bind (a:=true) (bT (by rw [hrel];exact decide_eq_true c1) (iT hki (Ev.bind hsg ?_))) (Ev2.bT rfl (Ev2.of (evs _)))
    rw [Dt,decide_eq_true c2];exact evs _
   ·refine Ev2.bind (a:=false) (bT (by rw [hrel];exact decide_eq_true c1) (iT hki (Ev.bind hsg ?_))) (Ev2.bF rfl (rest (fun h=>c2 h.2)))
    rw [Dt,decide_eq_false c2];exact evs _
  ·exact Ev2.bind (a:=false) (bF (by rw [hrel];exact decide_eq_false c1) (evs _)) (Ev2.bF rfl (rest (fun h=>c1 h.1)))
end
end Go.Proofs.YtjimdhlmeebjeaaGreat.Q
end
section
namespace Go.Proofs.YtjimdhlmeebjeaaGreat.Q
open Go.RowKit Go.Proofs.YtjimdhlmeebjeaaGreatW.PrintWords Go.Proofs.YtjimdhlmeebjeaaGreatW.PrintMore Go.Proofs.YtjimdhlmeebjeaaGreat.V Go.Proofs.YtjimdhlmeebjeaaGreat.E
open Go.Proofs.YtjimdhlmeebjeaaGreat.P (Dg Nm vl WW RR bS gI evs evk evb fi aL aY bm w64 u64)
set_option linter.unusedVariables false
theorem tT {N:Nat} {l:List aQ} {s:List di} {mv:List aw} {m:List Rat} (hs:RSs RR 80 l s) (hn:∀ y∈s,y.1.length=N) (hm:RLs RR 800 mv m) (hml:mv.length=l.length) (l40:l.length≤40) (hN8:N≤8):Ev (fun k=>ao k (N:Int) l mv) (dc (rW N s m)):=by
 refine Ev.step (fun k=>kb k _ l mv) (Ev.bind iz ?_)
 rw [Int.toNat_natCast]
 refine iT ⟨by omega,by omega,by omega,by simp only [maxLen];omega⟩ ?_
 refine Ev2.diag (g:=fun k m0=>ao.l0 k m0 l mv false _ ((0:Nat):Int) _ _) ?_
 have hlen:(List.replicate N ((false,[],[],()):aw)).length=N:=List.length_replicate
 have key:∀ d i,N-i=d→i≤N→∀ sums:List aw,sums.length=N→(∀ j,j<i→RB RR (rdT (t:=ah) sums (j:Int):aw) 0)→Ev2 (fun k m0=>ao.l0 k m0 l mv false (List.length (List.replicate N ((false,[],[],()):aw)):Int) (i:Int) (false,[],[1],()) sums) (dc (rW N s m)):=by
  intro d
  induction d with
  | zero =>
   intro i hd hi sums hsl hz
   have:i=N:=by omega
   subst this
   refine Ev2.step (fun k m0=>ao.aR k m0 _ _ _ _ _ _ _) (Ev2.bF (decide_eq_false (by omega)) (Ev2.ofd (g:=fun k m0=>ao.l1 k m0 mv false l (l.length:Int) ((0:Nat):Int) (false,[],[1],()) sums) ?_))
   refine yR hs hn hm hml l40 hN8 l.length 0 (by omega) (by omega) false _ sums (by simp) ⟨hsl,fun i hi=>?_⟩ (fm eh) (eA bm (jA eh) (by omega)) (fun j hj=>by omega)
   exact ⟨hz i hi,eA bm (jA eh) (by omega)⟩
  | succ d ih =>
   intro i hd hi sums hsl hz
   have hi':i<N:=by omega
   refine Ev2.step (fun k m0=>ao.aR k m0 _ _ _ _ _ _ _) (Ev2.bT (decide_eq_true (by omega)) (Ev2.bind iz (Ev2.iT (by omega) ?_)))
   rw [gM (by omega)]
   refine ih (i+1) (by omega) (by omega) _ (by simpa using hsl) (fun j hj=>?_)
   rw [Int.toNat_natCast,Ay (by omega)]
   by_cases c:j=i
   ·rw [if_pos c];exact fm eh
   ·rw [if_neg c];exact hz j (by omega)
 exact key N 0 (by omega) (by omega) _ hlen (fun j hj=>by omega)
end Go.Proofs.YtjimdhlmeebjeaaGreat.Q
end
section
namespace Go.Proofs.YtjimdhlmeebjeaaGreat.Q
open Go.RowKit Go.Proofs.YtjimdhlmeebjeaaGreatW.PrintWords Go.Proofs.YtjimdhlmeebjeaaGreatW.PrintMore Go.Proofs.YtjimdhlmeebjeaaGreat.V Go.Proofs.YtjimdhlmeebjeaaGreat.E
open Go.Proofs.YtjimdhlmeebjeaaGreat.P (Dg Nm vl WW RR bS gI evs evk evb fi aL aY bm w64 u64)
open Go.Proofs.YtjimdhlmeebjeaaGreat.F (rlf)
set_option linter.unusedVariables false
def C5 (n:Nat) (s:List di):Prop:=∃ x:Nat→Rat,∀ k,k<s.length→eD (F.lin (ln s k).1 x n) (rlf s k) (kf s k)
theorem E4 {f m:Nat→Rat}:∀ L,(∀ k,k<L→m k*f k≤0)→comb f m L≤0∧((∃ k,k<L∧m k*f k<0)→comb f m L<0)
 | 0,_=>⟨Rat.le_refl,fun ⟨k,h,_⟩=>by omega⟩
 | L+1,h=>by
  obtain ⟨h1,h2⟩:=E4 (f:=f) (m:=m) L (fun k hk=>h k (by omega))
  have h3:=h L (by omega)
  simp only [comb]
  refine ⟨by grind,fun ⟨k,hk,hs⟩=>?_⟩
  by_cases e:k=L
  ·subst e;grind
  ·have:=h2 ⟨k,by omega,hs⟩
   grind
theorem Bv (f g m:Nat→Rat):∀ L,comb (fun k=>f k-g k) m L=comb f m L-comb g m L
 | 0=>by simp only [comb];grind
 | L+1=>by
  have:=Bv f g m L
  simp only [comb,this];grind
theorem yk {s:List di} {m:Nat→Rat} {x:Nat→Rat} {L:Nat}:∀ n,(∀ i,i<n→comb (cf s i) m L=0)→comb (fun k=>F.lin (ln s k).1 x n) m L=0
 | 0,_=>by
  have:∀ L,comb (fun k=>F.lin (ln s k).1 x 0) m L=0:=fun L=>by
   induction L with
   | zero=>rfl
   | succ L ih =>
    show comb (fun k=>F.lin (ln s k).1 x 0) m L+m L*0=0
    rw [ih];grind
  exact this L
 | n+1,h=>by
  have ih:=yk (m:=m) (x:=x) (L:=L) n (fun i hi=>h i (by omega))
  have h2:=h n (by omega)
  have key:∀ L,comb (fun k=>F.lin (ln s k).1 x (n+1)) m L=comb (fun k=>F.lin (ln s k).1 x n) m L+x n*comb (cf s n) m L:=fun L=>by
   induction L with
   | zero=>simp only [comb];grind
   | succ L ih =>
    show comb (fun k=>F.lin (ln s k).1 x (n+1)) m L+m L*(F.lin (ln s L).1 x n+(ln s L).1.getD n 0*x n)=(comb (fun k=>F.lin (ln s k).1 x n) m L+m L*F.lin (ln s L).1 x n)+x n*(comb (cf s n) m L+m L*(ln s L).1.getD n 0)
    rw [ih];grind
  rw [key,ih,h2];grind
theorem oP {n:Nat} {s:List di} {m:List Rat} (hr:∀ k,k<s.length→rlf s k=0∨rlf s k=1∨rlf s k=2) (h:rW n s m):¬ C5 n s:=by
 rintro ⟨x,hx⟩
 obtain ⟨h1,h2,h3⟩:=h
 have e0:=yk (x:=x) n h2
 have e1:=Bv (fun k=>F.lin (ln s k).1 x n) (kf s) (gf m) s.length
 rw [e0] at e1
 have term:∀ k,k<s.length→gf m k*(F.lin (ln s k).1 x n-kf s k)≤0∧(rlf s k=2→0<gf m k→gf m k*(F.lin (ln s k).1 x n-kf s k)<0):=fun k hk=>by
  have hs:=hx k hk
  unfold eD at hs
  rcases hr k hk with r | r | r
  ·have e:F.lin (ln s k).1 x n=kf s k:=by rw [r] at hs;simpa using hs
   refine ⟨?_,fun h=>by rw [r] at h;exact absurd h (by decide)⟩
   rw [e];grind
  ·have hm:=h1 k hk (show rlf s k>0 by omega)
   have e:F.lin (ln s k).1 x n≤kf s k:=by rw [r] at hs;simp at hs;grind
   refine ⟨?_,fun h=>by rw [r] at h;exact absurd h (by decide)⟩
   have:=Rat.mul_nonneg hm (show (0:Rat)≤kf s k-F.lin (ln s k).1 x n by grind)
   grind
  ·have hm:=h1 k hk (show rlf s k>0 by omega)
   have e:F.lin (ln s k).1 x n<kf s k:=by rw [r] at hs;simp at hs;exact hs
   refine ⟨?_,fun _ hp=>?_⟩
   ·have:=Rat.mul_nonneg hm (show (0:Rat)≤kf s k-F.lin (ln s k).1 x n by grind)
    grind
   ·have:=Rat.mul_pos hp (show (0:Rat)<kf s k-F.lin (ln s k).1 x n by grind)
    grind
 obtain ⟨c1,c2⟩:=E4 (f:=fun k=>F.lin (ln s k).1 x n-kf s k) (m:=gf m) s.length (fun k hk=>(term k hk).1)
 rw [e1] at c1 c2
 rcases h3 with h3 | ⟨h3,k,k1,k2,k3⟩
 ·have:comb (kf s) (gf m) s.length<0:=h3
  grind
 ·have:=c2 ⟨k,k1,(term k k1).2 k2 k3⟩
  have h3':comb (kf s) (gf m) s.length=0:=h3
  grind
def yw (N:Nat) (x:aQ):Prop:=(x.2.2.1.2.1.length≤N∧x.2.2.1.2.2.1.length≤N)∧∀ c∈x.1,c.2.1.length≤N∧c.2.2.1.length≤N
theorem C1 (N:Nat) {l:List aQ} (ha:yB l):∃ t,Ev (fun k=>aE k l (N:Int)) t∧(t=true→∀ x∈l,yw N x):=by
 have main:∀ i,i≤l.length→(∀ j,j<i→∀ h:j<l.length,yw N l[j])→∃ r,Ev2 (fun k m=>aE.l0 k m (N:Int) l (l.length:Int) (i:Int)) r∧(r=true→∀ x∈l,yw N x):=by
  refine dn ?_ (fun i hi ih=>?_)
  ·intro hall
   exact ⟨true,Ev2.step (fun k m=>aE.aR k m _ _ _ _) (Ev2.bF (decide_eq_false (by omega)) (Ev2.of (evs _))),fun _=>jS.2 hall⟩
  ·intro hall
   have e:(rdT (t:=au) l (i:Int):aQ)=l[i]:=cH hi
   have hal:=(ha.2 _ (List.getElem_mem hi)).1
   have hsh:=gC l[i].2.2.1 N
   by_cases c:(l[i].1.length:Int)>12
   ·exact ⟨false,Ev2.step (fun k m=>aE.aR k m _ _ _ _) (Ev2.bT (decide_eq_true (by omega)) (Ev2.iT (by omega) (Ev2.bind (a:=true) (bT (by rw [e];exact decide_eq_true c) (evs _)) (Ev2.bT rfl (Ev2.of (evs _)))))),fun h=>by simp at h⟩
   ·by_cases hs:l[i].2.2.1.2.1.length≤N∧l[i].2.2.1.2.2.1.length≤N
    ·rw [decide_eq_true hs] at hsh
     have inner:∀ j,j≤l[i].1.length→(∀ j',j'<j→∀ h:j'<l[i].1.length,l[i].1[j'].2.1.length≤N∧l[i].1[j'].2.2.1.length≤N)→∃ r,Ev3 (fun k m1 m0=>aE.l1 k m1 m0 (N:Int) l (l.length:Int) (i:Int) l[i].1 (l[i].1.length:Int) (j:Int)) r∧(r=true→∀ x∈l,yw N x):=by
      refine dn ?_ (fun j hj ih2=>?_)
      ·intro hc
       obtain ⟨r,r1,r2⟩:=ih (fun j' hj' h'=>by
        by_cases e':j'=i
        ·subst e';exact ⟨hs,jS.2 hc⟩
        ·exact hall j' (by omega) h')
       refine ⟨r,Ev3.step (fun k m1 m0=>aE.bY k m1 m0 _ _ _ _ _ _ _) (Ev3.bF (decide_eq_false (by omega)) (Ev3.of ?_)),r2⟩
       rw [gM (Nat.lt_of_lt_of_le hi ha.1)];exact r1
      ·intro hc
       have ej:(rdT (t:=ah) l[i].1 (j:Int):aw)=l[i].1[j]:=cH hj
       have hsj:=gC l[i].1[j] N
       by_cases hq:l[i].1[j].2.1.length≤N∧l[i].1[j].2.2.1.length≤N
       ·rw [decide_eq_true hq] at hsj
        obtain ⟨r,r1,r2⟩:=ih2 (fun j' hj' h'=>by
         by_cases e':j'=j
         ·subst e';exact hq
         ·exact hc j' (by omega) h')
        refine ⟨r,Ev3.step (fun k m1 m0=>aE.bY k m1 m0 _ _ _ _ _ _ _) (Ev3.bT (decide_eq_true (by omega)) (Ev3.iT (by omega) (Ev3.bind (by rw [ej];exact hsj) (Ev3.bF rfl ?_)))),r2⟩
        rw [gM (Nat.lt_of_lt_of_le hj hal.1)];exact r1
       ·rw [decide_eq_false hq] at hsj
        exact ⟨false,Ev3.step (fun k m1 m0=>aE.bY k m1 m0 _ _ _ _ _ _ _) (Ev3.bT (decide_eq_true (by omega)) (Ev3.iT (by omega) (Ev3.bind (by rw [ej];exact hsj) (Ev3.bT rfl (Ev3.of (Ev2.of (evs _))))))),fun h=>by simp at h⟩
     obtain ⟨r,r1,r2⟩:=inner 0 (by omega) (fun j' h'=>by omega)
     refine ⟨r,Ev2.step (fun k m=>aE.aR k m _ _ _ _) (Ev2.bT (decide_eq_true (by omega)) (Ev2.iT (by omega) (Ev2.bind (a:=false) (bF (by rw [e];exact decide_eq_false c) (Ev.bind (a:=true) (by rw [e];exact hsh) (evs _))) (Ev2.bF rfl ?_)))),r2⟩
     rw [e];exact r1.diag
    ·rw [decide_eq_false hs] at hsh
     exact ⟨false,Ev2.step (fun k m=>aE.aR k m _ _ _ _) (Ev2.bT (decide_eq_true (by omega)) (Ev2.iT (by omega) (Ev2.bind (a:=true) (bF (by rw [e];exact decide_eq_false c) (Ev.bind (a:=false) (by rw [e];exact hsh) (evs _))) (Ev2.bT rfl (Ev2.of (evs _)))))),fun h=>by simp at h⟩
 obtain ⟨r,r1,r2⟩:=main 0 (by omega) (fun j h=>by omega)
 exact ⟨r,Ev.step (fun k=>kd k _ _) r1.diag,r2⟩
theorem Aa {N:Nat} {v:aw} (h:VN 20 v) (h1:v.2.1.length≤N∧v.2.2.1.length≤N):RB WW v (valq v)∧Sz WW N (valq v):=by
 obtain ⟨a,_⟩:=qy h
 exact ⟨a,vn aL a h1.1 h1.2⟩
theorem vA {n:Int} {N:Nat} {l:List aQ} (h:OkS n l) (hN:∀ x∈l,yw N x):RSs WW N l (ju l):=by
 refine ⟨by simp [ju],fun i h1 h2=>?_⟩
 have ho:=h.2 _ (List.getElem_mem h1)
 have hn:=hN _ (List.getElem_mem h1)
 simp only [ju,List.getElem_map]
 refine ⟨⟨by simp [qX,qY],fun j g1 g2=>?_⟩,rfl,Aa ho.1.2.2.2 hn.1⟩
 simp only [qX,qY,List.getElem_map]
 exact Aa (ho.2 _ (List.getElem_mem g1)) (hn.2 _ (List.getElem_mem g1))
theorem AX {l:List aQ} {k:Nat} (hk:k<l.length):ln (ju l) k=qX l[k]:=by
 rw [pc (by simp [ju];exact hk)];simp [ju]
theorem uj {N n:Nat} {l:List aQ} (h:OkS (n:Int) l) (hN:∀ x∈l,yw N x):F.Sys n (BK N) (BK N) (ju l):=by
 have hlen:(ju l).length=l.length:=by simp [ju]
 refine ⟨Nat.pow_pos (by decide),Nat.pow_pos (by decide),fun k hk=>?_,fun k hk=>?_,fun k hk x hx=>?_⟩
 ·rw [hlen] at hk
  have:=(h.2 _ (List.getElem_mem hk)).1.1
  rw [AX hk]
  simp only [qX,pJ];omega
 ·rw [hlen] at hk
  have:=(h.2 _ (List.getElem_mem hk)).1.2
  unfold rlf
  rw [AX hk]
  simp only [qX];omega
 ·rw [hlen] at hk
  have ho:=h.2 _ (List.getElem_mem hk)
  have hn:=hN _ (List.getElem_mem hk)
  rw [AX hk] at hx
  rcases List.mem_append.1 hx with hx | hx
  ·simp only [qX,qY] at hx
   obtain ⟨c,hc,rfl⟩:=List.mem_map.1 hx
   exact AR (Aa (ho.2 _ hc) (hn.2 _ hc)).2
  ·rw [List.mem_singleton] at hx
   rw [hx]
   exact AR (Aa ho.1.2.2.2 hn.1).2
theorem tK {B:Int} {K:Nat} {l:List aw} {q:List Rat} (h:RLs WW K l q) (hK:K≤4096) (hl:l.length≤1000000):Args l:=by
 refine ⟨by omega,fun x hx=>?_⟩
 obtain ⟨i,hi,rfl⟩:=List.getElem_of_mem hx
 obtain ⟨a,b⟩:=h.2 i hi (by rw [← h.1];exact hi)
 exact tL a b (by omega)
theorem yE {K:Nat} {l:List aw} {q:List Rat} (h:RLs WW K l q):∀ x∈l,VN K x:=fun x hx=>by
 obtain ⟨i,hi,rfl⟩:=List.getElem_of_mem hx
 exact ⟨_,h.2 i hi (by rw [← h.1];exact hi)⟩
theorem Ae {K:Nat} {l:List aw} {q:List Rat} (h:RLs WW K l q):qY l=q:=by
 refine List.ext_getElem (by rw [pJ,h.1]) (fun i h1 h2=>?_)
 have hi:i<l.length:=by rw [pJ] at h1;exact h1
 simp only [qY,List.getElem_map]
 exact yV (h.2 i hi h2).1
theorem tw {n:Nat} {s:List di} {q:List Rat} (hlen:∀ k,k<s.length→(ln s k).1.length=n):qU s q↔∀ k,k<s.length→eD (qN (ln s k).1 q n) (rlf s k) (kf s k):=by
 constructor
 ·intro h k hk
  have:=h _ (List.getElem_mem hk)
  have e:=pc hk
  unfold Br at this
  have hl:=hlen k hk
  unfold rlf kf
  rw [e] at hl ⊢
  rwa [hl] at this
 ·intro h y hy
  obtain ⟨k,hk,rfl⟩:=List.getElem_of_mem hy
  have:=h k hk
  have e:=pc hk
  have hl:=hlen k hk
  unfold rlf kf at this
  rw [e] at hl this
  unfold Br
  rwa [hl]
theorem qC {n:Nat} {s:List di} {q:List Rat} (h:∀ k,k<s.length→eD (qN (ln s k).1 q n) (rlf s k) (kf s k)):C5 n s:=⟨fun k=>q.getD k 0,fun k hk=>by rw [zF (q:=q) n (fun i _=>rfl)];exact h k hk⟩
open Classical in
theorem yg {K n Lm:Nat} {l:List aQ} (ha:yB l) (hok:OkS (n:Int) l) (hN:∀ x∈l,yw K x) (hK:1≤K) (hn:n≤3) (hl:l.length≤Lm) (hLm:Lm≤10) (hnum:ud K n Lm) :
 Ev (fun k=>cq k (n:Int) l) (if C5 n (ju l) then 1 else 0):=by
 have hsys:=uj hok hN
 have hlen:(ju l).length=l.length:=by simp [ju]
 obtain ⟨z,z1,z2⟩:=wF ha hok (vA hok hN) hK hn (by rw [hlen];exact hl) hLm hsys hnum
 obtain ⟨so,so1,so2⟩:=Of_sp hok
 have sol:so.length=l.length:=by rw [so2.1,hlen]
 have hsn:∀ y∈ju l,y.1.length=n∧0≤y.2.1∧y.2.1≤2:=fun y hy=>by
  obtain ⟨k,hk,rfl⟩:=List.getElem_of_mem hy
  have h1:=hsys.len k hk
  have h2:=hsys.rel k hk
  unfold rlf at h2
  rw [pc hk] at h1 h2
  exact ⟨h1,by omega,by omega⟩
 rcases z2 with ⟨pt,pq,rfl,p1,p2,p3⟩ | ⟨m,mq,rfl,m1,m2,m3⟩
 ·have hsat:=qC p3
  rw [if_pos hsat]
  have pl:pt.length=n:=by rw [p1.1,p2]
  have hL:=n8 (n:Int) (tK (B:=WW) p1 (by decide) (by omega))
  rw [dW ⟨yE p1,by omega⟩] at hL
  obtain ⟨r,r1,r2⟩:=wG (l:=pt) (by omega) (yE p1) (by decide)
  rw [Ae p1] at r2
  have hH:=qE (n:=n) so2 r2 (by omega) (by omega) (by rw [r2.1];exact p2) hsn
  rw [dW ((tw hsys.len).2 p3)] at hH
  exact Ev.step (fun k=>gL k _ _) (Ev.bind z1 (bF rfl (Ev.bind so1 (Ev.bind hL (Ev.bind (a:=true) (bT rfl (Ev.bind r1 (Ev.bind hH (evs _)))) (bT rfl (bF rfl (evs _))))))))
 ·have hun:=oP hsys.rel m3
  rw [if_neg hun]
  have ml:m.length=l.length:=by rw [m1.1,m2,hlen]
  have hL:=n8 (n:Int) (l:=[]) ⟨by simp,fun x h=>by simp at h⟩
  have hL2:=n8 (l.length:Int) (tK (B:=WW) m1 (by decide) (by omega))
  rw [dW ⟨yE m1,by omega⟩] at hL2
  obtain ⟨r,r1,r2⟩:=wG (l:=m) (by omega) (yE m1) (by decide)
  rw [Ae m1] at r2
  have hR:=tT (N:=n) so2 (fun y hy=>(hsn y hy).1) r2 (by rw [r2.1,m2,sol,hlen]) (by omega) (by omega)
  rw [dW m3] at hR
  have hfirst:Ev (fun k=>bif dc ((∀ x∈([]:List aw),VN 200 x)∧((([]:List aw).length:Nat):Int)=(n:Int)) then (bk k []).bind fun (v4:List aw)=>(bo k so v4).bind fun (v5:Bool)=>some v5 else some false) false:=by
   by_cases c:(∀ x∈([]:List aw),VN 200 x)∧((([]:List aw).length:Nat):Int)=(n:Int)
   ·rw [dW c]
    have n0:n=0:=by have:=c.2;simp at this;omega
    obtain ⟨r',r1',r2'⟩:=wG (l:=[]) (N:=200) (by simp) c.1 (by decide)
    have hH:=qE (n:=n) so2 r2' (by omega) (by omega) (by rw [r2'.1,n0];rfl) hsn
    rw [dh (fun h=>hun (qC ((tw hsys.len).1 h)))] at hH
    exact bT rfl (Ev.bind r1' (Ev.bind hH (evs _)))
   ·rw [dh c];exact bF rfl (evs _)
  have e2:((List.length m:Nat):Int)=((List.length l:Nat):Int):=by omega
  exact Ev.step (fun k=>gL k _ _) (Ev.bind z1 (bF rfl (Ev.bind so1 (Ev.bind hL (Ev.bind hfirst (bF rfl (Ev.bind (a:=false) (bF rfl (Ev.bind hL2 (evs _))) (Ev.bind (a:=false) (bF rfl (Ev.bind r1 (Ev.bind hR (evs _)))) (bF rfl (evs _))))))))))
end Go.Proofs.YtjimdhlmeebjeaaGreat.Q
end
section
namespace Go.Proofs.YtjimdhlmeebjeaaGreat.E
open Go.RowKit Go.Proofs.YtjimdhlmeebjeaaGreat.V
theorem vrel_lit {w:World} {F:Fo} {a b} {v u:Value} (h:gA w F a b v (.cv (.lit u))):v=u:=by
 cases h with
 | cv h=>cases h;rfl
end Go.Proofs.YtjimdhlmeebjeaaGreat.E
end
section
namespace Go.Proofs.YtjimdhlmeebjeaaGreat.Q
open Go.RowKit Go.Proofs.YtjimdhlmeebjeaaGreatW.PrintWords Go.Proofs.YtjimdhlmeebjeaaGreatW.PrintMore Go.Proofs.YtjimdhlmeebjeaaGreat.V Go.Proofs.YtjimdhlmeebjeaaGreat.E
open Go.Proofs.YtjimdhlmeebjeaaGreat.P (Dg Nm vl WW RR bS gI evs evk evb fi aL aY bm w64 u64)
open Go.Proofs.YtjimdhlmeebjeaaGreat.F (rlf)
set_option linter.unusedVariables false
theorem nh {z:Int} (h0:-1000000000000<z) (h1:z<1000000000000):∃ r,Ev (fun k=>dY k z) r∧RB RR r (z:Rat)∧Sz RR 4 (z:Rat):=by
 have hsz:Sz RR 4 (z:Rat):=by
  constructor
  ·rw [Rat.num_intCast];have:(RR:Int) ^ 4=10000000000000000:=by decide
   omega
  ·rw [Rat.den_intCast];decide
 by_cases c:z<0
 ·obtain ⟨x,x1,x2⟩:=s_Int (a:=-z) (by omega) (by omega)
  refine ⟨_,Ev.step (fun k=>iY k z) (bT (decide_eq_true c) (Ev.bind (by rw [w64 (x:=-z) (by omega) (by omega)];exact x1) (evs _))),⟨?_,?_,zT eh⟩,hsz⟩
  ·rw [Rat.num_intCast];exact (decide_eq_true c).symm
  ·rw [Rat.num_intCast,show ((z.natAbs:Nat):Int) = -z by omega];exact x2
 ·obtain ⟨x,x1,x2⟩:=s_Int (a:=z) (by omega) (by omega)
  refine ⟨_,Ev.step (fun k=>iY k z) (bF (decide_eq_false c) (Ev.bind x1 (evs _))),⟨?_,?_,zT eh⟩,hsz⟩
  ·rw [Rat.num_intCast];exact (decide_eq_false c).symm
  ·rw [Rat.num_intCast,show ((z.natAbs:Nat):Int)=z by omega];exact x2
theorem wN {z:Int} {K:Nat} (h:z.natAbs<4294967296 ^ K) (hK:1≤K):Sz WW K (z:Rat):=by
 have e:WW ^ K=((4294967296 ^ K:Nat):Int):=by rw [P.dx,Int.natCast_pow];rfl
 have:=Nat.one_lt_pow (n:=K) (by omega) (show 1<4294967296 by decide)
 refine ⟨?_,?_⟩
 ·rw [e,Rat.num_intCast];omega
 ·rw [e,Rat.den_intCast];omega
theorem AP {z:Int} (h0:-1000000000000<z) (h1:z<1000000000000):∃ r,Ev (fun k=>dO k z) r∧RB WW r (z:Rat):=by
 obtain ⟨a,a1,a2,a3⟩:=nh h0 h1
 obtain ⟨b,b1,b2⟩:=oR a2 a3 (by decide)
 exact ⟨b,Ev.step (fun k=>mO k z) (Ev.bind a1 (Ev.bind b1 (evs _))),b2⟩
def LnOK (K n:Nat) (x:aQ) (y:di):Prop:=RLn WW K x y∧y.1.length=n∧0≤y.2.1∧y.2.1≤2
theorem vT {K n:Nat} {x:aQ} {y:di} (h:LnOK K n x y) (hK:K≤20) (hn:n≤8):ArgL x∧OkL (n:Int) x∧yw K x∧qX x=y:=by
 obtain ⟨⟨h1,h2,h3,h4⟩,h5,h6,h7⟩:=h
 have hl:x.1.length=n:=by rw [h1.1,h5]
 refine ⟨⟨tK (B:=WW) h1 (by omega) (by omega),tL h3 h4 (by omega)⟩,⟨⟨by omega,by omega,by omega,_,h3,eA aL h4 hK⟩,yE (h1.mono aL hK)⟩,⟨fe aY h3 h4,fun c hc=>?_⟩,?_⟩
 ·obtain ⟨i,hi,rfl⟩:=List.getElem_of_mem hc
  obtain ⟨a,b⟩:=h1.2 i hi (by rw [← h1.1];exact hi)
  exact fe aY a b
 ·obtain ⟨a,b,c⟩:=y
  simp only [qX,Ae h1,yV h3]
  simp only at h2
  rw [h2]
theorem wO {K n:Nat} {l:List aQ} {s:List di} (hl:l.length=s.length) (h:∀ i,∀ h1:i<l.length,∀ h2:i<s.length,LnOK K n l[i] s[i]) (hK:K≤20) (hn:n≤8) (h40:l.length≤40):yB l∧OkS (n:Int) l∧(∀ x∈l,yw K x)∧ju l=s:=by
 have each:∀ x∈l,ArgL x∧OkL (n:Int) x∧yw K x:=fun x hx=>by
  obtain ⟨i,hi,rfl⟩:=List.getElem_of_mem hx
  obtain ⟨a,b,c,_⟩:=vT (h i hi (by rw [← hl];exact hi)) hK hn
  exact ⟨a,b,c⟩
 refine ⟨⟨by omega,fun x hx=>(each x hx).1⟩,⟨⟨by omega,by omega,h40⟩,fun x hx=>(each x hx).2.1⟩,fun x hx=>(each x hx).2.2,?_⟩
 refine List.ext_getElem (by simp [ju,hl]) (fun i h1 h2=>?_)
 simp only [ju,List.getElem_map]
 exact (vT (h i (by simpa [ju] using h1) h2) hK hn).2.2.2
theorem ln_one {K:Nat} {v w:aw} {p q:Rat} {rel:Int} (hv:RB WW v p) (hp:Sz WW K p) (hw:RB WW w q) (hq:Sz WW K q) (hr:0≤rel∧rel≤2):LnOK K 1 ([v],rel,w,()) ([p],rel,q):=by
 refine ⟨⟨⟨rfl,fun i h1 h2=>?_⟩,rfl,hw,hq⟩,rfl,hr.1,hr.2⟩
 have:i=0:=by simp at h1;omega
 subst this
 exact ⟨hv,hp⟩
theorem Ff:Ev (fun k=>gh k) true:=by
 obtain ⟨a,a1,a2⟩:=AP (z:=-1) (by decide) (by decide)
 obtain ⟨b,b1,b2⟩:=AP (z:=1) (by decide) (by decide)
 obtain ⟨c,c1,c2⟩:=AP (z:=0) (by decide) (by decide)
 have za:Sz WW 1 ((-1:Int):Rat):=wN (by decide) (by decide)
 have zb:Sz WW 1 ((1:Int):Rat):=wN (by decide) (by decide)
 have zc:Sz WW 1 ((0:Int):Rat):=wN (by decide) (by decide)
 have low:=ln_one a2 za a2 za (rel:=1) (by decide)
 have high:=ln_one b2 zb c2 zc (rel:=1) (by decide)
 obtain ⟨x1,x2,x3,x4⟩:=wO (K:=1) (n:=1) (l:=[([a],1,a,()),([b],1,c,())]) (s:=[([((-1:Int):Rat)],1,((-1:Int):Rat)),([((1:Int):Rat)],1,((0:Int):Rat))]) rfl (fun i h1 h2=>by
  match i,h1,h2 with
  | 0,_,_=>exact low
  | 1,_,_=>exact high
  | i+2,h,_=>simp at h;omega) (by decide) (by decide) (by simp)
 obtain ⟨y1,y2,y3,y4⟩:=wO (K:=1) (n:=1) (l:=[([a],1,a,())]) (s:=[([((-1:Int):Rat)],1,((-1:Int):Rat))]) rfl (fun i h1 h2=>by
  match i,h1,h2 with
  | 0,_,_=>exact low
  | i+1,h,_=>simp at h) (by decide) (by decide) (by simp)
 have e1:((-1:Int):Rat) = -1:=rfl
 have e2:((1:Int):Rat)=1:=rfl
 have e3:((0:Int):Rat)=0:=rfl
 obtain ⟨z,z1,z2⟩:=wF (K:=1) (n:=1) (Lm:=10) x1 x2 (vA x2 x3) (by decide) (by decide) (by rw [x4];decide) (by decide) (uj x2 x3) (num1 1 (by decide))
 obtain ⟨w,w1,w2⟩:=wF (K:=1) (n:=1) (Lm:=10) y1 y2 (vA y2 y3) (by decide) (by decide) (by rw [y4];decide) (by decide) (uj y2 y3) (num1 1 (by decide))
 have hz:∃ m,z=([],m,0,())∧m.length=2:=by
  rcases z2 with ⟨pt,pq,rfl,p1,p2,p3⟩ | ⟨m,mq,rfl,m1,m2,m3⟩
  ·exfalso
   rw [x4] at p3
   have h0:=p3 0 (by decide)
   have h1:=p3 1 (by decide)
   unfold eD at h0 h1
   simp [ln,rlf,kf,qN] at h0 h1
   grind
  ·exact ⟨m,rfl,by rw [m1.1,m2,x4];rfl⟩
 have hw:∃ pt pq,w=(pt,[],0,())∧RLs WW 200 pt pq∧pq.length=1∧∀ k,k<(ju [([a],1,a,())]).length→eD (qN (ln (ju [([a],1,a,())]) k).1 pq 1) (rlf (ju [([a],1,a,())]) k) (kf (ju [([a],1,a,())]) k):=by
  rcases w2 with h | ⟨m,mq,rfl,m1,m2,m3⟩
  ·exact h
  ·exfalso
   refine oP (uj y2 y3).rel m3 ⟨fun _=>1,fun k hk=>?_⟩
   rw [y4] at hk ⊢
   have:k=0:=by simp at hk;omega
   subst this
   left
   simp [ln,rlf,kf,F.lin]
   grind
 obtain ⟨m,rfl,ml⟩:=hz
 obtain ⟨pt,pq,rfl,p1,p2,p3⟩:=hw
 have pl:pt.length=1:=by rw [p1.1,p2]
 have hH:=Holds_sp (n:=((1:Nat):Int)) (l:=[([a],1,a,())]) (pt:=pt) y1 (tK (B:=WW) p1 (by decide) (by omega))
 rw [xQ y2,xQ ⟨yE p1,by omega⟩,Ae p1,dW ((tw (uj y2 y3).len).2 p3)] at hH
 refine Ev.step (fun k=>lf k) (Ev.bind a1 (Ev.bind a1 (Ev.bind b1 (Ev.bind c1 (Ev.bind z1 (Ev.bind w1 (Ev.bind hH ?_)))))))
 simp only [ml,pl]
 exact evs _
theorem light_ev {n:Int} {l:List aQ} (most:Int) (ha:yB l):∃ t,Ev (fun k=>gg k n l most) t∧(t=true→n≤3∧(l.length:Int)≤most∧(∀ x∈l,yw 1 x)∧OkS n l):=by
 obtain ⟨t,t1,t2⟩:=C1 1 ha
 have hv:=vC (n:=n) ha
 have e1:Ev (fun _=>bif decide (n≤(3:Int)) then some (decide ((List.length l:Int)≤most)) else some false) (decide (n≤3)&&decide ((List.length l:Int)≤most)):=by
  cases decide (n≤(3:Int))<;>exact evs _
 by_cases c1:(decide (n≤3)&&decide ((List.length l:Int)≤most))=true
 ·rw [c1] at e1
  simp only [Bool.and_eq_true,decide_eq_true_eq] at c1
  cases t with
  | false=>exact ⟨false,Ev.step (fun k=>eC k _ _ _) (Ev.bind e1 (Ev.bind (a:=false) (bT rfl (Ev.bind t1 (evs _))) (Ev.bind (a:=false) (bF rfl (evs _)) (evs _)))),fun h=>by simp at h⟩
  | true =>
   by_cases c2:OkS n l
   ·rw [xQ c2] at hv
    exact ⟨true,Ev.step (fun k=>eC k _ _ _) (Ev.bind e1 (Ev.bind (a:=true) (bT rfl (Ev.bind t1 (evs _))) (Ev.bind (a:=true) (bT rfl (Ev.bind hv (evs _))) (evs _)))),fun _=>⟨c1.1,c1.2,t2 rfl,c2⟩⟩
   ·rw [tv c2] at hv
    exact ⟨false,Ev.step (fun k=>eC k _ _ _) (Ev.bind e1 (Ev.bind (a:=true) (bT rfl (Ev.bind t1 (evs _))) (Ev.bind (a:=false) (bT rfl (Ev.bind hv (evs _))) (evs _)))),fun h=>by simp at h⟩
 ·rw [Bool.eq_false_iff.2 c1] at e1
  exact ⟨false,Ev.step (fun k=>eC k _ _ _) (Ev.bind e1 (Ev.bind (a:=false) (bF rfl (evs _)) (Ev.bind (a:=false) (bF rfl (evs _)) (evs _)))),fun h=>by simp at h⟩
end Go.Proofs.YtjimdhlmeebjeaaGreat.Q
end
section
namespace Go.Proofs.YtjimdhlmeebjeaaGreat.Q
open Go.RowKit Go.Proofs.YtjimdhlmeebjeaaGreatW.PrintWords Go.Proofs.YtjimdhlmeebjeaaGreatW.PrintMore Go.Proofs.YtjimdhlmeebjeaaGreat.V Go.Proofs.YtjimdhlmeebjeaaGreat.E
open Go.Proofs.YtjimdhlmeebjeaaGreat.P (Dg Nm vl WW RR bS gI evs evk evb fi aL aY bm w64 u64)
set_option linter.unusedVariables false
theorem arg_rats {l:List aw} (h:C2 (.list ah) l):Args l:=⟨h.1,fun x hx=>Fj (h.2 x hx)⟩
theorem Fk {l:List aQ} (h:C2 (.list au) l):yB l:=⟨h.1,fun x hx=>⟨arg_rats (h.2 x hx).1,Fj (h.2 x hx).2.2.1⟩⟩
end Go.Proofs.YtjimdhlmeebjeaaGreat.Q
end
section
namespace Go.Proofs.YtjimdhlmeebjeaaGreat.Q
open Go.RowKit Go.Proofs.YtjimdhlmeebjeaaGreatW.PrintWords Go.Proofs.YtjimdhlmeebjeaaGreatW.PrintMore Go.Proofs.YtjimdhlmeebjeaaGreat.V Go.Proofs.YtjimdhlmeebjeaaGreat.E
open Go.Proofs.YtjimdhlmeebjeaaGreat.P (Dg Nm vl WW RR bS gI evs evk evb fi aL aY bm w64 u64)
open Go.Proofs.YtjimdhlmeebjeaaGreat.F (rlf)
set_option linter.unusedVariables false
theorem or_ev (a b:Bool):Ev (fun _=>bif a then some true else some b) (a||b):=by cases a<;>exact evs _
theorem orn_ev {f:Nat→Option Bool} {t:Bool} (b:Bool) (h:Ev f t):Ev (fun k=>bif b then some true else (f k).bind fun v=>some (!v)) (b||!t):=by
 cases b with
 | true=>exact bT rfl (evs _)
 | false=>exact bF rfl (Ev.bind h (by rw [Bool.false_or];exact evs _))
theorem sat_snoc {n:Nat} {s:List di} {y:di}:C5 n (s++[y])↔∃ x:Nat→Rat,(∀ k,k<s.length→eD (F.lin (ln s k).1 x n) (rlf s k) (kf s k))∧eD (F.lin y.1 x n) y.2.1 y.2.2:=by
 have e1:∀ k,k<s.length→ln (s++[y]) k=ln s k:=fun k hk=>by
  unfold ln
  simp [List.getD_eq_getElem?_getD,List.getElem?_append_left hk]
 have e2:ln (s++[y]) s.length=y:=by simp [ln]
 constructor
 ·rintro ⟨x,hx⟩
  refine ⟨x,fun k hk=>?_,?_⟩
  ·have:=hx k (by simp;omega)
   unfold rlf kf at this ⊢
   rwa [e1 k hk] at this
  ·have:=hx s.length (by simp)
   unfold rlf kf at this
   rwa [e2] at this
 ·rintro ⟨x,h1,h2⟩
  refine ⟨x,fun k hk=>?_⟩
  unfold rlf kf
  by_cases c:k<s.length
  ·rw [e1 k c];exact h1 k c
  ·have:k=s.length:=by simp at hk;omega
   rw [this,e2];exact h2
theorem Fi {l:List aQ} {x:aQ} (ha:yB l) (hx:ArgL x) (hl:l.length≤100):yB (l++[x]):=⟨by simp;omega,fun y hy=>by
 rcases List.mem_append.1 hy with h | h
 ·exact ha.2 y h
 ·rw [List.mem_singleton.1 h];exact hx⟩
theorem oks_snoc {n:Int} {l:List aQ} {x:aQ} (ho:OkS n l) (hx:OkL n x) (hl:l.length<40):OkS n (l++[x]):=⟨⟨ho.1.1,ho.1.2.1,by simp;omega⟩,fun y hy=>by
 rcases List.mem_append.1 hy with h | h
 ·exact ho.2 y h
 ·rw [List.mem_singleton.1 h];exact hx⟩
theorem num_snoc {N:Nat} {l:List aQ} {x:aQ} (ho:∀ y∈l,yw N y) (hx:yw N x):∀ y∈l++[x],yw N y:=fun y hy=>by
 rcases List.mem_append.1 hy with h | h
 ·exact ho y h
 ·rw [List.mem_singleton.1 h];exact hx
theorem val_snoc (l:List aQ) (x:aQ):ju (l++[x])=ju l++[qX x]:=by simp [ju]
theorem zE {c:List Rat} {x:Nat→Rat}:∀ n,F.lin (c.map fun q=>-q) x n = -F.lin c x n
 | 0=>by simp only [F.lin];grind
 | n+1=>by
  have ih:=zE (c:=c) (x:=x) n
  have e:(c.map fun q=>-q).getD n 0 = -c.getD n 0:=F.getD_map (f:=fun q=>-q) (by simp) c n
  simp only [F.lin,ih,e];grind
end Go.Proofs.YtjimdhlmeebjeaaGreat.Q
end
section
namespace Go.Proofs.YtjimdhlmeebjeaaGreat.F
open Go.Proofs.YtjimdhlmeebjeaaGreat.Q (eD qN comb di ln cf kf gf rW yx)
set_option linter.unusedVariables false
def jP (s:List di) (c:List Rat):List di:=s.map (fun y=>(y.1++[0],y.2))++[(c++[-1],0,0)]
theorem zG {a b:List Rat} {x:Nat→Rat}:∀ m,m≤a.length→lin (a++b) x m=lin a x m
 | 0,_=>rfl
 | m+1,h=>by
  have h1:=zG (a:=a) (b:=b) (x:=x) m (by omega)
  have h2:(a++b).getD m 0=a.getD m 0:=by simp [List.getD_eq_getElem?_getD,List.getElem?_append_left (show m<a.length by omega)]
  simp only [lin,h1,h2]
theorem BD {a:List Rat} {v:Rat} {n:Nat} (h:a.length=n):(a++[v]).getD n 0=v:=by subst h;simp [List.getD_eq_getElem?_getD]
theorem Bo {s:List di} {c:List Rat} {k:Nat} (hk:k<s.length):ln (jP s c) k=((ln s k).1++[0],(ln s k).2):=by
 unfold ln jP
 rw [List.getD_eq_getElem?_getD,List.getElem?_append_left (by simpa using hk),List.getElem?_map,List.getElem?_eq_getElem hk,List.getD_eq_getElem?_getD,List.getElem?_eq_getElem hk]
 rfl
theorem rU {s:List di} {c:List Rat}:ln (jP s c) s.length=(c++[-1],0,0):=by
 unfold ln jP
 rw [List.getD_eq_getElem?_getD,List.getElem?_append_right (by simp)]
 simp
theorem zQ (s:List di) (c:List Rat):(jP s c).length=s.length+1:=by simp [jP]
section
variable {n:Nat} {s:List di} {c:List Rat}
theorem zP (hn:∀ k,k<s.length→(ln s k).1.length=n) (hc:c.length=n) {x:Nat→Rat} :
 (∀ k,k<(jP s c).length→eD (lin (ln (jP s c) k).1 x (n+1)) (rlf (jP s c) k) (kf (jP s c) k))↔(∀ k,k<s.length→eD (lin (ln s k).1 x n) (rlf s k) (kf s k))∧lin c x n=x n:=by
 have h1:∀ k,k<s.length→(eD (lin (ln (jP s c) k).1 x (n+1)) (rlf (jP s c) k) (kf (jP s c) k)↔eD (lin (ln s k).1 x n) (rlf s k) (kf s k)):=fun k hk=>by
  unfold rlf kf
  rw [Bo hk]
  have e1:=zG (a:=(ln s k).1) (b:=[0]) (x:=x) n (by rw [hn k hk];exact Nat.le_refl _)
  have e2:=BD (v:=0) (hn k hk)
  simp only [lin,e1,e2]
  have:lin (ln s k).1 x n+0*x n=lin (ln s k).1 x n:=by grind
  rw [this]
 have h2:eD (lin (ln (jP s c) s.length).1 x (n+1)) (rlf (jP s c) s.length) (kf (jP s c) s.length)↔lin c x n=x n:=by
  unfold rlf kf
  rw [rU]
  have e1:=zG (a:=c) (b:=[-1]) (x:=x) n (by rw [hc];exact Nat.le_refl _)
  have e2:=BD (v:=-1) hc
  simp only [lin,e1,e2]
  unfold eD
  constructor
  ·intro h
   simp at h
   grind
  ·intro h
   left
   exact ⟨by grind,by decide⟩
 rw [zQ]
 constructor
 ·intro h
  exact ⟨fun k hk=>(h1 k hk).1 (h k (by omega)),h2.1 (h _ (by omega))⟩
 ·rintro ⟨a,b⟩ k hk
  by_cases e:k<s.length
  ·exact (h1 k e).2 (a k e)
  ·have:k=s.length:=by omega
   rw [this];exact h2.2 b
theorem rD {N NN DD:Nat} {s:List di} (h:Sys N NN DD s):∀ t,t≤N→∀ y:Nat→Rat,(∀ r,r∈stg N s t→iQ N r y)↔∃ y':Nat→Rat,(∀ k,t≤k→y' k=y k)∧∀ r,r∈stg N s 0→iQ N r y'
 | 0,_,y=>⟨fun h=>⟨y,fun _ _=>rfl,h⟩,fun ⟨y',h1,h2⟩=>by
  have:y'=y:=funext (fun k=>h1 k (by omega))
  rw [← this];exact h2⟩
 | t+1,ht,y=>by
  rw [vt h (by omega)]
  constructor
  ·rintro ⟨v,hv⟩
   obtain ⟨y',a,b⟩:=(rD h t (by omega) _).1 hv
   exact ⟨y',fun k hk=>by rw [a k (by omega),rX (by omega)],b⟩
  ·rintro ⟨y',a,b⟩
   refine ⟨y' t,(rD h t (by omega) _).2 ⟨y',fun k hk=>?_,b⟩⟩
   by_cases e:k=t
   ·subst e;exact (if_pos rfl).symm
   ·rw [rX e];exact a k (by omega)
theorem max_has {NN DD:Nat} (h:Sys (n+1) NN DD (jP s c)) (hn:∀ k,k<s.length→(ln s k).1.length=n) (hc:c.length=n) (hno:∀ r,r∈stg (n+1) (jP s c) (n+1)→dR (n+1) r=false) (p:Nat→Rat) (t:Rat) :
 (nW (bdC (n+1) n p) n (stg (n+1) (jP s c) n)).has t↔∃ x:Nat→Rat,(∀ k,k<s.length→eD (lin (ln s k).1 x n) (rlf s k) (kf s k))∧lin c x n=t:=by
 rw [DW (j:=0) h (by omega)]
 have hz:=y6 h hno p
 have hs:=hz.sat
 rw [Nat.sub_zero,vt h (by omega)] at hs
 obtain ⟨v,hv⟩:=hs
 have e1:(∀ r,r∈stg (n+1) (jP s c) n→ce r n≠0→iQ (n+1) r (upd p n t))↔∀ r,r∈stg (n+1) (jP s c) n→iQ (n+1) r (upd p n t):=by
  constructor
  ·intro hh r hr
   by_cases e:ce r n=0
   ·rw [jU (by omega) e,← jU (v:=v) (by omega) e];exact hv r hr
   ·exact hh r hr e
  ·intro hh r hr _
   exact hh r hr
 rw [e1,rD h n (by omega)]
 constructor
 ·rintro ⟨y',a,b⟩
  have:=(zP hn hc).1 ((rE h).1 b)
  refine ⟨y',this.1,?_⟩
  rw [this.2,a n (Nat.le_refl _)]
  exact if_pos rfl
 ·rintro ⟨x,a,b⟩
  have hx:∀ m,m≤n→∀ l:List Rat,lin l (fun k=>if k<n then x k else upd p n t k) m=lin l x m:=fun m hm l=>xK m (fun i hi=>.inr (if_pos (by omega)))
  refine ⟨fun k=>if k<n then x k else upd p n t k,fun k hk=>if_neg (by omega),(rE h).2 ((zP hn hc).2 ⟨fun k hk=>?_,?_⟩)⟩
  ·rw [hx n (Nat.le_refl _)];exact a k hk
  ·rw [hx n (Nat.le_refl _),b]
   have e2:upd p n t n=t:=if_pos rfl
   simp only [if_neg (Nat.lt_irrefl n),e2]
theorem max_none {NN DD:Nat} (h:Sys (n+1) NN DD (jP s c)) (hn:∀ k,k<s.length→(ln s k).1.length=n) (hc:c.length=n) {r:cy} (hr:r∈stg (n+1) (jP s c) (n+1)) (hcb:dR (n+1) r=true):¬ ∃ x:Nat→Rat,∀ k,k<s.length→eD (lin (ln s k).1 x n) (rlf s k) (kf s k):=by
 rintro ⟨x,hx⟩
 have e:∀ l:List Rat,lin l (upd x n (lin c x n)) n=lin l x n:=fun l=>vW n (Nat.le_refl _)
 have h0:∀ r,r∈stg (n+1) (jP s c) 0→iQ (n+1) r (upd x n (lin c x n)):=(rE h).2 ((zP hn hc).2 ⟨fun k hk=>by rw [e];exact hx k hk,by rw [e];exact (if_pos rfl).symm⟩)
 have:=(rD h (n+1) (Nat.le_refl _) (upd x n (lin c x n))).2 ⟨_,fun _ _=>rfl,h0⟩ r hr
 unfold dR at hcb
 simp only [Bool.and_eq_true,Bool.not_eq_true',decide_eq_false_iff_not] at hcb
 unfold iQ at this
 rw [pf (n+1) (iD.1 hcb.1)] at this
 exact hcb.2 this
theorem max_size {NN DD:Nat} (h:Sys (n+1) NN DD (jP s c)) {p:Nat→Rat} (hh:(nW (bdC (n+1) n p) n (stg (n+1) (jP s c) n)).hasHi=true):ND (MB NN DD (n+1) n) (MB NN DD (n+1) n) (nW (bdC (n+1) n p) n (stg (n+1) (jP s c) n)).hi:=by
 have hs:Src (bdC (n+1) n p) n (fun r=>r∈stg (n+1) (jP s c) n) (nW (bdC (n+1) n p) n (stg (n+1) (jP s c) n)):=yN _ _ An (fun r h=>h)
 obtain ⟨r,r1,r2,r3⟩:=hs.1 hh
 rw [← r3]
 obtain ⟨z,z1,z2⟩:=wc h (show n≤n+1 by omega) r r1 n (by omega)
 obtain ⟨w,w1,w2⟩:=wc h (show n≤n+1 by omega) r r1 (n+1) (by omega)
 have e:bdC (n+1) n p r=ce r (n+1) / ce r n:=by unfold bdC;rw [Nat.sub_self];rfl
 rw [e]
 have z0:z≠0:=fun h=>r2 (by rw [z1,h];rfl)
 have e2:ce r n*(ce r (n+1) / ce r n)=ce r (n+1):=mul_div r2
 generalize ce r (n+1) / ce r n=x at e2
 rw [z1,w1] at e2
 by_cases p:0<z
 ·have e3:x*((z.natAbs:Nat):Rat)=(w:Rat):=by
   have:((z.natAbs:Nat):Rat)=(z:Rat):=by rw [← dQ,Int.natAbs_of_nonneg (by omega)]
   rw [this,← e2];grind
  obtain ⟨a,b⟩:=o8 (Int.natAbs_pos.2 z0) e3
  exact ⟨Nat.le_trans a w2,Nat.le_trans b z2⟩
 ·have e3:x*((z.natAbs:Nat):Rat)=((-w:Int):Rat):=by
   have h1:((z.natAbs:Nat):Int) = -z:=by omega
   have h2:((-w:Int):Rat) = -(w:Rat):=by simp
   have h3:((z.natAbs:Nat):Rat) = -(z:Rat):=by rw [← dQ,h1];simp
   rw [h3,h2,← e2];grind
  obtain ⟨a,b⟩:=o8 (Int.natAbs_pos.2 z0) e3
  rw [Int.natAbs_neg] at a
  exact ⟨Nat.le_trans a w2,Nat.le_trans b z2⟩
end
end Go.Proofs.YtjimdhlmeebjeaaGreat.F
end
section
namespace Go.Proofs.YtjimdhlmeebjeaaGreat.Q
open Go.RowKit Go.Proofs.YtjimdhlmeebjeaaGreatW.PrintWords Go.Proofs.YtjimdhlmeebjeaaGreatW.PrintMore Go.Proofs.YtjimdhlmeebjeaaGreat.V Go.Proofs.YtjimdhlmeebjeaaGreat.E
open Go.Proofs.YtjimdhlmeebjeaaGreat.P (Dg Nm vl WW RR bS gI evs evk evb fi aL aY bm w64 u64)
open Go.Proofs.YtjimdhlmeebjeaaGreat.F (cy ce dR fF yA kg Bd nW bdC rlf MB ND jP)
set_option linter.unusedVariables false
def Val (n:Nat) (s:List di) (c:List Rat) (t:Rat):Prop:=∃ x:Nat→Rat,(∀ k,k<s.length→eD (F.lin (ln s k).1 x n) (rlf s k) (kf s k))∧F.lin c x n=t
def MaxR (n:Nat) (s:List di) (c:List Rat) (z:Int×aw×Int×Unit):Prop :=
 (z=(0,(false,[],[1],()),0,())∧¬ C5 n s) ∨
 ∃ b:Bd,(∀ t,b.has t↔Val n s c t)∧b.ok∧((b.hasHi=false∧z=(1,(false,[],[1],()),0,())) ∨
  (b.hasHi=true∧∃ v,RB WW v b.hi∧Sz WW 3 b.hi∧z=((if b.openHi=true then 3 else 2),v,0,())))
theorem ok_has {b:Bd} (hok:b.ok):∃ t,b.has t:=by
 obtain ⟨lo,hi,hl,hh,ol,oh⟩:=b
 unfold F.Bd.ok at hok
 unfold F.Bd.has F.under
 simp only at hok ⊢
 cases hl with
 | false=>cases hh with
  | false=>exact ⟨0,by simp,by simp⟩
  | true=>exact ⟨hi-1,by intro _;left;grind,by simp⟩
 | true=>cases hh with
  | false=>exact ⟨lo+1,by simp,by intro _;left;grind⟩
  | true =>
   rcases hok rfl rfl with h | ⟨h,h2,h3⟩
   ·exact ⟨(lo+hi) / 2,by intro _;left;grind,by intro _;left;grind⟩
   ·exact ⟨lo,by intro _;right;exact ⟨h,h3⟩,by intro _;right;exact ⟨rfl,h2⟩⟩
section
variable {n:Nat} {l:List aQ} {s:List di} {c:List Rat} {a2:List aw}
theorem max_l1 (hn:n≤2) (hsl:s.length≤9) (hsys:F.Sys (n+1) 65536 1 (jP s c)) (hlen:∀ k,k<s.length→(ln s k).1.length=n) (hcl:c.length=n) (hks:∀ t,t<n+2→KS 1 (n+1) t≤1000000) (r7:aw) :
 ∀ t,t≤n→∀ o,RRs (KS 1 (n+1) t) (n+1) (n+1+1+(jP s c).length) o (F.stg (n+1) (jP s c) t)→∃ z,Ev2 (fun k m=>cT.l1 k m (n:Int) o (n:Int) (t:Int) r7) z∧MaxR n s c z:=by
 have xl:(jP s c).length=s.length+1:=F.zQ s c
 have elim:∀ t,t≤n→∀ o,RRs (KS 1 (n+1) t) (n+1) (n+1+1+(jP s c).length) o (F.stg (n+1) (jP s c) t)→∃ v,Ev (fun k=>aA k o (t:Int)) v∧RRs (KS 1 (n+1) (t+1)) (n+1) (n+1+1+(jP s c).length) v (F.stg (n+1) (jP s c) (t+1)):=fun t ht o ho=>by
  have hk:=hks t (by omega)
  have hcn:=jB (n:=n+1) (s:=jP s c) (by omega) t
  have hls:=LS_le (show t≤2 by omega)
  have hrl:=ho.1
  exact qM (i:=t) ho (by omega) (by omega) (by omega) (by omega) (by omega) (by
   have:=Nat.mul_le_mul (show 4*KS 1 (n+1) t+3≤4000003 by omega) (show n+1+3≤6 by omega)
   omega)
 refine dn ?_ (fun t ht ih=>?_)
 ·intro o ho
  obtain ⟨v,v1,v2⟩:=elim n (Nat.le_refl _) o ho
  have hk:=hks n (by omega)
  have hk1:=hks (n+1) (by omega)
  have hcn:=jB (n:=n+1) (s:=jP s c) (by omega) (n+1)
  have hcn0:=jB (n:=n+1) (s:=jP s c) (by omega) n
  have hls:=BJ (show n+1≤3 by omega)
  have hls0:=BJ (show n≤3 by omega)
  have hvl:=v2.1
  have hol:=ho.1
  rcases lI v2 (by omega) (by omega) (by omega) (by omega) with ⟨w,w1,w2⟩ | ⟨w,r,w1,w2,w3,w4,w5⟩
  ·have hn64:n<9223372036854775807:=by omega
   have hmul:=Nat.mul_le_mul (show n+1≤3 by omega) (show KS 1 (n+1) n+1+1≤1000002 by omega)
   obtain ⟨b,b1,b2⟩:=xL (i:=n) (Kp:=1) (p:=fun _=>0) (rl:=List.replicate (Int.toNat ((n+1:Nat):Int)) (false,[],[],())) ho (by omega) (by omega) (by omega) (by omega) (by omega) (by simp) (by simp;omega) (fun k h1 h2=>by omega) (by omega)
   have hhas:=F.max_has hsys hlen hcl w2 (fun _=>0)
   have hok:=F.pt_ok hsys (show n+1+0=n+1 by omega) (F.y6 hsys w2 (fun _=>0))
   generalize hB:nW (bdC (n+1) n fun _=>0) n (F.stg (n+1) (jP s c) n)=B at b2 hhas hok
   have common:∀ z,Ev (fun k=>bif !b.2.2.2.1 then (dS k ).bind fun (v13:aw)=>some ((1:Int),v13,(0:Int),()) else bif b.2.2.2.2.2.1 then some ((3:Int),b.2.1,(0:Int),()) else some ((2:Int),b.2.1,(0:Int),())) z→Ev2 (fun k m=>cT.l1 k m (n:Int) o (n:Int) (n:Int) r7) z:=fun z hz=>by
    refine Ev2.step (fun k m=>cT.bY k m _ _ _ _ _) (Ev2.bF (decide_eq_false (by omega)) (Ev2.bind v1 (Ev2.bind w1 (Ev2.bF rfl ?_))))
    rw [gM hn64]
    exact Ev2.iT ⟨by omega,by omega,by rw [Int.toNat_natCast];omega,by rw [Int.toNat_natCast];unfold maxLen;omega⟩ (Ev2.bind b1 (Ev2.of hz))
   obtain ⟨g1,g2,g3,g4,g5,g6⟩:=b2
   cases hh:B.hasHi with
   | false =>
    exact ⟨_,common _ (bT (by rw [g2,hh];rfl) (Ev.bind dz (evs _))),.inr ⟨B,hhas,hok,.inl ⟨hh,rfl⟩⟩⟩
   | true =>
    have hsz:=F.max_size hsys (p:=fun _=>0) (by rw [hB];exact hh)
    rw [hB] at hsz
    have hnd:MB 65536 1 (n+1) n<4294967296 ^ 3:=by
     rcases (by omega:n=0∨n=1∨n=2) with e | e | e<;>rw [e]<;>decide +kernel
    have hsz3:Sz WW 3 B.hi:=kK hsz.1 hsz.2 hnd hnd
    cases ho':B.openHi with
    | true=>exact ⟨_,common _ (bF (by rw [g2,hh];rfl) (bT (by rw [g4,ho']) (evs _))),.inr ⟨B,hhas,hok,.inr ⟨hh,b.2.1,(g6 hh).1,hsz3,by rw [ho'];rfl⟩⟩⟩
    | false=>exact ⟨_,common _ (bF (by rw [g2,hh];rfl) (bF (by rw [g4,ho']) (evs _))),.inr ⟨B,hhas,hok,.inr ⟨hh,b.2.1,(g6 hh).1,hsz3,by rw [ho'];rfl⟩⟩⟩
  ·exact ⟨_,Ev2.step (fun k m=>cT.bY k m _ _ _ _ _) (Ev2.bF (decide_eq_false (by omega)) (Ev2.bind v1 (Ev2.bind w1 (Ev2.bT rfl (Ev2.of (Ev.bind dz (evs _))))))),.inl ⟨rfl,F.max_none hsys hlen hcl w3 w5⟩⟩
 ·intro o ho
  obtain ⟨v,v1,v2⟩:=elim t (by omega) o ho
  obtain ⟨z,z1,z2⟩:=ih v v2
  refine ⟨z,Ev2.step (fun k m=>cT.bY k m _ _ _ _ _) (Ev2.bT (decide_eq_true (by omega)) (Ev2.bind v1 ?_)),z2⟩
  rw [gM (by omega)];exact z1
theorem Max_sp (ha:yB l) (hok:OkS (n:Int) l) (hs:RSs WW 1 l s) (hn:n≤2) (hl:l.length≤9) (hlen:∀ k,k<s.length→(ln s k).1.length=n) (hrel:∀ k,k<s.length→rlf s k=0∨rlf s k=1∨rlf s k=2) (hnd:∀ k,k<s.length→∀ x,x∈(ln s k).1++[(ln s k).2.2]→ND 65536 1 x)
 (hc:RLs WW 1 a2 c) (hcl:c.length=n) (hcd:∀ x,x∈c→ND 65536 1 x):∃ z,Ev (fun k=>cT k (n:Int) l a2) z∧MaxR n s c z:=by
 have hls:=hs.1
 have xl:(jP s c).length=s.length+1:=F.zQ s c
 have al:a2.length=n:=by rw [hc.1,hcl]
 have hsys:F.Sys (n+1) 65536 1 (jP s c):=by
  refine ⟨by decide,by decide,fun k hk=>?_,fun k hk=>?_,fun k hk x hx=>?_⟩
  ·by_cases e:k<s.length
   ·rw [F.Bo e];simp [hlen k e]
   ·have:k=s.length:=by omega
    rw [this,F.rU];simp [hcl]
  ·unfold rlf
   by_cases e:k<s.length
   ·rw [F.Bo e];exact hrel k e
   ·have:k=s.length:=by omega
    rw [this,F.rU];exact .inl rfl
  ·by_cases e:k<s.length
   ·rw [F.Bo e] at hx
    simp only [List.append_assoc,List.mem_append,List.mem_singleton] at hx
    rcases hx with hx | hx | hx
    ·exact hnd k e x (List.mem_append_left _ hx)
    ·rw [hx];exact ⟨by decide,by decide⟩
    ·exact hnd k e x (List.mem_append_right _ (by simp [hx]))
   ·have:k=s.length:=by omega
    rw [this,F.rU] at hx
    simp only [List.append_assoc,List.mem_append,List.mem_singleton] at hx
    rcases hx with hx | hx | hx
    ·exact hcd x hx
    ·rw [hx];exact ⟨by decide,by decide⟩
    ·rw [hx];exact ⟨by decide,by decide⟩
 have hks:∀ t,t<n+2→KS 1 (n+1) t≤1000000:=(num1 (n+1) (by omega)).1
 have hnum:=uG (n:Int) (tK (B:=WW) hc (by decide) (by omega))
 rw [dW ⟨yE (hc.mono aL (show 1≤200 by decide)),by omega⟩] at hnum
 have main:∀ i,i≤l.length→∀ r,RSs WW 1 r ((s.map fun y=>(y.1++[0],y.2)).take i)→∃ z,Ev2 (fun k m=>cT.l0 k m (n:Int) a2 l (l.length:Int) (i:Int) (false,[],[],()) r) z∧MaxR n s c z:=by
  refine dn ?_ (fun i hi ih=>?_)
  ·intro r hr
   rw [hls,List.take_of_length_le (by simp)] at hr
   have rl:r.length=s.length:=by rw [hr.1];simp
   obtain ⟨m,m1,m2,m3⟩:=pX (a:=-1) (by decide) (by decide)
   have hgoal:RLn WW 1 (a2++[m],0,(false,[],[1],()),()) (c++[-1],0,0):=⟨hc.snoc m2 m3,rfl,fm aY,jA aY⟩
   obtain ⟨o,o1,o2⟩:=xI (n:=n+1) (hr.snoc hgoal) (by decide) hsys.len (by omega) (by simp;omega) (by omega)
   have hke:KS 1 (n+1) 0=1+(1*(n+1+2)+1):=rfl
   have e2:(s.map (fun y=>(y.1++[0],y.2))++[(c++[-1],(0:Int),(0:Rat))])=jP s c:=rfl
   rw [e2,← hke] at o2
   have hk0:=hks 0 (by omega)
   have mc:(yA (n+1) (jP s c)).length=(jP s c).length:=by simp [yA]
   have ol:=o2.1
   obtain ⟨v,v1,v2⟩:=rK o2 (by omega) (by omega) (by omega) (by omega)
   obtain ⟨z,z1,z2⟩:=max_l1 hn (by omega) hsys hlen hcl hks (false,[],[],()) 0 (by omega) v v2
   refine ⟨z,Ev2.step (fun k m=>cT.aR k m _ _ _ _ _ _ _) (Ev2.bF (decide_eq_false (by omega)) (Ev2.iT (by omega) (Ev2.bind m1 (Ev2.iT (by simp;omega) (Ev2.bind dz (Ev2.iT (by simp;omega) ?_)))))),z2⟩
   rw [gM (by omega)]
   exact Ev2.bind o1 (Ev2.bind v1 (Ev2.ofd z1))
  ·intro r hr
   obtain ⟨b1,b2,b3,b4⟩:=rss_at hs hi
   have hi':i<s.length:=by omega
   have hln:=hlen i hi'
   generalize hx:(rdT (t:=au) l (i:Int):aQ)=x at b1 b2 b3 b4
   have xl1:x.1.length=n:=by rw [b1.1];exact hln
   have rl:r.length=i:=by rw [hr.1];simp;omega
   have hv:RLn WW 1 (x.1++[(false,[],[1],())],x.2) ((ln s i).1++[0],(ln s i).2):=⟨b1.snoc (fm aY) (jA aY),b2,b3,b4⟩
   have et:(s.map fun y=>(y.1++[0],y.2)).take (i+1)=(s.map fun y=>(y.1++[0],y.2)).take i++[((ln s i).1++[0],(ln s i).2)]:=by
    rw [List.take_succ_eq_append_getElem (by simpa using hi'),List.getElem_map,pc hi']
   obtain ⟨z,z1,z2⟩:=ih (r++[(x.1++[(false,[],[1],())],x.2)]) (by rw [et];exact hr.snoc hv)
   refine ⟨z,Ev2.step (fun k m=>cT.aR k m _ _ _ _ _ _ _) (Ev2.bT (decide_eq_true (by omega)) (Ev2.iT (by omega) ?_)),z2⟩
   rw [hx]
   refine Ev2.iT (by omega) (Ev2.bind dz (Ev2.iT (by simp;omega) (Ev2.iT (by simp;omega) ?_)))
   rw [gM (by omega)];exact z1
 obtain ⟨z,z1,z2⟩:=main 0 (by omega) [] ⟨rfl,fun i h=>by simp at h⟩
 exact ⟨z,Ev.step (fun k=>vV k _ _ _) (Ev.bind (yp ha hok (by omega) (by omega)) (bF rfl (Ev.bind hnum (bF rfl z1.diag)))),z2⟩
end
end Go.Proofs.YtjimdhlmeebjeaaGreat.Q
end
section
namespace Go.Proofs.YtjimdhlmeebjeaaGreat.Q
open Go.RowKit Go.Proofs.YtjimdhlmeebjeaaGreatW.PrintWords Go.Proofs.YtjimdhlmeebjeaaGreatW.PrintMore Go.Proofs.YtjimdhlmeebjeaaGreat.V Go.Proofs.YtjimdhlmeebjeaaGreat.E
open Go.Proofs.YtjimdhlmeebjeaaGreat.P (Dg Nm vl WW RR bS gI evs evk evb fi aL aY bm w64 u64)
open Go.Proofs.YtjimdhlmeebjeaaGreat.F (rlf ND)
set_option linter.unusedVariables false
def Fx (v:aw):Prop:=(v.2.2.1.length=1∧rd v.2.2.1 0=1)∧(v.2.1.length=0∨(v.2.1.length=1∧rd v.2.1 0<65536))
theorem Dh (v:aw):∃ t,Ev (fun k=>dA k v) t∧(t=true→Fx v):=by
 have e1:Ev (fun _=>bif (List.length v.2.2.1:Int)==(1:Int) then if 0≤(0:Int)∧(0:Int)<(List.length v.2.2.1:Int) then some ((rdT (t:=(.int .u32)) v.2.2.1 (0:Int):Int)==(1:Int)) else none else some false) (decide (v.2.2.1.length=1∧rd v.2.2.1 0=1)):=by
  by_cases c:v.2.2.1.length=1
  ·refine bT (by rw [beq_iff_eq];omega) (iT (by omega) (evk ?_))
   by_cases d:rd v.2.2.1 0=1
   ·have:(rdT (t:=(.int .u32)) v.2.2.1 (0:Int):Int)=1:=d
    simp [c,d,this]
   ·have:¬ (rdT (t:=(.int .u32)) v.2.2.1 (0:Int):Int)=1:=d
    simp [c,d,this]
  ·refine bF (by rw [beq_eq_false_iff_ne];omega) (evk ?_)
   simp [c]
 have e2:Ev (fun _=>bif (List.length v.2.1:Int)==(0:Int) then some true else (bif (List.length v.2.1:Int)==(1:Int) then if 0≤(0:Int)∧(0:Int)<(List.length v.2.1:Int) then some (decide ((rdT (t:=(.int .u32)) v.2.1 (0:Int):Int)<(65536:Int))) else none else some false).bind fun (b2:Bool)=>some b2) (decide (v.2.1.length=0∨(v.2.1.length=1∧rd v.2.1 0<65536))):=by
  by_cases c0:v.2.1.length=0
  ·exact bT (by rw [beq_iff_eq];omega) (evk (by simp [c0]))
  ·refine bF (by rw [beq_eq_false_iff_ne];omega) ?_
   by_cases c:v.2.1.length=1
   ·refine Ev.bind (a:=decide (rd v.2.1 0<65536)) (bT (by rw [beq_iff_eq];omega) (iT (by omega) (evs _))) (evk ?_)
    simp [c]
   ·exact Ev.bind (a:=false) (bF (by rw [beq_eq_false_iff_ne];omega) (evs _)) (evk (by simp [c0,c]))
 refine ⟨_,Ev.step (fun k=>lV k v) (Ev.bind e1 (Ev.bind (a:=decide (v.2.2.1.length=1∧rd v.2.2.1 0=1)&&decide (v.2.1.length=0∨(v.2.1.length=1∧rd v.2.1 0<65536))) ?_ (evs _))),fun h=>?_⟩
 ·cases decide (v.2.2.1.length=1∧rd v.2.2.1 0=1) with
  | false=>exact bF rfl (evs _)
  | true=>exact bT rfl (Ev.bind e2 (evs _))
 ·simp only [Bool.and_eq_true,decide_eq_true_eq] at h
  exact h
theorem AO {l:List Int} {x:Int} (h:P.Can WW l x) (hl:l.length=1):x=rd l 0:=by
 obtain ⟨w,rfl⟩:=List.length_eq_one_iff.1 hl
 have:=h.2.2
 simp [vl] at this
 rw [← this];rfl
theorem Df {v:aw} {q:Rat} (h:RB WW v q) (ht:Fx v):ND 65536 1 q:=by
 obtain ⟨⟨d1,d2⟩,hn⟩:=ht
 have e1:=AO h.2.2 d1
 rw [d2] at e1
 refine ⟨?_,by omega⟩
 rcases hn with hn | ⟨n1,n2⟩
 ·have:=(h.2.1.iG aL).1 hn
  omega
 ·have e2:=AO h.2.1 n1
  omega
def Fw (x:aQ):Prop:=Fx x.2.2.1∧∀ c∈x.1,Fx c
theorem whole_ev {l:List aQ} (ha:yB l):∃ t,Ev (fun k=>aP k l) t∧(t=true→∀ x∈l,Fw x):=by
 have main:∀ i,i≤l.length→(∀ j,j<i→∀ h:j<l.length,Fw l[j])→∃ r,Ev2 (fun k m=>aP.l0 k m l (l.length:Int) (i:Int)) r∧(r=true→∀ x∈l,Fw x):=by
  refine dn ?_ (fun i hi ih=>?_)
  ·intro hall
   exact ⟨true,Ev2.step (fun k m=>aP.aR k m _ _ _) (Ev2.bF (decide_eq_false (by omega)) (Ev2.of (evs _))),fun _=>jS.2 hall⟩
  ·intro hall
   have e:(rdT (t:=au) l (i:Int):aQ)=l[i]:=cH hi
   have hal:=(ha.2 _ (List.getElem_mem hi)).1
   obtain ⟨t,t1,t2⟩:=Dh l[i].2.2.1
   cases t with
   | false =>
    refine ⟨false,Ev2.step (fun k m=>aP.aR k m _ _ _) (Ev2.bT (decide_eq_true (by omega)) (Ev2.iT (by omega) ?_)),fun h=>by simp at h⟩
    rw [e]
    exact Ev2.bind t1 (Ev2.bT rfl (Ev2.of (evs _)))
   | true =>
    have inner:∀ j,j≤l[i].1.length→(∀ j',j'<j→∀ h:j'<l[i].1.length,Fx l[i].1[j'])→∃ r,Ev3 (fun k m1 m0=>aP.l1 k m1 m0 l (l.length:Int) (i:Int) l[i].1 (l[i].1.length:Int) (j:Int)) r∧(r=true→∀ x∈l,Fw x):=by
     refine dn ?_ (fun j hj ih2=>?_)
     ·intro hc
      obtain ⟨r,r1,r2⟩:=ih (fun j' hj' h'=>by
       by_cases e':j'=i
       ·subst e';exact ⟨t2 rfl,jS.2 hc⟩
       ·exact hall j' (by omega) h')
      refine ⟨r,Ev3.step (fun k m1 m0=>aP.bY k m1 m0 _ _ _ _ _ _) (Ev3.bF (decide_eq_false (by omega)) (Ev3.of ?_)),r2⟩
      rw [gM (Nat.lt_of_lt_of_le hi ha.1)];exact r1
     ·intro hc
      have ej:(rdT (t:=ah) l[i].1 (j:Int):aw)=l[i].1[j]:=cH hj
      obtain ⟨u,u1,u2⟩:=Dh l[i].1[j]
      cases u with
      | false =>
       refine ⟨false,Ev3.step (fun k m1 m0=>aP.bY k m1 m0 _ _ _ _ _ _) (Ev3.bT (decide_eq_true (by omega)) (Ev3.iT (by omega) ?_)),fun h=>by simp at h⟩
       rw [ej]
       exact Ev3.bind u1 (Ev3.bT rfl (Ev3.of (Ev2.of (evs _))))
      | true =>
       obtain ⟨r,r1,r2⟩:=ih2 (fun j' hj' h'=>by
        by_cases e':j'=j
        ·subst e';exact u2 rfl
        ·exact hc j' (by omega) h')
       refine ⟨r,Ev3.step (fun k m1 m0=>aP.bY k m1 m0 _ _ _ _ _ _) (Ev3.bT (decide_eq_true (by omega)) (Ev3.iT (by omega) ?_)),r2⟩
       rw [ej]
       refine Ev3.bind u1 (Ev3.bF rfl ?_)
       rw [gM (Nat.lt_of_lt_of_le hj hal.1)];exact r1
    obtain ⟨r,r1,r2⟩:=inner 0 (by omega) (fun j' h'=>by omega)
    refine ⟨r,Ev2.step (fun k m=>aP.aR k m _ _ _) (Ev2.bT (decide_eq_true (by omega)) (Ev2.iT (by omega) ?_)),r2⟩
    rw [e]
    exact Ev2.bind t1 (Ev2.bF rfl r1.diag)
 obtain ⟨r,r1,r2⟩:=main 0 (by omega) (fun j h=>by omega)
 exact ⟨r,Ev.step (fun k=>k9 k _) r1.diag,r2⟩
def wl (rel:Int) (c:List Rat) (x:Rat):di:=if rel>0 then (c.map (fun q=>-q),rel,-x) else (c,rel,x)
theorem with_sp {n:Nat} {l:List aQ} {r:List aw} {c:List Rat} {v:aw} {x:Rat} {rel:Int} (hr:RLs RR 4 r c) (hc:c.length=n) (hn:n≤8) (hv:RB RR v x) (hx:Sz RR 16 x) (hx4:Sz WW 4 x) (hc4:∀ q,q∈c→Sz WW 4 q) (hrel:0≤rel∧rel≤2) (hl:l.length≤1000) :
 ∃ y,Ev (fun k=>aT k l r rel v) (l++[y])∧LnOK 4 n y (wl rel c x):=by
 have rl:r.length=n:=by rw [hr.1,hc]
 have e0:(([]:List aQ)++l)=l:=rfl
 have fin:∀ w:aw,RB RR w (wl rel c x).2.2→Sz RR 16 (wl rel c x).2.2→Sz WW 4 (wl rel c x).2.2→∀ s,RLs WW 4 s (wl rel c x).1→∃ y,Ev (fun k=>aT.j1 k l w rel (false,[],[],()) s) (l++[y])∧LnOK 4 n y (wl rel c x):=by
  intro w hw hz hz4 s hs
  obtain ⟨u,u1,u2⟩:=oR hw hz (by decide)
  refine ⟨(s,rel,u,()),?_,⟨hs,?_,u2,hz4⟩,?_,?_,?_⟩
  ·show Ev (fun k=>(dD k w).bind fun (v4:aw)=>if (List.length ([]:List aQ)+List.length l)*88≤140737488355328 then if (List.length (([]:List aQ)++l)+List.length ([(s,rel,v4,())]))*88≤140737488355328 then some ((([]:List aQ)++l)++([(s,rel,v4,())])) else none else none) _
   exact Ev.bind u1 (iT (by simp;omega) (iT (by simp;omega) (evs _)))
  ·unfold wl;split<;>rfl
  ·unfold wl;split<;>simp [hc]
  ·unfold wl;split<;>exact hrel.1
  ·unfold wl;split<;>exact hrel.2
 have key:∀ j,j≤r.length→∀ s,RLs WW 4 s ((wl rel c x).1.take j)→∃ y,Ev2 (fun k m=>aT.l0 k m l rel r (r.length:Int) (j:Int) v rel (false,[],[],()) s) (l++[y])∧LnOK 4 n y (wl rel c x):=by
  refine dn ?_ (fun j hj ih=>?_)
  ·intro s hs
   have e:(wl rel c x).1.take r.length=(wl rel c x).1:=List.take_of_length_le (by unfold wl;split<;>simp<;>omega)
   rw [e] at hs
   by_cases c0:rel>0
   ·obtain ⟨w,w1,w2,w3⟩:=pP hv hx
    have ew:(wl rel c x).2.2 = -x:=by unfold wl;rw [if_pos c0]
    obtain ⟨y,y1,y2⟩:=fin w (by rw [ew];exact w2) (by rw [ew];exact w3) (by rw [ew];exact wM hx4) s hs
    exact ⟨y,Ev2.step (fun k m=>aT.aR k m _ _ _ _ _ _ _ _ _) (Ev2.bF (decide_eq_false (by omega)) (Ev2.of (bT (decide_eq_true c0) (Ev.bind w1 y1)))),y2⟩
   ·have ew:(wl rel c x).2.2=x:=by unfold wl;rw [if_neg c0]
    obtain ⟨y,y1,y2⟩:=fin v (by rw [ew];exact hv) (by rw [ew];exact hx) (by rw [ew];exact hx4) s hs
    exact ⟨y,Ev2.step (fun k m=>aT.aR k m _ _ _ _ _ _ _ _ _) (Ev2.bF (decide_eq_false (by omega)) (Ev2.of (bF (decide_eq_false c0) y1))),y2⟩
  ·intro s hs
   have hjc:j<c.length:=by omega
   have a:=hr.2 j hj hjc
   have ec:c.getD j 0=c[j]:=by rw [List.getD_eq_getElem?_getD,List.getElem?_eq_getElem hjc];rfl
   have ej:(rdT (t:=ai) r (j:Int):aw)=r[j]:=cH hj
   have z4:=hc4 c[j] (List.getElem_mem hjc)
   have sl:s.length=j:=by
    rw [hs.1];unfold wl
    split<;>simp<;>omega
   have step:∀ w:aw,RB RR w ((wl rel c x).1.getD j 0)→Sz RR 4 ((wl rel c x).1.getD j 0)→Sz WW 4 ((wl rel c x).1.getD j 0)→∃ y,Ev2 (fun k m=>aT.j0 k m l rel r (r.length:Int) (j:Int) v rel (false,[],[],()) s w) (l++[y])∧LnOK 4 n y (wl rel c x):=by
    intro w hw hz hz4
    obtain ⟨u,u1,u2⟩:=oR hw hz (by decide)
    obtain ⟨y,y1,y2⟩:=ih (s++[u]) (by
     rw [kj (by unfold wl;split<;>simp<;>omega)]
     exact hs.snoc u2 hz4)
    refine ⟨y,?_,y2⟩
    show Ev2 (fun k m=>(dD k w).bind fun (v3:aw)=>if (List.length s+List.length ([v3]))*56≤140737488355328 then aT.l0 k m l rel r (r.length:Int) (wrap64 ((j:Int)+(1:Int))) v rel (false,[],[],()) (s++([v3])) else none) (l++[y])
    refine Ev2.bind u1 (Ev2.iT (by simp;omega) ?_)
    rw [gM (by omega)];exact y1
   by_cases c0:rel>0
   ·have ew:(wl rel c x).1.getD j 0 = -c[j]:=by
     unfold wl;rw [if_pos c0,← ec]
     exact F.getD_map (f:=fun q=>-q) (by simp) c j
    obtain ⟨w,w1,w2,w3⟩:=pP a.1 a.2
    obtain ⟨y,y1,y2⟩:=step w (by rw [ew];exact w2) (by rw [ew];exact w3) (by rw [ew];exact wM z4)
    refine ⟨y,Ev2.step (fun k m=>aT.aR k m _ _ _ _ _ _ _ _ _) (Ev2.bT (decide_eq_true (by omega)) (Ev2.iT (by omega) (Ev2.bT (decide_eq_true c0) ?_))),y2⟩
    rw [ej];exact Ev2.bind w1 y1
   ·have ew:(wl rel c x).1.getD j 0=c[j]:=by unfold wl;rw [if_neg c0,ec]
    obtain ⟨y,y1,y2⟩:=step r[j] (by rw [ew];exact a.1) (by rw [ew];exact a.2) (by rw [ew];exact z4)
    refine ⟨y,Ev2.step (fun k m=>aT.aR k m _ _ _ _ _ _ _ _ _) (Ev2.bT (decide_eq_true (by omega)) (Ev2.iT (by omega) (Ev2.bF (decide_eq_false c0) ?_))),y2⟩
    rw [ej];exact y1
 obtain ⟨y,y1,y2⟩:=key 0 (by omega) [] (by rw [List.take_zero];exact RLs.nil)
 exact ⟨y,Ev.step (fun k=>lU k _ _ _ _) y1.diag,y2⟩
end Go.Proofs.YtjimdhlmeebjeaaGreat.Q
end
section
namespace Go.Proofs.YtjimdhlmeebjeaaGreat.Q
open Go.RowKit Go.Proofs.YtjimdhlmeebjeaaGreatW.PrintWords Go.Proofs.YtjimdhlmeebjeaaGreatW.PrintMore Go.Proofs.YtjimdhlmeebjeaaGreat.V Go.Proofs.YtjimdhlmeebjeaaGreat.E
open Go.Proofs.YtjimdhlmeebjeaaGreat.P (Dg Nm vl WW RR bS gI evs evk evb fi aL aY bm w64 u64)
open Go.Proofs.YtjimdhlmeebjeaaGreat.F (rlf ND Bd)
set_option linter.unusedVariables false
theorem Bi {n:Int} (h:(Lit.int .i8 n).wf=true):-128≤n∧n≤127:=by
 have h2:IntKind.i8.min = -128:=rfl
 have h3:IntKind.i8.max=127:=rfl
 simp only [Lit.wf,Bool.and_eq_true,decide_eq_true_eq,h2,h3] at h
 omega
theorem Db {n:Int} (h:(Lit.int .u8 n).wf=true):0≤n∧n≤255:=by
 have h2:IntKind.u8.min=0:=rfl
 have h3:IntKind.u8.max=255:=rfl
 simp only [Lit.wf,Bool.and_eq_true,decide_eq_true_eq,h2,h3] at h
 omega
theorem BR {n:Int} (h:(Lit.int .u16 n).wf=true):0≤n∧n≤65535:=by
 have h2:IntKind.u16.min=0:=rfl
 have h3:IntKind.u16.max=65535:=rfl
 simp only [Lit.wf,Bool.and_eq_true,decide_eq_true_eq,h2,h3] at h
 omega
theorem szWR {q:Rat} (h:Sz WW 4 q):Sz RR 16 q:=by
 have e:WW ^ 4≤(RR:Int) ^ 16:=by decide
 exact ⟨Int.lt_of_lt_of_le h.1 e,Int.lt_of_lt_of_le h.2 e⟩
theorem below_sz {h:Rat} {k:Nat} (hz:Sz WW 3 h) (hk:k≤20):Sz WW 4 (h-1 / (2:Rat) ^ k):=by
 have p0:0<2 ^ k:=Nat.pow_pos (by decide)
 have p1:2 ^ k≤2 ^ 20:=Nat.pow_le_pow_right (by decide) hk
 have hn:=F.jy p0
 have e0:((2 ^ k:Nat):Rat)=(2:Rat) ^ k:=by simp
 have e:(h-1 / (2:Rat) ^ k)*((h.den*2 ^ k:Nat):Rat)=((h.num*(2 ^ k:Nat)-h.den:Int):Rat):=by
  have e1:((h.den*2 ^ k:Nat):Rat)=(h.den:Rat)*((2 ^ k:Nat):Rat):=by simp
  have e2:((h.num*(2 ^ k:Nat)-h.den:Int):Rat)=(h.num:Rat)*((2 ^ k:Nat):Rat)-(h.den:Rat):=by simp [F.dQ]
  have e3:(1:Rat) / ((2 ^ k:Nat):Rat)*((2 ^ k:Nat):Rat)=1:=Rat.div_mul_cancel hn
  rw [e1,e2,← e0,← F.j5 h]
  grind
 obtain ⟨a,b⟩:=F.o8 (Nat.mul_pos h.den_pos p0) e
 obtain ⟨z1,z2⟩:=hz
 have ew:WW ^ 3=79228162514264337593543950336:=by decide
 rw [ew] at z1 z2
 have m1:h.num.natAbs*2 ^ k≤h.num.natAbs*2 ^ 20:=Nat.mul_le_mul_left _ p1
 have m2:h.den*2 ^ k≤h.den*2 ^ 20:=Nat.mul_le_mul_left _ p1
 have m3:(h.num*((2 ^ k:Nat):Int)-h.den).natAbs≤h.num.natAbs*2 ^ k+h.den:=by
  have:=Int.natAbs_sub_le (h.num*((2 ^ k:Nat):Int)) (h.den:Int)
  rw [Int.natAbs_mul,Int.natAbs_natCast,Int.natAbs_natCast] at this
  exact this
 have q1:(4294967296:Nat) ^ 4=340282366920938463463374607431768211456:=by decide
 refine kK (N:=h.num.natAbs*2 ^ k+h.den) (D:=h.den*2 ^ k) (Nat.le_trans a m3) b ?_ ?_
 ·rw [q1];omega
 ·rw [q1];omega
theorem num_mono {N M:Nat} (h:N≤M) {x:aQ} (hx:yw N x):yw M x:=⟨⟨by have:=hx.1.1;omega,by have:=hx.1.2;omega⟩,fun c hc=>⟨by have:=(hx.2 c hc).1;omega,by have:=(hx.2 c hc).2;omega⟩⟩
section
variable {n:Nat} {s:List di} {c:List Rat} {b:Bd}
theorem z9 {rel:Int} {x:Rat} (hb:∀ t,b.has t↔Val n s c t):C5 n (s++[wl rel c x])↔∃ t,b.has t∧(if rel>0 then eD (-t) rel (-x) else eD t rel x):=by
 rw [sat_snoc]
 constructor
 ·rintro ⟨p,p1,p2⟩
  refine ⟨F.lin c p n,(hb _).2 ⟨p,p1,rfl⟩,?_⟩
  unfold wl at p2
  by_cases h:rel>0
  ·rw [if_pos h] at p2 ⊢;rw [← zE];exact p2
  ·rw [if_neg h] at p2 ⊢;exact p2
 ·rintro ⟨t,ht,h2⟩
  obtain ⟨p,p1,rfl⟩:=(hb t).1 ht
  refine ⟨p,p1,?_⟩
  unfold wl
  by_cases h:rel>0
  ·rw [if_pos h] at h2 ⊢;show eD (F.lin (c.map fun q=>-q) p n) rel (-x);rw [zE];exact h2
  ·rw [if_neg h] at h2 ⊢;exact h2
end
open Classical in
theorem El {N:Nat} {l:List aQ} {more near:Int} (ha:yB l) (ok:OkS (N:Int) l) (hN:N≤2) (hl:l.length≤6) (hnum:∀ x∈l,yw 1 x) (hw:∀ x∈l,Fw x) (hm:0≤more∧more≤65535) (hr:0≤near∧near≤255) {f a:List aw} {c:List Rat} (hf:RLs RR 4 f c) (hq:RLs WW 1 a c) (hc:c.length=N) (hcd:∀ x,x∈c→ND 65536 1 x) {x43:List Int} :
 Ev2 (fun k m=>bG.l0 k m (N:Int) l more near x43 (x43.length:Int) (x43.length:Int) f a) true:=by
 have hsys:=uj ok hnum
 have hnd:∀ k,k<(ju l).length→∀ x,x∈(ln (ju l) k).1++[(ln (ju l) k).2.2]→ND 65536 1 x:=fun k hk x hx=>by
  have hk':k<l.length:=by simpa [ju] using hk
  have o:=ok.2 _ (List.getElem_mem hk')
  have w:=hw _ (List.getElem_mem hk')
  rw [AX hk'] at hx
  rcases List.mem_append.1 hx with hx | hx
  ·simp only [qX,qY] at hx
   obtain ⟨d,hd,rfl⟩:=List.mem_map.1 hx
   exact Df (qy (o.2 _ hd)).1 (w.2 _ hd)
  ·rw [List.mem_singleton.1 hx]
   exact Df (qy o.1.2.2.2).1 w.1
 obtain ⟨z,z1,z2⟩:=Max_sp ha ok (vA ok hnum) hN (by omega) hsys.len hsys.rel hnd hq hc hcd
 have hc4:∀ q,q∈c→Sz WW 4 q:=fun q hq=>by
  obtain ⟨p1,p2⟩:=hcd q hq
  exact kK p1 p2 (by decide) (by decide)
 have hdec:∀ y q,LnOK 4 N y q→Ev (fun k=>cq k (N:Int) (l++[y])) (if C5 N (ju l++[q]) then 1 else 0):=fun y q hy=>by
  obtain ⟨y1,y2,y3,y4⟩:=vT hy (by decide) (by omega)
  have:=yg (K:=4) (Lm:=10) (Fi ha y1 (by omega)) (oks_snoc ok y2 (by omega)) (num_snoc (fun x hx=>num_mono (by decide) (hnum x hx)) y3) (by decide) (by omega) (by simp;omega) (by decide) (num4 N (by omega))
  rwa [val_snoc,y4] at this
 have hwith:∀ (v:aw) (x:Rat) (rel:Int),RB RR v x→Sz WW 4 x→0≤rel∧rel≤2→∃ ls,Ev (fun k=>aT k l f rel v) ls∧Ev (fun k=>cq k (N:Int) ls) (if C5 N (ju l++[wl rel c x]) then 1 else 0):=fun v x rel hv hx hrel=>by
  obtain ⟨y,y1,y2⟩:=with_sp hf hc (by omega) hv (szWR hx) hx hc4 hrel (by omega:l.length≤1000)
  exact ⟨_,y1,hdec y _ y2⟩
 have hisz:Ev (fun k=>gb k (false,[],[1],()) (false,[],[1],())) true:=DJ (fm aY) (fm eh) (jA eh) (by decide) (by decide) (by decide)
 refine Ev2.step (fun k m=>bG.aR k m _ _ _ _ _ _ _ _ _) (Ev2.bF (decide_eq_false (by omega)) (Ev2.bind z1 ?_))
 rcases z2 with ⟨rfl,hun⟩ | ⟨b,hb,hok,⟨hh,rfl⟩ | ⟨hh,v,v1,v2,rfl⟩⟩
 ·have hd:=yg (K:=1) (Lm:=10) ha ok hnum (by decide) (by omega) (by omega) (by decide) (num1 N (by omega))
  rw [if_neg hun] at hd
  exact Ev2.of (Ev.bind (a:=false) (bF rfl (evs _)) (Ev.bind (a:=false) (bF rfl (evs _)) (Ev.bind (a:=false) (bF rfl (Ev.bind (a:=false) (bT rfl (Ev.bind iz (Ev.bind hisz (evs _)))) (Ev.bind (a:=false) (bF rfl (evs _)) (evs _)))) (bF rfl (bT rfl (Ev.bind hd (evs _)))))))
 ·obtain ⟨w,w1,w2,w3⟩:=nh (z:=more) (by omega) (by omega)
  have wz:Sz WW 4 (more:Rat):=wN (by omega) (by decide)
  obtain ⟨ls,l1,l2⟩:=hwith w (more:Rat) 1 w2 wz (by decide)
  have hsat:C5 N (ju l++[wl 1 c (more:Rat)]):=by
   rw [z9 hb]
   obtain ⟨t,ht⟩:=ok_has hok
   obtain ⟨lo,hi,hl',hh',ol,oh⟩:=b
   simp only at hh
   subst hh
   unfold F.Bd.has F.under at ht ⊢
   simp only at ht ⊢
   by_cases cc:(more:Rat)≤t
   ·exact ⟨t,ht,by rw [if_pos (by decide)];unfold eD;grind⟩
   ·refine ⟨(more:Rat),⟨fun h=>by simp at h,fun h=>?_⟩,by rw [if_pos (by decide)];unfold eD;grind⟩
    have:=ht.2 h
    left;grind
  rw [if_pos hsat] at l2
  rw [w64 (x:=more) (by omega) (by omega)]
  exact Ev2.of (Ev.bind (a:=false) (bF rfl (evs _)) (Ev.bind (a:=false) (bF rfl (evs _)) (Ev.bind (a:=false) (bF rfl (Ev.bind (a:=false) (bT rfl (Ev.bind iz (Ev.bind hisz (evs _)))) (Ev.bind (a:=false) (bF rfl (evs _)) (evs _)))) (bF rfl (bF rfl (bT rfl (Ev.bind w1 (Ev.bind l1 (Ev.bind l2 (evs _))))))))))
 ·have hvl:=fe aY v1 v2
  have hsh:=gC v 20
  rw [decide_eq_true ⟨by omega,by omega⟩] at hsh
  have harg:Arg v:=tL v1 v2 (by decide)
  have hval:=jV harg
  rw [dW ((oI (N:=20) (by decide) harg).1 ⟨_,v1,eA aL v2 (by decide)⟩).2] at hval
  obtain ⟨o,o1,o2,o3⟩:=sC v1 v2 (by decide)
  have hz4:Sz WW 4 b.hi:=eA aL v2 (by decide)
  obtain ⟨ls2,p1,p2⟩:=hwith o b.hi 2 o2 hz4 (by decide)
  have hno2:¬ C5 N (ju l++[wl 2 c b.hi]):=by
   rw [z9 hb]
   rintro ⟨t,ht,h2⟩
   rw [if_pos (by decide)] at h2
   have:=ht.1 hh
   unfold F.under at this
   unfold eD at h2
   simp at h2
   grind
  rw [if_neg hno2] at p2
  obtain ⟨ls0,q1,q2⟩:=hwith o b.hi 0 o2 hz4 (by decide)
  have hsat0:C5 N (ju l++[wl 0 c b.hi])↔b.has b.hi:=by
   rw [z9 hb]
   constructor
   ·rintro ⟨t,ht,h2⟩
    rw [if_neg (by decide)] at h2
    unfold eD at h2
    have:t=b.hi:=by simpa using h2
    rwa [this] at ht
   ·intro h
    exact ⟨b.hi,h,by rw [if_neg (by decide)];exact .inl ⟨rfl,by decide⟩⟩
  cases ho:b.openHi with
  | false =>
   have hhi:b.has b.hi:=by
    unfold F.Bd.ok at hok
    unfold F.Bd.has F.under
    refine ⟨fun _=>.inr ⟨rfl,ho⟩,fun h=>?_⟩
    rcases hok h hh with h' | ⟨h1,h2,_⟩
    ·exact .inl h'
    ·exact .inr ⟨h1,h2⟩
   rw [if_pos (hsat0.2 hhi)] at q2
   refine Ev2.of (Ev.bind (a:=false) (bF rfl (evs _)) (Ev.bind (a:=false) (bF rfl (evs _)) (Ev.bind (a:=false) (bF rfl (Ev.bind (a:=false) (bF rfl (evs _)) (Ev.bind (a:=false) (bF rfl (evs _)) (evs _)))) (bF rfl (bF rfl (bF rfl ?_))))))
   exact Ev.bind hsh (Ev.bind (a:=false) (bF rfl (Ev.bind hval (evs _))) (bF rfl (Ev.bind o1 (Ev.bind p1 (Ev.bind p2 (bF rfl (bT rfl (Ev.bind q1 (Ev.bind q2 (evs _))))))))))
  | true =>
   have hnhi:¬ b.has b.hi:=by
    unfold F.Bd.has F.under
    rintro ⟨h1,_⟩
    rcases h1 hh with h | ⟨_,h⟩
    ·exact absurd h Rat.lt_irrefl
    ·rw [ho] at h;simp at h
   rw [if_neg (fun h=>hnhi (hsat0.1 h))] at q2
   have hmod:Int.tmod near 20=near % 20:=Int.tmod_eq_emod_of_nonneg hr.1
   obtain ⟨K,hK⟩:∃ K:Nat,near % 20=(K:Int):=⟨(near % 20).toNat,by omega⟩
   have hK20:K≤20:=by omega
   obtain ⟨two,t1,t2,t3⟩:=nh (z:=2) (by decide) (by decide)
   obtain ⟨pw,w1,w2,w3⟩:=Ca t2 (eA bm t3 (by decide)) K (by omega)
   have pne:(2:Rat) ^ K≠0:=by
    have:=Rat.pow_pos (a:=2) (n:=K) (by decide)
    intro e;rw [e] at this;exact absurd this Rat.lt_irrefl
   have e2:((2:Int):Rat)=2:=rfl
   rw [e2] at w2 w3
   obtain ⟨dv,d1,d2,d3⟩:=Cd (nR eh) w2 (se eh (Nat.le_refl 1)) w3 pne (by decide)
   obtain ⟨sb,s1,s2,s3⟩:=ux o2 d2 o3 d3 (by decide)
   have bz:=below_sz v2 hK20
   obtain ⟨ls1,r1,r2⟩:=hwith sb _ 1 s2 bz (by decide)
   have hpos:(0:Rat)<1 / (2:Rat) ^ K:=F.sE (by decide) (Rat.pow_pos (by decide))
   have hsat1:C5 N (ju l++[wl 1 c (b.hi-1 / (2:Rat) ^ K)]):=by
    rw [z9 hb]
    generalize (1:Rat) / (2:Rat) ^ K=d at hpos
    unfold F.Bd.ok at hok
    unfold F.Bd.has F.under
    cases hl':b.hasLo with
    | false =>
     refine ⟨b.hi-d / 2,⟨fun _=>.inl (by grind),fun h=>by simp at h⟩,?_⟩
     rw [if_pos (by decide)];unfold eD;grind
    | true =>
     have hlt:b.lo<b.hi:=by
      rcases hok hl' hh with h | ⟨_,_,h⟩
      ·exact h
      ·rw [ho] at h;simp at h
     by_cases cc:b.lo<b.hi-d
     ·refine ⟨b.hi-d / 2,⟨fun _=>.inl (by grind),fun _=>.inl (by grind)⟩,?_⟩
      rw [if_pos (by decide)];unfold eD;grind
     ·refine ⟨(b.lo+b.hi) / 2,⟨fun _=>.inl (by grind),fun _=>.inl (by grind)⟩,?_⟩
      rw [if_pos (by decide)];unfold eD;grind
   rw [if_pos hsat1] at r2
   have hwr:wrap64 (Int.tmod near 20)=(K:Int):=by rw [hmod,hK];exact w64 (by omega) (by omega)
   refine Ev2.of (Ev.bind (a:=false) (bF rfl (evs _)) (Ev.bind (a:=false) (bF rfl (evs _)) (Ev.bind (a:=false) (bF rfl (Ev.bind (a:=false) (bF rfl (evs _)) (Ev.bind (a:=false) (bF rfl (evs _)) (evs _)))) (bF rfl (bF rfl (bF rfl ?_))))))
   rw [hwr]
   exact Ev.bind hsh (Ev.bind (a:=false) (bF rfl (Ev.bind hval (evs _))) (bF rfl (Ev.bind o1 (Ev.bind p1 (Ev.bind p2 (bF rfl (bF rfl (Ev.bind Cb (Ev.bind t1 (Ev.bind w1 (Ev.bind d1 (Ev.bind s1 (Ev.bind q1 (Ev.bind q2 (Ev.bind (a:=true) (bT rfl (Ev.bind r1 (Ev.bind r2 (evs _)))) (evs _))))))))))))))))
theorem tq {n:Int} {l:List aQ} {cs:List Int} {more near:Int} (hn:(Lit.int .i64 n).wf=true) (ha:yB l) (hcs:∀ x∈cs,(Lit.int .i8 x).wf=true) (hm:(Lit.int .u16 more).wf=true) (hr:(Lit.int .u8 near).wf=true):Ev (fun k=>bG k n l cs more near) true:=by
 obtain ⟨t,t1,t2⟩:=light_ev (n:=n) 6 ha
 obtain ⟨u,u1,u2⟩:=whole_ev ha
 refine Ev.step (fun k=>ji k n l cs more near) (Ev.bind Ff (bF rfl (Ev.bind (orn_ev _ t1) (Ev.bind (or_ev _ _) (Ev.bind (orn_ev _ u1) ?_)))))
 generalize hb:(((decide (n>2)||!t)||decide ((cs.length:Int)<n))||!u)=b
 cases b with
 | true=>exact bT rfl (evs _)
 | false =>
  refine bF rfl ?_
  simp only [Bool.or_eq_false_iff,decide_eq_false_iff_not,Bool.not_eq_false'] at hb
  obtain ⟨⟨⟨hn2,rfl⟩,hcl⟩,rfl⟩:=hb
  obtain ⟨_,h2,h3,h4⟩:=t2 rfl
  have hw:=u2 rfl
  obtain ⟨N,rfl⟩:∃ N:Nat,n=(N:Int):=⟨n.toNat,by have:=h4.1.1;omega⟩
  refine iT (by omega) ?_
  rw [Int.toNat_natCast]
  have tl:(cs.take N).length=N:=by simp;omega
  have rng:∀ j,j<(cs.take N).length→-128≤rd (cs.take N) (j:Int)∧rd (cs.take N) (j:Int)≤127:=fun j hj=>by
   have e:rd (cs.take N) (j:Int)=(cs.take N)[j]:=by rw [P.l7 _ _ hj]
   rw [e]
   exact Bi (hcs _ (List.mem_of_mem_take (List.getElem_mem hj)))
  have key:∀ j,j≤(cs.take N).length→∀ f a,RLs RR 4 f (((cs.take N).map fun (z:Int)=>(z:Rat)).take j)→RLs WW 1 a (((cs.take N).map fun (z:Int)=>(z:Rat)).take j)→Ev2 (fun k m=>bG.l0 k m (N:Int) l more near (cs.take N) ((cs.take N).length:Int) (j:Int) f a) true:=by
   refine dn ?_ (fun j hj ih=>?_)
   ·intro f a hf hq
    rw [List.take_of_length_le (by simp)] at hf hq
    refine El ha h4 (by omega) (by omega) h3 hw (BR hm) (Db hr) hf hq (by simp;omega) (fun x hx=>?_)
    obtain ⟨z,hz,rfl⟩:=List.mem_map.1 hx
    have:=Bi (hcs _ (List.mem_of_mem_take hz))
    refine ⟨?_,?_⟩
    ·rw [Rat.num_intCast];omega
    ·rw [Rat.den_intCast];exact Nat.le_refl _
   ·intro f a hf hq
    have hr:=rng j hj
    have e:(rdT (t:=(.int .i8)) (cs.take N) (j:Int):Int)=rd (cs.take N) (j:Int):=rfl
    have ew:wrap64 (rd (cs.take N) (j:Int))=rd (cs.take N) (j:Int):=w64 (by omega) (by omega)
    obtain ⟨v,v1,v2,v3⟩:=nh (z:=rd (cs.take N) (j:Int)) (by omega) (by omega)
    obtain ⟨w,w1,w2⟩:=AP (z:=rd (cs.take N) (j:Int)) (by omega) (by omega)
    have wz:Sz WW 1 ((rd (cs.take N) (j:Int):Int):Rat):=wN (by omega) (by decide)
    have et:((cs.take N).map fun (z:Int)=>(z:Rat)).take (j+1)=((cs.take N).map fun (z:Int)=>(z:Rat)).take j++[((rd (cs.take N) (j:Int):Int):Rat)]:=by
     rw [List.take_succ_eq_append_getElem (by simpa using hj),List.getElem_map,P.l7 _ _ hj]
    have fl:f.length=j:=by rw [hf.1];simp;omega
    have al:a.length=j:=by rw [hq.1];simp;omega
    have:=ih (f++[v]) (a++[w]) (by rw [et];exact hf.snoc v2 v3) (by rw [et];exact hq.snoc w2 wz)
    refine Ev2.step (fun k m=>bG.aR k m _ _ _ _ _ _ _ _ _) (Ev2.bT (decide_eq_true (by omega)) (Ev2.iT (by omega) ?_))
    rw [e,ew]
    refine Ev2.bind v1 (Ev2.iT (by simp;omega) (Ev2.bind w1 (Ev2.iT (by simp;omega) ?_)))
    rw [gM (by omega)];exact this
  exact (key 0 (by omega) [] [] (by rw [List.take_zero];exact RLs.nil) (by rw [List.take_zero];exact RLs.nil)).diag
theorem arg_i8s {l:List Int} (h:C2 (.list (.int .i8)) l):∀ x∈l,(Lit.int .i8 x).wf=true:=fun x hx=>h.2 x hx
end Go.Proofs.YtjimdhlmeebjeaaGreat.Q
end
section
namespace Go.Proofs.YtjimdhlmeebjeaaGreat.linearMaxes
open Go.ChangeShapes Go.WideShapes Go.ChangeAt Go.RowKit
open Go.ChangeMaps (open_string shut_string)
open Go.Proofs.YtjimdhlmeebjeaaGreat.V Go.Proofs.YtjimdhlmeebjeaaGreat.E
theorem own:ownKnob Tryz.prog.godebug=none:=by kernel_rfl
theorem laidOut:laidOutB Tryz.prog=true:=by kernel_rfl
set_option maxRecDepth 100000 in
theorem lifted (os:Os) (started:os.Started) (H:Type) (enc:TypeId×Value→H) :
 ReturnsInHanded {} Tryz.checked os 7 .any (Rows.linearMaxesSpec.pre6 enc Tryz.prog Tryz.f7 Rows.linearMaxesRow.domain false) (Rows.linearMaxesSpec.post enc Tryz.prog Tryz.f7 false true false false):=by
 refine returnsInHanded_of_change_sized (C:=Tryz.checked) own started (by kernel_rfl) Tryz.func7
  (ChangeSpec.witness6 (enc:=enc) (C:=Tryz.checked) false ⟨#[],#[.int .i64 0,.slice none 0 0,.slice none 0 0,.int .u16 0,.int .u8 0],[]⟩ 8 (by kernel_rfl) (by kernel_rfl) (by kernel_rfl) (by kernel_rfl)) ?_
 intro W base args ds gs before hval0 hW hcnd hsz0 _
 have hval:∀ (j:Nat) t v,Tryz.f7.params[j]?=some t→args[j]?=some v→Value.okWide Tryz.prog W .any base t v:=hval0
 have hW':=hW
 obtain ⟨p,q,hA0,hV,rfl,hfz,hnd⟩:=hW
 have hA:DataW.TrodAll enc Tryz.prog W 0 (fun _=>true) true Tryz.f7.params.toList args.toList ds p:=hA0
 rw [Tryz.params7] at hA hval
 obtain ⟨v0,vs0,d0,ds0,p0,q0,hargs,rfl,rfl,h0,r0⟩:=trodAll_cons hA
 obtain ⟨v1,vs1,d1,ds1,p1,q1,rfl,rfl,rfl,h1,r1⟩:=trodAll_cons r0
 obtain ⟨v2,vs2,d2,ds2,p2,q2,rfl,rfl,rfl,h2,r2⟩:=trodAll_cons r1
 obtain ⟨v3,vs3,d3,ds3,p3,q3,rfl,rfl,rfl,h3,r3⟩:=trodAll_cons r2
 obtain ⟨v4,vs4,d4,ds4,p4,q4,rfl,rfl,rfl,h4,r4⟩:=trodAll_cons r3
 obtain ⟨rfl,rfl,rfl⟩:=trodAll_nil r4
 obtain rfl:args = #[v0,v1,v2,v3,v4]:=by cases args;simp_all
 obtain ⟨rfl,rfl⟩:=trodVars_none hV
 have k0:=h0
 have lt0:∀ x∈p0,x.block<W.heap.size:=by obtain ⟨m,hm⟩:=k0;exact DataW.trod_lt m _ _ _ hm
 obtain ⟨y0,f0,g0⟩:=tM Q.ui (n:=16) (t:=3) (c:=(.int .i64)) (by kernel_rfl) (by kernel_rfl) (hval 0 3 v0 rfl rfl) h0
 have k1:=h1
 have lt1:∀ x∈p1,x.block<W.heap.size:=by obtain ⟨m,hm⟩:=k1;exact DataW.trod_lt m _ _ _ hm
 obtain ⟨y1,f1,g1⟩:=tM Q.ui (n:=16) (t:=22) (c:=(.list au)) (by kernel_rfl) (by kernel_rfl) (hval 1 22 v1 rfl rfl) h1
 have k2:=h2
 have lt2:∀ x∈p2,x.block<W.heap.size:=by obtain ⟨m,hm⟩:=k2;exact DataW.trod_lt m _ _ _ hm
 obtain ⟨y2,f2,g2⟩:=tM Q.ui (n:=16) (t:=58) (c:=(.list (.int .i8))) (by kernel_rfl) (by kernel_rfl) (hval 2 58 v2 rfl rfl) h2
 have k3:=h3
 have lt3:∀ x∈p3,x.block<W.heap.size:=by obtain ⟨m,hm⟩:=k3;exact DataW.trod_lt m _ _ _ hm
 obtain ⟨y3,f3,g3⟩:=tM Q.ui (n:=16) (t:=59) (c:=(.int .u16)) (by kernel_rfl) (by kernel_rfl) (hval 3 59 v3 rfl rfl) h3
 have k4:=h4
 have lt4:∀ x∈p4,x.block<W.heap.size:=by obtain ⟨m,hm⟩:=k4;exact DataW.trod_lt m _ _ _ hm
 obtain ⟨y4,f4,g4⟩:=tM Q.ui (n:=16) (t:=5) (c:=(.int .u8)) (by kernel_rfl) (by kernel_rfl) (hval 4 5 v4 rfl rfl) h4
 clear hA0 hval0 hsz0
 obtain ⟨k,hk⟩:=(Q.tq (Q.zV f0) (Q.Fk f1) (Q.arg_i8s f2) (Q.zV f3) (Q.zV f4)).rounds
 obtain ⟨_,pv,hp,hF⟩:=(Bm Q.ui orc_ok Q.mixed Q.noGo k).fn 7 [.v (.int .i64) y0,.v (.list au) y1,.v (.list (.int .i8)) y2,.v (.int .u16) y3,.v (.int .u8) y4] true rfl hk
 obtain rfl:=Option.some.inj hp
 refine (hF (fun b=>b<W.heap.size) W #[v0,v1,v2,v3,v4] (fun b h=>h) rfl (fun i h=>?_)).mono fun e W' ⟨v,he,bel,hv⟩=>?_
 ·match i,h with
  | 0,h=>exact g0
  | 1,h=>exact g1
  | 2,h=>exact g2
  | 3,h=>exact g3
  | 4,h=>exact g4
  | i+5,h=>exact absurd h (by simp only [List.length_map,List.length_cons,List.length_nil];omega)
 ·have hb:=vrel_lit hv
  subst hb
  subst he
  exact ⟨_,rfl,_,_,_,[],_,[],hW',trodAll_mk1 (shut_bool Tryz.underlying4 _),(trodAll_cons_mk (Below.trod laidOut (by kernel_rfl) (of_decide_eq_true (by kernel_rfl)) k0 bel lt0) (trodAll_cons_mk (Below.trod laidOut (by kernel_rfl) (of_decide_eq_true (by kernel_rfl)) k1 bel lt1) (trodAll_cons_mk (Below.trod laidOut (by kernel_rfl) (of_decide_eq_true (by kernel_rfl)) k2 bel lt2) (trodAll_cons_mk (Below.trod laidOut (by kernel_rfl) (of_decide_eq_true (by kernel_rfl)) k3 bel lt3) (trodAll_cons_mk (Below.trod laidOut (by kernel_rfl) (of_decide_eq_true (by kernel_rfl)) k4 bel lt4) trodAll_mk0))))),rfl,bel.frame _,fun h=>by cases h⟩
theorem over:Rows.linearMaxesRow.holds Tryz.pinned (OpenSpec.ofChange Rows.linearMaxesSpec) :=
 OpenClaim.holds_of_wide 7 Tryz.f7 rfl rfl rfl rfl rfl rfl rfl ⟨rfl,rfl,rfl,rfl,rfl⟩ rfl rfl rfl rfl rfl (by kernel_rfl) Tryz.func7 (by kernel_rfl)
  (of_decide_eq_true (by kernel_rfl)) (by unfold Func.isWrapper;first | (rw [if_pos (by decide +kernel)];kernel_rfl) | (rw [if_neg (by decide +kernel)];exact ⟨rfl,rfl⟩))
  (fun os started H enc _=>lifted os started H enc)
theorem proved:Rows.LinearMaxesSaid:=over
#print axioms proved
end Go.Proofs.YtjimdhlmeebjeaaGreat.linearMaxes
namespace Go.Proofs.YtjimdhlmeebjeaaGreat
theorem linearMaxes_holds:Rows.LinearMaxesSaid:=linearMaxes.proved
end Go.Proofs.YtjimdhlmeebjeaaGreat
end
