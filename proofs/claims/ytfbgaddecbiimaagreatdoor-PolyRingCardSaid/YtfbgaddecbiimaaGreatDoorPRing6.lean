/- Add, Sub, Mul and Scale are the operations of the ring, in normal form, and Equal tells equal polynomials (the last of 6 texts). No condition beyond the statement's own. -/
import Derived.Test.YtfbgaddecbiimaaGreatDoorPRing5
set_option linter.unusedSimpArgs false
set_option linter.unusedSectionVars false
set_option linter.unusedVariables false
set_option maxRecDepth 100000
set_option maxHeartbeats 4000000
section
namespace Go.Proofs.YtfbgaddecbiimaaGreatDoor.Q
open Go.RowKit Go.Proofs.YtfbgaddecbiimaaGreatDoorW.PrintWords Go.Proofs.YtfbgaddecbiimaaGreatDoorW.PrintMore Go.Proofs.YtfbgaddecbiimaaGreatDoor.V Go.Proofs.YtfbgaddecbiimaaGreatDoor.E
open Go.Proofs.YtfbgaddecbiimaaGreatDoor.P (Dg Nm vl WW RR bI gI aT jn kq dw aI bG aY cx u64)
theorem qS {c:Prop} [Decidable c] (h:¬ c):Ev (fun _=>some (decide c)) false:=by rw [decide_eq_false h];exact aT _
theorem zG {c:Prop} [Decidable c] (h:c):Ev (fun _=>some (decide c)) true:=by rw [decide_eq_true h];exact aT _
def ArgM (t:aj):Prop:=t.1.length<=9223372036854775807/\Arg t.2.1
def mJ (p:aB):Prop:=p.2.1.length<=9223372036854775807/\∀ t∈p.2.1,ArgM t
structure TermOk (N:Int) (t:aj):Prop where
 len:(t.1.length:Int)=N
 ex:∀ x∈t.1,0<=x/\x<=40
 sum:sE t.1<=40
 co:VN 200 t.2.1
 ne:t.2.1.2.1.length≠0
abbrev cF (p:aB) (i:Nat):aj:=cG (t:=ah) p.2.1 (i:Int)
def qX (p:aB) (i:Nat):Prop:=TermOk p.1 (cF p i)/\(0<i->cQ (cF p (i-1)).1 (cF p i).1>0)
structure fO (p:aB):Prop where
 n0:0<=p.1
 n8:p.1<=8
 yn:p.2.1.length<=4000
 good:∀ i,i<p.2.1.length->qX p i
theorem yE {p:aB} (ha:mJ p) {i:Nat} (hi:i<p.2.1.length):ArgM (cF p i):=by
 have:cF p i=p.2.1[i]:=cy hi
 rw [this]
 exact ha.2 _ (List.getElem_mem _)
theorem BK (v:bB) (N:Nat):Ev (fun k=>l5 k v (N:Int)) (decide (v.2.1.length<=N/\v.2.2.1.length<=N)):=by
 by_cases c:v.2.1.length<=N
 ·by_cases d:v.2.2.1.length<=N
  ·rw [decide_eq_true ⟨c,d⟩]
   exact Ev.step (fun k=>oP k v _) (Ev.bind (a:=true) (bT (decide_eq_true Q2) (by rw [show decide ((v.2.2.1.length:Int)<=(N:Int))=true from decide_eq_true Q2];exact aT _)) (aT _))
  rw [decide_eq_false (fun h=>d h.2)]
  exact Ev.step (fun k=>oP k v _) (Ev.bind (a:=false) (bT (decide_eq_true Q2) (by rw [show decide ((v.2.2.1.length:Int)<=(N:Int))=false from decide_eq_false Q2];exact aT _)) (aT _))
 rw [decide_eq_false (fun h=>c h.1)]
 exact Ev.step (fun k=>oP k v _) (Ev.bind (a:=false) (bF (decide_eq_false Q2) (aT _)) (aT _))
theorem zn (v:bB):∃ s,Ev (fun k=>gQ k v) s/\((s==(0:Int))=decide (v.2.1.length=0)):=by
 by_cases c:v.2.1.length=0
 ·refine ⟨0,Ev.step (fun k=>k9 k v) (bT (by simp [c]) (aT _)),by rw [decide_eq_true c];rfl⟩
 have hc:((List.length v.2.1:Int)==(0:Int))=false:=by simp;intro h;exact c (by rw [h];rfl)
 cases hs:v.1 with
 | true=>exact ⟨-1,Ev.step (fun k=>k9 k v) (bF hc (bT hs (aT _))),by rw [decide_eq_false c];rfl⟩
 | false=>exact ⟨1,Ev.step (fun k=>k9 k v) (bF hc (bF hs (aT _))),by rw [decide_eq_false c];rfl⟩
theorem Hz {N:Nat} {v:bB} (h:VN N v):v.2.1.length<=N/\v.2.2.1.length<=N:=by
 obtain ⟨q,h1,h2⟩:=h
 exact gx bG h1 h2
section
variable {p:aB} {i:Nat}
theorem CZ (ha:mJ p) (hi:i<p.2.1.length) (hl:(cF p i).1.length<=9223372036854775807) (hp:0<i->(cF p (i-1)).1.length<=(cF p i).1.length) {r:Bool} (hr:(sE (cF p i).1<=40/\(0<i->cQ (cF p (i-1)).1 (cF p i).1>0)/\VN 200 (cF p i).2.1)->aN (fun k m=>bA.l0 k m p.2.1 (p.2.1.length:Int) ((i+1:Nat):Int) p) r) (hf:¬ (sE (cF p i).1<=40/\(0<i->cQ (cF p (i-1)).1 (cF p i).1>0)/\VN 200 (cF p i).2.1)->r=false) :
 aN (fun k m0=>(bif decide (sE (cF p i).1>(40:Int)) then some true else (bif decide ((i:Int)>(0:Int)) then if 0<=(wrap64 ((i:Int)-(1:Int)))/\(wrap64 ((i:Int)-(1:Int)))<(List.length p.2.1:Int) then (eA k ((cG (t:=ah) p.2.1 (wrap64 ((i:Int)-(1:Int))):aj).1) (cF p i).1).bind fun (v8:Int) =>
  some (decide (v8<=(0:Int))) else none else some false).bind fun (b9:Bool) =>
  some b9).bind fun (b10:Bool) =>
  (bif b10 then some true else (eD k (cF p i).2.1 (200:Int)).bind fun (v11:Bool) =>
  some (!v11)).bind fun (b12:Bool) =>
  bif b12 then
   some false
  else
   bA.l0 k m0 p.2.1 (p.2.1.length:Int) (wrap64 ((i:Int)+(1:Int))) p) r:=by
 have hlen:=ha.1
 have hv:Ev (fun k=>eD k (cF p i).2.1 (200:Int)) (dc (VN 200 (cF p i).2.1)):=zm 200 Q2 (yE ha hi).2
 by_cases c1:sE (cF p i).1>40
 ·rw [hf (fun h=>Q2)]
  exact aN.bind (a:=true) (bT (decide_eq_true c1) (aT _)) (aN.bind (a:=true) (bT rfl (aT _)) (aN.bT rfl (aN.of (aT _))))
 have h2:Ev (fun k=>(bif decide ((i:Int)>(0:Int)) then if 0<=(wrap64 ((i:Int)-(1:Int)))/\(wrap64 ((i:Int)-(1:Int)))<(List.length p.2.1:Int) then (eA k ((cG (t:=ah) p.2.1 (wrap64 ((i:Int)-(1:Int))):aj).1) (cF p i).1).bind fun (v8:Int)=>some (decide (v8<=(0:Int))) else none else some false)) (dc (¬ (0<i->cQ (cF p (i-1)).1 (cF p i).1>0))):=by
  by_cases c0:0<i
  ·have e1:wrap64 ((i:Int)-1)=((i-1:Nat):Int):=by rw [cx Q2 Q2];omega
   rw [e1]
   refine bT (decide_eq_true Q2) (iT Q2 (Ev.bind (vI _ _ (hp c0) hl) ?_))
   have:decide (cQ (cF p (i-1)).1 (cF p i).1<=0)=dc (¬ (0<i->cQ (cF p (i-1)).1 (cF p i).1>0)):=yp (by
    rw [decide_eq_true_eq]
    constructor
    ·intro h h'
     have:=h' c0
     omega
    intro h
    apply Classical.byContradiction
    intro h'
    exact h (fun _=>Q2))
   rw [<- this]
   exact aT _
  rw [dN (fun h=>h (fun h'=>absurd h' c0))]
  exact bF (decide_eq_false Q2) (aT _)
 by_cases c2:(0<i->cQ (cF p (i-1)).1 (cF p i).1>0)
 ·rw [dN (fun h=>h c2)] at h2
  refine aN.bind (a:=false) (bF (decide_eq_false c1) (Ev.bind h2 (aT _))) ?_
  by_cases c3:VN 200 (cF p i).2.1
  ·rw [fy c3] at hv
   refine aN.bind (a:=false) (bF rfl (Ev.bind hv (aT _))) (aN.bF rfl ?_)
   rw [fN Q2]
   exact hr ⟨Q2,c2,c3⟩
  rw [dN c3] at hv
  rw [hf (fun h=>c3 h.2.2)]
  exact aN.bind (a:=true) (bF rfl (Ev.bind hv (aT _))) (aN.bT rfl (aN.of (aT _)))
 rw [fy c2] at h2
 rw [hf (fun h=>c2 h.2.1)]
 exact aN.bind (a:=true) (bF (decide_eq_false c1) (Ev.bind h2 (aT _))) (aN.bind (a:=true) (bT rfl (aT _)) (aN.bT rfl (aN.of (aT _))))
theorem An (ha:mJ p) (h8:p.1<=8) (hi:i<p.2.1.length) (hp:0<i->((cF p (i-1)).1.length:Int)=p.1) {r:Bool} (hr:qX p i->aN (fun k m=>bA.l0 k m p.2.1 (p.2.1.length:Int) ((i+1:Nat):Int) p) r) (hf:¬ qX p i->r=false) :
 aN (fun k m=>bA.l0 k m p.2.1 (p.2.1.length:Int) (i:Int) p) r:=by
 have hlen:=ha.1
 have harg:=yE ha hi
 refine aN.step (fun k m=>bA.aR k m _ _ _ _) (aN.bT (decide_eq_true Q2) (aN.iT Q2 ?_))
 by_cases c1:((cF p i).1.length:Int)=p.1
 ·have b1:((List.length (cF p i).1:Int) != p.1)=false:=by simp [c1]
  have hfit:Ev (fun k=>l5 k (cF p i).2.1 (200:Int)) _:=BK (cF p i).2.1 200
  by_cases c2:(cF p i).2.1.2.1.length<=200/\(cF p i).2.1.2.2.1.length<=200
  ·rw [decide_eq_true c2] at hfit
   obtain ⟨s,hs1,hs2⟩:=zn (cF p i).2.1
   by_cases c3:(cF p i).2.1.2.1.length=0
   ·rw [decide_eq_true c3] at hs2
    rw [hf (fun h=>h.1.ne c3)]
    exact aN.bind (a:=false) (bF b1 (Ev.bind hfit (aT _))) (aN.bind (a:=true) (bF rfl (Ev.bind hs1 (by rw [hs2];exact aT _))) (aN.bT rfl (aN.of (aT _))))
   rw [decide_eq_false c3] at hs2
   refine aN.bind (a:=false) (bF b1 (Ev.bind hfit (aT _))) (aN.bind (a:=false) (bF rfl (Ev.bind hs1 (by rw [hs2];exact aT _))) (aN.bF rfl ?_))
   have hx8:(cF p i).1.length<=8:=Q2
   have tl:=CZ (r:=r) ha hi harg.1 (fun h0=>by have:=hp h0;omega)
   have bnd:∀ j,(∀ j' (h:j'<(cF p i).1.length),j'<j->0<=(cF p i).1[j']/\(cF p i).1[j']<=40)->0<=sE ((cF p i).1.take j)/\sE ((cF p i).1.take j)<=320:=fun j hg=>by
    have h1:=rq (B:=40) Q2 (l:=(cF p i).1.take j) (fun x hx=>by
     obtain ⟨j',h1,rfl⟩:=List.getElem_of_mem hx
     rw [List.length_take] at h1
     rw [List.getElem_take]
     exact hg j' Q2 Q2)
    have h2:(((cF p i).1.take j).length:Int)<=8:=by rw [List.length_take];omega
    omega
   have key:=pT (n:=(cF p i).1.length) (P:=fun j=>(∀ j' (h:j'<(cF p i).1.length),j'<j->0<=(cF p i).1[j']/\(cF p i).1[j']<=40)->eL (fun k m1 m0=>bA.l1 k m1 m0 (i:Int) (sE ((cF p i).1.take j)) p.2.1 (p.2.1.length:Int) (i:Int) (cF p i).1 ((cF p i).1.length:Int) (j:Int) p (cF p i)) r) ?_ ?_ 0 (Nat.zero_le _) (fun j' _ h=>Q2)
   ·exact key.diag
   ·intro hg
    have hall:∀ x∈(cF p i).1,0<=x/\x<=40:=fun x hx=>by
     obtain ⟨j',h1,rfl⟩:=List.getElem_of_mem hx
     exact hg j' h1 h1
    rw [List.take_length]
    refine eL.step (fun k m1 m0=>bA.eB k m1 m0 _ _ _ _ _ _ _ _ _ _) (eL.bF (decide_eq_false Q2) (eL.of ?_))
    refine tl (fun h=>hr ⟨⟨c1,hall,h.1,h.2.2,c3⟩,h.2.1⟩) (fun h=>hf (fun g=>h ⟨g.1.sum,g.2,g.1.co⟩))
   intro j hj ih hg
   have e1:(cG (t:=(.int .i64)) (cF p i).1 (j:Int):Int)=(cF p i).1[j]:=cy hj
   refine eL.step (fun k m1 m0=>bA.eB k m1 m0 _ _ _ _ _ _ _ _ _ _) (eL.bT (decide_eq_true Q2) (eL.iT Q2 ?_))
   rw [e1]
   by_cases g1:0<=(cF p i).1[j]/\(cF p i).1[j]<=40
   ·have b2:=bnd (j+1) (fun j' h1 h2=>by
     by_cases c:j'=j
     ·subst c;exact g1
     exact hg j' h1 Q2)
    have b3:=mQ hj
    refine eL.bind (a:=false) (bF (decide_eq_false (show ¬ (cF p i).1[j]<0 by omega)) (qS (show ¬ (cF p i).1[j]>40 by omega))) (eL.bF rfl ?_)
    rw [<- b3,cx Q2 Q2,fN Q2]
    exact ih (fun j' h1 h2=>by
     by_cases c:j'=j
     ·subst c;exact g1
     exact hg j' h1 Q2)
   rw [hf (fun h=>g1 (h.1.ex _ (List.getElem_mem hj)))]
   refine eL.bind (a:=true) ?_ (eL.bT rfl (eL.of (aN.of (aT _))))
   by_cases g2:(cF p i).1[j]<0
   ·exact bT (decide_eq_true g2) (aT _)
   exact bF (decide_eq_false g2) (zG (show (cF p i).1[j]>40 by omega))
  rw [decide_eq_false c2] at hfit
  rw [hf (fun h=>c2 (Hz h.1.co))]
  exact aN.bind (a:=true) (bF b1 (Ev.bind hfit (aT _))) (aN.bind (a:=true) (bT rfl (aT _)) (aN.bT rfl (aN.of (aT _))))
 have b1:((List.length (cF p i).1:Int) != p.1)=true:=by simp [c1]
 rw [hf (fun h=>c1 h.1.len)]
 exact aN.bind (a:=true) (bT b1 (aT _)) (aN.bind (a:=true) (bT rfl (aT _)) (aN.bT rfl (aN.of (aT _))))
theorem jL (ha:mJ p):Ev (fun k=>bA k p) (dc (fO p)):=by
 have hlen:=ha.1
 by_cases c0:p.1<0
 ·rw [dN (fun h=>by have:=h.n0;omega)]
  exact Ev.step (fun k=>jM k p) (Ev.bind (a:=true) (bT (decide_eq_true c0) (aT _)) (Ev.bind (a:=true) (bT rfl (aT _)) (bT rfl (aT _))))
 by_cases c8:p.1>8
 ·rw [dN (fun h=>by have:=h.n8;omega)]
  exact Ev.step (fun k=>jM k p) (Ev.bind (a:=true) (bF (decide_eq_false c0) (zG c8)) (Ev.bind (a:=true) (bT rfl (aT _)) (bT rfl (aT _))))
 by_cases c4:p.2.1.length>4000
 ·rw [dN (fun h=>by have:=h.yn;omega)]
  exact Ev.step (fun k=>jM k p) (Ev.bind (a:=false) (bF (decide_eq_false c0) (qS c8)) (Ev.bind (a:=true) (bF rfl (zG Q2)) (bT rfl (aT _))))
 refine Ev.step (fun k=>jM k p) (Ev.bind (a:=false) (bF (decide_eq_false c0) (qS c8)) (Ev.bind (a:=false) (bF rfl (qS Q2)) (bF rfl (aN.diag (g:=fun k m=>bA.l0 k m p.2.1 (p.2.1.length:Int) (0:Int) p) ?_))))
 have main:=pT (n:=p.2.1.length) (P:=fun i=>(∀ j,j<i->qX p j)->aN (fun k m=>bA.l0 k m p.2.1 (p.2.1.length:Int) (i:Int) p) (dc (fO p))) ?_ ?_ 0 (Nat.zero_le _) (fun j h=>Q2)
 ·exact main
 ·intro hg
  rw [fy ⟨Q2,Q2,Q2,hg⟩]
  exact aN.step (fun k m=>bA.aR k m _ _ _ _) (aN.bF (decide_eq_false Q2) (aN.of (aT _)))
 intro i hi ih hg
 refine An ha Q2 hi (fun h0=>(hg (i-1) Q2).1.len) (fun h=>ih (fun j hj=>?_)) (fun h=>dN (fun hv=>h (hv.good i hi)))
 by_cases c:j=i
 ·rw [c];exact h
 exact hg j Q2
end
theorem IG {x:List Int} (h:x.length<=8) {j:Nat} (hj:j<x.length):(eh (x.take j)).set j x[j]=eh (x.take (j+1)):=by
 have e1:(x.take j).length=j:=by rw [List.length_take];omega
 have e2:(x.take (j+1)).length=j+1:=by rw [List.length_take];omega
 rw [eh,eh,df _ _ _ Q2,df _ _ _ Q2,e1,e2,List.take_succ_eq_append_getElem hj]
 obtain ⟨d,hd⟩:∃ d,8-j=d+1:=⟨8-j-1,Q2⟩
 rw [hd,show 8-(j+1)=d by omega,List.replicate_succ,List.set_append_right _ _ Q2,e1,Nat.sub_self,List.append_assoc]
 rfl
noncomputable def B7 (p:aB) (i:Nat):List Int:=match i with
 | 0=>List.replicate 8 (0:Int)
 | i+1=>eh (cF p i).1
theorem kf (v:bB) (N:Nat):Ev (fun k=>cL k v (N:Int)) (decide (v.2.1.length<=N/\v.2.2.1.length<=N)):=yX v N
section
variable {p:aB} {i:Nat}
theorem Gt (ha:mJ p) (h8:p.1<=8) (hi:i<p.2.1.length) (hp:0<i->((cF p (i-1)).1.length:Int)=p.1) {r:Bool} (hr:qX p i->aN (fun k m=>aV.l0 k m p.2.1 (p.2.1.length:Int) ((i+1:Nat):Int) p (B7 p (i+1))) r) (hf:¬ qX p i->r=false) :
 aN (fun k m=>aV.l0 k m p.2.1 (p.2.1.length:Int) (i:Int) p (B7 p i)) r:=by
 have hlen:=ha.1
 have harg:=yE ha hi
 refine aN.step (fun k m=>aV.aR k m _ _ _ _ _) (aN.bT (decide_eq_true Q2) (aN.iT Q2 ?_))
 by_cases c1:((cF p i).1.length:Int)=p.1
 ·have b1:((List.length (cF p i).1:Int) != p.1)=false:=by simp [c1]
  have hsh:Ev (fun k=>cL k (cF p i).2.1 (200:Int)) _:=kf (cF p i).2.1 200
  by_cases c2:(cF p i).2.1.2.1.length<=200/\(cF p i).2.1.2.2.1.length<=200
  ·rw [decide_eq_true c2] at hsh
   have hv:=yV harg.2
   by_cases c3:Vd (cF p i).2.1
   ·rw [fy c3] at hv
    have hvn:VN 200 (cF p i).2.1:=(Al Q2 harg.2).2 ⟨c2,c3⟩
    by_cases c4:(cF p i).2.1.2.1.length=0
    ·rw [hf (fun h=>h.1.ne c4)]
     exact aN.bind (a:=false) (bF b1 (Ev.bind hsh (aT _))) (aN.bind (a:=false) (bF rfl (Ev.bind hv (aT _))) (aN.bind (a:=true) (bF rfl (by rw [show ((List.length (cF p i).2.1.2.1:Int)==(0:Int))=true by simp [c4]];exact aT _)) (aN.bT rfl (aN.of (aT _)))))
    have c4':((List.length (cF p i).2.1.2.1:Int)==(0:Int))=false:=by simp;intro h;exact c4 (by rw [h];rfl)
    refine aN.bind (a:=false) (bF b1 (Ev.bind hsh (aT _))) (aN.bind (a:=false) (bF rfl (Ev.bind hv (aT _))) (aN.bind (a:=false) (bF rfl (by rw [c4'];exact aT _)) (aN.bF rfl ?_)))
    have hx8:(cF p i).1.length<=8:=Q2
    have key:=pT (n:=(cF p i).1.length) (P:=fun j=>(∀ j' (h:j'<(cF p i).1.length),j'<j->0<=(cF p i).1[j']/\(cF p i).1[j']<=40)->eL (fun k m1 m0=>aV.l1 k m1 m0 (i:Int) p.2.1 (p.2.1.length:Int) (i:Int) (cF p i).1 ((cF p i).1.length:Int) (j:Int) p (B7 p i) (eh ((cF p i).1.take j))) r) ?_ ?_ 0 (Nat.zero_le _) (fun j' _ h=>Q2)
    ·exact key.diag
    ·intro hg
     have hall:∀ x∈(cF p i).1,0<=x/\x<=40:=fun x hx=>by
      obtain ⟨j',h1,rfl⟩:=List.getElem_of_mem hx
      exact hg j' h1 h1
     rw [List.take_length]
     have hb8:∀ x∈eh (cF p i).1,0<=x/\x<=1000000:=fun x hx=>by
      rw [eh,df _ _ _ hx8,List.mem_append,List.mem_replicate] at hx
      rcases hx with hx | hx
      ·have:=hall x hx;omega
      omega
     have ht:=mU (eh (cF p i).1) (dX _ _ _) hb8
     rw [Ik hx8] at ht
     refine eL.step (fun k m1 m0=>aV.eB k m1 m0 _ _ _ _ _ _ _ _ _ _) (eL.bF (decide_eq_false Q2) (eL.bind ht (eL.of ?_)))
     by_cases d1:sE (cF p i).1>40
     ·rw [hf (fun h=>by have:=h.1.sum;omega)]
      exact aN.bind (a:=true) (bT (decide_eq_true d1) (aT _)) (aN.bT rfl (aN.of (aT _)))
     have h2:Ev (fun k=>(bif decide ((i:Int)>(0:Int)) then (bK k (B7 p i) (eh (cF p i).1)).bind fun (v10:Bool)=>some (!v10) else some false)) (dc (¬ (0<i->cQ (cF p (i-1)).1 (cF p i).1>0))):=by
      cases i with
      | zero =>
       rw [dN (fun h=>h (fun h'=>absurd h' Q2))]
       exact bF (decide_eq_false Q2) (aT _)
      | succ i0 =>
       have hpl:=hp Q2
       rw [Nat.add_sub_cancel] at hpl ⊢
       have hbf:=qh (eh (cF p i0).1) (eh (cF p (i0+1)).1) (dX _ _ _) (dX _ _ _)
       rw [CD Q2 Q2] at hbf
       have:(!decide (cQ (cF p i0).1 (cF p (i0+1)).1>0))=dc (¬ (0<i0+1->cQ (cF p i0).1 (cF p (i0+1)).1>0)):=yp (by
        rw [Bool.not_eq_true',decide_eq_false_iff_not]
        exact ⟨fun h h'=>h (h' Q2),fun h h'=>h (fun _=>h')⟩)
       rw [<- this]
       exact bT (decide_eq_true Q2) (Ev.bind hbf (aT _))
     by_cases d2:(0<i->cQ (cF p (i-1)).1 (cF p i).1>0)
     ·rw [dN (fun h=>h d2)] at h2
      refine aN.bind (a:=false) (bF (decide_eq_false d1) (Ev.bind h2 (aT _))) (aN.bF rfl ?_)
      rw [fN Q2]
      exact hr ⟨⟨c1,hall,Q2,hvn,c4⟩,d2⟩
     rw [fy d2] at h2
     rw [hf (fun h=>d2 h.2)]
     exact aN.bind (a:=true) (bF (decide_eq_false d1) (Ev.bind h2 (aT _))) (aN.bT rfl (aN.of (aT _)))
    intro j hj ih hg
    have e1:(cG (t:=(.int .i64)) (cF p i).1 (j:Int):Int)=(cF p i).1[j]:=cy hj
    refine eL.step (fun k m1 m0=>aV.eB k m1 m0 _ _ _ _ _ _ _ _ _ _) (eL.bT (decide_eq_true Q2) (eL.iT Q2 ?_))
    rw [e1]
    by_cases g1:0<=(cF p i).1[j]/\(cF p i).1[j]<=40
    ·refine eL.bind (a:=false) (bF (decide_eq_false (show ¬ (cF p i).1[j]<0 by omega)) (qS (show ¬ (cF p i).1[j]>40 by omega))) (eL.bF rfl (eL.iT Q2 ?_))
     rw [ER (dX _ _ _) Q2,IG hx8 hj,fN Q2]
     exact ih (fun j' h1 h2=>by
      by_cases c:j'=j
      ·subst c;exact g1
      exact hg j' h1 Q2)
    rw [hf (fun h=>g1 (h.1.ex _ (List.getElem_mem hj)))]
    refine eL.bind (a:=true) ?_ (eL.bT rfl (eL.of (aN.of (aT _))))
    by_cases g2:(cF p i).1[j]<0
    ·exact bT (decide_eq_true g2) (aT _)
    exact bF (decide_eq_false g2) (zG (show (cF p i).1[j]>40 by omega))
   rw [dN c3] at hv
   rw [hf (fun h=>c3 ((Al Q2 harg.2).1 h.1.co).2)]
   exact aN.bind (a:=false) (bF b1 (Ev.bind hsh (aT _))) (aN.bind (a:=true) (bF rfl (Ev.bind hv (aT _))) (aN.bind (a:=true) (bT rfl (aT _)) (aN.bT rfl (aN.of (aT _)))))
  rw [decide_eq_false c2] at hsh
  rw [hf (fun h=>c2 (Hz h.1.co))]
  exact aN.bind (a:=true) (bF b1 (Ev.bind hsh (aT _))) (aN.bind (a:=true) (bT rfl (aT _)) (aN.bind (a:=true) (bT rfl (aT _)) (aN.bT rfl (aN.of (aT _)))))
 have b1:((List.length (cF p i).1:Int) != p.1)=true:=by simp [c1]
 rw [hf (fun h=>c1 h.1.len)]
 exact aN.bind (a:=true) (bT b1 (aT _)) (aN.bind (a:=true) (bT rfl (aT _)) (aN.bind (a:=true) (bT rfl (aT _)) (aN.bT rfl (aN.of (aT _)))))
theorem lF (ha:mJ p):Ev (fun k=>aV k p) (dc (fO p)):=by
 have hlen:=ha.1
 by_cases c0:p.1<0
 ·rw [dN (fun h=>by have:=h.n0;omega)]
  exact Ev.step (fun k=>e9 k p) (Ev.bind (a:=true) (bT (decide_eq_true c0) (aT _)) (Ev.bind (a:=true) (bT rfl (aT _)) (bT rfl (aT _))))
 by_cases c8:p.1>8
 ·rw [dN (fun h=>by have:=h.n8;omega)]
  exact Ev.step (fun k=>e9 k p) (Ev.bind (a:=true) (bF (decide_eq_false c0) (zG c8)) (Ev.bind (a:=true) (bT rfl (aT _)) (bT rfl (aT _))))
 by_cases c4:p.2.1.length>4000
 ·rw [dN (fun h=>by have:=h.yn;omega)]
  exact Ev.step (fun k=>e9 k p) (Ev.bind (a:=false) (bF (decide_eq_false c0) (qS c8)) (Ev.bind (a:=true) (bF rfl (zG Q2)) (bT rfl (aT _))))
 refine Ev.step (fun k=>e9 k p) (Ev.bind (a:=false) (bF (decide_eq_false c0) (qS c8)) (Ev.bind (a:=false) (bF rfl (qS Q2)) (bF rfl (aN.diag (g:=fun k m=>aV.l0 k m p.2.1 (p.2.1.length:Int) (0:Int) p (List.replicate 8 (0:Int))) ?_))))
 have main:=pT (n:=p.2.1.length) (P:=fun i=>(∀ j,j<i->qX p j)->aN (fun k m=>aV.l0 k m p.2.1 (p.2.1.length:Int) (i:Int) p (B7 p i)) (dc (fO p))) ?_ ?_ 0 (Nat.zero_le _) (fun j h=>Q2)
 ·exact main
 ·intro hg
  rw [fy ⟨Q2,Q2,Q2,hg⟩]
  exact aN.step (fun k m=>aV.aR k m _ _ _ _ _) (aN.bF (decide_eq_false Q2) (aN.of (aT _)))
 intro i hi ih hg
 refine Gt ha Q2 hi (fun h0=>(hg (i-1) Q2).1.len) (fun h=>ih (fun j hj=>?_)) (fun h=>dN (fun hv=>h (hv.good i hi)))
 by_cases c:j=i
 ·rw [c];exact h
 exact hg j Q2
end
end Go.Proofs.YtfbgaddecbiimaaGreatDoor.Q
end
section
namespace Go.Proofs.YtfbgaddecbiimaaGreatDoor.Q
open Go.RowKit Go.Proofs.YtfbgaddecbiimaaGreatDoor.V Go.Proofs.YtfbgaddecbiimaaGreatDoor.E
theorem Hj (k:Nat):gU (k+60)=some true:=by
 kernel_rfl
open Go.Proofs.YtfbgaddecbiimaaGreatDoorW.PrintWords Go.Proofs.YtfbgaddecbiimaaGreatDoorW.PrintMore
open Go.Proofs.YtfbgaddecbiimaaGreatDoor.P (Dg Nm vl WW RR bI gI aT jn kq dw aI bG aY cx u64)
theorem Hl:Ev (fun k=>gU k) true:=⟨60,fun k hk=>by
 obtain ⟨j,rfl⟩:∃ j,k=j+60:=⟨k-60,Q2⟩
 exact Hj j⟩
abbrev three:bB:=(false,[3],[1],())
theorem CM {y:aB} (h:xp ai y):mJ y:=by
 obtain ⟨_,⟨h1,h2⟩,_⟩:=h
 exact ⟨h1,fun t ht=>⟨(h2 t ht).1.1,F1 (h2 t ht).2.1⟩⟩
theorem Ls {x:List Int} (h:x.length<=8):jZ (List.replicate 8 (0:Int)) x=eh x:=by
 rw [eh,df _ _ _ h]
 simp only [jZ,List.length_replicate,Nat.min_eq_left h,List.take_length,List.drop_replicate]
def RelT (t u:aj):Prop:=u.1=eh t.1/\∃ q,RB WW t.2.1 q/\RB RR u.2.1 q/\Sz WW 200 q/\Sz RR 800 q
section
variable {p:aB}
theorem E2 (ha:mJ p) (hv:fO p):∃ r:List aj,Ev (fun k=>bL k p) r/\r.length=p.2.1.length/\∀ i (h:i<r.length),RelT (cF p i) r[i]:=by
 have hfew:=hv.yn
 have main:=pT (n:=p.2.1.length) (P:=fun i=>∀ acc:List aj,acc.length=i->∃ r:List aj,r.length=p.2.1.length-i/\(∀ j (h:j<r.length),RelT (cF p (i+j)) r[j])/\aN (fun k m=>bL.l0 k m p.2.1 (p.2.1.length:Int) (i:Int) acc) (acc++r)) ?_ ?_ 0 (Nat.zero_le _) [] rfl
 ·obtain ⟨r,h1,h2,h3⟩:=main
  refine ⟨r,Ev.step (fun k=>oY k p) h3.diag,Q2,fun i h=>?_⟩
  have:=h2 i h
  rwa [Nat.zero_add] at this
 ·intro acc hacc
  exact ⟨[],Q3,fun j h=>by simp at h,aN.step (fun k m=>bL.aR k m _ _ _ _) (aN.bF (decide_eq_false Q2) (by rw [List.append_nil];exact aN.of (aT _)))⟩
 intro i hi ih acc hacc
 obtain ⟨⟨c1,c2,c3,c4,c5⟩,_⟩:=hv.good i hi
 have h8:(cF p i).1.length<=8:=by have:=hv.n8;omega
 obtain ⟨q,q1,q2⟩:=c4
 obtain ⟨v,v1,v2,v3⟩:=xL q1 q2 Q2
 obtain ⟨r,r1,r2,r3⟩:=ih (acc++[(eh (cF p i).1,v,())]) (by simp [hacc])
 refine ⟨(eh (cF p i).1,v,()) :: r,by simp only [List.length_cons];omega,fun j h=>?_,?_⟩
 ·cases j with
  | zero=>exact ⟨rfl,q,q1,v2,q2,v3⟩
  | succ j =>
   have:=r2 j (by simpa using h)
   rw [show i+1+j=i+(j+1) by omega] at this
   exact this
 refine aN.step (fun k m=>bL.aR k m _ _ _ _) (aN.bT (decide_eq_true Q2) (aN.iT Q2 (aN.iT Q3 (aN.bind v1 (aN.iT ?_ ?_)))))
 ·simp only [List.length_cons,List.length_nil];omega
 rw [show jZ (List.replicate 8 (0:Int)) (cG (t:=ah) p.2.1 (i:Int):aj).1=eh (cF p i).1 from Ls h8,fN Q2]
 rw [show acc++(eh (cF p i).1,v,()) :: r=(acc++[(eh (cF p i).1,v,())])++r by simp]
 exact r3
theorem vn {r:List aj} (hl:r.length<=9223372036854775807) (h:∀ i (h:i<r.length),r[i].1.length=8/\∀ x∈r[i].1,0<=x/\x<=1000000):∃ d,Ev (fun k=>bw k r) d:=by
 have main:=pT (n:=r.length) (P:=fun i=>∀ x:Int,∃ d,aN (fun k m=>bw.l0 k m x r (r.length:Int) (i:Int)) d) ?_ ?_ 0 (Nat.zero_le _) (-1)
 ·obtain ⟨d,hd⟩:=main
  exact ⟨d,Ev.step (fun k=>iD k r) hd.diag⟩
 ·exact fun x=>⟨x,aN.step (fun k m=>bw.aR k m _ _ _ _) (aN.bF (decide_eq_false Q2) (aN.of (aT _)))⟩
 intro i hi ih x
 obtain ⟨d,hd⟩:=ih (mx x (sE r[i].1))
 have e:(cG (t:=af) r (i:Int):aj)=r[i]:=cy hi
 refine ⟨d,aN.step (fun k m=>bw.aR k m _ _ _ _) (aN.bT (decide_eq_true Q2) (aN.iT Q2 ?_))⟩
 rw [e]
 refine aN.bind (mU _ (h i hi).1 (h i hi).2) ?_
 rw [fN Q2]
 exact hd
theorem GG {x:List Int} (h8:x.length<=8) (h:∀ y∈x,0<=y/\y<=40):∀ y∈eh x,0<=y/\y<=1000000:=fun y hy=>by
 rw [eh,df _ _ _ h8,List.mem_append,List.mem_replicate] at hy
 rcases hy with hy | hy
 ·have:=h y hy;omega
 omega
structure z8 (p:aB) (a c:Nat):Prop where
 ok:fO p
 yn:p.2.1.length<=a
 short:∀ i,i<p.2.1.length->(cF p i).2.1.2.1.length<=c/\(cF p i).2.1.2.2.1.length<=c
theorem yW (ha:mJ p) (a c:Nat) (b:Int):∃ t,Ev (fun k=>bh k p (a:Int) b (c:Int)) t/\(t=true->z8 p a c):=by
 have hlen:=ha.1
 by_cases c0:p.1<0
 ·exact ⟨false,Ev.step (fun k=>dY k p _ _ _) (Ev.bind (a:=true) (bT (decide_eq_true c0) (aT _)) (Ev.bind (a:=true) (bT rfl (aT _)) (bT rfl (aT _)))),fun h=>by cases h⟩
 by_cases c8:p.1>8
 ·exact ⟨false,Ev.step (fun k=>dY k p _ _ _) (Ev.bind (a:=true) (bF (decide_eq_false c0) (zG c8)) (Ev.bind (a:=true) (bT rfl (aT _)) (bT rfl (aT _)))),fun h=>by cases h⟩
 by_cases c4:p.2.1.length>a
 ·exact ⟨false,Ev.step (fun k=>dY k p _ _ _) (Ev.bind (a:=false) (bF (decide_eq_false c0) (qS c8)) (Ev.bind (a:=true) (bF rfl (zG Q2)) (bT rfl (aT _)))),fun h=>by cases h⟩
 have fin:∃ t,Ev (fun k=>(aV k p).bind fun (v4:Bool) =>
  (bif v4 then (bL k p).bind fun (v5:List aj) =>
  (bw k v5).bind fun (v6:Int) =>
  some (decide (v6<=b)) else some false).bind fun (b7:Bool) =>
  some b7) t/\(t=true->fO p):=by
  by_cases hv:fO p
  ·have h1:=lF ha
   rw [fy hv] at h1
   obtain ⟨r,r1,r2,r3⟩:=E2 ha hv
   obtain ⟨d,hd⟩:=vn (r:=r) (by have:=hv.yn;omega) (fun i h=>by
    obtain ⟨g1,_⟩:=hv.good i Q2
    have h8:(cF p i).1.length<=8:=by have:=hv.n8;have:=g1.len;omega
    rw [(r3 i h).1]
    exact ⟨dX _ _ _,GG h8 g1.ex⟩)
   exact ⟨decide (d<=b),Ev.bind h1 (Ev.bind (bT rfl (Ev.bind r1 (Ev.bind hd (aT _)))) (aT _)),fun _=>hv⟩
  have h1:=lF ha
  rw [dN hv] at h1
  exact ⟨false,Ev.bind h1 (Ev.bind (a:=false) (bF rfl (aT _)) (aT _)),fun h=>by cases h⟩
 obtain ⟨t0,f1,f2⟩:=fin
 have main:=pT (n:=p.2.1.length) (P:=fun i=>∃ t,aN (fun k m=>bh.l0 k m b (c:Int) p.2.1 (p.2.1.length:Int) (i:Int) p) t/\(t=true->fO p/\∀ j,i<=j->j<p.2.1.length->(cF p j).2.1.2.1.length<=c/\(cF p j).2.1.2.2.1.length<=c)) ?_ ?_ 0 (Nat.zero_le _)
 ·obtain ⟨t,h1,h2⟩:=main
  refine ⟨t,Ev.step (fun k=>dY k p _ _ _) (Ev.bind (a:=false) (bF (decide_eq_false c0) (qS c8)) (Ev.bind (a:=false) (bF rfl (qS Q2)) (bF rfl h1.diag))),fun h=>⟨(h2 h).1,Q2,fun i hi=>(h2 h).2 i (Nat.zero_le _) hi⟩⟩
 ·exact ⟨t0,aN.step (fun k m=>bh.aR k m _ _ _ _ _ _) (aN.bF (decide_eq_false Q2) (aN.of f1)),fun h=>⟨f2 h,fun j h1 h2=>Q2⟩⟩
 intro i hi ⟨t,h1,h2⟩
 have hsh:Ev (fun k=>cL k (cF p i).2.1 (c:Int)) _:=kf (cF p i).2.1 c
 by_cases d:(cF p i).2.1.2.1.length<=c/\(cF p i).2.1.2.2.1.length<=c
 ·rw [decide_eq_true d] at hsh
  refine ⟨t,aN.step (fun k m=>bh.aR k m _ _ _ _ _ _) (aN.bT (decide_eq_true Q2) (aN.iT Q2 (aN.bind hsh (aN.bF rfl ?_)))),fun h=>⟨(h2 h).1,fun j g1 g2=>?_⟩⟩
  ·rw [fN Q2];exact h1
  by_cases e:j=i
  ·rw [e];exact d
  exact (h2 h).2 j Q2 g2
 rw [decide_eq_false d] at hsh
 exact ⟨false,aN.step (fun k m=>bh.aR k m _ _ _ _ _ _) (aN.bT (decide_eq_true Q2) (aN.iT Q2 (aN.bind hsh (aN.bT rfl (aN.of (aT _)))))),fun h=>by cases h⟩
end
section
variable {a b:aB}
def LM (p:aB):Prop:=p.2.1.length<=9223372036854775807/\∀ i,i<p.2.1.length->(cF p i).1.length<=9223372036854775807/\(cF p i).2.1.2.1.length<4611686018427387904/\(cF p i).2.1.2.2.1.length<4611686018427387904
theorem rz (hf:LM a):Ev (fun k=>aK k a b) (dc (a.1=b.1/\a.2.1=b.2.1)):=by
 obtain ⟨hlen,hfw⟩:=hf
 by_cases c1:a.1=b.1
 ·by_cases c2:a.2.1.length=b.2.1.length
  ·refine Ev.step (fun k=>fZ k a b) (Ev.bind (a:=false) (bF (by simp [c1]) (by rw [show ((List.length a.2.1:Int) != (List.length b.2.1:Int))=false by simp [c2]];exact aT _)) (bF rfl (aN.diag (g:=fun k m=>aK.l0 k m a.2.1 (a.2.1.length:Int) (0:Int) b) ?_)))
   have bad:∀ i,i<a.2.1.length->cF a i≠cF b i->dc (a.1=b.1/\a.2.1=b.2.1)=false:=fun i hi h=>dN (fun g=>h (by show cG (t:=ah) a.2.1 (i:Int)=cG (t:=ah) b.2.1 (i:Int);rw [g.2]))
   have main:=pT (n:=a.2.1.length) (P:=fun i=>(∀ j,j<i->cF a j=cF b j)->aN (fun k m=>aK.l0 k m a.2.1 (a.2.1.length:Int) (i:Int) b) (dc (a.1=b.1/\a.2.1=b.2.1))) ?_ ?_ 0 (Nat.zero_le _) (fun j h=>Q2)
   ·exact main
   ·intro hg
    rw [fy ⟨c1,List.ext_getElem c2 (fun i h1 h2=>by
     have:=hg i h1
     rw [show cF a i=a.2.1[i] from cy h1,show cF b i=b.2.1[i] from cy h2] at this
     exact this)⟩]
    exact aN.step (fun k m=>aK.aR k m _ _ _ _) (aN.bF (decide_eq_false Q2) (aN.of (aT _)))
   intro i hi ih hg
   obtain ⟨f1,f2,f3⟩:=hfw i hi
   refine aN.step (fun k m=>aK.aR k m _ _ _ _) (aN.bT (decide_eq_true Q2) (aN.iT Q2 (aN.iT Q2 ?_)))
   by_cases d1:(cF a i).1.length=(cF b i).1.length
   ·have hs:=Bc (cF a i).2.1 (cF b i).2.1 f2 f3
    by_cases d2:(cF a i).2.1=(cF b i).2.1
    ·rw [decide_eq_true d2] at hs
     refine aN.bind (a:=false) (bF (by simp [d1]) (Ev.bind hs (aT _))) (aN.bF rfl ?_)
     have key:=pT (n:=(cF a i).1.length) (P:=fun j=>(∀ j' (h:j'<(cF a i).1.length) (h':j'<(cF b i).1.length),j'<j->(cF a i).1[j']=(cF b i).1[j'])->eL (fun k m1 m0=>aK.l1 k m1 m0 a.2.1 (a.2.1.length:Int) (i:Int) ((cF a i).1.length:Int) (j:Int) b (cF a i) (cF b i)) (dc (a.1=b.1/\a.2.1=b.2.1))) ?_ ?_ 0 (Nat.zero_le _) (fun j' _ _ h=>Q2)
     ·exact key.diag
     ·intro hj
      have e:(cF a i).1=(cF b i).1:=List.ext_getElem d1 (fun j h1 h2=>hj j h1 h2 h1)
      have et:cF a i=cF b i:=Prod.ext e (Prod.ext d2 rfl)
      refine eL.step (fun k m1 m0=>aK.eB k m1 m0 _ _ _ _ _ _ _ _) (eL.bF (decide_eq_false Q2) (eL.of ?_))
      rw [fN Q2]
      exact ih (fun j h=>by
       by_cases c:j=i
       ·rw [c];exact et
       exact hg j Q2)
     intro j hj ihj hgj
     have hj':j<(cF b i).1.length:=Q2
     have e1:(cG (t:=(.int .i64)) (cF a i).1 (j:Int):Int)=(cF a i).1[j]:=cy hj
     have e2:(cG (t:=(.int .i64)) (cF b i).1 (j:Int):Int)=(cF b i).1[j]:=cy hj'
     refine eL.step (fun k m1 m0=>aK.eB k m1 m0 _ _ _ _ _ _ _ _) (eL.bT (decide_eq_true Q2) (eL.iT Q2 (eL.iT Q2 ?_)))
     rw [e1,e2]
     by_cases g:(cF a i).1[j]=(cF b i).1[j]
     ·refine eL.bF (by simp [g]) ?_
      rw [fN Q2]
      exact ihj (fun j' h1 h2 h3=>by
       by_cases c:j'=j
       ·subst c;exact g
       exact hgj j' h1 h2 Q2)
     rw [bad i hi (fun e=>g (by simp only [e]))]
     exact eL.bT (by simp [g]) (eL.of (aN.of (aT _)))
    rw [decide_eq_false d2] at hs
    rw [bad i hi (fun e=>d2 (by rw [e]))]
    exact aN.bind (a:=true) (bF (by simp [d1]) (Ev.bind hs (aT _))) (aN.bT rfl (aN.of (aT _)))
   rw [bad i hi (fun e=>d1 (by rw [e]))]
   exact aN.bind (a:=true) (bT (show (((cF a i).1.length:Int) != ((cF b i).1.length:Int))=true by rw [bne_iff_ne];omega) (aT _)) (aN.bT rfl (aN.of (aT _)))
  rw [dN (fun h=>c2 (by rw [h.2]))]
  exact Ev.step (fun k=>fZ k a b) (Ev.bind (a:=true) (bF (by simp [c1]) (by rw [show ((List.length a.2.1:Int) != (List.length b.2.1:Int))=true by simp;omega];exact aT _)) (bT rfl (aT _)))
 rw [dN (fun h=>c1 h.1)]
 exact Ev.step (fun k=>fZ k a b) (Ev.bind (a:=true) (bT (by simp [c1]) (aT _)) (bT rfl (aT _)))
end
abbrev mS (r:List aj) (i:Nat):aj:=cG (t:=af) r (i:Int)
structure LH (r:List aj) (gJ:Nat->bB):Prop where
 yn:r.length<=100000
 len:∀ i,i<r.length->(mS r i).1.length=8
 ne:∀ i j,i<r.length->j<r.length->i≠j->(mS r i).1≠(mS r j).1
 co:∀ i,i<r.length->Ev (fun k=>fb k (mS r i).2.1) (gJ i)
noncomputable def Ae (r:List aj) (gJ:Nat->bB) (n:Nat) (i:Nat):aj:=((mS r i).1.take n,gJ i,())
def iM (a b:List Int):Prop:=cQ a b>0
theorem Cj {a b:List Int} (h:a.length=b.length) (hn:a≠b):iM a b∨iM b a:=by
 have h1:=uS h hn
 have h2:=mC a b h
 unfold iM
 omega
section
variable {r:List aj} {gJ:Nat->bB} {n:Nat}
def LO (r:List aj) (ch:List Nat) (j:Nat) (b:Int):Prop:=(b = -1/\∀ j',j'<j->j'∈ch)∨∃ b':Nat,b=(b':Int)/\b'<j/\b' ∉ ch/\∀ j',j'<j->j' ∉ ch->j'≠b'->iM (mS r b').1 (mS r j').1
theorem Lo {len:Nat} {ch:List Nat} {j:Nat} (h:j<len):(cG (t:=.bool) ((List.range len).map fun i=>decide (i∈ch)) (j:Int):Bool)=decide (j∈ch):=by
 have:(cG (t:=.bool) ((List.range len).map fun i=>decide (i∈ch)) (j:Int):Bool)=((List.range len).map fun i=>decide (i∈ch))[j]'(by simpa using h):=cy (by simpa using h)
 rw [this];simp
theorem Jt {len:Nat} {ch:List Nat} {b:Nat} (h:b<len):((List.range len).map fun i=>decide (i∈ch)).set b true=(List.range len).map fun i=>decide (i∈ch++[b]):=by
 apply List.ext_getElem Q3
 intro i h1 h2
 simp only [List.getElem_set,List.getElem_map,List.getElem_range,List.mem_append,List.mem_singleton]
 by_cases c:b=i
 ·rw [if_pos c];simp [c]
 rw [if_neg c];simp;intro e;exact absurd e.symm c
theorem vJ:∀ (l l':List Nat),l.Nodup->l'.Nodup->(∀ x,x∈l->x∈l')->l.length=l'.length->l.Perm l'
 | [],l',_,_,_,hl=>by
  have:l'=[]:=List.length_eq_zero_iff.1 hl.symm
  rw [this]
 | a :: l,l',h,h',hs,hl=>by
  have ha:=hs a Q3
  obtain ⟨h1,h2⟩:=List.nodup_cons.1 h
  have hp:=List.perm_cons_erase ha
  refine (List.Perm.cons a (vJ l (l'.erase a) h2 (h'.erase a) (fun x hx=>?_) ?_)).trans hp.symm
  ·have hne:x≠a:=fun e=>h1 (e ▸ hx)
   exact (List.mem_erase_of_ne hne).2 (hs x (by simp [hx]))
  rw [List.length_erase_of_mem ha,<- hl];simp
theorem FV (hr:LH r gJ) (ch:List Nat):∀ j,j<=r.length->∃ b,LO r ch j b
 | 0,_=>⟨-1,.inl ⟨rfl,fun j' h=>Q2⟩⟩
 | j+1,hj=>by
  obtain ⟨b,hb⟩:=FV hr ch j Q2
  have hjl:j<r.length:=Q2
  by_cases cj:j∈ch
  ·refine ⟨b,?_⟩
   rcases hb with ⟨rfl,hall⟩ | ⟨b',rfl,b1,b2,b3⟩
   ·exact .inl ⟨rfl,fun j' h=>by
     by_cases c:j'=j
     ·rw [c];exact cj
     exact hall j' Q2⟩
   exact .inr ⟨b',rfl,Q2,b2,fun j' h1 h2 h3=>b3 j' (by
    by_cases c:j'=j
    ·exact absurd (by rw [c];exact cj) h2
    omega) h2 h3⟩
  rcases hb with ⟨rfl,hall⟩ | ⟨b',rfl,b1,b2,b3⟩
  ·exact ⟨(j:Int),.inr ⟨j,rfl,Q2,cj,fun j' h1 h2 h3=>absurd (hall j' Q2) h2⟩⟩
  have hb':b'<r.length:=Q2
  have hlj:=hr.len j hjl
  have hlb:=hr.len b' hb'
  rcases Cj (hlj.trans hlb.symm) (hr.ne j b' hjl hb' Q2) with g | g
  ·refine ⟨(j:Int),.inr ⟨j,rfl,Q2,cj,fun j' h1 h2 h3=>?_⟩⟩
   by_cases c:j'=b'
   ·rw [c];exact g
   exact kL _ _ _ g (b3 j' Q2 h2 c) (hlj.trans hlb.symm) (hlb.trans (hr.len j' Q2).symm)
  refine ⟨(b':Int),.inr ⟨b',rfl,Q2,b2,fun j' h1 h2 h3=>?_⟩⟩
  by_cases c:j'=j
  ·rw [c];exact g
  exact b3 j' Q2 h2 h3
theorem J5 (hr:LH r gJ) (hn:n<=8) (ch:List Nat) (hc:∀ c∈ch,c<r.length) (hnd:ch.Nodup) (hlt:ch.length<r.length) {R:aB}
 (h:∀ b,b<r.length->b ∉ ch->(∀ j',j'<r.length->j' ∉ ch->j'≠b->iM (mS r b).1 (mS r j').1)->aN (fun k m=>aS.l0 k m r (n:Int) (r.length:Int) ((ch.length+1:Nat):Int) ((0:Int),[],()) (n:Int) ((ch++[b]).map (Ae r gJ n)) ((List.range r.length).map fun i=>decide (i∈ch++[b]))) R) :
 aN (fun k m0=>aS.l1 k k m0 r (n:Int) (-1:Int) (r.length:Int) (ch.length:Int) r (r.length:Int) (0:Int) ((0:Int),[],()) (n:Int) (ch.map (Ae r gJ n)) ((List.range r.length).map fun i=>decide (i∈ch))) R:=by
 have hfew:=hr.yn
 have key:=pT (n:=r.length) (P:=fun j=>∀ b,LO r ch j b->eL (fun k m1 m0=>aS.l1 k m1 m0 r (n:Int) b (r.length:Int) (ch.length:Int) r (r.length:Int) (j:Int) ((0:Int),[],()) (n:Int) (ch.map (Ae r gJ n)) ((List.range r.length).map fun i=>decide (i∈ch))) R) ?_ ?_ 0 (Nat.zero_le _) (-1) (.inl ⟨rfl,fun j' h=>Q2⟩)
 ·exact key.diag
 ·intro b hb
  rcases hb with ⟨rfl,hall⟩ | ⟨b',rfl,b1,b2,b3⟩
  ·exfalso
   have hsub:List.range r.length ⊆ ch:=fun i hi=>hall i (List.mem_range.1 hi)
   have:=(List.nodup_range (n:=r.length)).length_le_of_subset hsub
   rw [List.length_range] at this
   omega
  have hlen8:=hr.len b' b1
  have ep:ef (0:Int) 8 (mS r b').1=(mS r b').1:=by rw [df _ _ _ Q2,hlen8];simp
  refine eL.step (fun k m1 m0=>aS.eB k m1 m0 _ _ _ _ _ _ _ _ _ _ _ _) (eL.bF (decide_eq_false Q2) (eL.iT (by simp;omega) (eL.iT Q2 (eL.iT Q2 (eL.iT ?_ (eL.iT Q2 (eL.bind (hr.co b' b1) (eL.iT ?_ (eL.of ?_)))))))))
  ·have:(List.take (Int.toNat (n:Int)) (ef (0:Int) 8 (cG (t:=af) r (b':Int):aj).1)).length<=8:=by rw [List.length_take,dX];omega
   show (0+_)*8<=_
   omega
  ·rw [List.length_map];simp only [List.length_cons,List.length_nil];omega
  have:=h b' b1 b2 b3
  rw [fN Q2]
  have e1:((([]:List Int)++(List.take (Int.toNat (n:Int)) (ef (0:Int) 8 ((cG (t:=af) r (b':Int):aj).1))),gJ b',()):aj)=Ae r gJ n b':=by
   show (([]:List Int)++List.take n (ef (0:Int) 8 (mS r b').1),gJ b',())=_
   rw [ep];rfl
  rw [e1,Int.toNat_natCast,Jt b1]
  rw [show ch.map (Ae r gJ n)++[Ae r gJ n b']=(ch++[b']).map (Ae r gJ n) by simp]
  exact this
 intro j hj ih b hb
 refine eL.step (fun k m1 m0=>aS.eB k m1 m0 _ _ _ _ _ _ _ _ _ _ _ _) (eL.bT (decide_eq_true Q2) (eL.iT Q2 (eL.iT (by simp;omega) ?_)))
 rw [Lo hj]
 have HQ:LO r ch (j+1) (j:Int)->eL (fun k m1 m0=>aS.j0 k m0 m1 r (n:Int) (j:Int) (r.length:Int) (ch.length:Int) r (r.length:Int) (j:Int) ((0:Int),[],()) (n:Int) (ch.map (Ae r gJ n)) ((List.range r.length).map fun i=>decide (i∈ch))) R:=fun g=>by
  show eL (fun k m1 m0=>aS.l1 k m1 m0 r (n:Int) (j:Int) (r.length:Int) (ch.length:Int) r (r.length:Int) (wrap64 ((j:Int)+(1:Int))) ((0:Int),[],()) (n:Int) (ch.map (Ae r gJ n)) ((List.range r.length).map fun i=>decide (i∈ch))) R
  rw [fN Q2]
  exact ih _ g
 have keep_:LO r ch (j+1) b->eL (fun k m1 m0=>aS.j0 k m0 m1 r (n:Int) b (r.length:Int) (ch.length:Int) r (r.length:Int) (j:Int) ((0:Int),[],()) (n:Int) (ch.map (Ae r gJ n)) ((List.range r.length).map fun i=>decide (i∈ch))) R:=fun g=>by
  show eL (fun k m1 m0=>aS.l1 k m1 m0 r (n:Int) b (r.length:Int) (ch.length:Int) r (r.length:Int) (wrap64 ((j:Int)+(1:Int))) ((0:Int),[],()) (n:Int) (ch.map (Ae r gJ n)) ((List.range r.length).map fun i=>decide (i∈ch))) R
  rw [fN Q2]
  exact ih _ g
 by_cases cj:j∈ch
 ·rw [decide_eq_true cj]
  refine eL.bind (a:=false) (bF rfl (aT _)) (eL.bF rfl (keep_ ?_))
  rcases hb with ⟨rfl,hall⟩ | ⟨b',rfl,b1,b2,b3⟩
  ·exact .inl ⟨rfl,fun j' h=>by
    by_cases c:j'=j
    ·rw [c];exact cj
    exact hall j' Q2⟩
  exact .inr ⟨b',rfl,Q2,b2,fun j' h1 h2 h3=>b3 j' (by
   by_cases c:j'=j
   ·exact absurd (by rw [c];exact cj) h2
   omega) h2 h3⟩
 rw [decide_eq_false cj]
 rcases hb with ⟨rfl,hall⟩ | ⟨b',rfl,b1,b2,b3⟩
 ·refine eL.bind (a:=true) (bT rfl (Ev.bind (a:=true) (bT rfl (aT _)) (aT _))) (eL.bT rfl (HQ ?_))
  exact .inr ⟨j,rfl,Q2,cj,fun j' h1 h2 h3=>absurd (hall j' Q2) h2⟩
 have hb':b'<r.length:=Q2
 have hbf:=qh (mS r j).1 (mS r b').1 (hr.len j hj) (hr.len b' hb')
 have hlj:=hr.len j hj
 have hlb:=hr.len b' hb'
 have e0:Ev (fun k=>(bif decide ((b':Int)<(0:Int)) then some true else if 0<=(b':Int)/\(b':Int)<(List.length r:Int) then (bK k ((cG (t:=af) r (j:Int):aj).1) ((cG (t:=af) r (b':Int):aj).1)).bind fun (v1:Bool)=>some v1 else none)) (decide (cQ (mS r j).1 (mS r b').1>0)) :=
  bF (decide_eq_false Q2) (iT Q2 (Ev.bind hbf (aT _)))
 by_cases g:cQ (mS r j).1 (mS r b').1>0
 ·rw [decide_eq_true g] at e0
  refine eL.bind (a:=true) (bT rfl (Ev.bind e0 (aT _))) (eL.bT rfl (HQ (.inr ⟨j,rfl,Q2,cj,fun j' h1 h2 h3=>?_⟩)))
  by_cases c:j'=b'
  ·rw [c];exact g
  exact kL _ _ _ g (b3 j' Q2 h2 c) (hlj.trans hlb.symm) (hlb.trans (hr.len j' Q2).symm)
 rw [decide_eq_false g] at e0
 refine eL.bind (a:=false) (bT rfl (Ev.bind e0 (aT _))) (eL.bF rfl (keep_ (.inr ⟨b',rfl,Q2,b2,fun j' h1 h2 h3=>?_⟩)))
 by_cases c:j'=j
 ·rw [c]
  rcases Cj (hlb.trans hlj.symm) (hr.ne b' j hb' hj Q2) with h | h
  ·exact h
  exact absurd h g
 exact b3 j' Q2 h2 h3
theorem Kz (hr:LH r gJ) (hn:n<=8):∃ ch:List Nat,ch.Perm (List.range r.length)/\(ch.Pairwise fun a b=>iM (mS r a).1 (mS r b).1)/\Ev (fun k=>aS k r (n:Int)) ((n:Int),ch.map (Ae r gJ n),()):=by
 have hfew:=hr.yn
 have main:=pT (n:=r.length) (P:=fun i=>∀ ch:List Nat,ch.length=i->ch.Nodup->(∀ c∈ch,c<r.length)->(ch.Pairwise fun a b=>iM (mS r a).1 (mS r b).1)->(∀ c∈ch,∀ j,j<r.length->j ∉ ch->iM (mS r c).1 (mS r j).1) ->
  ∃ ch':List Nat,ch'.Perm (List.range r.length)/\(ch'.Pairwise fun a b=>iM (mS r a).1 (mS r b).1)/\aN (fun k m=>aS.l0 k m r (n:Int) (r.length:Int) (i:Int) ((0:Int),[],()) (n:Int) (ch.map (Ae r gJ n)) ((List.range r.length).map fun i=>decide (i∈ch))) ((n:Int),ch'.map (Ae r gJ n),())) ?_ ?_ 0 (Nat.zero_le _) [] rfl List.nodup_nil (fun c h=>by cases h) .nil (fun c h=>by cases h)
 ·obtain ⟨ch,h1,h2,h3⟩:=main
  refine ⟨ch,h1,h2,Ev.step (fun k=>oX k r _) (iT (by unfold maxLen;omega) ?_)⟩
  have e:(List.replicate (Int.toNat (List.length r:Int)) (false:Bool))=(List.range r.length).map fun i=>decide (i∈([]:List Nat)):=by
   rw [Int.toNat_natCast]
   apply List.ext_getElem Q3
   intro i h1 h2
   simp
  rw [e]
  exact h3.diag
 ·intro ch h1 h2 h3 h4 h5
  refine ⟨ch,?_,h4,aN.step (fun k m=>aS.aR k m _ _ _ _ _ _ _ _) (aN.bF (decide_eq_false Q2) (aN.of (aT _)))⟩
  exact vJ _ _ h2 List.nodup_range (fun c hc=>List.mem_range.2 (h3 c hc)) (by rw [List.length_range,h1])
 intro i hi ih ch h1 h2 h3 h4 h5
 subst h1
 have step:∀ b,b<r.length->b ∉ ch->(∀ j',j'<r.length->j' ∉ ch->j'≠b->iM (mS r b).1 (mS r j').1)->∃ ch':List Nat,ch'.Perm (List.range r.length)/\(ch'.Pairwise fun a b=>iM (mS r a).1 (mS r b).1)/\aN (fun k m=>aS.l0 k m r (n:Int) (r.length:Int) ((ch.length+1:Nat):Int) ((0:Int),[],()) (n:Int) ((ch++[b]).map (Ae r gJ n)) ((List.range r.length).map fun i=>decide (i∈ch++[b]))) ((n:Int),ch'.map (Ae r gJ n),()):=fun b b1 b2 b3=>by
  refine ih (ch++[b]) Q3 (List.nodup_append.2 ⟨h2,Q3,fun a ha c hc=>by simp at hc;subst hc;exact fun e=>b2 (e ▸ ha)⟩) (fun c hc=>?_) (List.pairwise_append.2 ⟨h4,Q3,fun a ha c hc=>by simp at hc;subst hc;exact h5 a ha _ b1 b2⟩) (fun c hc j hj hnj=>?_)
  ·simp only [List.mem_append,List.mem_singleton] at hc
   rcases hc with hc | rfl
   ·exact h3 c hc
   exact b1
  simp only [List.mem_append,List.mem_singleton,not_or] at hc hnj
  rcases hc with hc | rfl
  ·exact h5 c hc j hj hnj.1
  exact b3 j hj hnj.1 hnj.2
 have ex:∃ b,b<r.length/\b ∉ ch/\(∀ j',j'<r.length->j' ∉ ch->j'≠b->iM (mS r b).1 (mS r j').1):=by
  obtain ⟨b,hb⟩:=FV hr ch r.length (Nat.le_refl _)
  rcases hb with ⟨rfl,hall⟩ | ⟨b',rfl,b1,b2,b3⟩
  ·exfalso
   have hsub:List.range r.length ⊆ ch:=fun i hi=>hall i (List.mem_range.1 hi)
   have:=(List.nodup_range (n:=r.length)).length_le_of_subset hsub
   rw [List.length_range] at this
   omega
  exact ⟨b',b1,b2,b3⟩
 obtain ⟨b,b1,b2,b3⟩:=ex
 obtain ⟨ch',c1,c2,c3⟩:=step b b1 b2 b3
 refine ⟨ch',c1,c2,aN.step (fun k m=>aS.aR k m _ _ _ _ _ _ _ _) (aN.bT (decide_eq_true Q2) (J5 hr hn ch h3 h2 hi (fun b' g1 g2 g3=>?_)))⟩
 have e:b'=b:=by
  apply Classical.byContradiction
  intro hne
  have a1:=g3 b b1 b2 (fun e=>hne e.symm)
  have a2:=b3 b' g1 g2 hne
  have:=mC (mS r b).1 (mS r b').1 ((hr.len b b1).trans (hr.len b' g1).symm)
  unfold iM at a1 a2
  omega
 subst e
 exact c3
end
end Go.Proofs.YtfbgaddecbiimaaGreatDoor.Q
end
section
namespace Go.Proofs.YtfbgaddecbiimaaGreatDoor.G
abbrev Ex:=List Int
abbrev Tm:=Ex×Rat
def fj (m:Ex->Rat):List Tm->Rat
 | []=>0
 | t :: l=>t.2*m t.1+fj m l
def dl (e:Ex):Ex->Rat:=fun f=>if f=e then 1 else 0
def co (l:List Tm) (e:Ex):Rat:=fj (dl e) l
def j9 (p q:List Tm):Prop:=∀ m,fj m p=fj m q
theorem j9.refl (p:List Tm):j9 p p:=fun _=>rfl
theorem j9.symm {p q:List Tm} (h:j9 p q):j9 q p:=fun m=>(h m).symm
theorem j9.trans {p q r:List Tm} (h:j9 p q) (h':j9 q r):j9 p r:=fun m=>(h m).trans (h' m)
theorem gS (m:Ex->Rat):∀ p q,fj m (p++q)=fj m p+fj m q
 | [],q=>by simp only [List.nil_append,fj];grind
 | t :: p,q=>by
  have h:=gS m p q
  simp only [List.cons_append,fj,h]
  grind
theorem oU (m:Ex->Rat) {p q:List Tm} (h:p.Perm q):fj m p=fj m q:=by
 induction h with
 | nil=>rfl
 | cons t _ ih=>simp only [fj,ih]
 | swap a b l=>simp only [fj];grind
 | trans _ _ h1 h2=>exact h1.trans h2
theorem Eu (e:Ex):co [] e=0:=rfl
theorem sI (t:Tm) (l:List Tm) (e:Ex):co (t :: l) e=(if t.1=e then t.2 else 0)+co l e:=by
 simp only [co,fj,dl]
 split<;>grind
theorem zO {e:Ex}:∀ {l:List Tm},(∀ t∈l,t.1≠e)->co l e=0
 | [],_=>rfl
 | t :: l,h=>by
  rw [sI,zO (fun u hu=>h u (List.mem_cons_of_mem _ hu)),if_neg (h t (List.mem_cons_self ..))]
  grind
def neg (l:List Tm):List Tm:=l.map fun t=>(t.1,-t.2)
theorem Fv (m:Ex->Rat):∀ l,fj m (neg l) = -fj m l
 | []=>by simp only [neg,List.map_nil,fj];grind
 | t :: l=>by
  have h:=Fv m l
  simp only [neg] at h
  simp only [neg,List.map_cons,fj,h]
  grind
theorem j9.co {p q:List Tm} (h:j9 p q) (e:Ex):co p e=co q e:=h _
def iM:Ex->Ex->Bool
 | a :: l,b :: k=>if a=b then iM l k else decide (a>b)
 | _,_=>false
theorem qO:∀ a,iM a a=false
 | []=>rfl
 | a :: l=>by rw [iM,if_pos rfl];exact qO l
theorem mu:∀ {a b c:Ex},iM a b=true->iM b c=true->iM a c=true
 | [],_,_,h,_=>by simp [iM] at h
 | _ :: _,[],_,h,_=>by simp [iM] at h
 | _ :: _,_ :: _,[],_,h=>by simp [iM] at h
 | a :: l,b :: k,c :: j,h,h'=>by
  rw [iM] at h h' ⊢
  by_cases e:a=b
  ·rw [if_pos e] at h
   by_cases e':b=c
   ·rw [if_pos e'] at h'
    rw [if_pos (e.trans e')]
    exact mu h h'
   rw [if_neg e'] at h'
   rw [if_neg (by rw [e];exact e')]
   rw [e];exact h'
  rw [if_neg e] at h
  have h1:a>b:=by simpa using h
  by_cases e':b=c
  ·rw [if_neg (by rw [<- e'];exact e)]
   rw [<- e'];exact h
  rw [if_neg e'] at h'
  have h2:b>c:=by simpa using h'
  rw [if_neg Q2]
  simp;omega
theorem G3 {a b:Ex} (h:iM a b=true):iM b a=false:=by
 cases e:iM b a with
 | false=>rfl
 | true=>have:=mu h e;rw [qO] at this;cases this
theorem pO:∀ {a b:Ex},a.length=b.length->iM a b=false->iM b a=false->a=b
 | [],[],_,_,_=>rfl
 | [],_ :: _,h,_,_=>by simp at h
 | _ :: _,[],h,_,_=>by simp at h
 | a :: l,b :: k,h,h1,h2=>by
  rw [iM] at h1 h2
  by_cases e:a=b
  ·rw [if_pos e] at h1
   rw [if_pos e.symm] at h2
   rw [e,pO (by simpa using h) h1 h2]
  rw [if_neg e] at h1
  rw [if_neg (fun h=>e h.symm)] at h2
  have h3:¬ a>b:=by simpa using h1
  have h4:¬ b>a:=by simpa using h2
  omega
theorem gtE_ne {a b:Ex} (h:iM a b=true):a≠b:=fun e=>by rw [e,qO] at h;cases h
def fi (a b:Ex):Ex:=List.zipWith (· + ·) a b
theorem lB {a b:Ex} (h:a.length=b.length):(fi a b).length=a.length:=by
 simp [fi,h]
structure ka (n:Nat) (l:List Tm):Prop where
 ord:l.Pairwise fun a b=>iM a.1 b.1=true
 nz:∀ t∈l,t.2≠0
 len:∀ t∈l,t.1.length=n
structure jP (n:Nat) (l:List Tm):Prop where
 ne:l.Pairwise fun a b=>a.1≠b.1
 nz:∀ t∈l,t.2≠0
 len:∀ t∈l,t.1.length=n
theorem ka.dst {n:Nat} {l:List Tm} (h:ka n l):jP n l:=⟨h.ord.imp gtE_ne,h.nz,h.len⟩
theorem ka.nil (n:Nat):ka n []:=⟨.nil,(fun _ h=>by simp at h),(fun _ h=>by simp at h)⟩
theorem jP.nil (n:Nat):jP n []:=⟨.nil,(fun _ h=>by simp at h),(fun _ h=>by simp at h)⟩
theorem ka.tail {n:Nat} {t:Tm} {l:List Tm} (h:ka n (t :: l)):ka n l :=
 ⟨(List.pairwise_cons.1 h.ord).2,(fun u hu=>h.nz u (List.mem_cons_of_mem _ hu)),(fun u hu=>h.len u (List.mem_cons_of_mem _ hu))⟩
theorem jP.tail {n:Nat} {t:Tm} {l:List Tm} (h:jP n (t :: l)):jP n l :=
 ⟨(List.pairwise_cons.1 h.ne).2,(fun u hu=>h.nz u (List.mem_cons_of_mem _ hu)),(fun u hu=>h.len u (List.mem_cons_of_mem _ hu))⟩
theorem jP.qV {n:Nat}:∀ {l:List Tm},jP n l->∀ t∈l,co l t.1=t.2
 | [],_,t,ht=>by simp at ht
 | u :: l,h,t,ht=>by
  rw [sI]
  rcases List.mem_cons.1 ht with e | e
  ·subst e
   rw [if_pos rfl,zO (fun v hv=>fun e=>(List.pairwise_cons.1 h.ne).1 v hv e.symm)]
   grind
  rw [if_neg (fun e'=>(List.pairwise_cons.1 h.ne).1 t e e'),jP.qV h.tail t e]
  grind
theorem jP.mem_iff {n:Nat} {l:List Tm} (h:jP n l) (t:Tm):t∈l↔co l t.1=t.2/\t.2≠0:=by
 constructor
 ·exact fun ht=>⟨h.qV t ht,h.nz t ht⟩
 intro ⟨h1,h2⟩
 by_cases c:∃ u∈l,u.1=t.1
 ·obtain ⟨u,hu,e⟩:=c
  have:=h.qV u hu
  rw [e,h1] at this
  have:t=u:=Prod.ext e.symm this
  rw [this];exact hu
 exact absurd (h1.symm.trans (zO (fun u hu e=>c ⟨u,hu,e⟩))) h2
theorem jP.KR {n n':Nat} {p q:List Tm} (hp:jP n p) (hq:jP n' q) (h:∀ e,co p e=co q e) (t:Tm):t∈p↔t∈q:=by
 rw [hp.mem_iff,hq.mem_iff,h]
theorem ka.uniq {n:Nat}:∀ {p q:List Tm},ka n p->ka n q->(∀ e,co p e=co q e)->p=q
 | [],[],_,_,_=>rfl
 | [],u :: q,_,hq,h=>by
  have:=(hq.dst.qV u (List.mem_cons_self ..))
  rw [<- h,Eu] at this
  exact absurd this.symm (hq.nz u (List.mem_cons_self ..))
 | t :: p,[],hp,_,h=>by
  have:=(hp.dst.qV t (List.mem_cons_self ..))
  rw [h,Eu] at this
  exact absurd this.symm (hp.nz t (List.mem_cons_self ..))
 | t :: p,u :: q,hp,hq,h=>by
  have m:=fun x=>jP.KR hp.dst hq.dst h x
  have hu:t=u:=by
   rcases List.mem_cons.1 ((m t).1 (List.mem_cons_self ..)) with e | e
   ·exact e
   rcases List.mem_cons.1 ((m u).2 (List.mem_cons_self ..)) with e' | e'
   ·exact e'.symm
   have h1:=(List.pairwise_cons.1 hq.ord).1 t e
   have h2:=(List.pairwise_cons.1 hp.ord).1 u e'
   rw [G3 h1] at h2
   cases h2
  subst hu
  rw [ka.uniq hp.tail hq.tail (fun e=>by
   have:=h e
   rw [sI,sI] at this
   grind)]
def ox (c:Rat) (p:List Tm):List Tm:=p.map fun t=>(t.1,t.2*c)
theorem sm (m:Ex->Rat) (c:Rat):∀ p,fj m (ox c p)=c*fj m p
 | []=>by simp only [ox,List.map_nil,fj];grind
 | t :: p=>by
  have h:=sm m c p
  simp only [ox] at h
  simp only [ox,List.map_cons,fj,h]
  grind
def Ag (p:List Tm) (t:Tm):List Tm:=p.map fun u=>(fi u.1 t.1,u.2*t.2)
theorem Ft (m:Ex->Rat) (t:Tm):∀ p,fj m (Ag p t)=t.2*fj (fun e=>m (fi e t.1)) p
 | []=>by simp only [Ag,List.map_nil,fj];grind
 | u :: p=>by
  have h:=Ft m t p
  simp only [Ag] at h
  simp only [Ag,List.map_cons,fj,h]
  grind
def prod (p q:List Tm):List Tm:=p.flatMap fun t=>Ag q t
theorem we (m:Ex->Rat) (q:List Tm):∀ p,fj m (prod p q)=fj (fun e=>fj (fun f=>m (fi f e)) q) p
 | []=>rfl
 | t :: p=>by
  have h:=we m q p
  simp only [prod] at h
  simp only [prod,List.flatMap_cons,gS,fj,h,Ft]
theorem j9.ox {p q:List Tm} (h:j9 p q) (c:Rat):j9 (ox c p) (ox c q):=fun m=>by rw [sm,sm,h m]
theorem j9.prod {p q p' q':List Tm} (h:j9 p p') (h':j9 q q'):j9 (prod p q) (prod p' q'):=fun m=>by
 rw [we,we,h]
 exact congrArg (fun f=>fj f p') (funext fun e=>h' _)
def zE (n:Nat):Ex:=List.replicate n 0
def one (n:Nat):List Tm:=[(zE n,1)]
def pw (n:Nat) (p:List Tm):Nat->List Tm
 | 0=>one n
 | k+1=>prod (pw n p k) p
def Len (n:Nat) (p:List Tm):Prop:=∀ t∈p,t.1.length=n
theorem Len.ox {n:Nat} {p:List Tm} (h:Len n p) (c:Rat):Len n (ox c p):=fun t ht=>by
 obtain ⟨u,hu,rfl⟩:=List.mem_map.1 ht
 exact h u hu
theorem Len.Ag {n:Nat} {p:List Tm} (h:Len n p) {t:Tm} (h':t.1.length=n):Len n (Ag p t):=fun v hv=>by
 obtain ⟨u,hu,rfl⟩:=List.mem_map.1 hv
 show (fi u.1 t.1).length=n
 rw [lB (by rw [h u hu,h']),h u hu]
theorem Len.prod {n:Nat} {p q:List Tm} (h:Len n p) (h':Len n q):Len n (prod p q):=fun v hv=>by
 obtain ⟨t,ht,hv⟩:=List.mem_flatMap.1 hv
 exact h'.Ag (h t ht) v hv
def mv (x:List Rat):Ex->Rat:=fun e=>go x e
where go:List Rat->Ex->Rat
 | a :: x,k :: e=>a ^ k.toNat*go x e
 | _,_=>1
def fp (p q:List Tm):List Tm:=match p,q with
 | [],q=>q
 | p,[]=>p
 | t :: p,u :: q=>if iM t.1 u.1 then t :: fp p (u :: q) else if iM u.1 t.1 then u :: fp (t :: p) q else if t.2+u.2=0 then fp p q else (t.1,t.2+u.2) :: fp p q
termination_by p.length+q.length
theorem mH (p:List Tm):fp p []=p:=by
 cases p<;>rw [fp]
 simp
theorem oS:∀ (p q:List Tm) (t:Tm),t∈fp p q->(∃ u∈p,u.1=t.1)∨∃ u∈q,u.1=t.1
 | [],q,t,h=>by rw [fp] at h;exact .inr ⟨t,h,rfl⟩
 | a :: p,[],t,h=>by rw [mH] at h;exact .inl ⟨t,h,rfl⟩
 | a :: p,b :: q,t,h=>by
  have L:∀ {x:Tm},(∃ u∈p,u.1=x.1)->∃ u∈a :: p,u.1=x.1:=fun ⟨u,h1,h2⟩=>⟨u,List.mem_cons_of_mem _ h1,h2⟩
  have R:∀ {x:Tm},(∃ u∈q,u.1=x.1)->∃ u∈b :: q,u.1=x.1:=fun ⟨u,h1,h2⟩=>⟨u,List.mem_cons_of_mem _ h1,h2⟩
  rw [fp] at h
  split at h
  ·rcases List.mem_cons.1 h with e | e
   ·exact .inl ⟨a,List.mem_cons_self ..,by rw [e]⟩
   exact (oS p (b :: q) t (by assumption)).imp L id
  split at h
  ·rcases List.mem_cons.1 h with e | e
   ·exact .inr ⟨b,List.mem_cons_self ..,by rw [e]⟩
   exact (oS (a :: p) q t (by assumption)).imp id R
  split at h
  ·exact (oS p q t h).imp L R
  rcases List.mem_cons.1 h with e | e
  ·exact .inl ⟨a,List.mem_cons_self ..,by rw [e]⟩
  exact (oS p q t (by assumption)).imp L R
termination_by p q=>p.length+q.length
theorem mG {n:Nat}:∀ (p q:List Tm),ka n p->ka n q->ka n (fp p q)/\∀ m,fj m (fp p q)=fj m p+fj m q
 | [],q,_,h=>by rw [fp];exact ⟨h,fun m=>by simp only [fj];grind⟩
 | a :: p,[],h,_=>by rw [mH];exact ⟨h,fun m=>by simp only [fj];grind⟩
 | a :: p,b :: q,hp,hq=>by
  have la:=hp.len a (List.mem_cons_self ..)
  have lb:=hq.len b (List.mem_cons_self ..)
  have ga:=(List.pairwise_cons.1 hp.ord).1
  have gb:=(List.pairwise_cons.1 hq.ord).1
  have top:∀ {x:Ex} {r s:List Tm},ka n (fp r s)->(∀ u∈r,iM x u.1=true)->(∀ u∈s,iM x u.1=true)->∀ v∈fp r s,iM x v.1=true:=fun _ h1 h2 v hv=>by
   rcases oS _ _ v hv with ⟨u,hu,e⟩ | ⟨u,hu,e⟩
   ·rw [<- e];exact h1 u hu
   rw [<- e];exact h2 u hu
  rw [fp]
  split
  ·rename_i c
   obtain ⟨h1,h2⟩:=mG p (b :: q) hp.tail hq
   refine ⟨⟨List.pairwise_cons.2 ⟨top h1 ga (fun u hu=>(List.mem_cons.1 hu).elim (fun e=>by rw [e];exact c) (fun e=>mu c (gb u e))),h1.ord⟩,?_,?_⟩,fun m=>by simp only [fj,h2];grind⟩
   ·intro t ht
    exact (List.mem_cons.1 ht).elim (fun e=>by rw [e];exact hp.nz a (List.mem_cons_self ..)) (h1.nz t)
   intro t ht
   exact (List.mem_cons.1 ht).elim (fun e=>by rw [e];exact la) (h1.len t)
  rename_i c
  split
  ·rename_i c'
   obtain ⟨h1,h2⟩:=mG (a :: p) q hp hq.tail
   refine ⟨⟨List.pairwise_cons.2 ⟨top h1 (fun u hu=>(List.mem_cons.1 hu).elim (fun e=>by rw [e];exact c') (fun e=>mu c' (ga u e))) gb,h1.ord⟩,?_,?_⟩,fun m=>by simp only [fj,h2];grind⟩
   ·intro t ht
    exact (List.mem_cons.1 ht).elim (fun e=>by rw [e];exact hq.nz b (List.mem_cons_self ..)) (h1.nz t)
   intro t ht
   exact (List.mem_cons.1 ht).elim (fun e=>by rw [e];exact lb) (h1.len t)
  rename_i c'
  have e:=pO (la.trans lb.symm) (by simpa using c) (by simpa using c')
  obtain ⟨h1,h2⟩:=mG p q hp.tail hq.tail
  split
  ·rename_i z
   refine ⟨h1,fun m=>?_⟩
   simp only [fj,h2,<- e]
   have:b.2 = -a.2:=by grind
   rw [this];grind
  rename_i z
  refine ⟨⟨List.pairwise_cons.2 ⟨top h1 ga (fun u hu=>by rw [e];exact gb u hu),h1.ord⟩,?_,?_⟩,fun m=>?_⟩
  ·intro t ht
   exact (List.mem_cons.1 ht).elim (fun e=>by rw [e];exact z) (h1.nz t)
  ·intro t ht
   exact (List.mem_cons.1 ht).elim (fun e=>by rw [e];exact la) (h1.len t)
  simp only [fj,h2,<- e];grind
termination_by p q=>p.length+q.length
theorem JC {α:Type}:∀ {l:List α} {i:Nat} (h:i<l.length),∃ a b,l=a++l[i] :: b/\a.length=i
 | x :: l,0,_=>⟨[],l,rfl,rfl⟩
 | x :: l,i+1,h=>by
  obtain ⟨a,b,h1,h2⟩:=JC (l:=l) (i:=i) (by simpa using h)
  exact ⟨x :: a,b,by simp only [List.getElem_cons_succ,List.cons_append];rw [<- h1],by simp [h2]⟩
theorem yP {α:Type} (a b:List α) (x y:α):(a++x :: b).set a.length y=a++y :: b:=by
 rw [List.set_append_right _ _ (Nat.le_refl _),Nat.sub_self]
 rfl
theorem G9 {α:Type} (a b:List α) (x d:α):(((a++x :: b).set a.length ((a++x :: b).getD ((a++x :: b).length-1) d)).take ((a++x :: b).length-1)).Perm (a++b):=by
 rcases List.eq_nil_or_concat b with rfl | ⟨b',y,rfl⟩
 ·have e:(a++[x]).length-1=a.length:=by simp
  rw [e,yP,List.take_left',List.append_nil]
  rfl
 have e:(a++x :: (b'++[y])).length-1=(a++x :: b').length:=Q3
 have e1:(a++x :: (b'++[y])).getD ((a++x :: (b'++[y])).length-1) d=y:=by
  rw [e,show a++x :: (b'++[y])=(a++x :: b')++[y] by simp]
  simp
 have h1:∀ z:α,(a++x :: b').length=(a++z :: b').length:=fun z=>Q3
 have e3:(a++y :: (b'++[y])).take ((a++x :: b').length)=a++y :: b':=by
  rw [h1 y,show a++y :: (b'++[y])=(a++y :: b')++[y] by simp]
  exact List.take_left' rfl
 rw [List.concat_eq_append,e1,yP,e,e3]
 refine List.Perm.append_left a ?_
 simpa using (List.perm_append_comm (l₁:=[y]) (l₂:=b'))
def jx (p:List Tm) (e:Ex) (c:Rat):List Tm :=
 if c=0 then p else match p.findIdx? (fun t=>t.1==e) with
  | none=>p++[(e,c)]
  | some i=>if (p.getD i ([],0)).2+c=0 then (p.set i (p.getD (p.length-1) ([],0))).take (p.length-1) else p.set i (e,(p.getD i ([],0)).2+c)
theorem jP.perm {n:Nat} {p q:List Tm} (h:jP n p) (hp:p.Perm q):jP n q :=
 ⟨(hp.pairwise_iff (fun h=>fun e=>h e.symm)).1 h.ne,(fun t ht=>h.nz t (hp.mem_iff.2 ht)),(fun t ht=>h.len t (hp.mem_iff.2 ht))⟩
theorem GC {n:Nat} {p:List Tm} {e:Ex} {c:Rat} (h:jP n p) (he:e.length=n):jP n (jx p e c)/\∀ m,fj m (jx p e c)=fj m p+c*m e:=by
 unfold jx
 split
 ·rename_i z
  exact ⟨h,fun m=>by rw [z];grind⟩
 rename_i z
 split
 ·rename_i hn
  have hn':∀ t∈p,t.1≠e:=fun t ht hh=>by
   have:=List.findIdx?_eq_none_iff.1 hn t ht
   simp [hh] at this
  refine ⟨⟨List.pairwise_append.2 ⟨h.ne,Q3,fun a ha b hb=>?_⟩,?_,?_⟩,fun m=>?_⟩
  ·rw [List.mem_singleton] at hb
   rw [hb];exact hn' a ha
  ·intro t ht
   rcases List.mem_append.1 ht with g | g
   ·exact h.nz t g
   rw [List.mem_singleton] at g
   rw [g];exact z
  ·intro t ht
   rcases List.mem_append.1 ht with g | g
   ·exact h.len t g
   rw [List.mem_singleton] at g
   rw [g];exact he
  rw [gS];simp only [fj];grind
 rename_i i hs
 obtain ⟨hi,hx,_⟩:=List.findIdx?_eq_some_iff_getElem.1 hs
 obtain ⟨a,b,e1,e2⟩:=JC hi
 have hg:p.getD i ([],0)=p[i]:=by simp [List.getD_eq_getElem?_getD,hi]
 have hx':p[i].1=e:=by simpa using hx
 rw [hg]
 generalize p[i]=x at *
 subst e1
 have lx:fj=fj:=rfl
 have hp:(a++x :: b).Perm (x :: (a++b)):=List.perm_middle
 have hd:=h.perm hp
 have hl:∀ m,fj m (a++x :: b)=x.2*m e+fj m (a++b):=fun m=>by rw [oU m hp];simp only [fj,hx']
 split
 ·rename_i z'
  have hq:=G9 a b x ([],0)
  rw [e2] at hq
  refine ⟨hd.tail.perm hq.symm,fun m=>?_⟩
  rw [oU m hq,hl]
  have:c = -x.2:=by grind
  rw [this];grind
 rename_i z'
 rw [<- e2,yP]
 have hp':(a++(e,x.2+c) :: b).Perm ((e,x.2+c) :: (a++b)):=List.perm_middle
 refine ⟨jP.perm ⟨List.pairwise_cons.2 ⟨fun u hu=>?_,hd.tail.ne⟩,fun t ht=>?_,fun t ht=>?_⟩ hp'.symm,fun m=>?_⟩
 ·have:=(List.pairwise_cons.1 hd.ne).1 u hu
  rw [hx'] at this
  exact this
 ·exact (List.mem_cons.1 ht).elim (fun g=>by rw [g];exact z') (hd.tail.nz t)
 ·exact (List.mem_cons.1 ht).elim (fun g=>by rw [g];exact he) (hd.tail.len t)
 rw [oU m hp',hl];simp only [fj];grind
end Go.Proofs.YtfbgaddecbiimaaGreatDoor.G
end
section
namespace Go.Proofs.YtfbgaddecbiimaaGreatDoor.Q
open Go.RowKit Go.Proofs.YtfbgaddecbiimaaGreatDoorW.PrintWords Go.Proofs.YtfbgaddecbiimaaGreatDoorW.PrintMore Go.Proofs.YtfbgaddecbiimaaGreatDoor.V Go.Proofs.YtfbgaddecbiimaaGreatDoor.E
open Go.Proofs.YtfbgaddecbiimaaGreatDoor.P (Dg Nm vl WW RR bI gI aT jn kq dw aI bG aY cN cx u64)
open Go.Proofs.YtfbgaddecbiimaaGreatDoor.G (Ex Tm fj co j9 ka jP)
theorem G2:∀ {a b:List Int},a.length=b.length->(iM a b↔G.iM a b=true)
 | [],[],_=>by simp [iM,cQ,G.iM]
 | [],_ :: _,h=>by simp at h
 | _ :: _,[],h=>by simp at h
 | a :: x,b :: y,h=>by
  have ih:=G2 (a:=x) (b:=y) (by simpa using h)
  unfold iM at ih ⊢
  rw [zQ,G.iM]
  by_cases c:a=b
  ·rw [if_pos c,<- ih]
   constructor
   ·rintro (g | g)
    ·omega
    exact g.2
   exact fun g=>.inr ⟨c,g⟩
  rw [if_neg c,decide_eq_true_eq]
  constructor
  ·rintro (g | g)
   ·exact g
   exact absurd g.1 c
  exact fun g=>.inl g
structure RelP (n:Nat) (p:aB) (l:List Tm):Prop where
 n_:p.1=(n:Int)
 len:p.2.1.length=l.length
 at_:∀ i (h:i<l.length),(cF p i).1=l[i].1/\RB WW (cF p i).2.1 l[i].2
structure RelR (r:List aj) (l:List Tm) (K:Nat):Prop where
 len:r.length=l.length
 at_:∀ i (h:i<l.length),(mS r i).1=eh l[i].1/\RB RR (mS r i).2.1 l[i].2/\Sz RR K l[i].2
theorem Gv {v:bB} {q:Rat} {K:Nat} (h:RB RR v q) (hs:Sz RR K q) (hK:K<1073741824):∃ r,Ev (fun k=>fb k v) r/\RB WW r q:=Gu h hs hK
theorem fV {x:List Int} (h:x.length<=8):(eh x).take x.length=x:=by
 rw [eh,df _ _ _ h,List.take_left]
theorem KJ {x y:List Int} (hx:x.length<=8) (h:x.length=y.length) (e:eh x=eh y):x=y:=by
 rw [<- fV hx,e,h,fV Q2]
theorem Dr {a:aB} {r:List aj} {la lr:List Tm} {n K:Nat} (hn:n<=8) (ha:RelP n a la) (hr:RelR r lr K) (hf:LM a) (hK:K<1073741824) (hlen:lr.length<=100000) (sa:ka n la) (dr:jP n lr) (he:j9 la lr):Ev (fun k=>dS k a r (n:Int)) true:=by
 have ex:∀ i,∃ c:bB,∀ h:i<lr.length,Ev (fun k=>fb k (mS r i).2.1) c/\RB WW c lr[i].2:=fun i=>by
  by_cases h:i<lr.length
  ·obtain ⟨h1,h2,h3⟩:=hr.at_ i h
   obtain ⟨c,c1,c2⟩:=Gv h2 h3 hK
   exact ⟨c,fun _=>⟨c1,c2⟩⟩
  exact ⟨(false,[],[],()),fun h'=>absurd h' h⟩
 obtain ⟨gJ,htoC⟩:=Classical.axiomOfChoice ex
 have l8:∀ i (h:i<lr.length),lr[i].1.length=n:=fun i h=>dr.len _ (List.getElem_mem h)
 have hT:LH r gJ:=by
  refine ⟨by rw [hr.len];exact hlen,fun i h=>?_,fun i j h1 h2 hne=>?_,fun i h=>(htoC i (by rw [<- hr.len];exact h)).1⟩
  ·rw [(hr.at_ i (by rw [<- hr.len];exact h)).1];exact dX _ _ _
  have h1':i<lr.length:=by rw [<- hr.len];exact h1
  have h2':j<lr.length:=by rw [<- hr.len];exact h2
  rw [(hr.at_ i h1').1,(hr.at_ j h2').1]
  intro e
  have e':=KJ (by rw [l8 i h1'];exact hn) ((l8 i h1').trans (l8 j h2').symm) e
  have hp:=List.pairwise_iff_getElem.1 dr.ne
  rcases Nat.lt_or_gt_of_ne hne with g | g
  ·exact hp i j h1' h2' g e'
  exact hp j i h2' h1' g e'.symm
 obtain ⟨ch,c1,c2,c3⟩:=Kz hT hn
 have hch:∀ c∈ch,c<lr.length:=fun c hc=>by
  have:=List.mem_range.1 (c1.mem_iff.1 hc)
  rw [hr.len] at this
  exact this
 let ls:List Tm:=ch.map fun i=>lr.getD i ([],0)
 have hls:ls.Perm lr:=by
  have h1:=c1.map fun i=>lr.getD i ([],0)
  have h2:(List.range r.length).map (fun i=>lr.getD i ([],0))=lr:=by
   rw [hr.len]
   apply List.ext_getElem Q3
   intro i g1 g2
   simp [List.getD_eq_getElem?_getD,g2]
  rw [h2] at h1
  exact h1
 have ss:ka n ls:=by
  refine ⟨?_,fun t ht=>dr.nz t (hls.mem_iff.1 ht),fun t ht=>dr.len t (hls.mem_iff.1 ht)⟩
  rw [List.pairwise_map]
  refine c2.imp_of_mem (fun {x y} hx hy h=>?_)
  have hx':=hch x hx
  have hy':=hch y hy
  rw [(hr.at_ x hx').1,(hr.at_ y hy').1] at h
  have e1:lr.getD x ([],0)=lr[x]:=by simp [List.getD_eq_getElem?_getD,hx']
  have e2:lr.getD y ([],0)=lr[y]:=by simp [List.getD_eq_getElem?_getD,hy']
  rw [e1,e2]
  unfold iM at h
  rw [CD (by rw [l8 x hx'];exact hn) ((l8 x hx').trans (l8 y hy').symm)] at h
  exact (G2 ((l8 x hx').trans (l8 y hy').symm)).1 h
 have heq:la=ls:=ka.uniq sa ss (fun e=>by
  have h1:=he.co e
  have h2:co ls e=co lr e:=G.oU _ hls
  rw [h1,h2])
 have hlc:la.length=ch.length:=by rw [heq];simp [ls]
 have hterms:a.2.1=ch.map (Ae r gJ n):=by
  apply List.ext_getElem (by rw [ha.len,hlc,List.length_map])
  intro i h1 h2
  have hi:i<la.length:=by rw [<- ha.len];exact h1
  have hic:i<ch.length:=by rw [<- hlc];exact hi
  obtain ⟨g1,g2⟩:=ha.at_ i hi
  have et:cF a i=a.2.1[i]:=cy h1
  have hc:=hch ch[i] (List.getElem_mem hic)
  have el:la[i]=lr[ch[i]]:=by
   have:la[i]=ls[i]'(by rw [<- heq];exact hi):=by simp only [heq]
   rw [this]
   simp [ls,List.getD_eq_getElem?_getD,hc]
  rw [<- et,List.getElem_map]
  have k1:(cF a i).1=(mS r ch[i]).1.take n:=by
   rw [g1,el,(hr.at_ _ hc).1,<- l8 _ hc,fV (by rw [l8 _ hc];exact hn)]
  have k2:(cF a i).2.1=gJ ch[i]:=by
   rw [el] at g2
   exact E7 aI g2 (htoC _ hc).2
  exact Prod.ext k1 (Prod.ext k2 rfl)
 have hsame:=rz (b:=((n:Int),ch.map (Ae r gJ n),())) hf
 rw [fy ⟨ha.n_,hterms⟩] at hsame
 exact Ev.step (fun k=>oZ k a r _) (Ev.bind c3 (Ev.bind hsame (aT _)))
def kb (e:Int):List Int:=[(shr .i64 e (24:Int)) % 256,(shr .i64 e (16:Int)) % 256,(shr .i64 e (8:Int)) % 256,e % 256]
def uE (x:List Int):List Int:=x.flatMap kb
theorem Ca:∀ x:List Int,(uE x).length=4*x.length
 | []=>rfl
 | e :: x=>by
  have:=Ca x
  simp only [uE,List.flatMap_cons,List.length_append,List.length_cons] at this ⊢
  simp only [kb,List.length_cons,List.length_nil]
  omega
theorem DF (x:List Int) (h:x.length<=8):Ev (fun k=>ia k x) (strOfNums (uE x)):=by
 have e4:wrap64 ((4:Int)*(x.length:Int))=4*(x.length:Int):=cx Q2 Q2
 have main:=pT (n:=x.length) (P:=fun i=>aN (fun k m=>ia.l0 k m x (x.length:Int) (i:Int) (uE (x.take i))) (strOfNums (uE x))) ?_ ?_ 0 (Nat.zero_le _)
 ·refine Ev.step (fun k=>DG k x) (iT (by rw [e4];unfold maxLen;omega) ?_)
  exact main.diag
 ·rw [List.take_length]
  exact aN.step (fun k m=>ia.aR k m _ _ _ _) (aN.bF (decide_eq_false Q2) (aN.of (aT _)))
 intro i hi ih
 have e1:(cG (t:=(.int .i64)) x (i:Int):Int)=x[i]:=cy hi
 have hk:=Ca (x.take i)
 rw [List.length_take] at hk
 refine aN.step (fun k m=>ia.aR k m _ _ _ _) (aN.bT (decide_eq_true Q2) (aN.iT Q2 (aN.iT (by simp only [List.length_cons,List.length_nil];omega) ?_)))
 rw [e1,fN Q2]
 have:uE (x.take i)++kb x[i]=uE (x.take (i+1)):=by
  simp only [uE]
  rw [List.take_succ_eq_append_getElem hi,List.flatMap_append]
  simp
 have ih':=ih
 rw [<- this] at ih'
 exact ih'
theorem key_inj:∀ {x y:List Int},x.length=y.length->(∀ e∈x,0<=e/\e<256)->(∀ e∈y,0<=e/\e<256)->(strOfNums (uE x)).data.toList=(strOfNums (uE y)).data.toList->x=y
 | [],[],_,_,_,_=>rfl
 | [],_ :: _,h,_,_,_=>by simp at h
 | _ :: _,[],h,_,_,_=>by simp at h
 | a :: x,b :: y,h,hx,hy,he=>by
  have ih:=key_inj (x:=x) (y:=y) (by simpa using h) (fun e he=>hx e (by simp [he])) (fun e he=>hy e (by simp [he]))
  have ha:=hx a Q3
  have hb:=hy b Q3
  simp only [strOfNums,uE,List.flatMap_cons,kb,List.cons_append,List.nil_append,List.map_cons,List.cons.injEq] at he ih
  obtain ⟨_,_,_,h4,h5⟩:=he
  have h6:=congrArg UInt8.toNat h4
  simp only [UInt8.toNat_ofNat'] at h6
  rw [ih h5,show a=b by omega]
noncomputable def gw (v:bB):Rat:=Rat.divInt (sg v.1 (vl WW v.2.1)) (vl WW v.2.2.1)
theorem pI {v:bB} {q:Rat} (h:RB WW v q):gw v=q:=by
 have h1:=Is h
 unfold gw
 rw [h.2.1.2.2,h.2.2.2.2]
 exact h1
def EG (K:Nat) (v:bB):Prop:=∃ q,RB WW v q/\Sz WW K q
theorem EG.rb {K:Nat} {v:bB} (h:EG K v):RB WW v (gw v)/\Sz WW K (gw v):=by
 obtain ⟨q,h1,h2⟩:=h
 rw [pI h1]
 exact ⟨h1,h2⟩
theorem EG.mono {K L:Nat} {v:bB} (h:EG K v) (hk:K<=L):EG L v:=by
 obtain ⟨q,h1,h2⟩:=h
 exact ⟨q,h1,rk aI h2 hk⟩
noncomputable def ku (t:aj):Tm:=(t.1,gw t.2.1)
noncomputable def dW (l:List aj):List Tm:=l.map ku
def ks (n K:Nat) (t:aj):Prop:=t.1.length=n/\(∀ e∈t.1,0<=e/\e<256)/\EG K t.2.1
def Ht:List (ByteArray×Int)->ByteArray->Option Int
 | [],_=>none
 | x :: l,k=>match k.data.toList==x.1.data.toList with
  | true=>some x.2
  | false=>Ht l k
theorem Fl:∀ (l:List (ByteArray×Int)) (k:ByteArray),(V.kp l k).map (·.2)=Ht l k
 | [],k=>rfl
 | x :: l,k=>by
  have ih:=Fl l k
  rw [V.kp,Ht]
  cases k.data.toList==x.1.data.toList with
  | true=>rfl
  | false =>
   dsimp only
   rw [Option.map_map,<- ih]
   rfl
theorem Fm (l:List (ByteArray×Int)) (k:ByteArray):oR l k=match Ht l k with
 | some n=>(n,true,())
 | none=>(0,false,()):=by
 rw [<- Fl,oR]
 cases V.kp l k<;>rfl
theorem Fk (k:ByteArray) (n:Int) (k':ByteArray):∀ l:List (ByteArray×Int),Ht (V.ko l k n) k'=if k'.data.toList=k.data.toList then some n else Ht l k'
 | []=>by
  show (match k'.data.toList==k.data.toList with
   | true=>some n
   | false=>none)=if k'.data.toList=k.data.toList then some n else none
  by_cases c:k'.data.toList=k.data.toList
  ·rw [if_pos c,beq_iff_eq.2 c]
  rw [if_neg c,beq_eq_false_iff_ne.2 c]
 | x :: l=>by
  have ih:=Fk k n k' l
  rw [V.ko]
  by_cases d:k.data.toList=x.1.data.toList
  ·rw [beq_iff_eq.2 d]
   dsimp only
   rw [Ht,Ht]
   by_cases c:k'.data.toList=k.data.toList
   ·rw [if_pos c,beq_iff_eq.2 c]
   rw [if_neg c,beq_eq_false_iff_ne.2 c,beq_eq_false_iff_ne.2 (fun e=>c (e.trans d.symm))]
  rw [beq_eq_false_iff_ne.2 d]
  dsimp only
  rw [Ht,Ht,ih]
  by_cases c:k'.data.toList=x.1.data.toList
  ·have hk:¬ k'.data.toList=k.data.toList:=fun e=>d (e.symm.trans c)
   rw [beq_iff_eq.2 c]
   dsimp only
   rw [if_neg hk]
  rw [beq_eq_false_iff_ne.2 c]
noncomputable abbrev GW (e:List Int):ByteArray:=strOfNums (uE e)
def qm (n:Nat) (mp:List (ByteArray×Int)) (l:List aj):Prop:=∀ e:List Int,e.length=n->(∀ x∈e,0<=x/\x<256)->(∀ j (h:j<l.length),l[j].1=e->Ht mp (GW e)=some (j:Int))/\((∀ j (h:j<l.length),l[j].1≠e)->Ht mp (GW e)=none)
theorem qm.nil (n:Nat):qm n [] []:=fun e _ _=>⟨fun j h=>by simp at h,fun _=>rfl⟩
theorem qm.add {n:Nat} {mp:List (ByteArray×Int)} {l:List aj} (h:qm n mp l) {t:aj} (h1:t.1.length=n) (h2:∀ x∈t.1,0<=x/\x<256) (hne:∀ j (h:j<l.length),l[j].1≠t.1):qm n (V.ko mp (GW t.1) (l.length:Int)) (l++[t]):=by
 intro e g1 g2
 rw [Fk]
 obtain ⟨a1,a2⟩:=h e g1 g2
 by_cases c:e=t.1
 ·subst c
  rw [if_pos rfl]
  refine ⟨fun j hj hje=>?_,fun hn=>absurd Q3 (hn l.length Q3)⟩
  by_cases d:j<l.length
  ·rw [List.getElem_append_left d] at hje
   exact absurd hje (hne j d)
  have:j=l.length:=by simp at hj;omega
  rw [this]
 rw [if_neg (fun he=>c (key_inj (g1.trans h1.symm) g2 h2 he))]
 refine ⟨fun j hj hje=>?_,fun hn=>a2 (fun j hj=>?_)⟩
 ·by_cases d:j<l.length
  ·rw [List.getElem_append_left d] at hje
   exact a1 j d hje
  have:j=l.length:=by simp at hj;omega
  subst this
  rw [List.getElem_append_right (Nat.le_refl _)] at hje
  simp at hje
  exact absurd hje.symm c
 have:=hn j (by simp;omega)
 rwa [List.getElem_append_left hj] at this
theorem qm.set {n:Nat} {mp:List (ByteArray×Int)} {l:List aj} (h:qm n mp l) (i:Nat) (t:aj) (ht:∀ (hi:i<l.length),t.1=l[i].1):qm n mp (l.set i t):=by
 have e:∀ j (h1:j<(l.set i t).length),(l.set i t)[j].1=(l[j]'(by simpa using h1)).1:=fun j h1=>by
  rw [List.getElem_set]
  by_cases c:i=j
  ·subst c;rw [if_pos rfl];exact ht (by simpa using h1)
  rw [if_neg c]
 intro x g1 g2
 obtain ⟨a1,a2⟩:=h x g1 g2
 exact ⟨fun j hj hje=>a1 j (by simpa using hj) (by rw [<- e j hj];exact hje),fun hn=>a2 (fun j hj=>by rw [<- e j (by simpa using hj)];exact hn j (by simpa using hj))⟩
abbrev NeL (l:List aj):Prop:=l.Pairwise fun a b=>a.1≠b.1
noncomputable def qY (t:aj):Bool:=dc (gw t.2.1≠0)
theorem yO {q:Rat}:(CQ q != (0:Int))=dc (q≠0):=by
 refine yp ?_
 rw [bne,lV]
 simp
theorem cC (t:aj) (l:List aj):dW (t :: l)=ku t :: dW l:=rfl
theorem mL (a b:List aj):dW (a++b)=dW a++dW b:=List.map_append
theorem Fu (m:Ex->Rat):∀ (l:List Tm) (i:Nat) (h:i<l.length) (t:Tm),t.1=l[i].1->fj m (l.set i t)=fj m l+(t.2-l[i].2)*m t.1
 | [],i,h,_,_=>by simp at h
 | u :: l,0,_,t,e=>by
  have e':t.1=u.1:=e
  show t.2*m t.1+fj m l=u.2*m u.1+fj m l+(t.2-u.2)*m t.1
  rw [e']
  grind
 | u :: l,i+1,h,t,e=>by
  have ih:=Fu m l i (by simpa using h) t e
  show u.2*m u.1+fj m (l.set i t)=u.2*m u.1+fj m l+(t.2-(l[i]'(by simpa using h)).2)*m t.1
  rw [ih]
  grind
section
variable {n K:Nat}
theorem CC {l:List aj} (hn:n<=8) (hl:l.length<=100000) (hok:∀ t∈l,ks n K t) (hne:NeL l) :
 Ev (fun k=>bf.l1 k k l (l.length:Int) (0:Int) ((0:Int),[],()) (n:Int) ([]:List aj)) ((n:Int),ij (l.filter qY),()):=by
 have hfil:(l.filter qY).Pairwise fun a b=>b.1.length=a.1.length/\a.1≠b.1:=by
  refine (hne.sublist (List.filter_sublist)).imp_of_mem (fun {a b} ha hb h=>⟨?_,h⟩)
  rw [(hok a (List.mem_filter.1 ha).1).1,(hok b (List.mem_filter.1 hb).1).1]
 have hs:AM (l.filter qY)=some (ij (l.filter qY)):=by
  unfold AM
  have h1:KO (l.filter qY)=true:=uL.2 hfil
  have h2:Nat.ble (l.filter qY).length 1000000000=true:=Nat.ble_eq_true_of_le (by have:=List.length_filter_le qY l;omega)
  have h3:Nat.ble ((l.filter qY).headD (Ty.zero jY)).1.length 1000000000=true:=by
   apply Nat.ble_eq_true_of_le
   cases hc:l.filter qY with
   | nil=>show ([]:List Int).length<=_;exact Nat.zero_le _
   | cons a r =>
    have:a∈l.filter qY:=by rw [hc];simp
    have:=(hok a (List.mem_filter.1 this).1).1
    show a.1.length<=_
    omega
  rw [h1,h2,h3]
 have main:=pT (n:=l.length) (P:=fun i=>aN (fun k m=>bf.l1 k m l (l.length:Int) (i:Int) ((0:Int),[],()) (n:Int) ((l.take i).filter qY)) ((n:Int),ij (l.filter qY),())) ?_ ?_ 0 (Nat.zero_le _)
 ·exact main.diag
 ·rw [List.take_length]
  exact aN.step (fun k m=>bf.eB k m _ _ _ _ _ _) (aN.bF (decide_eq_false Q2) (aN.bind (jn hs) (aN.of (aT _))))
 intro i hi ih
 have e:(cG (t:=ah) l (i:Int):aj)=l[i]:=cy hi
 obtain ⟨o1,o2,o3⟩:=hok l[i] (List.getElem_mem hi)
 have hsg:=oN o3.rb.1
 have hlf:=List.length_filter_le qY (l.take i)
 rw [List.length_take] at hlf
 rw [List.take_succ_eq_append_getElem hi,List.filter_append] at ih
 refine aN.step (fun k m=>bf.eB k m _ _ _ _ _ _) (aN.bT (decide_eq_true Q2) (aN.iT Q2 ?_))
 rw [e]
 refine aN.bind hsg ?_
 have next:∀ acc,aN (fun k m=>bf.l1 k m l (l.length:Int) ((i+1:Nat):Int) ((0:Int),[],()) (n:Int) acc) ((n:Int),ij (l.filter qY),())->aN (fun k m=>bf.j1 k m l (l.length:Int) (i:Int) ((0:Int),[],()) (n:Int) acc) ((n:Int),ij (l.filter qY),()):=fun acc h=>by
  show aN (fun k m=>bf.l1 k m l (l.length:Int) (wrap64 ((i:Int)+(1:Int))) ((0:Int),[],()) (n:Int) acc) _
  rw [fN Q2]
  exact h
 cases hz:qY l[i] with
 | true =>
  rw [show [l[i]].filter qY=[l[i]] by simp [hz]] at ih
  refine aN.bT (by rw [yO];exact hz) (aN.iT (by simp only [List.length_cons,List.length_nil];omega) (next _ ih))
 | false =>
  rw [show [l[i]].filter qY=[] by simp [hz],List.append_nil] at ih
  exact aN.bF (by rw [yO];exact hz) (next _ ih)
theorem CA {l:List aj} (hn:n<=8) (hl:l.length<=100000) (hK:(l.length+1)*(K+1)<=200000000) (hok:∀ t∈l,ks n K t) :
 ∃ sl:List aj,sl.length<=l.length/\(∀ t∈sl,ks n (l.length*(K+1)) t)/\NeL sl/\(∀ m,fj m (dW sl)=fj m (dW l)) /\
  ∀ R,Ev (fun k=>bf.l1 k k sl (sl.length:Int) (0:Int) ((0:Int),[],()) (n:Int) ([]:List aj)) R->Ev (fun k=>bf k (n:Int) l) R:=by
 have main:=pT (n:=l.length) (P:=fun i=>∀ mp (sl:List aj),qm n mp sl->(∀ t∈sl,ks n (i*(K+1)) t)->NeL sl->sl.length<=i->(∀ m,fj m (dW sl)=fj m (dW (l.take i))) ->
  ∃ sl':List aj,sl'.length<=l.length/\(∀ t∈sl',ks n (l.length*(K+1)) t)/\NeL sl'/\(∀ m,fj m (dW sl')=fj m (dW l)) /\
   ∀ R,Ev (fun k=>bf.l1 k k sl' (sl'.length:Int) (0:Int) ((0:Int),[],()) (n:Int) ([]:List aj)) R->aN (fun k m=>bf.l0 k m (n:Int) mp l (l.length:Int) (i:Int) ((0:Int),[],()) sl) R) ?_ ?_ 0 (Nat.zero_le _) [] [] (qm.nil n) (fun t h=>by cases h) .nil (Nat.zero_le _) (fun m=>rfl)
 ·obtain ⟨sl,h1,h2,h3,h4,h5⟩:=main
  exact ⟨sl,h1,h2,h3,h4,fun R hR=>Ev.step (fun k=>vH k _ _) (h5 R hR).diag⟩
 ·intro mp sl h1 h2 h3 h4 h5
  rw [List.take_length] at h5
  exact ⟨sl,h4,h2,h3,h5,fun R hR=>aN.step (fun k m=>bf.aR k m _ _ _ _ _ _ _) (aN.bF (decide_eq_false Q2) (aN.of hR))⟩
 intro i hi ih mp sl h1 h2 h3 h4 h5
 have e:(cG (t:=ah) l (i:Int):aj)=l[i]:=cy hi
 obtain ⟨o1,o2,o3⟩:=hok l[i] (List.getElem_mem hi)
 have hkey:=DF l[i].1 Q2
 have htk:∀ m,fj m (dW (l.take (i+1)))=fj m (dW (l.take i))+gw l[i].2.1*m l[i].1:=fun m=>by
  rw [List.take_succ_eq_append_getElem hi,mL,G.gS]
  show _+(gw l[i].2.1*m l[i].1+0)=_
  grind
 have hKi:(i+1)*(K+1)=i*(K+1)+(K+1):=Nat.succ_mul _ _
 have big:(i+1)*(K+1)<=200000000:=Nat.le_trans (Nat.mul_le_mul_right _ Q2) hK
 have next:∀ mp' sl' R,aN (fun k m=>bf.l0 k m (n:Int) mp' l (l.length:Int) ((i+1:Nat):Int) ((0:Int),[],()) sl') R->aN (fun k m=>bf.j0 k m (n:Int) mp' l (l.length:Int) (i:Int) ((0:Int),[],()) sl') R:=fun mp' sl' R h=>by
  show aN (fun k m=>bf.l0 k m (n:Int) mp' l (l.length:Int) (wrap64 ((i:Int)+(1:Int))) ((0:Int),[],()) sl') R
  rw [fN Q2]
  exact h
 obtain ⟨a1,a2⟩:=h1 l[i].1 o1 o2
 by_cases c:∃ j,∃ h:j<sl.length,sl[j].1=l[i].1
 ·obtain ⟨j,hj,hje⟩:=c
  have hm:oR mp (GW l[i].1)=((j:Int),true,()):=by rw [Fm,a1 j hj hje]
  obtain ⟨p1,p2,p3⟩:=h2 sl[j] (List.getElem_mem hj)
  obtain ⟨v,v1,v2,v3⟩:=vQ p3.rb.1 o3.rb.1 p3.rb.2 o3.rb.2 Q2
  have ej:(cG (t:=ah) sl (j:Int):aj)=sl[j]:=cy hj
  have hv:gw v=gw sl[j].2.1+gw l[i].2.1:=pI v2
  have q1:∀ t∈sl.set j (sl[j].1,v,sl[j].2.2),ks n ((i+1)*(K+1)) t:=fun t ht=>by
   rcases List.mem_or_eq_of_mem_set ht with ht | rfl
   ·obtain ⟨b1,b2,b3⟩:=h2 t ht
    exact ⟨b1,b2,b3.mono Q2⟩
   exact ⟨p1,p2,⟨_,v2,rk aI v3 Q2⟩⟩
  have q2:NeL (sl.set j (sl[j].1,v,sl[j].2.2)):=by
   rw [NeL,List.pairwise_iff_getElem]
   intro x y hx hy hxy
   have hp:=List.pairwise_iff_getElem.1 h3
   have es:∀ z (hz:z<(sl.set j (sl[j].1,v,sl[j].2.2)).length),(sl.set j (sl[j].1,v,sl[j].2.2))[z].1=(sl[z]'(by simpa using hz)).1:=fun z hz=>by
    rw [List.getElem_set]
    by_cases d:j=z
    ·subst d;rw [if_pos rfl]
    rw [if_neg d]
   rw [es x hx,es y hy]
   exact hp x y (by simpa using hx) (by simpa using hy) hxy
  have q3:∀ m,fj m (dW (sl.set j (sl[j].1,v,sl[j].2.2)))=fj m (dW (l.take (i+1))):=fun m=>by
   have hset:dW (sl.set j (sl[j].1,v,sl[j].2.2))=(dW sl).set j (sl[j].1,gw v):=by
    simp only [dW,List.map_set]
    rfl
   have hjl:j<(dW sl).length:=by simpa [dW] using hj
   have hat:(dW sl)[j]=ku sl[j]:=by simp [dW]
   rw [hset,Fu m (dW sl) j hjl _ (by rw [hat];rfl),hat,h5,htk]
   show _+(gw v-gw sl[j].2.1)*m sl[j].1=_
   rw [hv,hje]
   grind
  obtain ⟨sl',g1,g2,g3,g4,g5⟩:=ih mp (sl.set j (sl[j].1,v,sl[j].2.2)) (h1.set j _ (fun _=>rfl)) q1 q2 (by rw [List.length_set];omega) q3
  refine ⟨sl',g1,g2,g3,g4,fun R hR=>?_⟩
  refine aN.step (fun k m=>bf.aR k m _ _ _ _ _ _ _) (aN.bT (decide_eq_true Q2) (aN.iT Q2 ?_))
  rw [e]
  refine aN.bind hkey ?_
  rw [hm]
  refine aN.bF rfl (aN.iT Q2 ?_)
  rw [ej]
  refine aN.bind v1 (aN.iT Q2 (next _ _ _ ?_))
  rw [Int.toNat_natCast]
  exact g5 R hR
 have hno:∀ j (h:j<sl.length),sl[j].1≠l[i].1:=fun j h he=>c ⟨j,h,he⟩
 have hm:oR mp (GW l[i].1)=(0,false,()):=by rw [Fm,a2 hno]
 have q1:∀ t∈sl++[l[i]],ks n ((i+1)*(K+1)) t:=fun t ht=>by
  rw [List.mem_append,List.mem_singleton] at ht
  rcases ht with ht | rfl
  ·obtain ⟨b1,b2,b3⟩:=h2 t ht
   exact ⟨b1,b2,b3.mono Q2⟩
  exact ⟨o1,o2,o3.mono Q2⟩
 have q2:NeL (sl++[l[i]]):=by
  refine List.pairwise_append.2 ⟨h3,Q3,fun a ha b hb=>?_⟩
  rw [List.mem_singleton] at hb
  subst hb
  obtain ⟨j,hj,rfl⟩:=List.getElem_of_mem ha
  exact hno j hj
 have q3:∀ m,fj m (dW (sl++[l[i]]))=fj m (dW (l.take (i+1))):=fun m=>by
  rw [mL,G.gS,h5,htk]
  show _+(gw l[i].2.1*m l[i].1+0)=_
  grind
 obtain ⟨sl',g1,g2,g3,g4,g5⟩:=ih (V.ko mp (GW l[i].1) (sl.length:Int)) (sl++[l[i]]) (h1.add o1 o2 hno) q1 q2 (by simp;omega) q3
 refine ⟨sl',g1,g2,g3,g4,fun R hR=>?_⟩
 refine aN.step (fun k m=>bf.aR k m _ _ _ _ _ _ _) (aN.bT (decide_eq_true Q2) (aN.iT Q2 ?_))
 rw [e]
 refine aN.bind hkey ?_
 rw [hm]
 exact aN.bT rfl (aN.iT (by simp only [List.length_cons,List.length_nil];omega) (next _ _ _ (g5 R hR)))
theorem wg (m:Ex->Rat):∀ l:List aj,fj m (dW (l.filter qY))=fj m (dW l)
 | []=>rfl
 | t :: l=>by
  have ih:=wg m l
  cases h:qY t with
  | true =>
   rw [List.filter_cons_of_pos h,cC,cC]
   show _*_+_=_*_+_
   rw [ih]
  | false =>
   rw [List.filter_cons_of_neg (by simp [h]),cC,ih]
   have hz:gw t.2.1=0:=by
    apply Classical.byContradiction
    intro hne
    rw [qY,fy hne] at h
    cases h
   show _=gw t.2.1*m t.1+_
   rw [hz]
   grind
theorem vG {l:List aj} (hn:n<=8) (hl:l.length<=100000) (hK:(l.length+1)*(K+1)<=200000000) (hok:∀ t∈l,ks n K t) :
 ∃ ls:List aj,Ev (fun k=>bf k (n:Int) l) ((n:Int),ls,())/\ls.length<=l.length/\(∀ t∈ls,ks n (l.length*(K+1)) t)/\ka n (dW ls)/\j9 (dW ls) (dW l):=by
 obtain ⟨sl,h1,h2,h3,h4,h5⟩:=CA hn hl hK hok
 have hend:=CC hn Q2 h2 h3
 have hp:=kx (sl.filter qY)
 have hfl:=List.length_filter_le qY sl
 have hmem:∀ t∈ij (sl.filter qY),t∈sl/\qY t=true:=fun t ht=>List.mem_filter.1 (hp.mem_iff.1 ht)
 have hlen:∀ t∈sl.filter qY,t.1.length=n:=fun t ht=>(h2 t (List.mem_filter.1 ht).1).1
 refine ⟨ij (sl.filter qY),h5 _ hend,by rw [hp.length_eq];omega,fun t ht=>h2 t (hmem t ht).1,⟨?_,fun t ht=>?_,fun t ht=>?_⟩,fun m=>?_⟩
 ·have hf:=qx n (sl.filter qY) hlen (h3.sublist List.filter_sublist)
  rw [dW,List.pairwise_map]
  refine hf.imp_of_mem (fun {a b} ha hb h=>?_)
  exact (G2 ((h2 a (hmem a ha).1).1.trans (h2 b (hmem b hb).1).1.symm)).1 h
 ·obtain ⟨u,hu,rfl⟩:=List.mem_map.1 ht
  exact dc_iff.1 (hmem u hu).2
 ·obtain ⟨u,hu,rfl⟩:=List.mem_map.1 ht
  exact (h2 u (hmem u hu).1).1
 have h6:fj m (dW (ij (sl.filter qY)))=fj m (dW (sl.filter qY)):=G.oU m (hp.map ku)
 rw [h6,wg,h4]
end
def FG (n:Nat) (a b:List Int) (j:Nat):List Int:=(List.range n).map fun i=>if i<j then a.getD i 0+b.getD i 0 else 0
theorem Jn (n:Nat) (a b:List Int):FG n a b 0=List.replicate n 0:=by
 apply List.ext_getElem (by simp [FG])
 intro i h1 h2
 simp [FG]
theorem Ll {n:Nat} {a b:List Int} {j:Nat} (h:j<n):(FG n a b j).set j (a.getD j 0+b.getD j 0)=FG n a b (j+1):=by
 apply List.ext_getElem (by simp [FG])
 intro i h1 h2
 simp only [FG,List.getElem_set,List.getElem_map,List.getElem_range]
 by_cases c:j=i
 ·subst c;rw [if_pos rfl,if_pos Q2]
 rw [if_neg c]
 by_cases d:i<j
 ·rw [if_pos d,if_pos Q2]
 rw [if_neg d,if_neg Q2]
theorem Jo {n:Nat} {a b:List Int} (ha:a.length=n) (hb:b.length=n):FG n a b n=G.fi a b:=by
 apply List.ext_getElem (by simp [FG,G.fi,ha,hb])
 intro i h1 h2
 have hi:i<n:=by simpa [FG] using h1
 simp only [FG,List.getElem_map,List.getElem_range,G.fi,List.getElem_zipWith,if_pos hi]
 rw [List.getD_eq_getElem?_getD,List.getD_eq_getElem?_getD,List.getElem?_eq_getElem Q2,List.getElem?_eq_getElem Q2]
 rfl
section
variable {n K L:Nat}
theorem zc {l:List aj} {t:aj} (hn:n<=8) (hl:l.length<=100000) (hKL:K+L<1000000) (hok:∀ u∈l,ks n K u) (ht:ks n L t) (hb:∀ u∈l,∀ e∈G.fi u.1 t.1,0<=e/\e<256) :
 ∃ ls:List aj,Ev (fun k=>cK k ((n:Int),l,()) t) ((n:Int),ls,())/\ls.length=l.length/\(∀ u∈ls,ks n (K+L) u)/\dW ls=G.Ag (dW l) (ku t):=by
 obtain ⟨t1,t2,t3⟩:=ht
 have main:=pT (n:=l.length) (P:=fun i=>∀ acc:List aj,acc.length=i->∃ ls:List aj,ls.length=l.length-i/\(∀ u∈ls,ks n (K+L) u)/\dW ls=G.Ag (dW (l.drop i)) (ku t)/\aN (fun k m=>cK.l0 k m l (l.length:Int) (i:Int) ((n:Int),l,()) t ((0:Int),[],()) (n:Int) acc) ((n:Int),acc++ls,())) ?_ ?_ 0 (Nat.zero_le _) [] rfl
 ·obtain ⟨ls,h1,h2,h3,h4⟩:=main
  exact ⟨ls,Ev.step (fun k=>zd k _ _) h4.diag,Q2,h2,h3⟩
 ·intro acc hacc
  exact ⟨[],Q3,(fun u h=>by cases h),by rw [List.drop_length];rfl,aN.step (fun k m=>cK.aR k m _ _ _ _ _ _ _ _) (aN.bF (decide_eq_false Q2) (by rw [List.append_nil];exact aN.of (aT _)))⟩
 intro i hi ih acc hacc
 have e:(cG (t:=ah) l (i:Int):aj)=l[i]:=cy hi
 obtain ⟨o1,o2,o3⟩:=hok l[i] (List.getElem_mem hi)
 have hbi:=hb l[i] (List.getElem_mem hi)
 obtain ⟨v,v1,v2,v3⟩:=vN o3.rb.1 t3.rb.1 o3.rb.2 t3.rb.2 Q2
 obtain ⟨ls,h1,h2,h3,h4⟩:=ih (acc++[(G.fi l[i].1 t.1,v,())]) (by simp [hacc])
 refine ⟨(G.fi l[i].1 t.1,v,()) :: ls,by simp only [List.length_cons];omega,fun u hu=>?_,?_,?_⟩
 ·rcases List.mem_cons.1 hu with rfl | hu
  ·exact ⟨by rw [G.lB (o1.trans t1.symm)];exact o1,hbi,⟨_,v2,v3⟩⟩
  exact h2 u hu
 ·rw [dM hi,cC,cC,h3]
  show _ :: _=(G.fi l[i].1 t.1,gw l[i].2.1*gw t.2.1) :: _
  rw [ku,pI v2]
  rfl
 rw [show acc++(G.fi l[i].1 t.1,v,()) :: ls=(acc++[(G.fi l[i].1 t.1,v,())])++ls by simp]
 refine aN.step (fun k m=>cK.aR k m _ _ _ _ _ _ _ _) (aN.bT (decide_eq_true Q2) (aN.iT Q2 (aN.iT (by show (0:Int)<=(n:Int)/\(n:Int)<=(n:Int)/\8*(n:Int).toNat<=281474976710656/\(n:Int).toNat<=maxLen;unfold maxLen;omega) ?_)))
 rw [e]
 show aN (fun k m0=>cK.l1 k k m0 l (l.length:Int) (i:Int) (List.length (List.replicate (Int.toNat (n:Int)) ((0:Int):Int)):Int) (0:Int) ((n:Int),l,()) t ((0:Int),[],()) (n:Int) acc l[i] (List.replicate (Int.toNat (n:Int)) ((0:Int):Int))) _
 rw [Int.toNat_natCast,List.length_replicate,<- Jn n l[i].1 t.1]
 have key:=pT (n:=n) (P:=fun j=>eL (fun k m1 m0=>cK.l1 k m1 m0 l (l.length:Int) (i:Int) (n:Int) (j:Int) ((n:Int),l,()) t ((0:Int),[],()) (n:Int) acc l[i] (FG n l[i].1 t.1 j)) ((n:Int),(acc++[(G.fi l[i].1 t.1,v,())])++ls,())) ?_ ?_ 0 (Nat.zero_le _)
 ·exact key.diag
 ·rw [Jo o1 t1]
  refine eL.step (fun k m1 m0=>cK.eB k m1 m0 _ _ _ _ _ _ _ _ _ _ _ _) (eL.bF (decide_eq_false Q2) (eL.bind v1 (eL.iT (by simp only [List.length_cons,List.length_nil];omega) (eL.of ?_))))
  rw [fN Q2]
  exact h4
 intro j hj ihj
 have hel:(FG n l[i].1 t.1 j).length=n:=by simp [FG]
 have e1:(cG (t:=(.int .i64)) l[i].1 (j:Int):Int)=l[i].1.getD j 0:=rfl
 have e2:(cG (t:=(.int .i64)) t.1 (j:Int):Int)=t.1.getD j 0:=rfl
 have hjl:j<l[i].1.length:=Q2
 have hjt:j<t.1.length:=Q2
 have a1:=o2 _ (List.getElem_mem hjl)
 have a2:=t2 _ (List.getElem_mem hjt)
 have g1:l[i].1.getD j 0=l[i].1[j]:=by rw [List.getD_eq_getElem?_getD,List.getElem?_eq_getElem hjl];rfl
 have g2:t.1.getD j 0=t.1[j]:=by rw [List.getD_eq_getElem?_getD,List.getElem?_eq_getElem hjt];rfl
 refine eL.step (fun k m1 m0=>cK.eB k m1 m0 _ _ _ _ _ _ _ _ _ _ _ _) (eL.bT (decide_eq_true Q2) (eL.iT Q2 (eL.iT Q2 (eL.iT Q2 ?_))))
 rw [e1,e2,fN Q2,cx Q2 Q2,Int.toNat_natCast,Ll hj]
 exact ihj
theorem DL {l l':List aj} (hn:n<=8) (hl:l.length<=60000) (hl':l'.length<=60000) (hll:l.length*l'.length<=60000) (hKL:K+L<3000) (hok:∀ u∈l,ks n K u) (hok':∀ u∈l',ks n L u) (hb:∀ u∈l',∀ t∈l,∀ e∈G.fi u.1 t.1,0<=e/\e<256) :
 ∃ ls:List aj,Ev (fun k=>fH k ((n:Int),l,()) ((n:Int),l',())) ((n:Int),ls,())/\ls.length<=l.length*l'.length/\(∀ t∈ls,ks n (l.length*l'.length*(L+K+1)) t)/\ka n (dW ls)/\j9 (dW ls) (G.prod (dW l) (dW l')):=by
 have hbig:∀ i,i<=l.length->i*l'.length<=60000:=fun i hi=>Nat.le_trans (Nat.mul_le_mul_right _ hi) hll
 have main:=pT (n:=l.length) (P:=fun i=>∀ acc:List aj,acc.length=i*l'.length->(∀ u∈acc,ks n (L+K) u)->dW acc=G.prod (dW (l.take i)) (dW l') ->
  ∃ ac:List aj,ac.length=l.length*l'.length/\(∀ u∈ac,ks n (L+K) u)/\dW ac=G.prod (dW l) (dW l')/\∀ R,Ev (fun k=>bf k (n:Int) ac) R->aN (fun k m=>fH.l0 k m l (l.length:Int) (i:Int) ((n:Int),l,()) ((n:Int),l',()) ((0:Int),[],()) acc) R) ?_ ?_ 0 (Nat.zero_le _) [] Q3 (fun u h=>by cases h) rfl
 ·obtain ⟨ac,h1,h2,h3,h4⟩:=main
  obtain ⟨ls,g1,g2,g3,g4,g5⟩:=vG hn (by rw [h1];have:=hbig _ (Nat.le_refl _);omega) (by
   rw [h1]
   exact Nat.le_trans (Nat.mul_le_mul (show _<=60001 by have:=hbig _ (Nat.le_refl _);omega) (show L+K+1<=3000 by omega)) (by decide)) h2
  rw [h1] at g2 g3
  rw [h3] at g5
  exact ⟨ls,Ev.step (fun k=>DN k _ _) (h4 _ g1).diag,g2,g3,g4,g5⟩
 ·intro acc h1 h2 h3
  rw [List.take_length] at h3
  exact ⟨acc,h1,h2,h3,fun R hR=>aN.step (fun k m=>fH.aR k m _ _ _ _ _ _ _) (aN.bF (decide_eq_false Q2) (aN.bind hR (aN.of (aT _))))⟩
 intro i hi ih acc h1 h2 h3
 have e:(cG (t:=ah) l (i:Int):aj)=l[i]:=cy hi
 obtain ⟨ls,s1,s2,s3,s4⟩:=zc (l:=l') (t:=l[i]) hn Q2 Q2 hok' (hok _ (List.getElem_mem hi)) (fun u hu=>hb u hu _ (List.getElem_mem hi))
 have hsz:=hbig (i+1) Q2
 have hmul:(i+1)*l'.length=i*l'.length+l'.length:=Nat.succ_mul _ _
 obtain ⟨ac,a1,a2,a3,a4⟩:=ih (acc++ls) (by rw [List.length_append,h1,s2,hmul]) (fun u hu=>by
  rcases List.mem_append.1 hu with hu | hu
  ·exact h2 u hu
  ·exact s3 u hu) (by
  rw [mL,h3,s4,List.take_succ_eq_append_getElem hi,mL]
  simp only [G.prod,List.flatMap_append]
  show _=_++(G.Ag (dW l') (ku l[i])++[])
  rw [List.append_nil])
 refine ⟨ac,a1,a2,a3,fun R hR=>?_⟩
 refine aN.step (fun k m=>fH.aR k m _ _ _ _ _ _ _) (aN.bT (decide_eq_true Q2) (aN.iT Q2 ?_))
 rw [e]
 refine aN.bind s1 (aN.iT (by show (acc.length+ls.length)*80<=_;omega) (aN.bF (decide_eq_false (by show ¬ ((acc++ls).length:Int)>65536;rw [List.length_append];omega) ) ?_))
 show aN (fun k m=>fH.l0 k m l (l.length:Int) (wrap64 ((i:Int)+(1:Int))) ((n:Int),l,()) ((n:Int),l',()) ((0:Int),[],()) (acc++ls)) R
 rw [fN Q2]
 exact a4 R hR
end
open Go.Proofs.YtfbgaddecbiimaaGreatDoor.G (jx)
noncomputable def ob (v:bB):Rat:=Rat.divInt (sg v.1 (vl RR v.2.1)) (vl RR v.2.2.1)
theorem rC {v:bB} {q:Rat} (h:RB RR v q):ob v=q:=by
 have h1:=Is h
 unfold ob
 rw [h.2.1.2.2,h.2.2.2.2]
 exact h1
def CoR (K:Nat) (v:bB):Prop:=∃ q,RB RR v q/\Sz RR K q
theorem CoR.rb {K:Nat} {v:bB} (h:CoR K v):RB RR v (ob v)/\Sz RR K (ob v):=by
 obtain ⟨q,h1,h2⟩:=h
 rw [rC h1]
 exact ⟨h1,h2⟩
theorem CoR.mono {K L:Nat} {v:bB} (h:CoR K v) (hk:K<=L):CoR L v:=by
 obtain ⟨q,h1,h2⟩:=h
 exact ⟨q,h1,rk aY h2 hk⟩
noncomputable def Af (n:Nat) (t:aj):Tm:=(t.1.take n,ob t.2.1)
noncomputable def dQ (n:Nat) (l:List aj):List Tm:=l.map (Af n)
def qc (n K:Nat) (t:aj):Prop:=t.1=eh (t.1.take n)/\(t.1.take n).length=n/\CoR K t.2.1
theorem qc.mono {n K L:Nat} {t:aj} (h:qc n K t) (hk:K<=L):qc n L t:=⟨h.1,h.2.1,h.2.2.mono hk⟩
theorem xR {x:List Int} (h:x.length=8):eh x=x:=by
 rw [eh,df _ _ _ Q2,h];simp
theorem qc.len {n K:Nat} {t:aj} (h:qc n K t):t.1.length=8:=by rw [h.1];exact dX _ _ _
theorem qz {n K L:Nat} {r:List aj} {e:List Int} {c:bB} {q:Rat} (hn:n<=8) (hr:r.length<=100000) (hK:K+L<1000000) (hok:∀ t∈r,qc n K t) (he:e.length=n) (hc:RB RR c q) (hs:Sz RR L q) :
 ∃ r':List aj,Ev (fun k=>bP k r (eh e) c) r'/\dQ n r'=jx (dQ n r) e q/\(∀ t∈r',qc n (K+L+1) t)/\r'.length<=r.length+1:=by
 have hsg:=tZ hc
 by_cases c0:q=0
 ·refine ⟨r,Ev.step (fun k=>jo k _ _ _) (Ev.bind hsg (bT (by rw [lV];exact decide_eq_true c0) (aT _))),by rw [jx,if_pos c0],fun t ht=>(hok t ht).mono Q2,Q2⟩
 have hsz:(CQ q==(0:Int))=false:=by rw [lV];exact decide_eq_false c0
 have ep:ef (0:Int) 8 (eh e)=eh e:=xR (dX _ _ _)
 have main:=pT (n:=r.length) (P:=fun i=>(∀ j (h:j<r.length),j<i->r[j].1≠eh e)->∃ r':List aj,aN (fun k m=>bP.l0 k m (r.length:Int) (i:Int) r (eh e) c) r'/\dQ n r'=jx (dQ n r) e q/\(∀ t∈r',qc n (K+L+1) t)/\r'.length<=r.length+1) ?_ ?_ 0 (Nat.zero_le _) (fun j _ h=>Q2)
 ·obtain ⟨r',h1,h2,h3,h4⟩:=main
  exact ⟨r',Ev.step (fun k=>jo k _ _ _) (Ev.bind hsg (bF hsz h1.diag)),h2,h3,h4⟩
 ·intro hno
  refine ⟨r++[(eh e,c,())],aN.step (fun k m=>bP.aR k m _ _ _ _ _) (aN.bF (decide_eq_false Q2) (aN.iT (by simp only [List.length_cons,List.length_nil];omega) (aN.of (aT _)))),?_,fun t ht=>?_,Q3⟩
  ·rw [jx,if_neg c0]
   have hf:(dQ n r).findIdx? (fun t=>t.1==e)=none:=by
    rw [List.findIdx?_eq_none_iff]
    intro t ht
    obtain ⟨u,hu,rfl⟩:=List.mem_map.1 ht
    obtain ⟨j,hj,rfl⟩:=List.getElem_of_mem hu
    rw [beq_eq_false_iff_ne]
    intro h
    refine hno j hj hj ?_
    rw [(hok _ hu).1]
    exact congrArg eh h
   rw [hf]
   show (r++[(eh e,c,())]).map (Af n)=r.map (Af n)++[(e,q)]
   rw [List.map_append]
   show _++[((eh e).take n,ob c)]=_
   rw [rC hc,<- he,fV Q2]
  rcases List.mem_append.1 ht with ht | ht
  ·exact (hok t ht).mono Q2
  rw [List.mem_singleton] at ht
  subst ht
  have h1:(eh e).take n=e:=by rw [<- he,fV Q2]
  exact ⟨by show eh e=eh ((eh e).take n);rw [h1],by show ((eh e).take n).length=n;rw [h1,he],q,hc,rk aY hs Q2⟩
 intro i hi ih hno
 have er:(cG (t:=af) r (i:Int):aj)=r[i]:=cy hi
 obtain ⟨o1,o2,o3⟩:=hok r[i] (List.getElem_mem hi)
 have hl8:=(hok r[i] (List.getElem_mem hi)).len
 have epi:ef (0:Int) 8 r[i].1=r[i].1:=xR hl8
 by_cases c1:r[i].1=eh e
 ·obtain ⟨v,v1,v2,v3⟩:=Dt o3.rb.1 hc o3.rb.2 hs Q2
  have hsv:=tZ v2
  have hxe:r[i].1.take n=e:=by rw [c1,<- he,fV Q2]
  have hf:(dQ n r).findIdx? (fun t=>t.1==e)=some i:=by
   rw [List.findIdx?_eq_some_iff_getElem]
   refine ⟨by simpa [dQ] using hi,by simp [dQ,Af,hxe],fun j hj=>?_⟩
   have hj':j<r.length:=Q2
   simp only [dQ,Af,List.getElem_map,beq_iff_eq]
   intro h
   refine hno j hj' hj ?_
   rw [(hok _ (List.getElem_mem hj')).1]
   exact congrArg eh h
  have hg:((dQ n r).getD i ([],0)).2=ob r[i].2.1:=by simp [dQ,Af,List.getD_eq_getElem?_getD,hi]
  have w1:wrap64 ((r.length:Int)-1)=((r.length-1:Nat):Int):=by rw [cx Q2 Q2];omega
  by_cases c2:ob r[i].2.1+q=0
  ·rw [c2] at hsv
   have hlast:r.length-1<r.length:=Q2
   have el:(cG (t:=af) r ((r.length-1:Nat):Int):aj)=r[r.length-1]:=cy hlast
   refine ⟨(r.set i r[r.length-1]).take (r.length-1),?_,?_,fun t ht=>?_,by rw [List.length_take];omega⟩
   ·refine aN.step (fun k m=>bP.aR k m _ _ _ _ _) (aN.bT (decide_eq_true Q2) (aN.iT Q2 ?_))
    rw [er,epi,ep,c1]
    refine aN.bT Q3 (aN.iT Q2 (aN.bind v1 (aN.bind hsv (aN.bT rfl ?_))))
    rw [w1,el,Int.toNat_natCast,List.length_set,w1,Int.toNat_natCast]
    exact aN.iT Q2 (aN.iT Q2 (aN.iT Q2 (aN.of (aT _))))
   ·rw [jx,if_neg c0,hf]
    dsimp only
    rw [if_pos (by rw [hg];exact c2)]
    have hll:(dQ n r).length=r.length:=by simp [dQ]
    rw [hll]
    have h2:(dQ n r).getD (r.length-1) ([],0)=Af n r[r.length-1]:=by simp [dQ,List.getD_eq_getElem?_getD,hlast]
    rw [h2]
    simp only [dQ,List.map_take,List.map_set]
   rcases List.mem_or_eq_of_mem_set (List.mem_of_mem_take ht) with h | rfl
   ·exact (hok t h).mono Q2
   exact (hok _ (List.getElem_mem hlast)).mono Q2
  have hne:(CQ (ob r[i].2.1+q)==(0:Int))=false:=by rw [lV];exact decide_eq_false c2
  refine ⟨r.set i (r[i].1,v,r[i].2.2),?_,?_,fun t ht=>?_,by rw [List.length_set];omega⟩
  ·refine aN.step (fun k m=>bP.aR k m _ _ _ _ _) (aN.bT (decide_eq_true Q2) (aN.iT Q2 ?_))
   rw [er,epi,ep]
   refine aN.bT (by simp [c1]) (aN.iT Q2 (aN.bind v1 (aN.bind hsv (aN.bF hne (aN.iT Q2 ?_)))))
   rw [Int.toNat_natCast]
   exact aN.of (aT _)
  ·rw [jx,if_neg c0,hf]
   dsimp only
   rw [if_neg (by rw [hg];exact c2),hg]
   simp only [dQ,List.map_set]
   show _=(List.map (Af n) r).set i (e,ob r[i].2.1+q)
   rw [show Af n (r[i].1,v,r[i].2.2)=(e,ob r[i].2.1+q) by show (r[i].1.take n,ob v)=_;rw [hxe,rC v2]]
  rcases List.mem_or_eq_of_mem_set ht with h | rfl
  ·exact (hok t h).mono Q2
  exact ⟨o1,o2,_,v2,v3⟩
 obtain ⟨r',h1,h2,h3,h4⟩:=ih (fun j hj hji=>by
  by_cases d:j=i
  ·subst d;exact c1
  exact hno j hj Q2)
 refine ⟨r',aN.step (fun k m=>bP.aR k m _ _ _ _ _) (aN.bT (decide_eq_true Q2) (aN.iT Q2 ?_)),h2,h3,h4⟩
 rw [er,epi,ep]
 refine aN.bF (by simp [c1]) ?_
 rw [fN Q2]
 exact h1
def Ai (a b:List Int) (j:Nat):List Int:=(List.range 8).map fun i=>if i<j then a.getD i 0+b.getD i 0 else a.getD i 0
theorem Jp {a b:List Int} (ha:a.length=8):Ai a b 0=a:=by
 apply List.ext_getElem (by simp [Ai,ha])
 intro i h1 h2
 simp [Ai,List.getD_eq_getElem?_getD,List.getElem?_eq_getElem h2]
theorem FH (a b:List Int) (j:Nat):(Ai a b j).length=8:=by simp [Ai]
theorem Ln {a b:List Int} {j:Nat} (h:j<(Ai a b j).length):(Ai a b j)[j]=a.getD j 0:=by simp [Ai]
theorem Lm {a b:List Int} {j:Nat}:(Ai a b j).set j (a.getD j 0+b.getD j 0)=Ai a b (j+1):=by
 apply List.ext_getElem (by simp [Ai])
 intro i h1 h2
 simp only [Ai,List.getElem_set,List.getElem_map,List.getElem_range]
 by_cases c:j=i
 ·subst c;rw [if_pos rfl,if_pos Q2]
 rw [if_neg c]
 by_cases d:i<j
 ·rw [if_pos d,if_pos Q2]
 rw [if_neg d,if_neg Q2]
theorem Jq {a b:List Int} (ha:a.length=8) (hb:b.length=8):Ai a b 8=G.fi a b:=by
 apply List.ext_getElem (by simp [Ai,G.fi,ha,hb])
 intro i h1 h2
 have hi:i<8:=by simpa [Ai] using h1
 simp only [Ai,List.getElem_map,List.getElem_range,G.fi,List.getElem_zipWith,if_pos hi]
 rw [List.getD_eq_getElem?_getD,List.getD_eq_getElem?_getD,List.getElem?_eq_getElem Q2,List.getElem?_eq_getElem Q2]
 rfl
theorem GH {x y:List Int} (h:x.length=y.length) (hx:x.length<=8):G.fi (eh x) (eh y)=eh (G.fi x y):=by
 have hl:=G.lB h
 rw [eh,eh,eh,df _ _ _ Q2,df _ _ _ Q2,df _ _ _ Q2,hl]
 unfold G.fi
 rw [List.zipWith_append h,h]
 congr 1
 simp
theorem yY {n K L:Nat} {l:List aj} {t:aj} (hn:n<=8) (hl:l.length<=100000) (hKL:K+L<1000000) (hok:∀ u∈l,qc n K u) (ht:qc n L t) (hb:∀ u∈l,∀ j,-1000000<=u.1.getD j 0/\u.1.getD j 0<1000000) (hb':∀ j,-1000000<=t.1.getD j 0/\t.1.getD j 0<1000000) :
 ∃ ls:List aj,Ev (fun k=>bb k l t) ls/\ls.length=l.length/\(∀ u∈ls,qc n (K+L) u)/\dQ n ls=G.Ag (dQ n l) (Af n t):=by
 have t8:=ht.len
 obtain ⟨t1,t2,t3⟩:=ht
 have main:=pT (n:=l.length) (P:=fun i=>∀ acc:List aj,acc.length=i->∃ ls:List aj,ls.length=l.length-i/\(∀ u∈ls,qc n (K+L) u)/\dQ n ls=G.Ag (dQ n (l.drop i)) (Af n t)/\aN (fun k m=>bb.l0 k m l (l.length:Int) (i:Int) t acc) (acc++ls)) ?_ ?_ 0 (Nat.zero_le _) [] rfl
 ·obtain ⟨ls,h1,h2,h3,h4⟩:=main
  exact ⟨ls,Ev.step (fun k=>mf k _ _) h4.diag,Q2,h2,h3⟩
 ·intro acc hacc
  exact ⟨[],Q3,(fun u h=>by cases h),by rw [List.drop_length];rfl,aN.step (fun k m=>bb.aR k m _ _ _ _ _) (aN.bF (decide_eq_false Q2) (by rw [List.append_nil];exact aN.of (aT _)))⟩
 intro i hi ih acc hacc
 have e:(cG (t:=af) l (i:Int):aj)=l[i]:=cy hi
 have o8:=(hok l[i] (List.getElem_mem hi)).len
 obtain ⟨o1,o2,o3⟩:=hok l[i] (List.getElem_mem hi)
 have hbi:=hb l[i] (List.getElem_mem hi)
 obtain ⟨v,v1,v2,v3⟩:=vm o3.rb.1 t3.rb.1 o3.rb.2 t3.rb.2 Q2
 obtain ⟨ls,h1,h2,h3,h4⟩:=ih (acc++[(G.fi l[i].1 t.1,v,())]) (by simp [hacc])
 have ha:G.fi l[i].1 t.1=eh (G.fi (l[i].1.take n) (t.1.take n)):=by
  rw [<- GH (o2.trans t2.symm) Q2,<- o1,<- t1]
 have hal:(G.fi (l[i].1.take n) (t.1.take n)).length=n:=(G.lB (o2.trans t2.symm)).trans o2
 have htk:(G.fi l[i].1 t.1).take n=G.fi (l[i].1.take n) (t.1.take n):=by
  rw [ha]
  conv=>lhs;arg 1;rw [<- hal]
  exact fV Q2
 refine ⟨(G.fi l[i].1 t.1,v,()) :: ls,by simp only [List.length_cons];omega,fun u hu=>?_,?_,?_⟩
 ·rcases List.mem_cons.1 hu with rfl | hu
  ·exact ⟨by show G.fi l[i].1 t.1=eh ((G.fi l[i].1 t.1).take n);rw [htk];exact ha,by show ((G.fi l[i].1 t.1).take n).length=n;rw [htk];exact hal,⟨_,v2,v3⟩⟩
  exact h2 u hu
 ·rw [dM hi]
  show Af n _ :: dQ n ls=G.Ag (Af n l[i] :: dQ n (l.drop (i+1))) (Af n t)
  rw [h3]
  show ((G.fi l[i].1 t.1).take n,ob v) :: _=(G.fi (l[i].1.take n) (t.1.take n),ob l[i].2.1*ob t.2.1) :: _
  rw [htk,rC v2]
  rfl
 rw [show acc++(G.fi l[i].1 t.1,v,()) :: ls=(acc++[(G.fi l[i].1 t.1,v,())])++ls by simp]
 refine aN.step (fun k m=>bb.aR k m _ _ _ _ _) (aN.bT (decide_eq_true Q2) (aN.iT Q2 ?_))
 rw [e]
 have key:=pT (n:=8) (P:=fun j=>eL (fun k m1 m0=>bb.l1 k m1 m0 l (l.length:Int) (i:Int) (j:Int) t acc l[i] (Ai l[i].1 t.1 j)) ((acc++[(G.fi l[i].1 t.1,v,())])++ls)) ?_ ?_ 0 (Nat.zero_le _)
 ·rw [Jp o8] at key
  exact key.diag
 ·rw [Jq o8 t8]
  refine eL.step (fun k m1 m0=>bb.eB k m1 m0 _ _ _ _ _ _ _ _) (eL.bF (decide_eq_false Q2) (eL.bind v1 (eL.iT (by simp only [List.length_cons,List.length_nil];omega) (eL.of ?_))))
  rw [fN Q2]
  exact h4
 intro j hj ihj
 have a1:=hbi j
 have a2:=hb' j
 have e1:yZ (0:Int) 8 (Ai l[i].1 t.1 j) (j:Int)=l[i].1.getD j 0:=by
  rw [rB (FH _ _ _) hj];exact Ln _
 have e2:yZ (0:Int) 8 t.1 (j:Int)=t.1.getD j 0:=by
  rw [rB t8 hj,List.getD_eq_getElem?_getD,List.getElem?_eq_getElem Q2];rfl
 refine eL.step (fun k m1 m0=>bb.eB k m1 m0 _ _ _ _ _ _ _ _) (eL.bT (decide_eq_true Q2) (eL.iT Q2 (eL.iT Q2 (eL.iT Q2 ?_))))
 rw [e1,e2,fN Q2,cx Q2 Q2,ER (FH _ _ _) hj,Lm]
 exact ihj
end Go.Proofs.YtfbgaddecbiimaaGreatDoor.Q
end
section
namespace Go.Proofs.YtfbgaddecbiimaaGreatDoor.G
def mM:Ex->Int
 | []=>0
 | a :: l=>a+mM l
theorem u9:∀ {a b:Ex},a.length=b.length->mM (fi a b)=mM a+mM b
 | [],[],_=>rfl
 | [],_ :: _,h=>by simp at h
 | _ :: _,[],h=>by simp at h
 | a :: l,b :: k,h=>by
  have ih:=u9 (a:=l) (b:=k) (by simpa using h)
  simp only [fi] at ih
  simp only [fi,List.zipWith_cons_cons,mM,ih]
  omega
def sQ:List Tm->Int
 | []=>-1
 | t :: l=>max (mM t.1) (sQ l)
theorem JB {d:Int}:∀ {p:List Tm},-1<=d->(∀ t∈p,mM t.1<=d)->sQ p<=d
 | [],h,_=>h
 | t :: p,h,h'=>by
  have h1:=JB (p:=p) h (fun u hu=>h' u (List.mem_cons_of_mem _ hu))
  have h2:=h' t (List.mem_cons_self ..)
  simp only [sQ];omega
theorem I7:∀ {p:List Tm} {t:Tm},t∈p->mM t.1<=sQ p
 | [],_,h=>by simp at h
 | u :: p,t,h=>by
  simp only [sQ]
  rcases List.mem_cons.1 h with e | e
  ·rw [e];omega
  have:=I7 e;omega
theorem wF:∀ (p:List Tm),-1<=sQ p
 | []=>by simp [sQ]
 | t :: p=>by have:=wF p;simp only [sQ];omega
theorem co_ne {l:List Tm} {e:Ex} (h:co l e≠0):∃ t∈l,t.1=e:=by
 apply Classical.byContradiction
 intro c
 exact h (zO fun t ht e'=>c ⟨t,ht,e'⟩)
theorem jP.from {n:Nat} {p r:List Tm} (h:jP n p) (he:∀ e,co p e=co r e) {t:Tm} (ht:t∈p):∃ u∈r,u.1=t.1:=by
 apply co_ne
 rw [<- he,h.qV t ht]
 exact h.nz t ht
def Cz (D H:Int) (q:Rat):Prop:=∃ z:Int,q*(D:Rat)=(z:Rat)/\(z.natAbs:Int)<=H
theorem Cz.zero {D H:Int} (h:0<=H):Cz D H 0:=⟨0,Q3,by simpa using h⟩
theorem Cz.mono {D H H':Int} {q:Rat} (h:Cz D H q) (hh:H<=H'):Cz D H' q:=let ⟨z,h1,h2⟩:=h;⟨z,h1,Q2⟩
theorem Cz.add {D H H':Int} {a b:Rat} (h:Cz D H a) (h':Cz D H' b):Cz D (H+H') (a+b):=by
 obtain ⟨z,h1,h2⟩:=h
 obtain ⟨y,h3,h4⟩:=h'
 refine ⟨z+y,?_,Q2⟩
 rw [Rat.intCast_add,<- h1,<- h3];grind
theorem Cz.size {D H:Int} {q:Rat} (hD:0<D) (h:Cz D H q):(q.den:Int)<=D/\(q.num.natAbs:Int)<=H:=by
 obtain ⟨z,h1,h2⟩:=h
 have hq:q=Rat.divInt z D:=by
  rw [Rat.divInt_eq_div,<- h1]
  have:(D:Rat)≠0:=by
   intro h
   have:=Rat.intCast_inj.1 (h.trans Rat.intCast_zero.symm)
   omega
  rw [Rat.div_def,Rat.mul_assoc,Rat.mul_inv_cancel _ this];grind
 have hg:D.gcd z≠0:=by
  intro h
  have:=Int.gcd_eq_zero_iff.1 h
  omega
 constructor
 ·rw [hq,Rat.den_divInt,if_neg Q2]
  have:D.natAbs / D.gcd z<=D.natAbs:=Nat.div_le_self ..
  omega
 rw [hq,Rat.num_divInt,Int.sign_eq_one_of_pos hD,Int.one_mul]
 have:(z / (D.gcd z:Int)).natAbs<=z.natAbs:=by
  rw [Int.natAbs_ediv_of_dvd (Int.gcd_dvd_right ..)]
  exact Nat.div_le_self ..
 omega
def CL (D:Int):Int->List Tm->Prop
 | H,[]=>0<=H
 | H,t :: l=>∃ z:Int,t.2*(D:Rat)=(z:Rat)/\CL D (H-z.natAbs) l
theorem CL.mono {D:Int}:∀ {l:List Tm} {H H':Int},CL D H l->H<=H'->CL D H' l
 | [],H,H',h,hh=>Int.le_trans h hh
 | t :: l,H,H',⟨z,h1,h2⟩,hh=>⟨z,h1,h2.mono Q2⟩
theorem CL.pos {D:Int}:∀ {l:List Tm} {H:Int},CL D H l->0<=H
 | [],H,h=>h
 | t :: l,H,⟨z,h1,h2⟩=>by have:=h2.pos;omega
theorem CL.append {D:Int}:∀ {p q:List Tm} {H H':Int},CL D H p->CL D H' q->CL D (H+H') (p++q)
 | [],q,H,H',h,h'=>h'.mono (by have:0<=H:=h;omega)
 | t :: p,q,H,H',⟨z,h1,h2⟩,h'=>⟨z,h1,(h2.append h').mono Q2⟩
theorem CL.Ag {D D' H':Int} {t:Tm} (ht:Cz D' H' t.2):∀ {p:List Tm} {H:Int},CL D H p->CL (D*D') (H*H') (Ag p t)
 | [],H,h=>Int.mul_nonneg h (by obtain ⟨z,_,h2⟩:=ht;omega)
 | u :: p,H,⟨z,h1,h2⟩=>by
  have ih:=CL.Ag ht h2
  obtain ⟨y,h3,h4⟩:=ht
  refine ⟨z*y,?_,ih.mono ?_⟩
  ·show u.2*t.2*_=_
   rw [Rat.intCast_mul,Rat.intCast_mul,<- h1,<- h3];grind
  rw [Int.natAbs_mul,Int.natCast_mul,Int.sub_mul]
  have:(z.natAbs:Int)*y.natAbs<=z.natAbs*H':=Int.mul_le_mul_of_nonneg_left h4 Q2
  omega
theorem CL.prod {D D':Int} {q:List Tm}:∀ {p:List Tm} {H H':Int},CL D H p->CL D' H' q->CL (D*D') (H*H') (prod p q)
 | [],H,H',h,h'=>Int.mul_nonneg h h'.pos
 | t :: p,H,H',⟨z,h1,h2⟩,h'=>by
  have h3:Cz D (z.natAbs:Int) t.2:=⟨z,h1,Int.le_refl _⟩
  have h4:=CL.Ag h3 h'
  rw [Int.mul_comm D' D] at h4
  have h5:=h4.append (CL.prod h2 h')
  exact h5.mono (by rw [Int.sub_mul,Int.mul_comm H'];omega)
theorem CL.co {D:Int} (e:Ex):∀ {p:List Tm} {H:Int},CL D H p->Cz D H (co p e)
 | [],H,h=>by rw [Eu];exact Cz.zero h
 | t :: p,H,⟨z,h1,h2⟩=>by
  have ih:=CL.co e h2
  rw [sI]
  split
  ·exact (Cz.add ⟨z,h1,Int.le_refl _⟩ ih).mono Q2
  refine (Cz.add (Cz.zero (H:=0) (Int.le_refl _)) ih).mono ?_
  omega
theorem CL.ox {D D' c:Int} {a:Rat} (ha:Cz D' c a):∀ {p:List Tm} {H:Int},CL D H p->CL (D*D') (H*c) (ox a p)
 | [],H,h=>Int.mul_nonneg h (by obtain ⟨z,_,h2⟩:=ha;omega)
 | u :: p,H,⟨z,h1,h2⟩=>by
  have ih:=CL.ox ha h2
  obtain ⟨y,h3,h4⟩:=ha
  refine ⟨z*y,?_,ih.mono ?_⟩
  ·show u.2*a*_=_
   rw [Rat.intCast_mul,Rat.intCast_mul,<- h1,<- h3];grind
  rw [Int.natAbs_mul,Int.natCast_mul,Int.sub_mul]
  have:(z.natAbs:Int)*y.natAbs<=z.natAbs*c:=Int.mul_le_mul_of_nonneg_left h4 Q2
  omega
theorem CL.neg {D:Int}:∀ {p:List Tm} {H:Int},CL D H p->CL D H (neg p)
 | [],H,h=>h
 | u :: p,H,⟨z,h1,h2⟩=>by
  refine ⟨-z,?_,?_⟩
  ·show -u.2*_=_
   rw [Rat.intCast_neg,<- h1];grind
  rw [Int.natAbs_neg]
  exact CL.neg h2
def canon (p acc:List Tm):List Tm:=p.foldl (fun acc t=>jx acc t.1 t.2) acc
theorem nC {n:Nat}:∀ {p acc:List Tm},jP n acc->Len n p->jP n (canon p acc)/\∀ m,fj m (canon p acc)=fj m acc+fj m p
 | [],acc,h,_=>⟨h,fun m=>by simp only [canon,List.foldl_nil,fj];grind⟩
 | t :: p,acc,h,hl=>by
  obtain ⟨h1,h2⟩:=GC (c:=t.2) h (hl t (List.mem_cons_self ..))
  obtain ⟨h3,h4⟩:=nC (p:=p) h1 (fun u hu=>hl u (List.mem_cons_of_mem _ hu))
  refine ⟨h3,fun m=>?_⟩
  show fj m (canon p (jx acc t.1 t.2))=_
  rw [h4,h2];simp only [fj];grind
end Go.Proofs.YtfbgaddecbiimaaGreatDoor.G
end
section
namespace Go.Proofs.YtfbgaddecbiimaaGreatDoor.Q
open Go.RowKit Go.Proofs.YtfbgaddecbiimaaGreatDoorW.PrintWords Go.Proofs.YtfbgaddecbiimaaGreatDoorW.PrintMore Go.Proofs.YtfbgaddecbiimaaGreatDoor.V Go.Proofs.YtfbgaddecbiimaaGreatDoor.E
open Go.Proofs.YtfbgaddecbiimaaGreatDoor.P (Dg Nm vl WW RR bI gI aT jn kq dw aI bG aY cN cx u64)
open Go.Proofs.YtfbgaddecbiimaaGreatDoor.G (Ex Tm fj co j9 ka jP jx)
theorem AZ {n K L B:Nat} {l l':List aj} (hn:n<=8) (hl:l.length<=100) (hl':l'.length<=100) (hB:B=l.length*l'.length) (hKL:(B+1)*(K+L+1)<1000000) (hok:∀ u∈l,qc n K u) (hok':∀ u∈l',qc n L u) (hb:∀ u∈l,∀ j,-1000000<=u.1.getD j 0/\u.1.getD j 0<1000000) (hb':∀ u∈l',∀ j,-1000000<=u.1.getD j 0/\u.1.getD j 0<1000000) :
 ∃ r:List aj,Ev (fun k=>bu k l l') r/\dQ n r=G.canon (G.prod (dQ n l) (dQ n l')) []/\(∀ t∈r,qc n (B*(K+L+1)) t)/\r.length<=B:=by
 have hBs:B<=10000:=by rw [hB];exact Nat.mul_le_mul hl hl'
 have main:=pT (n:=l.length) (P:=fun i=>∀ (acc:List aj),acc.length<=i*l'.length->(∀ t∈acc,qc n (i*l'.length*(K+L+1)) t)->∃ r:List aj,aN (fun k m=>bu.l0 k m l' l (l.length:Int) (i:Int) acc) r/\dQ n r=G.canon (G.prod (dQ n (l.drop i)) (dQ n l')) (dQ n acc)/\(∀ t∈r,qc n (B*(K+L+1)) t)/\r.length<=B) ?_ ?_ 0 (Nat.zero_le _) [] Q3 (fun t h=>by cases h)
 ·obtain ⟨r,h1,h2⟩:=main
  exact ⟨r,Ev.step (fun k=>nP k _ _) h1.diag,h2⟩
 ·intro acc ha ho
  rw [<- hB] at ha ho
  exact ⟨acc,aN.step (fun k m=>bu.aR k m _ _ _ _ _) (aN.bF (decide_eq_false Q2) (aN.of (aT _))),by rw [List.drop_length];rfl,ho,ha⟩
 intro i hi ih acc ha ho
 have hil:(i+1)*l'.length<=B:=by rw [hB];exact Nat.mul_le_mul_right _ hi
 have hsm:i*l'.length+l'.length=(i+1)*l'.length:=by rw [Nat.add_mul,Nat.one_mul]
 have e:(cG (t:=af) l (i:Int):aj)=l[i]:=cy hi
 have hKL1:K+L<1000000:=by
  have:=Nat.le_mul_of_pos_left (K+L+1) (show 0<B+1 by omega)
  omega
 obtain ⟨v,v1,v2,v3,v4⟩:=yY hn Q2 (show L+K<1000000 by omega) hok' (hok l[i] (List.getElem_mem hi)) hb' (hb l[i] (List.getElem_mem hi))
 have key:=pT (n:=v.length) (P:=fun j=>∀ (acc:List aj),acc.length<=i*l'.length+j->(∀ t∈acc,qc n ((i*l'.length+j)*(K+L+1)) t)->∃ r:List aj,eL (fun k m1 m0=>bu.l1 k m1 m0 l' l (l.length:Int) (i:Int) v (v.length:Int) (j:Int) acc) r/\dQ n r=G.canon (dQ n (v.drop j)++G.prod (dQ n (l.drop (i+1))) (dQ n l')) (dQ n acc)/\(∀ t∈r,qc n (B*(K+L+1)) t)/\r.length<=B) ?_ ?_ 0 (Nat.zero_le _) acc ha ho
 ·obtain ⟨r,h1,h2,h3⟩:=key
  refine ⟨r,aN.step (fun k m=>bu.aR k m _ _ _ _ _) (aN.bT (decide_eq_true Q2) (aN.iT Q2 ?_)),?_,h3⟩
  ·rw [e]
   exact aN.bind v1 h1.diag
  rw [h2,List.drop_zero,v4,dM hi]
  rfl
 ·intro acc ha ho
  rw [v2,hsm] at ha ho
  obtain ⟨r,h1,h2,h3⟩:=ih acc ha ho
  refine ⟨r,eL.step (fun k m1 m0=>bu.eB k m1 m0 _ _ _ _ _ _ _ _) (eL.bF (decide_eq_false Q2) (eL.of ?_)),by rw [List.drop_length];exact h2,h3⟩
  rw [fN Q2]
  exact h1
 intro j hj ihj acc ha ho
 have ej:(cG (t:=af) v (j:Int):aj)=v[j]:=cy hj
 obtain ⟨p1,p2,p3⟩:=v3 v[j] (List.getElem_mem hj)
 have hmm:(i*l'.length+j)*(K+L+1)+(L+K)+1=(i*l'.length+(j+1))*(K+L+1):=by
  rw [<- Nat.add_assoc (i*l'.length) j 1,Nat.add_mul (i*l'.length+j) 1 (K+L+1),Nat.one_mul];omega
 have hle:(i*l'.length+(j+1))*(K+L+1)<=(B+1)*(K+L+1):=Nat.mul_le_mul_right _ Q2
 obtain ⟨r',q1,q2,q3,q4⟩:=qz (e:=v[j].1.take n) (c:=v[j].2.1) hn Q2 Q2 ho p2 p3.rb.1 p3.rb.2
 rw [<- p1] at q1
 rw [hmm] at q3
 obtain ⟨r,h1,h2,h3⟩:=ihj r' Q2 q3
 refine ⟨r,eL.step (fun k m1 m0=>bu.eB k m1 m0 _ _ _ _ _ _ _ _) (eL.bT (decide_eq_true Q2) (eL.iT Q2 ?_)),?_,h3⟩
 ·rw [ej]
  refine eL.bind q1 ?_
  rw [fN Q2]
  exact h1
 rw [h2,dM hj,q2]
 rfl
theorem Ky {n K:Nat} {l:List aj} (hok:∀ u∈l,ks n K u):RelP n ((n:Int),l,()) (dW l) where
 n_:=rfl
 len:=by simp [dW]
 at_:=fun i h=>by
  have hi:i<l.length:=by simpa [dW] using h
  have e:cF ((n:Int),l,()) i=l[i]:=cy hi
  have e2:(dW l)[i]=ku l[i]:=by simp [dW]
  rw [e,e2]
  exact ⟨rfl,((hok l[i] (List.getElem_mem hi)).2.2).rb.1⟩
theorem Kx {n K:Nat} {r:List aj} (hok:∀ u∈r,qc n K u):RelR r (dQ n r) K where
 len:=by simp [dQ]
 at_:=fun i h=>by
  have hi:i<r.length:=by simpa [dQ] using h
  have e:mS r i=r[i]:=cy hi
  have e2:(dQ n r)[i]=Af n r[i]:=by simp [dQ]
  rw [e,e2]
  obtain ⟨h1,h2,h3⟩:=hok r[i] (List.getElem_mem hi)
  exact ⟨h1,h3.rb.1,h3.rb.2⟩
theorem Is_of {n K L:Nat} {l r:List aj} (hn:n<=8) (hok:∀ u∈l,ks n K u) (hr:∀ u∈r,qc n L u) (hf:LM ((n:Int),l,())) (hL:L<1073741824) (hlen:r.length<=100000) (hs:ka n (dW l)) (hd:jP n (dQ n r)) (he:j9 (dW l) (dQ n r)):Ev (fun k=>dS k ((n:Int),l,()) r (n:Int)) true :=
 Dr hn (Ky hok) (Kx hr) hf hL (by simpa [dQ] using hlen) hs hd he
theorem DD {x:List Int} (h:x.length<=8) (hb:∀ e∈x,0<=e/\e<=256):Ev (fun k=>fG k x) (sE x):=by
 have main:=pT (n:=x.length) (P:=fun i=>aN (fun k m=>fG.l0 k m (sE (x.take i)) x (x.length:Int) (i:Int)) (sE x)) ?_ ?_ 0 (Nat.zero_le _)
 ·exact Ev.step (fun k=>DE k _) main.diag
 ·rw [List.take_length]
  exact aN.step (fun k m=>fG.aR k m _ _ _ _) (aN.bF (decide_eq_false Q2) (aN.of (aT _)))
 intro i hi ih
 have e:(cG (t:=(.int .i64)) x (i:Int):Int)=x[i]:=cy hi
 have b1:=rq (B:=256) Q2 (l:=x.take i) (fun y hy=>hb y (List.mem_of_mem_take hy))
 have b2:=hb x[i] (List.getElem_mem hi)
 have b3:(x.take i).length<=8:=by rw [List.length_take];omega
 refine aN.step (fun k m=>fG.aR k m _ _ _ _) (aN.bT (decide_eq_true Q2) (aN.iT Q2 ?_))
 rw [e,fN Q2,cx Q2 Q2,<- mQ hi]
 exact ih
def dgM (l:List aj) (a:Int):Int:=l.foldl (fun a t=>mx a (sE t.1)) a
theorem qi {n K:Nat} {l:List aj} (hn:n<=8) (hl:l.length<=100000) (hok:∀ u∈l,ks n K u):Ev (fun k=>eu k ((n:Int),l,())) (dgM l (-1)):=by
 have main:=pT (n:=l.length) (P:=fun i=>∀ a,aN (fun k m=>eu.l0 k m a l (l.length:Int) (i:Int)) (dgM (l.drop i) a)) ?_ ?_ 0 (Nat.zero_le _) (-1)
 ·exact Ev.step (fun k=>xj k _) main.diag
 ·intro a
  rw [List.drop_length]
  exact aN.step (fun k m=>eu.aR k m _ _ _ _) (aN.bF (decide_eq_false Q2) (aN.of (aT _)))
 intro i hi ih a
 have e:(cG (t:=ah) l (i:Int):aj)=l[i]:=cy hi
 obtain ⟨o1,o2,o3⟩:=hok l[i] (List.getElem_mem hi)
 have hs:=DD (x:=l[i].1) Q2 (fun y hy=>by have:=o2 y hy;omega)
 refine aN.step (fun k m=>eu.aR k m _ _ _ _) (aN.bT (decide_eq_true Q2) (aN.iT Q2 ?_))
 rw [e,dM hi]
 refine aN.bind hs ?_
 rw [fN Q2]
 exact ih _
theorem Bx {n K:Nat} {l:List aj} (hn:n<=8) (hl:l.length<=100000) (hK:K<1073741824) (hok:∀ u∈l,ks n K u):Ev (fun k=>gP k ((n:Int),l,())) ((n:Int),l,()):=by
 have main:=pT (n:=l.length) (P:=fun i=>aN (fun k m=>gP.l0 k m l (l.length:Int) (i:Int) ((n:Int),l,()) ((0:Int),[],()) (n:Int) (l.take i)) ((n:Int),l,())) ?_ ?_ 0 (Nat.zero_le _)
 ·exact Ev.step (fun k=>Bz k _) main.diag
 ·rw [List.take_length]
  exact aN.step (fun k m=>gP.aR k m _ _ _ _ _ _ _) (aN.bF (decide_eq_false Q2) (aN.of (aT _)))
 intro i hi ih
 have e:(cG (t:=ah) l (i:Int):aj)=l[i]:=cy hi
 obtain ⟨o1,o2,o3⟩:=hok l[i] (List.getElem_mem hi)
 have hc:=BL o3.rb.1 o3.rb.2 hK
 have hz:(List.replicate (Int.toNat (0:Int)) ((0:Int):Int))=[]:=rfl
 refine aN.step (fun k m=>gP.aR k m _ _ _ _ _ _ _) (aN.bT (decide_eq_true Q2) (aN.iT Q2 (aN.iT (by show (0:Int)<=0/\(0:Int)<=(n:Int)/\8*(n:Int).toNat<=281474976710656/\(n:Int).toNat<=maxLen;unfold maxLen;omega) ?_)))
 rw [e,hz]
 refine aN.iT (by simp only [List.length_nil];omega) (aN.bind hc (aN.iT (by simp only [List.length_cons,List.length_nil,List.length_take];omega) ?_))
 rw [fN Q2,List.nil_append]
 rw [show l.take i++[(l[i].1,l[i].2.1,())]=l.take (i+1) by rw [List.take_succ_eq_append_getElem hi]]
 exact ih
theorem Ao {p:aB} (hv:fO p):∃ n:Nat,n<=8/\p.1=(n:Int)/\∀ u∈p.2.1,ks n 200 u:=by
 obtain ⟨h1,h2,h3,h4⟩:=hv
 refine ⟨p.1.toNat,Q2,Q2,fun u hu=>?_⟩
 obtain ⟨i,hi,rfl⟩:=List.getElem_of_mem hu
 have e:cF p i=p.2.1[i]:=cy hi
 have g:=(h4 i hi).1
 rw [e] at g
 exact ⟨by have:=g.len;omega,fun x hx=>by have:=g.ex x hx;omega,g.co⟩
theorem Fh {p:aB} {n:Nat} (ha:mJ p) (hv:fO p) (hn:p.1=(n:Int)):∃ r:List aj,Ev (fun k=>bL k p) r/\r.length=p.2.1.length/\(∀ u∈r,qc n 800 u)/\dQ n r=dW p.2.1:=by
 obtain ⟨r,r1,r2,r3⟩:=E2 ha hv
 have hn8:n<=8:=by have:=hv.n8;omega
 have tl:∀ i,i<p.2.1.length->(cF p i).1.length=n:=fun i hi=>by have:=(hv.good i hi).1.len;omega
 refine ⟨r,r1,r2,fun u hu=>?_,?_⟩
 ·obtain ⟨i,hi,rfl⟩:=List.getElem_of_mem hu
  obtain ⟨a1,q,a2,a3,a4,a5⟩:=r3 i hi
  have hl:=tl i Q2
  have ht:r[i].1.take n=(cF p i).1:=by rw [a1,<- hl];exact fV Q2
  exact ⟨by rw [ht];exact a1,by rw [ht];exact hl,q,a3,a5⟩
 apply List.ext_getElem (by simp [dQ,dW,r2])
 intro i h1 h2
 have hi:i<r.length:=by simpa [dQ] using h1
 obtain ⟨a1,q,a2,a3,a4,a5⟩:=r3 i hi
 have hi':i<p.2.1.length:=Q2
 have hl:=tl i hi'
 have e:cF p i=p.2.1[i]:=cy hi'
 have ht:r[i].1.take n=(cF p i).1:=by rw [a1,<- hl];exact fV Q2
 simp only [dQ,dW,List.getElem_map,Af,ku]
 rw [ht,rC a3,<- e,pI a2]
theorem Ge {p:aB} {n:Nat} (hv:fO p) (hn:p.1=(n:Int)):(dW p.2.1).Pairwise fun a b=>G.iM a.1 b.1=true:=by
 have tl:∀ i,i<p.2.1.length->(cF p i).1.length=n:=fun i hi=>by have:=(hv.good i hi).1.len;omega
 have step:∀ d i,i+d+1<p.2.1.length->G.iM (cF p i).1 (cF p (i+d+1)).1=true:=by
  intro d
  induction d with
  | zero =>
   intro i hi
   have h:=(hv.good (i+1) hi).2 Q2
   exact (G2 ((tl i Q2).trans (tl (i+1) hi).symm)).1 h
  | succ d ih =>
   intro i hi
   have h:=(hv.good (i+d+2) hi).2 Q2
   exact G.mu (ih i Q2) ((G2 ((tl (i+d+1) Q2).trans (tl (i+d+2) hi).symm)).1 h)
 rw [List.pairwise_iff_getElem]
 intro i j hi hj hij
 have hi':i<p.2.1.length:=by simpa [dW] using hi
 have hj':j<p.2.1.length:=by simpa [dW] using hj
 have h:=step (j-i-1) i Q2
 rw [show i+(j-i-1)+1=j by omega,show cF p i=p.2.1[i] from cy hi',show cF p j=p.2.1[j] from cy hj'] at h
 simp only [dW,List.getElem_map,ku]
 exact h
theorem Gd {p:aB} {n:Nat} (hv:fO p) (hn:p.1=(n:Int)):ka n (dW p.2.1) where
 ord:=Ge hv hn
 nz:=fun t ht h0=>by
  obtain ⟨u,hu,rfl⟩:=List.mem_map.1 ht
  obtain ⟨i,hi,rfl⟩:=List.getElem_of_mem hu
  have g:=(hv.good i hi).1
  rw [show cF p i=p.2.1[i] from cy hi] at g
  have hc:EG 200 p.2.1[i].2.1:=g.co
  have hr:=hc.rb.1
  have h0':gw p.2.1[i].2.1=0:=h0
  rw [h0'] at hr
  have h1:=bI aI hr.2.1 (P.Can.zero WW)
  exact g.ne (by rw [h1];rfl)
 len:=fun t ht=>by
  obtain ⟨u,hu,rfl⟩:=List.mem_map.1 ht
  obtain ⟨i,hi,rfl⟩:=List.getElem_of_mem hu
  have g:=(hv.good i hi).1
  rw [show cF p i=p.2.1[i] from cy hi] at g
  have:=g.len
  show p.2.1[i].1.length=n
  omega
theorem Gk {n K:Nat} {l:List aj} (hn:n<=8) (hl:l.length<=4000) (hK:K<=200) (hok:∀ u∈l,ks n K u) (hs:ka n (dW l)) (hd:∀ u∈l,sE u.1<=40) (hx:∀ u∈l,∀ e∈u.1,e<=40):fO ((n:Int),l,()) where
 n0:=by show (0:Int)<=(n:Int);omega
 n8:=by show (n:Int)<=8;omega
 yn:=hl
 good:=fun i hi=>by
  have hi':i<l.length:=hi
  have e:cF ((n:Int),l,()) i=l[i]:=cy hi'
  have hm:=List.getElem_mem hi'
  obtain ⟨o1,o2,o3⟩:=hok l[i] hm
  refine ⟨?_,fun h0=>?_⟩
  ·rw [e]
   refine ⟨by show (l[i].1.length:Int)=(n:Int);omega,fun x h=>⟨(o2 x h).1,hx l[i] hm x h⟩,hd l[i] hm,o3.mono hK,fun h=>?_⟩
   have hz:l[i].2.1.2.1=[]:=List.length_eq_zero_iff.1 h
   have hr:=o3.rb.1
   refine hs.nz (ku l[i]) (List.mem_map.2 ⟨_,hm,rfl⟩) ?_
   show gw l[i].2.1=0
   unfold gw
   rw [hz]
   simp [vl,sg]
  have hp:i-1<l.length:=Q2
  have e1:cF ((n:Int),l,()) (i-1)=l[i-1]:=cy hp
  rw [e,e1]
  have h:=List.pairwise_iff_getElem.1 hs.ord (i-1) i (by simpa [dW] using hp) (by simpa [dW] using hi') Q2
  simp only [dW,List.getElem_map,ku] at h
  exact (G2 ((hok _ (List.getElem_mem hp)).1.trans o1.symm)).2 h
abbrev p1 (n:Nat) (e:List Int) (d:bB):aB:=((n:Int),[(e,d,())],())
end Go.Proofs.YtfbgaddecbiimaaGreatDoor.Q
end
section
namespace Go.Proofs.YtfbgaddecbiimaaGreatDoor.G
def val (x:List Rat) (p:List Tm):Rat:=fj (mv x) p
theorem vU:∀ {a b:Ex} {k:Int},(∀ k∈a,(0:Int)<=k)->(∀ k∈b,(0:Int)<=k)->k∈fi a b->0<=k
 | [],_,_,_,_,h=>by simp [fi] at h
 | _ :: _,[],_,_,_,h=>by simp [fi] at h
 | a :: l,b :: m,k,h1,h2,h=>by
  simp only [fi,List.zipWith_cons_cons,List.mem_cons] at h
  rcases h with e | e
  ·have:=h1 a (List.mem_cons_self ..)
   have:=h2 b (List.mem_cons_self ..)
   omega
  exact vU (fun k hk=>h1 k (List.mem_cons_of_mem _ hk)) (fun k hk=>h2 k (List.mem_cons_of_mem _ hk)) e
theorem yG:∀ {a:Ex},(∀ k∈a,(0:Int)<=k)->0<=mM a
 | [],_=>Int.le_refl _
 | a :: l,h=>by
  have:=h a (List.mem_cons_self ..)
  have:=yG (a:=l) (fun k hk=>h k (List.mem_cons_of_mem _ hk))
  simp only [mM];omega
abbrev WB:Int:=4294967296
theorem Hx {a b:Nat} (h:a<=b):WB ^ a<=WB ^ b:=by
 rcases Nat.lt_or_ge a b with g | g
 ·exact Int.le_of_lt (Int.pow_lt_pow_of_lt (by decide) g)
 rw [Nat.le_antisymm h g];exact Int.le_refl _
theorem uU (a:Nat):0<WB ^ a:=Int.pow_pos (by decide)
theorem qu {a b:Nat} {x y:Int} (hx:x<=WB ^ a) (hy:y<=WB ^ b) (h0:0<=y):x*y<=WB ^ (a+b):=by
 rw [Int.pow_add]
 exact Int.mul_le_mul hx hy h0 (Int.le_of_lt (uU a))
theorem wb_two (a:Nat):WB ^ a+WB ^ a<=WB ^ (a+1):=by
 have:=uU a
 rw [Int.pow_succ]
 show _<=WB ^ a*4294967296
 omega
def CB (k:Nat) (l:List Tm):Prop:=∃ D H:Int,0<D/\D<=WB ^ k/\H<=WB ^ k/\CL D H l
theorem CB.mono {k j:Nat} {l:List Tm} (h:CB k l) (hj:k<=j):CB j l:=by
 obtain ⟨D,H,h0,h1,h2,h3⟩:=h
 exact ⟨D,H,h0,Int.le_trans h1 (Hx hj),Int.le_trans h2 (Hx hj),h3⟩
theorem CB.nil (k:Nat):CB k []:=⟨1,0,by decide,by have:=uU k;omega,Int.le_of_lt (uU k),by show (0:Int)<=0;decide⟩
theorem CL.mulD {D c:Int} (hc:0<c):∀ {l:List Tm} {H:Int},CL D H l->CL (D*c) (H*c) l
 | [],H,h=>Int.mul_nonneg h Q2
 | t :: l,H,⟨z,h1,h2⟩=>by
  refine ⟨z*c,?_,(CL.mulD hc h2).mono ?_⟩
  ·rw [Rat.intCast_mul,Rat.intCast_mul,<- h1];grind
  rw [Int.natAbs_mul,Int.natCast_mul,Int.sub_mul]
  have:(c.natAbs:Int)=c:=Q2
  rw [this];omega
theorem CB.append {a b:Nat} {p q:List Tm} (h:CB a p) (h':CB b q):CB (a+b+1) (p++q):=by
 obtain ⟨D,H,h0,h1,h2,h3⟩:=h
 obtain ⟨D',H',g0,g1,g2,g3⟩:=h'
 refine ⟨D*D',H*D'+H'*D,Int.mul_pos h0 g0,Int.le_trans (qu h1 g1 Q2) (Hx Q2),?_,?_⟩
 ·have a1:=qu h2 g1 Q2
  have a2:=qu g2 h1 Q2
  rw [Nat.add_comm b a] at a2
  have:=wb_two (a+b)
  omega
 have a1:=CL.mulD g0 h3
 have a2:=CL.mulD h0 g3
 rw [Int.mul_comm D' D] at a2
 exact a1.append a2
theorem CB.prod {a b:Nat} {p q:List Tm} (h:CB a p) (h':CB b q):CB (a+b) (prod p q):=by
 obtain ⟨D,H,h0,h1,h2,h3⟩:=h
 obtain ⟨D',H',g0,g1,g2,g3⟩:=h'
 exact ⟨D*D',H*H',Int.mul_pos h0 g0,qu h1 g1 Q2,qu h2 g2 g3.pos,h3.prod g3⟩
theorem CB.neg {a:Nat} {p:List Tm} (h:CB a p):CB a (neg p):=by
 obtain ⟨D,H,h0,h1,h2,h3⟩:=h
 exact ⟨D,H,h0,h1,h2,h3.neg⟩
def Wd (k:Nat) (c:Rat):Prop:=(c.num.natAbs:Int)<=WB ^ k/\(c.den:Int)<=WB ^ k
theorem Wd.cz {k:Nat} {c:Rat} (h:Wd k c):Cz (c.den:Int) (WB ^ k) c:=by
 refine ⟨c.num,?_,h.1⟩
 have h0:((c.den:Int):Rat)≠0:=by
  intro e
  have:=Rat.intCast_inj.1 (e.trans Rat.intCast_zero.symm)
  have:=c.den_pos
  omega
 have h1:=Rat.num_divInt_den c
 rw [Rat.divInt_eq_div] at h1
 generalize ((c.den:Int):Rat)=d at *
 generalize hn:(c.num:Rat)=m at *
 rw [<- h1,Rat.div_mul_cancel h0]
theorem CB.ox {a k:Nat} {p:List Tm} {c:Rat} (h:CB a p) (hc:Wd k c):CB (a+k) (ox c p):=by
 obtain ⟨D,H,h0,h1,h2,h3⟩:=h
 have hd:(0:Int)<(c.den:Int):=by have:=c.den_pos;omega
 exact ⟨D*c.den,H*WB ^ k,Int.mul_pos h0 hd,qu h1 hc.2 Q2,qu h2 (Int.le_refl _) (Int.le_of_lt (uU k)),CL.ox hc.cz h3⟩
theorem CB.single {k:Nat} {t:Tm} (h:Wd k t.2):CB k [t]:=by
 obtain ⟨z,h1,h2⟩:=h.cz
 exact ⟨t.2.den,WB ^ k,by have:=t.2.den_pos;omega,h.2,Int.le_refl _,z,h1,by show (0:Int)<=_;omega⟩
theorem CB.list {k:Nat}:∀ {l:List Tm},(∀ t∈l,Wd k t.2)->CB (l.length*(k+1)) l
 | [],_=>CB.nil _
 | t :: l,h=>by
  have h1:=CB.list (l:=l) fun u hu=>h u (List.mem_cons_of_mem _ hu)
  have h2:=(CB.single (h t (List.mem_cons_self ..))).append h1
  refine CB.mono h2 ?_
  rw [List.length_cons,Nat.succ_mul];omega
theorem CB.co {k:Nat} {l:List Tm} (h:CB k l) (e:Ex):Wd k (co l e):=by
 obtain ⟨D,H,h0,h1,h2,h3⟩:=h
 obtain ⟨a,b⟩:=(CL.co e h3).size h0
 exact ⟨Int.le_trans b h2,Int.le_trans a h1⟩
theorem jP.wd {n k:Nat} {p q:List Tm} (hp:jP n p) (he:∀ e,G.co p e=G.co q e) (h:CB k q) {t:Tm} (ht:t∈p):Wd k t.2:=by
 rw [<- hp.qV t ht,he]
 exact h.co _
def XB (E:Int) (q:List Tm):Prop:=∀ t∈q,(∀ x∈t.1,(0:Int)<=x)/\mM t.1<=E
theorem XB.mono {E F:Int} {q:List Tm} (h:XB E q) (hF:E<=F):XB F q:=fun t ht=>⟨(h t ht).1,Int.le_trans (h t ht).2 hF⟩
theorem XB.append {E:Int} {p q:List Tm} (h:XB E p) (h':XB E q):XB E (p++q):=fun t ht=>(List.mem_append.1 ht).elim (h t) (h' t)
theorem XB.neg {E:Int} {p:List Tm} (h:XB E p):XB E (neg p):=fun t ht=>by
 obtain ⟨u,hu,rfl⟩:=List.mem_map.1 ht
 exact h u hu
theorem XB.ox {E:Int} {p:List Tm} (h:XB E p) (c:Rat):XB E (ox c p):=fun t ht=>by
 obtain ⟨u,hu,rfl⟩:=List.mem_map.1 ht
 exact h u hu
theorem XB.prod {n:Nat} {E F:Int} {p q:List Tm} (lp:Len n p) (lq:Len n q) (h:XB E p) (h':XB F q):XB (E+F) (prod p q):=fun v hv=>by
 obtain ⟨t,ht,hv⟩:=List.mem_flatMap.1 hv
 obtain ⟨u,hu,rfl⟩:=List.mem_map.1 hv
 refine ⟨fun x hx=>vU (h' u hu).1 (h t ht).1 hx,?_⟩
 show mM (fi u.1 t.1)<=_
 rw [u9 ((lq u hu).trans (lp t ht).symm)]
 have:=(h t ht).2
 have:=(h' u hu).2
 omega
theorem XB.of {n:Nat} {E:Int} {p r:List Tm} (h:jP n p) (he:∀ e,co p e=co r e) (hr:XB E r):XB E p:=fun t ht=>by
 obtain ⟨u,hu,e⟩:=h.from he ht
 rw [<- e];exact hr u hu
theorem sq:∀ {a:Ex} {x:Int},(∀ y∈a,(0:Int)<=y)->x∈a->x<=mM a
 | b :: a,x,h,hx=>by
  have hb:=h b (List.mem_cons_self ..)
  have hs:=yG (a:=a) fun y hy=>h y (List.mem_cons_of_mem _ hy)
  simp only [mM]
  rcases List.mem_cons.1 hx with e | e
  ·omega
  have:=sq (fun y hy=>h y (List.mem_cons_of_mem _ hy)) e;omega
theorem Le {a:Ex} {i:Nat} (h:i<a.length):a.getD i 0=a[i]:=by simp [List.getD_eq_getElem?_getD,h]
end Go.Proofs.YtfbgaddecbiimaaGreatDoor.G
end
section
namespace Go.Proofs.YtfbgaddecbiimaaGreatDoor.Q
open Go.RowKit Go.Proofs.YtfbgaddecbiimaaGreatDoorW.PrintWords Go.Proofs.YtfbgaddecbiimaaGreatDoorW.PrintMore Go.Proofs.YtfbgaddecbiimaaGreatDoor.V Go.Proofs.YtfbgaddecbiimaaGreatDoor.E
open Go.Proofs.YtfbgaddecbiimaaGreatDoor.P (Dg Nm vl WW RR bI gI aT jn kq dw aI bG aY cN cx u64)
open Go.Proofs.YtfbgaddecbiimaaGreatDoor.G (Ex Tm fj co j9 ka jP jx CB XB Wd Len WB)
structure PT (n K M:Nat) (q:List Tm) (l:List aj):Prop where
 len:l.length<=M
 ok:∀ u∈l,ks n K u
 srt:ka n (dW l)
 eqv:j9 (dW l) q
structure RT (n K M:Nat) (q:List Tm) (r:List aj):Prop where
 len:r.length<=M
 ok:∀ u∈r,qc n K u
 dst:jP n (dQ n r)
 eqv:j9 (dQ n r) q
theorem ks.mono {n K L:Nat} {t:aj} (h:ks n K t) (hk:K<=L):ks n L t:=⟨h.1,h.2.1,h.2.2.mono hk⟩
theorem PT.to {n K M L N:Nat} {q q':List Tm} {l:List aj} (h:PT n K M q l) (hk:K<=L) (hm:M<=N) (he:j9 q q'):PT n L N q' l:=⟨Nat.le_trans h.len hm,fun u hu=>(h.ok u hu).mono hk,h.srt,h.eqv.trans he⟩
theorem RT.to {n K M L N:Nat} {q q':List Tm} {l:List aj} (h:RT n K M q l) (hk:K<=L) (hm:M<=N) (he:j9 q q'):RT n L N q' l:=⟨Nat.le_trans h.len hm,fun u hu=>(h.ok u hu).mono hk,h.dst,h.eqv.trans he⟩
theorem rp:∀ a,sE a=G.mM a
 | []=>rfl
 | x :: a=>by rw [sE,G.mM,rp a]
theorem wd_sz {k:Nat} {c:Rat} (h:Wd k c):Sz WW (k+1) c:=by
 have:WB ^ k<WW ^ (k+1):=Int.pow_lt_pow_of_lt (by decide) Q2
 exact ⟨Int.lt_of_le_of_lt h.1 this,Int.lt_of_le_of_lt h.2 this⟩
theorem HR {k:Nat} {c:Rat} (h:Sz WW k c):Wd k c:=⟨Int.le_of_lt h.1,Int.le_of_lt h.2⟩
theorem wb_rr:∀ k:Nat,WB ^ k<=RR ^ (3*k)
 | 0=>by decide
 | k+1=>by
  have h:=wb_rr k
  have e:RR ^ (3*(k+1))=RR ^ (3*k)*RR ^ 3:=by rw [<- Int.pow_add];rfl
  rw [Int.pow_succ,e]
  exact Int.mul_le_mul h (by decide) (by decide) (Int.le_of_lt (Int.pow_pos (by decide)))
theorem Hw {k:Nat} {c:Rat} (h:Wd k c):Sz RR (3*k+1) c:=by
 have h1:=wb_rr k
 have h2:RR ^ (3*k)<RR ^ (3*k+1):=Int.pow_lt_pow_of_lt (by decide) Q2
 exact ⟨by have:=h.1;omega,by have:=h.2;omega⟩
section
variable {n K M L N k:Nat} {q q':List Tm} {l r:List aj} {E:Int}
theorem pE {u:aj} (hu:u∈l):ku u∈dW l:=List.mem_map_of_mem hu
theorem od {u:aj} (hu:u∈r):Af n u∈dQ n r:=List.mem_map_of_mem hu
theorem Kl:(dW l).length=l.length:=List.length_map ..
theorem PT.fit (h:PT n K M q l) (hc:CB k q):PT n (k+1) M q l:=⟨h.len,fun u hu=>by
 obtain ⟨o1,o2,o3⟩:=h.ok u hu
 exact ⟨o1,o2,gw u.2.1,o3.rb.1,wd_sz (h.srt.dst.wd (fun e=>h.eqv.co e) hc (pE hu))⟩,h.srt,h.eqv⟩
theorem RT.fit (h:RT n K M q r) (hc:CB k q):RT n (3*k+1) M q r:=⟨h.len,fun u hu=>by
 obtain ⟨o1,o2,o3⟩:=h.ok u hu
 exact ⟨o1,o2,ob u.2.1,o3.rb.1,Hw (h.dst.wd (fun e=>h.eqv.co e) hc (od hu))⟩,h.dst,h.eqv⟩
theorem PT.J9 (h:PT n K M q l) (hx:XB E q):XB E (dW l):=XB.of h.srt.dst (fun e=>h.eqv.co e) hx
theorem RT.J9 (h:RT n K M q r) (hx:XB E q):XB E (dQ n r):=XB.of h.dst (fun e=>h.eqv.co e) hx
theorem PT.xb (h:PT n K M q l) (hx:XB E q) {u:aj} (hu:u∈l):(∀ x∈u.1,0<=x/\x<=E)/\sE u.1<=E:=by
 obtain ⟨a,b⟩:=h.J9 hx _ (pE hu)
 have b':G.mM u.1<=E:=b
 refine ⟨fun x hx'=>⟨a x hx',Int.le_trans (G.sq a hx') b⟩,?_⟩
 rw [rp];exact b'
theorem qc.bound {t:aj} (h:qc n K t) {B:Int} (hB:0<=B) (hn:n<=8) (hx:∀ x∈t.1.take n,0<=x/\x<=B) (j:Nat):0<=t.1.getD j 0/\t.1.getD j 0<=B:=by
 rw [h.1,eh,df _ _ _ (by have:=h.2.1;omega),List.getD_eq_getElem?_getD]
 by_cases c:j<(t.1.take n++List.replicate (8-(t.1.take n).length) 0).length
 ·rw [List.getElem?_eq_getElem c]
  have hm:=List.getElem_mem c
  rw [Option.getD_some]
  rcases List.mem_append.1 hm with g | g
  ·exact hx _ g
  have:=List.eq_of_mem_replicate g
  omega
 rw [List.getElem?_eq_none Q2]
 exact ⟨Int.le_refl _,hB⟩
theorem RT.bnd (h:RT n K M q r) (hx:XB E q) (hE:0<=E) (hn:n<=8) {u:aj} (hu:u∈r) (j:Nat):0<=u.1.getD j 0/\u.1.getD j 0<=E:=by
 obtain ⟨a,b⟩:=h.J9 hx _ (od hu)
 exact (h.ok u hu).bound hE hn (fun x hx'=>⟨a x hx',Int.le_trans (G.sq a hx') b⟩) j
theorem KN (hn:n<=8) {u:aj} (h:ks n K u):ArgM u:=by
 obtain ⟨o1,o2,o3⟩:=h
 have hr:=o3.rb.1
 exact ⟨Q2,hr.2.1.1,hr.2.2.1,trivial,trivial⟩
theorem PT.arg (h:PT n K M q l) (hn:n<=8) (hM:M<=1000000000):mJ ((n:Int),l,()):=⟨by have:=h.len;show l.length<=_;omega,fun u hu=>KN hn (h.ok u hu)⟩
theorem PT.yn (h:PT n K M q l) (hn:n<=8) (hM:M<=1000000000) (hK:K<=1000000000):LM ((n:Int),l,()):=by
 refine ⟨by have:=h.len;show l.length<=_;omega,fun i hi=>?_⟩
 have hi':i<l.length:=hi
 have e:cF ((n:Int),l,()) i=l[i]:=cy hi'
 obtain ⟨o1,o2,o3⟩:=h.ok _ (List.getElem_mem hi')
 obtain ⟨l1,l2⟩:=gx bG o3.rb.1 o3.rb.2
 rw [e]
 exact ⟨Q2,Q2,Q2⟩
theorem PT.is (h:PT n K M q l) (g:RT n L N q' r) (he:j9 q q') (hn:n<=8) (hM:M<=1000000000) (hN:N<=100000) (hK:K<=1000000000) (hL:L<1073741824):Ev (fun k=>dS k ((n:Int),l,()) r (n:Int)) true :=
 Is_of hn h.ok g.ok (h.yn hn hM hK) hL (Nat.le_trans g.len hN) h.srt g.dst (h.eqv.trans (he.trans g.eqv.symm))
theorem PT.valid (h:PT n K M q l) (hn:n<=8) (hM:M<=4000) (hc:CB 199 q) (hx:XB 40 q):fO ((n:Int),l,()):=by
 have h':=h.fit hc
 exact Gk hn (Nat.le_trans h.len hM) (Nat.le_refl 200) h'.ok h.srt (fun u hu=>(h.xb hx hu).2) (fun u hu e he=>((h.xb hx hu).1 e he).2)
theorem nc (h:PT n K M q l) (hn:n<=8) (hM:M<=4000) (hc:CB 199 q) (hx:XB 40 q):Ev (fun k=>fU k ((n:Int),l,())) (((n:Int),l,()),(0:Int),()):=by
 have e:=jL (h.arg hn Q2)
 rw [fy (h.valid hn hM hc hx)] at e
 have hl:=h.len
 exact Ev.step (fun k=>uB k _) (Ev.bind e (bF rfl (Ev.bind (Bx hn Q2 Q2 (h.fit hc).ok) (aT _))))
theorem KI {p p':aB} (ha:mJ p) (hb:mJ p') (hp:fO p) (hq:fO p') (hn:p.1=p'.1):Ev (fun k=>jz k p p') 0:=by
 have e1:=jL ha
 have e2:=jL hb
 rw [fy hp] at e1
 rw [fy hq] at e2
 exact Ev.step (fun k=>zb k _ _) (Ev.bind e1 (Ev.bind (a:=false) (bF rfl (Ev.bind e2 (aT _))) (bF rfl (bF (by simp [hn]) (aT _)))))
end
theorem evu {α:Type} {f:Nat->Option α} {a b:α} (h:Ev f a) (g:Ev f b):a=b:=by
 obtain ⟨K,h⟩:=h
 obtain ⟨L,g⟩:=g
 have:=(h (max K L) Q2).symm.trans (g (max K L) Q2)
 exact Option.some.inj this
open Go.Proofs.YtfbgaddecbiimaaGreatDoor.G (sQ)
theorem zJ (f:aj->Tm):∀ (l:List aj) (a:Int),-1<=a->(∀ t∈l,G.mM (f t).1=sE t.1)->dgM l a=max a (sQ (l.map f))
 | [],a,ha,_=>by show a=max a (-1);omega
 | t :: l,a,ha,h=>by
  have e:=h t Q3
  have ih:=zJ f l (mx a (sE t.1)) (by unfold mx;split<;>omega) fun u hu=>h u (by simp [hu])
  show dgM l (mx a (sE t.1))=max a (max (G.mM (f t).1) (sQ (l.map f)))
  rw [ih,e]
  unfold mx
  split<;>omega
theorem Lp (l:List aj):dgM l (-1)=sQ (dW l):=by
 rw [zJ ku l (-1) Q2 (fun t _=>(rp _).symm)]
 have:=G.wF (dW l)
 show max (-1) (sQ (dW l))=_
 omega
section
variable {n K M L N k:Nat} {q q':List Tm} {l l' r:List aj} {E F:Int}
theorem qc.sum {t:aj} (h:qc n K t) (hn:n<=8):sE t.1=sE (t.1.take n):=by
 conv=>lhs;rw [h.1]
 exact Ik (by have:=h.2.1;omega)
theorem JA (h:∀ u∈r,qc n K u) (hn:n<=8):dgM r (-1)=sQ (dQ n r):=by
 rw [zJ (Af n) r (-1) Q2 (fun t ht=>by rw [(h t ht).sum hn,rp];rfl)]
 have:=G.wF (dQ n r)
 show max (-1) (sQ (dQ n r))=_
 omega
theorem XB.sQ (h:XB E q) (hE:-1<=E):sQ q<=E:=G.JB hE fun t ht=>(h t ht).2
theorem XB.pos (h:XB E q) {t:Tm} (ht:t∈q):0<=E:=Int.le_trans (G.yG (h t ht).1) (h t ht).2
theorem XB.fi (h:XB E q) (h':XB F q') (hq:Len n q) (hq':Len n q') {t u:Tm} (ht:t∈q) (hu:u∈q') {B:Int} (hB:E+F<B):∀ e∈G.fi u.1 t.1,0<=e/\e<B:=by
 intro e he
 have h0:∀ x∈G.fi u.1 t.1,(0:Int)<=x:=fun x hx=>G.vU (h' u hu).1 (h t ht).1 hx
 have h1:=G.sq h0 he
 rw [G.u9 ((hq' u hu).trans (hq t ht).symm)] at h1
 have:=(h t ht).2
 have:=(h' u hu).2
 exact ⟨h0 e he,Q2⟩
theorem wY (h:∀ u∈r,qc n K u) (hn:n<=8) (hl:r.length<=1000000000) (hx:XB E (dQ n r)) (hE:E<=1000000):Ev (fun k=>bw k r) (sQ (dQ n r)):=by
 rw [<- JA h hn]
 have main:=pT (n:=r.length) (P:=fun i=>∀ x:Int,aN (fun k m=>bw.l0 k m x r (r.length:Int) (i:Int)) (dgM (r.drop i) x)) ?_ ?_ 0 (Nat.zero_le _) (-1)
 ·exact Ev.step (fun k=>iD k r) main.diag
 ·intro x
  rw [List.drop_length]
  exact aN.step (fun k m=>bw.aR k m _ _ _ _) (aN.bF (decide_eq_false Q2) (aN.of (aT _)))
 intro i hi ih x
 have e:(cG (t:=af) r (i:Int):aj)=r[i]:=cy hi
 have hm:=List.getElem_mem hi
 obtain ⟨a,b⟩:=hx _ (od hm)
 have hE0:0<=E:=XB.pos hx (od hm)
 refine aN.step (fun k m=>bw.aR k m _ _ _ _) (aN.bT (decide_eq_true Q2) (aN.iT Q2 ?_))
 rw [e,dM hi]
 refine aN.bind (mU _ (h _ hm).len (fun x hx'=>?_)) ?_
 ·obtain ⟨j,hj,rfl⟩:=List.getElem_of_mem hx'
  have:=(h _ hm).bound hE0 hn (fun x hx'=>⟨a x hx',Int.le_trans (G.sq a hx') b⟩) j
  rw [G.Le hj] at this
  omega
 rw [fN Q2]
 exact ih _
theorem gt0 {l:List aj} (h:l≠[]):decide ((List.length l:Int)>(0:Int))=true:=decide_eq_true (by have:=List.length_pos_iff.2 h;omega)
theorem Fi {l:List aj} (h:l=[]):decide ((List.length l:Int)>(0:Int))=false:=by subst h;rfl
theorem DM (h:PT n K M q l) (h':PT n L N q' l') (hx:XB E q) (hx':XB F q') (hq:Len n q) (hq':Len n q') (hn:n<=8) (hE:E+F<256) (hMN:M*N<=60000) (hM:M<=60000) (hN:N<=60000) (hKL:K+L<3000):∃ r,Ev (fun k=>fH k ((n:Int),l,()) ((n:Int),l',())) ((n:Int),r,())/\PT n (60000*(L+K+1)) (M*N) (G.prod q q') r:=by
 have hll:l.length*l'.length<=M*N:=Nat.mul_le_mul h.len h'.len
 obtain ⟨r,r1,r2,r3,r4,r5⟩:=DL hn (Nat.le_trans h.len hM) (Nat.le_trans h'.len hN) (Nat.le_trans hll hMN) hKL h.ok h'.ok (fun u hu t ht=>XB.fi (h.J9 hx) (h'.J9 hx') h.srt.len h'.srt.len (pE ht) (pE hu) hE)
 exact ⟨r,r1,Nat.le_trans r2 hll,fun u hu=>(r3 u hu).mono (Nat.mul_le_mul_right _ (Nat.le_trans hll hMN)),r4,r5.trans (h.eqv.prod h'.eqv)⟩
theorem DC (h:PT n K M q l) (h':PT n L N q' l') (hx:XB E q) (hx':XB F q') (hq:Len n q) (hq':Len n q') (hn:n<=8) (hE:E+F<=40) (hMN:M*N<=4000) (hM:M<=4000) (hN:N<=4000) (hKL:K+L<3000) {j:Nat} (hc:CB j (G.prod q q')) (hj:j<=199):∃ r,Ev (fun k=>mW k ((n:Int),l,()) ((n:Int),l',())) (((n:Int),r,()),(0:Int),())/\PT n (j+1) (M*N) (G.prod q q') r:=by
 obtain ⟨r,r1,r2⟩:=DM h h' hx hx' hq hq' hn Q2 Q2 Q2 Q2 hKL
 have hlim:=nc r2 hn hMN (hc.mono hj) ((XB.prod hq hq' hx hx').mono hE)
 refine ⟨r,?_,r2.fit hc⟩
 have fin:Ev (fun k=>(fH k ((n:Int),l,()) ((n:Int),l',())).bind fun (v5:aB)=>(fU k v5).bind fun (v6:aB×Int×Unit)=>some (v6.1,v6.2.1,())) (((n:Int),r,()),(0:Int),()):=Ev.bind r1 (Ev.bind hlim (aT _))
 have l1:=h.len
 have l2:=h'.len
 by_cases c:l=[]
 ·exact Ev.step (fun k=>j5 k _ _) (Ev.bind (a:=false) (bF (Fi c) (aT _)) (Ev.bind (a:=false) (bF rfl (aT _)) (bF rfl fin)))
 by_cases c':l'=[]
 ·exact Ev.step (fun k=>j5 k _ _) (Ev.bind (a:=false) (bT (gt0 c) (by rw [Fi c'];exact aT _)) (Ev.bind (a:=false) (bF rfl (aT _)) (bF rfl fin)))
 have e1:=qi hn Q2 h.ok
 have e2:=qi hn Q2 h'.ok
 rw [Lp] at e1 e2
 have m1:=G.wF (dW l)
 have m2:=G.wF (dW l')
 obtain ⟨u,hu⟩:=List.exists_mem_of_ne_nil l c
 obtain ⟨u',hu'⟩:=List.exists_mem_of_ne_nil l' c'
 have b1:=XB.sQ (h.J9 hx) (by have:=XB.pos (h.J9 hx) (pE hu);omega)
 have b2:=XB.sQ (h'.J9 hx') (by have:=XB.pos (h'.J9 hx') (pE hu');omega)
 refine Ev.step (fun k=>j5 k _ _) (Ev.bind (a:=true) (bT (gt0 c) (by rw [gt0 c'];exact aT _)) (Ev.bind (a:=false) (bT rfl (Ev.bind e1 (Ev.bind e2 ?_))) (bF rfl fin)))
 rw [cx Q2 Q2]
 exact qS Q2
theorem A9 (h:RT n K M q l) (h':RT n L N q' l') (hx:XB E q) (hx':XB F q') (hE0:0<=E) (hF0:0<=F) (hE:E<1000000) (hF:F<1000000) (hn:n<=8) (hM:M<=100) (hN:N<=100) (hKL:(M*N+1)*(K+L+1)<1000000) {j:Nat} (hc:CB j (G.prod q q')):∃ r,Ev (fun k=>bu k l l') r/\RT n (3*j+1) (M*N) (G.prod q q') r:=by
 have hll:l.length*l'.length<=M*N:=Nat.mul_le_mul h.len h'.len
 obtain ⟨r,r1,r2,r3,r4⟩:=AZ hn (Nat.le_trans h.len hM) (Nat.le_trans h'.len hN) rfl (Nat.lt_of_le_of_lt (Nat.mul_le_mul_right _ (Nat.succ_le_succ hll)) hKL) h.ok h'.ok (fun u hu j=>by have:=h.bnd hx hE0 hn hu j;omega) (fun u hu j=>by have:=h'.bnd hx' hF0 hn hu j;omega)
 have hlen:Len n (G.prod (dQ n l) (dQ n l')):=Len.prod h.dst.len h'.dst.len
 obtain ⟨c1,c2⟩:=G.nC (jP.nil n) hlen
 rw [<- r2] at c1 c2
 have he:j9 (dQ n r) (G.prod q q'):=fun m=>by
  rw [c2]
  show 0+_=_
  rw [(h.eqv.prod h'.eqv) m]
  grind
 exact ⟨r,r1,RT.fit ⟨Nat.le_trans r4 hll,r3,c1,he⟩ hc⟩
end
open Go.Proofs.YtfbgaddecbiimaaGreatDoor.G (fp)
theorem cmp3:∀ {a b:List Int},a.length=b.length->cQ a b=if G.iM a b=true then 1 else if G.iM b a=true then -1 else 0
 | [],[],_=>rfl
 | [],_ :: _,h=>by simp at h
 | _ :: _,[],h=>by simp at h
 | x :: a,y :: b,h=>by
  have ih:=cmp3 (a:=a) (b:=b) (by simpa using h)
  have e1:G.iM (x :: a) (y :: b)=if x=y then G.iM a b else decide (x>y):=rfl
  have e2:G.iM (y :: b) (x :: a)=if y=x then G.iM b a else decide (y>x):=rfl
  by_cases e:x=y
  ·rw [if_pos e] at e1
   rw [if_pos e.symm] at e2
   rw [e1,e2,<- ih]
   simp only [cQ,if_pos e]
  rw [if_neg e] at e1
  rw [if_neg (fun h=>e h.symm)] at e2
  rw [e1,e2]
  simp only [cQ,if_neg e,decide_eq_true_eq]
  by_cases g:x<y
  ·rw [if_pos g,if_neg Q2,if_pos Q2]
  rw [if_neg g,if_pos Q2]
section
variable {n K M L N k:Nat} {q q':List Tm} {l l' r:List aj} {E F:Int}
theorem zP {t u:aj} (ht:ks n K t) (hu:ks n L u) (hn:n<=8) {c:Int} (h:cQ t.1 u.1=c):Ev (fun k=>eA k t.1 u.1) c:=by
 have h1:=ht.1
 have h2:=hu.1
 rw [<- h]
 exact vI _ _ Q2 Q2
theorem F6 {t u:aj} (ht:ks n K t) (hu:ks n L u) (hKL:K+L<200000000) (he:t.1=u.1):∃ v,Ev (fun k=>fX k t.2.1 u.2.1) v/\Ev (fun k=>gQ k v) (CQ (gw t.2.1+gw u.2.1))/\(∀ z,ks n (K+L+1) (t.1,v,z)/\ku (t.1,v,z)=((ku t).1,(ku t).2+(ku u).2)):=by
 obtain ⟨a1,a2,a3⟩:=ht
 obtain ⟨b1,b2,b3⟩:=hu
 obtain ⟨v,v1,v2,v3⟩:=vQ a3.rb.1 b3.rb.1 a3.rb.2 b3.rb.2 Q2
 refine ⟨v,v1,oN v2,fun z=>⟨⟨a1,a2,_,v2,v3⟩,?_⟩⟩
 show (t.1,gw v)=_
 rw [pI v2]
 rfl
theorem Ib {x:Rat} (h:x=0):(CQ x != (0:Int))=false:=by rw [yO];exact dN (fun g=>g h)
theorem ET {x:Rat} (h:¬ x=0):(CQ x != (0:Int))=true:=by rw [yO];exact fy h
theorem Hq (t:Tm) (p:List Tm):fp (t :: p) []=t :: fp p []:=by rw [G.mH,G.mH]
theorem EE (u:Tm) (q:List Tm):fp [] (u :: q)=u :: fp [] q:=by rw [fp,fp]
theorem F9 {t u:Tm} {p q:List Tm} (h:G.iM t.1 u.1=true):fp (t :: p) (u :: q)=t :: fp p (u :: q):=by rw [fp,if_pos h]
theorem F8 {t u:Tm} {p q:List Tm} (h:¬ G.iM t.1 u.1=true) (h':G.iM u.1 t.1=true):fp (t :: p) (u :: q)=u :: fp (t :: p) q:=by rw [fp,if_neg h,if_pos h']
theorem F7 {t u:Tm} {p q:List Tm} (h:¬ G.iM t.1 u.1=true) (h':¬ G.iM u.1 t.1=true) (z:t.2+u.2=0):fp (t :: p) (u :: q)=fp p q:=by rw [fp,if_neg h,if_neg h',if_pos z]
theorem Ga {t u:Tm} {p q:List Tm} (h:¬ G.iM t.1 u.1=true) (h':¬ G.iM u.1 t.1=true) (z:¬ t.2+u.2=0):fp (t :: p) (u :: q)=(t.1,t.2+u.2) :: fp p q:=by rw [fp,if_neg h,if_neg h',if_neg z]
theorem I0 (hn:n<=8) (hKL:K+L<200000000):∀ (s:Nat) (x y:List aj),x.length+y.length=s->(∀ u∈x,ks n K u)->(∀ u∈y,ks n L u)->∀ acc:List aj,acc.length+x.length+y.length<=1000000->∃ r:List aj,aN (fun k m=>az.l0 k m x y acc) (acc++r)/\dW r=fp (dW x) (dW y)/\(∀ u∈r,ks n (K+L+1) u)/\r.length<=s:=by
 intro s
 induction s using Nat.strongRecOn with
 | _ s ih =>
 intro x y hs hx hy acc ha
 match x,y,hs,hx,hy,ha with
 | [],y,hs,hx,hy,ha =>
  refine ⟨y,?_,by rw [show dW ([]:List aj)=[] from rfl,fp],fun u hu=>(hy u hu).mono Q2,by simp at hs;omega⟩
  have e:acc++y=(acc++[])++y:=by rw [List.append_nil]
  rw [e]
  exact aN.step (fun k m=>az.aR k m _ _ _) (aN.bind (a:=false) (bF rfl (aT _)) (aN.bF rfl (aN.iT (by simp only [List.length_nil] at ha ⊢;omega) (aN.iT (by simp only [List.length_append,List.length_nil] at ha ⊢;omega) (aN.of (aT _))))))
 | t :: x,[],hs,hx,hy,ha =>
  refine ⟨t :: x,?_,by rw [show dW ([]:List aj)=[] from rfl,G.mH],fun u hu=>(hx u hu).mono Q2,by simp at hs;simp;omega⟩
  have e:acc++t :: x=(acc++t :: x)++[]:=by rw [List.append_nil]
  rw [e]
  exact aN.step (fun k m=>az.aR k m _ _ _) (aN.bind (a:=false) (bT (gt0 Q3) (aT _)) (aN.bF rfl (aN.iT (by simp only [List.length_nil,List.length_cons] at ha ⊢;omega) (aN.iT (by simp only [List.length_append,List.length_nil,List.length_cons] at ha ⊢;omega) (aN.of (aT _))))))
 | t :: x,u :: y,hs,hx,hy,ha =>
  simp only [List.length_cons] at hs ha
  have ht:=hx t Q3
  have hu:=hy u Q3
  have hx':∀ v∈x,ks n K v:=fun v hv=>hx v (by simp [hv])
  have hy':∀ v∈y,ks n L v:=fun v hv=>hy v (by simp [hv])
  have hl:t.1.length=u.1.length:=ht.1.trans hu.1.symm
  have c3:=cmp3 hl
  have h0:0<=(0:Int)/\(0:Int)<(List.length (t :: x):Int):=by simp only [List.length_cons];omega
  have h0':0<=(0:Int)/\(0:Int)<(List.length (u :: y):Int):=by simp only [List.length_cons];omega
  have h1:0<=(1:Int)/\(1:Int)<=(List.length (t :: x):Int):=by simp only [List.length_cons];omega
  have h1':0<=(1:Int)/\(1:Int)<=(List.length (u :: y):Int):=by simp only [List.length_cons];omega
  have start:∀ {R:List aj} {c:Int},cQ t.1 u.1=c->aN (fun k m=>(bif decide (c>(0:Int)) then
   if 0<=(0:Int)/\(0:Int)<(List.length (t :: x):Int) then if (List.length acc+List.length ([t]))*80<=140737488355328 then if 0<=(1:Int)/\(1:Int)<=(List.length (t :: x):Int) then az.l0 k m x (u :: y) (acc++([t])) else none else none else none
   else
    bif decide (c<(0:Int)) then
     if 0<=(0:Int)/\(0:Int)<(List.length (u :: y):Int) then if (List.length acc+List.length ([u]))*80<=140737488355328 then if 0<=(1:Int)/\(1:Int)<=(List.length (u :: y):Int) then az.l0 k m (t :: x) y (acc++([u])) else none else none else none
    else
     if 0<=(0:Int)/\(0:Int)<(List.length (t :: x):Int) then if 0<=(0:Int)/\(0:Int)<(List.length (u :: y):Int) then (mX k t u).bind fun (v3:aj×Bool×Unit) =>
     bif v3.2.1 then
      if (List.length acc+List.length ([v3.1]))*80<=140737488355328 then az.j0 k m (t :: x) (u :: y) (acc++([v3.1])) else none
     else
      az.j0 k m (t :: x) (u :: y) acc else none else none)) R->aN (fun k m=>az.l0 k m (t :: x) (u :: y) acc) R:=fun {R c} hc h =>
   aN.step (fun k m=>az.aR k m _ _ _) (aN.bind (a:=true) (bT (gt0 Q3) (by rw [gt0 Q3];exact aT _)) (aN.bT rfl (aN.iT h0 (aN.iT h0' (aN.bind (Ev.step (fun k=>xi k _ _) (Ev.bind (zP ht hu hn hc) (aT _))) h)))))
  by_cases g:G.iM t.1 u.1=true
  ·rw [if_pos g] at c3
   obtain ⟨r,r1,r2,r3,r4⟩:=ih (s-1) Q2 x (u :: y) (by simp only [List.length_cons];omega) hx' hy (acc++[t]) (by simp only [List.length_append,List.length_cons,List.length_nil];omega)
   refine ⟨t :: r,?_,by rw [cC,cC,cC,F9 g,r2,cC],fun v hv=>?_,by simp only [List.length_cons];omega⟩
   ·rw [show acc++t :: r=(acc++[t])++r by simp]
    exact start c3 (aN.bT rfl (aN.iT h0 (aN.iT (by simp only [List.length_cons,List.length_nil];omega) (aN.iT h1 r1))))
   rcases List.mem_cons.1 hv with rfl | hv
   ·exact ht.mono Q2
   exact r3 v hv
  by_cases g':G.iM u.1 t.1=true
  ·rw [if_neg g,if_pos g'] at c3
   obtain ⟨r,r1,r2,r3,r4⟩:=ih (s-1) Q2 (t :: x) y (by simp only [List.length_cons];omega) hx hy' (acc++[u]) (by simp only [List.length_append,List.length_cons,List.length_nil];omega)
   refine ⟨u :: r,?_,by rw [cC,cC,cC,F8 g g',r2,cC],fun v hv=>?_,by simp only [List.length_cons];omega⟩
   ·rw [show acc++u :: r=(acc++[u])++r by simp]
    exact start c3 (aN.bF rfl (aN.bT rfl (aN.iT h0' (aN.iT (by simp only [List.length_cons,List.length_nil];omega) (aN.iT h1' r1)))))
   rcases List.mem_cons.1 hv with rfl | hv
   ·exact hu.mono Q2
   exact r3 v hv
  rw [if_neg g,if_neg g'] at c3
  obtain ⟨v,v1,v2,v3⟩:=F6 ht hu hKL (G.pO hl (by simpa using g) (by simpa using g'))
  have e2:∀ {b:Bool},(CQ (gw t.2.1+gw u.2.1) != (0:Int))=b->Ev (fun k=>mX k t u) ((t.1,v,t.2.2),b,()):=fun {b} hb=>Ev.step (fun k=>xh k _ _) (Ev.bind v1 (Ev.bind v2 (by rw [hb];exact aT _)))
  obtain ⟨v3,v4⟩:=v3 t.2.2
  by_cases z:gw t.2.1+gw u.2.1=0
  ·obtain ⟨r,r1,r2,r3,r4⟩:=ih (s-2) Q2 x y Q2 hx' hy' acc Q2
   refine ⟨r,start c3 (aN.bF rfl (aN.bF rfl (aN.iT h0 (aN.iT h0' (aN.bind (e2 (Ib z)) (aN.bF rfl ?_)))))),by rw [cC,cC,F7 g g' z,r2],r3,Q2⟩
   unfold az.j0
   exact aN.iT h1 (aN.iT h1' r1)
  obtain ⟨r,r1,r2,r3,r4⟩:=ih (s-2) Q2 x y Q2 hx' hy' (acc++[(t.1,v,t.2.2)]) (by simp only [List.length_append,List.length_cons,List.length_nil];omega)
  refine ⟨(t.1,v,t.2.2) :: r,?_,by rw [cC,cC,cC,Ga g g' z,r2,v4],fun w hw=>?_,by simp only [List.length_cons];omega⟩
  ·rw [show acc++(t.1,v,t.2.2) :: r=(acc++[(t.1,v,t.2.2)])++r by simp]
   refine start c3 (aN.bF rfl (aN.bF rfl (aN.iT h0 (aN.iT h0' (aN.bind (e2 (ET z)) (aN.bT rfl (aN.iT (by simp only [List.length_cons,List.length_nil];omega) ?_)))))))
   unfold az.j0
   exact aN.iT h1 (aN.iT h1' r1)
  rcases List.mem_cons.1 hw with rfl | hw
  ·exact v3
  exact r3 w hw
theorem I1 (h:PT n K M q l) (h':PT n L N q' l') (hn:n<=8) (hKL:K+L<200000000) (hMN:M+N<=1000000):∃ r,Ev (fun k=>az k l l') r/\PT n (K+L+1) (M+N) (q++q') r:=by
 have l1:=h.len
 have l2:=h'.len
 obtain ⟨r,r1,r2,r3,r4⟩:=I0 hn hKL _ l l' rfl h.ok h'.ok [] (by simp only [List.length_nil];omega)
 obtain ⟨s1,s2⟩:=G.mG _ _ h.srt h'.srt
 refine ⟨r,Ev.step (fun k=>iZ k _ _) r1.diag,Q2,r3,by rw [r2];exact s1,fun m=>?_⟩
 rw [r2,s2,G.gS,h.eqv,h'.eqv]
end
section
variable {n K M L N k:Nat} {q q':List Tm} {l l' r:List aj} {E F:Int}
theorem GD (hn:n<=8) (hKL:K+L<200000000) (hl:l.length+l'.length<=1000000) (hx:∀ u∈l,ks n K u) (hy:∀ u∈l',ks n L u):∀ (s i j:Nat),i<=l.length->j<=l'.length->(l.length-i)+(l'.length-j)=s->∀ acc:List aj,acc.length<=i+j->∃ r:List aj,aN (fun k m=>dB.l0 k m (i:Int) (j:Int) ((n:Int),l,()) ((n:Int),l',()) ((0:Int),[],()) (n:Int) acc) ((n:Int),acc++r,())/\dW r=fp (dW (l.drop i)) (dW (l'.drop j))/\(∀ u∈r,ks n (K+L+1) u)/\r.length<=s:=by
 intro s
 induction s using Nat.strongRecOn with
 | _ s ih =>
 intro i j hi hj hs acc ha
 have stay:∀ {i:Nat},¬ (i:Int)<(i:Int):=fun {i}=>Q2
 have goA:∀ (h:i<l.length),fp (dW (l.drop i)) (dW (l'.drop j))=ku l[i] :: fp (dW (l.drop (i+1))) (dW (l'.drop j))->∃ r:List aj,aN (fun k m=>dB.j0 k m (i:Int) (j:Int) (1:Int) ((n:Int),l,()) ((n:Int),l',()) ((0:Int),[],()) (n:Int) acc) ((n:Int),acc++r,())/\dW r=fp (dW (l.drop i)) (dW (l'.drop j))/\(∀ u∈r,ks n (K+L+1) u)/\r.length<=s:=fun h he=>by
  have e:(cG (t:=ah) l (i:Int):aj)=l[i]:=cy h
  obtain ⟨r,r1,r2,r3,r4⟩:=ih (s-1) Q2 (i+1) j h hj Q2 (acc++[l[i]]) (by simp only [List.length_append,List.length_cons,List.length_nil];omega)
  refine ⟨l[i] :: r,?_,by rw [he,cC,r2],fun v hv=>?_,by simp only [List.length_cons];omega⟩
  ·rw [show acc++l[i] :: r=(acc++[l[i]])++r by simp]
   refine aN.bT rfl (aN.iT (by dsimp only;omega) ?_)
   show aN (fun k m=>if (List.length acc+List.length [(cG (t:=ah) l (i:Int):aj)])*80<=140737488355328 then dB.l0 k m (wrap64 ((i:Int)+(1:Int))) (j:Int) ((n:Int),l,()) ((n:Int),l',()) ((0:Int),[],()) (n:Int) (acc++[(cG (t:=ah) l (i:Int):aj)]) else none) _
   rw [e,fN Q2]
   exact aN.iT (by simp only [List.length_cons,List.length_nil];omega) r1
  rcases List.mem_cons.1 hv with rfl | hv
  ·exact (hx _ (List.getElem_mem h)).mono Q2
  exact r3 v hv
 have goB:∀ (h:j<l'.length),fp (dW (l.drop i)) (dW (l'.drop j))=ku l'[j] :: fp (dW (l.drop i)) (dW (l'.drop (j+1)))->∃ r:List aj,aN (fun k m=>dB.j0 k m (i:Int) (j:Int) (-1:Int) ((n:Int),l,()) ((n:Int),l',()) ((0:Int),[],()) (n:Int) acc) ((n:Int),acc++r,())/\dW r=fp (dW (l.drop i)) (dW (l'.drop j))/\(∀ u∈r,ks n (K+L+1) u)/\r.length<=s:=fun h he=>by
  have e:(cG (t:=ah) l' (j:Int):aj)=l'[j]:=cy h
  obtain ⟨r,r1,r2,r3,r4⟩:=ih (s-1) Q2 i (j+1) hi h Q2 (acc++[l'[j]]) (by simp only [List.length_append,List.length_cons,List.length_nil];omega)
  refine ⟨l'[j] :: r,?_,by rw [he,cC,r2],fun v hv=>?_,by simp only [List.length_cons];omega⟩
  ·rw [show acc++l'[j] :: r=(acc++[l'[j]])++r by simp]
   refine aN.bF rfl (aN.bT rfl (aN.iT (by dsimp only;omega) ?_))
   show aN (fun k m=>if (List.length acc+List.length [(cG (t:=ah) l' (j:Int):aj)])*80<=140737488355328 then dB.l0 k m (i:Int) (wrap64 ((j:Int)+(1:Int))) ((n:Int),l,()) ((n:Int),l',()) ((0:Int),[],()) (n:Int) (acc++[(cG (t:=ah) l' (j:Int):aj)]) else none) _
   rw [e,fN Q2]
   exact aN.iT (by simp only [List.length_cons,List.length_nil];omega) r1
  rcases List.mem_cons.1 hv with rfl | hv
  ·exact (hy _ (List.getElem_mem h)).mono Q2
  exact r3 v hv
 by_cases ci:i=l.length
 ·have d0:l.drop i=[]:=by rw [ci];exact List.drop_length
  by_cases cj:j=l'.length
  ·have d1:l'.drop j=[]:=by rw [cj];exact List.drop_length
   refine ⟨[],?_,by rw [d0,d1,show dW ([]:List aj)=[] from rfl,G.mH],(fun v hv=>by cases hv),Q3⟩
   rw [List.append_nil]
   exact aN.step (fun k m=>dB.aR k m _ _ _ _ _ _ _) (aN.bind (a:=false) (bF (decide_eq_false (by show ¬ (i:Int)<(l.length:Int);omega)) (qS (by show ¬ (j:Int)<(l'.length:Int);omega))) (aN.bF rfl (aN.of (aT _))))
  have hj':j<l'.length:=Q2
  obtain ⟨r,r1,r2⟩:=goB hj' (by rw [d0,dM hj',cC,show dW ([]:List aj)=[] from rfl,EE])
  exact ⟨r,aN.step (fun k m=>dB.aR k m _ _ _ _ _ _ _) (aN.bind (a:=true) (bF (decide_eq_false (by show ¬ (i:Int)<(l.length:Int);omega)) (zG (by show (j:Int)<(l'.length:Int);omega))) (aN.bT rfl (aN.bT (by rw [ci];exact beq_self_eq_true _) r1))),r2⟩
 have hi':i<l.length:=Q2
 have hb1:∀ {g:Nat->Option Bool},Ev (fun k=>bif decide ((i:Int)<(l.length:Int)) then some true else g k) true:=fun {g}=>bT (decide_eq_true Q2) (aT _)
 have hne:((i:Int)==(l.length:Int))=false:=beq_eq_false_iff_ne.2 Q2
 by_cases cj:j=l'.length
 ·have d1:l'.drop j=[]:=by rw [cj];exact List.drop_length
  obtain ⟨r,r1,r2⟩:=goA hi' (by rw [d1,dM hi',cC,show dW ([]:List aj)=[] from rfl,Hq])
  exact ⟨r,aN.step (fun k m=>dB.aR k m _ _ _ _ _ _ _) (aN.bind (a:=true) hb1 (aN.bT rfl (aN.bF hne (aN.bT (by rw [cj];exact beq_self_eq_true _) r1)))),r2⟩
 have hj':j<l'.length:=Q2
 have hne':((j:Int)==(l'.length:Int))=false:=beq_eq_false_iff_ne.2 Q2
 have ei:(cG (t:=ah) l (i:Int):aj)=l[i]:=cy hi'
 have ej:(cG (t:=ah) l' (j:Int):aj)=l'[j]:=cy hj'
 have ht:=hx _ (List.getElem_mem hi')
 have hu:=hy _ (List.getElem_mem hj')
 have hlen:l[i].1.length=l'[j].1.length:=ht.1.trans hu.1.symm
 have c3:=cmp3 hlen
 have start:∀ {R:aB} {c:Int},cQ l[i].1 l'[j].1=c->aN (fun k m=>dB.j0 k m (i:Int) (j:Int) c ((n:Int),l,()) ((n:Int),l',()) ((0:Int),[],()) (n:Int) acc) R->aN (fun k m=>dB.l0 k m (i:Int) (j:Int) ((n:Int),l,()) ((n:Int),l',()) ((0:Int),[],()) (n:Int) acc) R:=fun {R c} hc h=>by
  refine aN.step (fun k m=>dB.aR k m _ _ _ _ _ _ _) (aN.bind (a:=true) hb1 (aN.bT rfl (aN.bF hne (aN.bF hne' (aN.iT (by show 0<=(i:Int)/\(i:Int)<(l.length:Int);omega) (aN.iT (by show 0<=(j:Int)/\(j:Int)<(l'.length:Int);omega) ?_))))))
  rw [ei,ej]
  exact aN.bind (zP ht hu hn hc) h
 by_cases g:G.iM l[i].1 l'[j].1=true
 ·rw [if_pos g] at c3
  obtain ⟨r,r1,r2⟩:=goA hi' (by rw [dM hi',dM hj',cC,cC,F9 g])
  exact ⟨r,start c3 r1,r2⟩
 by_cases g':G.iM l'[j].1 l[i].1=true
 ·rw [if_neg g,if_pos g'] at c3
  obtain ⟨r,r1,r2⟩:=goB hj' (by rw [dM hi',dM hj',cC,cC,F8 g g'])
  exact ⟨r,start c3 r1,r2⟩
 rw [if_neg g,if_neg g'] at c3
 obtain ⟨v,v1,v2,v3⟩:=F6 ht hu hKL (G.pO hlen (by simpa using g) (by simpa using g'))
 obtain ⟨v3,v4⟩:=v3 ()
 have hd:fp (dW (l.drop i)) (dW (l'.drop j))=fp (ku l[i] :: dW (l.drop (i+1))) (ku l'[j] :: dW (l'.drop (j+1))):=by rw [dM hi',dM hj',cC,cC]
 by_cases z:gw l[i].2.1+gw l'[j].2.1=0
 ·obtain ⟨r,r1,r2,r3,r4⟩:=ih (s-2) Q2 (i+1) (j+1) hi' hj' Q2 acc Q2
  refine ⟨r,start c3 (aN.bF rfl (aN.bF rfl (aN.iT (by show 0<=(i:Int)/\(i:Int)<(l.length:Int);omega) (aN.iT (by show 0<=(j:Int)/\(j:Int)<(l'.length:Int);omega) ?_)))),by rw [hd,F7 g g' z,r2],r3,Q2⟩
  rw [ei,ej]
  refine aN.bind v1 (aN.bind v2 (aN.bF (Ib z) ?_))
  show aN (fun k m=>dB.l0 k m (wrap64 ((i:Int)+(1:Int))) (wrap64 ((j:Int)+(1:Int))) ((n:Int),l,()) ((n:Int),l',()) ((0:Int),[],()) (n:Int) acc) _
  rw [fN Q2,fN Q2]
  exact r1
 obtain ⟨r,r1,r2,r3,r4⟩:=ih (s-2) Q2 (i+1) (j+1) hi' hj' Q2 (acc++[(l[i].1,v,())]) (by simp only [List.length_append,List.length_cons,List.length_nil];omega)
 refine ⟨(l[i].1,v,()) :: r,?_,by rw [hd,Ga g g' z,cC,r2,v4],fun w hw=>?_,by simp only [List.length_cons];omega⟩
 ·rw [show acc++(l[i].1,v,()) :: r=(acc++[(l[i].1,v,())])++r by simp]
  refine start c3 (aN.bF rfl (aN.bF rfl (aN.iT (by show 0<=(i:Int)/\(i:Int)<(l.length:Int);omega) (aN.iT (by show 0<=(j:Int)/\(j:Int)<(l'.length:Int);omega) ?_))))
  rw [ei,ej]
  refine aN.bind v1 (aN.bind v2 (aN.bT (ET z) (aN.iT (by show 0<=(i:Int)/\(i:Int)<(l.length:Int);omega) (aN.iT (by simp only [List.length_cons,List.length_nil];omega) ?_))))
  show aN (fun k m=>dB.l0 k m (wrap64 ((i:Int)+(1:Int))) (wrap64 ((j:Int)+(1:Int))) ((n:Int),l,()) ((n:Int),l',()) ((0:Int),[],()) (n:Int) (acc++[(l[i].1,v,())])) _
  rw [fN Q2,fN Q2]
  exact r1
 rcases List.mem_cons.1 hw with rfl | hw
 ·exact v3
 exact r3 w hw
theorem DP (h:PT n K M q l) (h':PT n L N q' l') (hn:n<=8) (hKL:K+L<200000000) (hMN:M+N<=1000000):∃ r,Ev (fun k=>dB k ((n:Int),l,()) ((n:Int),l',())) ((n:Int),r,())/\PT n (K+L+1) (M+N) (q++q') r:=by
 have l1:=h.len
 have l2:=h'.len
 obtain ⟨r,r1,r2,r3,r4⟩:=GD hn hKL Q2 h.ok h'.ok _ 0 0 (Nat.zero_le _) (Nat.zero_le _) rfl [] Q3
 obtain ⟨s1,s2⟩:=G.mG _ _ h.srt h'.srt
 refine ⟨r,Ev.step (fun k=>DQ k _ _) r1.diag,Q2,r3,by rw [r2];exact s1,fun m=>?_⟩
 rw [r2,List.drop_zero,List.drop_zero,s2,G.gS,h.eqv,h'.eqv]
end
open Go.Proofs.YtfbgaddecbiimaaGreatDoor.G (ox)
theorem DY {z:Int} (h0:-1000000000<=z) (h1:z<=1000000000):∃ r,Ev (fun k=>zo k z) r/\RB WW r (z:Rat)/\Sz WW 1 (z:Rat):=by
 have hs:Sz WW 1 (z:Rat):=by
  refine ⟨?_,by rw [Rat.den_intCast];decide⟩
  rw [Rat.num_intCast,Int.pow_succ,Int.pow_zero]
  show (z.natAbs:Int)<1*4294967296
  omega
 by_cases c:z<0
 ·obtain ⟨x,x1,x2⟩:=P.fS (a:=-z) Q2 Q2
  have hx:x.length<1073741824:=by
   have:=x2.fM bG (k:=1) (by rw [Int.pow_succ,Int.pow_zero];show -z<1*4294967296;omega)
   omega
  obtain ⟨r,r1,r2⟩:=iS (s:=true) (a:=x) (b:=[1]) hx Q3 x2 (Hg bG) (by decide)
  refine ⟨r,Ev.step (fun k=>vO k z) (bT (decide_eq_true c) (Ev.bind (Ev.step (fun k=>uk k _) ?_) (Ev.bind r1 (aT _)))),?_,hs⟩
  ·rw [cx (x:=z+1) Q2 Q2,cx Q2 Q2,u64 (x:=-(z+1)) Q2 Q2,u64 Q2 Q2,show -(z+1)+1 = -z by omega]
   exact x1
  rw [wE] at r2
  rw [show z=sg true (-z) by simp [sg]]
  exact r2
 obtain ⟨x,x1,x2⟩:=P.fS (a:=z) Q2 Q2
 have hx:x.length<1073741824:=by
  have:=x2.fM bG (k:=1) (by rw [Int.pow_succ,Int.pow_zero];show z<1*4294967296;omega)
  omega
 obtain ⟨r,r1,r2⟩:=iS (s:=false) (a:=x) (b:=[1]) hx Q3 x2 (Hg bG) (by decide)
 refine ⟨r,Ev.step (fun k=>vO k z) (bF (decide_eq_false c) (Ev.bind (Ev.step (fun k=>uk k _) ?_) (Ev.bind r1 (aT _)))),?_,hs⟩
 ·rw [u64 Q2 Q2]
  exact x1
 rw [wE] at r2
 exact r2
theorem JJ {B:Int} (hB:1<B) {x:List Int} {z:Int} {s:Bool} (hs:s=decide (z<0)) (h:P.Can B x (z.natAbs:Int)):RB B (s,x,[1],()) (z:Rat):=⟨by rw [Rat.num_intCast];exact hs,by rw [Rat.num_intCast];exact h,by rw [Rat.den_intCast];exact Hg hB⟩
theorem Ds {z:Int} (h0:-1000000000<=z) (h1:z<=1000000000):∃ r,Ev (fun k=>iL k z) r/\RB RR r (z:Rat)/\Sz RR 3 (z:Rat):=by
 have hs:Sz RR 3 (z:Rat):=by
  refine ⟨?_,by rw [Rat.den_intCast];decide⟩
  rw [Rat.num_intCast]
  show (z.natAbs:Int)<10000 ^ 3
  omega
 by_cases c:z<0
 ·obtain ⟨x,x1,x2⟩:=s_Int (a:=-z) Q2 Q2
  refine ⟨_,Ev.step (fun k=>jq k z) (bT (decide_eq_true c) ?_),JJ cN (s:=true) (decide_eq_true c).symm (by rw [show (z.natAbs:Int) = -z by omega];exact x2),hs⟩
  rw [cx Q2 Q2]
  exact Ev.bind x1 (aT _)
 obtain ⟨x,x1,x2⟩:=s_Int (a:=z) Q2 Q2
 exact ⟨_,Ev.step (fun k=>jq k z) (bF (decide_eq_false c) (Ev.bind x1 (aT _))),JJ cN (s:=false) (decide_eq_false c).symm (by rw [show (z.natAbs:Int)=z by omega];exact x2),hs⟩
theorem ka.ox {n:Nat} {p:List Tm} (h:ka n p) {c:Rat} (hc:c≠0):ka n (ox c p):=by
 refine ⟨List.pairwise_map.2 h.ord,fun t ht=>?_,fun t ht=>?_⟩
 ·obtain ⟨u,hu,rfl⟩:=List.mem_map.1 ht
  exact fun e=>(Rat.mul_eq_zero.1 e).elim (h.nz u hu) hc
 obtain ⟨u,hu,rfl⟩:=List.mem_map.1 ht
 exact h.len u hu
theorem Ig (p:List Tm):j9 [] (ox 0 p):=fun m=>by
 rw [G.sm]
 show (0:Rat)=_
 grind
section
variable {n K M L N k:Nat} {q q':List Tm} {l l' r:List aj} {E F:Int}
theorem rM {v:bB} {p:Rat} (h:PT n K M q l) (hv:RB WW v p) (hp:Sz WW L p) (hM:M<=1000000) (hKL:K+L<1000000000):∃ r,Ev (fun k=>eY k ((n:Int),l,()) v) ((n:Int),r,())/\PT n (K+L) M (ox p q) r:=by
 have hlen:=h.len
 have hsg:=oN hv
 by_cases c0:p=0
 ·refine ⟨[],Ev.step (fun k=>rN k _ _) (Ev.bind hsg (bT (by rw [lV];exact decide_eq_true c0) (aT _))),Q3,(fun u hu=>by cases hu),ka.nil n,?_⟩
  rw [c0]
  exact Ig q
 have main:=pT (n:=l.length) (P:=fun i=>∀ acc:List aj,acc.length=i->∃ r:List aj,r.length=l.length-i/\(∀ u∈r,ks n (K+L) u)/\dW r=ox p (dW (l.drop i))/\aN (fun k m=>eY.l0 k m l (l.length:Int) (i:Int) v ((0:Int),[],()) (n:Int) acc) ((n:Int),acc++r,())) ?_ ?_ 0 (Nat.zero_le _) [] rfl
 ·obtain ⟨r,h1,h2,h3,h4⟩:=main
  refine ⟨r,Ev.step (fun k=>rN k _ _) (Ev.bind hsg (bF (by rw [lV];exact decide_eq_false c0) h4.diag)),Q2,h2,?_,?_⟩
  ·rw [h3];exact ka.ox h.srt c0
  rw [h3];exact h.eqv.ox p
 ·intro acc hacc
  exact ⟨[],Q3,(fun u hu=>by cases hu),by rw [List.drop_length];rfl,aN.step (fun k m=>eY.aR k m _ _ _ _ _ _ _) (aN.bF (decide_eq_false Q2) (by rw [List.append_nil];exact aN.of (aT _)))⟩
 intro i hi ih acc hacc
 have e:(cG (t:=ah) l (i:Int):aj)=l[i]:=cy hi
 obtain ⟨o1,o2,o3⟩:=h.ok l[i] (List.getElem_mem hi)
 obtain ⟨w,w1,w2,w3⟩:=vN o3.rb.1 hv o3.rb.2 hp Q2
 obtain ⟨r,h1,h2,h3,h4⟩:=ih (acc++[(l[i].1,w,())]) (by simp [hacc])
 refine ⟨(l[i].1,w,()) :: r,by simp only [List.length_cons];omega,fun u hu=>?_,?_,?_⟩
 ·rcases List.mem_cons.1 hu with rfl | hu
  ·exact ⟨o1,o2,_,w2,w3⟩
  exact h2 u hu
 ·rw [dM hi,cC,cC,h3]
  show (l[i].1,gw w) :: _=(l[i].1,gw l[i].2.1*p) :: _
  rw [pI w2]
  rfl
 rw [show acc++(l[i].1,w,()) :: r=(acc++[(l[i].1,w,())])++r by simp]
 refine aN.step (fun k m=>eY.aR k m _ _ _ _ _ _ _) (aN.bT (decide_eq_true Q2) (aN.iT Q2 ?_))
 rw [e]
 refine aN.bind w1 (aN.iT (by simp only [List.length_cons,List.length_nil];omega) ?_)
 rw [fN Q2]
 exact h4
theorem EW (p:List Tm):j9 (ox ((-1:Int):Rat) p) (G.neg p):=fun m=>by
 rw [G.sm,G.Fv]
 grind
theorem DJ (h:PT n K M q l) (hM:M<=1000000) (hK:K<1000000):∃ r,Ev (fun k=>zf k ((n:Int),l,())) ((n:Int),r,())/\PT n (K+1) M (G.neg q) r:=by
 obtain ⟨v,v1,v2,v3⟩:=DY (z:=-1) Q2 Q2
 obtain ⟨r,r1,r2⟩:=rM h v2 v3 hM Q2
 exact ⟨r,Ev.step (fun k=>DK k _) (Ev.bind v1 (Ev.bind r1 (aT _))),r2.to (Nat.le_refl _) (Nat.le_refl _) (EW q)⟩
theorem DH (h:PT n K M q l) (h':PT n L N q' l') (hn:n<=8) (hKL:K+L<1000000) (hMN:M+N<=1000000):∃ r,Ev (fun k=>ze k ((n:Int),l,()) ((n:Int),l',())) ((n:Int),r,())/\PT n (K+L+2) (M+N) (q++G.neg q') r:=by
 obtain ⟨s,s1,s2⟩:=DJ h' Q2 Q2
 obtain ⟨r,r1,r2⟩:=DP h s2 hn Q2 hMN
 exact ⟨r,Ev.step (fun k=>DI k _ _) (Ev.bind s1 (Ev.bind r1 (aT _))),r2.to Q2 (Nat.le_refl _) (.refl _)⟩
theorem tY {l l':List aj} (h:RT n K M q l) (h':RT n L N q' l') (hn:n<=8) (hMN:M+N<=100000) (hKL:K+(N+1)*(L+1)<1000000):∃ r,Ev (fun k=>cp k l l') r/\RT n (K+N*(L+1)) (M+N) (q++q') r:=by
 have hm:=h.len
 have hm':=h'.len
 have hN:∀ i,i<=l'.length->i*(L+1)<=N*(L+1):=fun i hi=>Nat.mul_le_mul_right _ Q2
 have hNs:(N+1)*(L+1)=N*(L+1)+(L+1):=Nat.succ_mul _ _
 have main:=pT (n:=l'.length) (P:=fun i=>∀ acc:List aj,acc.length<=M+i->(∀ t∈acc,qc n (K+i*(L+1)) t)->∃ r:List aj,aN (fun k m=>cp.l0 k m l' (l'.length:Int) (i:Int) acc) r/\dQ n r=G.canon (dQ n (l'.drop i)) (dQ n acc)/\(∀ t∈r,qc n (K+N*(L+1)) t)/\r.length<=M+N) ?_ ?_ 0 (Nat.zero_le _) l Q2 (fun t ht=>(h.ok t ht).mono Q2)
 ·obtain ⟨r,r1,r2,r3,r4⟩:=main
  obtain ⟨c1,c2⟩:=G.nC h.dst h'.dst.len
  rw [List.drop_zero] at r2
  rw [<- r2] at c1 c2
  refine ⟨r,Ev.step (fun k=>nQ k _ _) (iT (by simp only [List.length_nil];omega) r1.diag),r4,r3,c1,fun m=>?_⟩
  rw [c2,G.gS,h.eqv,h'.eqv]
 ·intro acc ha ho
  exact ⟨acc,aN.step (fun k m=>cp.aR k m _ _ _ _) (aN.bF (decide_eq_false Q2) (aN.of (aT _))),by rw [List.drop_length];rfl,fun t ht=>(ho t ht).mono (by have:=hN _ (Nat.le_refl _);omega),Q2⟩
 intro i hi ih acc ha ho
 have e:(cG (t:=af) l' (i:Int):aj)=l'[i]:=cy hi
 obtain ⟨p1,p2,p3⟩:=h'.ok l'[i] (List.getElem_mem hi)
 have hi1:=hN (i+1) hi
 have hsm:(i+1)*(L+1)=i*(L+1)+(L+1):=Nat.succ_mul _ _
 obtain ⟨s,s1,s2,s3,s4⟩:=qz (e:=l'[i].1.take n) (c:=l'[i].2.1) hn Q2 Q2 ho p2 p3.rb.1 p3.rb.2
 rw [<- p1] at s1
 obtain ⟨r,r1,r2,r3⟩:=ih s Q2 (fun t ht=>(s3 t ht).mono Q2)
 refine ⟨r,aN.step (fun k m=>cp.aR k m _ _ _ _) (aN.bT (decide_eq_true Q2) (aN.iT Q2 ?_)),?_,r3⟩
 ·rw [e]
  refine aN.bind s1 ?_
  rw [fN Q2]
  exact r1
 rw [r2,dM hi,s2]
 rfl
theorem qg {l:List aj} {v:bB} {p:Rat} (h:RT n K M q l) (hv:RB RR v p) (hp:Sz RR L p) (hn:n<=8) (hM:M<=100000) (hKL:(M+1)*(K+L+1)<1000000):∃ r,Ev (fun k=>cd k l v) r/\RT n (M*(K+L+1)) M (ox p q) r:=by
 have hm:=h.len
 have hN:∀ i,i<=l.length->i*(K+L+1)<=M*(K+L+1):=fun i hi=>Nat.mul_le_mul_right _ Q2
 have hNs:(M+1)*(K+L+1)=M*(K+L+1)+(K+L+1):=Nat.succ_mul _ _
 have main:=pT (n:=l.length) (P:=fun i=>∀ acc:List aj,acc.length<=i->(∀ t∈acc,qc n (i*(K+L+1)) t)->∃ r:List aj,aN (fun k m=>cd.l0 k m l (l.length:Int) (i:Int) v acc) r/\dQ n r=G.canon (ox p (dQ n (l.drop i))) (dQ n acc)/\(∀ t∈r,qc n (M*(K+L+1)) t)/\r.length<=M) ?_ ?_ 0 (Nat.zero_le _) [] Q3 (fun t ht=>by cases ht)
 ·obtain ⟨r,r1,r2,r3,r4⟩:=main
  obtain ⟨c1,c2⟩:=G.nC (jP.nil n) (Len.ox h.dst.len p)
  rw [List.drop_zero] at r2
  have r2':dQ n r=G.canon (ox p (dQ n l)) []:=r2
  rw [<- r2'] at c1 c2
  refine ⟨r,Ev.step (fun k=>mg k _ _) r1.diag,r4,r3,c1,fun m=>?_⟩
  rw [c2]
  show 0+_=_
  rw [(h.eqv.ox p) m]
  grind
 ·intro acc ha ho
  exact ⟨acc,aN.step (fun k m=>cd.aR k m _ _ _ _ _) (aN.bF (decide_eq_false Q2) (aN.of (aT _))),by rw [List.drop_length];rfl,fun t ht=>(ho t ht).mono (by have:=hN _ (Nat.le_refl _);omega),Q2⟩
 intro i hi ih acc ha ho
 have e:(cG (t:=af) l (i:Int):aj)=l[i]:=cy hi
 obtain ⟨p1,p2,p3⟩:=h.ok l[i] (List.getElem_mem hi)
 have hi1:=hN (i+1) hi
 have hsm:(i+1)*(K+L+1)=i*(K+L+1)+(K+L+1):=Nat.succ_mul _ _
 obtain ⟨w,w1,w2,w3⟩:=vm p3.rb.1 hv p3.rb.2 hp Q2
 obtain ⟨s,s1,s2,s3,s4⟩:=qz (e:=l[i].1.take n) (c:=w) hn Q2 Q2 ho p2 w2 w3
 rw [<- p1] at s1
 obtain ⟨r,r1,r2,r3⟩:=ih s Q2 (fun t ht=>(s3 t ht).mono Q2)
 refine ⟨r,aN.step (fun k m=>cd.aR k m _ _ _ _ _) (aN.bT (decide_eq_true Q2) (aN.iT Q2 ?_)),?_,r3⟩
 ·rw [e]
  refine aN.bind w1 (aN.bind s1 ?_)
  rw [fN Q2]
  exact r1
 rw [r2,dM hi,s2]
 rfl
theorem AY {l l':List aj} (h:RT n K M q l) (h':RT n L N q' l') (hn:n<=8) (hMN:M+N<=100000) {j:Nat} (hj:CB j q') (hL:(N+1)*(L+4)<1000000) (hKL:K+(N+1)*(3*j+2)<1000000):∃ r,Ev (fun k=>iK k l l') r/\RT n (K+N*(3*j+2)) (M+N) (q++G.neg q') r:=by
 obtain ⟨v,v1,v2,v3⟩:=Ds (z:=-1) Q2 Q2
 obtain ⟨s,s1,s2⟩:=qg h' v2 v3 hn Q2 (show (N+1)*(L+3+1)<1000000 by omega)
 have s3:=(s2.to (Nat.le_refl _) (Nat.le_refl _) (EW q')).fit hj.neg
 obtain ⟨r,r1,r2⟩:=tY h s3 hn hMN hKL
 exact ⟨r,Ev.step (fun k=>nO k _ _) (Ev.bind v1 (Ev.bind s1 (Ev.bind r1 (aT _)))),r2⟩
end
section
variable {p:aB}
theorem z8.okT {n a c:Nat} (hs:z8 p a c) (hn:p.1=(n:Int)):∀ u∈p.2.1,ks n c u:=by
 obtain ⟨m,m8,mn,mo⟩:=Ao hs.ok
 obtain rfl:m=n:=Q2
 intro u hu
 obtain ⟨o1,o2,o3⟩:=mo u hu
 obtain ⟨i,hi,rfl⟩:=List.getElem_of_mem hu
 have e:cF p i=p.2.1[i]:=cy hi
 have hsh:=hs.short i hi
 rw [e] at hsh
 exact ⟨o1,o2,_,o3.rb.1,xw aI o3.rb.1 hsh.1 hsh.2⟩
theorem HG {n:Nat} (hv:fO p) (hn:p.1=(n:Int)) {b:Int} (hb:sQ (dW p.2.1)<=b):XB b (dW p.2.1):=fun t ht=>by
 refine ⟨?_,Int.le_trans (G.I7 ht) hb⟩
 obtain ⟨u,hu,rfl⟩:=List.mem_map.1 ht
 obtain ⟨m,m8,mn,mo⟩:=Ao hv
 exact fun x hx=>((mo u hu).2.1 x hx).1
theorem CY {n:Nat} (hv:fO p) (hn:p.1=(n:Int)):XB 40 (dW p.2.1):=fun t ht=>by
 obtain ⟨u,hu,rfl⟩:=List.mem_map.1 ht
 obtain ⟨i,hi,rfl⟩:=List.getElem_of_mem hu
 have g:=(hv.good i hi).1
 rw [show cF p i=p.2.1[i] from cy hi] at g
 exact ⟨fun x hx=>(g.ex x hx).1,by have:=g.sum;rw [rp] at this;exact this⟩
theorem wX (ha:mJ p) {a c:Nat} (hs:z8 p a c) (b:Int):Ev (fun k=>bh k p (a:Int) b (c:Int)) (decide (sQ (dW p.2.1)<=b)):=by
 have hlen:=ha.1
 have hv:=hs.ok
 have h0:=hv.n0
 have h8:=hv.n8
 have hf:=hv.yn
 have ha':=hs.yn
 have hn:p.1=((p.1.toNat:Nat):Int):=Q2
 obtain ⟨r,r1,r2,r3,r4⟩:=Fh ha hv hn
 have hd:=wY r3 Q2 Q2 (by rw [r4];exact CY hv hn) Q2
 rw [r4] at hd
 have hval:=lF ha
 rw [fy hv] at hval
 have main:=pT (n:=p.2.1.length) (P:=fun i=>aN (fun k m=>bh.l0 k m b (c:Int) p.2.1 (p.2.1.length:Int) (i:Int) p) (decide (sQ (dW p.2.1)<=b))) ?_ ?_ 0 (Nat.zero_le _)
 ·exact Ev.step (fun k=>dY k p _ _ _) (Ev.bind (a:=false) (bF (decide_eq_false Q2) (qS Q2)) (Ev.bind (a:=false) (bF rfl (qS Q2)) (bF rfl main.diag)))
 ·exact aN.step (fun k m=>bh.aR k m _ _ _ _ _ _) (aN.bF (decide_eq_false Q2) (aN.of (Ev.bind hval (Ev.bind (bT rfl (Ev.bind r1 (Ev.bind hd (aT _)))) (aT _)))))
 intro i hi ih
 have hsh:Ev (fun k=>cL k (cF p i).2.1 (c:Int)) _:=kf (cF p i).2.1 c
 rw [decide_eq_true (hs.short i hi)] at hsh
 refine aN.step (fun k m=>bh.aR k m _ _ _ _ _ _) (aN.bT (decide_eq_true Q2) (aN.iT Q2 (aN.bind hsh (aN.bF rfl ?_))))
 rw [fN Q2]
 exact ih
end
structure LG (p:aB) (n a c:Nat) (b:Int):Prop where
 n8:n<=8
 eq:p=((n:Int),p.2.1,())
 ok:fO p
 arg:mJ p
 pt:PT n c a (dW p.2.1) p.2.1
 cb:CB (a*(c+1)) (dW p.2.1)
 xb:XB b (dW p.2.1)
theorem cb_few {a c:Nat} {l:List Tm} (hl:l.length<=a) (h:∀ t∈l,Wd c t.2):CB (a*(c+1)) l:=(CB.list h).mono (Nat.mul_le_mul_right _ hl)
theorem xz {p:aB} (ha:mJ p) (a c:Nat) (b:Int):∃ t,Ev (fun k=>bh k p (a:Int) b (c:Int)) t/\(t=true->∃ n,LG p n a c b):=by
 obtain ⟨t,t1,t2⟩:=yW ha a c b
 refine ⟨t,t1,fun h=>?_⟩
 have hs:=t2 h
 have hv:=hs.ok
 have h0:=hv.n0
 have h8:=hv.n8
 have hn:p.1=((p.1.toNat:Nat):Int):=Q2
 have hd:=evu t1 (wX ha hs b)
 rw [h] at hd
 have hd:=of_decide_eq_true hd.symm
 have hok:=hs.okT hn
 have hpt:PT p.1.toNat c a (dW p.2.1) p.2.1:=⟨hs.yn,hok,Gd hv hn,.refl _⟩
 refine ⟨p.1.toNat,Q2,by rw [<- hn],hv,ha,hpt,cb_few (by rw [Kl];exact hs.yn) (fun t ht=>?_),HG hv hn hd⟩
 obtain ⟨u,hu,rfl⟩:=List.mem_map.1 ht
 exact HR (hok u hu).2.2.rb.2
section
variable {p p':aB} {n a c:Nat} {b:Int}
theorem LG.len (h:LG p n a c b):Len n (dW p.2.1):=h.pt.srt.len
theorem LG.rte (h:LG p n a c b):∃ r,Ev (fun k=>bL k p) r/\RT n (3*c+1) a (dW p.2.1) r/\dQ n r=dW p.2.1:=by
 have hn:p.1=(n:Int):=by rw [h.eq]
 obtain ⟨r,r1,r2,r3,r4⟩:=Fh h.arg h.ok hn
 refine ⟨r,r1,⟨by rw [r2];exact h.pt.len,fun u hu=>?_,by rw [r4];exact h.pt.srt.dst,by rw [r4];exact .refl _⟩,r4⟩
 obtain ⟨o1,o2,o3⟩:=r3 u hu
 have hm:=od (n:=n) hu
 rw [r4] at hm
 obtain ⟨w,hw,e⟩:=List.mem_map.1 hm
 have e2:gw w.2.1=ob u.2.1:=congrArg Prod.snd e
 have hz:=(h.pt.ok w hw).2.2.rb.2
 rw [e2] at hz
 exact ⟨o1,o2,_,o3.rb.1,Hw (HR hz)⟩
theorem LG.rt (h:LG p n a c b):∃ r,Ev (fun k=>bL k p) r/\RT n (3*c+1) a (dW p.2.1) r:=let ⟨r,r1,r2,_⟩:=h.rte;⟨r,r1,r2⟩
theorem xn (ha:mJ p) (hb:mJ p'):∃ t,Ev (fun k=>gT k p p') t/\(t=true->∃ n,LG p n 12 2 8/\LG p' n 12 2 8):=by
 obtain ⟨t1,a1,a2⟩:=xz ha 12 2 8
 obtain ⟨t2,b1,b2⟩:=xz hb 12 2 8
 by_cases c:p.1=p'.1
 ·refine ⟨t1&&t2,Ev.step (fun k=>iV k p p') (Ev.bind (a:=t1) (bT (by simp [c]) (Ev.bind a1 (aT _))) (Ev.bind (a:=t1&&t2) ?_ (aT _))),fun h=>?_⟩
  ·cases t1 with
   | true=>exact bT rfl (Ev.bind b1 (aT _))
   | false=>exact bF rfl (aT _)
  rw [Bool.and_eq_true] at h
  obtain ⟨n,hn⟩:=a2 h.1
  obtain ⟨m,hm⟩:=b2 h.2
  have e:n=m:=by
   have h1:p.1=(n:Int):=by rw [hn.eq]
   have h2:p'.1=(m:Int):=by rw [hm.eq]
   omega
  subst e
  exact ⟨n,hn,hm⟩
 exact ⟨false,Ev.step (fun k=>iV k p p') (Ev.bind (a:=false) (bF (by simp [c]) (aT _)) (Ev.bind (a:=false) (bF rfl (aT _)) (aT _))),fun h=>by cases h⟩
theorem GN {v:bB} (ha:Arg v):∃ t,Ev (fun k=>gz k v) t/\(t=true->Vd v/\∃ q,RB WW v q/\Sz WW 2 q):=by
 have h1:=kf v 2
 by_cases c:v.2.1.length<=2/\v.2.2.1.length<=2
 ·rw [decide_eq_true c] at h1
  obtain ⟨t,t1,t2⟩:=ry ha
  refine ⟨t,Ev.step (fun k=>iE k v) (Ev.bind h1 (Ev.bind (bT rfl (Ev.bind t1 (aT _))) (aT _))),fun h=>?_⟩
  obtain ⟨q,q1,q2⟩:=t2.1 h
  exact ⟨t2.1 h,q,q1,xw aI q1 c.1 c.2⟩
 rw [decide_eq_false c] at h1
 exact ⟨false,Ev.step (fun k=>iE k v) (Ev.bind h1 (Ev.bind (a:=false) (bF rfl (aT _)) (aT _))),fun h=>by cases h⟩
end
section
variable {n K L:Nat} {l l':List aj}
theorem zg (hx:∀ u∈l,ks n K u) (hy:∀ u∈l',ks n L u) (hn:n<=8) (hl:l.length<=1000000) (hl':l'.length<=1000000) (hKL:K+L<1000000000):Ev (fun k=>eN k ((n:Int),l,()) ((n:Int),l',())) (dc (l=l')):=by
 have hne:((n:Int) != (n:Int))=false:=Q3
 by_cases c:l.length=l'.length
 ·have main:=pT (n:=l.length) (P:=fun i=>aN (fun k m=>eN.l0 k m l (l.length:Int) (i:Int) ((n:Int),l',())) (dc (l.drop i=l'.drop i))) ?_ ?_ 0 (Nat.zero_le _)
  ·exact Ev.step (fun k=>rO k _ _) (Ev.bind (a:=false) (bF hne (by rw [show ((List.length ((n:Int),l,()).2.1:Int) != (List.length ((n:Int),l',()).2.1:Int))=false by simp [c]];exact aT _)) (bF rfl main.diag))
  ·rw [List.drop_length,c,List.drop_length,fy rfl]
   exact aN.step (fun k m=>eN.aR k m _ _ _ _) (aN.bF (decide_eq_false Q2) (aN.of (aT _)))
  intro i hi ih
  have hi':i<l'.length:=Q2
  have e:(cG (t:=ah) l (i:Int):aj)=l[i]:=cy hi
  have e':(cG (t:=ah) l' (i:Int):aj)=l'[i]:=cy hi'
  have ht:=hx _ (List.getElem_mem hi)
  have hu:=hy _ (List.getElem_mem hi')
  have hlen:l[i].1.length=l'[i].1.length:=ht.1.trans hu.1.symm
  have heq:=zp ht.2.2.rb.1 hu.2.2.rb.1 ht.2.2.rb.2 hu.2.2.rb.2 Q2
  refine aN.step (fun k m=>eN.aR k m _ _ _ _) (aN.bT (decide_eq_true Q2) (aN.iT Q2 (aN.iT (by show 0<=(i:Int)/\(i:Int)<(l'.length:Int);omega) ?_)))
  rw [e,e',dM hi,dM hi']
  by_cases d:l[i].1=l'[i].1
  ·have hc:cQ l[i].1 l'[i].1=0:=by rw [d];exact pU _
   refine aN.bind (zP ht hu hn hc) ?_
   by_cases f:gw l[i].2.1=gw l'[i].2.1
   ·rw [decide_eq_true f] at heq
    have hv:l[i].2.1=l'[i].2.1:=by
     have h1:=ht.2.2.rb.1
     rw [f] at h1
     exact E7 aI h1 hu.2.2.rb.1
    have hti:l[i]=l'[i]:=Prod.ext d (Prod.ext hv rfl)
    refine aN.bind (a:=false) (bF rfl (iT (by show 0<=(i:Int)/\(i:Int)<(l'.length:Int);omega) (Ev.bind heq (aT _)))) (aN.bF rfl ?_)
    rw [fN Q2,Cx (show (l[i] :: l.drop (i+1)=l'[i] :: l'.drop (i+1))↔(l.drop (i+1)=l'.drop (i+1)) from ⟨fun h=>(List.cons.inj h).2,fun h=>by rw [hti,h]⟩)]
    exact ih
   rw [decide_eq_false f] at heq
   rw [dN (fun h=>f (by rw [List.cons.injEq] at h;rw [h.1]))]
   exact aN.bind (a:=true) (bF rfl (iT (by show 0<=(i:Int)/\(i:Int)<(l'.length:Int);omega) (Ev.bind heq (aT _)))) (aN.bT rfl (aN.of (aT _)))
  rw [dN (fun h=>d (by rw [List.cons.injEq] at h;rw [h.1]))]
  have hc:=uS hlen d
  exact aN.bind (zP ht hu hn rfl) (aN.bind (a:=true) (bT (by rw [bne_iff_ne];exact hc) (aT _)) (aN.bT rfl (aN.of (aT _))))
 rw [dN (fun h=>c (by rw [h]))]
 exact Ev.step (fun k=>rO k _ _) (Ev.bind (a:=true) (bF hne (by rw [show ((List.length ((n:Int),l,()).2.1:Int) != (List.length ((n:Int),l',()).2.1:Int))=true by simp;omega];exact aT _)) (bT rfl (aT _)))
end
theorem zx {p p':aB} {v:bB} (ha:mJ p) (hb:mJ p') (hv:Arg v):Ev (fun k=>iW k p p' v) true:=by
 refine Ev.step (fun k=>kI k p p' v) (Ev.bind Hl (bF rfl ?_))
 obtain ⟨t,t1,t2⟩:=xn ha hb
 refine Ev.bind t1 ?_
 cases t with
 | false=>exact Ev.bind (a:=true) (bT rfl (aT _)) (bT rfl (aT _))
 | true =>
 obtain ⟨n,hp,hq⟩:=t2 rfl
 obtain ⟨s,s1,s2⟩:=GN hv
 cases s with
 | false=>exact Ev.bind (a:=true) (bF rfl (Ev.bind s1 (aT _))) (bT rfl (aT _))
 | true =>
 refine Ev.bind (a:=false) (bF rfl (Ev.bind s1 (aT _))) (bF rfl ?_)
 obtain ⟨hvd,c,c1,c2⟩:=s2 rfl
 obtain ⟨x,x1,x2⟩:=hp.rt
 obtain ⟨y,y1,y2⟩:=hq.rt
 obtain ⟨d,d1,d2,d3⟩:=xL c1 c2 Q2
 have hpe:=hp.eq
 have hqe:=hq.eq
 have hn:=hp.n8
 have hpa:=KI hp.arg hq.arg hp.ok hq.ok (by rw [hpe,hqe])
 generalize hl:p.2.1=l at *
 generalize hl':p'.2.1=l' at *
 have P1:=hp.pt
 have P2:=hq.pt
 rw [hl] at P1
 rw [hl'] at P2
 have B1:=hp.cb
 have B2:=hq.cb
 have X1:=hp.xb
 have X2:=hq.xb
 have L1:=hp.len
 have L2:=hq.len
 have hvp:=jL ha
 rw [fy hp.ok] at hvp
 rw [hl] at B1 X1 L1
 rw [hl'] at B2 X2 L2
 obtain ⟨a,a1,a2⟩:=I1 P1 P2 hn Q2 Q2
 have a3:=nc a2 hn Q2 ((B1.append B2).mono Q2) ((X1.append X2).mono Q2)
 obtain ⟨b,b1,b2⟩:=DH P1 P2 hn Q2 Q2
 have b3:=nc b2 hn Q2 ((B1.append B2.neg).mono Q2) ((X1.append X2.neg).mono Q2)
 obtain ⟨m,m1,m2⟩:=DC P1 P2 X1 X2 L1 L2 hn Q2 Q2 Q2 Q2 Q2 (B1.prod B2) Q2
 obtain ⟨e,e1,e2⟩:=rM P1 c1 c2 Q2 Q2
 have e3:=nc e2 hn Q2 ((B1.ox (HR c2)).mono Q2) ((X1.ox c).mono Q2)
 have f1:=zg P1.ok P2.ok hn (Nat.le_trans P1.len Q2) (Nat.le_trans P2.len Q2) Q2
 obtain ⟨ra,ra1,ra2⟩:=tY x2 y2 hn Q2 Q2
 obtain ⟨rb,rb1,rb2⟩:=AY x2 y2 hn Q2 B2 Q2 Q2
 obtain ⟨rm,rm1,rm2⟩:=A9 x2 y2 X1 X2 Q2 Q2 Q2 Q2 hn Q2 Q2 Q2 (B1.prod B2)
 obtain ⟨re,re1,re2⟩:=qg x2 d2 d3 hn Q2 Q2
 have i1:=a2.is ra2 (.refl _) hn Q2 Q2 Q2 Q2
 have i2:=b2.is rb2 (.refl _) hn Q2 Q2 Q2 Q2
 have i3:=m2.is rm2 (.refl _) hn Q2 Q2 Q2 Q2
 have i4:=e2.is re2 (.refl _) hn Q2 Q2 Q2 Q2
 have i5:=rz (b:=((n:Int),l',())) (P1.yn hn Q2 Q2)
 rw [Cx (show (((n:Int),l,()):aB).1=(((n:Int),l',()):aB).1/\(((n:Int),l,()):aB).2.1=(((n:Int),l',()):aB).2.1↔l=l' from ⟨fun h=>h.2,fun h=>⟨rfl,h⟩⟩)] at i5
 clear hl hl'
 subst hpe
 subst hqe
 refine Ev.bind x1 (Ev.bind y1 (Ev.bind (Ev.step (fun k=>Bv k _ _) (Ev.bind hpa (bF rfl (Ev.bind a1 (Ev.bind a3 (aT _)))))) (Ev.bind (Ev.step (fun k=>Br k _ _) (Ev.bind hpa (bF rfl (Ev.bind b1 (Ev.bind b3 (aT _)))))) (Ev.bind (Ev.step (fun k=>Bt k _ _) (Ev.bind hpa (bF rfl (Ev.bind m1 (aT _))))) (Ev.bind (Ev.step (fun k=>xf k _ _) (Ev.bind hvp (Ev.bind (a:=false) (bF rfl (Ev.bind (y7 hv hvd) (aT _))) (bF rfl (Ev.bind e1 (Ev.bind e3 (aT _))))))) (Ev.bind (Ev.step (fun k=>xg k _ _) (Ev.bind hpa (bF rfl (Ev.bind f1 (aT _))))) ?_))))))
 refine Ev.bind (a:=false) (bF rfl (aT _)) (Ev.bind (a:=false) (bF rfl (aT _)) (Ev.bind (a:=false) (bF rfl (aT _)) (Ev.bind (a:=false) (bF rfl (aT _)) (bF rfl ?_))))
 refine Ev.bind ra1 (Ev.bind i1 (Ev.bind (bT rfl (Ev.bind rb1 (Ev.bind i2 (aT _)))) (Ev.bind (bT rfl (Ev.bind rm1 (Ev.bind i3 (aT _)))) (Ev.bind (bT rfl (Ev.bind d1 (Ev.bind re1 (Ev.bind i4 (aT _))))) (Ev.bind (a:=true) (bT rfl (Ev.bind i5 ?_)) (aT _))))))
 rw [beq_self_eq_true]
 exact aT _
end Go.Proofs.YtfbgaddecbiimaaGreatDoor.Q
end
section
namespace Go.Proofs.YtfbgaddecbiimaaGreatDoor.polyRing
open Go.ChangeShapes Go.WideShapes Go.ChangeAt Go.RowKit
open Go.ChangeMaps (open_string shut_string)
open Go.Proofs.YtfbgaddecbiimaaGreatDoor.V Go.Proofs.YtfbgaddecbiimaaGreatDoor.E
theorem own:ownKnob Tryz.prog.godebug=none:=by kernel_rfl
theorem laidOut:laidOutB Tryz.prog=true:=by kernel_rfl
def CX:DataW Unit->Array Value
 | .agg l=>(l.map fun d=>match d with
  | .lit (.int k n)=>Value.int k n
  | _=>undef).toArray
 | _=>#[]
noncomputable def yf (os:Os):World :=
 let w0:=World.holding Tryz.prog os ⟨#[],#[],[]⟩
 { w0 with heap:=((w0.heap.modify 2 fun
  | .cells _ t frozen=>.cells (CX Rows.laid_math_bits_deBruijn32tab) t frozen
  | o=>o).modify 3 fun
  | .cells _ t frozen=>.cells (CX Rows.laid_math_bits_deBruijn64tab) t frozen
  | o=>o).modify 0 fun
  | .cells _ t frozen=>.cells (CX Rows.laid_internal_strconv_uint64pow10) t frozen
  | o=>o }
theorem I8 (os:Os) (args:Array Value):laidMet Tryz.prog Rows.polyRingRow.laid ((yf os).forCall (fun _ _=>0) ⟨#[],args,[]⟩).memory :=
 laidMet_of_run' 8 (by kernel_rfl) (by kernel_rfl)
theorem lifted (os:Os) (started:os.Started) (H:Type) (enc:TypeId×Value->H) :
 ReturnsInHanded {} Tryz.checked os 8 .any (fun w args=>(Rows.polyRingSpec.pre enc Tryz.prog Tryz.f8 Rows.polyRingRow.domain false w args/\laidMet Tryz.prog Rows.polyRingRow.laid w)/\sizedMet enc Tryz.prog Tryz.f8 (OpenSpec.ofChange Rows.polyRingSpec) false w args)
  (Rows.polyRingSpec.post enc Tryz.prog Tryz.f8 false true false false):=by
 refine returnsInHanded_of_change_and (C:=Tryz.checked) (X:=fun w _=>laidMet Tryz.prog Rows.polyRingRow.laid w) (fun _ _ _ hh h=>h.of_heap hh) own started (by kernel_rfl) Tryz.func8
  (ChangeSpec.witness_at (enc:=enc) (C:=Tryz.checked) (os:=os) (X:=fun w _=>laidMet Tryz.prog Rows.polyRingRow.laid w) false (yf os) #[.agg #[.int .i64 0,.slice none 0 0],.agg #[.int .i64 0,.slice none 0 0],.agg #[.bool false,.slice none 0 0,.slice none 0 0]] 8 rfl (by kernel_rfl) (by kernel_rfl) (by kernel_rfl) (by kernel_rfl) (by kernel_rfl) (I8 os _)) ?_
 intro W base args ds gs before hval0 hW _ hsz0 hL _
 have hval:∀ (j:Nat) t v,Tryz.f8.params[j]?=some t->args[j]?=some v->Value.okWide Tryz.prog W .any base t v:=hval0
 have hW':=hW
 obtain ⟨p,q,hA0,hV,rfl,hfz,hnd⟩:=hW
 have hA:DataW.TrodAll enc Tryz.prog W 0 (fun _=>true) true Tryz.f8.params.toList args.toList ds p:=hA0
 rw [Tryz.params8] at hA hval
 obtain ⟨v0,vs0,d0,ds0,p0,q0,hargs,rfl,rfl,h0,r0⟩:=trodAll_cons hA
 obtain ⟨v1,vs1,d1,ds1,p1,q1,rfl,rfl,rfl,h1,r1⟩:=trodAll_cons r0
 obtain ⟨v2,vs2,d2,ds2,p2,q2,rfl,rfl,rfl,h2,r2⟩:=trodAll_cons r1
 obtain ⟨rfl,rfl,rfl⟩:=trodAll_nil r2
 obtain rfl:args = #[v0,v1,v2]:=by cases args;simp_all
 obtain ⟨rfl,rfl⟩:=trodVars_none hV
 have k0:=h0
 have lt0:∀ x∈p0,x.block<W.heap.size:=by obtain ⟨m,hm⟩:=k0;exact DataW.trod_lt m _ _ _ hm
 obtain ⟨y0,f0,g0⟩:=zX Q.yF (n:=16) (t:=24) (c:=ai) (by kernel_rfl) (by kernel_rfl) (hval 0 24 v0 rfl rfl) h0
 have k1:=h1
 have lt1:∀ x∈p1,x.block<W.heap.size:=by obtain ⟨m,hm⟩:=k1;exact DataW.trod_lt m _ _ _ hm
 obtain ⟨y1,f1,g1⟩:=zX Q.yF (n:=16) (t:=24) (c:=ai) (by kernel_rfl) (by kernel_rfl) (hval 1 24 v1 rfl rfl) h1
 have k2:=h2
 have lt2:∀ x∈p2,x.block<W.heap.size:=by obtain ⟨m,hm⟩:=k2;exact DataW.trod_lt m _ _ _ hm
 obtain ⟨y2,f2,g2⟩:=zX Q.yF (n:=16) (t:=61) (c:=aq) (by kernel_rfl) (by kernel_rfl) (hval 2 61 v2 rfl rfl) h2
 clear hA0 hval0 hsz0
 obtain ⟨k,hk⟩:=(Q.zx (Q.CM f0) (Q.CM f1) (Q.F1 f2)).rounds
 obtain ⟨_,pv,hp,hF⟩:=(Co Q.yF orc_ok Q.mixed Q.noGo k).fn 8 [.v ai y0,.v ai y1,.v aq y2] true rfl hk
 obtain rfl:=Option.some.inj hp
 refine (hF (fun b=>b<W.heap.size) W #[v0,v1,v2] (fun b h=>h) rfl (fun i h=>?_)).mono fun e W' ⟨v,he,bel,hv⟩=>?_
 ·match i,h with
  | 0,h=>exact g0
  | 1,h=>exact g1
  | 2,h=>exact g2
  | i+3,h=>exact absurd h (by simp only [List.length_map,List.length_cons,List.length_nil];omega)
 have hb:=gM hv
 subst hb
 subst he
 exact ⟨_,rfl,_,_,_,[],_,[],hW',trodAll_mk1 (shut_bool Tryz.underlying4 _),(trodAll_cons_mk (Below.trod laidOut (by kernel_rfl) (of_decide_eq_true (by kernel_rfl)) k0 bel lt0) (trodAll_cons_mk (Below.trod laidOut (by kernel_rfl) (of_decide_eq_true (by kernel_rfl)) k1 bel lt1) (trodAll_cons_mk (Below.trod laidOut (by kernel_rfl) (of_decide_eq_true (by kernel_rfl)) k2 bel lt2) trodAll_mk0))),rfl,bel.frame _,fun h=>by cases h⟩
theorem over:Rows.polyRingRow.holds Tryz.pinned (OpenSpec.ofChange Rows.polyRingSpec) :=
 OpenClaim.holds_of_wide 8 Tryz.f8 rfl rfl rfl rfl rfl rfl rfl ⟨rfl,rfl,rfl,rfl,rfl⟩ rfl rfl rfl rfl rfl (by kernel_rfl) Tryz.func8 (by kernel_rfl)
  (of_decide_eq_true (by kernel_rfl)) (by unfold Func.isWrapper;first | (rw [if_pos (by decide +kernel)];kernel_rfl) | (rw [if_neg (by decide +kernel)];exact ⟨rfl,rfl⟩))
  (fun os started H enc _=>lifted os started H enc)
theorem proved:Rows.PolyRingCardSaid :=
 Claim7.holds_tied_plain_at .later [] [.data,.data,.data] true (true,"7c1c4094e72754773423f799c4afd1ed3b246fc2b5dc0deefca3ede80156512f") false
  over (fun _ h=>by cases h) (by kernel_rfl) (fun _ h=>by cases h) polyRing_row_tie rfl ⟨rfl,rfl⟩ (by kernel_rfl) rfl
  (fun f fn hf hfn=>by
   obtain rfl:f=8:=Option.some.inj ((show Tryz.prog.funcNamed "isochrone/isochronelaw03.PolyRing" = some 8 by kernel_rfl).symm.trans hf) |>.symm
   obtain rfl:fn=Tryz.f8:=(Option.some.inj (Tryz.func8.symm.trans hfn)).symm
   exact ⟨by kernel_rfl,fun j t ht=>by
    rw [Tryz.params8] at ht
    have ht2:t=24∨t=61:=by
     match j,ht with
     | 0,ht=>simp at ht;subst ht;simp
     | 1,ht=>simp at ht;subst ht;simp
     | 2,ht=>simp at ht;subst ht;simp
     | j+3,ht=>simp at ht
    rcases ht2 with rfl | rfl
    ·exact (show Tryz.prog.wantsStandIn 24=false by kernel_rfl)
    exact (show Tryz.prog.wantsStandIn 61=false by kernel_rfl)⟩)
  (by kernel_rfl)
#print axioms proved
end Go.Proofs.YtfbgaddecbiimaaGreatDoor.polyRing
namespace Go.Proofs.YtfbgaddecbiimaaGreatDoor
theorem polyRing_holds:Rows.PolyRingCardSaid:=polyRing.proved
end Go.Proofs.YtfbgaddecbiimaaGreatDoor
end
