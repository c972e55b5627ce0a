/- Subst replaces a variable everywhere at once (the last of 6 texts). No condition beyond the statement's own. -/
import Derived.Test.YtfbgaddecbiimaaGreatDoorPSubsts5
set_option linter.unusedSimpArgs false
set_option linter.unusedSectionVars false
set_option linter.unusedVariables false
set_option maxRecDepth 100000
set_option maxHeartbeats 4000000
section
namespace Go.Proofs.YtfbgaddecbiimaaGreatDoor.Q
open Go.RowKit Go.Proofs.YtfbgaddecbiimaaGreatDoorW.PrintWords Go.Proofs.YtfbgaddecbiimaaGreatDoorW.PrintMore Go.Proofs.YtfbgaddecbiimaaGreatDoor.V Go.Proofs.YtfbgaddecbiimaaGreatDoor.E
open Go.Proofs.YtfbgaddecbiimaaGreatDoor.P (Dg Nm vl WW RR bu gI aX jq jY dD aH bw aW cy u64)
theorem IL {x:List Int} (h:x.length<=8) {j:Nat} (hj:j<x.length):(dW (x.take j)).set j x[j]=dW (x.take (j+1)):=by
 have e1:(x.take j).length=j:=by rw [List.length_take];omega
 have e2:(x.take (j+1)).length=j+1:=by rw [List.length_take];omega
 rw [dW,dW,cN _ _ _ Q2,cN _ _ _ Q2,e1,e2,List.take_succ_eq_append_getElem hj]
 obtain ⟨d,hd⟩:∃ d,8-j=d+1:=⟨8-j-1,Q2⟩
 rw [hd,show 8-(j+1)=d by omega,List.replicate_succ,List.set_append_right _ _ Q2,e1,Nat.sub_self,List.append_assoc]
 rfl
noncomputable def Cf (p:aA) (i:Nat):List Int:=match i with
 | 0=>List.replicate 8 (0:Int)
 | i+1=>dW (cK p i).1
theorem mT (v:bJ) (N:Nat):Ev (fun k=>dw k v (N:Int)) (decide (v.2.1.length<=N/\v.2.2.1.length<=N)):=zg v N
section
variable {p:aA} {i:Nat}
theorem Gz (ha:mI p) (h8:p.1<=8) (hi:i<p.2.1.length) (hp:0<i->((cK p (i-1)).1.length:Int)=p.1) {r:Bool} (hr:rp p i->aL (fun k m=>aT.l0 k m p.2.1 (p.2.1.length:Int) ((i+1:Nat):Int) p (Cf p (i+1))) r) (hf:¬ rp p i->r=false) :
 aL (fun k m=>aT.l0 k m p.2.1 (p.2.1.length:Int) (i:Int) p (Cf p i)) r:=by
 have u:=ha.1
 have d:=yO ha hi
 refine aL.step (fun k m=>aT.aM k m _ _ _ _ _) (aL.bT (decide_eq_true Q2) (aL.iT Q2 ?_))
 by_cases c1:((cK p i).1.length:Int)=p.1
 ·have b1:((List.length (cK p i).1:Int) != p.1)=false:=by simp [c1]
  have b:Ev (fun k=>dw k (cK p i).2.1 (200:Int)) _:=mT (cK p i).2.1 200
  by_cases c2:(cK p i).2.1.2.1.length<=200/\(cK p i).2.1.2.2.1.length<=200
  ·rw [decide_eq_true c2] at b
   have hv:=ze d.2
   by_cases c3:Vd (cK p i).2.1
   ·rw [fD c3] at hv
    have o:VN 200 (cK p i).2.1:=(Ay Q2 d.2).2 ⟨c2,c3⟩
    by_cases c4:(cK p i).2.1.2.1.length=0
    ·rw [hf (fun h=>h.1.ne c4)]
     exact aL.bind (a:=false) (bF b1 (Ev.bind b (aX _))) (aL.bind (a:=false) (bF rfl (Ev.bind hv (aX _))) (aL.bind (a:=true) (bF rfl (by rw [show ((List.length (cK p i).2.1.2.1:Int)==(0:Int))=true by simp [c4]];exact aX _)) (aL.bT rfl (aL.of (aX _)))))
    have q:((List.length (cK p i).2.1.2.1:Int)==(0:Int))=false:=by simp;intro h;exact c4 (by rw [h];rfl)
    refine aL.bind (a:=false) (bF b1 (Ev.bind b (aX _))) (aL.bind (a:=false) (bF rfl (Ev.bind hv (aX _))) (aL.bind (a:=false) (bF rfl (by rw [q];exact aX _)) (aL.bF rfl ?_)))
    have f:(cK p i).1.length<=8:=Q2
    have key:=nL (n:=(cK p i).1.length) (P:=fun j=>(∀ j' (h:j'<(cK p i).1.length),j'<j->0<=(cK p i).1[j']/\(cK p i).1[j']<=40)->eS (fun k m1 m0=>aT.l1 k m1 m0 (i:Int) p.2.1 (p.2.1.length:Int) (i:Int) (cK p i).1 ((cK p i).1.length:Int) (j:Int) p (Cf p i) (dW ((cK p i).1.take j))) r) ?_ ?_ 0 (Nat.zero_le _) (fun j' _ h=>Q2)
    ·exact key.diag
    ·intro hg
     have e:∀ x∈(cK p i).1,0<=x/\x<=40:=fun x hx=>by
      obtain ⟨j',h1,rfl⟩:=List.getElem_of_mem hx
      exact hg j' h1 h1
     rw [List.take_length]
     have s:∀ x∈dW (cK p i).1,0<=x/\x<=1000000:=fun x hx=>by
      rw [dW,cN _ _ _ f,List.mem_append,List.mem_replicate] at hx
      rcases hx with hx | hx
      ·have:=e x hx;omega
      omega
     have ht:=mS (dW (cK p i).1) (eA _ _ _) s
     rw [Ip f] at ht
     refine eS.step (fun k m1 m0=>aT.eH k m1 m0 _ _ _ _ _ _ _ _ _ _) (eS.bF (decide_eq_false Q2) (eS.bind ht (eS.of ?_)))
     by_cases d1:sE (cK p i).1>40
     ·rw [hf (fun h=>by have:=h.1.sum;omega)]
      exact aL.bind (a:=true) (bT (decide_eq_true d1) (aX _)) (aL.bT rfl (aL.of (aX _)))
     have h2:Ev (fun k=>(bif decide ((i:Int)>(0:Int)) then (bK k (Cf p i) (dW (cK p i).1)).bind fun (v10:Bool)=>some (!v10) else some false)) (dc (¬ (0<i->cZ (cK p (i-1)).1 (cK p i).1>0))):=by
      cases i with
      | zero =>
       rw [eC (fun h=>h (fun h'=>absurd h' Q2))]
       exact bF (decide_eq_false Q2) (aX _)
      | succ i0 =>
       have l:=hp Q2
       rw [Nat.add_sub_cancel] at l ⊢
       have g:=qm (dW (cK p i0).1) (dW (cK p (i0+1)).1) (eA _ _ _) (eA _ _ _)
       rw [CM Q2 Q2] at g
       have:(!decide (cZ (cK p i0).1 (cK p (i0+1)).1>0))=dc (¬ (0<i0+1->cZ (cK p i0).1 (cK p (i0+1)).1>0)):=CH (by
        rw [Bool.not_eq_true',decide_eq_false_iff_not]
        exact ⟨fun h h'=>h (h' Q2),fun h h'=>h (fun _=>h')⟩)
       rw [<- this]
       exact bT (decide_eq_true Q2) (Ev.bind g (aX _))
     by_cases d2:(0<i->cZ (cK p (i-1)).1 (cK p i).1>0)
     ·rw [eC (fun h=>h d2)] at h2
      refine aL.bind (a:=false) (bF (decide_eq_false d1) (Ev.bind h2 (aX _))) (aL.bF rfl ?_)
      rw [fz Q2]
      exact hr ⟨⟨c1,e,Q2,o,c4⟩,d2⟩
     rw [fD d2] at h2
     rw [hf (fun h=>d2 h.2)]
     exact aL.bind (a:=true) (bF (decide_eq_false d1) (Ev.bind h2 (aX _))) (aL.bT rfl (aL.of (aX _)))
    intro j hj ih hg
    have e1:(cE (t:=(.int .i64)) (cK p i).1 (j:Int):Int)=(cK p i).1[j]:=cA hj
    refine eS.step (fun k m1 m0=>aT.eH k m1 m0 _ _ _ _ _ _ _ _ _ _) (eS.bT (decide_eq_true Q2) (eS.iT Q2 ?_))
    rw [e1]
    by_cases g1:0<=(cK p i).1[j]/\(cK p i).1[j]<=40
    ·refine eS.bind (a:=false) (bF (decide_eq_false (show ¬ (cK p i).1[j]<0 by omega)) (pj (show ¬ (cK p i).1[j]>40 by omega))) (eS.bF rfl (eS.iT Q2 ?_))
     rw [yV (eA _ _ _) Q2,IL f hj,fz Q2]
     exact ih (fun j' h1 h2=>by
      by_cases c:j'=j
      ·subst c;exact g1
      exact hg j' h1 Q2)
    rw [hf (fun h=>g1 (h.1.ex _ (List.getElem_mem hj)))]
    refine eS.bind (a:=true) ?_ (eS.bT rfl (eS.of (aL.of (aX _))))
    by_cases g2:(cK p i).1[j]<0
    ·exact bT (decide_eq_true g2) (aX _)
    exact bF (decide_eq_false g2) (wL (show (cK p i).1[j]>40 by omega))
   rw [eC c3] at hv
   rw [hf (fun h=>c3 ((Ay Q2 d.2).1 h.1.co).2)]
   exact aL.bind (a:=false) (bF b1 (Ev.bind b (aX _))) (aL.bind (a:=true) (bF rfl (Ev.bind hv (aX _))) (aL.bind (a:=true) (bT rfl (aX _)) (aL.bT rfl (aL.of (aX _)))))
  rw [decide_eq_false c2] at b
  rw [hf (fun h=>c2 (HI h.1.co))]
  exact aL.bind (a:=true) (bF b1 (Ev.bind b (aX _))) (aL.bind (a:=true) (bT rfl (aX _)) (aL.bind (a:=true) (bT rfl (aX _)) (aL.bT rfl (aL.of (aX _)))))
 have b1:((List.length (cK p i).1:Int) != p.1)=true:=by simp [c1]
 rw [hf (fun h=>c1 h.1.len)]
 exact aL.bind (a:=true) (bT b1 (aX _)) (aL.bind (a:=true) (bT rfl (aX _)) (aL.bind (a:=true) (bT rfl (aX _)) (aL.bT rfl (aL.of (aX _)))))
theorem lH (ha:mI p):Ev (fun k=>aT k p) (dc (fE p)):=by
 have d:=ha.1
 by_cases c0:p.1<0
 ·rw [eC (fun h=>by have:=h.n0;omega)]
  exact Ev.step (fun k=>fg k p) (Ev.bind (a:=true) (bT (decide_eq_true c0) (aX _)) (Ev.bind (a:=true) (bT rfl (aX _)) (bT rfl (aX _))))
 by_cases c8:p.1>8
 ·rw [eC (fun h=>by have:=h.n8;omega)]
  exact Ev.step (fun k=>fg k p) (Ev.bind (a:=true) (bF (decide_eq_false c0) (wL c8)) (Ev.bind (a:=true) (bT rfl (aX _)) (bT rfl (aX _))))
 by_cases c4:p.2.1.length>4000
 ·rw [eC (fun h=>by have:=h.xm;omega)]
  exact Ev.step (fun k=>fg k p) (Ev.bind (a:=false) (bF (decide_eq_false c0) (pj c8)) (Ev.bind (a:=true) (bF rfl (wL Q2)) (bT rfl (aX _))))
 refine Ev.step (fun k=>fg k p) (Ev.bind (a:=false) (bF (decide_eq_false c0) (pj c8)) (Ev.bind (a:=false) (bF rfl (pj Q2)) (bF rfl (aL.diag (g:=fun k m=>aT.l0 k m p.2.1 (p.2.1.length:Int) (0:Int) p (List.replicate 8 (0:Int))) ?_))))
 have b:=nL (n:=p.2.1.length) (P:=fun i=>(∀ j,j<i->rp p j)->aL (fun k m=>aT.l0 k m p.2.1 (p.2.1.length:Int) (i:Int) p (Cf p i)) (dc (fE p))) ?_ ?_ 0 (Nat.zero_le _) (fun j h=>Q2)
 ·exact b
 ·intro hg
  rw [fD ⟨Q2,Q2,Q2,hg⟩]
  exact aL.step (fun k m=>aT.aM k m _ _ _ _ _) (aL.bF (decide_eq_false Q2) (aL.of (aX _)))
 intro i hi ih hg
 refine Gz ha Q2 hi (fun h0=>(hg (i-1) Q2).1.len) (fun h=>ih (fun j hj=>?_)) (fun h=>eC (fun hv=>h (hv.good i hi)))
 by_cases c:j=i
 ·rw [c];exact h
 exact hg j Q2
end
end Go.Proofs.YtfbgaddecbiimaaGreatDoor.Q
end
section
namespace Go.Proofs.YtfbgaddecbiimaaGreatDoor.Q
open Go.RowKit Go.Proofs.YtfbgaddecbiimaaGreatDoor.V Go.Proofs.YtfbgaddecbiimaaGreatDoor.E
theorem Hq (k:Nat):gR (k+60)=some true:=by
 kernel_rfl
open Go.Proofs.YtfbgaddecbiimaaGreatDoorW.PrintWords Go.Proofs.YtfbgaddecbiimaaGreatDoorW.PrintMore
open Go.Proofs.YtfbgaddecbiimaaGreatDoor.P (Dg Nm vl WW RR bu gI aX jq jY dD aH bw aW cy u64)
theorem Hr:Ev (fun k=>gR k) true:=⟨60,fun k hk=>by
 obtain ⟨j,rfl⟩:∃ j,k=j+60:=⟨k-60,Q2⟩
 exact Hq j⟩
abbrev none3:aA:=((0:Int),[],())
theorem I5:Ev (fun k=>il k none3) true:=Ev.step (fun k=>mZ k _) (Ev.bind (a:=true) (bT rfl (aX _)) (aX _))
abbrev three:bJ:=(false,[3],[1],())
theorem CY {y:aA} (h:xz ai y):mI y:=by
 obtain ⟨_,⟨h1,h2⟩,_⟩:=h
 exact ⟨h1,fun t ht=>⟨(h2 t ht).1.1,LH (h2 t ht).2.1⟩⟩
theorem LA {x:List Int} (h:x.length<=8):j6 (List.replicate 8 (0:Int)) x=dW x:=by
 rw [dW,cN _ _ _ h]
 simp only [j6,List.length_replicate,Nat.min_eq_left h,List.take_length,List.drop_replicate]
def RelT (t u:ah):Prop:=u.1=dW t.1/\∃ q,RB WW t.2.1 q/\RB RR u.2.1 q/\Sz WW 200 q/\Sz RR 800 q
section
variable {p:aA}
theorem Fe (ha:mI p) (hv:fE p):∃ r:List ah,Ev (fun k=>bL k p) r/\r.length=p.2.1.length/\∀ i (h:i<r.length),RelT (cK p i) r[i]:=by
 have b:=hv.xm
 have a:=nL (n:=p.2.1.length) (P:=fun i=>∀ acc:List ah,acc.length=i->∃ r:List ah,r.length=p.2.1.length-i/\(∀ j (h:j<r.length),RelT (cK p (i+j)) r[j])/\aL (fun k m=>bL.l0 k m p.2.1 (p.2.1.length:Int) (i:Int) acc) (acc++r)) ?_ ?_ 0 (Nat.zero_le _) [] rfl
 ·obtain ⟨r,h1,h2,h3⟩:=a
  refine ⟨r,Ev.step (fun k=>o6 k p) h3.diag,Q2,fun i h=>?_⟩
  have:=h2 i h
  rwa [Nat.zero_add] at this
 ·intro acc hacc
  exact ⟨[],Q3,fun j h=>by simp at h,aL.step (fun k m=>bL.aM k m _ _ _ _) (aL.bF (decide_eq_false Q2) (by rw [List.append_nil];exact aL.of (aX _)))⟩
 intro i hi ih acc hacc
 obtain ⟨⟨c1,c2,c3,c4,c5⟩,_⟩:=hv.good i hi
 have h8:(cK p i).1.length<=8:=by have:=hv.n8;omega
 obtain ⟨q,q1,q2⟩:=c4
 obtain ⟨v,v1,v2,v3⟩:=GC q1 q2 Q2
 obtain ⟨r,r1,r2,r3⟩:=ih (acc++[(dW (cK p i).1,v,())]) (by simp [hacc])
 refine ⟨(dW (cK p i).1,v,()) :: r,by simp only [List.length_cons];omega,fun j h=>?_,?_⟩
 ·cases j with
  | zero=>exact ⟨rfl,q,q1,v2,q2,v3⟩
  | succ j =>
   have:=r2 j (by simpa using h)
   rw [show i+1+j=i+(j+1) by omega] at this
   exact this
 refine aL.step (fun k m=>bL.aM k m _ _ _ _) (aL.bT (decide_eq_true Q2) (aL.iT Q2 (aL.iT Q3 (aL.bind v1 (aL.iT ?_ ?_)))))
 ·simp only [List.length_cons,List.length_nil];omega
 rw [show j6 (List.replicate 8 (0:Int)) (cE (t:=aj) p.2.1 (i:Int):ah).1=dW (cK p i).1 from LA h8,fz Q2]
 rw [show acc++(dW (cK p i).1,v,()) :: r=(acc++[(dW (cK p i).1,v,())])++r by simp]
 exact r3
theorem vE {r:List ah} (hl:r.length<=9223372036854775807) (h:∀ i (h:i<r.length),r[i].1.length=8/\∀ x∈r[i].1,0<=x/\x<=1000000):∃ d,Ev (fun k=>bA k r) d:=by
 have a:=nL (n:=r.length) (P:=fun i=>∀ x:Int,∃ d,aL (fun k m=>bA.l0 k m x r (r.length:Int) (i:Int)) d) ?_ ?_ 0 (Nat.zero_le _) (-1)
 ·obtain ⟨d,hd⟩:=a
  exact ⟨d,Ev.step (fun k=>iF k r) hd.diag⟩
 ·exact fun x=>⟨x,aL.step (fun k m=>bA.aM k m _ _ _ _) (aL.bF (decide_eq_false Q2) (aL.of (aX _)))⟩
 intro i hi ih x
 obtain ⟨d,hd⟩:=ih (mx x (sE r[i].1))
 have e:(cE (t:=af) r (i:Int):ah)=r[i]:=cA hi
 refine ⟨d,aL.step (fun k m=>bA.aM k m _ _ _ _) (aL.bT (decide_eq_true Q2) (aL.iT Q2 ?_))⟩
 rw [e]
 refine aL.bind (mS _ (h i hi).1 (h i hi).2) ?_
 rw [fz Q2]
 exact hd
theorem GM {x:List Int} (h8:x.length<=8) (h:∀ y∈x,0<=y/\y<=40):∀ y∈dW x,0<=y/\y<=1000000:=fun y hy=>by
 rw [dW,cN _ _ _ h8,List.mem_append,List.mem_replicate] at hy
 rcases hy with hy | hy
 ·have:=h y hy;omega
 omega
structure Am (p:aA) (a c:Nat):Prop where
 ok:fE p
 xm:p.2.1.length<=a
 short:∀ i,i<p.2.1.length->(cK p i).2.1.2.1.length<=c/\(cK p i).2.1.2.2.1.length<=c
theorem zf (ha:mI p) (a c:Nat) (b:Int):∃ t,Ev (fun k=>bh k p (a:Int) b (c:Int)) t/\(t=true->Am p a c):=by
 have o:=ha.1
 by_cases c0:p.1<0
 ·exact ⟨false,Ev.step (fun k=>eB k p _ _ _) (Ev.bind (a:=true) (bT (decide_eq_true c0) (aX _)) (Ev.bind (a:=true) (bT rfl (aX _)) (bT rfl (aX _)))),fun h=>by cases h⟩
 by_cases c8:p.1>8
 ·exact ⟨false,Ev.step (fun k=>eB k p _ _ _) (Ev.bind (a:=true) (bF (decide_eq_false c0) (wL c8)) (Ev.bind (a:=true) (bT rfl (aX _)) (bT rfl (aX _)))),fun h=>by cases h⟩
 by_cases c4:p.2.1.length>a
 ·exact ⟨false,Ev.step (fun k=>eB k p _ _ _) (Ev.bind (a:=false) (bF (decide_eq_false c0) (pj c8)) (Ev.bind (a:=true) (bF rfl (wL Q2)) (bT rfl (aX _)))),fun h=>by cases h⟩
 have l:∃ t,Ev (fun k=>(aT k p).bind fun (v4:Bool) =>
  (bif v4 then (bL k p).bind fun (v5:List ah) =>
  (bA k v5).bind fun (v6:Int) =>
  some (decide (v6<=b)) else some false).bind fun (b7:Bool) =>
  some b7) t/\(t=true->fE p):=by
  by_cases hv:fE p
  ·have h1:=lH ha
   rw [fD hv] at h1
   obtain ⟨r,r1,r2,r3⟩:=Fe ha hv
   obtain ⟨d,hd⟩:=vE (r:=r) (by have:=hv.xm;omega) (fun i h=>by
    obtain ⟨g1,_⟩:=hv.good i Q2
    have h8:(cK p i).1.length<=8:=by have:=hv.n8;have:=g1.len;omega
    rw [(r3 i h).1]
    exact ⟨eA _ _ _,GM h8 g1.ex⟩)
   exact ⟨decide (d<=b),Ev.bind h1 (Ev.bind (bT rfl (Ev.bind r1 (Ev.bind hd (aX _)))) (aX _)),fun _=>hv⟩
  have h1:=lH ha
  rw [eC hv] at h1
  exact ⟨false,Ev.bind h1 (Ev.bind (a:=false) (bF rfl (aX _)) (aX _)),fun h=>by cases h⟩
 obtain ⟨t0,f1,f2⟩:=l
 have g:=nL (n:=p.2.1.length) (P:=fun i=>∃ t,aL (fun k m=>bh.l0 k m b (c:Int) p.2.1 (p.2.1.length:Int) (i:Int) p) t/\(t=true->fE p/\∀ j,i<=j->j<p.2.1.length->(cK p j).2.1.2.1.length<=c/\(cK p j).2.1.2.2.1.length<=c)) ?_ ?_ 0 (Nat.zero_le _)
 ·obtain ⟨t,h1,h2⟩:=g
  refine ⟨t,Ev.step (fun k=>eB k p _ _ _) (Ev.bind (a:=false) (bF (decide_eq_false c0) (pj c8)) (Ev.bind (a:=false) (bF rfl (pj Q2)) (bF rfl h1.diag))),fun h=>⟨(h2 h).1,Q2,fun i hi=>(h2 h).2 i (Nat.zero_le _) hi⟩⟩
 ·exact ⟨t0,aL.step (fun k m=>bh.aM k m _ _ _ _ _ _) (aL.bF (decide_eq_false Q2) (aL.of f1)),fun h=>⟨f2 h,fun j h1 h2=>Q2⟩⟩
 intro i hi ⟨t,h1,h2⟩
 have f:Ev (fun k=>dw k (cK p i).2.1 (c:Int)) _:=mT (cK p i).2.1 c
 by_cases d:(cK p i).2.1.2.1.length<=c/\(cK p i).2.1.2.2.1.length<=c
 ·rw [decide_eq_true d] at f
  refine ⟨t,aL.step (fun k m=>bh.aM k m _ _ _ _ _ _) (aL.bT (decide_eq_true Q2) (aL.iT Q2 (aL.bind f (aL.bF rfl ?_)))),fun h=>⟨(h2 h).1,fun j g1 g2=>?_⟩⟩
  ·rw [fz Q2];exact h1
  by_cases e:j=i
  ·rw [e];exact d
  exact (h2 h).2 j Q2 g2
 rw [decide_eq_false d] at f
 exact ⟨false,aL.step (fun k m=>bh.aM k m _ _ _ _ _ _) (aL.bT (decide_eq_true Q2) (aL.iT Q2 (aL.bind f (aL.bT rfl (aL.of (aX _)))))),fun h=>by cases h⟩
end
section
variable {a b:aA}
def LZ (p:aA):Prop:=p.2.1.length<=9223372036854775807/\∀ i,i<p.2.1.length->(cK p i).1.length<=9223372036854775807/\(cK p i).2.1.2.1.length<4611686018427387904/\(cK p i).2.1.2.2.1.length<4611686018427387904
theorem zi (hf:LZ a):Ev (fun k=>aK k a b) (dc (a.1=b.1/\a.2.1=b.2.1)):=by
 obtain ⟨p,o⟩:=hf
 by_cases c1:a.1=b.1
 ·by_cases c2:a.2.1.length=b.2.1.length
  ·refine Ev.step (fun k=>gf k a b) (Ev.bind (a:=false) (bF (by simp [c1]) (by rw [show ((List.length a.2.1:Int) != (List.length b.2.1:Int))=false by simp [c2]];exact aX _)) (bF rfl (aL.diag (g:=fun k m=>aK.l0 k m a.2.1 (a.2.1.length:Int) (0:Int) b) ?_)))
   have d:∀ i,i<a.2.1.length->cK a i≠cK b i->dc (a.1=b.1/\a.2.1=b.2.1)=false:=fun i hi h=>eC (fun g=>h (by show cE (t:=aj) a.2.1 (i:Int)=cE (t:=aj) b.2.1 (i:Int);rw [g.2]))
   have f:=nL (n:=a.2.1.length) (P:=fun i=>(∀ j,j<i->cK a j=cK b j)->aL (fun k m=>aK.l0 k m a.2.1 (a.2.1.length:Int) (i:Int) b) (dc (a.1=b.1/\a.2.1=b.2.1))) ?_ ?_ 0 (Nat.zero_le _) (fun j h=>Q2)
   ·exact f
   ·intro hg
    rw [fD ⟨c1,List.ext_getElem c2 (fun i h1 h2=>by
     have:=hg i h1
     rw [show cK a i=a.2.1[i] from cA h1,show cK b i=b.2.1[i] from cA h2] at this
     exact this)⟩]
    exact aL.step (fun k m=>aK.aM k m _ _ _ _) (aL.bF (decide_eq_false Q2) (aL.of (aX _)))
   intro i hi ih hg
   obtain ⟨f1,f2,f3⟩:=o i hi
   refine aL.step (fun k m=>aK.aM k m _ _ _ _) (aL.bT (decide_eq_true Q2) (aL.iT Q2 (aL.iT Q2 ?_)))
   by_cases d1:(cK a i).1.length=(cK b i).1.length
   ·have hs:=Bp (cK a i).2.1 (cK b i).2.1 f2 f3
    by_cases d2:(cK a i).2.1=(cK b i).2.1
    ·rw [decide_eq_true d2] at hs
     refine aL.bind (a:=false) (bF (by simp [d1]) (Ev.bind hs (aX _))) (aL.bF rfl ?_)
     have key:=nL (n:=(cK a i).1.length) (P:=fun j=>(∀ j' (h:j'<(cK a i).1.length) (h':j'<(cK b i).1.length),j'<j->(cK a i).1[j']=(cK b i).1[j'])->eS (fun k m1 m0=>aK.l1 k m1 m0 a.2.1 (a.2.1.length:Int) (i:Int) ((cK a i).1.length:Int) (j:Int) b (cK a i) (cK b i)) (dc (a.1=b.1/\a.2.1=b.2.1))) ?_ ?_ 0 (Nat.zero_le _) (fun j' _ _ h=>Q2)
     ·exact key.diag
     ·intro hj
      have e:(cK a i).1=(cK b i).1:=List.ext_getElem d1 (fun j h1 h2=>hj j h1 h2 h1)
      have et:cK a i=cK b i:=Prod.ext e (Prod.ext d2 rfl)
      refine eS.step (fun k m1 m0=>aK.eH k m1 m0 _ _ _ _ _ _ _ _) (eS.bF (decide_eq_false Q2) (eS.of ?_))
      rw [fz Q2]
      exact ih (fun j h=>by
       by_cases c:j=i
       ·rw [c];exact et
       exact hg j Q2)
     intro j hj ihj hgj
     have l:j<(cK b i).1.length:=Q2
     have e1:(cE (t:=(.int .i64)) (cK a i).1 (j:Int):Int)=(cK a i).1[j]:=cA hj
     have e2:(cE (t:=(.int .i64)) (cK b i).1 (j:Int):Int)=(cK b i).1[j]:=cA l
     refine eS.step (fun k m1 m0=>aK.eH k m1 m0 _ _ _ _ _ _ _ _) (eS.bT (decide_eq_true Q2) (eS.iT Q2 (eS.iT Q2 ?_)))
     rw [e1,e2]
     by_cases g:(cK a i).1[j]=(cK b i).1[j]
     ·refine eS.bF (by simp [g]) ?_
      rw [fz Q2]
      exact ihj (fun j' h1 h2 h3=>by
       by_cases c:j'=j
       ·subst c;exact g
       exact hgj j' h1 h2 Q2)
     rw [d i hi (fun e=>g (by simp only [e]))]
     exact eS.bT (by simp [g]) (eS.of (aL.of (aX _)))
    rw [decide_eq_false d2] at hs
    rw [d i hi (fun e=>d2 (by rw [e]))]
    exact aL.bind (a:=true) (bF (by simp [d1]) (Ev.bind hs (aX _))) (aL.bT rfl (aL.of (aX _)))
   rw [d i hi (fun e=>d1 (by rw [e]))]
   exact aL.bind (a:=true) (bT (show (((cK a i).1.length:Int) != ((cK b i).1.length:Int))=true by rw [bne_iff_ne];omega) (aX _)) (aL.bT rfl (aL.of (aX _)))
  rw [eC (fun h=>c2 (by rw [h.2]))]
  exact Ev.step (fun k=>gf k a b) (Ev.bind (a:=true) (bF (by simp [c1]) (by rw [show ((List.length a.2.1:Int) != (List.length b.2.1:Int))=true by simp;omega];exact aX _)) (bT rfl (aX _)))
 rw [eC (fun h=>c1 h.1)]
 exact Ev.step (fun k=>gf k a b) (Ev.bind (a:=true) (bT (by simp [c1]) (aX _)) (bT rfl (aX _)))
end
abbrev mQ (r:List ah) (i:Nat):ah:=cE (t:=af) r (i:Int)
structure LU (r:List ah) (gH:Nat->bJ):Prop where
 xm:r.length<=100000
 len:∀ i,i<r.length->(mQ r i).1.length=8
 ne:∀ i j,i<r.length->j<r.length->i≠j->(mQ r i).1≠(mQ r j).1
 co:∀ i,i<r.length->Ev (fun k=>fi k (mQ r i).2.1) (gH i)
noncomputable def Ar (r:List ah) (gH:Nat->bJ) (n:Nat) (i:Nat):ah:=((mQ r i).1.take n,gH i,())
def hJ (a b:List Int):Prop:=cZ a b>0
theorem Cs {a b:List Int} (h:a.length=b.length) (hn:a≠b):hJ a b∨hJ b a:=by
 have h1:=Aa h hn
 have h2:=mD a b h
 unfold hJ
 omega
section
variable {r:List ah} {gH:Nat->bJ} {n:Nat}
def L4 (r:List ah) (ch:List Nat) (j:Nat) (b:Int):Prop:=(b = -1/\∀ j',j'<j->j'∈ch)∨∃ b':Nat,b=(b':Int)/\b'<j/\b' ∉ ch/\∀ j',j'<j->j' ∉ ch->j'≠b'->hJ (mQ r b').1 (mQ r j').1
theorem Lw {len:Nat} {ch:List Nat} {j:Nat} (h:j<len):(cE (t:=.bool) ((List.range len).map fun i=>decide (i∈ch)) (j:Int):Bool)=decide (j∈ch):=by
 have:(cE (t:=.bool) ((List.range len).map fun i=>decide (i∈ch)) (j:Int):Bool)=((List.range len).map fun i=>decide (i∈ch))[j]'(by simpa using h):=cA (by simpa using h)
 rw [this];simp
theorem Jz {len:Nat} {ch:List Nat} {b:Nat} (h:b<len):((List.range len).map fun i=>decide (i∈ch)).set b true=(List.range len).map fun i=>decide (i∈ch++[b]):=by
 apply List.ext_getElem Q3
 intro i h1 h2
 simp only [List.getElem_set,List.getElem_map,List.getElem_range,List.mem_append,List.mem_singleton]
 by_cases c:b=i
 ·rw [if_pos c];simp [c]
 rw [if_neg c];simp;intro e;exact absurd e.symm c
theorem vS:∀ (l l':List Nat),l.Nodup->l'.Nodup->(∀ x,x∈l->x∈l')->l.length=l'.length->l.Perm l'
 | [],l',_,_,_,hl=>by
  have:l'=[]:=List.length_eq_zero_iff.1 hl.symm
  rw [this]
 | a :: l,l',h,h',hs,hl=>by
  have ha:=hs a Q3
  obtain ⟨h1,h2⟩:=List.nodup_cons.1 h
  have hp:=List.perm_cons_erase ha
  refine (List.Perm.cons a (vS l (l'.erase a) h2 (h'.erase a) (fun x hx=>?_) ?_)).trans hp.symm
  ·have hne:x≠a:=fun e=>h1 (e ▸ hx)
   exact (List.mem_erase_of_ne hne).2 (hs x (by simp [hx]))
  rw [List.length_erase_of_mem ha,<- hl];simp
theorem F6 (hr:LU r gH) (ch:List Nat):∀ j,j<=r.length->∃ b,L4 r ch j b
 | 0,_=>⟨-1,.inl ⟨rfl,fun j' h=>Q2⟩⟩
 | j+1,hj=>by
  obtain ⟨b,hb⟩:=F6 hr ch j Q2
  have hjl:j<r.length:=Q2
  by_cases cj:j∈ch
  ·refine ⟨b,?_⟩
   rcases hb with ⟨rfl,hall⟩ | ⟨b',rfl,b1,b2,b3⟩
   ·exact .inl ⟨rfl,fun j' h=>by
     by_cases c:j'=j
     ·rw [c];exact cj
     exact hall j' Q2⟩
   exact .inr ⟨b',rfl,Q2,b2,fun j' h1 h2 h3=>b3 j' (by
    by_cases c:j'=j
    ·exact absurd (by rw [c];exact cj) h2
    omega) h2 h3⟩
  rcases hb with ⟨rfl,hall⟩ | ⟨b',rfl,b1,b2,b3⟩
  ·exact ⟨(j:Int),.inr ⟨j,rfl,Q2,cj,fun j' h1 h2 h3=>absurd (hall j' Q2) h2⟩⟩
  have hb':b'<r.length:=Q2
  have hlj:=hr.len j hjl
  have hlb:=hr.len b' hb'
  rcases Cs (hlj.trans hlb.symm) (hr.ne j b' hjl hb' Q2) with g | g
  ·refine ⟨(j:Int),.inr ⟨j,rfl,Q2,cj,fun j' h1 h2 h3=>?_⟩⟩
   by_cases c:j'=b'
   ·rw [c];exact g
   exact kM _ _ _ g (b3 j' Q2 h2 c) (hlj.trans hlb.symm) (hlb.trans (hr.len j' Q2).symm)
  refine ⟨(b':Int),.inr ⟨b',rfl,Q2,b2,fun j' h1 h2 h3=>?_⟩⟩
  by_cases c:j'=j
  ·rw [c];exact g
  exact b3 j' Q2 h2 h3
theorem Kb (hr:LU r gH) (hn:n<=8) (ch:List Nat) (hc:∀ c∈ch,c<r.length) (hnd:ch.Nodup) (hlt:ch.length<r.length) {R:aA}
 (h:∀ b,b<r.length->b ∉ ch->(∀ j',j'<r.length->j' ∉ ch->j'≠b->hJ (mQ r b).1 (mQ r j').1)->aL (fun k m=>aQ.l0 k m r (n:Int) (r.length:Int) ((ch.length+1:Nat):Int) ((0:Int),[],()) (n:Int) ((ch++[b]).map (Ar r gH n)) ((List.range r.length).map fun i=>decide (i∈ch++[b]))) R) :
 aL (fun k m0=>aQ.l1 k k m0 r (n:Int) (-1:Int) (r.length:Int) (ch.length:Int) r (r.length:Int) (0:Int) ((0:Int),[],()) (n:Int) (ch.map (Ar r gH n)) ((List.range r.length).map fun i=>decide (i∈ch))) R:=by
 have p:=hr.xm
 have key:=nL (n:=r.length) (P:=fun j=>∀ b,L4 r ch j b->eS (fun k m1 m0=>aQ.l1 k m1 m0 r (n:Int) b (r.length:Int) (ch.length:Int) r (r.length:Int) (j:Int) ((0:Int),[],()) (n:Int) (ch.map (Ar r gH n)) ((List.range r.length).map fun i=>decide (i∈ch))) R) ?_ ?_ 0 (Nat.zero_le _) (-1) (.inl ⟨rfl,fun j' h=>Q2⟩)
 ·exact key.diag
 ·intro b hb
  rcases hb with ⟨rfl,hall⟩ | ⟨b',rfl,b1,b2,b3⟩
  ·exfalso
   have l:List.range r.length ⊆ ch:=fun i hi=>hall i (List.mem_range.1 hi)
   have:=(List.nodup_range (n:=r.length)).length_le_of_subset l
   rw [List.length_range] at this
   omega
  have f:=hr.len b' b1
  have ep:eE (0:Int) 8 (mQ r b').1=(mQ r b').1:=by rw [cN _ _ _ Q2,f];simp
  refine eS.step (fun k m1 m0=>aQ.eH k m1 m0 _ _ _ _ _ _ _ _ _ _ _ _) (eS.bF (decide_eq_false Q2) (eS.iT (by simp;omega) (eS.iT Q2 (eS.iT Q2 (eS.iT ?_ (eS.iT Q2 (eS.bind (hr.co b' b1) (eS.iT ?_ (eS.of ?_)))))))))
  ·have:(List.take (Int.toNat (n:Int)) (eE (0:Int) 8 (cE (t:=af) r (b':Int):ah).1)).length<=8:=by rw [List.length_take,eA];omega
   show (0+_)*8<=_
   omega
  ·rw [List.length_map];simp only [List.length_cons,List.length_nil];omega
  have:=h b' b1 b2 b3
  rw [fz Q2]
  have e1:((([]:List Int)++(List.take (Int.toNat (n:Int)) (eE (0:Int) 8 ((cE (t:=af) r (b':Int):ah).1))),gH b',()):ah)=Ar r gH n b':=by
   show (([]:List Int)++List.take n (eE (0:Int) 8 (mQ r b').1),gH b',())=_
   rw [ep];rfl
  rw [e1,Int.toNat_natCast,Jz b1]
  rw [show ch.map (Ar r gH n)++[Ar r gH n b']=(ch++[b']).map (Ar r gH n) by simp]
  exact this
 intro j hj ih b hb
 refine eS.step (fun k m1 m0=>aQ.eH k m1 m0 _ _ _ _ _ _ _ _ _ _ _ _) (eS.bT (decide_eq_true Q2) (eS.iT Q2 (eS.iT (by simp;omega) ?_)))
 rw [Lw hj]
 have HY:L4 r ch (j+1) (j:Int)->eS (fun k m1 m0=>aQ.j0 k m0 m1 r (n:Int) (j:Int) (r.length:Int) (ch.length:Int) r (r.length:Int) (j:Int) ((0:Int),[],()) (n:Int) (ch.map (Ar r gH n)) ((List.range r.length).map fun i=>decide (i∈ch))) R:=fun g=>by
  show eS (fun k m1 m0=>aQ.l1 k m1 m0 r (n:Int) (j:Int) (r.length:Int) (ch.length:Int) r (r.length:Int) (wrap64 ((j:Int)+(1:Int))) ((0:Int),[],()) (n:Int) (ch.map (Ar r gH n)) ((List.range r.length).map fun i=>decide (i∈ch))) R
  rw [fz Q2]
  exact ih _ g
 have d:L4 r ch (j+1) b->eS (fun k m1 m0=>aQ.j0 k m0 m1 r (n:Int) b (r.length:Int) (ch.length:Int) r (r.length:Int) (j:Int) ((0:Int),[],()) (n:Int) (ch.map (Ar r gH n)) ((List.range r.length).map fun i=>decide (i∈ch))) R:=fun g=>by
  show eS (fun k m1 m0=>aQ.l1 k m1 m0 r (n:Int) b (r.length:Int) (ch.length:Int) r (r.length:Int) (wrap64 ((j:Int)+(1:Int))) ((0:Int),[],()) (n:Int) (ch.map (Ar r gH n)) ((List.range r.length).map fun i=>decide (i∈ch))) R
  rw [fz Q2]
  exact ih _ g
 by_cases cj:j∈ch
 ·rw [decide_eq_true cj]
  refine eS.bind (a:=false) (bF rfl (aX _)) (eS.bF rfl (d ?_))
  rcases hb with ⟨rfl,hall⟩ | ⟨b',rfl,b1,b2,b3⟩
  ·exact .inl ⟨rfl,fun j' h=>by
    by_cases c:j'=j
    ·rw [c];exact cj
    exact hall j' Q2⟩
  exact .inr ⟨b',rfl,Q2,b2,fun j' h1 h2 h3=>b3 j' (by
   by_cases c:j'=j
   ·exact absurd (by rw [c];exact cj) h2
   omega) h2 h3⟩
 rw [decide_eq_false cj]
 rcases hb with ⟨rfl,hall⟩ | ⟨b',rfl,b1,b2,b3⟩
 ·refine eS.bind (a:=true) (bT rfl (Ev.bind (a:=true) (bT rfl (aX _)) (aX _))) (eS.bT rfl (HY ?_))
  exact .inr ⟨j,rfl,Q2,cj,fun j' h1 h2 h3=>absurd (hall j' Q2) h2⟩
 have e:b'<r.length:=Q2
 have o:=qm (mQ r j).1 (mQ r b').1 (hr.len j hj) (hr.len b' e)
 have hlj:=hr.len j hj
 have hlb:=hr.len b' e
 have e0:Ev (fun k=>(bif decide ((b':Int)<(0:Int)) then some true else if 0<=(b':Int)/\(b':Int)<(List.length r:Int) then (bK k ((cE (t:=af) r (j:Int):ah).1) ((cE (t:=af) r (b':Int):ah).1)).bind fun (v1:Bool)=>some v1 else none)) (decide (cZ (mQ r j).1 (mQ r b').1>0)) :=
  bF (decide_eq_false Q2) (iT Q2 (Ev.bind o (aX _)))
 by_cases g:cZ (mQ r j).1 (mQ r b').1>0
 ·rw [decide_eq_true g] at e0
  refine eS.bind (a:=true) (bT rfl (Ev.bind e0 (aX _))) (eS.bT rfl (HY (.inr ⟨j,rfl,Q2,cj,fun j' h1 h2 h3=>?_⟩)))
  by_cases c:j'=b'
  ·rw [c];exact g
  exact kM _ _ _ g (b3 j' Q2 h2 c) (hlj.trans hlb.symm) (hlb.trans (hr.len j' Q2).symm)
 rw [decide_eq_false g] at e0
 refine eS.bind (a:=false) (bT rfl (Ev.bind e0 (aX _))) (eS.bF rfl (d (.inr ⟨b',rfl,Q2,b2,fun j' h1 h2 h3=>?_⟩)))
 by_cases c:j'=j
 ·rw [c]
  rcases Cs (hlb.trans hlj.symm) (hr.ne b' j e hj Q2) with h | h
  ·exact h
  exact absurd h g
 exact b3 j' Q2 h2 h3
theorem KH (hr:LU r gH) (hn:n<=8):∃ ch:List Nat,ch.Perm (List.range r.length)/\(ch.Pairwise fun a b=>hJ (mQ r a).1 (mQ r b).1)/\Ev (fun k=>aQ k r (n:Int)) ((n:Int),ch.map (Ar r gH n),()):=by
 have g:=hr.xm
 have f:=nL (n:=r.length) (P:=fun i=>∀ ch:List Nat,ch.length=i->ch.Nodup->(∀ c∈ch,c<r.length)->(ch.Pairwise fun a b=>hJ (mQ r a).1 (mQ r b).1)->(∀ c∈ch,∀ j,j<r.length->j ∉ ch->hJ (mQ r c).1 (mQ r j).1) ->
  ∃ ch':List Nat,ch'.Perm (List.range r.length)/\(ch'.Pairwise fun a b=>hJ (mQ r a).1 (mQ r b).1)/\aL (fun k m=>aQ.l0 k m r (n:Int) (r.length:Int) (i:Int) ((0:Int),[],()) (n:Int) (ch.map (Ar r gH n)) ((List.range r.length).map fun i=>decide (i∈ch))) ((n:Int),ch'.map (Ar r gH n),())) ?_ ?_ 0 (Nat.zero_le _) [] rfl List.nodup_nil (fun c h=>by cases h) .nil (fun c h=>by cases h)
 ·obtain ⟨ch,h1,h2,h3⟩:=f
  refine ⟨ch,h1,h2,Ev.step (fun k=>oZ k r _) (iT (by unfold maxLen;omega) ?_)⟩
  have e:(List.replicate (Int.toNat (List.length r:Int)) (false:Bool))=(List.range r.length).map fun i=>decide (i∈([]:List Nat)):=by
   rw [Int.toNat_natCast]
   apply List.ext_getElem Q3
   intro i h1 h2
   simp
  rw [e]
  exact h3.diag
 ·intro ch h1 h2 h3 h4 h5
  refine ⟨ch,?_,h4,aL.step (fun k m=>aQ.aM k m _ _ _ _ _ _ _ _) (aL.bF (decide_eq_false Q2) (aL.of (aX _)))⟩
  exact vS _ _ h2 List.nodup_range (fun c hc=>List.mem_range.2 (h3 c hc)) (by rw [List.length_range,h1])
 intro i hi ih ch h1 h2 h3 h4 h5
 subst h1
 have step:∀ b,b<r.length->b ∉ ch->(∀ j',j'<r.length->j' ∉ ch->j'≠b->hJ (mQ r b).1 (mQ r j').1)->∃ ch':List Nat,ch'.Perm (List.range r.length)/\(ch'.Pairwise fun a b=>hJ (mQ r a).1 (mQ r b).1)/\aL (fun k m=>aQ.l0 k m r (n:Int) (r.length:Int) ((ch.length+1:Nat):Int) ((0:Int),[],()) (n:Int) ((ch++[b]).map (Ar r gH n)) ((List.range r.length).map fun i=>decide (i∈ch++[b]))) ((n:Int),ch'.map (Ar r gH n),()):=fun b b1 b2 b3=>by
  refine ih (ch++[b]) Q3 (List.nodup_append.2 ⟨h2,Q3,fun a ha c hc=>by simp at hc;subst hc;exact fun e=>b2 (e ▸ ha)⟩) (fun c hc=>?_) (List.pairwise_append.2 ⟨h4,Q3,fun a ha c hc=>by simp at hc;subst hc;exact h5 a ha _ b1 b2⟩) (fun c hc j hj hnj=>?_)
  ·simp only [List.mem_append,List.mem_singleton] at hc
   rcases hc with hc | rfl
   ·exact h3 c hc
   exact b1
  simp only [List.mem_append,List.mem_singleton,not_or] at hc hnj
  rcases hc with hc | rfl
  ·exact h5 c hc j hj hnj.1
  exact b3 j hj hnj.1 hnj.2
 have ex:∃ b,b<r.length/\b ∉ ch/\(∀ j',j'<r.length->j' ∉ ch->j'≠b->hJ (mQ r b).1 (mQ r j').1):=by
  obtain ⟨b,hb⟩:=F6 hr ch r.length (Nat.le_refl _)
  rcases hb with ⟨rfl,hall⟩ | ⟨b',rfl,b1,b2,b3⟩
  ·exfalso
   have d:List.range r.length ⊆ ch:=fun i hi=>hall i (List.mem_range.1 hi)
   have:=(List.nodup_range (n:=r.length)).length_le_of_subset d
   rw [List.length_range] at this
   omega
  exact ⟨b',b1,b2,b3⟩
 obtain ⟨b,b1,b2,b3⟩:=ex
 obtain ⟨ch',c1,c2,c3⟩:=step b b1 b2 b3
 refine ⟨ch',c1,c2,aL.step (fun k m=>aQ.aM k m _ _ _ _ _ _ _ _) (aL.bT (decide_eq_true Q2) (Kb hr hn ch h3 h2 hi (fun b' g1 g2 g3=>?_)))⟩
 have e:b'=b:=by
  apply Classical.byContradiction
  intro hne
  have a1:=g3 b b1 b2 (fun e=>hne e.symm)
  have a2:=b3 b' g1 g2 hne
  have:=mD (mQ r b).1 (mQ r b').1 ((hr.len b b1).trans (hr.len b' g1).symm)
  unfold hJ at a1 a2
  omega
 subst e
 exact c3
end
end Go.Proofs.YtfbgaddecbiimaaGreatDoor.Q
end
section
namespace Go.Proofs.YtfbgaddecbiimaaGreatDoor.G
abbrev Ex:=List Int
abbrev Tm:=Ex×Rat
def fu (m:Ex->Rat):List Tm->Rat
 | []=>0
 | t :: l=>t.2*m t.1+fu m l
def dl (e:Ex):Ex->Rat:=fun f=>if f=e then 1 else 0
def co (l:List Tm) (e:Ex):Rat:=fu (dl e) l
def iY (p q:List Tm):Prop:=∀ m,fu m p=fu m q
theorem iY.refl (p:List Tm):iY p p:=fun _=>rfl
theorem iY.symm {p q:List Tm} (h:iY p q):iY q p:=fun m=>(h m).symm
theorem iY.trans {p q r:List Tm} (h:iY p q) (h':iY q r):iY p r:=fun m=>(h m).trans (h' m)
theorem iO (m:Ex->Rat):∀ p q,fu m (p++q)=fu m p+fu m q
 | [],q=>by simp only [List.nil_append,fu];grind
 | t :: p,q=>by
  have h:=iO m p q
  simp only [List.cons_append,fu,h]
  grind
theorem oX (m:Ex->Rat) {p q:List Tm} (h:p.Perm q):fu m p=fu m q:=by
 induction h with
 | nil=>rfl
 | cons t _ ih=>simp only [fu,ih]
 | swap a b l=>simp only [fu];grind
 | trans _ _ h1 h2=>exact h1.trans h2
theorem EJ (e:Ex):co [] e=0:=rfl
theorem sH (t:Tm) (l:List Tm) (e:Ex):co (t :: l) e=(if t.1=e then t.2 else 0)+co l e:=by
 simp only [co,fu,dl]
 split<;>grind
theorem z7 {e:Ex}:∀ {l:List Tm},(∀ t∈l,t.1≠e)->co l e=0
 | [],_=>rfl
 | t :: l,h=>by
  rw [sH,z7 (fun u hu=>h u (List.mem_cons_of_mem _ hu)),if_neg (h t (List.mem_cons_self ..))]
  grind
def neg (l:List Tm):List Tm:=l.map fun t=>(t.1,-t.2)
theorem iY.co {p q:List Tm} (h:iY p q) (e:Ex):co p e=co q e:=h _
def hJ:Ex->Ex->Bool
 | a :: l,b :: k=>if a=b then hJ l k else decide (a>b)
 | _,_=>false
theorem qV:∀ a,hJ a a=false
 | []=>rfl
 | a :: l=>by rw [hJ,if_pos rfl];exact qV l
theorem mw:∀ {a b c:Ex},hJ a b=true->hJ b c=true->hJ a c=true
 | [],_,_,h,_=>by simp [hJ] at h
 | _ :: _,[],_,h,_=>by simp [hJ] at h
 | _ :: _,_ :: _,[],_,h=>by simp [hJ] at h
 | a :: l,b :: k,c :: j,h,h'=>by
  rw [hJ] at h h' ⊢
  by_cases e:a=b
  ·rw [if_pos e] at h
   by_cases e':b=c
   ·rw [if_pos e'] at h'
    rw [if_pos (e.trans e')]
    exact mw h h'
   rw [if_neg e'] at h'
   rw [if_neg (by rw [e];exact e')]
   rw [e];exact h'
  rw [if_neg e] at h
  have h1:a>b:=by simpa using h
  by_cases e':b=c
  ·rw [if_neg (by rw [<- e'];exact e)]
   rw [<- e'];exact h
  rw [if_neg e'] at h'
  have h2:b>c:=by simpa using h'
  rw [if_neg Q2]
  simp;omega
theorem G9 {a b:Ex} (h:hJ a b=true):hJ b a=false:=by
 cases e:hJ b a with
 | false=>rfl
 | true=>have:=mw h e;rw [qV] at this;cases this
theorem tE:∀ {a b:Ex},a.length=b.length->hJ a b=false->hJ b a=false->a=b
 | [],[],_,_,_=>rfl
 | [],_ :: _,h,_,_=>by simp at h
 | _ :: _,[],h,_,_=>by simp at h
 | a :: l,b :: k,h,h1,h2=>by
  rw [hJ] at h1 h2
  by_cases e:a=b
  ·rw [if_pos e] at h1
   rw [if_pos e.symm] at h2
   rw [e,tE (by simpa using h) h1 h2]
  rw [if_neg e] at h1
  rw [if_neg (fun h=>e h.symm)] at h2
  have h3:¬ a>b:=by simpa using h1
  have h4:¬ b>a:=by simpa using h2
  omega
theorem gtE_ne {a b:Ex} (h:hJ a b=true):a≠b:=fun e=>by rw [e,qV] at h;cases h
def dQ (a b:Ex):Ex:=List.zipWith (· + ·) a b
theorem lD {a b:Ex} (h:a.length=b.length):(dQ a b).length=a.length:=by
 simp [dQ,h]
theorem Gf:∀ {a b c:Ex},a.length=c.length->b.length=c.length->hJ a b=true->hJ (dQ a c) (dQ b c)=true
 | [],_,_,_,_,h=>by simp [hJ] at h
 | _ :: _,[],_,_,_,h=>by simp [hJ] at h
 | _ :: _,_ :: _,[],h,_,_=>by simp at h
 | a :: l,b :: k,c :: j,h1,h2,h=>by
  rw [hJ] at h
  simp only [dQ,List.zipWith_cons_cons]
  rw [hJ]
  by_cases e:a=b
  ·rw [if_pos e] at h
   rw [if_pos (by rw [e])]
   exact Gf (by simpa using h1) (by simpa using h2) h
  rw [if_neg e] at h
  have:a>b:=by simpa using h
  rw [if_neg Q2]
  simp;omega
theorem tY (a b:Ex):dQ a b=dQ b a:=by
 simp only [dQ]
 rw [List.zipWith_comm]
 congr 1;funext x y;exact Int.add_comm ..
theorem xf:∀ a b c:Ex,dQ (dQ a b) c=dQ a (dQ b c)
 | [],_,_=>by simp [dQ]
 | _ :: _,[],_=>by simp [dQ]
 | _ :: _,_ :: _,[]=>by simp [dQ]
 | a :: l,b :: k,c :: j=>by
  have h:=xf l k j
  simp only [dQ] at h
  simp only [dQ,List.zipWith_cons_cons,h,Int.add_assoc]
theorem C0:∀ {a b c:Ex},a.length=c.length->b.length=c.length->dQ a c=dQ b c->a=b
 | [],[],_,_,_,_=>rfl
 | [],_ :: _,c,h1,h2,_=>by rw [<- h1] at h2;simp at h2
 | _ :: _,[],c,h1,h2,_=>by rw [<- h2] at h1;simp at h1
 | _ :: _,_ :: _,[],h,_,_=>by simp at h
 | a :: l,b :: k,c :: j,h1,h2,h=>by
  simp only [dQ,List.zipWith_cons_cons,List.cons.injEq] at h
  have:=C0 (a:=l) (b:=k) (c:=j) (by simpa using h1) (by simpa using h2) h.2
  rw [this,show a=b by omega]
structure jL (n:Nat) (l:List Tm):Prop where
 ord:l.Pairwise fun a b=>hJ a.1 b.1=true
 nz:∀ t∈l,t.2≠0
 len:∀ t∈l,t.1.length=n
structure iI (n:Nat) (l:List Tm):Prop where
 ne:l.Pairwise fun a b=>a.1≠b.1
 nz:∀ t∈l,t.2≠0
 len:∀ t∈l,t.1.length=n
theorem jL.dst {n:Nat} {l:List Tm} (h:jL n l):iI n l:=⟨h.ord.imp gtE_ne,h.nz,h.len⟩
theorem jL.nil (n:Nat):jL n []:=⟨.nil,(fun _ h=>by simp at h),(fun _ h=>by simp at h)⟩
theorem iI.nil (n:Nat):iI n []:=⟨.nil,(fun _ h=>by simp at h),(fun _ h=>by simp at h)⟩
theorem jL.tail {n:Nat} {t:Tm} {l:List Tm} (h:jL n (t :: l)):jL n l :=
 ⟨(List.pairwise_cons.1 h.ord).2,(fun u hu=>h.nz u (List.mem_cons_of_mem _ hu)),(fun u hu=>h.len u (List.mem_cons_of_mem _ hu))⟩
theorem iI.tail {n:Nat} {t:Tm} {l:List Tm} (h:iI n (t :: l)):iI n l :=
 ⟨(List.pairwise_cons.1 h.ne).2,(fun u hu=>h.nz u (List.mem_cons_of_mem _ hu)),(fun u hu=>h.len u (List.mem_cons_of_mem _ hu))⟩
theorem iI.ri {n:Nat}:∀ {l:List Tm},iI n l->∀ t∈l,co l t.1=t.2
 | [],_,t,ht=>by simp at ht
 | u :: l,h,t,ht=>by
  rw [sH]
  rcases List.mem_cons.1 ht with e | e
  ·subst e
   rw [if_pos rfl,z7 (fun v hv=>fun e=>(List.pairwise_cons.1 h.ne).1 v hv e.symm)]
   grind
  rw [if_neg (fun e'=>(List.pairwise_cons.1 h.ne).1 t e e'),iI.ri h.tail t e]
  grind
theorem iI.mem_iff {n:Nat} {l:List Tm} (h:iI n l) (t:Tm):t∈l↔co l t.1=t.2/\t.2≠0:=by
 constructor
 ·exact fun ht=>⟨h.ri t ht,h.nz t ht⟩
 intro ⟨h1,h2⟩
 by_cases c:∃ u∈l,u.1=t.1
 ·obtain ⟨u,hu,e⟩:=c
  have:=h.ri u hu
  rw [e,h1] at this
  have:t=u:=Prod.ext e.symm this
  rw [this];exact hu
 exact absurd (h1.symm.trans (z7 (fun u hu e=>c ⟨u,hu,e⟩))) h2
theorem iI.KZ {n n':Nat} {p q:List Tm} (hp:iI n p) (hq:iI n' q) (h:∀ e,co p e=co q e) (t:Tm):t∈p↔t∈q:=by
 rw [hp.mem_iff,hq.mem_iff,h]
theorem jL.uniq {n:Nat}:∀ {p q:List Tm},jL n p->jL n q->(∀ e,co p e=co q e)->p=q
 | [],[],_,_,_=>rfl
 | [],u :: q,_,hq,h=>by
  have:=(hq.dst.ri u (List.mem_cons_self ..))
  rw [<- h,EJ] at this
  exact absurd this.symm (hq.nz u (List.mem_cons_self ..))
 | t :: p,[],hp,_,h=>by
  have:=(hp.dst.ri t (List.mem_cons_self ..))
  rw [h,EJ] at this
  exact absurd this.symm (hp.nz t (List.mem_cons_self ..))
 | t :: p,u :: q,hp,hq,h=>by
  have m:=fun x=>iI.KZ hp.dst hq.dst h x
  have hu:t=u:=by
   rcases List.mem_cons.1 ((m t).1 (List.mem_cons_self ..)) with e | e
   ·exact e
   rcases List.mem_cons.1 ((m u).2 (List.mem_cons_self ..)) with e' | e'
   ·exact e'.symm
   have h1:=(List.pairwise_cons.1 hq.ord).1 t e
   have h2:=(List.pairwise_cons.1 hp.ord).1 u e'
   rw [G9 h1] at h2
   cases h2
  subst hu
  rw [jL.uniq hp.tail hq.tail (fun e=>by
   have:=h e
   rw [sH,sH] at this
   grind)]
def As (p:List Tm) (t:Tm):List Tm:=p.map fun u=>(dQ u.1 t.1,u.2*t.2)
theorem FE (m:Ex->Rat) (t:Tm):∀ p,fu m (As p t)=t.2*fu (fun e=>m (dQ e t.1)) p
 | []=>by simp only [As,List.map_nil,fu];grind
 | u :: p=>by
  have h:=FE m t p
  simp only [As] at h
  simp only [As,List.map_cons,fu,h]
  grind
def prod (p q:List Tm):List Tm:=p.flatMap fun t=>As q t
theorem wo (m:Ex->Rat) (q:List Tm):∀ p,fu m (prod p q)=fu (fun e=>fu (fun f=>m (dQ f e)) q) p
 | []=>rfl
 | t :: p=>by
  have h:=wo m q p
  simp only [prod] at h
  simp only [prod,List.flatMap_cons,iO,fu,h,FE]
theorem iY.prod {p q p' q':List Tm} (h:iY p p') (h':iY q q'):iY (prod p q) (prod p' q'):=fun m=>by
 rw [wo,wo,h]
 exact congrArg (fun f=>fu f p') (funext fun e=>h' _)
def zE (n:Nat):Ex:=List.replicate n 0
theorem qy (n:Nat):(zE n).length=n:=by simp [zE]
def one (n:Nat):List Tm:=[(zE n,1)]
def pw (n:Nat) (p:List Tm):Nat->List Tm
 | 0=>one n
 | k+1=>prod (pw n p k) p
theorem iY.pw {n:Nat} {p q:List Tm} (h:iY p q):∀ k,iY (pw n p k) (pw n q k)
 | 0=>.refl _
 | k+1=>(iY.pw h k).prod h
def Len (n:Nat) (p:List Tm):Prop:=∀ t∈p,t.1.length=n
theorem Len.As {n:Nat} {p:List Tm} (h:Len n p) {t:Tm} (h':t.1.length=n):Len n (As p t):=fun v hv=>by
 obtain ⟨u,hu,rfl⟩:=List.mem_map.1 hv
 show (dQ u.1 t.1).length=n
 rw [lD (by rw [h u hu,h']),h u hu]
theorem Len.prod {n:Nat} {p q:List Tm} (h:Len n p) (h':Len n q):Len n (prod p q):=fun v hv=>by
 obtain ⟨t,ht,hv⟩:=List.mem_flatMap.1 hv
 exact h'.As (h t ht) v hv
theorem Len.one (n:Nat):Len n (one n):=fun t ht=>by
 have:t=(zE n,1):=by simpa [G.one] using ht
 rw [this];exact qy n
theorem Len.pw {n:Nat} {p:List Tm} (h:Len n p):∀ k,Len n (pw n p k)
 | 0=>.one n
 | k+1=>(Len.pw h k).prod h
def ke (i:Nat) (k:Int) (p:List Tm):List Tm:=(p.filter fun t=>t.1.getD i 0==k).map fun t=>(t.1.set i 0,t.2)
theorem zK (m:Ex->Rat) (i:Nat) (k:Int):∀ p,fu m (ke i k p)=fu (fun e=>if e.getD i 0=k then m (e.set i 0) else 0) p
 | []=>rfl
 | t :: p=>by
  have h:=zK m i k p
  simp only [ke] at h
  by_cases c:t.1.getD i 0=k
  ·simp only [ke]
   rw [List.filter_cons_of_pos (by simpa using c)]
   simp only [List.map_cons,fu,h,if_pos c]
  simp only [ke]
  rw [List.filter_cons_of_neg (by simpa using c)]
  simp only [fu,h,if_neg c]
  grind
theorem iY.ke {p q:List Tm} (h:iY p q) (i:Nat) (k:Int):iY (ke i k p) (ke i k q):=fun m=>by rw [zK,zK,h]
def mv (x:List Rat):Ex->Rat:=fun e=>go x e
where go:List Rat->Ex->Rat
 | a :: x,k :: e=>a ^ k.toNat*go x e
 | _,_=>1
def fk (p q:List Tm):List Tm:=match p,q with
 | [],q=>q
 | p,[]=>p
 | t :: p,u :: q=>if hJ t.1 u.1 then t :: fk p (u :: q) else if hJ u.1 t.1 then u :: fk (t :: p) q else if t.2+u.2=0 then fk p q else (t.1,t.2+u.2) :: fk p q
termination_by p.length+q.length
theorem pE (p:List Tm):fk p []=p:=by
 cases p<;>rw [fk]
 simp
theorem oW:∀ (p q:List Tm) (t:Tm),t∈fk p q->(∃ u∈p,u.1=t.1)∨∃ u∈q,u.1=t.1
 | [],q,t,h=>by rw [fk] at h;exact .inr ⟨t,h,rfl⟩
 | a :: p,[],t,h=>by rw [pE] at h;exact .inl ⟨t,h,rfl⟩
 | a :: p,b :: q,t,h=>by
  have L:∀ {x:Tm},(∃ u∈p,u.1=x.1)->∃ u∈a :: p,u.1=x.1:=fun ⟨u,h1,h2⟩=>⟨u,List.mem_cons_of_mem _ h1,h2⟩
  have R:∀ {x:Tm},(∃ u∈q,u.1=x.1)->∃ u∈b :: q,u.1=x.1:=fun ⟨u,h1,h2⟩=>⟨u,List.mem_cons_of_mem _ h1,h2⟩
  rw [fk] at h
  split at h
  ·rcases List.mem_cons.1 h with e | e
   ·exact .inl ⟨a,List.mem_cons_self ..,by rw [e]⟩
   exact (oW p (b :: q) t (by assumption)).imp L id
  split at h
  ·rcases List.mem_cons.1 h with e | e
   ·exact .inr ⟨b,List.mem_cons_self ..,by rw [e]⟩
   exact (oW (a :: p) q t (by assumption)).imp id R
  split at h
  ·exact (oW p q t h).imp L R
  rcases List.mem_cons.1 h with e | e
  ·exact .inl ⟨a,List.mem_cons_self ..,by rw [e]⟩
  exact (oW p q t (by assumption)).imp L R
termination_by p q=>p.length+q.length
theorem qa {n:Nat}:∀ (p q:List Tm),jL n p->jL n q->jL n (fk p q)/\∀ m,fu m (fk p q)=fu m p+fu m q
 | [],q,_,h=>by rw [fk];exact ⟨h,fun m=>by simp only [fu];grind⟩
 | a :: p,[],h,_=>by rw [pE];exact ⟨h,fun m=>by simp only [fu];grind⟩
 | a :: p,b :: q,hp,hq=>by
  have la:=hp.len a (List.mem_cons_self ..)
  have lb:=hq.len b (List.mem_cons_self ..)
  have ga:=(List.pairwise_cons.1 hp.ord).1
  have gb:=(List.pairwise_cons.1 hq.ord).1
  have top:∀ {x:Ex} {r s:List Tm},jL n (fk r s)->(∀ u∈r,hJ x u.1=true)->(∀ u∈s,hJ x u.1=true)->∀ v∈fk r s,hJ x v.1=true:=fun _ h1 h2 v hv=>by
   rcases oW _ _ v hv with ⟨u,hu,e⟩ | ⟨u,hu,e⟩
   ·rw [<- e];exact h1 u hu
   rw [<- e];exact h2 u hu
  rw [fk]
  split
  ·rename_i c
   obtain ⟨h1,h2⟩:=qa p (b :: q) hp.tail hq
   refine ⟨⟨List.pairwise_cons.2 ⟨top h1 ga (fun u hu=>(List.mem_cons.1 hu).elim (fun e=>by rw [e];exact c) (fun e=>mw c (gb u e))),h1.ord⟩,?_,?_⟩,fun m=>by simp only [fu,h2];grind⟩
   ·intro t ht
    exact (List.mem_cons.1 ht).elim (fun e=>by rw [e];exact hp.nz a (List.mem_cons_self ..)) (h1.nz t)
   intro t ht
   exact (List.mem_cons.1 ht).elim (fun e=>by rw [e];exact la) (h1.len t)
  rename_i c
  split
  ·rename_i c'
   obtain ⟨h1,h2⟩:=qa (a :: p) q hp hq.tail
   refine ⟨⟨List.pairwise_cons.2 ⟨top h1 (fun u hu=>(List.mem_cons.1 hu).elim (fun e=>by rw [e];exact c') (fun e=>mw c' (ga u e))) gb,h1.ord⟩,?_,?_⟩,fun m=>by simp only [fu,h2];grind⟩
   ·intro t ht
    exact (List.mem_cons.1 ht).elim (fun e=>by rw [e];exact hq.nz b (List.mem_cons_self ..)) (h1.nz t)
   intro t ht
   exact (List.mem_cons.1 ht).elim (fun e=>by rw [e];exact lb) (h1.len t)
  rename_i c'
  have e:=tE (la.trans lb.symm) (by simpa using c) (by simpa using c')
  obtain ⟨h1,h2⟩:=qa p q hp.tail hq.tail
  split
  ·rename_i z
   refine ⟨h1,fun m=>?_⟩
   simp only [fu,h2,<- e]
   have:b.2 = -a.2:=by grind
   rw [this];grind
  rename_i z
  refine ⟨⟨List.pairwise_cons.2 ⟨top h1 ga (fun u hu=>by rw [e];exact gb u hu),h1.ord⟩,?_,?_⟩,fun m=>?_⟩
  ·intro t ht
   exact (List.mem_cons.1 ht).elim (fun e=>by rw [e];exact z) (h1.nz t)
  ·intro t ht
   exact (List.mem_cons.1 ht).elim (fun e=>by rw [e];exact la) (h1.len t)
  simp only [fu,h2,<- e];grind
termination_by p q=>p.length+q.length
theorem JJ {α:Type}:∀ {l:List α} {i:Nat} (h:i<l.length),∃ a b,l=a++l[i] :: b/\a.length=i
 | x :: l,0,_=>⟨[],l,rfl,rfl⟩
 | x :: l,i+1,h=>by
  obtain ⟨a,b,h1,h2⟩:=JJ (l:=l) (i:=i) (by simpa using h)
  exact ⟨x :: a,b,by simp only [List.getElem_cons_succ,List.cons_append];rw [<- h1],by simp [h2]⟩
theorem y6 {α:Type} (a b:List α) (x y:α):(a++x :: b).set a.length y=a++y :: b:=by
 rw [List.set_append_right _ _ (Nat.le_refl _),Nat.sub_self]
 rfl
theorem Hf {α:Type} (a b:List α) (x d:α):(((a++x :: b).set a.length ((a++x :: b).getD ((a++x :: b).length-1) d)).take ((a++x :: b).length-1)).Perm (a++b):=by
 rcases List.eq_nil_or_concat b with rfl | ⟨b',y,rfl⟩
 ·have e:(a++[x]).length-1=a.length:=by simp
  rw [e,y6,List.take_left',List.append_nil]
  rfl
 have e:(a++x :: (b'++[y])).length-1=(a++x :: b').length:=Q3
 have e1:(a++x :: (b'++[y])).getD ((a++x :: (b'++[y])).length-1) d=y:=by
  rw [e,show a++x :: (b'++[y])=(a++x :: b')++[y] by simp]
  simp
 have h1:∀ z:α,(a++x :: b').length=(a++z :: b').length:=fun z=>Q3
 have e3:(a++y :: (b'++[y])).take ((a++x :: b').length)=a++y :: b':=by
  rw [h1 y,show a++y :: (b'++[y])=(a++y :: b')++[y] by simp]
  exact List.take_left' rfl
 rw [List.concat_eq_append,e1,y6,e,e3]
 refine List.Perm.append_left a ?_
 simpa using (List.perm_append_comm (l₁:=[y]) (l₂:=b'))
def iM (p:List Tm) (e:Ex) (c:Rat):List Tm :=
 if c=0 then p else match p.findIdx? (fun t=>t.1==e) with
  | none=>p++[(e,c)]
  | some i=>if (p.getD i ([],0)).2+c=0 then (p.set i (p.getD (p.length-1) ([],0))).take (p.length-1) else p.set i (e,(p.getD i ([],0)).2+c)
theorem iI.perm {n:Nat} {p q:List Tm} (h:iI n p) (hp:p.Perm q):iI n q :=
 ⟨(hp.pairwise_iff (fun h=>fun e=>h e.symm)).1 h.ne,(fun t ht=>h.nz t (hp.mem_iff.2 ht)),(fun t ht=>h.len t (hp.mem_iff.2 ht))⟩
theorem xX {n:Nat} {p:List Tm} {e:Ex} {c:Rat} (h:iI n p) (he:e.length=n):iI n (iM p e c)/\∀ m,fu m (iM p e c)=fu m p+c*m e:=by
 unfold iM
 split
 ·rename_i z
  exact ⟨h,fun m=>by rw [z];grind⟩
 rename_i z
 split
 ·rename_i hn
  have f:∀ t∈p,t.1≠e:=fun t ht hh=>by
   have:=List.findIdx?_eq_none_iff.1 hn t ht
   simp [hh] at this
  refine ⟨⟨List.pairwise_append.2 ⟨h.ne,Q3,fun a ha b hb=>?_⟩,?_,?_⟩,fun m=>?_⟩
  ·rw [List.mem_singleton] at hb
   rw [hb];exact f a ha
  ·intro t ht
   rcases List.mem_append.1 ht with g | g
   ·exact h.nz t g
   rw [List.mem_singleton] at g
   rw [g];exact z
  ·intro t ht
   rcases List.mem_append.1 ht with g | g
   ·exact h.len t g
   rw [List.mem_singleton] at g
   rw [g];exact he
  rw [iO];simp only [fu];grind
 rename_i i hs
 obtain ⟨hi,hx,_⟩:=List.findIdx?_eq_some_iff_getElem.1 hs
 obtain ⟨a,b,e1,e2⟩:=JJ hi
 have hg:p.getD i ([],0)=p[i]:=by simp [List.getD_eq_getElem?_getD,hi]
 have d:p[i].1=e:=by simpa using hx
 rw [hg]
 generalize p[i]=x at *
 subst e1
 have lx:fu=fu:=rfl
 have hp:(a++x :: b).Perm (x :: (a++b)):=List.perm_middle
 have hd:=h.perm hp
 have hl:∀ m,fu m (a++x :: b)=x.2*m e+fu m (a++b):=fun m=>by rw [oX m hp];simp only [fu,d]
 split
 ·rename_i z'
  have hq:=Hf a b x ([],0)
  rw [e2] at hq
  refine ⟨hd.tail.perm hq.symm,fun m=>?_⟩
  rw [oX m hq,hl]
  have:c = -x.2:=by grind
  rw [this];grind
 rename_i z'
 rw [<- e2,y6]
 have hp':(a++(e,x.2+c) :: b).Perm ((e,x.2+c) :: (a++b)):=List.perm_middle
 refine ⟨iI.perm ⟨List.pairwise_cons.2 ⟨fun u hu=>?_,hd.tail.ne⟩,fun t ht=>?_,fun t ht=>?_⟩ hp'.symm,fun m=>?_⟩
 ·have:=(List.pairwise_cons.1 hd.ne).1 u hu
  rw [d] at this
  exact this
 ·exact (List.mem_cons.1 ht).elim (fun g=>by rw [g];exact z') (hd.tail.nz t)
 ·exact (List.mem_cons.1 ht).elim (fun g=>by rw [g];exact he) (hd.tail.len t)
 rw [oX m hp',hl];simp only [fu];grind
end Go.Proofs.YtfbgaddecbiimaaGreatDoor.G
end
section
namespace Go.Proofs.YtfbgaddecbiimaaGreatDoor.Q
open Go.RowKit Go.Proofs.YtfbgaddecbiimaaGreatDoorW.PrintWords Go.Proofs.YtfbgaddecbiimaaGreatDoorW.PrintMore Go.Proofs.YtfbgaddecbiimaaGreatDoor.V Go.Proofs.YtfbgaddecbiimaaGreatDoor.E
open Go.Proofs.YtfbgaddecbiimaaGreatDoor.P (Dg Nm vl WW RR bu gI aX jq jY dD aH bw aW cD cy u64)
open Go.Proofs.YtfbgaddecbiimaaGreatDoor.G (Ex Tm fu co iY jL iI)
theorem G8:∀ {a b:List Int},a.length=b.length->(hJ a b↔G.hJ a b=true)
 | [],[],_=>by simp [hJ,cZ,G.hJ]
 | [],_ :: _,h=>by simp at h
 | _ :: _,[],h=>by simp at h
 | a :: x,b :: y,h=>by
  have ih:=G8 (a:=x) (b:=y) (by simpa using h)
  unfold hJ at ih ⊢
  rw [Ab,G.hJ]
  by_cases c:a=b
  ·rw [if_pos c,<- ih]
   constructor
   ·rintro (g | g)
    ·omega
    exact g.2
   exact fun g=>.inr ⟨c,g⟩
  rw [if_neg c,decide_eq_true_eq]
  constructor
  ·rintro (g | g)
   ·exact g
   exact absurd g.1 c
  exact fun g=>.inl g
structure RelP (n:Nat) (p:aA) (l:List Tm):Prop where
 n_:p.1=(n:Int)
 len:p.2.1.length=l.length
 at_:∀ i (h:i<l.length),(cK p i).1=l[i].1/\RB WW (cK p i).2.1 l[i].2
structure RelR (r:List ah) (l:List Tm) (K:Nat):Prop where
 len:r.length=l.length
 at_:∀ i (h:i<l.length),(mQ r i).1=dW l[i].1/\RB RR (mQ r i).2.1 l[i].2/\Sz RR K l[i].2
theorem GB {v:bJ} {q:Rat} {K:Nat} (h:RB RR v q) (hs:Sz RR K q) (hK:K<1073741824):∃ r,Ev (fun k=>fi k v) r/\RB WW r q:=GA h hs hK
theorem fY {x:List Int} (h:x.length<=8):(dW x).take x.length=x:=by
 rw [dW,cN _ _ _ h,List.take_left]
theorem KR {x y:List Int} (hx:x.length<=8) (h:x.length=y.length) (e:dW x=dW y):x=y:=by
 rw [<- fY hx,e,h,fY Q2]
theorem DF {a:aA} {r:List ah} {la lr:List Tm} {n K:Nat} (hn:n<=8) (ha:RelP n a la) (hr:RelR r lr K) (hf:LZ a) (hK:K<1073741824) (hlen:lr.length<=100000) (sa:jL n la) (dr:iI n lr) (he:iY la lr):Ev (fun k=>fI k a r (n:Int)) true:=by
 have ex:∀ i,∃ c:bJ,∀ h:i<lr.length,Ev (fun k=>fi k (mQ r i).2.1) c/\RB WW c lr[i].2:=fun i=>by
  by_cases h:i<lr.length
  ·obtain ⟨h1,h2,h3⟩:=hr.at_ i h
   obtain ⟨c,c1,c2⟩:=GB h2 h3 hK
   exact ⟨c,fun _=>⟨c1,c2⟩⟩
  exact ⟨(false,[],[],()),fun h'=>absurd h' h⟩
 obtain ⟨gH,p⟩:=Classical.axiomOfChoice ex
 have l8:∀ i (h:i<lr.length),lr[i].1.length=n:=fun i h=>dr.len _ (List.getElem_mem h)
 have hT:LU r gH:=by
  refine ⟨by rw [hr.len];exact hlen,fun i h=>?_,fun i j h1 h2 hne=>?_,fun i h=>(p i (by rw [<- hr.len];exact h)).1⟩
  ·rw [(hr.at_ i (by rw [<- hr.len];exact h)).1];exact eA _ _ _
  have f:i<lr.length:=by rw [<- hr.len];exact h1
  have l:j<lr.length:=by rw [<- hr.len];exact h2
  rw [(hr.at_ i f).1,(hr.at_ j l).1]
  intro e
  have e':=KR (by rw [l8 i f];exact hn) ((l8 i f).trans (l8 j l).symm) e
  have hp:=List.pairwise_iff_getElem.1 dr.ne
  rcases Nat.lt_or_gt_of_ne hne with g | g
  ·exact hp i j f l g e'
  exact hp j i l f g e'.symm
 obtain ⟨ch,c1,c2,c3⟩:=KH hT hn
 have s:∀ c∈ch,c<lr.length:=fun c hc=>by
  have:=List.mem_range.1 (c1.mem_iff.1 hc)
  rw [hr.len] at this
  exact this
 let ls:List Tm:=ch.map fun i=>lr.getD i ([],0)
 have hls:ls.Perm lr:=by
  have h1:=c1.map fun i=>lr.getD i ([],0)
  have h2:(List.range r.length).map (fun i=>lr.getD i ([],0))=lr:=by
   rw [hr.len]
   apply List.ext_getElem Q3
   intro i g1 g2
   simp [List.getD_eq_getElem?_getD,g2]
  rw [h2] at h1
  exact h1
 have ss:jL n ls:=by
  refine ⟨?_,fun t ht=>dr.nz t (hls.mem_iff.1 ht),fun t ht=>dr.len t (hls.mem_iff.1 ht)⟩
  rw [List.pairwise_map]
  refine c2.imp_of_mem (fun {x y} hx hy h=>?_)
  have d:=s x hx
  have o:=s y hy
  rw [(hr.at_ x d).1,(hr.at_ y o).1] at h
  have e1:lr.getD x ([],0)=lr[x]:=by simp [List.getD_eq_getElem?_getD,d]
  have e2:lr.getD y ([],0)=lr[y]:=by simp [List.getD_eq_getElem?_getD,o]
  rw [e1,e2]
  unfold hJ at h
  rw [CM (by rw [l8 x d];exact hn) ((l8 x d).trans (l8 y o).symm)] at h
  exact (G8 ((l8 x d).trans (l8 y o).symm)).1 h
 have u:la=ls:=jL.uniq sa ss (fun e=>by
  have h1:=he.co e
  have h2:co ls e=co lr e:=G.oX _ hls
  rw [h1,h2])
 have v:la.length=ch.length:=by rw [u];simp [ls]
 have q:a.2.1=ch.map (Ar r gH n):=by
  apply List.ext_getElem (by rw [ha.len,v,List.length_map])
  intro i h1 h2
  have hi:i<la.length:=by rw [<- ha.len];exact h1
  have w:i<ch.length:=by rw [<- v];exact hi
  obtain ⟨g1,g2⟩:=ha.at_ i hi
  have et:cK a i=a.2.1[i]:=cA h1
  have hc:=s ch[i] (List.getElem_mem w)
  have el:la[i]=lr[ch[i]]:=by
   have:la[i]=ls[i]'(by rw [<- u];exact hi):=by simp only [u]
   rw [this]
   simp [ls,List.getD_eq_getElem?_getD,hc]
  rw [<- et,List.getElem_map]
  have k1:(cK a i).1=(mQ r ch[i]).1.take n:=by
   rw [g1,el,(hr.at_ _ hc).1,<- l8 _ hc,fY (by rw [l8 _ hc];exact hn)]
  have k2:(cK a i).2.1=gH ch[i]:=by
   rw [el] at g2
   exact Fj aH g2 (p _ hc).2
  exact Prod.ext k1 (Prod.ext k2 rfl)
 have m:=zi (b:=((n:Int),ch.map (Ar r gH n),())) hf
 rw [fD ⟨ha.n_,q⟩] at m
 exact Ev.step (fun k=>o7 k a r _) (Ev.bind c3 (Ev.bind m (aX _)))
def kb (e:Int):List Int:=[(shr .i64 e (24:Int)) % 256,(shr .i64 e (16:Int)) % 256,(shr .i64 e (8:Int)) % 256,e % 256]
def uL (x:List Int):List Int:=x.flatMap kb
theorem Ci:∀ x:List Int,(uL x).length=4*x.length
 | []=>rfl
 | e :: x=>by
  have:=Ci x
  simp only [uL,List.flatMap_cons,List.length_append,List.length_cons] at this ⊢
  simp only [kb,List.length_cons,List.length_nil]
  omega
theorem DR (x:List Int) (h:x.length<=8):Ev (fun k=>gZ k x) (strOfNums (uL x)):=by
 have e4:wrap64 ((4:Int)*(x.length:Int))=4*(x.length:Int):=cy Q2 Q2
 have main:=nL (n:=x.length) (P:=fun i=>aL (fun k m=>gZ.l0 k m x (x.length:Int) (i:Int) (uL (x.take i))) (strOfNums (uL x))) ?_ ?_ 0 (Nat.zero_le _)
 ·refine Ev.step (fun k=>DS k x) (iT (by rw [e4];unfold maxLen;omega) ?_)
  exact main.diag
 ·rw [List.take_length]
  exact aL.step (fun k m=>gZ.aM k m _ _ _ _) (aL.bF (decide_eq_false Q2) (aL.of (aX _)))
 intro i hi ih
 have e1:(cE (t:=(.int .i64)) x (i:Int):Int)=x[i]:=cA hi
 have hk:=Ci (x.take i)
 rw [List.length_take] at hk
 refine aL.step (fun k m=>gZ.aM k m _ _ _ _) (aL.bT (decide_eq_true Q2) (aL.iT Q2 (aL.iT (by simp only [List.length_cons,List.length_nil];omega) ?_)))
 rw [e1,fz Q2]
 have:uL (x.take i)++kb x[i]=uL (x.take (i+1)):=by
  simp only [uL]
  rw [List.take_succ_eq_append_getElem hi,List.flatMap_append]
  simp
 have a:=ih
 rw [<- this] at a
 exact a
theorem key_inj:∀ {x y:List Int},x.length=y.length->(∀ e∈x,0<=e/\e<256)->(∀ e∈y,0<=e/\e<256)->(strOfNums (uL x)).data.toList=(strOfNums (uL y)).data.toList->x=y
 | [],[],_,_,_,_=>rfl
 | [],_ :: _,h,_,_,_=>by simp at h
 | _ :: _,[],h,_,_,_=>by simp at h
 | a :: x,b :: y,h,hx,hy,he=>by
  have ih:=key_inj (x:=x) (y:=y) (by simpa using h) (fun e he=>hx e (by simp [he])) (fun e he=>hy e (by simp [he]))
  have ha:=hx a Q3
  have hb:=hy b Q3
  simp only [strOfNums,uL,List.flatMap_cons,kb,List.cons_append,List.nil_append,List.map_cons,List.cons.injEq] at he ih
  obtain ⟨_,_,_,h4,h5⟩:=he
  have h6:=congrArg UInt8.toNat h4
  simp only [UInt8.toNat_ofNat'] at h6
  rw [ih h5,show a=b by omega]
noncomputable def iK (v:bJ):Rat:=Rat.divInt (sg v.1 (vl WW v.2.1)) (vl WW v.2.2.1)
theorem mU {v:bJ} {q:Rat} (h:RB WW v q):iK v=q:=by
 have h1:=Iw h
 unfold iK
 rw [h.2.1.2.2,h.2.2.2.2]
 exact h1
def EV (K:Nat) (v:bJ):Prop:=∃ q,RB WW v q/\Sz WW K q
theorem EV.rb {K:Nat} {v:bJ} (h:EV K v):RB WW v (iK v)/\Sz WW K (iK v):=by
 obtain ⟨q,h1,h2⟩:=h
 rw [mU h1]
 exact ⟨h1,h2⟩
theorem EV.mono {K L:Nat} {v:bJ} (h:EV K v) (hk:K<=L):EV L v:=by
 obtain ⟨q,h1,h2⟩:=h
 exact ⟨q,h1,pL aH h2 hk⟩
noncomputable def jw (t:ah):Tm:=(t.1,iK t.2.1)
noncomputable def dY (l:List ah):List Tm:=l.map jw
def lT (n K:Nat) (t:ah):Prop:=t.1.length=n/\(∀ e∈t.1,0<=e/\e<256)/\EV K t.2.1
def Hy:List (ByteArray×Int)->ByteArray->Option Int
 | [],_=>none
 | x :: l,k=>match k.data.toList==x.1.data.toList with
  | true=>some x.2
  | false=>Hy l k
theorem Fz:∀ (l:List (ByteArray×Int)) (k:ByteArray),(V.ku l k).map (·.2)=Hy l k
 | [],k=>rfl
 | x :: l,k=>by
  have ih:=Fz l k
  rw [V.ku,Hy]
  cases k.data.toList==x.1.data.toList with
  | true=>rfl
  | false =>
   dsimp only
   rw [Option.map_map,<- ih]
   rfl
theorem FA (l:List (ByteArray×Int)) (k:ByteArray):oV l k=match Hy l k with
 | some n=>(n,true,())
 | none=>(0,false,()):=by
 rw [<- Fz,oV]
 cases V.ku l k<;>rfl
theorem Fy (k:ByteArray) (n:Int) (k':ByteArray):∀ l:List (ByteArray×Int),Hy (V.ks l k n) k'=if k'.data.toList=k.data.toList then some n else Hy l k'
 | []=>by
  show (match k'.data.toList==k.data.toList with
   | true=>some n
   | false=>none)=if k'.data.toList=k.data.toList then some n else none
  by_cases c:k'.data.toList=k.data.toList
  ·rw [if_pos c,beq_iff_eq.2 c]
  rw [if_neg c,beq_eq_false_iff_ne.2 c]
 | x :: l=>by
  have ih:=Fy k n k' l
  rw [V.ks]
  by_cases d:k.data.toList=x.1.data.toList
  ·rw [beq_iff_eq.2 d]
   dsimp only
   rw [Hy,Hy]
   by_cases c:k'.data.toList=k.data.toList
   ·rw [if_pos c,beq_iff_eq.2 c]
   rw [if_neg c,beq_eq_false_iff_ne.2 c,beq_eq_false_iff_ne.2 (fun e=>c (e.trans d.symm))]
  rw [beq_eq_false_iff_ne.2 d]
  dsimp only
  rw [Hy,Hy,ih]
  by_cases c:k'.data.toList=x.1.data.toList
  ·have hk:¬ k'.data.toList=k.data.toList:=fun e=>d (e.symm.trans c)
   rw [beq_iff_eq.2 c]
   dsimp only
   rw [if_neg hk]
  rw [beq_eq_false_iff_ne.2 c]
noncomputable abbrev G1 (e:List Int):ByteArray:=strOfNums (uL e)
def qx (n:Nat) (mp:List (ByteArray×Int)) (l:List ah):Prop:=∀ e:List Int,e.length=n->(∀ x∈e,0<=x/\x<256)->(∀ j (h:j<l.length),l[j].1=e->Hy mp (G1 e)=some (j:Int))/\((∀ j (h:j<l.length),l[j].1≠e)->Hy mp (G1 e)=none)
theorem qx.nil (n:Nat):qx n [] []:=fun e _ _=>⟨fun j h=>by simp at h,fun _=>rfl⟩
theorem qx.add {n:Nat} {mp:List (ByteArray×Int)} {l:List ah} (h:qx n mp l) {t:ah} (h1:t.1.length=n) (h2:∀ x∈t.1,0<=x/\x<256) (hne:∀ j (h:j<l.length),l[j].1≠t.1):qx n (V.ks mp (G1 t.1) (l.length:Int)) (l++[t]):=by
 intro e g1 g2
 rw [Fy]
 obtain ⟨a1,a2⟩:=h e g1 g2
 by_cases c:e=t.1
 ·subst c
  rw [if_pos rfl]
  refine ⟨fun j hj hje=>?_,fun hn=>absurd Q3 (hn l.length Q3)⟩
  by_cases d:j<l.length
  ·rw [List.getElem_append_left d] at hje
   exact absurd hje (hne j d)
  have:j=l.length:=by simp at hj;omega
  rw [this]
 rw [if_neg (fun he=>c (key_inj (g1.trans h1.symm) g2 h2 he))]
 refine ⟨fun j hj hje=>?_,fun hn=>a2 (fun j hj=>?_)⟩
 ·by_cases d:j<l.length
  ·rw [List.getElem_append_left d] at hje
   exact a1 j d hje
  have:j=l.length:=by simp at hj;omega
  subst this
  rw [List.getElem_append_right (Nat.le_refl _)] at hje
  simp at hje
  exact absurd hje.symm c
 have:=hn j (by simp;omega)
 rwa [List.getElem_append_left hj] at this
theorem qx.set {n:Nat} {mp:List (ByteArray×Int)} {l:List ah} (h:qx n mp l) (i:Nat) (t:ah) (ht:∀ (hi:i<l.length),t.1=l[i].1):qx n mp (l.set i t):=by
 have e:∀ j (h1:j<(l.set i t).length),(l.set i t)[j].1=(l[j]'(by simpa using h1)).1:=fun j h1=>by
  rw [List.getElem_set]
  by_cases c:i=j
  ·subst c;rw [if_pos rfl];exact ht (by simpa using h1)
  rw [if_neg c]
 intro x g1 g2
 obtain ⟨a1,a2⟩:=h x g1 g2
 exact ⟨fun j hj hje=>a1 j (by simpa using hj) (by rw [<- e j hj];exact hje),fun hn=>a2 (fun j hj=>by rw [<- e j (by simpa using hj)];exact hn j (by simpa using hj))⟩
abbrev NeL (l:List ah):Prop:=l.Pairwise fun a b=>a.1≠b.1
noncomputable def rq (t:ah):Bool:=dc (iK t.2.1≠0)
theorem yZ {q:Rat}:(Dx q != (0:Int))=dc (q≠0):=by
 refine CH ?_
 rw [bne,lX]
 simp
theorem eu (t:ah) (l:List ah):dY (t :: l)=jw t :: dY l:=rfl
theorem mK (a b:List ah):dY (a++b)=dY a++dY b:=List.map_append
theorem FF (m:Ex->Rat):∀ (l:List Tm) (i:Nat) (h:i<l.length) (t:Tm),t.1=l[i].1->fu m (l.set i t)=fu m l+(t.2-l[i].2)*m t.1
 | [],i,h,_,_=>by simp at h
 | u :: l,0,_,t,e=>by
  have e':t.1=u.1:=e
  show t.2*m t.1+fu m l=u.2*m u.1+fu m l+(t.2-u.2)*m t.1
  rw [e']
  grind
 | u :: l,i+1,h,t,e=>by
  have ih:=FF m l i (by simpa using h) t e
  show u.2*m u.1+fu m (l.set i t)=u.2*m u.1+fu m l+(t.2-(l[i]'(by simpa using h)).2)*m t.1
  rw [ih]
  grind
section
variable {n K:Nat}
theorem CK {l:List ah} (hn:n<=8) (hl:l.length<=100000) (hok:∀ t∈l,lT n K t) (hne:NeL l) :
 Ev (fun k=>bf.l1 k k l (l.length:Int) (0:Int) ((0:Int),[],()) (n:Int) ([]:List ah)) ((n:Int),ic (l.filter rq),()):=by
 have d:(l.filter rq).Pairwise fun a b=>b.1.length=a.1.length/\a.1≠b.1:=by
  refine (hne.sublist (List.filter_sublist)).imp_of_mem (fun {a b} ha hb h=>⟨?_,h⟩)
  rw [(hok a (List.mem_filter.1 ha).1).1,(hok b (List.mem_filter.1 hb).1).1]
 have hs:Ba (l.filter rq)=some (ic (l.filter rq)):=by
  unfold Ba
  have h1:KW (l.filter rq)=true:=uU.2 d
  have h2:Nat.ble (l.filter rq).length 1000000000=true:=Nat.ble_eq_true_of_le (by have:=List.length_filter_le rq l;omega)
  have h3:Nat.ble ((l.filter rq).headD (Ty.zero j5)).1.length 1000000000=true:=by
   apply Nat.ble_eq_true_of_le
   cases hc:l.filter rq with
   | nil=>show ([]:List Int).length<=_;exact Nat.zero_le _
   | cons a r =>
    have:a∈l.filter rq:=by rw [hc];simp
    have:=(hok a (List.mem_filter.1 this).1).1
    show a.1.length<=_
    omega
  rw [h1,h2,h3]
 have main:=nL (n:=l.length) (P:=fun i=>aL (fun k m=>bf.l1 k m l (l.length:Int) (i:Int) ((0:Int),[],()) (n:Int) ((l.take i).filter rq)) ((n:Int),ic (l.filter rq),())) ?_ ?_ 0 (Nat.zero_le _)
 ·exact main.diag
 ·rw [List.take_length]
  exact aL.step (fun k m=>bf.eH k m _ _ _ _ _ _) (aL.bF (decide_eq_false Q2) (aL.bind (jq hs) (aL.of (aX _))))
 intro i hi ih
 have e:(cE (t:=aj) l (i:Int):ah)=l[i]:=cA hi
 obtain ⟨o1,o2,o3⟩:=hok l[i] (List.getElem_mem hi)
 have g:=oP o3.rb.1
 have f:=List.length_filter_le rq (l.take i)
 rw [List.length_take] at f
 rw [List.take_succ_eq_append_getElem hi,List.filter_append] at ih
 refine aL.step (fun k m=>bf.eH k m _ _ _ _ _ _) (aL.bT (decide_eq_true Q2) (aL.iT Q2 ?_))
 rw [e]
 refine aL.bind g ?_
 have c:∀ acc,aL (fun k m=>bf.l1 k m l (l.length:Int) ((i+1:Nat):Int) ((0:Int),[],()) (n:Int) acc) ((n:Int),ic (l.filter rq),())->aL (fun k m=>bf.j1 k m l (l.length:Int) (i:Int) ((0:Int),[],()) (n:Int) acc) ((n:Int),ic (l.filter rq),()):=fun acc h=>by
  show aL (fun k m=>bf.l1 k m l (l.length:Int) (wrap64 ((i:Int)+(1:Int))) ((0:Int),[],()) (n:Int) acc) _
  rw [fz Q2]
  exact h
 cases hz:rq l[i] with
 | true =>
  rw [show [l[i]].filter rq=[l[i]] by simp [hz]] at ih
  refine aL.bT (by rw [yZ];exact hz) (aL.iT (by simp only [List.length_cons,List.length_nil];omega) (c _ ih))
 | false =>
  rw [show [l[i]].filter rq=[] by simp [hz],List.append_nil] at ih
  exact aL.bF (by rw [yZ];exact hz) (c _ ih)
theorem CJ {l:List ah} (hn:n<=8) (hl:l.length<=100000) (hK:(l.length+1)*(K+1)<=200000000) (hok:∀ t∈l,lT n K t) :
 ∃ sl:List ah,sl.length<=l.length/\(∀ t∈sl,lT n (l.length*(K+1)) t)/\NeL sl/\(∀ m,fu m (dY sl)=fu m (dY l)) /\
  ∀ R,Ev (fun k=>bf.l1 k k sl (sl.length:Int) (0:Int) ((0:Int),[],()) (n:Int) ([]:List ah)) R->Ev (fun k=>bf k (n:Int) l) R:=by
 have s:=nL (n:=l.length) (P:=fun i=>∀ mp (sl:List ah),qx n mp sl->(∀ t∈sl,lT n (i*(K+1)) t)->NeL sl->sl.length<=i->(∀ m,fu m (dY sl)=fu m (dY (l.take i))) ->
  ∃ sl':List ah,sl'.length<=l.length/\(∀ t∈sl',lT n (l.length*(K+1)) t)/\NeL sl'/\(∀ m,fu m (dY sl')=fu m (dY l)) /\
   ∀ R,Ev (fun k=>bf.l1 k k sl' (sl'.length:Int) (0:Int) ((0:Int),[],()) (n:Int) ([]:List ah)) R->aL (fun k m=>bf.l0 k m (n:Int) mp l (l.length:Int) (i:Int) ((0:Int),[],()) sl) R) ?_ ?_ 0 (Nat.zero_le _) [] [] (qx.nil n) (fun t h=>by cases h) .nil (Nat.zero_le _) (fun m=>rfl)
 ·obtain ⟨sl,h1,h2,h3,h4,h5⟩:=s
  exact ⟨sl,h1,h2,h3,h4,fun R hR=>Ev.step (fun k=>vQ k _ _) (h5 R hR).diag⟩
 ·intro mp sl h1 h2 h3 h4 h5
  rw [List.take_length] at h5
  exact ⟨sl,h4,h2,h3,h5,fun R hR=>aL.step (fun k m=>bf.aM k m _ _ _ _ _ _ _) (aL.bF (decide_eq_false Q2) (aL.of hR))⟩
 intro i hi ih mp sl h1 h2 h3 h4 h5
 have e:(cE (t:=aj) l (i:Int):ah)=l[i]:=cA hi
 obtain ⟨o1,o2,o3⟩:=hok l[i] (List.getElem_mem hi)
 have o:=DR l[i].1 Q2
 have q:∀ m,fu m (dY (l.take (i+1)))=fu m (dY (l.take i))+iK l[i].2.1*m l[i].1:=fun m=>by
  rw [List.take_succ_eq_append_getElem hi,mK,G.iO]
  show _+(iK l[i].2.1*m l[i].1+0)=_
  grind
 have B:(i+1)*(K+1)=i*(K+1)+(K+1):=Nat.succ_mul _ _
 have A:(i+1)*(K+1)<=200000000:=Nat.le_trans (Nat.mul_le_mul_right _ Q2) hK
 have g:∀ mp' sl' R,aL (fun k m=>bf.l0 k m (n:Int) mp' l (l.length:Int) ((i+1:Nat):Int) ((0:Int),[],()) sl') R->aL (fun k m=>bf.j0 k m (n:Int) mp' l (l.length:Int) (i:Int) ((0:Int),[],()) sl') R:=fun mp' sl' R h=>by
  show aL (fun k m=>bf.l0 k m (n:Int) mp' l (l.length:Int) (wrap64 ((i:Int)+(1:Int))) ((0:Int),[],()) sl') R
  rw [fz Q2]
  exact h
 obtain ⟨a1,a2⟩:=h1 l[i].1 o1 o2
 by_cases c:∃ j,∃ h:j<sl.length,sl[j].1=l[i].1
 ·obtain ⟨j,hj,p⟩:=c
  have hm:oV mp (G1 l[i].1)=((j:Int),true,()):=by rw [FA,a1 j hj p]
  obtain ⟨p1,p2,p3⟩:=h2 sl[j] (List.getElem_mem hj)
  obtain ⟨v,v1,v2,v3⟩:=vW p3.rb.1 o3.rb.1 p3.rb.2 o3.rb.2 Q2
  have ej:(cE (t:=aj) sl (j:Int):ah)=sl[j]:=cA hj
  have hv:iK v=iK sl[j].2.1+iK l[i].2.1:=mU v2
  have q1:∀ t∈sl.set j (sl[j].1,v,sl[j].2.2),lT n ((i+1)*(K+1)) t:=fun t ht=>by
   rcases List.mem_or_eq_of_mem_set ht with ht | rfl
   ·obtain ⟨b1,b2,b3⟩:=h2 t ht
    exact ⟨b1,b2,b3.mono Q2⟩
   exact ⟨p1,p2,⟨_,v2,pL aH v3 Q2⟩⟩
  have q2:NeL (sl.set j (sl[j].1,v,sl[j].2.2)):=by
   rw [NeL,List.pairwise_iff_getElem]
   intro x y hx hy hxy
   have hp:=List.pairwise_iff_getElem.1 h3
   have es:∀ z (hz:z<(sl.set j (sl[j].1,v,sl[j].2.2)).length),(sl.set j (sl[j].1,v,sl[j].2.2))[z].1=(sl[z]'(by simpa using hz)).1:=fun z hz=>by
    rw [List.getElem_set]
    by_cases d:j=z
    ·subst d;rw [if_pos rfl]
    rw [if_neg d]
   rw [es x hx,es y hy]
   exact hp x y (by simpa using hx) (by simpa using hy) hxy
  have q3:∀ m,fu m (dY (sl.set j (sl[j].1,v,sl[j].2.2)))=fu m (dY (l.take (i+1))):=fun m=>by
   have u:dY (sl.set j (sl[j].1,v,sl[j].2.2))=(dY sl).set j (sl[j].1,iK v):=by
    simp only [dY,List.map_set]
    rfl
   have w:j<(dY sl).length:=by simpa [dY] using hj
   have r:(dY sl)[j]=jw sl[j]:=by simp [dY]
   rw [u,FF m (dY sl) j w _ (by rw [r];rfl),r,h5,q]
   show _+(iK v-iK sl[j].2.1)*m sl[j].1=_
   rw [hv,p]
   grind
  obtain ⟨sl',g1,g2,g3,g4,g5⟩:=ih mp (sl.set j (sl[j].1,v,sl[j].2.2)) (h1.set j _ (fun _=>rfl)) q1 q2 (by rw [List.length_set];omega) q3
  refine ⟨sl',g1,g2,g3,g4,fun R hR=>?_⟩
  refine aL.step (fun k m=>bf.aM k m _ _ _ _ _ _ _) (aL.bT (decide_eq_true Q2) (aL.iT Q2 ?_))
  rw [e]
  refine aL.bind o ?_
  rw [hm]
  refine aL.bF rfl (aL.iT Q2 ?_)
  rw [ej]
  refine aL.bind v1 (aL.iT Q2 (g _ _ _ ?_))
  rw [Int.toNat_natCast]
  exact g5 R hR
 have f:∀ j (h:j<sl.length),sl[j].1≠l[i].1:=fun j h he=>c ⟨j,h,he⟩
 have hm:oV mp (G1 l[i].1)=(0,false,()):=by rw [FA,a2 f]
 have q1:∀ t∈sl++[l[i]],lT n ((i+1)*(K+1)) t:=fun t ht=>by
  rw [List.mem_append,List.mem_singleton] at ht
  rcases ht with ht | rfl
  ·obtain ⟨b1,b2,b3⟩:=h2 t ht
   exact ⟨b1,b2,b3.mono Q2⟩
  exact ⟨o1,o2,o3.mono Q2⟩
 have q2:NeL (sl++[l[i]]):=by
  refine List.pairwise_append.2 ⟨h3,Q3,fun a ha b hb=>?_⟩
  rw [List.mem_singleton] at hb
  subst hb
  obtain ⟨j,hj,rfl⟩:=List.getElem_of_mem ha
  exact f j hj
 have q3:∀ m,fu m (dY (sl++[l[i]]))=fu m (dY (l.take (i+1))):=fun m=>by
  rw [mK,G.iO,h5,q]
  show _+(iK l[i].2.1*m l[i].1+0)=_
  grind
 obtain ⟨sl',g1,g2,g3,g4,g5⟩:=ih (V.ks mp (G1 l[i].1) (sl.length:Int)) (sl++[l[i]]) (h1.add o1 o2 f) q1 q2 (by simp;omega) q3
 refine ⟨sl',g1,g2,g3,g4,fun R hR=>?_⟩
 refine aL.step (fun k m=>bf.aM k m _ _ _ _ _ _ _) (aL.bT (decide_eq_true Q2) (aL.iT Q2 ?_))
 rw [e]
 refine aL.bind o ?_
 rw [hm]
 exact aL.bT rfl (aL.iT (by simp only [List.length_cons,List.length_nil];omega) (g _ _ _ (g5 R hR)))
theorem wq (m:Ex->Rat):∀ l:List ah,fu m (dY (l.filter rq))=fu m (dY l)
 | []=>rfl
 | t :: l=>by
  have ih:=wq m l
  cases h:rq t with
  | true =>
   rw [List.filter_cons_of_pos h,eu,eu]
   show _*_+_=_*_+_
   rw [ih]
  | false =>
   rw [List.filter_cons_of_neg (by simp [h]),eu,ih]
   have hz:iK t.2.1=0:=by
    apply Classical.byContradiction
    intro hne
    rw [rq,fD hne] at h
    cases h
   show _=iK t.2.1*m t.1+_
   rw [hz]
   grind
theorem vP {l:List ah} (hn:n<=8) (hl:l.length<=100000) (hK:(l.length+1)*(K+1)<=200000000) (hok:∀ t∈l,lT n K t) :
 ∃ ls:List ah,Ev (fun k=>bf k (n:Int) l) ((n:Int),ls,())/\ls.length<=l.length/\(∀ t∈ls,lT n (l.length*(K+1)) t)/\jL n (dY ls)/\iY (dY ls) (dY l):=by
 obtain ⟨sl,h1,h2,h3,h4,h5⟩:=CJ hn hl hK hok
 have d:=CK hn Q2 h2 h3
 have hp:=ky (sl.filter rq)
 have f:=List.length_filter_le rq sl
 have c:∀ t∈ic (sl.filter rq),t∈sl/\rq t=true:=fun t ht=>List.mem_filter.1 (hp.mem_iff.1 ht)
 have e:∀ t∈sl.filter rq,t.1.length=n:=fun t ht=>(h2 t (List.mem_filter.1 ht).1).1
 refine ⟨ic (sl.filter rq),h5 _ d,by rw [hp.length_eq];omega,fun t ht=>h2 t (c t ht).1,⟨?_,fun t ht=>?_,fun t ht=>?_⟩,fun m=>?_⟩
 ·have hf:=qE n (sl.filter rq) e (h3.sublist List.filter_sublist)
  rw [dY,List.pairwise_map]
  refine hf.imp_of_mem (fun {a b} ha hb h=>?_)
  exact (G8 ((h2 a (c a ha).1).1.trans (h2 b (c b hb).1).1.symm)).1 h
 ·obtain ⟨u,hu,rfl⟩:=List.mem_map.1 ht
  exact dc_iff.1 (c u hu).2
 ·obtain ⟨u,hu,rfl⟩:=List.mem_map.1 ht
  exact (h2 u (c u hu).1).1
 have h6:fu m (dY (ic (sl.filter rq)))=fu m (dY (sl.filter rq)):=G.oX m (hp.map jw)
 rw [h6,wq,h4]
end
def FU (n:Nat) (a b:List Int) (j:Nat):List Int:=(List.range n).map fun i=>if i<j then a.getD i 0+b.getD i 0 else 0
theorem Jt (n:Nat) (a b:List Int):FU n a b 0=List.replicate n 0:=by
 apply List.ext_getElem (by simp [FU])
 intro i h1 h2
 simp [FU]
theorem Ls {n:Nat} {a b:List Int} {j:Nat} (h:j<n):(FU n a b j).set j (a.getD j 0+b.getD j 0)=FU n a b (j+1):=by
 apply List.ext_getElem (by simp [FU])
 intro i h1 h2
 simp only [FU,List.getElem_set,List.getElem_map,List.getElem_range]
 by_cases c:j=i
 ·subst c;rw [if_pos rfl,if_pos Q2]
 rw [if_neg c]
 by_cases d:i<j
 ·rw [if_pos d,if_pos Q2]
 rw [if_neg d,if_neg Q2]
theorem Ju {n:Nat} {a b:List Int} (ha:a.length=n) (hb:b.length=n):FU n a b n=G.dQ a b:=by
 apply List.ext_getElem (by simp [FU,G.dQ,ha,hb])
 intro i h1 h2
 have hi:i<n:=by simpa [FU] using h1
 simp only [FU,List.getElem_map,List.getElem_range,G.dQ,List.getElem_zipWith,if_pos hi]
 rw [List.getD_eq_getElem?_getD,List.getD_eq_getElem?_getD,List.getElem?_eq_getElem Q2,List.getElem?_eq_getElem Q2]
 rfl
section
variable {n K L:Nat}
theorem zp {l:List ah} {t:ah} (hn:n<=8) (hl:l.length<=100000) (hKL:K+L<1000000) (hok:∀ u∈l,lT n K u) (ht:lT n L t) (hb:∀ u∈l,∀ e∈G.dQ u.1 t.1,0<=e/\e<256) :
 ∃ ls:List ah,Ev (fun k=>cR k ((n:Int),l,()) t) ((n:Int),ls,())/\ls.length=l.length/\(∀ u∈ls,lT n (K+L) u)/\dY ls=G.As (dY l) (jw t):=by
 obtain ⟨t1,t2,t3⟩:=ht
 have c:=nL (n:=l.length) (P:=fun i=>∀ acc:List ah,acc.length=i->∃ ls:List ah,ls.length=l.length-i/\(∀ u∈ls,lT n (K+L) u)/\dY ls=G.As (dY (l.drop i)) (jw t)/\aL (fun k m=>cR.l0 k m l (l.length:Int) (i:Int) ((n:Int),l,()) t ((0:Int),[],()) (n:Int) acc) ((n:Int),acc++ls,())) ?_ ?_ 0 (Nat.zero_le _) [] rfl
 ·obtain ⟨ls,h1,h2,h3,h4⟩:=c
  exact ⟨ls,Ev.step (fun k=>zq k _ _) h4.diag,Q2,h2,h3⟩
 ·intro acc hacc
  exact ⟨[],Q3,(fun u h=>by cases h),by rw [List.drop_length];rfl,aL.step (fun k m=>cR.aM k m _ _ _ _ _ _ _ _) (aL.bF (decide_eq_false Q2) (by rw [List.append_nil];exact aL.of (aX _)))⟩
 intro i hi ih acc hacc
 have e:(cE (t:=aj) l (i:Int):ah)=l[i]:=cA hi
 obtain ⟨o1,o2,o3⟩:=hok l[i] (List.getElem_mem hi)
 have d:=hb l[i] (List.getElem_mem hi)
 obtain ⟨v,v1,v2,v3⟩:=D8 o3.rb.1 t3.rb.1 o3.rb.2 t3.rb.2 Q2
 obtain ⟨ls,h1,h2,h3,h4⟩:=ih (acc++[(G.dQ l[i].1 t.1,v,())]) (by simp [hacc])
 refine ⟨(G.dQ l[i].1 t.1,v,()) :: ls,by simp only [List.length_cons];omega,fun u hu=>?_,?_,?_⟩
 ·rcases List.mem_cons.1 hu with rfl | hu
  ·exact ⟨by rw [G.lD (o1.trans t1.symm)];exact o1,d,⟨_,v2,v3⟩⟩
  exact h2 u hu
 ·rw [dF hi,eu,eu,h3]
  show _ :: _=(G.dQ l[i].1 t.1,iK l[i].2.1*iK t.2.1) :: _
  rw [jw,mU v2]
  rfl
 rw [show acc++(G.dQ l[i].1 t.1,v,()) :: ls=(acc++[(G.dQ l[i].1 t.1,v,())])++ls by simp]
 refine aL.step (fun k m=>cR.aM k m _ _ _ _ _ _ _ _) (aL.bT (decide_eq_true Q2) (aL.iT Q2 (aL.iT (by show (0:Int)<=(n:Int)/\(n:Int)<=(n:Int)/\8*(n:Int).toNat<=281474976710656/\(n:Int).toNat<=maxLen;unfold maxLen;omega) ?_)))
 rw [e]
 show aL (fun k m0=>cR.l1 k k m0 l (l.length:Int) (i:Int) (List.length (List.replicate (Int.toNat (n:Int)) ((0:Int):Int)):Int) (0:Int) ((n:Int),l,()) t ((0:Int),[],()) (n:Int) acc l[i] (List.replicate (Int.toNat (n:Int)) ((0:Int):Int))) _
 rw [Int.toNat_natCast,List.length_replicate,<- Jt n l[i].1 t.1]
 have key:=nL (n:=n) (P:=fun j=>eS (fun k m1 m0=>cR.l1 k m1 m0 l (l.length:Int) (i:Int) (n:Int) (j:Int) ((n:Int),l,()) t ((0:Int),[],()) (n:Int) acc l[i] (FU n l[i].1 t.1 j)) ((n:Int),(acc++[(G.dQ l[i].1 t.1,v,())])++ls,())) ?_ ?_ 0 (Nat.zero_le _)
 ·exact key.diag
 ·rw [Ju o1 t1]
  refine eS.step (fun k m1 m0=>cR.eH k m1 m0 _ _ _ _ _ _ _ _ _ _ _ _) (eS.bF (decide_eq_false Q2) (eS.bind v1 (eS.iT (by simp only [List.length_cons,List.length_nil];omega) (eS.of ?_))))
  rw [fz Q2]
  exact h4
 intro j hj ihj
 have f:(FU n l[i].1 t.1 j).length=n:=by simp [FU]
 have e1:(cE (t:=(.int .i64)) l[i].1 (j:Int):Int)=l[i].1.getD j 0:=rfl
 have e2:(cE (t:=(.int .i64)) t.1 (j:Int):Int)=t.1.getD j 0:=rfl
 have a:j<l[i].1.length:=Q2
 have b:j<t.1.length:=Q2
 have a1:=o2 _ (List.getElem_mem a)
 have a2:=t2 _ (List.getElem_mem b)
 have g1:l[i].1.getD j 0=l[i].1[j]:=by rw [List.getD_eq_getElem?_getD,List.getElem?_eq_getElem a];rfl
 have g2:t.1.getD j 0=t.1[j]:=by rw [List.getD_eq_getElem?_getD,List.getElem?_eq_getElem b];rfl
 refine eS.step (fun k m1 m0=>cR.eH k m1 m0 _ _ _ _ _ _ _ _ _ _ _ _) (eS.bT (decide_eq_true Q2) (eS.iT Q2 (eS.iT Q2 (eS.iT Q2 ?_))))
 rw [e1,e2,fz Q2,cy Q2 Q2,Int.toNat_natCast,Ls hj]
 exact ihj
theorem DT {l l':List ah} (hn:n<=8) (hl:l.length<=60000) (hl':l'.length<=60000) (hll:l.length*l'.length<=60000) (hKL:K+L<3000) (hok:∀ u∈l,lT n K u) (hok':∀ u∈l',lT n L u) (hb:∀ u∈l',∀ t∈l,∀ e∈G.dQ u.1 t.1,0<=e/\e<256) :
 ∃ ls:List ah,Ev (fun k=>fP k ((n:Int),l,()) ((n:Int),l',())) ((n:Int),ls,())/\ls.length<=l.length*l'.length/\(∀ t∈ls,lT n (l.length*l'.length*(L+K+1)) t)/\jL n (dY ls)/\iY (dY ls) (G.prod (dY l) (dY l')):=by
 have a:∀ i,i<=l.length->i*l'.length<=60000:=fun i hi=>Nat.le_trans (Nat.mul_le_mul_right _ hi) hll
 have b:=nL (n:=l.length) (P:=fun i=>∀ acc:List ah,acc.length=i*l'.length->(∀ u∈acc,lT n (L+K) u)->dY acc=G.prod (dY (l.take i)) (dY l') ->
  ∃ ac:List ah,ac.length=l.length*l'.length/\(∀ u∈ac,lT n (L+K) u)/\dY ac=G.prod (dY l) (dY l')/\∀ R,Ev (fun k=>bf k (n:Int) ac) R->aL (fun k m=>fP.l0 k m l (l.length:Int) (i:Int) ((n:Int),l,()) ((n:Int),l',()) ((0:Int),[],()) acc) R) ?_ ?_ 0 (Nat.zero_le _) [] Q3 (fun u h=>by cases h) rfl
 ·obtain ⟨ac,h1,h2,h3,h4⟩:=b
  obtain ⟨ls,g1,g2,g3,g4,g5⟩:=vP hn (by rw [h1];have:=a _ (Nat.le_refl _);omega) (by
   rw [h1]
   exact Nat.le_trans (Nat.mul_le_mul (show _<=60001 by have:=a _ (Nat.le_refl _);omega) (show L+K+1<=3000 by omega)) (by decide)) h2
  rw [h1] at g2 g3
  rw [h3] at g5
  exact ⟨ls,Ev.step (fun k=>DV k _ _) (h4 _ g1).diag,g2,g3,g4,g5⟩
 ·intro acc h1 h2 h3
  rw [List.take_length] at h3
  exact ⟨acc,h1,h2,h3,fun R hR=>aL.step (fun k m=>fP.aM k m _ _ _ _ _ _ _) (aL.bF (decide_eq_false Q2) (aL.bind hR (aL.of (aX _))))⟩
 intro i hi ih acc h1 h2 h3
 have e:(cE (t:=aj) l (i:Int):ah)=l[i]:=cA hi
 obtain ⟨ls,s1,s2,s3,s4⟩:=zp (l:=l') (t:=l[i]) hn Q2 Q2 hok' (hok _ (List.getElem_mem hi)) (fun u hu=>hb u hu _ (List.getElem_mem hi))
 have d:=a (i+1) Q2
 have c:(i+1)*l'.length=i*l'.length+l'.length:=Nat.succ_mul _ _
 obtain ⟨ac,a1,a2,a3,a4⟩:=ih (acc++ls) (by rw [List.length_append,h1,s2,c]) (fun u hu=>by
  rcases List.mem_append.1 hu with hu | hu
  ·exact h2 u hu
  ·exact s3 u hu) (by
  rw [mK,h3,s4,List.take_succ_eq_append_getElem hi,mK]
  simp only [G.prod,List.flatMap_append]
  show _=_++(G.As (dY l') (jw l[i])++[])
  rw [List.append_nil])
 refine ⟨ac,a1,a2,a3,fun R hR=>?_⟩
 refine aL.step (fun k m=>fP.aM k m _ _ _ _ _ _ _) (aL.bT (decide_eq_true Q2) (aL.iT Q2 ?_))
 rw [e]
 refine aL.bind s1 (aL.iT (by show (acc.length+ls.length)*80<=_;omega) (aL.bF (decide_eq_false (by show ¬ ((acc++ls).length:Int)>65536;rw [List.length_append];omega) ) ?_))
 show aL (fun k m=>fP.l0 k m l (l.length:Int) (wrap64 ((i:Int)+(1:Int))) ((n:Int),l,()) ((n:Int),l',()) ((0:Int),[],()) (acc++ls)) R
 rw [fz Q2]
 exact a4 R hR
end
open Go.Proofs.YtfbgaddecbiimaaGreatDoor.G (iM)
noncomputable def nP (v:bJ):Rat:=Rat.divInt (sg v.1 (vl RR v.2.1)) (vl RR v.2.2.1)
theorem rF {v:bJ} {q:Rat} (h:RB RR v q):nP v=q:=by
 have h1:=Iw h
 unfold nP
 rw [h.2.1.2.2,h.2.2.2.2]
 exact h1
def CoR (K:Nat) (v:bJ):Prop:=∃ q,RB RR v q/\Sz RR K q
theorem CoR.rb {K:Nat} {v:bJ} (h:CoR K v):RB RR v (nP v)/\Sz RR K (nP v):=by
 obtain ⟨q,h1,h2⟩:=h
 rw [rF h1]
 exact ⟨h1,h2⟩
theorem CoR.mono {K L:Nat} {v:bJ} (h:CoR K v) (hk:K<=L):CoR L v:=by
 obtain ⟨q,h1,h2⟩:=h
 exact ⟨q,h1,pL aW h2 hk⟩
noncomputable def xj (n:Nat) (t:ah):Tm:=(t.1.take n,nP t.2.1)
noncomputable def cX (n:Nat) (l:List ah):List Tm:=l.map (xj n)
def nO (n K:Nat) (t:ah):Prop:=t.1=dW (t.1.take n)/\(t.1.take n).length=n/\CoR K t.2.1
theorem nO.mono {n K L:Nat} {t:ah} (h:nO n K t) (hk:K<=L):nO n L t:=⟨h.1,h.2.1,h.2.2.mono hk⟩
theorem yc {x:List Int} (h:x.length=8):dW x=x:=by
 rw [dW,cN _ _ _ Q2,h];simp
theorem nO.len {n K:Nat} {t:ah} (h:nO n K t):t.1.length=8:=by rw [h.1];exact eA _ _ _
theorem qG {n K L:Nat} {r:List ah} {e:List Int} {c:bJ} {q:Rat} (hn:n<=8) (hr:r.length<=100000) (hK:K+L<1000000) (hok:∀ t∈r,nO n K t) (he:e.length=n) (hc:RB RR c q) (hs:Sz RR L q) :
 ∃ r':List ah,Ev (fun k=>bP k r (dW e) c) r'/\cX n r'=iM (cX n r) e q/\(∀ t∈r',nO n (K+L+1) t)/\r'.length<=r.length+1:=by
 have l:=uc hc
 by_cases c0:q=0
 ·refine ⟨r,Ev.step (fun k=>jr k _ _ _) (Ev.bind l (bT (by rw [lX];exact decide_eq_true c0) (aX _))),by rw [iM,if_pos c0],fun t ht=>(hok t ht).mono Q2,Q2⟩
 have s:(Dx q==(0:Int))=false:=by rw [lX];exact decide_eq_false c0
 have ep:eE (0:Int) 8 (dW e)=dW e:=yc (eA _ _ _)
 have p:=nL (n:=r.length) (P:=fun i=>(∀ j (h:j<r.length),j<i->r[j].1≠dW e)->∃ r':List ah,aL (fun k m=>bP.l0 k m (r.length:Int) (i:Int) r (dW e) c) r'/\cX n r'=iM (cX n r) e q/\(∀ t∈r',nO n (K+L+1) t)/\r'.length<=r.length+1) ?_ ?_ 0 (Nat.zero_le _) (fun j _ h=>Q2)
 ·obtain ⟨r',h1,h2,h3,h4⟩:=p
  exact ⟨r',Ev.step (fun k=>jr k _ _ _) (Ev.bind l (bF s h1.diag)),h2,h3,h4⟩
 ·intro hno
  refine ⟨r++[(dW e,c,())],aL.step (fun k m=>bP.aM k m _ _ _ _ _) (aL.bF (decide_eq_false Q2) (aL.iT (by simp only [List.length_cons,List.length_nil];omega) (aL.of (aX _)))),?_,fun t ht=>?_,Q3⟩
  ·rw [iM,if_neg c0]
   have hf:(cX n r).findIdx? (fun t=>t.1==e)=none:=by
    rw [List.findIdx?_eq_none_iff]
    intro t ht
    obtain ⟨u,hu,rfl⟩:=List.mem_map.1 ht
    obtain ⟨j,hj,rfl⟩:=List.getElem_of_mem hu
    rw [beq_eq_false_iff_ne]
    intro h
    refine hno j hj hj ?_
    rw [(hok _ hu).1]
    exact congrArg dW h
   rw [hf]
   show (r++[(dW e,c,())]).map (xj n)=r.map (xj n)++[(e,q)]
   rw [List.map_append]
   show _++[((dW e).take n,nP c)]=_
   rw [rF hc,<- he,fY Q2]
  rcases List.mem_append.1 ht with ht | ht
  ·exact (hok t ht).mono Q2
  rw [List.mem_singleton] at ht
  subst ht
  have h1:(dW e).take n=e:=by rw [<- he,fY Q2]
  exact ⟨by show dW e=dW ((dW e).take n);rw [h1],by show ((dW e).take n).length=n;rw [h1,he],q,hc,pL aW hs Q2⟩
 intro i hi ih hno
 have er:(cE (t:=af) r (i:Int):ah)=r[i]:=cA hi
 obtain ⟨o1,o2,o3⟩:=hok r[i] (List.getElem_mem hi)
 have w:=(hok r[i] (List.getElem_mem hi)).len
 have f:eE (0:Int) 8 r[i].1=r[i].1:=yc w
 by_cases c1:r[i].1=dW e
 ·obtain ⟨v,v1,v2,v3⟩:=DG o3.rb.1 hc o3.rb.2 hs Q2
  have b:=uc v2
  have g:r[i].1.take n=e:=by rw [c1,<- he,fY Q2]
  have hf:(cX n r).findIdx? (fun t=>t.1==e)=some i:=by
   rw [List.findIdx?_eq_some_iff_getElem]
   refine ⟨by simpa [cX] using hi,by simp [cX,xj,g],fun j hj=>?_⟩
   have o:j<r.length:=Q2
   simp only [cX,xj,List.getElem_map,beq_iff_eq]
   intro h
   refine hno j o hj ?_
   rw [(hok _ (List.getElem_mem o)).1]
   exact congrArg dW h
  have hg:((cX n r).getD i ([],0)).2=nP r[i].2.1:=by simp [cX,xj,List.getD_eq_getElem?_getD,hi]
  have w1:wrap64 ((r.length:Int)-1)=((r.length-1:Nat):Int):=by rw [cy Q2 Q2];omega
  by_cases c2:nP r[i].2.1+q=0
  ·rw [c2] at b
   have a:r.length-1<r.length:=Q2
   have el:(cE (t:=af) r ((r.length-1:Nat):Int):ah)=r[r.length-1]:=cA a
   refine ⟨(r.set i r[r.length-1]).take (r.length-1),?_,?_,fun t ht=>?_,by rw [List.length_take];omega⟩
   ·refine aL.step (fun k m=>bP.aM k m _ _ _ _ _) (aL.bT (decide_eq_true Q2) (aL.iT Q2 ?_))
    rw [er,f,ep,c1]
    refine aL.bT Q3 (aL.iT Q2 (aL.bind v1 (aL.bind b (aL.bT rfl ?_))))
    rw [w1,el,Int.toNat_natCast,List.length_set,w1,Int.toNat_natCast]
    exact aL.iT Q2 (aL.iT Q2 (aL.iT Q2 (aL.of (aX _))))
   ·rw [iM,if_neg c0,hf]
    dsimp only
    rw [if_pos (by rw [hg];exact c2)]
    have x:(cX n r).length=r.length:=by simp [cX]
    rw [x]
    have h2:(cX n r).getD (r.length-1) ([],0)=xj n r[r.length-1]:=by simp [cX,List.getD_eq_getElem?_getD,a]
    rw [h2]
    simp only [cX,List.map_take,List.map_set]
   rcases List.mem_or_eq_of_mem_set (List.mem_of_mem_take ht) with h | rfl
   ·exact (hok t h).mono Q2
   exact (hok _ (List.getElem_mem a)).mono Q2
  have y:(Dx (nP r[i].2.1+q)==(0:Int))=false:=by rw [lX];exact decide_eq_false c2
  refine ⟨r.set i (r[i].1,v,r[i].2.2),?_,?_,fun t ht=>?_,by rw [List.length_set];omega⟩
  ·refine aL.step (fun k m=>bP.aM k m _ _ _ _ _) (aL.bT (decide_eq_true Q2) (aL.iT Q2 ?_))
   rw [er,f,ep]
   refine aL.bT (by simp [c1]) (aL.iT Q2 (aL.bind v1 (aL.bind b (aL.bF y (aL.iT Q2 ?_)))))
   rw [Int.toNat_natCast]
   exact aL.of (aX _)
  ·rw [iM,if_neg c0,hf]
   dsimp only
   rw [if_neg (by rw [hg];exact c2),hg]
   simp only [cX,List.map_set]
   show _=(List.map (xj n) r).set i (e,nP r[i].2.1+q)
   rw [show xj n (r[i].1,v,r[i].2.2)=(e,nP r[i].2.1+q) by show (r[i].1.take n,nP v)=_;rw [g,rF v2]]
  rcases List.mem_or_eq_of_mem_set ht with h | rfl
  ·exact (hok t h).mono Q2
  exact ⟨o1,o2,_,v2,v3⟩
 obtain ⟨r',h1,h2,h3,h4⟩:=ih (fun j hj hji=>by
  by_cases d:j=i
  ·subst d;exact c1
  exact hno j hj Q2)
 refine ⟨r',aL.step (fun k m=>bP.aM k m _ _ _ _ _) (aL.bT (decide_eq_true Q2) (aL.iT Q2 ?_)),h2,h3,h4⟩
 rw [er,f,ep]
 refine aL.bF (by simp [c1]) ?_
 rw [fz Q2]
 exact h1
def Av (a b:List Int) (j:Nat):List Int:=(List.range 8).map fun i=>if i<j then a.getD i 0+b.getD i 0 else a.getD i 0
theorem Jv {a b:List Int} (ha:a.length=8):Av a b 0=a:=by
 apply List.ext_getElem (by simp [Av,ha])
 intro i h1 h2
 simp [Av,List.getD_eq_getElem?_getD,List.getElem?_eq_getElem h2]
theorem FV (a b:List Int) (j:Nat):(Av a b j).length=8:=by simp [Av]
theorem Lv {a b:List Int} {j:Nat} (h:j<(Av a b j).length):(Av a b j)[j]=a.getD j 0:=by simp [Av]
theorem Lu {a b:List Int} {j:Nat}:(Av a b j).set j (a.getD j 0+b.getD j 0)=Av a b (j+1):=by
 apply List.ext_getElem (by simp [Av])
 intro i h1 h2
 simp only [Av,List.getElem_set,List.getElem_map,List.getElem_range]
 by_cases c:j=i
 ·subst c;rw [if_pos rfl,if_pos Q2]
 rw [if_neg c]
 by_cases d:i<j
 ·rw [if_pos d,if_pos Q2]
 rw [if_neg d,if_neg Q2]
theorem Jw {a b:List Int} (ha:a.length=8) (hb:b.length=8):Av a b 8=G.dQ a b:=by
 apply List.ext_getElem (by simp [Av,G.dQ,ha,hb])
 intro i h1 h2
 have hi:i<8:=by simpa [Av] using h1
 simp only [Av,List.getElem_map,List.getElem_range,G.dQ,List.getElem_zipWith,if_pos hi]
 rw [List.getD_eq_getElem?_getD,List.getD_eq_getElem?_getD,List.getElem?_eq_getElem Q2,List.getElem?_eq_getElem Q2]
 rfl
theorem GN {x y:List Int} (h:x.length=y.length) (hx:x.length<=8):G.dQ (dW x) (dW y)=dW (G.dQ x y):=by
 have hl:=G.lD h
 rw [dW,dW,dW,cN _ _ _ Q2,cN _ _ _ Q2,cN _ _ _ Q2,hl]
 unfold G.dQ
 rw [List.zipWith_append h,h]
 congr 1
 simp
theorem zh {n K L:Nat} {l:List ah} {t:ah} (hn:n<=8) (hl:l.length<=100000) (hKL:K+L<1000000) (hok:∀ u∈l,nO n K u) (ht:nO n L t) (hb:∀ u∈l,∀ j,-1000000<=u.1.getD j 0/\u.1.getD j 0<1000000) (hb':∀ j,-1000000<=t.1.getD j 0/\t.1.getD j 0<1000000) :
 ∃ ls:List ah,Ev (fun k=>ba k l t) ls/\ls.length=l.length/\(∀ u∈ls,nO n (K+L) u)/\cX n ls=G.As (cX n l) (xj n t):=by
 have t8:=ht.len
 obtain ⟨t1,t2,t3⟩:=ht
 have c:=nL (n:=l.length) (P:=fun i=>∀ acc:List ah,acc.length=i->∃ ls:List ah,ls.length=l.length-i/\(∀ u∈ls,nO n (K+L) u)/\cX n ls=G.As (cX n (l.drop i)) (xj n t)/\aL (fun k m=>ba.l0 k m l (l.length:Int) (i:Int) t acc) (acc++ls)) ?_ ?_ 0 (Nat.zero_le _) [] rfl
 ·obtain ⟨ls,h1,h2,h3,h4⟩:=c
  exact ⟨ls,Ev.step (fun k=>mg k _ _) h4.diag,Q2,h2,h3⟩
 ·intro acc hacc
  exact ⟨[],Q3,(fun u h=>by cases h),by rw [List.drop_length];rfl,aL.step (fun k m=>ba.aM k m _ _ _ _ _) (aL.bF (decide_eq_false Q2) (by rw [List.append_nil];exact aL.of (aX _)))⟩
 intro i hi ih acc hacc
 have e:(cE (t:=af) l (i:Int):ah)=l[i]:=cA hi
 have o8:=(hok l[i] (List.getElem_mem hi)).len
 obtain ⟨o1,o2,o3⟩:=hok l[i] (List.getElem_mem hi)
 have d:=hb l[i] (List.getElem_mem hi)
 obtain ⟨v,v1,v2,v3⟩:=DE o3.rb.1 t3.rb.1 o3.rb.2 t3.rb.2 Q2
 obtain ⟨ls,h1,h2,h3,h4⟩:=ih (acc++[(G.dQ l[i].1 t.1,v,())]) (by simp [hacc])
 have ha:G.dQ l[i].1 t.1=dW (G.dQ (l[i].1.take n) (t.1.take n)):=by
  rw [<- GN (o2.trans t2.symm) Q2,<- o1,<- t1]
 have b:(G.dQ (l[i].1.take n) (t.1.take n)).length=n:=(G.lD (o2.trans t2.symm)).trans o2
 have a:(G.dQ l[i].1 t.1).take n=G.dQ (l[i].1.take n) (t.1.take n):=by
  rw [ha]
  conv=>lhs;arg 1;rw [<- b]
  exact fY Q2
 refine ⟨(G.dQ l[i].1 t.1,v,()) :: ls,by simp only [List.length_cons];omega,fun u hu=>?_,?_,?_⟩
 ·rcases List.mem_cons.1 hu with rfl | hu
  ·exact ⟨by show G.dQ l[i].1 t.1=dW ((G.dQ l[i].1 t.1).take n);rw [a];exact ha,by show ((G.dQ l[i].1 t.1).take n).length=n;rw [a];exact b,⟨_,v2,v3⟩⟩
  exact h2 u hu
 ·rw [dF hi]
  show xj n _ :: cX n ls=G.As (xj n l[i] :: cX n (l.drop (i+1))) (xj n t)
  rw [h3]
  show ((G.dQ l[i].1 t.1).take n,nP v) :: _=(G.dQ (l[i].1.take n) (t.1.take n),nP l[i].2.1*nP t.2.1) :: _
  rw [a,rF v2]
  rfl
 rw [show acc++(G.dQ l[i].1 t.1,v,()) :: ls=(acc++[(G.dQ l[i].1 t.1,v,())])++ls by simp]
 refine aL.step (fun k m=>ba.aM k m _ _ _ _ _) (aL.bT (decide_eq_true Q2) (aL.iT Q2 ?_))
 rw [e]
 have key:=nL (n:=8) (P:=fun j=>eS (fun k m1 m0=>ba.l1 k m1 m0 l (l.length:Int) (i:Int) (j:Int) t acc l[i] (Av l[i].1 t.1 j)) ((acc++[(G.dQ l[i].1 t.1,v,())])++ls)) ?_ ?_ 0 (Nat.zero_le _)
 ·rw [Jv o8] at key
  exact key.diag
 ·rw [Jw o8 t8]
  refine eS.step (fun k m1 m0=>ba.eH k m1 m0 _ _ _ _ _ _ _ _) (eS.bF (decide_eq_false Q2) (eS.bind v1 (eS.iT (by simp only [List.length_cons,List.length_nil];omega) (eS.of ?_))))
  rw [fz Q2]
  exact h4
 intro j hj ihj
 have a1:=d j
 have a2:=hb' j
 have e1:xk (0:Int) 8 (Av l[i].1 t.1 j) (j:Int)=l[i].1.getD j 0:=by
  rw [pP (FV _ _ _) hj];exact Lv _
 have e2:xk (0:Int) 8 t.1 (j:Int)=t.1.getD j 0:=by
  rw [pP t8 hj,List.getD_eq_getElem?_getD,List.getElem?_eq_getElem Q2];rfl
 refine eS.step (fun k m1 m0=>ba.eH k m1 m0 _ _ _ _ _ _ _ _) (eS.bT (decide_eq_true Q2) (eS.iT Q2 (eS.iT Q2 (eS.iT Q2 ?_))))
 rw [e1,e2,fz Q2,cy Q2 Q2,yV (FV _ _ _) hj,Lu]
 exact ihj
end Go.Proofs.YtfbgaddecbiimaaGreatDoor.Q
end
section
namespace Go.Proofs.YtfbgaddecbiimaaGreatDoor.G
def jx:Ex->Int
 | []=>0
 | a :: l=>a+jx l
theorem vp:∀ {a b:Ex},a.length=b.length->jx (dQ a b)=jx a+jx b
 | [],[],_=>rfl
 | [],_ :: _,h=>by simp at h
 | _ :: _,[],h=>by simp at h
 | a :: l,b :: k,h=>by
  have ih:=vp (a:=l) (b:=k) (by simpa using h)
  simp only [dQ] at ih
  simp only [dQ,List.zipWith_cons_cons,jx,ih]
  omega
def qu:List Tm->Int
 | []=>-1
 | t :: l=>max (jx t.1) (qu l)
theorem JI {d:Int}:∀ {p:List Tm},-1<=d->(∀ t∈p,jx t.1<=d)->qu p<=d
 | [],h,_=>h
 | t :: p,h,h'=>by
  have h1:=JI (p:=p) h (fun u hu=>h' u (List.mem_cons_of_mem _ hu))
  have h2:=h' t (List.mem_cons_self ..)
  simp only [qu];omega
theorem Jc:∀ {p:List Tm} {t:Tm},t∈p->jx t.1<=qu p
 | [],_,h=>by simp at h
 | u :: p,t,h=>by
  simp only [qu]
  rcases List.mem_cons.1 h with e | e
  ·rw [e];omega
  have:=Jc e;omega
theorem wO:∀ (p:List Tm),-1<=qu p
 | []=>by simp [qu]
 | t :: p=>by have:=wO p;simp only [qu];omega
theorem co_ne {l:List Tm} {e:Ex} (h:co l e≠0):∃ t∈l,t.1=e:=by
 apply Classical.byContradiction
 intro c
 exact h (z7 fun t ht e'=>c ⟨t,ht,e'⟩)
theorem iI.from {n:Nat} {p r:List Tm} (h:iI n p) (he:∀ e,co p e=co r e) {t:Tm} (ht:t∈p):∃ u∈r,u.1=t.1:=by
 apply co_ne
 rw [<- he,h.ri t ht]
 exact h.nz t ht
def Cz (D H:Int) (q:Rat):Prop:=∃ z:Int,q*(D:Rat)=(z:Rat)/\(z.natAbs:Int)<=H
theorem Cz.zero {D H:Int} (h:0<=H):Cz D H 0:=⟨0,Q3,by simpa using h⟩
theorem Cz.mono {D H H':Int} {q:Rat} (h:Cz D H q) (hh:H<=H'):Cz D H' q:=let ⟨z,h1,h2⟩:=h;⟨z,h1,Q2⟩
theorem Cz.add {D H H':Int} {a b:Rat} (h:Cz D H a) (h':Cz D H' b):Cz D (H+H') (a+b):=by
 obtain ⟨z,h1,h2⟩:=h
 obtain ⟨y,h3,h4⟩:=h'
 refine ⟨z+y,?_,Q2⟩
 rw [Rat.intCast_add,<- h1,<- h3];grind
theorem Cz.size {D H:Int} {q:Rat} (hD:0<D) (h:Cz D H q):(q.den:Int)<=D/\(q.num.natAbs:Int)<=H:=by
 obtain ⟨z,h1,h2⟩:=h
 have hq:q=Rat.divInt z D:=by
  rw [Rat.divInt_eq_div,<- h1]
  have:(D:Rat)≠0:=by
   intro h
   have:=Rat.intCast_inj.1 (h.trans Rat.intCast_zero.symm)
   omega
  rw [Rat.div_def,Rat.mul_assoc,Rat.mul_inv_cancel _ this];grind
 have hg:D.gcd z≠0:=by
  intro h
  have:=Int.gcd_eq_zero_iff.1 h
  omega
 constructor
 ·rw [hq,Rat.den_divInt,if_neg Q2]
  have:D.natAbs / D.gcd z<=D.natAbs:=Nat.div_le_self ..
  omega
 rw [hq,Rat.num_divInt,Int.sign_eq_one_of_pos hD,Int.one_mul]
 have:(z / (D.gcd z:Int)).natAbs<=z.natAbs:=by
  rw [Int.natAbs_ediv_of_dvd (Int.gcd_dvd_right ..)]
  exact Nat.div_le_self ..
 omega
def CL (D:Int):Int->List Tm->Prop
 | H,[]=>0<=H
 | H,t :: l=>∃ z:Int,t.2*(D:Rat)=(z:Rat)/\CL D (H-z.natAbs) l
theorem CL.mono {D:Int}:∀ {l:List Tm} {H H':Int},CL D H l->H<=H'->CL D H' l
 | [],H,H',h,hh=>Int.le_trans h hh
 | t :: l,H,H',⟨z,h1,h2⟩,hh=>⟨z,h1,h2.mono Q2⟩
theorem CL.pos {D:Int}:∀ {l:List Tm} {H:Int},CL D H l->0<=H
 | [],H,h=>h
 | t :: l,H,⟨z,h1,h2⟩=>by have:=h2.pos;omega
theorem CL.append {D:Int}:∀ {p q:List Tm} {H H':Int},CL D H p->CL D H' q->CL D (H+H') (p++q)
 | [],q,H,H',h,h'=>h'.mono (by have:0<=H:=h;omega)
 | t :: p,q,H,H',⟨z,h1,h2⟩,h'=>⟨z,h1,(h2.append h').mono Q2⟩
theorem CL.As {D D' H':Int} {t:Tm} (ht:Cz D' H' t.2):∀ {p:List Tm} {H:Int},CL D H p->CL (D*D') (H*H') (As p t)
 | [],H,h=>Int.mul_nonneg h (by obtain ⟨z,_,h2⟩:=ht;omega)
 | u :: p,H,⟨z,h1,h2⟩=>by
  have ih:=CL.As ht h2
  obtain ⟨y,h3,h4⟩:=ht
  refine ⟨z*y,?_,ih.mono ?_⟩
  ·show u.2*t.2*_=_
   rw [Rat.intCast_mul,Rat.intCast_mul,<- h1,<- h3];grind
  rw [Int.natAbs_mul,Int.natCast_mul,Int.sub_mul]
  have:(z.natAbs:Int)*y.natAbs<=z.natAbs*H':=Int.mul_le_mul_of_nonneg_left h4 Q2
  omega
theorem CL.prod {D D':Int} {q:List Tm}:∀ {p:List Tm} {H H':Int},CL D H p->CL D' H' q->CL (D*D') (H*H') (prod p q)
 | [],H,H',h,h'=>Int.mul_nonneg h h'.pos
 | t :: p,H,H',⟨z,h1,h2⟩,h'=>by
  have h3:Cz D (z.natAbs:Int) t.2:=⟨z,h1,Int.le_refl _⟩
  have h4:=CL.As h3 h'
  rw [Int.mul_comm D' D] at h4
  have h5:=h4.append (CL.prod h2 h')
  exact h5.mono (by rw [Int.sub_mul,Int.mul_comm H'];omega)
theorem CL.one (n:Nat):CL 1 1 (one n):=⟨1,Q3,by show (0:Int)<=_;decide⟩
theorem CL.co {D:Int} (e:Ex):∀ {p:List Tm} {H:Int},CL D H p->Cz D H (co p e)
 | [],H,h=>by rw [EJ];exact Cz.zero h
 | t :: p,H,⟨z,h1,h2⟩=>by
  have ih:=CL.co e h2
  rw [sH]
  split
  ·exact (Cz.add ⟨z,h1,Int.le_refl _⟩ ih).mono Q2
  refine (Cz.add (Cz.zero (H:=0) (Int.le_refl _)) ih).mono ?_
  omega
def canon (p acc:List Tm):List Tm:=p.foldl (fun acc t=>iM acc t.1 t.2) acc
theorem rj {n:Nat}:∀ {p acc:List Tm},iI n acc->Len n p->iI n (canon p acc)/\∀ m,fu m (canon p acc)=fu m acc+fu m p
 | [],acc,h,_=>⟨h,fun m=>by simp only [canon,List.foldl_nil,fu];grind⟩
 | t :: p,acc,h,hl=>by
  obtain ⟨h1,h2⟩:=xX (c:=t.2) h (hl t (List.mem_cons_self ..))
  obtain ⟨h3,h4⟩:=rj (p:=p) h1 (fun u hu=>hl u (List.mem_cons_of_mem _ hu))
  refine ⟨h3,fun m=>?_⟩
  show fu m (canon p (iM acc t.1 t.2))=_
  rw [h4,h2];simp only [fu];grind
end Go.Proofs.YtfbgaddecbiimaaGreatDoor.G
end
section
namespace Go.Proofs.YtfbgaddecbiimaaGreatDoor.Q
open Go.RowKit Go.Proofs.YtfbgaddecbiimaaGreatDoorW.PrintWords Go.Proofs.YtfbgaddecbiimaaGreatDoorW.PrintMore Go.Proofs.YtfbgaddecbiimaaGreatDoor.V Go.Proofs.YtfbgaddecbiimaaGreatDoor.E
open Go.Proofs.YtfbgaddecbiimaaGreatDoor.P (Dg Nm vl WW RR bu gI aX jq jY dD aH bw aW cD cy u64)
open Go.Proofs.YtfbgaddecbiimaaGreatDoor.G (Ex Tm fu co iY jL iI iM)
theorem Bl {n K L B:Nat} {l l':List ah} (hn:n<=8) (hl:l.length<=100) (hl':l'.length<=100) (hB:B=l.length*l'.length) (hKL:(B+1)*(K+L+1)<1000000) (hok:∀ u∈l,nO n K u) (hok':∀ u∈l',nO n L u) (hb:∀ u∈l,∀ j,-1000000<=u.1.getD j 0/\u.1.getD j 0<1000000) (hb':∀ u∈l',∀ j,-1000000<=u.1.getD j 0/\u.1.getD j 0<1000000) :
 ∃ r:List ah,Ev (fun k=>bb k l l') r/\cX n r=G.canon (G.prod (cX n l) (cX n l')) []/\(∀ t∈r,nO n (B*(K+L+1)) t)/\r.length<=B:=by
 have o:B<=10000:=by rw [hB];exact Nat.mul_le_mul hl hl'
 have a:=nL (n:=l.length) (P:=fun i=>∀ (acc:List ah),acc.length<=i*l'.length->(∀ t∈acc,nO n (i*l'.length*(K+L+1)) t)->∃ r:List ah,aL (fun k m=>bb.l0 k m l' l (l.length:Int) (i:Int) acc) r/\cX n r=G.canon (G.prod (cX n (l.drop i)) (cX n l')) (cX n acc)/\(∀ t∈r,nO n (B*(K+L+1)) t)/\r.length<=B) ?_ ?_ 0 (Nat.zero_le _) [] Q3 (fun t h=>by cases h)
 ·obtain ⟨r,h1,h2⟩:=a
  exact ⟨r,Ev.step (fun k=>nS k _ _) h1.diag,h2⟩
 ·intro acc ha ho
  rw [<- hB] at ha ho
  exact ⟨acc,aL.step (fun k m=>bb.aM k m _ _ _ _ _) (aL.bF (decide_eq_false Q2) (aL.of (aX _))),by rw [List.drop_length];rfl,ho,ha⟩
 intro i hi ih acc ha ho
 have q:(i+1)*l'.length<=B:=by rw [hB];exact Nat.mul_le_mul_right _ hi
 have b:i*l'.length+l'.length=(i+1)*l'.length:=by rw [Nat.add_mul,Nat.one_mul]
 have e:(cE (t:=af) l (i:Int):ah)=l[i]:=cA hi
 have g:K+L<1000000:=by
  have:=Nat.le_mul_of_pos_left (K+L+1) (show 0<B+1 by omega)
  omega
 obtain ⟨v,v1,v2,v3,v4⟩:=zh hn Q2 (show L+K<1000000 by omega) hok' (hok l[i] (List.getElem_mem hi)) hb' (hb l[i] (List.getElem_mem hi))
 have d:=nL (n:=v.length) (P:=fun j=>∀ (acc:List ah),acc.length<=i*l'.length+j->(∀ t∈acc,nO n ((i*l'.length+j)*(K+L+1)) t)->∃ r:List ah,eS (fun k m1 m0=>bb.l1 k m1 m0 l' l (l.length:Int) (i:Int) v (v.length:Int) (j:Int) acc) r/\cX n r=G.canon (cX n (v.drop j)++G.prod (cX n (l.drop (i+1))) (cX n l')) (cX n acc)/\(∀ t∈r,nO n (B*(K+L+1)) t)/\r.length<=B) ?_ ?_ 0 (Nat.zero_le _) acc ha ho
 ·obtain ⟨r,h1,h2,h3⟩:=d
  refine ⟨r,aL.step (fun k m=>bb.aM k m _ _ _ _ _) (aL.bT (decide_eq_true Q2) (aL.iT Q2 ?_)),?_,h3⟩
  ·rw [e]
   exact aL.bind v1 h1.diag
  rw [h2,List.drop_zero,v4,dF hi]
  rfl
 ·intro acc ha ho
  rw [v2,b] at ha ho
  obtain ⟨r,h1,h2,h3⟩:=ih acc ha ho
  refine ⟨r,eS.step (fun k m1 m0=>bb.eH k m1 m0 _ _ _ _ _ _ _ _) (eS.bF (decide_eq_false Q2) (eS.of ?_)),by rw [List.drop_length];exact h2,h3⟩
  rw [fz Q2]
  exact h1
 intro j hj ihj acc ha ho
 have ej:(cE (t:=af) v (j:Int):ah)=v[j]:=cA hj
 obtain ⟨p1,p2,p3⟩:=v3 v[j] (List.getElem_mem hj)
 have f:(i*l'.length+j)*(K+L+1)+(L+K)+1=(i*l'.length+(j+1))*(K+L+1):=by
  rw [<- Nat.add_assoc (i*l'.length) j 1,Nat.add_mul (i*l'.length+j) 1 (K+L+1),Nat.one_mul];omega
 have p:(i*l'.length+(j+1))*(K+L+1)<=(B+1)*(K+L+1):=Nat.mul_le_mul_right _ Q2
 obtain ⟨r',q1,q2,q3,q4⟩:=qG (e:=v[j].1.take n) (c:=v[j].2.1) hn Q2 Q2 ho p2 p3.rb.1 p3.rb.2
 rw [<- p1] at q1
 rw [f] at q3
 obtain ⟨r,h1,h2,h3⟩:=ihj r' Q2 q3
 refine ⟨r,eS.step (fun k m1 m0=>bb.eH k m1 m0 _ _ _ _ _ _ _ _) (eS.bT (decide_eq_true Q2) (eS.iT Q2 ?_)),?_,h3⟩
 ·rw [ej]
  refine eS.bind q1 ?_
  rw [fz Q2]
  exact h1
 rw [h2,dF hj,q2]
 rfl
theorem KG {n K:Nat} {l:List ah} (hok:∀ u∈l,lT n K u):RelP n ((n:Int),l,()) (dY l) where
 n_:=rfl
 len:=by simp [dY]
 at_:=fun i h=>by
  have hi:i<l.length:=by simpa [dY] using h
  have e:cK ((n:Int),l,()) i=l[i]:=cA hi
  have e2:(dY l)[i]=jw l[i]:=by simp [dY]
  rw [e,e2]
  exact ⟨rfl,((hok l[i] (List.getElem_mem hi)).2.2).rb.1⟩
theorem KF {n K:Nat} {r:List ah} (hok:∀ u∈r,nO n K u):RelR r (cX n r) K where
 len:=by simp [cX]
 at_:=fun i h=>by
  have hi:i<r.length:=by simpa [cX] using h
  have e:mQ r i=r[i]:=cA hi
  have e2:(cX n r)[i]=xj n r[i]:=by simp [cX]
  rw [e,e2]
  obtain ⟨h1,h2,h3⟩:=hok r[i] (List.getElem_mem hi)
  exact ⟨h1,h3.rb.1,h3.rb.2⟩
theorem Is_of {n K L:Nat} {l r:List ah} (hn:n<=8) (hok:∀ u∈l,lT n K u) (hr:∀ u∈r,nO n L u) (hf:LZ ((n:Int),l,())) (hL:L<1073741824) (hlen:r.length<=100000) (hs:jL n (dY l)) (hd:iI n (cX n r)) (he:iY (dY l) (cX n r)):Ev (fun k=>fI k ((n:Int),l,()) r (n:Int)) true :=
 DF hn (KG hok) (KF hr) hf hL (by simpa [cX] using hlen) hs hd he
theorem DP {x:List Int} (h:x.length<=8) (hb:∀ e∈x,0<=e/\e<=256):Ev (fun k=>fO k x) (sE x):=by
 have main:=nL (n:=x.length) (P:=fun i=>aL (fun k m=>fO.l0 k m (sE (x.take i)) x (x.length:Int) (i:Int)) (sE x)) ?_ ?_ 0 (Nat.zero_le _)
 ·exact Ev.step (fun k=>DQ k _) main.diag
 ·rw [List.take_length]
  exact aL.step (fun k m=>fO.aM k m _ _ _ _) (aL.bF (decide_eq_false Q2) (aL.of (aX _)))
 intro i hi ih
 have e:(cE (t:=(.int .i64)) x (i:Int):Int)=x[i]:=cA hi
 have b1:=rC (B:=256) Q2 (l:=x.take i) (fun y hy=>hb y (List.mem_of_mem_take hy))
 have b2:=hb x[i] (List.getElem_mem hi)
 have b3:(x.take i).length<=8:=by rw [List.length_take];omega
 refine aL.step (fun k m=>fO.aM k m _ _ _ _) (aL.bT (decide_eq_true Q2) (aL.iT Q2 ?_))
 rw [e,fz Q2,cy Q2 Q2,<- mO hi]
 exact ih
def dgM (l:List ah) (a:Int):Int:=l.foldl (fun a t=>mx a (sE t.1)) a
theorem qp {n K:Nat} {l:List ah} (hn:n<=8) (hl:l.length<=100000) (hok:∀ u∈l,lT n K u):Ev (fun k=>eG k ((n:Int),l,())) (dgM l (-1)):=by
 have main:=nL (n:=l.length) (P:=fun i=>∀ a,aL (fun k m=>eG.l0 k m a l (l.length:Int) (i:Int)) (dgM (l.drop i) a)) ?_ ?_ 0 (Nat.zero_le _) (-1)
 ·exact Ev.step (fun k=>xv k _) main.diag
 ·intro a
  rw [List.drop_length]
  exact aL.step (fun k m=>eG.aM k m _ _ _ _) (aL.bF (decide_eq_false Q2) (aL.of (aX _)))
 intro i hi ih a
 have e:(cE (t:=aj) l (i:Int):ah)=l[i]:=cA hi
 obtain ⟨o1,o2,o3⟩:=hok l[i] (List.getElem_mem hi)
 have hs:=DP (x:=l[i].1) Q2 (fun y hy=>by have:=o2 y hy;omega)
 refine aL.step (fun k m=>eG.aM k m _ _ _ _) (aL.bT (decide_eq_true Q2) (aL.iT Q2 ?_))
 rw [e,dF hi]
 refine aL.bind hs ?_
 rw [fz Q2]
 exact ih _
theorem BE {n K:Nat} {l:List ah} (hn:n<=8) (hl:l.length<=100000) (hK:K<1073741824) (hok:∀ u∈l,lT n K u):Ev (fun k=>gO k ((n:Int),l,())) ((n:Int),l,()):=by
 have main:=nL (n:=l.length) (P:=fun i=>aL (fun k m=>gO.l0 k m l (l.length:Int) (i:Int) ((n:Int),l,()) ((0:Int),[],()) (n:Int) (l.take i)) ((n:Int),l,())) ?_ ?_ 0 (Nat.zero_le _)
 ·exact Ev.step (fun k=>BF k _) main.diag
 ·rw [List.take_length]
  exact aL.step (fun k m=>gO.aM k m _ _ _ _ _ _ _) (aL.bF (decide_eq_false Q2) (aL.of (aX _)))
 intro i hi ih
 have e:(cE (t:=aj) l (i:Int):ah)=l[i]:=cA hi
 obtain ⟨o1,o2,o3⟩:=hok l[i] (List.getElem_mem hi)
 have hc:=ur o3.rb.1 o3.rb.2 hK
 have hz:(List.replicate (Int.toNat (0:Int)) ((0:Int):Int))=[]:=rfl
 refine aL.step (fun k m=>gO.aM k m _ _ _ _ _ _ _) (aL.bT (decide_eq_true Q2) (aL.iT Q2 (aL.iT (by show (0:Int)<=0/\(0:Int)<=(n:Int)/\8*(n:Int).toNat<=281474976710656/\(n:Int).toNat<=maxLen;unfold maxLen;omega) ?_)))
 rw [e,hz]
 refine aL.iT (by simp only [List.length_nil];omega) (aL.bind hc (aL.iT (by simp only [List.length_cons,List.length_nil,List.length_take];omega) ?_))
 rw [fz Q2,List.nil_append]
 rw [show l.take i++[(l[i].1,l[i].2.1,())]=l.take (i+1) by rw [List.take_succ_eq_append_getElem hi]]
 exact ih
theorem AB {p:aA} (hv:fE p):∃ n:Nat,n<=8/\p.1=(n:Int)/\∀ u∈p.2.1,lT n 200 u:=by
 obtain ⟨h1,h2,h3,h4⟩:=hv
 refine ⟨p.1.toNat,Q2,Q2,fun u hu=>?_⟩
 obtain ⟨i,hi,rfl⟩:=List.getElem_of_mem hu
 have e:cK p i=p.2.1[i]:=cA hi
 have g:=(h4 i hi).1
 rw [e] at g
 exact ⟨by have:=g.len;omega,fun x hx=>by have:=g.ex x hx;omega,g.co⟩
theorem Fu {p:aA} {n:Nat} (ha:mI p) (hv:fE p) (hn:p.1=(n:Int)):∃ r:List ah,Ev (fun k=>bL k p) r/\r.length=p.2.1.length/\(∀ u∈r,nO n 800 u)/\cX n r=dY p.2.1:=by
 obtain ⟨r,r1,r2,r3⟩:=Fe ha hv
 have b:n<=8:=by have:=hv.n8;omega
 have tl:∀ i,i<p.2.1.length->(cK p i).1.length=n:=fun i hi=>by have:=(hv.good i hi).1.len;omega
 refine ⟨r,r1,r2,fun u hu=>?_,?_⟩
 ·obtain ⟨i,hi,rfl⟩:=List.getElem_of_mem hu
  obtain ⟨a1,q,a2,a3,a4,a5⟩:=r3 i hi
  have hl:=tl i Q2
  have ht:r[i].1.take n=(cK p i).1:=by rw [a1,<- hl];exact fY Q2
  exact ⟨by rw [ht];exact a1,by rw [ht];exact hl,q,a3,a5⟩
 apply List.ext_getElem (by simp [cX,dY,r2])
 intro i h1 h2
 have hi:i<r.length:=by simpa [cX] using h1
 obtain ⟨a1,q,a2,a3,a4,a5⟩:=r3 i hi
 have a:i<p.2.1.length:=Q2
 have hl:=tl i a
 have e:cK p i=p.2.1[i]:=cA a
 have ht:r[i].1.take n=(cK p i).1:=by rw [a1,<- hl];exact fY Q2
 simp only [cX,dY,List.getElem_map,xj,jw]
 rw [ht,rF a3,<- e,mU a2]
theorem Gj {p:aA} {n:Nat} (hv:fE p) (hn:p.1=(n:Int)):(dY p.2.1).Pairwise fun a b=>G.hJ a.1 b.1=true:=by
 have tl:∀ i,i<p.2.1.length->(cK p i).1.length=n:=fun i hi=>by have:=(hv.good i hi).1.len;omega
 have c:∀ d i,i+d+1<p.2.1.length->G.hJ (cK p i).1 (cK p (i+d+1)).1=true:=by
  intro d
  induction d with
  | zero =>
   intro i hi
   have h:=(hv.good (i+1) hi).2 Q2
   exact (G8 ((tl i Q2).trans (tl (i+1) hi).symm)).1 h
  | succ d ih =>
   intro i hi
   have h:=(hv.good (i+d+2) hi).2 Q2
   exact G.mw (ih i Q2) ((G8 ((tl (i+d+1) Q2).trans (tl (i+d+2) hi).symm)).1 h)
 rw [List.pairwise_iff_getElem]
 intro i j hi hj hij
 have e:i<p.2.1.length:=by simpa [dY] using hi
 have f:j<p.2.1.length:=by simpa [dY] using hj
 have h:=c (j-i-1) i Q2
 rw [show i+(j-i-1)+1=j by omega,show cK p i=p.2.1[i] from cA e,show cK p j=p.2.1[j] from cA f] at h
 simp only [dY,List.getElem_map,jw]
 exact h
theorem Gi {p:aA} {n:Nat} (hv:fE p) (hn:p.1=(n:Int)):jL n (dY p.2.1) where
 ord:=Gj hv hn
 nz:=fun t ht h0=>by
  obtain ⟨u,hu,rfl⟩:=List.mem_map.1 ht
  obtain ⟨i,hi,rfl⟩:=List.getElem_of_mem hu
  have g:=(hv.good i hi).1
  rw [show cK p i=p.2.1[i] from cA hi] at g
  have hc:EV 200 p.2.1[i].2.1:=g.co
  have hr:=hc.rb.1
  have h0':iK p.2.1[i].2.1=0:=h0
  rw [h0'] at hr
  have h1:=bu aH hr.2.1 (P.Can.zero WW)
  exact g.ne (by rw [h1];rfl)
 len:=fun t ht=>by
  obtain ⟨u,hu,rfl⟩:=List.mem_map.1 ht
  obtain ⟨i,hi,rfl⟩:=List.getElem_of_mem hu
  have g:=(hv.good i hi).1
  rw [show cK p i=p.2.1[i] from cA hi] at g
  have:=g.len
  show p.2.1[i].1.length=n
  omega
theorem Gq {n K:Nat} {l:List ah} (hn:n<=8) (hl:l.length<=4000) (hK:K<=200) (hok:∀ u∈l,lT n K u) (hs:jL n (dY l)) (hd:∀ u∈l,sE u.1<=40) (hx:∀ u∈l,∀ e∈u.1,e<=40):fE ((n:Int),l,()) where
 n0:=by show (0:Int)<=(n:Int);omega
 n8:=by show (n:Int)<=8;omega
 xm:=hl
 good:=fun i hi=>by
  have a:i<l.length:=hi
  have e:cK ((n:Int),l,()) i=l[i]:=cA a
  have hm:=List.getElem_mem a
  obtain ⟨o1,o2,o3⟩:=hok l[i] hm
  refine ⟨?_,fun h0=>?_⟩
  ·rw [e]
   refine ⟨by show (l[i].1.length:Int)=(n:Int);omega,fun x h=>⟨(o2 x h).1,hx l[i] hm x h⟩,hd l[i] hm,o3.mono hK,fun h=>?_⟩
   have hz:l[i].2.1.2.1=[]:=List.length_eq_zero_iff.1 h
   have hr:=o3.rb.1
   refine hs.nz (jw l[i]) (List.mem_map.2 ⟨_,hm,rfl⟩) ?_
   show iK l[i].2.1=0
   unfold iK
   rw [hz]
   simp [vl,sg]
  have hp:i-1<l.length:=Q2
  have e1:cK ((n:Int),l,()) (i-1)=l[i-1]:=cA hp
  rw [e,e1]
  have h:=List.pairwise_iff_getElem.1 hs.ord (i-1) i (by simpa [dY] using hp) (by simpa [dY] using a) Q2
  simp only [dY,List.getElem_map,jw] at h
  exact (G8 ((hok _ (List.getElem_mem hp)).1.trans o1.symm)).2 h
abbrev p1 (n:Nat) (e:List Int) (d:bJ):aA:=((n:Int),[(e,d,())],())
end Go.Proofs.YtfbgaddecbiimaaGreatDoor.Q
end
section
namespace Go.Proofs.YtfbgaddecbiimaaGreatDoor.G
def val (x:List Rat) (p:List Tm):Rat:=fu (mv x) p
theorem wa:∀ {a b:Ex} {k:Int},(∀ k∈a,(0:Int)<=k)->(∀ k∈b,(0:Int)<=k)->k∈dQ a b->0<=k
 | [],_,_,_,_,h=>by simp [dQ] at h
 | _ :: _,[],_,_,_,h=>by simp [dQ] at h
 | a :: l,b :: m,k,h1,h2,h=>by
  simp only [dQ,List.zipWith_cons_cons,List.mem_cons] at h
  rcases h with e | e
  ·have:=h1 a (List.mem_cons_self ..)
   have:=h2 b (List.mem_cons_self ..)
   omega
  exact wa (fun k hk=>h1 k (List.mem_cons_of_mem _ hk)) (fun k hk=>h2 k (List.mem_cons_of_mem _ hk)) e
theorem yQ:∀ {a:Ex},(∀ k∈a,(0:Int)<=k)->0<=jx a
 | [],_=>Int.le_refl _
 | a :: l,h=>by
  have:=h a (List.mem_cons_self ..)
  have:=yQ (a:=l) (fun k hk=>h k (List.mem_cons_of_mem _ hk))
  simp only [jx];omega
theorem vn:∀ n,jx (List.replicate n 0)=0
 | 0=>rfl
 | n+1=>by rw [List.replicate_succ,jx,vn n];rfl
abbrev WB:Int:=4294967296
theorem HF {a b:Nat} (h:a<=b):WB ^ a<=WB ^ b:=by
 rcases Nat.lt_or_ge a b with g | g
 ·exact Int.le_of_lt (Int.pow_lt_pow_of_lt (by decide) g)
 rw [Nat.le_antisymm h g];exact Int.le_refl _
theorem yH (a:Nat):0<WB ^ a:=Int.pow_pos (by decide)
theorem vc {a b:Nat} {x y:Int} (hx:x<=WB ^ a) (hy:y<=WB ^ b) (h0:0<=y):x*y<=WB ^ (a+b):=by
 rw [Int.pow_add]
 exact Int.mul_le_mul hx hy h0 (Int.le_of_lt (yH a))
theorem wb_two (a:Nat):WB ^ a+WB ^ a<=WB ^ (a+1):=by
 have:=yH a
 rw [Int.pow_succ]
 show _<=WB ^ a*4294967296
 omega
def CB (k:Nat) (l:List Tm):Prop:=∃ D H:Int,0<D/\D<=WB ^ k/\H<=WB ^ k/\CL D H l
theorem CB.mono {k j:Nat} {l:List Tm} (h:CB k l) (hj:k<=j):CB j l:=by
 obtain ⟨D,H,h0,h1,h2,h3⟩:=h
 exact ⟨D,H,h0,Int.le_trans h1 (HF hj),Int.le_trans h2 (HF hj),h3⟩
theorem CB.nil (k:Nat):CB k []:=⟨1,0,by decide,by have:=yH k;omega,Int.le_of_lt (yH k),by show (0:Int)<=0;decide⟩
theorem CB.one (n:Nat):CB 0 (one n):=⟨1,1,by decide,by decide,by decide,CL.one n⟩
theorem CL.mulD {D c:Int} (hc:0<c):∀ {l:List Tm} {H:Int},CL D H l->CL (D*c) (H*c) l
 | [],H,h=>Int.mul_nonneg h Q2
 | t :: l,H,⟨z,h1,h2⟩=>by
  refine ⟨z*c,?_,(CL.mulD hc h2).mono ?_⟩
  ·rw [Rat.intCast_mul,Rat.intCast_mul,<- h1];grind
  rw [Int.natAbs_mul,Int.natCast_mul,Int.sub_mul]
  have:(c.natAbs:Int)=c:=Q2
  rw [this];omega
theorem CB.append {a b:Nat} {p q:List Tm} (h:CB a p) (h':CB b q):CB (a+b+1) (p++q):=by
 obtain ⟨D,H,h0,h1,h2,h3⟩:=h
 obtain ⟨D',H',g0,g1,g2,g3⟩:=h'
 refine ⟨D*D',H*D'+H'*D,Int.mul_pos h0 g0,Int.le_trans (vc h1 g1 Q2) (HF Q2),?_,?_⟩
 ·have a1:=vc h2 g1 Q2
  have a2:=vc g2 h1 Q2
  rw [Nat.add_comm b a] at a2
  have:=wb_two (a+b)
  omega
 have a1:=CL.mulD g0 h3
 have a2:=CL.mulD h0 g3
 rw [Int.mul_comm D' D] at a2
 exact a1.append a2
theorem CB.prod {a b:Nat} {p q:List Tm} (h:CB a p) (h':CB b q):CB (a+b) (prod p q):=by
 obtain ⟨D,H,h0,h1,h2,h3⟩:=h
 obtain ⟨D',H',g0,g1,g2,g3⟩:=h'
 exact ⟨D*D',H*H',Int.mul_pos h0 g0,vc h1 g1 Q2,vc h2 g2 g3.pos,h3.prod g3⟩
theorem CB.pw {n a:Nat} {p:List Tm} (h:CB a p):∀ k,CB (a*k) (pw n p k)
 | 0=>CB.one n
 | k+1=>by
  have:=(CB.pw (n:=n) h k).prod h
  rw [<- Nat.mul_succ] at this
  exact this
def Wd (k:Nat) (c:Rat):Prop:=(c.num.natAbs:Int)<=WB ^ k/\(c.den:Int)<=WB ^ k
theorem Wd.cz {k:Nat} {c:Rat} (h:Wd k c):Cz (c.den:Int) (WB ^ k) c:=by
 refine ⟨c.num,?_,h.1⟩
 have h0:((c.den:Int):Rat)≠0:=by
  intro e
  have:=Rat.intCast_inj.1 (e.trans Rat.intCast_zero.symm)
  have:=c.den_pos
  omega
 have h1:=Rat.num_divInt_den c
 rw [Rat.divInt_eq_div] at h1
 generalize ((c.den:Int):Rat)=d at *
 generalize hn:(c.num:Rat)=m at *
 rw [<- h1,Rat.div_mul_cancel h0]
theorem CB.single {k:Nat} {t:Tm} (h:Wd k t.2):CB k [t]:=by
 obtain ⟨z,h1,h2⟩:=h.cz
 exact ⟨t.2.den,WB ^ k,by have:=t.2.den_pos;omega,h.2,Int.le_refl _,z,h1,by show (0:Int)<=_;omega⟩
theorem CB.list {k:Nat}:∀ {l:List Tm},(∀ t∈l,Wd k t.2)->CB (l.length*(k+1)) l
 | [],_=>CB.nil _
 | t :: l,h=>by
  have h1:=CB.list (l:=l) fun u hu=>h u (List.mem_cons_of_mem _ hu)
  have h2:=(CB.single (h t (List.mem_cons_self ..))).append h1
  refine CB.mono h2 ?_
  rw [List.length_cons,Nat.succ_mul];omega
theorem CB.co {k:Nat} {l:List Tm} (h:CB k l) (e:Ex):Wd k (co l e):=by
 obtain ⟨D,H,h0,h1,h2,h3⟩:=h
 obtain ⟨a,b⟩:=(CL.co e h3).size h0
 exact ⟨Int.le_trans b h2,Int.le_trans a h1⟩
theorem iI.wd {n k:Nat} {p q:List Tm} (hp:iI n p) (he:∀ e,G.co p e=G.co q e) (h:CB k q) {t:Tm} (ht:t∈p):Wd k t.2:=by
 rw [<- hp.ri t ht,he]
 exact h.co _
theorem CL.sub {D:Int} (f:Tm->Bool) (g:Tm->Tm) (hg:∀ t,(g t).2=t.2):∀ {l:List Tm} {H:Int},CL D H l->CL D H ((l.filter f).map g)
 | [],H,h=>h
 | t :: l,H,⟨z,h1,h2⟩=>by
  have ih:=CL.sub f g hg h2
  cases c:f t with
  | true =>
   rw [List.filter_cons_of_pos c,List.map_cons]
   exact ⟨z,by rw [hg];exact h1,ih⟩
  | false =>
   rw [List.filter_cons_of_neg (by simp [c])]
   exact ih.mono Q2
theorem CB.ke {k i:Nat} {j:Int} {p:List Tm} (h:CB k p):CB k (ke i j p):=by
 obtain ⟨D,H,h0,h1,h2,h3⟩:=h
 exact ⟨D,H,h0,h1,h2,CL.sub _ (fun t=>(t.1.set i 0,t.2)) (fun _=>rfl) h3⟩
def XB (E:Int) (q:List Tm):Prop:=∀ t∈q,(∀ x∈t.1,(0:Int)<=x)/\jx t.1<=E
theorem XB.mono {E F:Int} {q:List Tm} (h:XB E q) (hF:E<=F):XB F q:=fun t ht=>⟨(h t ht).1,Int.le_trans (h t ht).2 hF⟩
theorem XB.nil (E:Int):XB E []:=fun t ht=>by cases ht
theorem XB.append {E:Int} {p q:List Tm} (h:XB E p) (h':XB E q):XB E (p++q):=fun t ht=>(List.mem_append.1 ht).elim (h t) (h' t)
theorem XB.prod {n:Nat} {E F:Int} {p q:List Tm} (lp:Len n p) (lq:Len n q) (h:XB E p) (h':XB F q):XB (E+F) (prod p q):=fun v hv=>by
 obtain ⟨t,ht,hv⟩:=List.mem_flatMap.1 hv
 obtain ⟨u,hu,rfl⟩:=List.mem_map.1 hv
 refine ⟨fun x hx=>wa (h' u hu).1 (h t ht).1 hx,?_⟩
 show jx (dQ u.1 t.1)<=_
 rw [vp ((lq u hu).trans (lp t ht).symm)]
 have:=(h t ht).2
 have:=(h' u hu).2
 omega
theorem XB.one (n:Nat):XB 0 (one n):=fun t ht=>by
 have e:t=(zE n,1):=by simpa [G.one] using ht
 subst e
 refine ⟨fun x hx=>?_,?_⟩
 ·have:=List.eq_of_mem_replicate hx
  omega
 show jx (List.replicate n 0)<=0
 rw [vn];exact Int.le_refl _
theorem XB.pw {n:Nat} {E:Int} {p:List Tm} (lp:Len n p) (h:XB E p):∀ k:Nat,XB (E*k) (pw n p k)
 | 0=>by rw [Int.natCast_zero,Int.mul_zero];exact XB.one n
 | k+1=>by
  have:=XB.prod (lp.pw k) lp (XB.pw lp h k) h
  refine this.mono ?_
  rw [Int.natCast_add,Int.mul_add];omega
theorem XB.of {n:Nat} {E:Int} {p r:List Tm} (h:iI n p) (he:∀ e,co p e=co r e) (hr:XB E r):XB E p:=fun t ht=>by
 obtain ⟨u,hu,e⟩:=h.from he ht
 rw [<- e];exact hr u hu
theorem AH:∀ {a:Ex} {i:Nat} (h:i<a.length) (x:Int),jx (a.set i x)=jx a-a[i]+x
 | b :: a,0,_,x=>by simp only [List.set_cons_zero,jx,List.getElem_cons_zero];omega
 | b :: a,i+1,h,x=>by
  have ih:=AH (a:=a) (i:=i) (by simpa using h) x
  simp only [List.set_cons_succ,jx,List.getElem_cons_succ,ih];omega
theorem pV:∀ {a:Ex} {x:Int},(∀ y∈a,(0:Int)<=y)->x∈a->x<=jx a
 | b :: a,x,h,hx=>by
  have hb:=h b (List.mem_cons_self ..)
  have hs:=yQ (a:=a) fun y hy=>h y (List.mem_cons_of_mem _ hy)
  simp only [jx]
  rcases List.mem_cons.1 hx with e | e
  ·omega
  have:=pV (fun y hy=>h y (List.mem_cons_of_mem _ hy)) e;omega
theorem mem_set {a:Ex} {i:Nat} {x y:Int} (h:∀ z∈a,(0:Int)<=z) (hx:0<=x) (hy:y∈a.set i x):0<=y:=by
 rcases List.mem_or_eq_of_mem_set hy with g | g
 ·exact h y g
 omega
theorem zP {a:Ex} {i:Nat} (h:i<a.length):a.getD i 0=a[i]:=by simp [List.getD_eq_getElem?_getD,h]
theorem XB.ke {n i:Nat} {j E:Int} {p:List Tm} (hi:i<n) (hl:Len n p) (h:XB E p):XB E (ke i j p):=fun t ht=>by
 obtain ⟨u,hu,rfl⟩:=List.mem_map.1 ht
 have hu:=(List.mem_filter.1 hu).1
 obtain ⟨a,b⟩:=h u hu
 have hil:i<u.1.length:=by rw [hl u hu];exact hi
 refine ⟨fun x hx=>mem_set a (Int.le_refl _) hx,?_⟩
 show jx (u.1.set i 0)<=E
 rw [AH hil]
 have:=a _ (List.getElem_mem hil)
 omega
theorem Len.ke {n i:Nat} {j:Int} {p:List Tm} (hl:Len n p):Len n (ke i j p):=fun t ht=>by
 obtain ⟨u,hu,rfl⟩:=List.mem_map.1 ht
 show (u.1.set i 0).length=n
 rw [List.length_set];exact hl u (List.mem_filter.1 hu).1
end Go.Proofs.YtfbgaddecbiimaaGreatDoor.G
end
section
namespace Go.Proofs.YtfbgaddecbiimaaGreatDoor.Q
open Go.RowKit Go.Proofs.YtfbgaddecbiimaaGreatDoorW.PrintWords Go.Proofs.YtfbgaddecbiimaaGreatDoorW.PrintMore Go.Proofs.YtfbgaddecbiimaaGreatDoor.V Go.Proofs.YtfbgaddecbiimaaGreatDoor.E
open Go.Proofs.YtfbgaddecbiimaaGreatDoor.P (Dg Nm vl WW RR bu gI aX jq jY dD aH bw aW cD cy u64)
open Go.Proofs.YtfbgaddecbiimaaGreatDoor.G (Ex Tm fu co iY jL iI iM CB XB Wd Len WB)
structure PT (n K M:Nat) (q:List Tm) (l:List ah):Prop where
 len:l.length<=M
 ok:∀ u∈l,lT n K u
 srt:jL n (dY l)
 eqv:iY (dY l) q
structure RT (n K M:Nat) (q:List Tm) (r:List ah):Prop where
 len:r.length<=M
 ok:∀ u∈r,nO n K u
 dst:iI n (cX n r)
 eqv:iY (cX n r) q
theorem lT.mono {n K L:Nat} {t:ah} (h:lT n K t) (hk:K<=L):lT n L t:=⟨h.1,h.2.1,h.2.2.mono hk⟩
theorem PT.to {n K M L N:Nat} {q q':List Tm} {l:List ah} (h:PT n K M q l) (hk:K<=L) (hm:M<=N) (he:iY q q'):PT n L N q' l:=⟨Nat.le_trans h.len hm,fun u hu=>(h.ok u hu).mono hk,h.srt,h.eqv.trans he⟩
theorem RT.to {n K M L N:Nat} {q q':List Tm} {l:List ah} (h:RT n K M q l) (hk:K<=L) (hm:M<=N) (he:iY q q'):RT n L N q' l:=⟨Nat.le_trans h.len hm,fun u hu=>(h.ok u hu).mono hk,h.dst,h.eqv.trans he⟩
theorem rB:∀ a,sE a=G.jx a
 | []=>rfl
 | x :: a=>by rw [sE,G.jx,rB a]
theorem wd_sz {k:Nat} {c:Rat} (h:Wd k c):Sz WW (k+1) c:=by
 have:WB ^ k<WW ^ (k+1):=Int.pow_lt_pow_of_lt (by decide) Q2
 exact ⟨Int.lt_of_le_of_lt h.1 this,Int.lt_of_le_of_lt h.2 this⟩
theorem sz_wd {k:Nat} {c:Rat} (h:Sz WW k c):Wd k c:=⟨Int.le_of_lt h.1,Int.le_of_lt h.2⟩
theorem wb_rr:∀ k:Nat,WB ^ k<=RR ^ (3*k)
 | 0=>by decide
 | k+1=>by
  have h:=wb_rr k
  have e:RR ^ (3*(k+1))=RR ^ (3*k)*RR ^ 3:=by rw [<- Int.pow_add];rfl
  rw [Int.pow_succ,e]
  exact Int.mul_le_mul h (by decide) (by decide) (Int.le_of_lt (Int.pow_pos (by decide)))
theorem HE {k:Nat} {c:Rat} (h:Wd k c):Sz RR (3*k+1) c:=by
 have h1:=wb_rr k
 have h2:RR ^ (3*k)<RR ^ (3*k+1):=Int.pow_lt_pow_of_lt (by decide) Q2
 exact ⟨by have:=h.1;omega,by have:=h.2;omega⟩
section
variable {n K M L N k:Nat} {q q':List Tm} {l r:List ah} {E:Int}
theorem pK {u:ah} (hu:u∈l):jw u∈dY l:=List.mem_map_of_mem hu
theorem oh {u:ah} (hu:u∈r):xj n u∈cX n r:=List.mem_map_of_mem hu
theorem uS:(dY l).length=l.length:=List.length_map ..
theorem HX:(cX n r).length=r.length:=List.length_map ..
theorem PT.fit (h:PT n K M q l) (hc:CB k q):PT n (k+1) M q l:=⟨h.len,fun u hu=>by
 obtain ⟨o1,o2,o3⟩:=h.ok u hu
 exact ⟨o1,o2,iK u.2.1,o3.rb.1,wd_sz (h.srt.dst.wd (fun e=>h.eqv.co e) hc (pK hu))⟩,h.srt,h.eqv⟩
theorem RT.fit (h:RT n K M q r) (hc:CB k q):RT n (3*k+1) M q r:=⟨h.len,fun u hu=>by
 obtain ⟨o1,o2,o3⟩:=h.ok u hu
 exact ⟨o1,o2,nP u.2.1,o3.rb.1,HE (h.dst.wd (fun e=>h.eqv.co e) hc (oh hu))⟩,h.dst,h.eqv⟩
theorem PT.Hz (h:PT n K M q l) (hx:XB E q):XB E (dY l):=XB.of h.srt.dst (fun e=>h.eqv.co e) hx
theorem RT.Hz (h:RT n K M q r) (hx:XB E q):XB E (cX n r):=XB.of h.dst (fun e=>h.eqv.co e) hx
theorem PT.xb (h:PT n K M q l) (hx:XB E q) {u:ah} (hu:u∈l):(∀ x∈u.1,0<=x/\x<=E)/\sE u.1<=E:=by
 obtain ⟨a,b⟩:=h.Hz hx _ (pK hu)
 have b':G.jx u.1<=E:=b
 refine ⟨fun x hx'=>⟨a x hx',Int.le_trans (G.pV a hx') b⟩,?_⟩
 rw [rB];exact b'
theorem nO.bound {t:ah} (h:nO n K t) {B:Int} (hB:0<=B) (hn:n<=8) (hx:∀ x∈t.1.take n,0<=x/\x<=B) (j:Nat):0<=t.1.getD j 0/\t.1.getD j 0<=B:=by
 rw [h.1,dW,cN _ _ _ (by have:=h.2.1;omega),List.getD_eq_getElem?_getD]
 by_cases c:j<(t.1.take n++List.replicate (8-(t.1.take n).length) 0).length
 ·rw [List.getElem?_eq_getElem c]
  have hm:=List.getElem_mem c
  rw [Option.getD_some]
  rcases List.mem_append.1 hm with g | g
  ·exact hx _ g
  have:=List.eq_of_mem_replicate g
  omega
 rw [List.getElem?_eq_none Q2]
 exact ⟨Int.le_refl _,hB⟩
theorem RT.bnd (h:RT n K M q r) (hx:XB E q) (hE:0<=E) (hn:n<=8) {u:ah} (hu:u∈r) (j:Nat):0<=u.1.getD j 0/\u.1.getD j 0<=E:=by
 obtain ⟨a,b⟩:=h.Hz hx _ (oh hu)
 exact (h.ok u hu).bound hE hn (fun x hx'=>⟨a x hx',Int.le_trans (G.pV a hx') b⟩) j
theorem KV (hn:n<=8) {u:ah} (h:lT n K u):ArgM u:=by
 obtain ⟨o1,o2,o3⟩:=h
 have hr:=o3.rb.1
 exact ⟨Q2,hr.2.1.1,hr.2.2.1,trivial,trivial⟩
theorem PT.arg (h:PT n K M q l) (hn:n<=8) (hM:M<=1000000000):mI ((n:Int),l,()):=⟨by have:=h.len;show l.length<=_;omega,fun u hu=>KV hn (h.ok u hu)⟩
theorem PT.xm (h:PT n K M q l) (hn:n<=8) (hM:M<=1000000000) (hK:K<=1000000000):LZ ((n:Int),l,()):=by
 refine ⟨by have:=h.len;show l.length<=_;omega,fun i hi=>?_⟩
 have a:i<l.length:=hi
 have e:cK ((n:Int),l,()) i=l[i]:=cA a
 obtain ⟨o1,o2,o3⟩:=h.ok _ (List.getElem_mem a)
 obtain ⟨l1,l2⟩:=ij bw o3.rb.1 o3.rb.2
 rw [e]
 exact ⟨Q2,Q2,Q2⟩
theorem PT.is (h:PT n K M q l) (g:RT n L N q' r) (he:iY q q') (hn:n<=8) (hM:M<=1000000000) (hN:N<=100000) (hK:K<=1000000000) (hL:L<1073741824):Ev (fun k=>fI k ((n:Int),l,()) r (n:Int)) true :=
 Is_of hn h.ok g.ok (h.xm hn hM hK) hL (Nat.le_trans g.len hN) h.srt g.dst (h.eqv.trans (he.trans g.eqv.symm))
theorem PT.valid (h:PT n K M q l) (hn:n<=8) (hM:M<=4000) (hc:CB 199 q) (hx:XB 40 q):fE ((n:Int),l,()):=by
 have h':=h.fit hc
 exact Gq hn (Nat.le_trans h.len hM) (Nat.le_refl 200) h'.ok h.srt (fun u hu=>(h.xb hx hu).2) (fun u hu e he=>((h.xb hx hu).1 e he).2)
theorem wu (h:PT n K M q l) (hn:n<=8) (hM:M<=4000) (hc:CB 199 q) (hx:XB 40 q):Ev (fun k=>jc k ((n:Int),l,())) (((n:Int),l,()),(0:Int),()):=by
 have e:=iv (h.arg hn Q2)
 rw [fD (h.valid hn hM hc hx)] at e
 have hl:=h.len
 exact Ev.step (fun k=>uG k _) (Ev.bind e (bF rfl (Ev.bind (BE hn Q2 Q2 (h.fit hc).ok) (aX _))))
theorem KQ {p p':aA} (ha:mI p) (hb:mI p') (hp:fE p) (hq:fE p') (hn:p.1=p'.1):Ev (fun k=>pR k p p') 0:=by
 have e1:=iv ha
 have e2:=iv hb
 rw [fD hp] at e1
 rw [fD hq] at e2
 exact Ev.step (fun k=>zo k _ _) (Ev.bind e1 (Ev.bind (a:=false) (bF rfl (Ev.bind e2 (aX _))) (bF rfl (bF (by simp [hn]) (aX _)))))
end
theorem evu {α:Type} {f:Nat->Option α} {a b:α} (h:Ev f a) (g:Ev f b):a=b:=by
 obtain ⟨K,h⟩:=h
 obtain ⟨L,g⟩:=g
 have:=(h (max K L) Q2).symm.trans (g (max K L) Q2)
 exact Option.some.inj this
open Go.Proofs.YtfbgaddecbiimaaGreatDoor.G (qu)
theorem zV (f:ah->Tm):∀ (l:List ah) (a:Int),-1<=a->(∀ t∈l,G.jx (f t).1=sE t.1)->dgM l a=max a (qu (l.map f))
 | [],a,ha,_=>by show a=max a (-1);omega
 | t :: l,a,ha,h=>by
  have e:=h t Q3
  have ih:=zV f l (mx a (sE t.1)) (by unfold mx;split<;>omega) fun u hu=>h u (by simp [hu])
  show dgM l (mx a (sE t.1))=max a (max (G.jx (f t).1) (qu (l.map f)))
  rw [ih,e]
  unfold mx
  split<;>omega
theorem Lx (l:List ah):dgM l (-1)=qu (dY l):=by
 rw [zV jw l (-1) Q2 (fun t _=>(rB _).symm)]
 have:=G.wO (dY l)
 show max (-1) (qu (dY l))=_
 omega
section
variable {n K M L N k:Nat} {q q':List Tm} {l l' r:List ah} {E F:Int}
theorem nO.sum {t:ah} (h:nO n K t) (hn:n<=8):sE t.1=sE (t.1.take n):=by
 conv=>lhs;rw [h.1]
 exact Ip (by have:=h.2.1;omega)
theorem JH (h:∀ u∈r,nO n K u) (hn:n<=8):dgM r (-1)=qu (cX n r):=by
 rw [zV (xj n) r (-1) Q2 (fun t ht=>by rw [(h t ht).sum hn,rB];rfl)]
 have:=G.wO (cX n r)
 show max (-1) (qu (cX n r))=_
 omega
theorem XB.qu (h:XB E q) (hE:-1<=E):qu q<=E:=G.JI hE fun t ht=>(h t ht).2
theorem XB.pos (h:XB E q) {t:Tm} (ht:t∈q):0<=E:=Int.le_trans (G.yQ (h t ht).1) (h t ht).2
theorem XB.dQ (h:XB E q) (h':XB F q') (hq:Len n q) (hq':Len n q') {t u:Tm} (ht:t∈q) (hu:u∈q') {B:Int} (hB:E+F<B):∀ e∈G.dQ u.1 t.1,0<=e/\e<B:=by
 intro e he
 have h0:∀ x∈G.dQ u.1 t.1,(0:Int)<=x:=fun x hx=>G.wa (h' u hu).1 (h t ht).1 hx
 have h1:=G.pV h0 he
 rw [G.vp ((hq' u hu).trans (hq t ht).symm)] at h1
 have:=(h t ht).2
 have:=(h' u hu).2
 exact ⟨h0 e he,Q2⟩
theorem xp (h:∀ u∈r,nO n K u) (hn:n<=8) (hl:r.length<=1000000000) (hx:XB E (cX n r)) (hE:E<=1000000):Ev (fun k=>bA k r) (qu (cX n r)):=by
 rw [<- JH h hn]
 have main:=nL (n:=r.length) (P:=fun i=>∀ x:Int,aL (fun k m=>bA.l0 k m x r (r.length:Int) (i:Int)) (dgM (r.drop i) x)) ?_ ?_ 0 (Nat.zero_le _) (-1)
 ·exact Ev.step (fun k=>iF k r) main.diag
 ·intro x
  rw [List.drop_length]
  exact aL.step (fun k m=>bA.aM k m _ _ _ _) (aL.bF (decide_eq_false Q2) (aL.of (aX _)))
 intro i hi ih x
 have e:(cE (t:=af) r (i:Int):ah)=r[i]:=cA hi
 have hm:=List.getElem_mem hi
 obtain ⟨a,b⟩:=hx _ (oh hm)
 have c:0<=E:=XB.pos hx (oh hm)
 refine aL.step (fun k m=>bA.aM k m _ _ _ _) (aL.bT (decide_eq_true Q2) (aL.iT Q2 ?_))
 rw [e,dF hi]
 refine aL.bind (mS _ (h _ hm).len (fun x hx'=>?_)) ?_
 ·obtain ⟨j,hj,rfl⟩:=List.getElem_of_mem hx'
  have:=(h _ hm).bound c hn (fun x hx'=>⟨a x hx',Int.le_trans (G.pV a hx') b⟩) j
  rw [G.zP hj] at this
  omega
 rw [fz Q2]
 exact ih _
theorem gt0 {l:List ah} (h:l≠[]):decide ((List.length l:Int)>(0:Int))=true:=decide_eq_true (by have:=List.length_pos_iff.2 h;omega)
theorem Fw {l:List ah} (h:l=[]):decide ((List.length l:Int)>(0:Int))=false:=by subst h;rfl
theorem DU (h:PT n K M q l) (h':PT n L N q' l') (hx:XB E q) (hx':XB F q') (hq:Len n q) (hq':Len n q') (hn:n<=8) (hE:E+F<256) (hMN:M*N<=60000) (hM:M<=60000) (hN:N<=60000) (hKL:K+L<3000):∃ r,Ev (fun k=>fP k ((n:Int),l,()) ((n:Int),l',())) ((n:Int),r,())/\PT n (60000*(L+K+1)) (M*N) (G.prod q q') r:=by
 have a:l.length*l'.length<=M*N:=Nat.mul_le_mul h.len h'.len
 obtain ⟨r,r1,r2,r3,r4,r5⟩:=DT hn (Nat.le_trans h.len hM) (Nat.le_trans h'.len hN) (Nat.le_trans a hMN) hKL h.ok h'.ok (fun u hu t ht=>XB.dQ (h.Hz hx) (h'.Hz hx') h.srt.len h'.srt.len (pK ht) (pK hu) hE)
 exact ⟨r,r1,Nat.le_trans r2 a,fun u hu=>(r3 u hu).mono (Nat.mul_le_mul_right _ (Nat.le_trans a hMN)),r4,r5.trans (h.eqv.prod h'.eqv)⟩
theorem vN (h:PT n K M q l) (h':PT n L N q' l') (hx:XB E q) (hx':XB F q') (hq:Len n q) (hq':Len n q') (hn:n<=8) (hE:E+F<=40) (hMN:M*N<=4000) (hM:M<=4000) (hN:N<=4000) (hKL:K+L<3000) {j:Nat} (hc:CB j (G.prod q q')) (hj:j<=199):∃ r,Ev (fun k=>ki k ((n:Int),l,()) ((n:Int),l',())) (((n:Int),r,()),(0:Int),())/\PT n (j+1) (M*N) (G.prod q q') r:=by
 obtain ⟨r,r1,r2⟩:=DU h h' hx hx' hq hq' hn Q2 Q2 Q2 Q2 hKL
 have d:=wu r2 hn hMN (hc.mono hj) ((XB.prod hq hq' hx hx').mono hE)
 refine ⟨r,?_,r2.fit hc⟩
 have b:Ev (fun k=>(fP k ((n:Int),l,()) ((n:Int),l',())).bind fun (v5:aA)=>(jc k v5).bind fun (v6:aA×Int×Unit)=>some (v6.1,v6.2.1,())) (((n:Int),r,()),(0:Int),()):=Ev.bind r1 (Ev.bind d (aX _))
 have l1:=h.len
 have l2:=h'.len
 by_cases c:l=[]
 ·exact Ev.step (fun k=>j8 k _ _) (Ev.bind (a:=false) (bF (Fw c) (aX _)) (Ev.bind (a:=false) (bF rfl (aX _)) (bF rfl b)))
 by_cases c':l'=[]
 ·exact Ev.step (fun k=>j8 k _ _) (Ev.bind (a:=false) (bT (gt0 c) (by rw [Fw c'];exact aX _)) (Ev.bind (a:=false) (bF rfl (aX _)) (bF rfl b)))
 have e1:=qp hn Q2 h.ok
 have e2:=qp hn Q2 h'.ok
 rw [Lx] at e1 e2
 have m1:=G.wO (dY l)
 have m2:=G.wO (dY l')
 obtain ⟨u,hu⟩:=List.exists_mem_of_ne_nil l c
 obtain ⟨u',e⟩:=List.exists_mem_of_ne_nil l' c'
 have b1:=XB.qu (h.Hz hx) (by have:=XB.pos (h.Hz hx) (pK hu);omega)
 have b2:=XB.qu (h'.Hz hx') (by have:=XB.pos (h'.Hz hx') (pK e);omega)
 refine Ev.step (fun k=>j8 k _ _) (Ev.bind (a:=true) (bT (gt0 c) (by rw [gt0 c'];exact aX _)) (Ev.bind (a:=false) (bT rfl (Ev.bind e1 (Ev.bind e2 ?_))) (bF rfl b)))
 rw [cy Q2 Q2]
 exact pj Q2
theorem ub (h:RT n K M q l) (h':RT n L N q' l') (hx:XB E q) (hx':XB F q') (hE0:0<=E) (hF0:0<=F) (hE:E<1000000) (hF:F<1000000) (hn:n<=8) (hM:M<=100) (hN:N<=100) (hKL:(M*N+1)*(K+L+1)<1000000) {j:Nat} (hc:CB j (G.prod q q')):∃ r,Ev (fun k=>bb k l l') r/\RT n (3*j+1) (M*N) (G.prod q q') r:=by
 have a:l.length*l'.length<=M*N:=Nat.mul_le_mul h.len h'.len
 obtain ⟨r,r1,r2,r3,r4⟩:=Bl hn (Nat.le_trans h.len hM) (Nat.le_trans h'.len hN) rfl (Nat.lt_of_le_of_lt (Nat.mul_le_mul_right _ (Nat.succ_le_succ a)) hKL) h.ok h'.ok (fun u hu j=>by have:=h.bnd hx hE0 hn hu j;omega) (fun u hu j=>by have:=h'.bnd hx' hF0 hn hu j;omega)
 have b:Len n (G.prod (cX n l) (cX n l')):=Len.prod h.dst.len h'.dst.len
 obtain ⟨c1,c2⟩:=G.rj (iI.nil n) b
 rw [<- r2] at c1 c2
 have he:iY (cX n r) (G.prod q q'):=fun m=>by
  rw [c2]
  show 0+_=_
  rw [(h.eqv.prod h'.eqv) m]
  grind
 exact ⟨r,r1,RT.fit ⟨Nat.le_trans r4 a,r3,c1,he⟩ hc⟩
end
open Go.Proofs.YtfbgaddecbiimaaGreatDoor.G (fk)
theorem cmp3:∀ {a b:List Int},a.length=b.length->cZ a b=if G.hJ a b=true then 1 else if G.hJ b a=true then -1 else 0
 | [],[],_=>rfl
 | [],_ :: _,h=>by simp at h
 | _ :: _,[],h=>by simp at h
 | x :: a,y :: b,h=>by
  have ih:=cmp3 (a:=a) (b:=b) (by simpa using h)
  have e1:G.hJ (x :: a) (y :: b)=if x=y then G.hJ a b else decide (x>y):=rfl
  have e2:G.hJ (y :: b) (x :: a)=if y=x then G.hJ b a else decide (y>x):=rfl
  by_cases e:x=y
  ·rw [if_pos e] at e1
   rw [if_pos e.symm] at e2
   rw [e1,e2,<- ih]
   simp only [cZ,if_pos e]
  rw [if_neg e] at e1
  rw [if_neg (fun h=>e h.symm)] at e2
  rw [e1,e2]
  simp only [cZ,if_neg e,decide_eq_true_eq]
  by_cases g:x<y
  ·rw [if_pos g,if_neg Q2,if_pos Q2]
  rw [if_neg g,if_pos Q2]
section
variable {n K M L N k:Nat} {q q':List Tm} {l l' r:List ah} {E F:Int}
theorem cmp_ev {t u:ah} (ht:lT n K t) (hu:lT n L u) (hn:n<=8) {c:Int} (h:cZ t.1 u.1=c):Ev (fun k=>fb k t.1 u.1) c:=by
 have h1:=ht.1
 have h2:=hu.1
 rw [<- h]
 exact vR _ _ Q2 Q2
theorem LO {t u:ah} (ht:lT n K t) (hu:lT n L u) (hKL:K+L<200000000) (he:t.1=u.1):∃ v,Ev (fun k=>gC k t.2.1 u.2.1) v/\Ev (fun k=>iB k v) (Dx (iK t.2.1+iK u.2.1))/\(∀ z,lT n (K+L+1) (t.1,v,z)/\jw (t.1,v,z)=((jw t).1,(jw t).2+(jw u).2)):=by
 obtain ⟨a1,a2,a3⟩:=ht
 obtain ⟨b1,b2,b3⟩:=hu
 obtain ⟨v,v1,v2,v3⟩:=vW a3.rb.1 b3.rb.1 a3.rb.2 b3.rb.2 Q2
 refine ⟨v,v1,oP v2,fun z=>⟨⟨a1,a2,_,v2,v3⟩,?_⟩⟩
 show (t.1,iK v)=_
 rw [mU v2]
 rfl
theorem sgn_nz {x:Rat} (h:x=0):(Dx x != (0:Int))=false:=by rw [yZ];exact eC (fun g=>g h)
theorem Kx {x:Rat} (h:¬ x=0):(Dx x != (0:Int))=true:=by rw [yZ];exact fD h
theorem Hv (t:Tm) (p:List Tm):fk (t :: p) []=t :: fk p []:=by rw [G.pE,G.pE]
theorem ET (u:Tm) (q:List Tm):fk [] (u :: q)=u :: fk [] q:=by rw [fk,fk]
theorem LR {t u:Tm} {p q:List Tm} (h:G.hJ t.1 u.1=true):fk (t :: p) (u :: q)=t :: fk p (u :: q):=by rw [fk,if_pos h]
theorem LQ {t u:Tm} {p q:List Tm} (h:¬ G.hJ t.1 u.1=true) (h':G.hJ u.1 t.1=true):fk (t :: p) (u :: q)=u :: fk (t :: p) q:=by rw [fk,if_neg h,if_pos h']
theorem LP {t u:Tm} {p q:List Tm} (h:¬ G.hJ t.1 u.1=true) (h':¬ G.hJ u.1 t.1=true) (z:t.2+u.2=0):fk (t :: p) (u :: q)=fk p q:=by rw [fk,if_neg h,if_neg h',if_pos z]
theorem LS {t u:Tm} {p q:List Tm} (h:¬ G.hJ t.1 u.1=true) (h':¬ G.hJ u.1 t.1=true) (z:¬ t.2+u.2=0):fk (t :: p) (u :: q)=(t.1,t.2+u.2) :: fk p q:=by rw [fk,if_neg h,if_neg h',if_neg z]
end
section
variable {n K M L N k:Nat} {q q':List Tm} {l l' r:List ah} {E F:Int}
theorem GL (hn:n<=8) (hKL:K+L<200000000) (hl:l.length+l'.length<=1000000) (hx:∀ u∈l,lT n K u) (hy:∀ u∈l',lT n L u):∀ (s i j:Nat),i<=l.length->j<=l'.length->(l.length-i)+(l'.length-j)=s->∀ acc:List ah,acc.length<=i+j->∃ r:List ah,aL (fun k m=>dI.l0 k m (i:Int) (j:Int) ((n:Int),l,()) ((n:Int),l',()) ((0:Int),[],()) (n:Int) acc) ((n:Int),acc++r,())/\dY r=fk (dY (l.drop i)) (dY (l'.drop j))/\(∀ u∈r,lT n (K+L+1) u)/\r.length<=s:=by
 intro s
 induction s using Nat.strongRecOn with
 | _ s ih =>
 intro i j hi hj hs acc ha
 have B:∀ {i:Nat},¬ (i:Int)<(i:Int):=fun {i}=>Q2
 have x:∀ (h:i<l.length),fk (dY (l.drop i)) (dY (l'.drop j))=jw l[i] :: fk (dY (l.drop (i+1))) (dY (l'.drop j))->∃ r:List ah,aL (fun k m=>dI.j0 k m (i:Int) (j:Int) (1:Int) ((n:Int),l,()) ((n:Int),l',()) ((0:Int),[],()) (n:Int) acc) ((n:Int),acc++r,())/\dY r=fk (dY (l.drop i)) (dY (l'.drop j))/\(∀ u∈r,lT n (K+L+1) u)/\r.length<=s:=fun h he=>by
  have e:(cE (t:=aj) l (i:Int):ah)=l[i]:=cA h
  obtain ⟨r,r1,r2,r3,r4⟩:=ih (s-1) Q2 (i+1) j h hj Q2 (acc++[l[i]]) (by simp only [List.length_append,List.length_cons,List.length_nil];omega)
  refine ⟨l[i] :: r,?_,by rw [he,eu,r2],fun v hv=>?_,by simp only [List.length_cons];omega⟩
  ·rw [show acc++l[i] :: r=(acc++[l[i]])++r by simp]
   refine aL.bT rfl (aL.iT (by dsimp only;omega) ?_)
   show aL (fun k m=>if (List.length acc+List.length [(cE (t:=aj) l (i:Int):ah)])*80<=140737488355328 then dI.l0 k m (wrap64 ((i:Int)+(1:Int))) (j:Int) ((n:Int),l,()) ((n:Int),l',()) ((0:Int),[],()) (n:Int) (acc++[(cE (t:=aj) l (i:Int):ah)]) else none) _
   rw [e,fz Q2]
   exact aL.iT (by simp only [List.length_cons,List.length_nil];omega) r1
  rcases List.mem_cons.1 hv with rfl | hv
  ·exact (hx _ (List.getElem_mem h)).mono Q2
  exact r3 v hv
 have q:∀ (h:j<l'.length),fk (dY (l.drop i)) (dY (l'.drop j))=jw l'[j] :: fk (dY (l.drop i)) (dY (l'.drop (j+1)))->∃ r:List ah,aL (fun k m=>dI.j0 k m (i:Int) (j:Int) (-1:Int) ((n:Int),l,()) ((n:Int),l',()) ((0:Int),[],()) (n:Int) acc) ((n:Int),acc++r,())/\dY r=fk (dY (l.drop i)) (dY (l'.drop j))/\(∀ u∈r,lT n (K+L+1) u)/\r.length<=s:=fun h he=>by
  have e:(cE (t:=aj) l' (j:Int):ah)=l'[j]:=cA h
  obtain ⟨r,r1,r2,r3,r4⟩:=ih (s-1) Q2 i (j+1) hi h Q2 (acc++[l'[j]]) (by simp only [List.length_append,List.length_cons,List.length_nil];omega)
  refine ⟨l'[j] :: r,?_,by rw [he,eu,r2],fun v hv=>?_,by simp only [List.length_cons];omega⟩
  ·rw [show acc++l'[j] :: r=(acc++[l'[j]])++r by simp]
   refine aL.bF rfl (aL.bT rfl (aL.iT (by dsimp only;omega) ?_))
   show aL (fun k m=>if (List.length acc+List.length [(cE (t:=aj) l' (j:Int):ah)])*80<=140737488355328 then dI.l0 k m (i:Int) (wrap64 ((j:Int)+(1:Int))) ((n:Int),l,()) ((n:Int),l',()) ((0:Int),[],()) (n:Int) (acc++[(cE (t:=aj) l' (j:Int):ah)]) else none) _
   rw [e,fz Q2]
   exact aL.iT (by simp only [List.length_cons,List.length_nil];omega) r1
  rcases List.mem_cons.1 hv with rfl | hv
  ·exact (hy _ (List.getElem_mem h)).mono Q2
  exact r3 v hv
 by_cases ci:i=l.length
 ·have d0:l.drop i=[]:=by rw [ci];exact List.drop_length
  by_cases cj:j=l'.length
  ·have d1:l'.drop j=[]:=by rw [cj];exact List.drop_length
   refine ⟨[],?_,by rw [d0,d1,show dY ([]:List ah)=[] from rfl,G.pE],(fun v hv=>by cases hv),Q3⟩
   rw [List.append_nil]
   exact aL.step (fun k m=>dI.aM k m _ _ _ _ _ _ _) (aL.bind (a:=false) (bF (decide_eq_false (by show ¬ (i:Int)<(l.length:Int);omega)) (pj (by show ¬ (j:Int)<(l'.length:Int);omega))) (aL.bF rfl (aL.of (aX _))))
  have b:j<l'.length:=Q2
  obtain ⟨r,r1,r2⟩:=q b (by rw [d0,dF b,eu,show dY ([]:List ah)=[] from rfl,ET])
  exact ⟨r,aL.step (fun k m=>dI.aM k m _ _ _ _ _ _ _) (aL.bind (a:=true) (bF (decide_eq_false (by show ¬ (i:Int)<(l.length:Int);omega)) (wL (by show (j:Int)<(l'.length:Int);omega))) (aL.bT rfl (aL.bT (by rw [ci];exact beq_self_eq_true _) r1))),r2⟩
 have d:i<l.length:=Q2
 have y:∀ {g:Nat->Option Bool},Ev (fun k=>bif decide ((i:Int)<(l.length:Int)) then some true else g k) true:=fun {g}=>bT (decide_eq_true Q2) (aX _)
 have p:((i:Int)==(l.length:Int))=false:=beq_eq_false_iff_ne.2 Q2
 by_cases cj:j=l'.length
 ·have d1:l'.drop j=[]:=by rw [cj];exact List.drop_length
  obtain ⟨r,r1,r2⟩:=x d (by rw [d1,dF d,eu,show dY ([]:List ah)=[] from rfl,Hv])
  exact ⟨r,aL.step (fun k m=>dI.aM k m _ _ _ _ _ _ _) (aL.bind (a:=true) y (aL.bT rfl (aL.bF p (aL.bT (by rw [cj];exact beq_self_eq_true _) r1)))),r2⟩
 have b:j<l'.length:=Q2
 have A:((j:Int)==(l'.length:Int))=false:=beq_eq_false_iff_ne.2 Q2
 have ei:(cE (t:=aj) l (i:Int):ah)=l[i]:=cA d
 have ej:(cE (t:=aj) l' (j:Int):ah)=l'[j]:=cA b
 have ht:=hx _ (List.getElem_mem d)
 have hu:=hy _ (List.getElem_mem b)
 have o:l[i].1.length=l'[j].1.length:=ht.1.trans hu.1.symm
 have c3:=cmp3 o
 have f:∀ {R:aA} {c:Int},cZ l[i].1 l'[j].1=c->aL (fun k m=>dI.j0 k m (i:Int) (j:Int) c ((n:Int),l,()) ((n:Int),l',()) ((0:Int),[],()) (n:Int) acc) R->aL (fun k m=>dI.l0 k m (i:Int) (j:Int) ((n:Int),l,()) ((n:Int),l',()) ((0:Int),[],()) (n:Int) acc) R:=fun {R c} hc h=>by
  refine aL.step (fun k m=>dI.aM k m _ _ _ _ _ _ _) (aL.bind (a:=true) y (aL.bT rfl (aL.bF p (aL.bF A (aL.iT (by show 0<=(i:Int)/\(i:Int)<(l.length:Int);omega) (aL.iT (by show 0<=(j:Int)/\(j:Int)<(l'.length:Int);omega) ?_))))))
  rw [ei,ej]
  exact aL.bind (cmp_ev ht hu hn hc) h
 by_cases g:G.hJ l[i].1 l'[j].1=true
 ·rw [if_pos g] at c3
  obtain ⟨r,r1,r2⟩:=x d (by rw [dF d,dF b,eu,eu,LR g])
  exact ⟨r,f c3 r1,r2⟩
 by_cases g':G.hJ l'[j].1 l[i].1=true
 ·rw [if_neg g,if_pos g'] at c3
  obtain ⟨r,r1,r2⟩:=q b (by rw [dF d,dF b,eu,eu,LQ g g'])
  exact ⟨r,f c3 r1,r2⟩
 rw [if_neg g,if_neg g'] at c3
 obtain ⟨v,v1,v2,v3⟩:=LO ht hu hKL (G.tE o (by simpa using g) (by simpa using g'))
 obtain ⟨v3,v4⟩:=v3 ()
 have hd:fk (dY (l.drop i)) (dY (l'.drop j))=fk (jw l[i] :: dY (l.drop (i+1))) (jw l'[j] :: dY (l'.drop (j+1))):=by rw [dF d,dF b,eu,eu]
 by_cases z:iK l[i].2.1+iK l'[j].2.1=0
 ·obtain ⟨r,r1,r2,r3,r4⟩:=ih (s-2) Q2 (i+1) (j+1) d b Q2 acc Q2
  refine ⟨r,f c3 (aL.bF rfl (aL.bF rfl (aL.iT (by show 0<=(i:Int)/\(i:Int)<(l.length:Int);omega) (aL.iT (by show 0<=(j:Int)/\(j:Int)<(l'.length:Int);omega) ?_)))),by rw [hd,LP g g' z,r2],r3,Q2⟩
  rw [ei,ej]
  refine aL.bind v1 (aL.bind v2 (aL.bF (sgn_nz z) ?_))
  show aL (fun k m=>dI.l0 k m (wrap64 ((i:Int)+(1:Int))) (wrap64 ((j:Int)+(1:Int))) ((n:Int),l,()) ((n:Int),l',()) ((0:Int),[],()) (n:Int) acc) _
  rw [fz Q2,fz Q2]
  exact r1
 obtain ⟨r,r1,r2,r3,r4⟩:=ih (s-2) Q2 (i+1) (j+1) d b Q2 (acc++[(l[i].1,v,())]) (by simp only [List.length_append,List.length_cons,List.length_nil];omega)
 refine ⟨(l[i].1,v,()) :: r,?_,by rw [hd,LS g g' z,eu,r2,v4],fun w hw=>?_,by simp only [List.length_cons];omega⟩
 ·rw [show acc++(l[i].1,v,()) :: r=(acc++[(l[i].1,v,())])++r by simp]
  refine f c3 (aL.bF rfl (aL.bF rfl (aL.iT (by show 0<=(i:Int)/\(i:Int)<(l.length:Int);omega) (aL.iT (by show 0<=(j:Int)/\(j:Int)<(l'.length:Int);omega) ?_))))
  rw [ei,ej]
  refine aL.bind v1 (aL.bind v2 (aL.bT (Kx z) (aL.iT (by show 0<=(i:Int)/\(i:Int)<(l.length:Int);omega) (aL.iT (by simp only [List.length_cons,List.length_nil];omega) ?_))))
  show aL (fun k m=>dI.l0 k m (wrap64 ((i:Int)+(1:Int))) (wrap64 ((j:Int)+(1:Int))) ((n:Int),l,()) ((n:Int),l',()) ((0:Int),[],()) (n:Int) (acc++[(l[i].1,v,())])) _
  rw [fz Q2,fz Q2]
  exact r1
 rcases List.mem_cons.1 hw with rfl | hw
 ·exact v3
 exact r3 w hw
theorem DX (h:PT n K M q l) (h':PT n L N q' l') (hn:n<=8) (hKL:K+L<200000000) (hMN:M+N<=1000000):∃ r,Ev (fun k=>dI k ((n:Int),l,()) ((n:Int),l',())) ((n:Int),r,())/\PT n (K+L+1) (M+N) (q++q') r:=by
 have l1:=h.len
 have l2:=h'.len
 obtain ⟨r,r1,r2,r3,r4⟩:=GL hn hKL Q2 h.ok h'.ok _ 0 0 (Nat.zero_le _) (Nat.zero_le _) rfl [] Q3
 obtain ⟨s1,s2⟩:=G.qa _ _ h.srt h'.srt
 refine ⟨r,Ev.step (fun k=>DY k _ _) r1.diag,Q2,r3,by rw [r2];exact s1,fun m=>?_⟩
 rw [r2,List.drop_zero,List.drop_zero,s2,G.iO,h.eqv,h'.eqv]
end
section
variable {n K M L N k:Nat} {q q':List Tm} {l l' r:List ah} {E F:Int}
theorem Bm {l l':List ah} (h:RT n K M q l) (h':RT n L N q' l') (hn:n<=8) (hMN:M+N<=100000) (hKL:K+(N+1)*(L+1)<1000000):∃ r,Ev (fun k=>cI k l l') r/\RT n (K+N*(L+1)) (M+N) (q++q') r:=by
 have hm:=h.len
 have g:=h'.len
 have hN:∀ i,i<=l'.length->i*(L+1)<=N*(L+1):=fun i hi=>Nat.mul_le_mul_right _ Q2
 have d:(N+1)*(L+1)=N*(L+1)+(L+1):=Nat.succ_mul _ _
 have a:=nL (n:=l'.length) (P:=fun i=>∀ acc:List ah,acc.length<=M+i->(∀ t∈acc,nO n (K+i*(L+1)) t)->∃ r:List ah,aL (fun k m=>cI.l0 k m l' (l'.length:Int) (i:Int) acc) r/\cX n r=G.canon (cX n (l'.drop i)) (cX n acc)/\(∀ t∈r,nO n (K+N*(L+1)) t)/\r.length<=M+N) ?_ ?_ 0 (Nat.zero_le _) l Q2 (fun t ht=>(h.ok t ht).mono Q2)
 ·obtain ⟨r,r1,r2,r3,r4⟩:=a
  obtain ⟨c1,c2⟩:=G.rj h.dst h'.dst.len
  rw [List.drop_zero] at r2
  rw [<- r2] at c1 c2
  refine ⟨r,Ev.step (fun k=>nT k _ _) (iT (by simp only [List.length_nil];omega) r1.diag),r4,r3,c1,fun m=>?_⟩
  rw [c2,G.iO,h.eqv,h'.eqv]
 ·intro acc ha ho
  exact ⟨acc,aL.step (fun k m=>cI.aM k m _ _ _ _) (aL.bF (decide_eq_false Q2) (aL.of (aX _))),by rw [List.drop_length];rfl,fun t ht=>(ho t ht).mono (by have:=hN _ (Nat.le_refl _);omega),Q2⟩
 intro i hi ih acc ha ho
 have e:(cE (t:=af) l' (i:Int):ah)=l'[i]:=cA hi
 obtain ⟨p1,p2,p3⟩:=h'.ok l'[i] (List.getElem_mem hi)
 have b:=hN (i+1) hi
 have f:(i+1)*(L+1)=i*(L+1)+(L+1):=Nat.succ_mul _ _
 obtain ⟨s,s1,s2,s3,s4⟩:=qG (e:=l'[i].1.take n) (c:=l'[i].2.1) hn Q2 Q2 ho p2 p3.rb.1 p3.rb.2
 rw [<- p1] at s1
 obtain ⟨r,r1,r2,r3⟩:=ih s Q2 (fun t ht=>(s3 t ht).mono Q2)
 refine ⟨r,aL.step (fun k m=>cI.aM k m _ _ _ _) (aL.bT (decide_eq_true Q2) (aL.iT Q2 ?_)),?_,r3⟩
 ·rw [e]
  refine aL.bind s1 ?_
  rw [fz Q2]
  exact r1
 rw [r2,dF hi,s2]
 rfl
end
section
variable {p:aA}
theorem Am.okT {n a c:Nat} (hs:Am p a c) (hn:p.1=(n:Int)):∀ u∈p.2.1,lT n c u:=by
 obtain ⟨m,m8,mn,mo⟩:=AB hs.ok
 obtain rfl:m=n:=Q2
 intro u hu
 obtain ⟨o1,o2,o3⟩:=mo u hu
 obtain ⟨i,hi,rfl⟩:=List.getElem_of_mem hu
 have e:cK p i=p.2.1[i]:=cA hi
 have b:=hs.short i hi
 rw [e] at b
 exact ⟨o1,o2,_,o3.rb.1,xF aH o3.rb.1 b.1 b.2⟩
theorem HM {n:Nat} (hv:fE p) (hn:p.1=(n:Int)) {b:Int} (hb:qu (dY p.2.1)<=b):XB b (dY p.2.1):=fun t ht=>by
 refine ⟨?_,Int.le_trans (G.Jc ht) hb⟩
 obtain ⟨u,hu,rfl⟩:=List.mem_map.1 ht
 obtain ⟨m,m8,mn,mo⟩:=AB hv
 exact fun x hx=>((mo u hu).2.1 x hx).1
theorem C9 {n:Nat} (hv:fE p) (hn:p.1=(n:Int)):XB 40 (dY p.2.1):=fun t ht=>by
 obtain ⟨u,hu,rfl⟩:=List.mem_map.1 ht
 obtain ⟨i,hi,rfl⟩:=List.getElem_of_mem hu
 have g:=(hv.good i hi).1
 rw [show cK p i=p.2.1[i] from cA hi] at g
 exact ⟨fun x hx=>(g.ex x hx).1,by have:=g.sum;rw [rB] at this;exact this⟩
theorem xo (ha:mI p) {a c:Nat} (hs:Am p a c) (b:Int):Ev (fun k=>bh k p (a:Int) b (c:Int)) (decide (qu (dY p.2.1)<=b)):=by
 have f:=ha.1
 have hv:=hs.ok
 have h0:=hv.n0
 have h8:=hv.n8
 have hf:=hv.xm
 have g:=hs.xm
 have hn:p.1=((p.1.toNat:Nat):Int):=Q2
 obtain ⟨r,r1,r2,r3,r4⟩:=Fu ha hv hn
 have hd:=xp r3 Q2 Q2 (by rw [r4];exact C9 hv hn) Q2
 rw [r4] at hd
 have d:=lH ha
 rw [fD hv] at d
 have main:=nL (n:=p.2.1.length) (P:=fun i=>aL (fun k m=>bh.l0 k m b (c:Int) p.2.1 (p.2.1.length:Int) (i:Int) p) (decide (qu (dY p.2.1)<=b))) ?_ ?_ 0 (Nat.zero_le _)
 ·exact Ev.step (fun k=>eB k p _ _ _) (Ev.bind (a:=false) (bF (decide_eq_false Q2) (pj Q2)) (Ev.bind (a:=false) (bF rfl (pj Q2)) (bF rfl main.diag)))
 ·exact aL.step (fun k m=>bh.aM k m _ _ _ _ _ _) (aL.bF (decide_eq_false Q2) (aL.of (Ev.bind d (Ev.bind (bT rfl (Ev.bind r1 (Ev.bind hd (aX _)))) (aX _)))))
 intro i hi ih
 have e:Ev (fun k=>dw k (cK p i).2.1 (c:Int)) _:=mT (cK p i).2.1 c
 rw [decide_eq_true (hs.short i hi)] at e
 refine aL.step (fun k m=>bh.aM k m _ _ _ _ _ _) (aL.bT (decide_eq_true Q2) (aL.iT Q2 (aL.bind e (aL.bF rfl ?_))))
 rw [fz Q2]
 exact ih
end
structure SmP (p:aA) (n a c:Nat) (b:Int):Prop where
 n8:n<=8
 eq:p=((n:Int),p.2.1,())
 ok:fE p
 arg:mI p
 pt:PT n c a (dY p.2.1) p.2.1
 cb:CB (a*(c+1)) (dY p.2.1)
 xb:XB b (dY p.2.1)
theorem cb_few {a c:Nat} {l:List Tm} (hl:l.length<=a) (h:∀ t∈l,Wd c t.2):CB (a*(c+1)) l:=(CB.list h).mono (Nat.mul_le_mul_right _ hl)
theorem xI {p:aA} (ha:mI p) (a c:Nat) (b:Int):∃ t,Ev (fun k=>bh k p (a:Int) b (c:Int)) t/\(t=true->∃ n,SmP p n a c b):=by
 obtain ⟨t,t1,t2⟩:=zf ha a c b
 refine ⟨t,t1,fun h=>?_⟩
 have hs:=t2 h
 have hv:=hs.ok
 have h0:=hv.n0
 have h8:=hv.n8
 have hn:p.1=((p.1.toNat:Nat):Int):=Q2
 have hd:=evu t1 (xo ha hs b)
 rw [h] at hd
 have hd:=of_decide_eq_true hd.symm
 have d:=hs.okT hn
 have e:PT p.1.toNat c a (dY p.2.1) p.2.1:=⟨hs.xm,d,Gi hv hn,.refl _⟩
 refine ⟨p.1.toNat,Q2,by rw [<- hn],hv,ha,e,cb_few (by rw [uS];exact hs.xm) (fun t ht=>?_),HM hv hn hd⟩
 obtain ⟨u,hu,rfl⟩:=List.mem_map.1 ht
 exact sz_wd (d u hu).2.2.rb.2
section
variable {p p':aA} {n a c:Nat} {b:Int}
theorem SmP.len (h:SmP p n a c b):Len n (dY p.2.1):=h.pt.srt.len
theorem SmP.rte (h:SmP p n a c b):∃ r,Ev (fun k=>bL k p) r/\RT n (3*c+1) a (dY p.2.1) r/\cX n r=dY p.2.1:=by
 have hn:p.1=(n:Int):=by rw [h.eq]
 obtain ⟨r,r1,r2,r3,r4⟩:=Fu h.arg h.ok hn
 refine ⟨r,r1,⟨by rw [r2];exact h.pt.len,fun u hu=>?_,by rw [r4];exact h.pt.srt.dst,by rw [r4];exact .refl _⟩,r4⟩
 obtain ⟨o1,o2,o3⟩:=r3 u hu
 have hm:=oh (n:=n) hu
 rw [r4] at hm
 obtain ⟨w,hw,e⟩:=List.mem_map.1 hm
 have e2:iK w.2.1=nP u.2.1:=congrArg Prod.snd e
 have hz:=(h.pt.ok w hw).2.2.rb.2
 rw [e2] at hz
 exact ⟨o1,o2,_,o3.rb.1,HE (sz_wd hz)⟩
theorem SmP.rt (h:SmP p n a c b):∃ r,Ev (fun k=>bL k p) r/\RT n (3*c+1) a (dY p.2.1) r:=let ⟨r,r1,r2,_⟩:=h.rte;⟨r,r1,r2⟩
end
end Go.Proofs.YtfbgaddecbiimaaGreatDoor.Q
end
section
namespace Go.Proofs.YtfbgaddecbiimaaGreatDoor.G
def ql (n i:Nat) (c:Int):Ex:=(List.replicate n 0).set i c
theorem pJ (n i:Nat) (c:Int):(ql n i c).length=n:=by simp [ql]
theorem uT {n i:Nat} {a:Ex} (ha:a.length=n) (hi:i<n) (c:Int):a.set i (a.getD i 0+c)=dQ a (ql n i c):=by
 apply List.ext_getElem (by simp [dQ,ql,ha])
 intro j h1 h2
 have hj:j<a.length:=by simpa using h1
 simp only [dQ,ql,List.getElem_zipWith,List.getElem_set,List.getElem_replicate]
 by_cases e:i=j
 ·subst e
  rw [if_pos rfl,if_pos rfl,zP hj]
 rw [if_neg e,if_neg e,Int.add_zero]
theorem set_gt {n i:Nat} {a b:Ex} (ha:a.length=n) (hb:b.length=n) (hi:i<n) (c:Int) (h:hJ a b=true):hJ (a.set i (a.getD i 0+c)) (b.set i (b.getD i 0+c))=true:=by
 rw [uT ha hi,uT hb hi]
 exact Gf (by rw [ha,pJ]) (by rw [hb,pJ]) h
theorem Ky {n i:Nat} {a b:Ex} (ha:a.length=n) (hb:b.length=n) (hi:i<n) (c:Int) (h:a.set i (a.getD i 0+c)=b.set i (b.getD i 0+c)):a=b:=by
 rw [uT ha hi,uT hb hi] at h
 exact C0 (by rw [ha,pJ]) (by rw [hb,pJ]) h
theorem jL.ke {n i:Nat} {j:Int} {p:List Tm} (h:jL n p) (hi:i<n):jL n (ke i j p):=by
 refine ⟨List.pairwise_map.2 ((h.ord.sublist List.filter_sublist).imp_of_mem fun {a b} ha hb g=>?_),fun t ht=>?_,Len.ke h.len⟩
 ·obtain ⟨ha,ea⟩:=List.mem_filter.1 ha
  obtain ⟨hb,eb⟩:=List.mem_filter.1 hb
  have ea:a.1.getD i 0=j:=by simpa using ea
  have eb:b.1.getD i 0=j:=by simpa using eb
  have:=set_gt (h.len a ha) (h.len b hb) hi (-j) g
  rw [ea,eb,show j + -j=0 by omega] at this
  exact this
 obtain ⟨u,hu,rfl⟩:=List.mem_map.1 ht
 exact h.nz u (List.mem_filter.1 hu).1
theorem iI.ke {n i:Nat} {j:Int} {p:List Tm} (h:iI n p) (hi:i<n):iI n (ke i j p):=by
 refine ⟨List.pairwise_map.2 ((h.ne.sublist List.filter_sublist).imp_of_mem fun {a b} ha hb g=>?_),fun t ht=>?_,Len.ke h.len⟩
 ·obtain ⟨ha,ea⟩:=List.mem_filter.1 ha
  obtain ⟨hb,eb⟩:=List.mem_filter.1 hb
  have ea:a.1.getD i 0=j:=by simpa using ea
  have eb:b.1.getD i 0=j:=by simpa using eb
  intro e
  refine g (Ky (h.len a ha) (h.len b hb) hi (-j) ?_)
  rw [ea,eb,show j + -j=0 by omega]
  exact e
 obtain ⟨u,hu,rfl⟩:=List.mem_map.1 ht
 exact h.nz u (List.mem_filter.1 hu).1
def pn (i:Nat):List Tm->Int
 | []=>-1
 | t :: l=>max (t.1.getD i 0) (pn i l)
theorem wN (i:Nat):∀ l,-1<=pn i l
 | []=>by simp [pn]
 | t :: l=>by have:=wN i l;simp only [pn];omega
theorem JF {i:Nat} {E:Int} (hE:-1<=E):∀ {l:List Tm},(∀ t∈l,t.1.getD i 0<=E)->pn i l<=E
 | [],_=>hE
 | u :: l,h=>by
  have h1:=JF hE (l:=l) fun t ht=>h t (List.mem_cons_of_mem _ ht)
  have h2:=h u (List.mem_cons_self ..)
  simp only [pn];omega
theorem XB.pn {n i:Nat} {E:Int} {p:List Tm} (hx:XB E p) (hl:Len n p) (hi:i<n) (hE:-1<=E):pn i p<=E:=JF hE fun t ht=>by
 have hil:i<t.1.length:=by rw [hl t ht];exact hi
 rw [zP hil]
 exact Int.le_trans (pV (hx t ht).1 (List.getElem_mem hil)) (hx t ht).2
end Go.Proofs.YtfbgaddecbiimaaGreatDoor.G
end
section
namespace Go.Proofs.YtfbgaddecbiimaaGreatDoor.Q
open Go.RowKit Go.Proofs.YtfbgaddecbiimaaGreatDoorW.PrintWords Go.Proofs.YtfbgaddecbiimaaGreatDoorW.PrintMore Go.Proofs.YtfbgaddecbiimaaGreatDoor.V Go.Proofs.YtfbgaddecbiimaaGreatDoor.E
open Go.Proofs.YtfbgaddecbiimaaGreatDoor.P (Dg Nm vl WW RR bu gI aX jq jY dD aH bw aW cD cy u64)
open Go.Proofs.YtfbgaddecbiimaaGreatDoor.G (Ex Tm fu co iY jL iI iM CB XB Wd Len WB qu fk ke pn zE ql)
theorem IM {e:List Int} {i:Nat} (h:i<e.length) (h8:e.length<=8) (x:Int):(dW e).set i x=dW (e.set i x):=by
 rw [dW,dW,cN _ _ _ h8,cN _ _ _ (by simpa using h8),List.set_append_left _ _ h,List.length_set]
theorem sU {l:List Int} {n i:Nat} (x:Int):(l.set i x).take n=(l.take n).set i x:=List.take_set ..
section
variable {n K M L N k:Nat} {q q':List Tm} {l l' r:List ah} {E F:Int}
theorem nO.set {t:ah} {v:bJ} (h:nO n K t) (hn:n<=8) {i:Nat} (hi:i<n) (x:Int) (hv:CoR L v) (z:Unit):nO n L (t.1.set i x,v,z):=by
 obtain ⟨a,b,c⟩:=h
 have e:t.1.set i x=dW ((t.1.take n).set i x):=by
  conv=>lhs;rw [a]
  exact IM Q2 Q2 x
 refine ⟨?_,?_,hv⟩
 ·show t.1.set i x=dW ((t.1.set i x).take n)
  rw [sU];exact e
 show ((t.1.set i x).take n).length=n
 rw [sU,List.length_set];exact b
theorem nO.at {t:ah} (h:nO n K t) {i:Nat} (hi:i<n) (hn:n<=8):xk (0:Int) 8 t.1 (i:Int)=(t.1.take n).getD i 0:=by
 have h8:=h.len
 rw [pP h8 Q2,List.getD_eq_getElem?_getD,List.getElem?_eq_getElem (by have:=h.2.1;omega),List.getElem_take]
 rfl
theorem uH {i:Nat} (hi:i<n) (hl:l.length<=1000000) (hok:∀ u∈l,lT n K u):Ev (fun k=>dV k ((n:Int),l,()) (i:Int)) (pn i (dY l)):=by
 have main:=nL (n:=l.length) (P:=fun j=>∀ a:Int,-1<=a->aL (fun k m=>dV.l0 k m (i:Int) a l (l.length:Int) (j:Int)) (max a (pn i (dY (l.drop j))))) ?_ ?_ 0 (Nat.zero_le _) (-1) (Int.le_refl _)
 ·have e:max (-1) (pn i (dY l))=pn i (dY l):=by have:=G.wN i (dY l);omega
  rw [List.drop_zero,e] at main
  exact Ev.step (fun k=>uI k _ _) main.diag
 ·intro a ha
  rw [List.drop_length,show max a (pn i (dY []))=a by show max a (-1)=a;omega]
  exact aL.step (fun k m=>dV.aM k m _ _ _ _ _) (aL.bF (decide_eq_false Q2) (aL.of (aX _)))
 intro j hj ih a ha
 have e:(cE (t:=aj) l (j:Int):ah)=l[j]:=cA hj
 obtain ⟨o1,o2,o3⟩:=hok l[j] (List.getElem_mem hj)
 have b:i<l[j].1.length:=Q2
 have e2:(cE (t:=(.int .i64)) l[j].1 (i:Int):Int)=l[j].1.getD i 0:=rfl
 refine aL.step (fun k m=>dV.aM k m _ _ _ _ _) (aL.bT (decide_eq_true Q2) (aL.iT Q2 ?_))
 rw [e]
 refine aL.iT Q2 ?_
 rw [e2,fz Q2,dF hj,eu]
 have h1:=ih (mx a (l[j].1.getD i 0)) (by unfold mx;split<;>omega)
 have e3:max (mx a (l[j].1.getD i 0)) (pn i (dY (l.drop (j+1))))=max a (max (l[j].1.getD i 0) (pn i (dY (l.drop (j+1))))):=by unfold mx;split<;>omega
 rw [e3] at h1
 exact h1
theorem uE {i:Nat} (hi:i<n) (hn:n<=8) (hl:r.length<=1000000) (hok:∀ u∈r,nO n K u):Ev (fun k=>bR k r (i:Int)) (pn i (cX n r)):=by
 have main:=nL (n:=r.length) (P:=fun j=>∀ a:Int,-1<=a->aL (fun k m=>bR.l0 k m (i:Int) a r (r.length:Int) (j:Int)) (max a (pn i (cX n (r.drop j))))) ?_ ?_ 0 (Nat.zero_le _) (-1) (Int.le_refl _)
 ·have e:max (-1) (pn i (cX n r))=pn i (cX n r):=by have:=G.wN i (cX n r);omega
  rw [List.drop_zero,e] at main
  exact Ev.step (fun k=>kJ k _ _) main.diag
 ·intro a ha
  rw [List.drop_length,show max a (pn i (cX n []))=a by show max a (-1)=a;omega]
  exact aL.step (fun k m=>bR.aM k m _ _ _ _ _) (aL.bF (decide_eq_false Q2) (aL.of (aX _)))
 intro j hj ih a ha
 have e:(cE (t:=af) r (j:Int):ah)=r[j]:=cA hj
 have ho:=hok r[j] (List.getElem_mem hj)
 refine aL.step (fun k m=>bR.aM k m _ _ _ _ _) (aL.bT (decide_eq_true Q2) (aL.iT Q2 (aL.iT Q2 ?_)))
 rw [e,ho.at hi hn,fz Q2,dF hj]
 have h1:=ih (mx a ((r[j].1.take n).getD i 0)) (by unfold mx;split<;>omega)
 have e3:max (mx a ((r[j].1.take n).getD i 0)) (pn i (cX n (r.drop (j+1))))=max a (max ((r[j].1.take n).getD i 0) (pn i (cX n (r.drop (j+1))))):=by unfold mx;split<;>omega
 rw [e3] at h1
 exact h1
theorem CO {i:Nat} {c:Int} {t:Tm} {p:List Tm} (h:t.1.getD i 0=c):ke i c (t :: p)=(t.1.set i 0,t.2) :: ke i c p:=by
 unfold G.ke
 rw [List.filter_cons_of_pos (by simpa using h)]
 rfl
theorem CN {i:Nat} {c:Int} {t:Tm} {p:List Tm} (h:¬ t.1.getD i 0=c):ke i c (t :: p)=ke i c p:=by
 unfold G.ke
 rw [List.filter_cons_of_neg (by simpa using h)]
theorem BG {i:Nat} (c:Int) (h:PT n K M q l) (hi:i<n) (hn:n<=8) (hM:M<=1000000):∃ r,Ev (fun k=>eY k ((n:Int),l,()) (i:Int) c) ((n:Int),r,())/\PT n K M (ke i c q) r:=by
 have b:=h.len
 have a:=nL (n:=l.length) (P:=fun j=>∀ acc:List ah,acc.length<=j->∃ r:List ah,r.length<=l.length-j/\(∀ u∈r,lT n K u)/\dY r=ke i c (dY (l.drop j))/\aL (fun k m=>eY.l0 k m (i:Int) c l (l.length:Int) (j:Int) ((0:Int),[],()) (n:Int) acc) ((n:Int),acc++r,())) ?_ ?_ 0 (Nat.zero_le _) [] Q3
 ·obtain ⟨r,h1,h2,h3,h4⟩:=a
  refine ⟨r,Ev.step (fun k=>BH k _ _ _) h4.diag,Q2,h2,?_,?_⟩
  ·rw [h3];exact G.jL.ke h.srt hi
  rw [h3];exact G.iY.ke h.eqv i c
 ·intro acc hacc
  exact ⟨[],Q3,(fun u hu=>by cases hu),by rw [List.drop_length];rfl,aL.step (fun k m=>eY.aM k m _ _ _ _ _ _ _ _) (aL.bF (decide_eq_false Q2) (by rw [List.append_nil];exact aL.of (aX _)))⟩
 intro j hj ih acc hacc
 have e:(cE (t:=aj) l (j:Int):ah)=l[j]:=cA hj
 obtain ⟨o1,o2,o3⟩:=h.ok l[j] (List.getElem_mem hj)
 have e2:(cE (t:=(.int .i64)) l[j].1 (i:Int):Int)=l[j].1.getD i 0:=rfl
 by_cases d:l[j].1.getD i 0=c
 ·obtain ⟨r,h1,h2,h3,h4⟩:=ih (acc++[(l[j].1.set i 0,l[j].2.1,())]) (by simp;omega)
  refine ⟨(l[j].1.set i 0,l[j].2.1,()) :: r,by simp only [List.length_cons];omega,fun u hu=>?_,?_,?_⟩
  ·rcases List.mem_cons.1 hu with rfl | hu
   ·exact ⟨by show (l[j].1.set i 0).length=n;rw [List.length_set];exact o1,fun x hx=>(List.mem_or_eq_of_mem_set hx).elim (o2 x) (fun e=>Q2),o3⟩
   exact h2 u hu
  ·rw [dF hj,eu,eu,CO (show (jw l[j]).1.getD i 0=c from d),h3]
   rfl
  rw [show acc++(l[j].1.set i 0,l[j].2.1,()) :: r=(acc++[(l[j].1.set i 0,l[j].2.1,())])++r by simp]
  refine aL.step (fun k m=>eY.aM k m _ _ _ _ _ _ _ _) (aL.bT (decide_eq_true Q2) (aL.iT Q2 ?_))
  rw [e,e2]
  refine aL.iT Q2 (aL.bT (by rw [d];exact beq_self_eq_true _) (aL.iT Q2 (aL.iT Q2 (aL.iT (by simp only [List.length_cons,List.length_nil];omega) ?_))))
  unfold eY.j0
  rw [fz Q2,Int.toNat_natCast]
  exact h4
 obtain ⟨r,h1,h2,h3,h4⟩:=ih acc Q2
 refine ⟨r,Q2,h2,?_,?_⟩
 ·rw [dF hj,eu,CN (show ¬ (jw l[j]).1.getD i 0=c from d),h3]
 refine aL.step (fun k m=>eY.aM k m _ _ _ _ _ _ _ _) (aL.bT (decide_eq_true Q2) (aL.iT Q2 ?_))
 rw [e,e2]
 refine aL.iT Q2 (aL.bF (beq_eq_false_iff_ne.2 d) ?_)
 unfold eY.j0
 rw [fz Q2]
 exact h4
theorem y9 {i:Nat} (c:Int) (h:RT n K M q r) (hi:i<n) (hn:n<=8) (hM:M<=1000000):∃ s,Ev (fun k=>bH k r (i:Int) c) s/\RT n K M (ke i c q) s:=by
 have b:=h.len
 have a:=nL (n:=r.length) (P:=fun j=>∀ acc:List ah,acc.length<=j->∃ s:List ah,s.length<=r.length-j/\(∀ u∈s,nO n K u)/\cX n s=ke i c (cX n (r.drop j))/\aL (fun k m=>bH.l0 k m (i:Int) c r (r.length:Int) (j:Int) acc) (acc++s)) ?_ ?_ 0 (Nat.zero_le _) [] Q3
 ·obtain ⟨s,h1,h2,h3,h4⟩:=a
  refine ⟨s,Ev.step (fun k=>nc k _ _ _) h4.diag,Q2,h2,?_,?_⟩
  ·rw [h3];exact G.iI.ke h.dst hi
  rw [h3];exact G.iY.ke h.eqv i c
 ·intro acc hacc
  exact ⟨[],Q3,(fun u hu=>by cases hu),by rw [List.drop_length];rfl,aL.step (fun k m=>bH.aM k m _ _ _ _ _ _) (aL.bF (decide_eq_false Q2) (by rw [List.append_nil];exact aL.of (aX _)))⟩
 intro j hj ih acc hacc
 have e:(cE (t:=af) r (j:Int):ah)=r[j]:=cA hj
 have ho:=h.ok r[j] (List.getElem_mem hj)
 have h8:=ho.len
 by_cases d:(r[j].1.take n).getD i 0=c
 ·obtain ⟨s,h1,h2,h3,h4⟩:=ih (acc++[(r[j].1.set i 0,r[j].2)]) (by simp;omega)
  refine ⟨(r[j].1.set i 0,r[j].2) :: s,by simp only [List.length_cons];omega,fun u hu=>?_,?_,?_⟩
  ·rcases List.mem_cons.1 hu with rfl | hu
   ·exact ho.set hn hi 0 ho.2.2 r[j].2.2
   exact h2 u hu
  ·rw [dF hj]
   show ((r[j].1.set i 0).take n,nP r[j].2.1) :: cX n s=ke i c (xj n r[j] :: cX n (r.drop (j+1)))
   rw [CO (show (xj n r[j]).1.getD i 0=c from d),h3,sU]
   rfl
  rw [show acc++(r[j].1.set i 0,r[j].2) :: s=(acc++[(r[j].1.set i 0,r[j].2)])++s by simp]
  refine aL.step (fun k m=>bH.aM k m _ _ _ _ _ _) (aL.bT (decide_eq_true Q2) (aL.iT Q2 (aL.iT Q2 ?_)))
  rw [e,ho.at hi hn,yV h8 Q2]
  refine aL.bT (by rw [d];exact beq_self_eq_true _) (aL.iT Q2 (aL.iT (by simp only [List.length_cons,List.length_nil];omega) ?_))
  unfold bH.j0
  rw [fz Q2]
  exact h4
 obtain ⟨s,h1,h2,h3,h4⟩:=ih acc Q2
 refine ⟨s,Q2,h2,?_,?_⟩
 ·rw [dF hj]
  show cX n s=ke i c (xj n r[j] :: cX n (r.drop (j+1)))
  rw [CN (show ¬ (xj n r[j]).1.getD i 0=c from d),h3]
 refine aL.step (fun k m=>bH.aM k m _ _ _ _ _ _) (aL.bT (decide_eq_true Q2) (aL.iT Q2 (aL.iT Q2 ?_)))
 rw [e,ho.at hi hn]
 refine aL.bF (beq_eq_false_iff_ne.2 d) ?_
 unfold bH.j0
 rw [fz Q2]
 exact h4
theorem zr {v:bJ} {c:Rat} (hv:RB WW v c) (hc:Sz WW K c) (hn:n<=8) (hK:K<1073741824):∃ r,Ev (fun k=>pS k (n:Int) v) ((n:Int),r,())/\PT n K 1 [(zE n,c)] r:=by
 have a:=oP hv
 by_cases c0:c=0
 ·refine ⟨[],Ev.step (fun k=>rP k _ _) (Ev.bind a (bT (by rw [lX];exact decide_eq_true c0) (Ev.bind (Ev.step (fun k=>uf k _) (aX _)) (aX _)))),Q3,(fun u hu=>by cases hu),jL.nil n,fun m=>?_⟩
  show (0:Rat)=c*_+0
  rw [c0];grind
 refine ⟨[(zE n,v,())],Ev.step (fun k=>rP k _ _) (Ev.bind a (bF (by rw [lX];exact decide_eq_false c0) (iT (by show (0:Int)<=(n:Int)/\(n:Int)<=(n:Int)/\8*(n:Int).toNat<=281474976710656/\(n:Int).toNat<=maxLen;unfold maxLen;omega) (Ev.bind (ur hv hc hK) ?_)))),Q3,fun u hu=>?_,⟨List.pairwise_singleton ..,fun t ht=>?_,fun t ht=>?_⟩,?_⟩
 ·rw [Int.toNat_natCast];exact aX _
 ·rw [List.mem_singleton] at hu;subst hu
  exact ⟨G.qy n,fun x hx=>by have:=List.eq_of_mem_replicate hx;omega,c,hv,hc⟩
 ·have e:t=jw (zE n,v,()):=by simpa [dY] using ht
  subst e
  show iK v≠0
  rw [mU hv];exact c0
 ·have e:t=jw (zE n,v,()):=by simpa [dY] using ht
  subst e
  exact G.qy n
 show iY [(zE n,iK v)] _
 rw [mU hv];exact .refl _
theorem zj {v:bJ} {c:Rat} (hv:RB RR v c) (hc:Sz RR K c) (hn:n<=8) (hK:K<100000):∃ r,Ev (fun k=>fJ k v) r/\RT n (K+1) 1 [(zE n,c)] r:=by
 obtain ⟨r,r1,r2,r3,r4⟩:=qG (n:=n) (K:=0) (r:=[]) (e:=zE n) hn Q3 Q2 (fun t ht=>by cases ht) (G.qy n) hv hc
 have e:dW (zE n)=List.replicate 8 (0:Int):=by
  rw [dW,cN _ _ _ (by rw [G.qy];exact hn),G.qy,zE,List.replicate_append_replicate]
  congr 1;omega
 rw [e] at r1
 obtain ⟨c1,c2⟩:=G.xX (p:=[]) (c:=c) (iI.nil n) (G.qy n)
 rw [show cX n []=[] from rfl] at r2
 rw [<- r2] at c1 c2
 refine ⟨r,Ev.step (fun k=>mh k _) (Ev.bind r1 (aX _)),by simpa using r4,fun t ht=>(r3 t ht).mono Q2,c1,fun m=>?_⟩
 rw [c2]
 show 0+c*_=c*_+0
 grind
abbrev oneW:bJ:=(false,[1],[1],())
end
end Go.Proofs.YtfbgaddecbiimaaGreatDoor.Q
end
section
namespace Go.Proofs.YtfbgaddecbiimaaGreatDoor.G
def ms (n:Nat):List Ex->Nat->List Ex
 | [],0=>[zE n]
 | [],_+1=>[]
 | _ :: _,0=>[zE n]
 | e :: es,j+1=>(ms n (e :: es) j).map (dQ e)++ms n es (j+1)
def nM:Nat->Nat->Nat
 | 0,0=>1
 | 0,_+1=>0
 | _+1,0=>1
 | r+1,j+1=>nM (r+1) j+nM r (j+1)
theorem zF (n:Nat):∀ (es:List Ex) (j:Nat),(ms n es j).length=nM es.length j
 | [],0=>by simp [ms,nM]
 | [],_+1=>by simp [ms,nM]
 | _ :: _,0=>by simp [ms,nM]
 | e :: es,j+1=>by
  have h1:=zF n (e :: es) j
  have h2:=zF n es (j+1)
  simp only [List.length_cons] at h1
  simp only [ms,List.length_append,List.length_map,List.length_cons,nM,h1,h2]
theorem uV (n:Nat) (es:List Ex):ms n es 0=[zE n]:=by cases es<;>simp [ms]
theorem zG (n:Nat):∀ (es:List Ex) (j:Nat) (x e:Ex),x∈ms n es j->e∈es->dQ x e∈ms n es (j+1)
 | [],_,_,_,_,h=>by cases h
 | e0 :: es,0,x,e,hx,he=>by
  rw [uV,List.mem_singleton] at hx
  rw [ms]
  rcases List.mem_cons.1 he with rfl | he
  ·exact List.mem_append_left _ (List.mem_map.2 ⟨x,by rw [uV,hx];exact List.mem_singleton.2 rfl,tY ..⟩)
  exact List.mem_append_right _ (zG n es 0 x e (by rw [uV,hx];exact List.mem_singleton.2 rfl) he)
 | e0 :: es,j+1,x,e,hx,he=>by
  rw [ms]
  rcases List.mem_cons.1 he with rfl | he'
  ·exact List.mem_append_left _ (List.mem_map.2 ⟨x,hx,tY ..⟩)
  rw [ms] at hx
  rcases List.mem_append.1 hx with hx | hx
  ·obtain ⟨y,hy,rfl⟩:=List.mem_map.1 hx
   rw [xf]
   exact List.mem_append_left _ (List.mem_map.2 ⟨_,zG n (e0 :: es) j y e hy he,rfl⟩)
  exact List.mem_append_right _ (zG n es (j+1) x e hx he')
theorem IH {n:Nat} (q:List Tm):∀ (k:Nat),∀ t∈pw n q k,t.1∈ms n (q.map (·.1)) k
 | 0,t,h=>by
  have e:t=(zE n,1):=by simpa [pw,one] using h
  subst e
  rw [uV];exact List.mem_singleton.2 rfl
 | k+1,t,h=>by
  obtain ⟨u,hu,ht⟩:=List.mem_flatMap.1 h
  obtain ⟨v,hv,rfl⟩:=List.mem_map.1 ht
  show dQ v.1 u.1∈_
  rw [tY]
  exact zG n _ k _ _ (IH q k u hu) (List.mem_map.2 ⟨v,hv,rfl⟩)
theorem Js:∀ {l:List Ex} {S:List Ex},l.Pairwise (·≠·)->(∀ x∈l,x∈S)->l.length<=S.length
 | [],_,_,_=>Nat.zero_le _
 | x :: l,S,h,hS=>by
  obtain ⟨a,b,rfl⟩:=List.append_of_mem (hS x (List.mem_cons_self ..))
  obtain ⟨h1,h2⟩:=List.pairwise_cons.1 h
  have:=Js (l:=l) (S:=a++b) h2 fun y hy=>by
   have hne:x≠y:=h1 y hy
   rcases List.mem_append.1 (hS y (List.mem_cons_of_mem _ hy)) with g | g
   ·exact List.mem_append_left _ g
   rcases List.mem_cons.1 g with g | g
   ·exact absurd g.symm hne
   exact List.mem_append_right _ g
  simp only [List.length_cons,List.length_append] at this ⊢
  omega
theorem iI.xm {n:Nat} {p r:List Tm} (h:iI n p) (he:∀ e,co p e=co r e) {S:List Ex} (hS:∀ t∈r,t.1∈S):p.length<=S.length:=by
 have:=Js (l:=p.map (·.1)) (S:=S) (List.pairwise_map.2 h.ne) fun x hx=>by
  obtain ⟨t,ht,rfl⟩:=List.mem_map.1 hx
  obtain ⟨u,hu,e⟩:=h.from he ht
  rw [<- e];exact hS u hu
 rwa [List.length_map] at this
theorem z8:∀ {r s:Nat} (j:Nat),r<=s->nM r j<=nM s j
 | 0,0,j,_=>Nat.le_refl _
 | 0,s+1,0,_=>by simp [nM]
 | 0,s+1,j+1,_=>by simp [nM]
 | r+1,0,_,h=>Q2
 | r+1,s+1,0,_=>by simp [nM]
 | r+1,s+1,j+1,h=>by
  have h1:=z8 (r:=r+1) (s:=s+1) j h
  have h2:=z8 (r:=r) (s:=s) (j+1) Q2
  simp only [nM];omega
end Go.Proofs.YtfbgaddecbiimaaGreatDoor.G
end
section
namespace Go.Proofs.YtfbgaddecbiimaaGreatDoor.Q
open Go.RowKit Go.Proofs.YtfbgaddecbiimaaGreatDoorW.PrintWords Go.Proofs.YtfbgaddecbiimaaGreatDoorW.PrintMore Go.Proofs.YtfbgaddecbiimaaGreatDoor.V Go.Proofs.YtfbgaddecbiimaaGreatDoor.E
open Go.Proofs.YtfbgaddecbiimaaGreatDoor.P (Dg Nm vl WW RR bu gI aX jq jY dD aH bw aW cD cy u64)
open Go.Proofs.YtfbgaddecbiimaaGreatDoor.G (Ex Tm fu co iY jL iI iM CB XB Wd Len WB qu fk ke pn zE ql pw nM)
section
variable {n K M L N k r:Nat} {q q':List Tm} {l l' o:List ah} {E F d:Int}
theorem PT.zm {j:Nat} (h:PT n K M (pw n q j) o) (hr:q.length<=r):PT n K (nM r j) (pw n q j) o:=⟨by
 have h1:=h.srt.dst.xm (fun e=>h.eqv.co e) (S:=G.ms n (q.map (·.1)) j) (fun t ht=>G.IH q j t ht)
 rw [uS,G.zF,List.length_map] at h1
 exact Nat.le_trans h1 (G.z8 j hr),h.ok,h.srt,h.eqv⟩
theorem RT.zm {j:Nat} (h:RT n K M (pw n q j) o) (hr:q.length<=r):RT n K (nM r j) (pw n q j) o:=⟨by
 have h1:=h.dst.xm (fun e=>h.eqv.co e) (S:=G.ms n (q.map (·.1)) j) (fun t ht=>G.IH q j t ht)
 rw [HX,G.zF,List.length_map] at h1
 exact Nat.le_trans h1 (G.z8 j hr),h.ok,h.dst,h.eqv⟩
theorem one_pt (hn:n<=8) (q:List Tm):∃ r,Ev (fun k=>pS k (n:Int) oneW) ((n:Int),r,())/\PT n 1 1 (pw n q 0) r:=zr (zk bw) (HZ bw (Nat.le_refl 1)) hn Q2
theorem one_rt (hn:n<=8) (q:List Tm):∃ r,Ev (fun k=>fJ k oneW) r/\RT n 2 1 (pw n q 0) r:=zj (zk cD) (HZ cD (Nat.le_refl 1)) hn Q2
theorem Bk (h:RT n K r q l) (hq:Len n q) {c:Nat} (hc:CB c q) (hx:XB d q) (hd:0<=d) (hr:r<=4) (hql:q.length<=r) (hn:n<=8) (m:Nat) (hdm:d*m<=100000) (hcm:c*m<=300) (hm:m<=1000) (hK:K<=100) (hd':d<=100000) (hcnt:∀ j,j<=m->nM r j<=84):∃ o,Ev (fun k=>cH k l (m:Int)) o/\RT n (3*(c*m)+2) (nM r m) (pw n q m) o:=by
 have b:∀ j:Nat,j<=m->d*j<=d*m:=fun j hj=>Int.mul_le_mul_of_nonneg_left Q2 hd
 have a:=nL (n:=m) (P:=fun j=>∀ o,RT n (3*(c*j)+2) (nM r j) (pw n q j) o->∃ o',aL (fun k i=>cH.l0 k i l o (m:Int) (j:Int)) o'/\RT n (3*(c*m)+2) (nM r m) (pw n q m) o') ?_ ?_ 0 (Nat.zero_le _)
 ·obtain ⟨o,o1,o2⟩:=one_rt hn q
  obtain ⟨o',e1,e2⟩:=a o (RT.zm (o2.to Q2 (Nat.le_refl _) (.refl _)) hql)
  exact ⟨o',Ev.step (fun k=>nR k _ _) (Ev.bind DD (Ev.bind o1 e1.diag)),e2⟩
 ·intro o ho
  exact ⟨o,aL.step (fun k m=>cH.aM k m _ _ _ _) (aL.bF (decide_eq_false Q2) (aL.of (aX _))),ho⟩
 intro j hj ih o ho
 have h1:=hcnt j Q2
 have g:c*j<=c*m:=Nat.mul_le_mul_left _ Q2
 have e:=b j Q2
 have f:nM r j*r<=84*4:=Nat.mul_le_mul h1 hr
 have hX:XB (d*j) (pw n q j):=XB.pw hq hx j
 obtain ⟨s,s1,s2⟩:=ub ho h hX hx (Int.mul_nonneg hd Q2) hd Q2 Q2 hn Q2 Q2 (Nat.lt_of_le_of_lt (Nat.mul_le_mul (show _<=337 by omega) (show _<=1003 by omega)) (by decide)) (j:=c*(j+1)) (hc.pw (n:=n) (j+1))
 have s3:RT n (3*(c*(j+1))+1) (nM r j*r) (pw n q (j+1)) s:=s2
 obtain ⟨o',e1,e2⟩:=ih s (RT.zm (s3.to Q2 (Nat.le_refl _) (.refl _)) hql)
 refine ⟨o',aL.step (fun k m=>cH.aM k m _ _ _ _) (aL.bT (decide_eq_true Q2) (aL.bind s1 ?_)),e2⟩
 rw [fz Q2]
 exact e1
end
theorem cnt4:∀ j,j<=6->nM 4 j<=84
 | 0,_=>by simp [nM]
 | 1,_=>by simp [nM]
 | 2,_=>by simp [nM]
 | 3,_=>by simp [nM]
 | 4,_=>by simp [nM]
 | 5,_=>by simp [nM]
 | 6,_=>by simp [nM]
 | j+7,h=>Q2
section
variable {p:aA} {n:Nat} {v:bJ} {c:Rat}
theorem G6 (ha:mI p) (hv:fE p) {i:Int} (hi:i<0∨p.1<=i):Ev (fun k=>k8 k p i) 1:=by
 have e:=iv ha
 rw [fD hv] at e
 refine Ev.step (fun k=>oG k _ _) (Ev.bind e (bF rfl (Ev.bind (a:=true) ?_ (bT rfl (aX _)))))
 by_cases c:i<0
 ·exact bT (decide_eq_true c) (aX _)
 exact bF (decide_eq_false c) (wL Q2)
theorem Ez (ha:mI p) (hv:fE p) {i:Int} (h0:0<=i) (hi:i<p.1):Ev (fun k=>k8 k p i) 0:=by
 have e:=iv ha
 rw [fD hv] at e
 exact Ev.step (fun k=>oG k _ _) (Ev.bind e (bF rfl (Ev.bind (a:=false) (bF (decide_eq_false Q2) (pj Q2)) (bF rfl (aX _)))))
end
def sS (n i:Nat) (P Q:List Tm):Nat->List Tm
 | 0=>[]
 | j+1=>sS n i P Q j++G.prod (ke i (j:Int) P) (pw n Q j)
theorem cnt4':∀ j,j<=4->nM 4 j<=35
 | 0,_=>by simp [nM]
 | 1,_=>by simp [nM]
 | 2,_=>by simp [nM]
 | 3,_=>by simp [nM]
 | 4,_=>by simp [nM]
 | j+5,h=>Q2
section
variable {n i:Nat} {P Q:List Tm} {l l' x y:List ah}
theorem Fa (hP:CB 16 P) (hQ:CB 8 Q):∀ j,CB (j*(4*j+13)) (sS n i P Q j)
 | 0=>CB.nil _
 | j+1=>by
  have h1:=(Fa hP hQ j).append ((CB.ke hP (i:=i) (j:=(j:Int))).prod (CB.pw hQ j (n:=n)))
  refine h1.mono (Nat.le_of_eq ?_)
  have e:(j+1)*(4*(j+1)+13)=j*(4*j+13)+(8*j+17):=by grind
  rw [e];omega
theorem sS_xb (hi:i<n) (hP:Len n P) (hQ:Len n Q) (xP:XB 4 P) (xQ:XB 3 Q):∀ j,j<=5->XB 16 (sS n i P Q j)
 | 0,_=>G.XB.nil _
 | j+1,h=>(sS_xb hi hP hQ xP xQ j Q2).append ((XB.prod (Len.ke hP) (hQ.pw j) (XB.ke hi hP xP) (XB.pw hQ xQ j)).mono Q2)
theorem wS {j:Nat} (h:j<=5):j*(4*j+13)<=165:=by
 have:j*(4*j+13)<=5*33:=Nat.mul_le_mul h Q2
 omega
theorem Kt (p1:PT n 1 8 P l) (p2:PT n 1 4 Q l') (hP:Len n P) (hQ:Len n Q) (cP:CB 16 P) (cQ:CB 8 Q) (xP:XB 4 P) (xQ:XB 3 Q) (hn:n<=8) (hi:i<n) {o:List ah} (ho:PT n 1 1 (pw n Q 0) o):∃ s,PT n 166 1400 (sS n i P Q (pn i (dY l)+1).toNat) s/\Ev (fun k=>cF.l0 k k (i:Int) (0:Int) ((n:Int),l,()) ((n:Int),l',()) ((0:Int),[],()) ((n:Int),[],()) ((n:Int),o,())) (((n:Int),s,()),(0:Int),()):=by
 have b:=uH hi (Nat.le_trans p1.len Q2) p1.ok
 have x:pn i (dY l)<=4:=G.XB.pn (p1.Hz xP) p1.srt.len hi Q2
 have w:=G.wN i (dY l)
 generalize pn i (dY l)=D at *
 obtain ⟨d,hd⟩:=Int.eq_ofNat_of_zero_le (show 0<=D+1 by omega)
 rw [hd,Int.toNat_natCast]
 have e:d<=5:=Q2
 have f:=nL (n:=d) (P:=fun j=>∀ a o,PT n 166 (280*j) (sS n i P Q j) a->PT n (8*(j-1)+1) 35 (pw n Q (j-1)) o->∃ s,PT n 166 1400 (sS n i P Q d) s/\aL (fun k m=>cF.l0 k m (i:Int) (j:Int) ((n:Int),l,()) ((n:Int),l',()) ((0:Int),[],()) ((n:Int),a,()) ((n:Int),o,())) (((n:Int),s,()),(0:Int),())) ?_ ?_ 0 (Nat.zero_le _) [] o ⟨Q3,(fun u hu=>by cases hu),jL.nil n,.refl _⟩ (ho.to Q2 Q2 (.refl _))
 ·obtain ⟨s,s1,s2⟩:=f
  exact ⟨s,s1,s2.diag⟩
 ·intro a o ha ho
  have g:=wu ha hn Q2 ((Fa cP cQ d).mono (by have:=wS e;omega)) ((sS_xb hi hP hQ xP xQ d e).mono Q2)
  exact ⟨a,ha.to (Nat.le_refl _) Q2 (.refl _),aL.step (fun k m=>cF.aM k m _ _ _ _ _ _ _) (aL.bind b (aL.bF (decide_eq_false Q2) (aL.bind g (aL.of (aX _)))))⟩
 intro j hj ih a o ha ho
 obtain ⟨cf,p,q⟩:=BG (j:Int) p1 hi hn Q2
 have h:∃ o',PT n (8*j+1) 35 (pw n Q j) o'/\∀ R,aL (fun k m=>cF.j1 k m (i:Int) (j:Int) ((n:Int),l,()) ((n:Int),l',()) ((0:Int),[],()) ((n:Int),a,()) ((n:Int),o',())) R->aL (fun k m=>cF.l0 k m (i:Int) (j:Int) ((n:Int),l,()) ((n:Int),l',()) ((0:Int),[],()) ((n:Int),a,()) ((n:Int),o,())) R:=by
  by_cases h0:j=0
  ·subst h0
   exact ⟨o,ho.to Q2 (Nat.le_refl _) (.refl _),fun R hR=>aL.step (fun k m=>cF.aM k m _ _ _ _ _ _ _) (aL.bind b (aL.bT (decide_eq_true Q2) (aL.bF (decide_eq_false Q2) hR)))⟩
  obtain ⟨j0,rfl⟩:∃ j0,j=j0+1:=⟨j-1,Q2⟩
  rw [Nat.add_sub_cancel] at ho
  have hc:CB (8*(j0+1)) (G.prod (pw n Q j0) Q):=CB.pw cQ (n:=n) (j0+1)
  obtain ⟨o',e1,e2⟩:=vN ho p2 (XB.pw hQ xQ j0) xQ (hQ.pw j0) hQ hn Q2 Q2 Q2 Q2 Q2 hc Q2
  have e3:PT n (8*(j0+1)+1) (35*4) (pw n Q (j0+1)) o':=e2
  have h1:PT n (8*(j0+1)+1) (35*4) (pw n (dY l') (j0+1)) o':=e3.to (Nat.le_refl _) (Nat.le_refl _) (G.iY.pw p2.eqv.symm _)
  have e4:PT n (8*(j0+1)+1) 35 (pw n (dY l') (j0+1)) o':=(h1.zm (r:=4) (by rw [uS];exact p2.len)).to (Nat.le_refl _) (cnt4' _ Q2) (.refl _)
  exact ⟨o',e4.to (Nat.le_refl _) (Nat.le_refl _) (G.iY.pw p2.eqv _),fun R hR=>aL.step (fun k m=>cF.aM k m _ _ _ _ _ _ _) (aL.bind b (aL.bT (decide_eq_true Q2) (aL.bT (decide_eq_true Q2) (aL.bind e1 (aL.bF rfl hR)))))⟩
 obtain ⟨o',c,v⟩:=h
 have hc:CB (16+8*j) (G.prod (ke i (j:Int) P) (pw n Q j)):=(CB.ke cP).prod (CB.pw cQ j (n:=n))
 obtain ⟨t,t1,t2⟩:=vN q c (XB.ke hi hP xP) (XB.pw hQ xQ j) (Len.ke hP) (hQ.pw j) hn Q2 Q2 Q2 Q2 Q2 hc Q2
 obtain ⟨a',a1,a2⟩:=DX ha t2 hn Q2 Q2
 have a3:PT n _ (280*(j+1)) (sS n i P Q (j+1)) a':=a2.to (Nat.le_refl _) Q2 (.refl _)
 have a4:=(a3.fit (Fa cP cQ (j+1))).to (L:=166) (by have:=wS (show j+1<=5 by omega);omega) (Nat.le_refl _) (.refl _)
 obtain ⟨s,s1,s2⟩:=ih a' o' a4 (by rw [Nat.add_sub_cancel];exact c)
 refine ⟨s,s1,v _ ?_⟩
 unfold cF.j1
 refine aL.bind p (aL.bind t1 (aL.bF rfl (aL.bind a1 ?_)))
 rw [fz Q2]
 exact s2
theorem Gy (p1:RT n 4 8 P x) (p2:RT n 4 4 Q y) (hP:Len n P) (hQ:Len n Q) (hql:Q.length<=4) (cP:CB 16 P) (cQ:CB 8 Q) (xP:XB 4 P) (xQ:XB 3 Q) (hn:n<=8) (hi:i<n):∃ s,RT n 496 1400 (sS n i P Q (pn i (cX n x)+1).toNat) s/\Ev (fun k=>cn k x (i:Int) y) s:=by
 have c:=uE hi hn (Nat.le_trans p1.len Q2) p1.ok
 have l:pn i (cX n x)<=4:=G.XB.pn (p1.Hz xP) p1.dst.len hi Q2
 have h:=G.wN i (cX n x)
 generalize pn i (cX n x)=D at *
 obtain ⟨d,hd⟩:=Int.eq_ofNat_of_zero_le (show 0<=D+1 by omega)
 rw [hd,Int.toNat_natCast]
 have p:d<=5:=Q2
 have e:=nL (n:=d) (P:=fun j=>∀ a,RT n 496 (280*j) (sS n i P Q j) a->∃ s,RT n 496 1400 (sS n i P Q d) s/\aL (fun k m=>cn.l0 k m x (i:Int) y a (j:Int)) s) ?_ ?_ 0 (Nat.zero_le _) [] ⟨Q3,(fun u hu=>by cases hu),iI.nil n,.refl _⟩
 ·obtain ⟨s,s1,s2⟩:=e
  exact ⟨s,s1,Ev.step (fun k=>mf k _ _ _) s2.diag⟩
 ·intro a ha
  exact ⟨a,ha.to (Nat.le_refl _) Q2 (.refl _),aL.step (fun k m=>cn.aM k m _ _ _ _ _) (aL.bind c (aL.bF (decide_eq_false Q2) (aL.of (aX _))))⟩
 intro j hj ih a ha
 obtain ⟨cf,f,g⟩:=y9 (j:Int) p1 hi hn Q2
 obtain ⟨o,o1,o2⟩:=Bk p2 hQ cQ xQ Q2 Q2 hql hn j Q2 Q2 Q2 Q2 Q2 (fun t ht=>cnt4 t Q2)
 have o3:=o2.to (L:=98) (N:=35) Q2 (cnt4' j Q2) (.refl _)
 have hc:CB (16+8*j) (G.prod (ke i (j:Int) P) (pw n Q j)):=(CB.ke cP).prod (CB.pw cQ j (n:=n))
 obtain ⟨t,t1,t2⟩:=ub g o3 (XB.ke hi hP xP) (XB.pw hQ xQ j) Q2 Q2 Q2 Q2 hn Q2 Q2 Q2 hc
 obtain ⟨b,b1,b2⟩:=Bm ha t2 hn Q2 Q2
 have b3:RT n _ (280*(j+1)) (sS n i P Q (j+1)) b:=b2.to (Nat.le_refl _) Q2 (.refl _)
 have b4:=(b3.fit (Fa cP cQ (j+1))).to (L:=496) (by have:=wS (show j+1<=5 by omega);omega) (Nat.le_refl _) (.refl _)
 obtain ⟨s,s1,s2⟩:=ih b b4
 refine ⟨s,s1,aL.step (fun k m=>cn.aM k m _ _ _ _ _) (aL.bind c (aL.bT (decide_eq_true Q2) (aL.bind f (aL.bind o1 (aL.bind t1 (aL.bind b1 ?_))))))⟩
 rw [fz Q2]
 exact s2
end
theorem wx {p p':aA} (z:Int) (ha:mI p) (hb:mI p'):Ev (fun k=>ig k p p' z) true:=by
 refine Ev.step (fun k=>ka k p p' z) (Ev.bind Hr (bF rfl ?_))
 obtain ⟨t1,a1,a2⟩:=xI ha 8 1 4
 obtain ⟨t2,b1,b2⟩:=xI hb 4 1 3
 by_cases hN:¬ p.1=p'.1
 ·exact Ev.bind (a:=true) (bT (by simp [hN]) (aX _)) (Ev.bind (a:=true) (bT rfl (aX _)) (bT rfl (aX _)))
 have hN:=Classical.not_not.1 hN
 have c:(p.1 != p'.1)=false:=by simp [hN]
 cases t1 with
 | false=>exact Ev.bind (a:=true) (bF c (Ev.bind a1 (aX _))) (Ev.bind (a:=true) (bT rfl (aX _)) (bT rfl (aX _)))
 | true =>
 cases t2 with
 | false=>exact Ev.bind (a:=false) (bF c (Ev.bind a1 (aX _))) (Ev.bind (a:=true) (bF rfl (Ev.bind b1 (aX _))) (bT rfl (aX _)))
 | true =>
 refine Ev.bind (a:=false) (bF c (Ev.bind a1 (aX _))) (Ev.bind (a:=false) (bF rfl (Ev.bind b1 (aX _))) (bF rfl ?_))
 obtain ⟨n,hp⟩:=a2 rfl
 obtain ⟨n',hq⟩:=b2 rfl
 obtain rfl:n'=n:=by
  have h1:p.1=(n:Int):=by rw [hp.eq]
  have h2:p'.1=(n':Int):=by rw [hq.eq]
  omega
 have d:=KQ hp.arg hq.arg hp.ok hq.ok hN
 obtain ⟨x,x1,x2,x3⟩:=hp.rte
 obtain ⟨y,y1,y2⟩:=hq.rt
 have hn:=hp.n8
 have P1:=hp.pt
 have P2:=hq.pt
 have B1:=hp.cb
 have B2:=hq.cb
 have X1:=hp.xb
 have X2:=hq.xb
 have L1:=hp.len
 have L2:=hq.len
 have h:=hp.eq
 have f:=hq.eq
 have e:=hp.ok
 generalize hl:p.2.1=l at *
 generalize hl':p'.2.1=l' at *
 subst h
 subst f
 by_cases hz:z<0∨(n':Int)<=z
 ·have b:=G6 (p:=((n':Int),l,())) ha e hz
  have hs:Ev (fun k=>cF k ((n':Int),l,()) z ((n':Int),l',())) (none3,(1:Int),()):=Ev.step (fun k=>qn k _ _ _) (Ev.bind d (bT rfl (Ev.bind b (bT rfl (aX _)))))
  refine Ev.bind hs (Ev.bind (a:=true) ?_ (bT rfl (Ev.bind (a:=true) (bT rfl (Ev.bind I5 (aX _))) (aX _))))
  by_cases g:z<0
  ·exact bT (decide_eq_true g) (aX _)
  exact bF (decide_eq_false g) (wL (by show z>=(n':Int);omega))
 obtain ⟨m,rfl⟩:=Int.eq_ofNat_of_zero_le (show 0<=z by omega)
 have hm:m<n':=Q2
 have b:=Ez (p:=((n':Int),l,())) ha e (i:=(m:Int)) Q2 (by show (m:Int)<(n':Int);omega)
 obtain ⟨o,o1,o2⟩:=one_pt hn (dY l')
 obtain ⟨s,s1,s2⟩:=Kt P1 P2 L1 L2 B1 B2 X1 X2 hn hm o2
 obtain ⟨r,r1,r2⟩:=Gy x2 y2 L1 L2 (by rw [uS];exact P2.len) B1 B2 X1 X2 hn hm
 rw [x3] at r1
 have j:=s1.is r1 (.refl _) hn Q2 Q2 Q2 Q2
 have hs:Ev (fun k=>cF k ((n':Int),l,()) (m:Int) ((n':Int),l',())) (((n':Int),s,()),(0:Int),()):=Ev.step (fun k=>qn k _ _ _) (Ev.bind d (bT rfl (Ev.bind b (bF rfl (Ev.bind (Ev.step (fun k=>uf k _) (aX _)) (Ev.bind D6 (Ev.bind o1 s2)))))))
 exact Ev.bind hs (Ev.bind (a:=false) (bF (decide_eq_false Q2) (pj (by show ¬ (m:Int)>=(n':Int);omega))) (bF rfl (Ev.bind (a:=true) (bT rfl (Ev.bind x1 (Ev.bind y1 (Ev.bind r2 (Ev.bind j (aX _)))))) (aX _))))
end Go.Proofs.YtfbgaddecbiimaaGreatDoor.Q
end
section
namespace Go.Proofs.YtfbgaddecbiimaaGreatDoor.polySubsts
open Go.ChangeShapes Go.WideShapes Go.ChangeAt Go.RowKit
open Go.ChangeMaps (open_string shut_string)
open Go.Proofs.YtfbgaddecbiimaaGreatDoor.V Go.Proofs.YtfbgaddecbiimaaGreatDoor.E
theorem own:ownKnob Tryz.prog.godebug=none:=by kernel_rfl
theorem laidOut:laidOutB Tryz.prog=true:=by kernel_rfl
def C8:DataW Unit->Array Value
 | .agg l=>(l.map fun d=>match d with
  | .lit (.int k n)=>Value.int k n
  | _=>undef).toArray
 | _=>#[]
noncomputable def yr (os:Os):World :=
 let w0:=World.holding Tryz.prog os ⟨#[],#[],[]⟩
 { w0 with heap:=((w0.heap.modify 2 fun
  | .cells _ t frozen=>.cells (C8 Rows.laid_math_bits_deBruijn32tab) t frozen
  | o=>o).modify 3 fun
  | .cells _ t frozen=>.cells (C8 Rows.laid_math_bits_deBruijn64tab) t frozen
  | o=>o).modify 0 fun
  | .cells _ t frozen=>.cells (C8 Rows.laid_internal_strconv_uint64pow10) t frozen
  | o=>o }
theorem Jd (os:Os) (args:Array Value):laidMet Tryz.prog Rows.polySubstsRow.laid ((yr os).forCall (fun _ _=>0) ⟨#[],args,[]⟩).memory :=
 laidMet_of_run' 8 (by kernel_rfl) (by kernel_rfl)
theorem lifted (os:Os) (started:os.Started) (H:Type) (enc:TypeId×Value->H) :
 ReturnsInHanded {} Tryz.checked os 9 .any (fun w args=>(Rows.polySubstsSpec.pre enc Tryz.prog Tryz.f9 Rows.polySubstsRow.domain false w args/\laidMet Tryz.prog Rows.polySubstsRow.laid w)/\sizedMet enc Tryz.prog Tryz.f9 (OpenSpec.ofChange Rows.polySubstsSpec) false w args)
  (Rows.polySubstsSpec.post enc Tryz.prog Tryz.f9 false true false false):=by
 refine returnsInHanded_of_change_and (C:=Tryz.checked) (X:=fun w _=>laidMet Tryz.prog Rows.polySubstsRow.laid w) (fun _ _ _ hh h=>h.of_heap hh) own started (by kernel_rfl) Tryz.func9
  (ChangeSpec.witness_at (enc:=enc) (C:=Tryz.checked) (os:=os) (X:=fun w _=>laidMet Tryz.prog Rows.polySubstsRow.laid w) false (yr os) #[.agg #[.int .i64 0,.slice none 0 0],.agg #[.int .i64 0,.slice none 0 0],.int .i64 0] 8 rfl (by kernel_rfl) (by kernel_rfl) (by kernel_rfl) (by kernel_rfl) (by kernel_rfl) (Jd os _)) ?_
 intro W base args ds gs before hval0 hW _ hsz0 hL _
 have a:∀ (j:Nat) t v,Tryz.f9.params[j]?=some t->args[j]?=some v->Value.okWide Tryz.prog W .any base t v:=hval0
 have o:=hW
 obtain ⟨p,q,d,hV,rfl,z,A⟩:=hW
 have hA:DataW.TrodAll enc Tryz.prog W 0 (fun _=>true) true Tryz.f9.params.toList args.toList ds p:=d
 rw [Tryz.params9] at hA a
 obtain ⟨v0,u,d0,F,p0,q0,r,rfl,rfl,h0,r0⟩:=trodAll_cons hA
 obtain ⟨v1,y,d1,B,p1,q1,rfl,rfl,rfl,h1,r1⟩:=trodAll_cons r0
 obtain ⟨v2,s,d2,D,p2,q2,rfl,rfl,rfl,h2,r2⟩:=trodAll_cons r1
 obtain ⟨rfl,rfl,rfl⟩:=trodAll_nil r2
 obtain rfl:args = #[v0,v1,v2]:=by cases args;simp_all
 obtain ⟨rfl,rfl⟩:=trodVars_none hV
 have k0:=h0
 have g:∀ x∈p0,x.block<W.heap.size:=by obtain ⟨m,hm⟩:=k0;exact DataW.trod_lt m _ _ _ hm
 obtain ⟨y0,f0,g0⟩:=Ai Q.yP (n:=16) (t:=24) (c:=ai) (by kernel_rfl) (by kernel_rfl) (a 0 24 v0 rfl rfl) h0
 have k1:=h1
 have l:∀ x∈p1,x.block<W.heap.size:=by obtain ⟨m,hm⟩:=k1;exact DataW.trod_lt m _ _ _ hm
 obtain ⟨y1,f1,g1⟩:=Ai Q.yP (n:=16) (t:=24) (c:=ai) (by kernel_rfl) (by kernel_rfl) (a 1 24 v1 rfl rfl) h1
 have k2:=h2
 have f:∀ x∈p2,x.block<W.heap.size:=by obtain ⟨m,hm⟩:=k2;exact DataW.trod_lt m _ _ _ hm
 obtain ⟨y2,f2,g2⟩:=Ai Q.yP (n:=16) (t:=3) (c:=(.int .i64)) (by kernel_rfl) (by kernel_rfl) (a 2 3 v2 rfl rfl) h2
 clear d hval0 hsz0
 obtain ⟨k,hk⟩:=(Q.wx y2 (Q.CY f0) (Q.CY f1)).rounds
 obtain ⟨_,pv,hp,hF⟩:=(Cw Q.yP orc_ok Q.mixed Q.noGo k).fn 9 [.v ai y0,.v ai y1,.v (.int .i64) y2] true rfl hk
 obtain rfl:=Option.some.inj hp
 refine (hF (fun b=>b<W.heap.size) W #[v0,v1,v2] (fun b h=>h) rfl (fun i h=>?_)).mono fun e W' ⟨v,he,bel,hv⟩=>?_
 ·match i,h with
  | 0,h=>exact g0
  | 1,h=>exact g1
  | 2,h=>exact g2
  | i+3,h=>exact absurd h (by simp only [List.length_map,List.length_cons,List.length_nil];omega)
 have hb:=gL hv
 subst hb
 subst he
 exact ⟨_,rfl,_,_,_,[],_,[],o,trodAll_mk1 (shut_bool Tryz.underlying4 _),(trodAll_cons_mk (Below.trod laidOut (by kernel_rfl) (of_decide_eq_true (by kernel_rfl)) k0 bel g) (trodAll_cons_mk (Below.trod laidOut (by kernel_rfl) (of_decide_eq_true (by kernel_rfl)) k1 bel l) (trodAll_cons_mk (Below.trod laidOut (by kernel_rfl) (of_decide_eq_true (by kernel_rfl)) k2 bel f) trodAll_mk0))),rfl,bel.frame _,fun h=>by cases h⟩
theorem over:Rows.polySubstsRow.holds Tryz.pinned (OpenSpec.ofChange Rows.polySubstsSpec) :=
 OpenClaim.holds_of_wide 9 Tryz.f9 rfl rfl rfl rfl rfl rfl rfl ⟨rfl,rfl,rfl,rfl,rfl⟩ rfl rfl rfl rfl rfl (by kernel_rfl) Tryz.func9 (by kernel_rfl)
  (of_decide_eq_true (by kernel_rfl)) (by unfold Func.isWrapper;first | (rw [if_pos (by decide +kernel)];kernel_rfl) | (rw [if_neg (by decide +kernel)];exact ⟨rfl,rfl⟩))
  (fun os started H enc _=>lifted os started H enc)
theorem proved:Rows.PolySubstsCardSaid :=
 Claim7.holds_tied_plain_at .later [] [.data,.data,.data] true (true,"7c1c4094e72754773423f799c4afd1ed3b246fc2b5dc0deefca3ede80156512f") false
  over (fun _ h=>by cases h) (by kernel_rfl) (fun _ h=>by cases h) polySubsts_row_tie rfl ⟨rfl,rfl⟩ (by kernel_rfl) rfl
  (fun f fn hf hfn=>by
   obtain rfl:f=9:=Option.some.inj ((show Tryz.prog.funcNamed "isochrone/isochronelaw03.PolySubsts" = some 9 by kernel_rfl).symm.trans hf) |>.symm
   obtain rfl:fn=Tryz.f9:=(Option.some.inj (Tryz.func9.symm.trans hfn)).symm
   exact ⟨by kernel_rfl,fun j t ht=>by
    rw [Tryz.params9] at ht
    have ht2:t=24∨t=3:=by
     match j,ht with
     | 0,ht=>simp at ht;subst ht;simp
     | 1,ht=>simp at ht;subst ht;simp
     | 2,ht=>simp at ht;subst ht;simp
     | j+3,ht=>simp at ht
    rcases ht2 with rfl | rfl
    ·exact (show Tryz.prog.wantsStandIn 24=false by kernel_rfl)
    exact (show Tryz.prog.wantsStandIn 3=false by kernel_rfl)⟩)
  (by kernel_rfl)
#print axioms proved
end Go.Proofs.YtfbgaddecbiimaaGreatDoor.polySubsts
namespace Go.Proofs.YtfbgaddecbiimaaGreatDoor
theorem polySubsts_holds:Rows.PolySubstsCardSaid:=polySubsts.proved
end Go.Proofs.YtfbgaddecbiimaaGreatDoor
end
