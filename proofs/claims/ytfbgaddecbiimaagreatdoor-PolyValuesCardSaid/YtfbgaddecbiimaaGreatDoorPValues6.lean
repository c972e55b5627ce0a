/- Eval returns the value at a point, and the values of a sum and of a product agree with it (the last of 6 texts). No condition beyond the statement's own. -/
import Derived.Test.YtfbgaddecbiimaaGreatDoorPValues5
set_option linter.unusedSimpArgs false
set_option linter.unusedSectionVars false
set_option linter.unusedVariables false
set_option maxRecDepth 100000
set_option maxHeartbeats 4000000
section
namespace Go.Proofs.YtfbgaddecbiimaaGreatDoor.Q
open Go.RowKit Go.Proofs.YtfbgaddecbiimaaGreatDoorW.PrintWords Go.Proofs.YtfbgaddecbiimaaGreatDoorW.PrintMore Go.Proofs.YtfbgaddecbiimaaGreatDoor.V Go.Proofs.YtfbgaddecbiimaaGreatDoor.E
open Go.Proofs.YtfbgaddecbiimaaGreatDoor.P (Dg Nm vl WW RR bH gI aZ jQ kB dA aE bE aX cn u64)
theorem Hp {x:List Int} (h:x.length<=8) {j:Nat} (hj:j<x.length):(gT (x.take j)).set j x[j]=gT (x.take (j+1)):=by
 have e1:(x.take j).length=j:=by rw [List.length_take];omega
 have e2:(x.take (j+1)).length=j+1:=by rw [List.length_take];omega
 rw [gT,gT,dN _ _ _ Ky,dN _ _ _ Ky,e1,e2,List.take_succ_eq_append_getElem hj]
 obtain ⟨d,hd⟩:∃ d,8-j=d+1:=⟨8-j-1,Ky⟩
 rw [hd,show 8-(j+1)=d by omega,List.replicate_succ,List.set_append_right _ _ Ky,e1,Nat.sub_self,List.append_assoc]
 rfl
noncomputable def Be (p:aR) (i:Nat):List Int:=match i with
 | 0=>List.replicate 8 (0:Int)
 | i+1=>gT (dz p i).1
theorem jU (v:aI) (N:Nat):Ev (fun k=>cD k v (N:Int)) (decide (v.2.1.length<=N/\v.2.2.1.length<=N)):=yn v N
section
variable {p:aR} {i:Nat}
theorem Fl (ha:lB p) (h8:p.1<=8) (hi:i<p.2.1.length) (hp:0<i->((dz p (i-1)).1.length:Int)=p.1) {r:Bool} (hr:qk p i->aV (fun k m=>aS.l0 k m p.2.1 (p.2.1.length:Int) ((i+1:Nat):Int) p (Be p (i+1))) r) (hf:¬ qk p i->r=false) :
 aV (fun k m=>aS.l0 k m p.2.1 (p.2.1.length:Int) (i:Int) p (Be p i)) r:=by
 have hlen:=ha.1
 have harg:=xT ha hi
 refine aV.step (fun k m=>aS.ba k m _ _ _ _ _) (aV.bT (decide_eq_true Ky) (aV.iT Ky ?_))
 by_cases c1:((dz p i).1.length:Int)=p.1
 ·have b1:((List.length (dz p i).1:Int) != p.1)=false:=by simp [c1]
  have hsh:Ev (fun k=>cD k (dz p i).2.1 (200:Int)) _:=jU (dz p i).2.1 200
  by_cases c2:(dz p i).2.1.2.1.length<=200/\(dz p i).2.1.2.2.1.length<=200
  ·rw [decide_eq_true c2] at hsh
   have hv:=yk harg.2
   by_cases c3:Vd (dz p i).2.1
   ·rw [fw c3] at hv
    have hvn:VN 200 (dz p i).2.1:=(zo Ky harg.2).2 ⟨c2,c3⟩
    by_cases c4:(dz p i).2.1.2.1.length=0
    ·rw [hf (fun h=>h.1.ne c4)]
     exact aV.bind (a:=false) (bF b1 (Ev.bind hsh (aZ _))) (aV.bind (a:=false) (bF rfl (Ev.bind hv (aZ _))) (aV.bind (a:=true) (bF rfl (by rw [show ((List.length (dz p i).2.1.2.1:Int)==(0:Int))=true by simp [c4]];exact aZ _)) (aV.bT rfl (aV.of (aZ _)))))
    have c4':((List.length (dz p i).2.1.2.1:Int)==(0:Int))=false:=by simp;intro h;exact c4 (by rw [h];rfl)
    refine aV.bind (a:=false) (bF b1 (Ev.bind hsh (aZ _))) (aV.bind (a:=false) (bF rfl (Ev.bind hv (aZ _))) (aV.bind (a:=false) (bF rfl (by rw [c4'];exact aZ _)) (aV.bF rfl ?_)))
    have hx8:(dz p i).1.length<=8:=Ky
    have key:=sM (n:=(dz p i).1.length) (P:=fun j=>(∀ j' (h:j'<(dz p i).1.length),j'<j->0<=(dz p i).1[j']/\(dz p i).1[j']<=40)->fB (fun k m1 m0=>aS.l1 k m1 m0 (i:Int) p.2.1 (p.2.1.length:Int) (i:Int) (dz p i).1 ((dz p i).1.length:Int) (j:Int) p (Be p i) (gT ((dz p i).1.take j))) r) ?_ ?_ 0 (Nat.zero_le _) (fun j' _ h=>Ky)
    ·exact key.diag
    ·intro hg
     have hall:∀ x∈(dz p i).1,0<=x/\x<=40:=fun x hx=>by
      obtain ⟨j',h1,rfl⟩:=List.getElem_of_mem hx
      exact hg j' h1 h1
     rw [List.take_length]
     have hb8:∀ x∈gT (dz p i).1,0<=x/\x<=1000000:=fun x hx=>by
      rw [gT,dN _ _ _ hx8,List.mem_append,List.mem_replicate] at hx
      rcases hx with hx | hx
      ·have:=hall x hx;omega
      omega
     have ht:=mi (gT (dz p i).1) (eG _ _ _) hb8
     rw [G1 hx8] at ht
     refine fB.step (fun k m1 m0=>aS.fv k m1 m0 _ _ _ _ _ _ _ _ _ _) (fB.bF (decide_eq_false Ky) (fB.bind ht (fB.of ?_)))
     by_cases d1:sE (dz p i).1>40
     ·rw [hf (fun h=>by have:=h.1.sum;omega)]
      exact aV.bind (a:=true) (bT (decide_eq_true d1) (aZ _)) (aV.bT rfl (aV.of (aZ _)))
     have h2:Ev (fun k=>(bif decide ((i:Int)>(0:Int)) then (bR k (Be p i) (gT (dz p i).1)).bind fun (v10:Bool)=>some (!v10) else some false)) (dc (¬ (0<i->cR (dz p (i-1)).1 (dz p i).1>0))):=by
      cases i with
      | zero =>
       rw [eK (fun h=>h (fun h'=>absurd h' Ky))]
       exact bF (decide_eq_false Ky) (aZ _)
      | succ i0 =>
       have hpl:=hp Ky
       rw [Nat.add_sub_cancel] at hpl ⊢
       have hbf:=wg (gT (dz p i0).1) (gT (dz p (i0+1)).1) (eG _ _ _) (eG _ _ _)
       rw [Iz Ky Ky] at hbf
       have:(!decide (cR (dz p i0).1 (dz p (i0+1)).1>0))=dc (¬ (0<i0+1->cR (dz p i0).1 (dz p (i0+1)).1>0)):=BD (by
        rw [Bool.not_eq_true',decide_eq_false_iff_not]
        exact ⟨fun h h'=>h (h' Ky),fun h h'=>h (fun _=>h')⟩)
       rw [<- this]
       exact bT (decide_eq_true Ky) (Ev.bind hbf (aZ _))
     by_cases d2:(0<i->cR (dz p (i-1)).1 (dz p i).1>0)
     ·rw [eK (fun h=>h d2)] at h2
      refine aV.bind (a:=false) (bF (decide_eq_false d1) (Ev.bind h2 (aZ _))) (aV.bF rfl ?_)
      rw [iX Ky]
      exact hr ⟨⟨c1,hall,Ky,hvn,c4⟩,d2⟩
     rw [fw d2] at h2
     rw [hf (fun h=>d2 h.2)]
     exact aV.bind (a:=true) (bF (decide_eq_false d1) (Ev.bind h2 (aZ _))) (aV.bT rfl (aV.of (aZ _)))
    intro j hj ih hg
    have e1:(dM (t:=(.int .i64)) (dz p i).1 (j:Int):Int)=(dz p i).1[j]:=dF hj
    refine fB.step (fun k m1 m0=>aS.fv k m1 m0 _ _ _ _ _ _ _ _ _ _) (fB.bT (decide_eq_true Ky) (fB.iT Ky ?_))
    rw [e1]
    by_cases g1:0<=(dz p i).1[j]/\(dz p i).1[j]<=40
    ·refine fB.bind (a:=false) (bF (decide_eq_false (show ¬ (dz p i).1[j]<0 by omega)) (pj (show ¬ (dz p i).1[j]>40 by omega))) (fB.bF rfl (fB.iT Ky ?_))
     rw [Jm (eG _ _ _) Ky,Hp hx8 hj,iX Ky]
     exact ih (fun j' h1 h2=>by
      by_cases c:j'=j
      ·subst c;exact g1
      exact hg j' h1 Ky)
    rw [hf (fun h=>g1 (h.1.ex _ (List.getElem_mem hj)))]
    refine fB.bind (a:=true) ?_ (fB.bT rfl (fB.of (aV.of (aZ _))))
    by_cases g2:(dz p i).1[j]<0
    ·exact bT (decide_eq_true g2) (aZ _)
    exact bF (decide_eq_false g2) (yS (show (dz p i).1[j]>40 by omega))
   rw [eK c3] at hv
   rw [hf (fun h=>c3 ((zo Ky harg.2).1 h.1.co).2)]
   exact aV.bind (a:=false) (bF b1 (Ev.bind hsh (aZ _))) (aV.bind (a:=true) (bF rfl (Ev.bind hv (aZ _))) (aV.bind (a:=true) (bT rfl (aZ _)) (aV.bT rfl (aV.of (aZ _)))))
  rw [decide_eq_false c2] at hsh
  rw [hf (fun h=>c2 (Gq h.1.co))]
  exact aV.bind (a:=true) (bF b1 (Ev.bind hsh (aZ _))) (aV.bind (a:=true) (bT rfl (aZ _)) (aV.bind (a:=true) (bT rfl (aZ _)) (aV.bT rfl (aV.of (aZ _)))))
 have b1:((List.length (dz p i).1:Int) != p.1)=true:=by simp [c1]
 rw [hf (fun h=>c1 h.1.len)]
 exact aV.bind (a:=true) (bT b1 (aZ _)) (aV.bind (a:=true) (bT rfl (aZ _)) (aV.bind (a:=true) (bT rfl (aZ _)) (aV.bT rfl (aV.of (aZ _)))))
theorem kY (ha:lB p):Ev (fun k=>aS k p) (dc (fk p)):=by
 have hlen:=ha.1
 by_cases c0:p.1<0
 ·rw [eK (fun h=>by have:=h.n0;omega)]
  exact Ev.step (fun k=>eR k p) (Ev.bind (a:=true) (bT (decide_eq_true c0) (aZ _)) (Ev.bind (a:=true) (bT rfl (aZ _)) (bT rfl (aZ _))))
 by_cases c8:p.1>8
 ·rw [eK (fun h=>by have:=h.n8;omega)]
  exact Ev.step (fun k=>eR k p) (Ev.bind (a:=true) (bF (decide_eq_false c0) (yS c8)) (Ev.bind (a:=true) (bT rfl (aZ _)) (bT rfl (aZ _))))
 by_cases c4:p.2.1.length>4000
 ·rw [eK (fun h=>by have:=h.few;omega)]
  exact Ev.step (fun k=>eR k p) (Ev.bind (a:=false) (bF (decide_eq_false c0) (pj c8)) (Ev.bind (a:=true) (bF rfl (yS Ky)) (bT rfl (aZ _))))
 refine Ev.step (fun k=>eR k p) (Ev.bind (a:=false) (bF (decide_eq_false c0) (pj c8)) (Ev.bind (a:=false) (bF rfl (pj Ky)) (bF rfl (aV.diag (g:=fun k m=>aS.l0 k m p.2.1 (p.2.1.length:Int) (0:Int) p (List.replicate 8 (0:Int))) ?_))))
 have main:=sM (n:=p.2.1.length) (P:=fun i=>(∀ j,j<i->qk p j)->aV (fun k m=>aS.l0 k m p.2.1 (p.2.1.length:Int) (i:Int) p (Be p i)) (dc (fk p))) ?_ ?_ 0 (Nat.zero_le _) (fun j h=>Ky)
 ·exact main
 ·intro hg
  rw [fw ⟨Ky,Ky,Ky,hg⟩]
  exact aV.step (fun k m=>aS.ba k m _ _ _ _ _) (aV.bF (decide_eq_false Ky) (aV.of (aZ _)))
 intro i hi ih hg
 refine Fl ha Ky hi (fun h0=>(hg (i-1) Ky).1.len) (fun h=>ih (fun j hj=>?_)) (fun h=>eK (fun hv=>h (hv.good i hi)))
 by_cases c:j=i
 ·rw [c];exact h
 exact hg j Ky
end
end Go.Proofs.YtfbgaddecbiimaaGreatDoor.Q
end
section
namespace Go.Proofs.YtfbgaddecbiimaaGreatDoor.Q
open Go.RowKit Go.Proofs.YtfbgaddecbiimaaGreatDoor.V Go.Proofs.YtfbgaddecbiimaaGreatDoor.E
theorem Ga (k:Nat):gD (k+60)=some true:=by
 kernel_rfl
open Go.Proofs.YtfbgaddecbiimaaGreatDoorW.PrintWords Go.Proofs.YtfbgaddecbiimaaGreatDoorW.PrintMore
open Go.Proofs.YtfbgaddecbiimaaGreatDoor.P (Dg Nm vl WW RR bH gI aZ jQ kB dA aE bE aX cn u64)
theorem Gb:Ev (fun k=>gD k) true:=⟨60,fun k hk=>by
 obtain ⟨j,rfl⟩:∃ j,k=j+60:=⟨k-60,Ky⟩
 exact Ga j⟩
abbrev three:aI:=(false,[3],[1],())
theorem BP {y:aR} (h:wE af y):lB y:=by
 obtain ⟨_,⟨h1,h2⟩,_⟩:=h
 exact ⟨h1,fun t ht=>⟨(h2 t ht).1.1,EY (h2 t ht).2.1⟩⟩
theorem Kb {x:List Int} (h:x.length<=8):jK (List.replicate 8 (0:Int)) x=gT x:=by
 rw [gT,dN _ _ _ h]
 simp only [jK,List.length_replicate,Nat.min_eq_left h,List.take_length,List.drop_replicate]
def RelT (t u:aw):Prop:=u.1=gT t.1/\∃ q,RB WW t.2.1 q/\RB RR u.2.1 q/\Sz WW 200 q/\Sz RR 800 q
section
variable {p:aR}
theorem D6 (ha:lB p) (hv:fk p):∃ r:List aw,Ev (fun k=>bN k p) r/\r.length=p.2.1.length/\∀ i (h:i<r.length),RelT (dz p i) r[i]:=by
 have hfew:=hv.few
 have main:=sM (n:=p.2.1.length) (P:=fun i=>∀ acc:List aw,acc.length=i->∃ r:List aw,r.length=p.2.1.length-i/\(∀ j (h:j<r.length),RelT (dz p (i+j)) r[j])/\aV (fun k m=>bN.l0 k m p.2.1 (p.2.1.length:Int) (i:Int) acc) (acc++r)) ?_ ?_ 0 (Nat.zero_le _) [] rfl
 ·obtain ⟨r,h1,h2,h3⟩:=main
  refine ⟨r,Ev.step (fun k=>oo k p) h3.diag,Ky,fun i h=>?_⟩
  have:=h2 i h
  rwa [Nat.zero_add] at this
 ·intro acc hacc
  exact ⟨[],Kz,fun j h=>by simp at h,aV.step (fun k m=>bN.ba k m _ _ _ _) (aV.bF (decide_eq_false Ky) (by rw [List.append_nil];exact aV.of (aZ _)))⟩
 intro i hi ih acc hacc
 obtain ⟨⟨c1,c2,c3,c4,c5⟩,_⟩:=hv.good i hi
 have h8:(dz p i).1.length<=8:=by have:=hv.n8;omega
 obtain ⟨q,q1,q2⟩:=c4
 obtain ⟨v,v1,v2,v3⟩:=oO q1 q2 Ky
 obtain ⟨r,r1,r2,r3⟩:=ih (acc++[(gT (dz p i).1,v,())]) (by simp [hacc])
 refine ⟨(gT (dz p i).1,v,()) :: r,by simp only [List.length_cons];omega,fun j h=>?_,?_⟩
 ·cases j with
  | zero=>exact ⟨rfl,q,q1,v2,q2,v3⟩
  | succ j =>
   have:=r2 j (by simpa using h)
   rw [show i+1+j=i+(j+1) by omega] at this
   exact this
 refine aV.step (fun k m=>bN.ba k m _ _ _ _) (aV.bT (decide_eq_true Ky) (aV.iT Ky (aV.iT Kz (aV.bind v1 (aV.iT ?_ ?_)))))
 ·simp only [List.length_cons,List.length_nil];omega
 rw [show jK (List.replicate 8 (0:Int)) (dM (t:=ah) p.2.1 (i:Int):aw).1=gT (dz p i).1 from Kb h8,iX Ky]
 rw [show acc++(gT (dz p i).1,v,()) :: r=(acc++[(gT (dz p i).1,v,())])++r by simp]
 exact r3
theorem uH {r:List aw} (hl:r.length<=9223372036854775807) (h:∀ i (h:i<r.length),r[i].1.length=8/\∀ x∈r[i].1,0<=x/\x<=1000000):∃ d,Ev (fun k=>bu k r) d:=by
 have main:=sM (n:=r.length) (P:=fun i=>∀ x:Int,∃ d,aV (fun k m=>bu.l0 k m x r (r.length:Int) (i:Int)) d) ?_ ?_ 0 (Nat.zero_le _) (-1)
 ·obtain ⟨d,hd⟩:=main
  exact ⟨d,Ev.step (fun k=>im k r) hd.diag⟩
 ·exact fun x=>⟨x,aV.step (fun k m=>bu.ba k m _ _ _ _) (aV.bF (decide_eq_false Ky) (aV.of (aZ _)))⟩
 intro i hi ih x
 obtain ⟨d,hd⟩:=ih (mx x (sE r[i].1))
 have e:(dM (t:=ak) r (i:Int):aw)=r[i]:=dF hi
 refine ⟨d,aV.step (fun k m=>bu.ba k m _ _ _ _) (aV.bT (decide_eq_true Ky) (aV.iT Ky ?_))⟩
 rw [e]
 refine aV.bind (mi _ (h i hi).1 (h i hi).2) ?_
 rw [iX Ky]
 exact hd
theorem Fx {x:List Int} (h8:x.length<=8) (h:∀ y∈x,0<=y/\y<=40):∀ y∈gT x,0<=y/\y<=1000000:=fun y hy=>by
 rw [gT,dN _ _ _ h8,List.mem_append,List.mem_replicate] at hy
 rcases hy with hy | hy
 ·have:=h y hy;omega
 omega
structure zg (p:aR) (a c:Nat):Prop where
 ok:fk p
 few:p.2.1.length<=a
 short:∀ i,i<p.2.1.length->(dz p i).2.1.2.1.length<=c/\(dz p i).2.1.2.2.1.length<=c
theorem ym (ha:lB p) (a c:Nat) (b:Int):∃ t,Ev (fun k=>bh k p (a:Int) b (c:Int)) t/\(t=true->zg p a c):=by
 have hlen:=ha.1
 by_cases c0:p.1<0
 ·exact ⟨false,Ev.step (fun k=>dO k p _ _ _) (Ev.bind (a:=true) (bT (decide_eq_true c0) (aZ _)) (Ev.bind (a:=true) (bT rfl (aZ _)) (bT rfl (aZ _)))),fun h=>by cases h⟩
 by_cases c8:p.1>8
 ·exact ⟨false,Ev.step (fun k=>dO k p _ _ _) (Ev.bind (a:=true) (bF (decide_eq_false c0) (yS c8)) (Ev.bind (a:=true) (bT rfl (aZ _)) (bT rfl (aZ _)))),fun h=>by cases h⟩
 by_cases c4:p.2.1.length>a
 ·exact ⟨false,Ev.step (fun k=>dO k p _ _ _) (Ev.bind (a:=false) (bF (decide_eq_false c0) (pj c8)) (Ev.bind (a:=true) (bF rfl (yS Ky)) (bT rfl (aZ _)))),fun h=>by cases h⟩
 have fin:∃ t,Ev (fun k=>(aS k p).bind fun (v4:Bool) =>
  (bif v4 then (bN k p).bind fun (v5:List aw) =>
  (bu k v5).bind fun (v6:Int) =>
  some (decide (v6<=b)) else some false).bind fun (b7:Bool) =>
  some b7) t/\(t=true->fk p):=by
  by_cases hv:fk p
  ·have h1:=kY ha
   rw [fw hv] at h1
   obtain ⟨r,r1,r2,r3⟩:=D6 ha hv
   obtain ⟨d,hd⟩:=uH (r:=r) (by have:=hv.few;omega) (fun i h=>by
    obtain ⟨g1,_⟩:=hv.good i Ky
    have h8:(dz p i).1.length<=8:=by have:=hv.n8;have:=g1.len;omega
    rw [(r3 i h).1]
    exact ⟨eG _ _ _,Fx h8 g1.ex⟩)
   exact ⟨decide (d<=b),Ev.bind h1 (Ev.bind (bT rfl (Ev.bind r1 (Ev.bind hd (aZ _)))) (aZ _)),fun _=>hv⟩
  have h1:=kY ha
  rw [eK hv] at h1
  exact ⟨false,Ev.bind h1 (Ev.bind (a:=false) (bF rfl (aZ _)) (aZ _)),fun h=>by cases h⟩
 obtain ⟨t0,f1,f2⟩:=fin
 have main:=sM (n:=p.2.1.length) (P:=fun i=>∃ t,aV (fun k m=>bh.l0 k m b (c:Int) p.2.1 (p.2.1.length:Int) (i:Int) p) t/\(t=true->fk p/\∀ j,i<=j->j<p.2.1.length->(dz p j).2.1.2.1.length<=c/\(dz p j).2.1.2.2.1.length<=c)) ?_ ?_ 0 (Nat.zero_le _)
 ·obtain ⟨t,h1,h2⟩:=main
  refine ⟨t,Ev.step (fun k=>dO k p _ _ _) (Ev.bind (a:=false) (bF (decide_eq_false c0) (pj c8)) (Ev.bind (a:=false) (bF rfl (pj Ky)) (bF rfl h1.diag))),fun h=>⟨(h2 h).1,Ky,fun i hi=>(h2 h).2 i (Nat.zero_le _) hi⟩⟩
 ·exact ⟨t0,aV.step (fun k m=>bh.ba k m _ _ _ _ _ _) (aV.bF (decide_eq_false Ky) (aV.of f1)),fun h=>⟨f2 h,fun j h1 h2=>Ky⟩⟩
 intro i hi ⟨t,h1,h2⟩
 have hsh:Ev (fun k=>cD k (dz p i).2.1 (c:Int)) _:=jU (dz p i).2.1 c
 by_cases d:(dz p i).2.1.2.1.length<=c/\(dz p i).2.1.2.2.1.length<=c
 ·rw [decide_eq_true d] at hsh
  refine ⟨t,aV.step (fun k m=>bh.ba k m _ _ _ _ _ _) (aV.bT (decide_eq_true Ky) (aV.iT Ky (aV.bind hsh (aV.bF rfl ?_)))),fun h=>⟨(h2 h).1,fun j g1 g2=>?_⟩⟩
  ·rw [iX Ky];exact h1
  by_cases e:j=i
  ·rw [e];exact d
  exact (h2 h).2 j Ky g2
 rw [decide_eq_false d] at hsh
 exact ⟨false,aV.step (fun k m=>bh.ba k m _ _ _ _ _ _) (aV.bT (decide_eq_true Ky) (aV.iT Ky (aV.bind hsh (aV.bT rfl (aV.of (aZ _)))))),fun h=>by cases h⟩
end
def kO (a b:List Int):Prop:=cR a b>0
end Go.Proofs.YtfbgaddecbiimaaGreatDoor.Q
end
section
namespace Go.Proofs.YtfbgaddecbiimaaGreatDoor.G
abbrev Ex:=List Int
abbrev Tm:=Ex×Rat
def fA (m:Ex->Rat):List Tm->Rat
 | []=>0
 | t :: l=>t.2*m t.1+fA m l
def dl (e:Ex):Ex->Rat:=fun f=>if f=e then 1 else 0
def co (l:List Tm) (e:Ex):Rat:=fA (dl e) l
def o9 (p q:List Tm):Prop:=∀ m,fA m p=fA m q
theorem o9.refl (p:List Tm):o9 p p:=fun _=>rfl
theorem o9.trans {p q r:List Tm} (h:o9 p q) (h':o9 q r):o9 p r:=fun m=>(h m).trans (h' m)
theorem jl (m:Ex->Rat):∀ p q,fA m (p++q)=fA m p+fA m q
 | [],q=>by simp only [List.nil_append,fA];grind
 | t :: p,q=>by
  have h:=jl m p q
  simp only [List.cons_append,fA,h]
  grind
theorem HP (m:Ex->Rat) {p q:List Tm} (h:p.Perm q):fA m p=fA m q:=by
 induction h with
 | nil=>rfl
 | cons t _ ih=>simp only [fA,ih]
 | swap a b l=>simp only [fA];grind
 | trans _ _ h1 h2=>exact h1.trans h2
theorem sC {m m':Ex->Rat}:∀ {p:List Tm},(∀ t∈p,t.2=0∨m t.1=m' t.1)->fA m p=fA m' p
 | [],_=>rfl
 | t :: p,h=>by
  have h1:=sC (p:=p) (fun u hu=>h u (List.mem_cons_of_mem _ hu))
  simp only [fA,h1]
  rcases h t (List.mem_cons_self ..) with e | e
  ·rw [e];grind
  rw [e]
theorem yK (c:Rat) (m:Ex->Rat):∀ p,fA (fun e=>c*m e) p=c*fA m p
 | []=>by simp only [fA];grind
 | t :: p=>by
  have h:=yK c m p
  simp only [fA,h]
  grind
theorem co_nil (e:Ex):co [] e=0:=rfl
theorem y6 (t:Tm) (l:List Tm) (e:Ex):co (t :: l) e=(if t.1=e then t.2 else 0)+co l e:=by
 simp only [co,fA,dl]
 split<;>grind
theorem DF {e:Ex}:∀ {l:List Tm},(∀ t∈l,t.1≠e)->co l e=0
 | [],_=>rfl
 | t :: l,h=>by
  rw [y6,DF (fun u hu=>h u (List.mem_cons_of_mem _ hu)),if_neg (h t (List.mem_cons_self ..))]
  grind
def neg (l:List Tm):List Tm:=l.map fun t=>(t.1,-t.2)
theorem o9.co {p q:List Tm} (h:o9 p q) (e:Ex):co p e=co q e:=h _
def kO:Ex->Ex->Bool
 | a :: l,b :: k=>if a=b then kO l k else decide (a>b)
 | _,_=>false
theorem vD:∀ a,kO a a=false
 | []=>rfl
 | a :: l=>by rw [kO,if_pos rfl];exact vD l
theorem oX:∀ {a b c:Ex},kO a b=true->kO b c=true->kO a c=true
 | [],_,_,h,_=>by simp [kO] at h
 | _ :: _,[],_,h,_=>by simp [kO] at h
 | _ :: _,_ :: _,[],_,h=>by simp [kO] at h
 | a :: l,b :: k,c :: j,h,h'=>by
  rw [kO] at h h' ⊢
  by_cases e:a=b
  ·rw [if_pos e] at h
   by_cases e':b=c
   ·rw [if_pos e'] at h'
    rw [if_pos (e.trans e')]
    exact oX h h'
   rw [if_neg e'] at h'
   rw [if_neg (by rw [e];exact e')]
   rw [e];exact h'
  rw [if_neg e] at h
  have h1:a>b:=by simpa using h
  by_cases e':b=c
  ·rw [if_neg (by rw [<- e'];exact e)]
   rw [<- e'];exact h
  rw [if_neg e'] at h'
  have h2:b>c:=by simpa using h'
  rw [if_neg Ky]
  simp;omega
theorem sG:∀ {a b:Ex},a.length=b.length->kO a b=false->kO b a=false->a=b
 | [],[],_,_,_=>rfl
 | [],_ :: _,h,_,_=>by simp at h
 | _ :: _,[],h,_,_=>by simp at h
 | a :: l,b :: k,h,h1,h2=>by
  rw [kO] at h1 h2
  by_cases e:a=b
  ·rw [if_pos e] at h1
   rw [if_pos e.symm] at h2
   rw [e,sG (by simpa using h) h1 h2]
  rw [if_neg e] at h1
  rw [if_neg (fun h=>e h.symm)] at h2
  have h3:¬ a>b:=by simpa using h1
  have h4:¬ b>a:=by simpa using h2
  omega
theorem gtE_ne {a b:Ex} (h:kO a b=true):a≠b:=fun e=>by rw [e,vD] at h;cases h
def gP (a b:Ex):Ex:=List.zipWith (· + ·) a b
theorem BR {a b:Ex} (h:a.length=b.length):(gP a b).length=a.length:=by
 simp [gP,h]
structure pD (n:Nat) (l:List Tm):Prop where
 ord:l.Pairwise fun a b=>kO a.1 b.1=true
 nz:∀ t∈l,t.2≠0
 len:∀ t∈l,t.1.length=n
structure ql (n:Nat) (l:List Tm):Prop where
 ne:l.Pairwise fun a b=>a.1≠b.1
 nz:∀ t∈l,t.2≠0
 len:∀ t∈l,t.1.length=n
theorem pD.dst {n:Nat} {l:List Tm} (h:pD n l):ql n l:=⟨h.ord.imp gtE_ne,h.nz,h.len⟩
theorem pD.tail {n:Nat} {t:Tm} {l:List Tm} (h:pD n (t :: l)):pD n l :=
 ⟨(List.pairwise_cons.1 h.ord).2,(fun u hu=>h.nz u (List.mem_cons_of_mem _ hu)),(fun u hu=>h.len u (List.mem_cons_of_mem _ hu))⟩
theorem ql.tail {n:Nat} {t:Tm} {l:List Tm} (h:ql n (t :: l)):ql n l :=
 ⟨(List.pairwise_cons.1 h.ne).2,(fun u hu=>h.nz u (List.mem_cons_of_mem _ hu)),(fun u hu=>h.len u (List.mem_cons_of_mem _ hu))⟩
theorem ql.DG {n:Nat}:∀ {l:List Tm},ql n l->∀ t∈l,co l t.1=t.2
 | [],_,t,ht=>by simp at ht
 | u :: l,h,t,ht=>by
  rw [y6]
  rcases List.mem_cons.1 ht with e | e
  ·subst e
   rw [if_pos rfl,DF (fun v hv=>fun e=>(List.pairwise_cons.1 h.ne).1 v hv e.symm)]
   grind
  rw [if_neg (fun e'=>(List.pairwise_cons.1 h.ne).1 t e e'),ql.DG h.tail t e]
  grind
def Gi (p:List Tm) (t:Tm):List Tm:=p.map fun u=>(gP u.1 t.1,u.2*t.2)
theorem Et (m:Ex->Rat) (t:Tm):∀ p,fA m (Gi p t)=t.2*fA (fun e=>m (gP e t.1)) p
 | []=>by simp only [Gi,List.map_nil,fA];grind
 | u :: p=>by
  have h:=Et m t p
  simp only [Gi] at h
  simp only [Gi,List.map_cons,fA,h]
  grind
def prod (p q:List Tm):List Tm:=p.flatMap fun t=>Gi q t
theorem qY (m:Ex->Rat) (q:List Tm):∀ p,fA m (prod p q)=fA (fun e=>fA (fun f=>m (gP f e)) q) p
 | []=>rfl
 | t :: p=>by
  have h:=qY m q p
  simp only [prod] at h
  simp only [prod,List.flatMap_cons,jl,fA,h,Et]
theorem o9.prod {p q p' q':List Tm} (h:o9 p p') (h':o9 q q'):o9 (prod p q) (prod p' q'):=fun m=>by
 rw [qY,qY,h]
 exact congrArg (fun f=>fA f p') (funext fun e=>h' _)
def zE (n:Nat):Ex:=List.replicate n 0
def one (n:Nat):List Tm:=[(zE n,1)]
def pw (n:Nat) (p:List Tm):Nat->List Tm
 | 0=>one n
 | k+1=>prod (pw n p k) p
def Len (n:Nat) (p:List Tm):Prop:=∀ t∈p,t.1.length=n
theorem Ap (a:Rat) (k:Nat):∀ j:Nat,a ^ (k+j)=a ^ k*a ^ j
 | 0=>by rw [Nat.add_zero,Rat.pow_zero];grind
 | j+1=>by rw [<- Nat.add_assoc,Rat.pow_succ,Rat.pow_succ,Ap a k j];grind
def mv (x:List Rat):Ex->Rat:=fun e=>go x e
where go:List Rat->Ex->Rat
 | a :: x,k :: e=>a ^ k.toNat*go x e
 | _,_=>1
theorem HJ:∀ {x:List Rat} {e f:Ex},e.length=f.length->(∀ k∈e,0<=k)->(∀ k∈f,0<=k)->mv x (gP e f)=mv x e*mv x f
 | [],_,_,_,_,_=>by simp only [mv,mv.go];grind
 | _ :: _,[],[],_,_,_=>by simp only [mv,mv.go,gP,List.zipWith_nil_left];grind
 | _ :: _,[],_ :: _,h,_,_=>by simp at h
 | _ :: _,_ :: _,[],h,_,_=>by simp at h
 | a :: x,k :: e,j :: f,h,h1,h2=>by
  have ih:=HJ (x:=x) (e:=e) (f:=f) (by simpa using h) (fun i hi=>h1 i (List.mem_cons_of_mem _ hi)) (fun i hi=>h2 i (List.mem_cons_of_mem _ hi))
  simp only [mv] at ih
  simp only [mv,gP,List.zipWith_cons_cons,mv.go]
  have h3:(k+j).toNat=k.toNat+j.toNat:=Int.toNat_add (h1 k (List.mem_cons_self ..)) (h2 j (List.mem_cons_self ..))
  simp only [gP] at ih
  rw [ih,h3,Ap]
  grind
def gO (p q:List Tm):List Tm:=match p,q with
 | [],q=>q
 | p,[]=>p
 | t :: p,u :: q=>if kO t.1 u.1 then t :: gO p (u :: q) else if kO u.1 t.1 then u :: gO (t :: p) q else if t.2+u.2=0 then gO p q else (t.1,t.2+u.2) :: gO p q
termination_by p.length+q.length
theorem vZ (p:List Tm):gO p []=p:=by
 cases p<;>rw [gO]
 simp
theorem oh:∀ (p q:List Tm) (t:Tm),t∈gO p q->(∃ u∈p,u.1=t.1)∨∃ u∈q,u.1=t.1
 | [],q,t,h=>by rw [gO] at h;exact .inr ⟨t,h,rfl⟩
 | a :: p,[],t,h=>by rw [vZ] at h;exact .inl ⟨t,h,rfl⟩
 | a :: p,b :: q,t,h=>by
  have L:∀ {x:Tm},(∃ u∈p,u.1=x.1)->∃ u∈a :: p,u.1=x.1:=fun ⟨u,h1,h2⟩=>⟨u,List.mem_cons_of_mem _ h1,h2⟩
  have R:∀ {x:Tm},(∃ u∈q,u.1=x.1)->∃ u∈b :: q,u.1=x.1:=fun ⟨u,h1,h2⟩=>⟨u,List.mem_cons_of_mem _ h1,h2⟩
  rw [gO] at h
  split at h
  ·rcases List.mem_cons.1 h with e | e
   ·exact .inl ⟨a,List.mem_cons_self ..,by rw [e]⟩
   exact (oh p (b :: q) t (by assumption)).imp L id
  split at h
  ·rcases List.mem_cons.1 h with e | e
   ·exact .inr ⟨b,List.mem_cons_self ..,by rw [e]⟩
   exact (oh (a :: p) q t (by assumption)).imp id R
  split at h
  ·exact (oh p q t h).imp L R
  rcases List.mem_cons.1 h with e | e
  ·exact .inl ⟨a,List.mem_cons_self ..,by rw [e]⟩
  exact (oh p q t (by assumption)).imp L R
termination_by p q=>p.length+q.length
theorem o8 {n:Nat}:∀ (p q:List Tm),pD n p->pD n q->pD n (gO p q)/\∀ m,fA m (gO p q)=fA m p+fA m q
 | [],q,_,h=>by rw [gO];exact ⟨h,fun m=>by simp only [fA];grind⟩
 | a :: p,[],h,_=>by rw [vZ];exact ⟨h,fun m=>by simp only [fA];grind⟩
 | a :: p,b :: q,hp,hq=>by
  have la:=hp.len a (List.mem_cons_self ..)
  have lb:=hq.len b (List.mem_cons_self ..)
  have ga:=(List.pairwise_cons.1 hp.ord).1
  have gb:=(List.pairwise_cons.1 hq.ord).1
  have top:∀ {x:Ex} {r s:List Tm},pD n (gO r s)->(∀ u∈r,kO x u.1=true)->(∀ u∈s,kO x u.1=true)->∀ v∈gO r s,kO x v.1=true:=fun _ h1 h2 v hv=>by
   rcases oh _ _ v hv with ⟨u,hu,e⟩ | ⟨u,hu,e⟩
   ·rw [<- e];exact h1 u hu
   rw [<- e];exact h2 u hu
  rw [gO]
  split
  ·rename_i c
   obtain ⟨h1,h2⟩:=o8 p (b :: q) hp.tail hq
   refine ⟨⟨List.pairwise_cons.2 ⟨top h1 ga (fun u hu=>(List.mem_cons.1 hu).elim (fun e=>by rw [e];exact c) (fun e=>oX c (gb u e))),h1.ord⟩,?_,?_⟩,fun m=>by simp only [fA,h2];grind⟩
   ·intro t ht
    exact (List.mem_cons.1 ht).elim (fun e=>by rw [e];exact hp.nz a (List.mem_cons_self ..)) (h1.nz t)
   intro t ht
   exact (List.mem_cons.1 ht).elim (fun e=>by rw [e];exact la) (h1.len t)
  rename_i c
  split
  ·rename_i c'
   obtain ⟨h1,h2⟩:=o8 (a :: p) q hp hq.tail
   refine ⟨⟨List.pairwise_cons.2 ⟨top h1 (fun u hu=>(List.mem_cons.1 hu).elim (fun e=>by rw [e];exact c') (fun e=>oX c' (ga u e))) gb,h1.ord⟩,?_,?_⟩,fun m=>by simp only [fA,h2];grind⟩
   ·intro t ht
    exact (List.mem_cons.1 ht).elim (fun e=>by rw [e];exact hq.nz b (List.mem_cons_self ..)) (h1.nz t)
   intro t ht
   exact (List.mem_cons.1 ht).elim (fun e=>by rw [e];exact lb) (h1.len t)
  rename_i c'
  have e:=sG (la.trans lb.symm) (by simpa using c) (by simpa using c')
  obtain ⟨h1,h2⟩:=o8 p q hp.tail hq.tail
  split
  ·rename_i z
   refine ⟨h1,fun m=>?_⟩
   simp only [fA,h2,<- e]
   have:b.2 = -a.2:=by grind
   rw [this];grind
  rename_i z
  refine ⟨⟨List.pairwise_cons.2 ⟨top h1 ga (fun u hu=>by rw [e];exact gb u hu),h1.ord⟩,?_,?_⟩,fun m=>?_⟩
  ·intro t ht
   exact (List.mem_cons.1 ht).elim (fun e=>by rw [e];exact z) (h1.nz t)
  ·intro t ht
   exact (List.mem_cons.1 ht).elim (fun e=>by rw [e];exact la) (h1.len t)
  simp only [fA,h2,<- e];grind
termination_by p q=>p.length+q.length
end Go.Proofs.YtfbgaddecbiimaaGreatDoor.G
end
section
namespace Go.Proofs.YtfbgaddecbiimaaGreatDoor.Q
open Go.RowKit Go.Proofs.YtfbgaddecbiimaaGreatDoorW.PrintWords Go.Proofs.YtfbgaddecbiimaaGreatDoorW.PrintMore Go.Proofs.YtfbgaddecbiimaaGreatDoor.V Go.Proofs.YtfbgaddecbiimaaGreatDoor.E
open Go.Proofs.YtfbgaddecbiimaaGreatDoor.P (Dg Nm vl WW RR bH gI aZ jQ kB dA aE bE aX cM cn u64)
open Go.Proofs.YtfbgaddecbiimaaGreatDoor.G (Ex Tm fA co o9 pD ql)
theorem H8:∀ {a b:List Int},a.length=b.length->(kO a b↔G.kO a b=true)
 | [],[],_=>by simp [kO,cR,G.kO]
 | [],_ :: _,h=>by simp at h
 | _ :: _,[],h=>by simp at h
 | a :: x,b :: y,h=>by
  have ih:=H8 (a:=x) (b:=y) (by simpa using h)
  unfold kO at ih ⊢
  rw [y7,G.kO]
  by_cases c:a=b
  ·rw [if_pos c,<- ih]
   constructor
   ·rintro (g | g)
    ·omega
    exact g.2
   exact fun g=>.inr ⟨c,g⟩
  rw [if_neg c,decide_eq_true_eq]
  constructor
  ·rintro (g | g)
   ·exact g
   exact absurd g.1 c
  exact fun g=>.inl g
theorem uV {x:List Int} (h:x.length<=8):(gT x).take x.length=x:=by
 rw [gT,dN _ _ _ h,List.take_left]
def kb (e:Int):List Int:=[(shr .i64 e (24:Int)) % 256,(shr .i64 e (16:Int)) % 256,(shr .i64 e (8:Int)) % 256,e % 256]
def tR (x:List Int):List Int:=x.flatMap kb
theorem Bh:∀ x:List Int,(tR x).length=4*x.length
 | []=>rfl
 | e :: x=>by
  have:=Bh x
  simp only [tR,List.flatMap_cons,List.length_append,List.length_cons] at this ⊢
  simp only [kb,List.length_cons,List.length_nil]
  omega
theorem CP (x:List Int) (h:x.length<=8):Ev (fun k=>gL k x) (strOfNums (tR x)):=by
 have e4:wrap64 ((4:Int)*(x.length:Int))=4*(x.length:Int):=cn Ky Ky
 have main:=sM (n:=x.length) (P:=fun i=>aV (fun k m=>gL.l0 k m x (x.length:Int) (i:Int) (tR (x.take i))) (strOfNums (tR x))) ?_ ?_ 0 (Nat.zero_le _)
 ·refine Ev.step (fun k=>CQ k x) (iT (by rw [e4];unfold maxLen;omega) ?_)
  exact main.diag
 ·rw [List.take_length]
  exact aV.step (fun k m=>gL.ba k m _ _ _ _) (aV.bF (decide_eq_false Ky) (aV.of (aZ _)))
 intro i hi ih
 have e1:(dM (t:=(.int .i64)) x (i:Int):Int)=x[i]:=dF hi
 have hk:=Bh (x.take i)
 rw [List.length_take] at hk
 refine aV.step (fun k m=>gL.ba k m _ _ _ _) (aV.bT (decide_eq_true Ky) (aV.iT Ky (aV.iT (by simp only [List.length_cons,List.length_nil];omega) ?_)))
 rw [e1,iX Ky]
 have:tR (x.take i)++kb x[i]=tR (x.take (i+1)):=by
  simp only [tR]
  rw [List.take_succ_eq_append_getElem hi,List.flatMap_append]
  simp
 have ih':=ih
 rw [<- this] at ih'
 exact ih'
theorem key_inj:∀ {x y:List Int},x.length=y.length->(∀ e∈x,0<=e/\e<256)->(∀ e∈y,0<=e/\e<256)->(strOfNums (tR x)).data.toList=(strOfNums (tR y)).data.toList->x=y
 | [],[],_,_,_,_=>rfl
 | [],_ :: _,h,_,_,_=>by simp at h
 | _ :: _,[],h,_,_,_=>by simp at h
 | a :: x,b :: y,h,hx,hy,he=>by
  have ih:=key_inj (x:=x) (y:=y) (by simpa using h) (fun e he=>hx e (by simp [he])) (fun e he=>hy e (by simp [he]))
  have ha:=hx a Kz
  have hb:=hy b Kz
  simp only [strOfNums,tR,List.flatMap_cons,kb,List.cons_append,List.nil_append,List.map_cons,List.cons.injEq] at he ih
  obtain ⟨_,_,_,h4,h5⟩:=he
  have h6:=congrArg UInt8.toNat h4
  simp only [UInt8.toNat_ofNat'] at h6
  rw [ih h5,show a=b by omega]
noncomputable def dE (v:aI):Rat:=Rat.divInt (sg v.1 (vl WW v.2.1)) (vl WW v.2.2.1)
theorem oP {v:aI} {q:Rat} (h:RB WW v q):dE v=q:=by
 have h1:=G8 h
 unfold dE
 rw [h.2.1.2.2,h.2.2.2.2]
 exact h1
def qm (K:Nat) (v:aI):Prop:=∃ q,RB WW v q/\Sz WW K q
theorem qm.rb {K:Nat} {v:aI} (h:qm K v):RB WW v (dE v)/\Sz WW K (dE v):=by
 obtain ⟨q,h1,h2⟩:=h
 rw [oP h1]
 exact ⟨h1,h2⟩
theorem qm.mono {K L:Nat} {v:aI} (h:qm K v) (hk:K<=L):qm L v:=by
 obtain ⟨q,h1,h2⟩:=h
 exact ⟨q,h1,eN aE h2 hk⟩
noncomputable def nc (t:aw):Tm:=(t.1,dE t.2.1)
noncomputable def ef (l:List aw):List Tm:=l.map nc
def mT (n K:Nat) (t:aw):Prop:=t.1.length=n/\(∀ e∈t.1,0<=e/\e<256)/\qm K t.2.1
def Gj:List (ByteArray×Int)->ByteArray->Option Int
 | [],_=>none
 | x :: l,k=>match k.data.toList==x.1.data.toList with
  | true=>some x.2
  | false=>Gj l k
theorem En:∀ (l:List (ByteArray×Int)) (k:ByteArray),(V.j8 l k).map (·.2)=Gj l k
 | [],k=>rfl
 | x :: l,k=>by
  have ih:=En l k
  rw [V.j8,Gj]
  cases k.data.toList==x.1.data.toList with
  | true=>rfl
  | false =>
   dsimp only
   rw [Option.map_map,<- ih]
   rfl
theorem Eo (l:List (ByteArray×Int)) (k:ByteArray):oe l k=match Gj l k with
 | some n=>(n,true,())
 | none=>(0,false,()):=by
 rw [<- En,oe]
 cases V.j8 l k<;>rfl
theorem Em (k:ByteArray) (n:Int) (k':ByteArray):∀ l:List (ByteArray×Int),Gj (V.j7 l k n) k'=if k'.data.toList=k.data.toList then some n else Gj l k'
 | []=>by
  show (match k'.data.toList==k.data.toList with
   | true=>some n
   | false=>none)=if k'.data.toList=k.data.toList then some n else none
  by_cases c:k'.data.toList=k.data.toList
  ·rw [if_pos c,beq_iff_eq.2 c]
  rw [if_neg c,beq_eq_false_iff_ne.2 c]
 | x :: l=>by
  have ih:=Em k n k' l
  rw [V.j7]
  by_cases d:k.data.toList=x.1.data.toList
  ·rw [beq_iff_eq.2 d]
   dsimp only
   rw [Gj,Gj]
   by_cases c:k'.data.toList=k.data.toList
   ·rw [if_pos c,beq_iff_eq.2 c]
   rw [if_neg c,beq_eq_false_iff_ne.2 c,beq_eq_false_iff_ne.2 (fun e=>c (e.trans d.symm))]
  rw [beq_eq_false_iff_ne.2 d]
  dsimp only
  rw [Gj,Gj,ih]
  by_cases c:k'.data.toList=x.1.data.toList
  ·have hk:¬ k'.data.toList=k.data.toList:=fun e=>d (e.symm.trans c)
   rw [beq_iff_eq.2 c]
   dsimp only
   rw [if_neg hk]
  rw [beq_eq_false_iff_ne.2 c]
noncomputable abbrev FO (e:List Int):ByteArray:=strOfNums (tR e)
def pE (n:Nat) (mp:List (ByteArray×Int)) (l:List aw):Prop:=∀ e:List Int,e.length=n->(∀ x∈e,0<=x/\x<256)->(∀ j (h:j<l.length),l[j].1=e->Gj mp (FO e)=some (j:Int))/\((∀ j (h:j<l.length),l[j].1≠e)->Gj mp (FO e)=none)
theorem pE.nil (n:Nat):pE n [] []:=fun e _ _=>⟨fun j h=>by simp at h,fun _=>rfl⟩
theorem pE.add {n:Nat} {mp:List (ByteArray×Int)} {l:List aw} (h:pE n mp l) {t:aw} (h1:t.1.length=n) (h2:∀ x∈t.1,0<=x/\x<256) (hne:∀ j (h:j<l.length),l[j].1≠t.1):pE n (V.j7 mp (FO t.1) (l.length:Int)) (l++[t]):=by
 intro e g1 g2
 rw [Em]
 obtain ⟨a1,a2⟩:=h e g1 g2
 by_cases c:e=t.1
 ·subst c
  rw [if_pos rfl]
  refine ⟨fun j hj hje=>?_,fun hn=>absurd Kz (hn l.length Kz)⟩
  by_cases d:j<l.length
  ·rw [List.getElem_append_left d] at hje
   exact absurd hje (hne j d)
  have:j=l.length:=by simp at hj;omega
  rw [this]
 rw [if_neg (fun he=>c (key_inj (g1.trans h1.symm) g2 h2 he))]
 refine ⟨fun j hj hje=>?_,fun hn=>a2 (fun j hj=>?_)⟩
 ·by_cases d:j<l.length
  ·rw [List.getElem_append_left d] at hje
   exact a1 j d hje
  have:j=l.length:=by simp at hj;omega
  subst this
  rw [List.getElem_append_right (Nat.le_refl _)] at hje
  simp at hje
  exact absurd hje.symm c
 have:=hn j (by simp;omega)
 rwa [List.getElem_append_left hj] at this
theorem pE.set {n:Nat} {mp:List (ByteArray×Int)} {l:List aw} (h:pE n mp l) (i:Nat) (t:aw) (ht:∀ (hi:i<l.length),t.1=l[i].1):pE n mp (l.set i t):=by
 have e:∀ j (h1:j<(l.set i t).length),(l.set i t)[j].1=(l[j]'(by simpa using h1)).1:=fun j h1=>by
  rw [List.getElem_set]
  by_cases c:i=j
  ·subst c;rw [if_pos rfl];exact ht (by simpa using h1)
  rw [if_neg c]
 intro x g1 g2
 obtain ⟨a1,a2⟩:=h x g1 g2
 exact ⟨fun j hj hje=>a1 j (by simpa using hj) (by rw [<- e j hj];exact hje),fun hn=>a2 (fun j hj=>by rw [<- e j (by simpa using hj)];exact hn j (by simpa using hj))⟩
abbrev NeL (l:List aw):Prop:=l.Pairwise fun a b=>a.1≠b.1
noncomputable def qn (t:aw):Bool:=dc (dE t.2.1≠0)
theorem ye {q:Rat}:(Gh q != (0:Int))=dc (q≠0):=by
 refine BD ?_
 rw [bne,GU]
 simp
theorem dR (t:aw) (l:List aw):ef (t :: l)=nc t :: ef l:=rfl
theorem l9 (a b:List aw):ef (a++b)=ef a++ef b:=List.map_append
theorem Eu (m:Ex->Rat):∀ (l:List Tm) (i:Nat) (h:i<l.length) (t:Tm),t.1=l[i].1->fA m (l.set i t)=fA m l+(t.2-l[i].2)*m t.1
 | [],i,h,_,_=>by simp at h
 | u :: l,0,_,t,e=>by
  have e':t.1=u.1:=e
  show t.2*m t.1+fA m l=u.2*m u.1+fA m l+(t.2-u.2)*m t.1
  rw [e']
  grind
 | u :: l,i+1,h,t,e=>by
  have ih:=Eu m l i (by simpa using h) t e
  show u.2*m u.1+fA m (l.set i t)=u.2*m u.1+fA m l+(t.2-(l[i]'(by simpa using h)).2)*m t.1
  rw [ih]
  grind
section
variable {n K:Nat}
theorem BG {l:List aw} (hn:n<=8) (hl:l.length<=100000) (hok:∀ t∈l,mT n K t) (hne:NeL l) :
 Ev (fun k=>bf.l1 k k l (l.length:Int) (0:Int) ((0:Int),[],()) (n:Int) ([]:List aw)) ((n:Int),gQ (l.filter qn),()):=by
 have hfil:(l.filter qn).Pairwise fun a b=>b.1.length=a.1.length/\a.1≠b.1:=by
  refine (hne.sublist (List.filter_sublist)).imp_of_mem (fun {a b} ha hb h=>⟨?_,h⟩)
  rw [(hok a (List.mem_filter.1 ha).1).1,(hok b (List.mem_filter.1 hb).1).1]
 have hs:zP (l.filter qn)=some (gQ (l.filter qn)):=by
  unfold zP
  have h1:JJ (l.filter qn)=true:=ua.2 hfil
  have h2:Nat.ble (l.filter qn).length 1000000000=true:=Nat.ble_eq_true_of_le (by have:=List.length_filter_le qn l;omega)
  have h3:Nat.ble ((l.filter qn).headD (Ty.zero jJ)).1.length 1000000000=true:=by
   apply Nat.ble_eq_true_of_le
   cases hc:l.filter qn with
   | nil=>show ([]:List Int).length<=_;exact Nat.zero_le _
   | cons a r =>
    have:a∈l.filter qn:=by rw [hc];simp
    have:=(hok a (List.mem_filter.1 this).1).1
    show a.1.length<=_
    omega
  rw [h1,h2,h3]
 have main:=sM (n:=l.length) (P:=fun i=>aV (fun k m=>bf.l1 k m l (l.length:Int) (i:Int) ((0:Int),[],()) (n:Int) ((l.take i).filter qn)) ((n:Int),gQ (l.filter qn),())) ?_ ?_ 0 (Nat.zero_le _)
 ·exact main.diag
 ·rw [List.take_length]
  exact aV.step (fun k m=>bf.fv k m _ _ _ _ _ _) (aV.bF (decide_eq_false Ky) (aV.bind (jQ hs) (aV.of (aZ _))))
 intro i hi ih
 have e:(dM (t:=ah) l (i:Int):aw)=l[i]:=dF hi
 obtain ⟨o1,o2,o3⟩:=hok l[i] (List.getElem_mem hi)
 have hsg:=tE o3.rb.1
 have hlf:=List.length_filter_le qn (l.take i)
 rw [List.length_take] at hlf
 rw [List.take_succ_eq_append_getElem hi,List.filter_append] at ih
 refine aV.step (fun k m=>bf.fv k m _ _ _ _ _ _) (aV.bT (decide_eq_true Ky) (aV.iT Ky ?_))
 rw [e]
 refine aV.bind hsg ?_
 have next:∀ acc,aV (fun k m=>bf.l1 k m l (l.length:Int) ((i+1:Nat):Int) ((0:Int),[],()) (n:Int) acc) ((n:Int),gQ (l.filter qn),())->aV (fun k m=>bf.j1 k m l (l.length:Int) (i:Int) ((0:Int),[],()) (n:Int) acc) ((n:Int),gQ (l.filter qn),()):=fun acc h=>by
  show aV (fun k m=>bf.l1 k m l (l.length:Int) (wrap64 ((i:Int)+(1:Int))) ((0:Int),[],()) (n:Int) acc) _
  rw [iX Ky]
  exact h
 cases hz:qn l[i] with
 | true =>
  rw [show [l[i]].filter qn=[l[i]] by simp [hz]] at ih
  refine aV.bT (by rw [ye];exact hz) (aV.iT (by simp only [List.length_cons,List.length_nil];omega) (next _ ih))
 | false =>
  rw [show [l[i]].filter qn=[] by simp [hz],List.append_nil] at ih
  exact aV.bF (by rw [ye];exact hz) (next _ ih)
theorem BF {l:List aw} (hn:n<=8) (hl:l.length<=100000) (hK:(l.length+1)*(K+1)<=200000000) (hok:∀ t∈l,mT n K t) :
 ∃ sl:List aw,sl.length<=l.length/\(∀ t∈sl,mT n (l.length*(K+1)) t)/\NeL sl/\(∀ m,fA m (ef sl)=fA m (ef l)) /\
  ∀ R,Ev (fun k=>bf.l1 k k sl (sl.length:Int) (0:Int) ((0:Int),[],()) (n:Int) ([]:List aw)) R->Ev (fun k=>bf k (n:Int) l) R:=by
 have main:=sM (n:=l.length) (P:=fun i=>∀ mp (sl:List aw),pE n mp sl->(∀ t∈sl,mT n (i*(K+1)) t)->NeL sl->sl.length<=i->(∀ m,fA m (ef sl)=fA m (ef (l.take i))) ->
  ∃ sl':List aw,sl'.length<=l.length/\(∀ t∈sl',mT n (l.length*(K+1)) t)/\NeL sl'/\(∀ m,fA m (ef sl')=fA m (ef l)) /\
   ∀ R,Ev (fun k=>bf.l1 k k sl' (sl'.length:Int) (0:Int) ((0:Int),[],()) (n:Int) ([]:List aw)) R->aV (fun k m=>bf.l0 k m (n:Int) mp l (l.length:Int) (i:Int) ((0:Int),[],()) sl) R) ?_ ?_ 0 (Nat.zero_le _) [] [] (pE.nil n) (fun t h=>by cases h) .nil (Nat.zero_le _) (fun m=>rfl)
 ·obtain ⟨sl,h1,h2,h3,h4,h5⟩:=main
  exact ⟨sl,h1,h2,h3,h4,fun R hR=>Ev.step (fun k=>uT k _ _) (h5 R hR).diag⟩
 ·intro mp sl h1 h2 h3 h4 h5
  rw [List.take_length] at h5
  exact ⟨sl,h4,h2,h3,h5,fun R hR=>aV.step (fun k m=>bf.ba k m _ _ _ _ _ _ _) (aV.bF (decide_eq_false Ky) (aV.of hR))⟩
 intro i hi ih mp sl h1 h2 h3 h4 h5
 have e:(dM (t:=ah) l (i:Int):aw)=l[i]:=dF hi
 obtain ⟨o1,o2,o3⟩:=hok l[i] (List.getElem_mem hi)
 have hkey:=CP l[i].1 Ky
 have htk:∀ m,fA m (ef (l.take (i+1)))=fA m (ef (l.take i))+dE l[i].2.1*m l[i].1:=fun m=>by
  rw [List.take_succ_eq_append_getElem hi,l9,G.jl]
  show _+(dE l[i].2.1*m l[i].1+0)=_
  grind
 have hKi:(i+1)*(K+1)=i*(K+1)+(K+1):=Nat.succ_mul _ _
 have big:(i+1)*(K+1)<=200000000:=Nat.le_trans (Nat.mul_le_mul_right _ Ky) hK
 have next:∀ mp' sl' R,aV (fun k m=>bf.l0 k m (n:Int) mp' l (l.length:Int) ((i+1:Nat):Int) ((0:Int),[],()) sl') R->aV (fun k m=>bf.j0 k m (n:Int) mp' l (l.length:Int) (i:Int) ((0:Int),[],()) sl') R:=fun mp' sl' R h=>by
  show aV (fun k m=>bf.l0 k m (n:Int) mp' l (l.length:Int) (wrap64 ((i:Int)+(1:Int))) ((0:Int),[],()) sl') R
  rw [iX Ky]
  exact h
 obtain ⟨a1,a2⟩:=h1 l[i].1 o1 o2
 by_cases c:∃ j,∃ h:j<sl.length,sl[j].1=l[i].1
 ·obtain ⟨j,hj,hje⟩:=c
  have hm:oe mp (FO l[i].1)=((j:Int),true,()):=by rw [Eo,a1 j hj hje]
  obtain ⟨p1,p2,p3⟩:=h2 sl[j] (List.getElem_mem hj)
  obtain ⟨v,v1,v2,v3⟩:=pR p3.rb.1 o3.rb.1 p3.rb.2 o3.rb.2 Ky
  have ej:(dM (t:=ah) sl (j:Int):aw)=sl[j]:=dF hj
  have hv:dE v=dE sl[j].2.1+dE l[i].2.1:=oP v2
  have q1:∀ t∈sl.set j (sl[j].1,v,sl[j].2.2),mT n ((i+1)*(K+1)) t:=fun t ht=>by
   rcases List.mem_or_eq_of_mem_set ht with ht | rfl
   ·obtain ⟨b1,b2,b3⟩:=h2 t ht
    exact ⟨b1,b2,b3.mono Ky⟩
   exact ⟨p1,p2,⟨_,v2,eN aE v3 Ky⟩⟩
  have q2:NeL (sl.set j (sl[j].1,v,sl[j].2.2)):=by
   rw [NeL,List.pairwise_iff_getElem]
   intro x y hx hy hxy
   have hp:=List.pairwise_iff_getElem.1 h3
   have es:∀ z (hz:z<(sl.set j (sl[j].1,v,sl[j].2.2)).length),(sl.set j (sl[j].1,v,sl[j].2.2))[z].1=(sl[z]'(by simpa using hz)).1:=fun z hz=>by
    rw [List.getElem_set]
    by_cases d:j=z
    ·subst d;rw [if_pos rfl]
    rw [if_neg d]
   rw [es x hx,es y hy]
   exact hp x y (by simpa using hx) (by simpa using hy) hxy
  have q3:∀ m,fA m (ef (sl.set j (sl[j].1,v,sl[j].2.2)))=fA m (ef (l.take (i+1))):=fun m=>by
   have hset:ef (sl.set j (sl[j].1,v,sl[j].2.2))=(ef sl).set j (sl[j].1,dE v):=by
    simp only [ef,List.map_set]
    rfl
   have hjl:j<(ef sl).length:=by simpa [ef] using hj
   have hat:(ef sl)[j]=nc sl[j]:=by simp [ef]
   rw [hset,Eu m (ef sl) j hjl _ (by rw [hat];rfl),hat,h5,htk]
   show _+(dE v-dE sl[j].2.1)*m sl[j].1=_
   rw [hv,hje]
   grind
  obtain ⟨sl',g1,g2,g3,g4,g5⟩:=ih mp (sl.set j (sl[j].1,v,sl[j].2.2)) (h1.set j _ (fun _=>rfl)) q1 q2 (by rw [List.length_set];omega) q3
  refine ⟨sl',g1,g2,g3,g4,fun R hR=>?_⟩
  refine aV.step (fun k m=>bf.ba k m _ _ _ _ _ _ _) (aV.bT (decide_eq_true Ky) (aV.iT Ky ?_))
  rw [e]
  refine aV.bind hkey ?_
  rw [hm]
  refine aV.bF rfl (aV.iT Ky ?_)
  rw [ej]
  refine aV.bind v1 (aV.iT Ky (next _ _ _ ?_))
  rw [Int.toNat_natCast]
  exact g5 R hR
 have hno:∀ j (h:j<sl.length),sl[j].1≠l[i].1:=fun j h he=>c ⟨j,h,he⟩
 have hm:oe mp (FO l[i].1)=(0,false,()):=by rw [Eo,a2 hno]
 have q1:∀ t∈sl++[l[i]],mT n ((i+1)*(K+1)) t:=fun t ht=>by
  rw [List.mem_append,List.mem_singleton] at ht
  rcases ht with ht | rfl
  ·obtain ⟨b1,b2,b3⟩:=h2 t ht
   exact ⟨b1,b2,b3.mono Ky⟩
  exact ⟨o1,o2,o3.mono Ky⟩
 have q2:NeL (sl++[l[i]]):=by
  refine List.pairwise_append.2 ⟨h3,Kz,fun a ha b hb=>?_⟩
  rw [List.mem_singleton] at hb
  subst hb
  obtain ⟨j,hj,rfl⟩:=List.getElem_of_mem ha
  exact hno j hj
 have q3:∀ m,fA m (ef (sl++[l[i]]))=fA m (ef (l.take (i+1))):=fun m=>by
  rw [l9,G.jl,h5,htk]
  show _+(dE l[i].2.1*m l[i].1+0)=_
  grind
 obtain ⟨sl',g1,g2,g3,g4,g5⟩:=ih (V.j7 mp (FO l[i].1) (sl.length:Int)) (sl++[l[i]]) (h1.add o1 o2 hno) q1 q2 (by simp;omega) q3
 refine ⟨sl',g1,g2,g3,g4,fun R hR=>?_⟩
 refine aV.step (fun k m=>bf.ba k m _ _ _ _ _ _ _) (aV.bT (decide_eq_true Ky) (aV.iT Ky ?_))
 rw [e]
 refine aV.bind hkey ?_
 rw [hm]
 exact aV.bT rfl (aV.iT (by simp only [List.length_cons,List.length_nil];omega) (next _ _ _ (g5 R hR)))
theorem vn (m:Ex->Rat):∀ l:List aw,fA m (ef (l.filter qn))=fA m (ef l)
 | []=>rfl
 | t :: l=>by
  have ih:=vn m l
  cases h:qn t with
  | true =>
   rw [List.filter_cons_of_pos h,dR,dR]
   show _*_+_=_*_+_
   rw [ih]
  | false =>
   rw [List.filter_cons_of_neg (by simp [h]),dR,ih]
   have hz:dE t.2.1=0:=by
    apply Classical.byContradiction
    intro hne
    rw [qn,fw hne] at h
    cases h
   show _=dE t.2.1*m t.1+_
   rw [hz]
   grind
theorem uS {l:List aw} (hn:n<=8) (hl:l.length<=100000) (hK:(l.length+1)*(K+1)<=200000000) (hok:∀ t∈l,mT n K t) :
 ∃ ls:List aw,Ev (fun k=>bf k (n:Int) l) ((n:Int),ls,())/\ls.length<=l.length/\(∀ t∈ls,mT n (l.length*(K+1)) t)/\pD n (ef ls)/\o9 (ef ls) (ef l):=by
 obtain ⟨sl,h1,h2,h3,h4,h5⟩:=BF hn hl hK hok
 have hend:=BG hn Ky h2 h3
 have hp:=ke (sl.filter qn)
 have hfl:=List.length_filter_le qn sl
 have hmem:∀ t∈gQ (sl.filter qn),t∈sl/\qn t=true:=fun t ht=>List.mem_filter.1 (hp.mem_iff.1 ht)
 have hlen:∀ t∈sl.filter qn,t.1.length=n:=fun t ht=>(h2 t (List.mem_filter.1 ht).1).1
 refine ⟨gQ (sl.filter qn),h5 _ hend,by rw [hp.length_eq];omega,fun t ht=>h2 t (hmem t ht).1,⟨?_,fun t ht=>?_,fun t ht=>?_⟩,fun m=>?_⟩
 ·have hf:=pK n (sl.filter qn) hlen (h3.sublist List.filter_sublist)
  rw [ef,List.pairwise_map]
  refine hf.imp_of_mem (fun {a b} ha hb h=>?_)
  exact (H8 ((h2 a (hmem a ha).1).1.trans (h2 b (hmem b hb).1).1.symm)).1 h
 ·obtain ⟨u,hu,rfl⟩:=List.mem_map.1 ht
  exact dc_iff.1 (hmem u hu).2
 ·obtain ⟨u,hu,rfl⟩:=List.mem_map.1 ht
  exact (h2 u (hmem u hu).1).1
 have h6:fA m (ef (gQ (sl.filter qn)))=fA m (ef (sl.filter qn)):=G.HP m (hp.map nc)
 rw [h6,vn,h4]
end
def EH (n:Nat) (a b:List Int) (j:Nat):List Int:=(List.range n).map fun i=>if i<j then a.getD i 0+b.getD i 0 else 0
theorem Ih (n:Nat) (a b:List Int):EH n a b 0=List.replicate n 0:=by
 apply List.ext_getElem (by simp [EH])
 intro i h1 h2
 simp [EH]
theorem J7 {n:Nat} {a b:List Int} {j:Nat} (h:j<n):(EH n a b j).set j (a.getD j 0+b.getD j 0)=EH n a b (j+1):=by
 apply List.ext_getElem (by simp [EH])
 intro i h1 h2
 simp only [EH,List.getElem_set,List.getElem_map,List.getElem_range]
 by_cases c:j=i
 ·subst c;rw [if_pos rfl,if_pos Ky]
 rw [if_neg c]
 by_cases d:i<j
 ·rw [if_pos d,if_pos Ky]
 rw [if_neg d,if_neg Ky]
theorem Ii {n:Nat} {a b:List Int} (ha:a.length=n) (hb:b.length=n):EH n a b n=G.gP a b:=by
 apply List.ext_getElem (by simp [EH,G.gP,ha,hb])
 intro i h1 h2
 have hi:i<n:=by simpa [EH] using h1
 simp only [EH,List.getElem_map,List.getElem_range,G.gP,List.getElem_zipWith,if_pos hi]
 rw [List.getD_eq_getElem?_getD,List.getD_eq_getElem?_getD,List.getElem?_eq_getElem Ky,List.getElem?_eq_getElem Ky]
 rfl
section
variable {n K L:Nat}
theorem yv {l:List aw} {t:aw} (hn:n<=8) (hl:l.length<=100000) (hKL:K+L<1000000) (hok:∀ u∈l,mT n K u) (ht:mT n L t) (hb:∀ u∈l,∀ e∈G.gP u.1 t.1,0<=e/\e<256) :
 ∃ ls:List aw,Ev (fun k=>cB k ((n:Int),l,()) t) ((n:Int),ls,())/\ls.length=l.length/\(∀ u∈ls,mT n (K+L) u)/\ef ls=G.Gi (ef l) (nc t):=by
 obtain ⟨t1,t2,t3⟩:=ht
 have main:=sM (n:=l.length) (P:=fun i=>∀ acc:List aw,acc.length=i->∃ ls:List aw,ls.length=l.length-i/\(∀ u∈ls,mT n (K+L) u)/\ef ls=G.Gi (ef (l.drop i)) (nc t)/\aV (fun k m=>cB.l0 k m l (l.length:Int) (i:Int) ((n:Int),l,()) t ((0:Int),[],()) (n:Int) acc) ((n:Int),acc++ls,())) ?_ ?_ 0 (Nat.zero_le _) [] rfl
 ·obtain ⟨ls,h1,h2,h3,h4⟩:=main
  exact ⟨ls,Ev.step (fun k=>yw k _ _) h4.diag,Ky,h2,h3⟩
 ·intro acc hacc
  exact ⟨[],Kz,(fun u h=>by cases h),by rw [List.drop_length];rfl,aV.step (fun k m=>cB.ba k m _ _ _ _ _ _ _ _) (aV.bF (decide_eq_false Ky) (by rw [List.append_nil];exact aV.of (aZ _)))⟩
 intro i hi ih acc hacc
 have e:(dM (t:=ah) l (i:Int):aw)=l[i]:=dF hi
 obtain ⟨o1,o2,o3⟩:=hok l[i] (List.getElem_mem hi)
 have hbi:=hb l[i] (List.getElem_mem hi)
 obtain ⟨v,v1,v2,v3⟩:=kn o3.rb.1 t3.rb.1 o3.rb.2 t3.rb.2 Ky
 obtain ⟨ls,h1,h2,h3,h4⟩:=ih (acc++[(G.gP l[i].1 t.1,v,())]) (by simp [hacc])
 refine ⟨(G.gP l[i].1 t.1,v,()) :: ls,by simp only [List.length_cons];omega,fun u hu=>?_,?_,?_⟩
 ·rcases List.mem_cons.1 hu with rfl | hu
  ·exact ⟨by rw [G.BR (o1.trans t1.symm)];exact o1,hbi,⟨_,v2,v3⟩⟩
  exact h2 u hu
 ·rw [fh hi,dR,dR,h3]
  show _ :: _=(G.gP l[i].1 t.1,dE l[i].2.1*dE t.2.1) :: _
  rw [nc,oP v2]
  rfl
 rw [show acc++(G.gP l[i].1 t.1,v,()) :: ls=(acc++[(G.gP l[i].1 t.1,v,())])++ls by simp]
 refine aV.step (fun k m=>cB.ba k m _ _ _ _ _ _ _ _) (aV.bT (decide_eq_true Ky) (aV.iT Ky (aV.iT (by show (0:Int)<=(n:Int)/\(n:Int)<=(n:Int)/\8*(n:Int).toNat<=281474976710656/\(n:Int).toNat<=maxLen;unfold maxLen;omega) ?_)))
 rw [e]
 show aV (fun k m0=>cB.l1 k k m0 l (l.length:Int) (i:Int) (List.length (List.replicate (Int.toNat (n:Int)) ((0:Int):Int)):Int) (0:Int) ((n:Int),l,()) t ((0:Int),[],()) (n:Int) acc l[i] (List.replicate (Int.toNat (n:Int)) ((0:Int):Int))) _
 rw [Int.toNat_natCast,List.length_replicate,<- Ih n l[i].1 t.1]
 have key:=sM (n:=n) (P:=fun j=>fB (fun k m1 m0=>cB.l1 k m1 m0 l (l.length:Int) (i:Int) (n:Int) (j:Int) ((n:Int),l,()) t ((0:Int),[],()) (n:Int) acc l[i] (EH n l[i].1 t.1 j)) ((n:Int),(acc++[(G.gP l[i].1 t.1,v,())])++ls,())) ?_ ?_ 0 (Nat.zero_le _)
 ·exact key.diag
 ·rw [Ii o1 t1]
  refine fB.step (fun k m1 m0=>cB.fv k m1 m0 _ _ _ _ _ _ _ _ _ _ _ _) (fB.bF (decide_eq_false Ky) (fB.bind v1 (fB.iT (by simp only [List.length_cons,List.length_nil];omega) (fB.of ?_))))
  rw [iX Ky]
  exact h4
 intro j hj ihj
 have hel:(EH n l[i].1 t.1 j).length=n:=by simp [EH]
 have e1:(dM (t:=(.int .i64)) l[i].1 (j:Int):Int)=l[i].1.getD j 0:=rfl
 have e2:(dM (t:=(.int .i64)) t.1 (j:Int):Int)=t.1.getD j 0:=rfl
 have hjl:j<l[i].1.length:=Ky
 have hjt:j<t.1.length:=Ky
 have a1:=o2 _ (List.getElem_mem hjl)
 have a2:=t2 _ (List.getElem_mem hjt)
 have g1:l[i].1.getD j 0=l[i].1[j]:=by rw [List.getD_eq_getElem?_getD,List.getElem?_eq_getElem hjl];rfl
 have g2:t.1.getD j 0=t.1[j]:=by rw [List.getD_eq_getElem?_getD,List.getElem?_eq_getElem hjt];rfl
 refine fB.step (fun k m1 m0=>cB.fv k m1 m0 _ _ _ _ _ _ _ _ _ _ _ _) (fB.bT (decide_eq_true Ky) (fB.iT Ky (fB.iT Ky (fB.iT Ky ?_))))
 rw [e1,e2,iX Ky,cn Ky Ky,Int.toNat_natCast,J7 hj]
 exact ihj
theorem CR {l l':List aw} (hn:n<=8) (hl:l.length<=60000) (hl':l'.length<=60000) (hll:l.length*l'.length<=60000) (hKL:K+L<3000) (hok:∀ u∈l,mT n K u) (hok':∀ u∈l',mT n L u) (hb:∀ u∈l',∀ t∈l,∀ e∈G.gP u.1 t.1,0<=e/\e<256) :
 ∃ ls:List aw,Ev (fun k=>fD k ((n:Int),l,()) ((n:Int),l',())) ((n:Int),ls,())/\ls.length<=l.length*l'.length/\(∀ t∈ls,mT n (l.length*l'.length*(L+K+1)) t)/\pD n (ef ls)/\o9 (ef ls) (G.prod (ef l) (ef l')):=by
 have hbig:∀ i,i<=l.length->i*l'.length<=60000:=fun i hi=>Nat.le_trans (Nat.mul_le_mul_right _ hi) hll
 have main:=sM (n:=l.length) (P:=fun i=>∀ acc:List aw,acc.length=i*l'.length->(∀ u∈acc,mT n (L+K) u)->ef acc=G.prod (ef (l.take i)) (ef l') ->
  ∃ ac:List aw,ac.length=l.length*l'.length/\(∀ u∈ac,mT n (L+K) u)/\ef ac=G.prod (ef l) (ef l')/\∀ R,Ev (fun k=>bf k (n:Int) ac) R->aV (fun k m=>fD.l0 k m l (l.length:Int) (i:Int) ((n:Int),l,()) ((n:Int),l',()) ((0:Int),[],()) acc) R) ?_ ?_ 0 (Nat.zero_le _) [] Kz (fun u h=>by cases h) rfl
 ·obtain ⟨ac,h1,h2,h3,h4⟩:=main
  obtain ⟨ls,g1,g2,g3,g4,g5⟩:=uS hn (by rw [h1];have:=hbig _ (Nat.le_refl _);omega) (by
   rw [h1]
   exact Nat.le_trans (Nat.mul_le_mul (show _<=60001 by have:=hbig _ (Nat.le_refl _);omega) (show L+K+1<=3000 by omega)) (by decide)) h2
  rw [h1] at g2 g3
  rw [h3] at g5
  exact ⟨ls,Ev.step (fun k=>CT k _ _) (h4 _ g1).diag,g2,g3,g4,g5⟩
 ·intro acc h1 h2 h3
  rw [List.take_length] at h3
  exact ⟨acc,h1,h2,h3,fun R hR=>aV.step (fun k m=>fD.ba k m _ _ _ _ _ _ _) (aV.bF (decide_eq_false Ky) (aV.bind hR (aV.of (aZ _))))⟩
 intro i hi ih acc h1 h2 h3
 have e:(dM (t:=ah) l (i:Int):aw)=l[i]:=dF hi
 obtain ⟨ls,s1,s2,s3,s4⟩:=yv (l:=l') (t:=l[i]) hn Ky Ky hok' (hok _ (List.getElem_mem hi)) (fun u hu=>hb u hu _ (List.getElem_mem hi))
 have hsz:=hbig (i+1) Ky
 have hmul:(i+1)*l'.length=i*l'.length+l'.length:=Nat.succ_mul _ _
 obtain ⟨ac,a1,a2,a3,a4⟩:=ih (acc++ls) (by rw [List.length_append,h1,s2,hmul]) (fun u hu=>by
  rcases List.mem_append.1 hu with hu | hu
  ·exact h2 u hu
  ·exact s3 u hu) (by
  rw [l9,h3,s4,List.take_succ_eq_append_getElem hi,l9]
  simp only [G.prod,List.flatMap_append]
  show _=_++(G.Gi (ef l') (nc l[i])++[])
  rw [List.append_nil])
 refine ⟨ac,a1,a2,a3,fun R hR=>?_⟩
 refine aV.step (fun k m=>fD.ba k m _ _ _ _ _ _ _) (aV.bT (decide_eq_true Ky) (aV.iT Ky ?_))
 rw [e]
 refine aV.bind s1 (aV.iT (by show (acc.length+ls.length)*80<=_;omega) (aV.bF (decide_eq_false (by show ¬ ((acc++ls).length:Int)>65536;rw [List.length_append];omega) ) ?_))
 show aV (fun k m=>fD.l0 k m l (l.length:Int) (wrap64 ((i:Int)+(1:Int))) ((n:Int),l,()) ((n:Int),l',()) ((0:Int),[],()) (acc++ls)) R
 rw [iX Ky]
 exact a4 R hR
end
noncomputable def fQ (v:aI):Rat:=Rat.divInt (sg v.1 (vl RR v.2.1)) (vl RR v.2.2.1)
theorem yp {v:aI} {q:Rat} (h:RB RR v q):fQ v=q:=by
 have h1:=G8 h
 unfold fQ
 rw [h.2.1.2.2,h.2.2.2.2]
 exact h1
def CoR (K:Nat) (v:aI):Prop:=∃ q,RB RR v q/\Sz RR K q
theorem CoR.rb {K:Nat} {v:aI} (h:CoR K v):RB RR v (fQ v)/\Sz RR K (fQ v):=by
 obtain ⟨q,h1,h2⟩:=h
 rw [yp h1]
 exact ⟨h1,h2⟩
noncomputable def tmR (n:Nat) (t:aw):Tm:=(t.1.take n,fQ t.2.1)
noncomputable def ka (n:Nat) (l:List aw):List Tm:=l.map (tmR n)
def I5 (n K:Nat) (t:aw):Prop:=t.1=gT (t.1.take n)/\(t.1.take n).length=n/\CoR K t.2.1
theorem I5.len {n K:Nat} {t:aw} (h:I5 n K t):t.1.length=8:=by rw [h.1];exact eG _ _ _
end Go.Proofs.YtfbgaddecbiimaaGreatDoor.Q
end
section
namespace Go.Proofs.YtfbgaddecbiimaaGreatDoor.G
def ma:Ex->Int
 | []=>0
 | a :: l=>a+ma l
theorem ux:∀ {a b:Ex},a.length=b.length->ma (gP a b)=ma a+ma b
 | [],[],_=>rfl
 | [],_ :: _,h=>by simp at h
 | _ :: _,[],h=>by simp at h
 | a :: l,b :: k,h=>by
  have ih:=ux (a:=l) (b:=k) (by simpa using h)
  simp only [gP] at ih
  simp only [gP,List.zipWith_cons_cons,ma,ih]
  omega
def rH:List Tm->Int
 | []=>-1
 | t :: l=>max (ma t.1) (rH l)
theorem It {d:Int}:∀ {p:List Tm},-1<=d->(∀ t∈p,ma t.1<=d)->rH p<=d
 | [],h,_=>h
 | t :: p,h,h'=>by
  have h1:=It (p:=p) h (fun u hu=>h' u (List.mem_cons_of_mem _ hu))
  have h2:=h' t (List.mem_cons_self ..)
  simp only [rH];omega
theorem HS:∀ {p:List Tm} {t:Tm},t∈p->ma t.1<=rH p
 | [],_,h=>by simp at h
 | u :: p,t,h=>by
  simp only [rH]
  rcases List.mem_cons.1 h with e | e
  ·rw [e];omega
  have:=HS e;omega
theorem vN:∀ (p:List Tm),-1<=rH p
 | []=>by simp [rH]
 | t :: p=>by have:=vN p;simp only [rH];omega
theorem co_ne {l:List Tm} {e:Ex} (h:co l e≠0):∃ t∈l,t.1=e:=by
 apply Classical.byContradiction
 intro c
 exact h (DF fun t ht e'=>c ⟨t,ht,e'⟩)
theorem ql.from {n:Nat} {p r:List Tm} (h:ql n p) (he:∀ e,co p e=co r e) {t:Tm} (ht:t∈p):∃ u∈r,u.1=t.1:=by
 apply co_ne
 rw [<- he,h.DG t ht]
 exact h.nz t ht
def Cz (D H:Int) (q:Rat):Prop:=∃ z:Int,q*(D:Rat)=(z:Rat)/\(z.natAbs:Int)<=H
theorem Cz.zero {D H:Int} (h:0<=H):Cz D H 0:=⟨0,Kz,by simpa using h⟩
theorem Cz.mono {D H H':Int} {q:Rat} (h:Cz D H q) (hh:H<=H'):Cz D H' q:=let ⟨z,h1,h2⟩:=h;⟨z,h1,Ky⟩
theorem Cz.add {D H H':Int} {a b:Rat} (h:Cz D H a) (h':Cz D H' b):Cz D (H+H') (a+b):=by
 obtain ⟨z,h1,h2⟩:=h
 obtain ⟨y,h3,h4⟩:=h'
 refine ⟨z+y,?_,Ky⟩
 rw [Rat.intCast_add,<- h1,<- h3];grind
theorem Cz.size {D H:Int} {q:Rat} (hD:0<D) (h:Cz D H q):(q.den:Int)<=D/\(q.num.natAbs:Int)<=H:=by
 obtain ⟨z,h1,h2⟩:=h
 have hq:q=Rat.divInt z D:=by
  rw [Rat.divInt_eq_div,<- h1]
  have:(D:Rat)≠0:=by
   intro h
   have:=Rat.intCast_inj.1 (h.trans Rat.intCast_zero.symm)
   omega
  rw [Rat.div_def,Rat.mul_assoc,Rat.mul_inv_cancel _ this];grind
 have hg:D.gcd z≠0:=by
  intro h
  have:=Int.gcd_eq_zero_iff.1 h
  omega
 constructor
 ·rw [hq,Rat.den_divInt,if_neg Ky]
  have:D.natAbs / D.gcd z<=D.natAbs:=Nat.div_le_self ..
  omega
 rw [hq,Rat.num_divInt,Int.sign_eq_one_of_pos hD,Int.one_mul]
 have:(z / (D.gcd z:Int)).natAbs<=z.natAbs:=by
  rw [Int.natAbs_ediv_of_dvd (Int.gcd_dvd_right ..)]
  exact Nat.div_le_self ..
 omega
def CL (D:Int):Int->List Tm->Prop
 | H,[]=>0<=H
 | H,t :: l=>∃ z:Int,t.2*(D:Rat)=(z:Rat)/\CL D (H-z.natAbs) l
theorem CL.mono {D:Int}:∀ {l:List Tm} {H H':Int},CL D H l->H<=H'->CL D H' l
 | [],H,H',h,hh=>Int.le_trans h hh
 | t :: l,H,H',⟨z,h1,h2⟩,hh=>⟨z,h1,h2.mono Ky⟩
theorem CL.pos {D:Int}:∀ {l:List Tm} {H:Int},CL D H l->0<=H
 | [],H,h=>h
 | t :: l,H,⟨z,h1,h2⟩=>by have:=h2.pos;omega
theorem CL.append {D:Int}:∀ {p q:List Tm} {H H':Int},CL D H p->CL D H' q->CL D (H+H') (p++q)
 | [],q,H,H',h,h'=>h'.mono (by have:0<=H:=h;omega)
 | t :: p,q,H,H',⟨z,h1,h2⟩,h'=>⟨z,h1,(h2.append h').mono Ky⟩
theorem CL.Gi {D D' H':Int} {t:Tm} (ht:Cz D' H' t.2):∀ {p:List Tm} {H:Int},CL D H p->CL (D*D') (H*H') (Gi p t)
 | [],H,h=>Int.mul_nonneg h (by obtain ⟨z,_,h2⟩:=ht;omega)
 | u :: p,H,⟨z,h1,h2⟩=>by
  have ih:=CL.Gi ht h2
  obtain ⟨y,h3,h4⟩:=ht
  refine ⟨z*y,?_,ih.mono ?_⟩
  ·show u.2*t.2*_=_
   rw [Rat.intCast_mul,Rat.intCast_mul,<- h1,<- h3];grind
  rw [Int.natAbs_mul,Int.natCast_mul,Int.sub_mul]
  have:(z.natAbs:Int)*y.natAbs<=z.natAbs*H':=Int.mul_le_mul_of_nonneg_left h4 Ky
  omega
theorem CL.prod {D D':Int} {q:List Tm}:∀ {p:List Tm} {H H':Int},CL D H p->CL D' H' q->CL (D*D') (H*H') (prod p q)
 | [],H,H',h,h'=>Int.mul_nonneg h h'.pos
 | t :: p,H,H',⟨z,h1,h2⟩,h'=>by
  have h3:Cz D (z.natAbs:Int) t.2:=⟨z,h1,Int.le_refl _⟩
  have h4:=CL.Gi h3 h'
  rw [Int.mul_comm D' D] at h4
  have h5:=h4.append (CL.prod h2 h')
  exact h5.mono (by rw [Int.sub_mul,Int.mul_comm H'];omega)
theorem CL.co {D:Int} (e:Ex):∀ {p:List Tm} {H:Int},CL D H p->Cz D H (co p e)
 | [],H,h=>by rw [co_nil];exact Cz.zero h
 | t :: p,H,⟨z,h1,h2⟩=>by
  have ih:=CL.co e h2
  rw [y6]
  split
  ·exact (Cz.add ⟨z,h1,Int.le_refl _⟩ ih).mono Ky
  refine (Cz.add (Cz.zero (H:=0) (Int.le_refl _)) ih).mono ?_
  omega
end Go.Proofs.YtfbgaddecbiimaaGreatDoor.G
end
section
namespace Go.Proofs.YtfbgaddecbiimaaGreatDoor.Q
open Go.RowKit Go.Proofs.YtfbgaddecbiimaaGreatDoorW.PrintWords Go.Proofs.YtfbgaddecbiimaaGreatDoorW.PrintMore Go.Proofs.YtfbgaddecbiimaaGreatDoor.V Go.Proofs.YtfbgaddecbiimaaGreatDoor.E
open Go.Proofs.YtfbgaddecbiimaaGreatDoor.P (Dg Nm vl WW RR bH gI aZ jQ kB dA aE bE aX cM cn u64)
open Go.Proofs.YtfbgaddecbiimaaGreatDoor.G (Ex Tm fA co o9 pD ql)
theorem CN {x:List Int} (h:x.length<=8) (hb:∀ e∈x,0<=e/\e<=256):Ev (fun k=>fC k x) (sE x):=by
 have main:=sM (n:=x.length) (P:=fun i=>aV (fun k m=>fC.l0 k m (sE (x.take i)) x (x.length:Int) (i:Int)) (sE x)) ?_ ?_ 0 (Nat.zero_le _)
 ·exact Ev.step (fun k=>CO k _) main.diag
 ·rw [List.take_length]
  exact aV.step (fun k m=>fC.ba k m _ _ _ _) (aV.bF (decide_eq_false Ky) (aV.of (aZ _)))
 intro i hi ih
 have e:(dM (t:=(.int .i64)) x (i:Int):Int)=x[i]:=dF hi
 have b1:=qz (B:=256) Ky (l:=x.take i) (fun y hy=>hb y (List.mem_of_mem_take hy))
 have b2:=hb x[i] (List.getElem_mem hi)
 have b3:(x.take i).length<=8:=by rw [List.length_take];omega
 refine aV.step (fun k m=>fC.ba k m _ _ _ _) (aV.bT (decide_eq_true Ky) (aV.iT Ky ?_))
 rw [e,iX Ky,cn Ky Ky,<- mf hi]
 exact ih
def dgM (l:List aw) (a:Int):Int:=l.foldl (fun a t=>mx a (sE t.1)) a
theorem pz {n K:Nat} {l:List aw} (hn:n<=8) (hl:l.length<=100000) (hok:∀ u∈l,mT n K u):Ev (fun k=>dT k ((n:Int),l,())) (dgM l (-1)):=by
 have main:=sM (n:=l.length) (P:=fun i=>∀ a,aV (fun k m=>dT.l0 k m a l (l.length:Int) (i:Int)) (dgM (l.drop i) a)) ?_ ?_ 0 (Nat.zero_le _) (-1)
 ·exact Ev.step (fun k=>wz k _) main.diag
 ·intro a
  rw [List.drop_length]
  exact aV.step (fun k m=>dT.ba k m _ _ _ _) (aV.bF (decide_eq_false Ky) (aV.of (aZ _)))
 intro i hi ih a
 have e:(dM (t:=ah) l (i:Int):aw)=l[i]:=dF hi
 obtain ⟨o1,o2,o3⟩:=hok l[i] (List.getElem_mem hi)
 have hs:=CN (x:=l[i].1) Ky (fun y hy=>by have:=o2 y hy;omega)
 refine aV.step (fun k m=>dT.ba k m _ _ _ _) (aV.bT (decide_eq_true Ky) (aV.iT Ky ?_))
 rw [e,fh hi]
 refine aV.bind hs ?_
 rw [iX Ky]
 exact ih _
theorem Aw {n K:Nat} {l:List aw} (hn:n<=8) (hl:l.length<=100000) (hK:K<1073741824) (hok:∀ u∈l,mT n K u):Ev (fun k=>gz k ((n:Int),l,())) ((n:Int),l,()):=by
 have main:=sM (n:=l.length) (P:=fun i=>aV (fun k m=>gz.l0 k m l (l.length:Int) (i:Int) ((n:Int),l,()) ((0:Int),[],()) (n:Int) (l.take i)) ((n:Int),l,())) ?_ ?_ 0 (Nat.zero_le _)
 ·exact Ev.step (fun k=>Ax k _) main.diag
 ·rw [List.take_length]
  exact aV.step (fun k m=>gz.ba k m _ _ _ _ _ _ _) (aV.bF (decide_eq_false Ky) (aV.of (aZ _)))
 intro i hi ih
 have e:(dM (t:=ah) l (i:Int):aw)=l[i]:=dF hi
 obtain ⟨o1,o2,o3⟩:=hok l[i] (List.getElem_mem hi)
 have hc:=AL o3.rb.1 o3.rb.2 hK
 have hz:(List.replicate (Int.toNat (0:Int)) ((0:Int):Int))=[]:=rfl
 refine aV.step (fun k m=>gz.ba k m _ _ _ _ _ _ _) (aV.bT (decide_eq_true Ky) (aV.iT Ky (aV.iT (by show (0:Int)<=0/\(0:Int)<=(n:Int)/\8*(n:Int).toNat<=281474976710656/\(n:Int).toNat<=maxLen;unfold maxLen;omega) ?_)))
 rw [e,hz]
 refine aV.iT (by simp only [List.length_nil];omega) (aV.bind hc (aV.iT (by simp only [List.length_cons,List.length_nil,List.length_take];omega) ?_))
 rw [iX Ky,List.nil_append]
 rw [show l.take i++[(l[i].1,l[i].2.1,())]=l.take (i+1) by rw [List.take_succ_eq_append_getElem hi]]
 exact ih
theorem zr {p:aR} (hv:fk p):∃ n:Nat,n<=8/\p.1=(n:Int)/\∀ u∈p.2.1,mT n 200 u:=by
 obtain ⟨h1,h2,h3,h4⟩:=hv
 refine ⟨p.1.toNat,Ky,Ky,fun u hu=>?_⟩
 obtain ⟨i,hi,rfl⟩:=List.getElem_of_mem hu
 have e:dz p i=p.2.1[i]:=dF hi
 have g:=(h4 i hi).1
 rw [e] at g
 exact ⟨by have:=g.len;omega,fun x hx=>by have:=g.ex x hx;omega,g.co⟩
theorem Ei {p:aR} {n:Nat} (ha:lB p) (hv:fk p) (hn:p.1=(n:Int)):∃ r:List aw,Ev (fun k=>bN k p) r/\r.length=p.2.1.length/\(∀ u∈r,I5 n 800 u)/\ka n r=ef p.2.1:=by
 obtain ⟨r,r1,r2,r3⟩:=D6 ha hv
 have hn8:n<=8:=by have:=hv.n8;omega
 have tl:∀ i,i<p.2.1.length->(dz p i).1.length=n:=fun i hi=>by have:=(hv.good i hi).1.len;omega
 refine ⟨r,r1,r2,fun u hu=>?_,?_⟩
 ·obtain ⟨i,hi,rfl⟩:=List.getElem_of_mem hu
  obtain ⟨a1,q,a2,a3,a4,a5⟩:=r3 i hi
  have hl:=tl i Ky
  have ht:r[i].1.take n=(dz p i).1:=by rw [a1,<- hl];exact uV Ky
  exact ⟨by rw [ht];exact a1,by rw [ht];exact hl,q,a3,a5⟩
 apply List.ext_getElem (by simp [ka,ef,r2])
 intro i h1 h2
 have hi:i<r.length:=by simpa [ka] using h1
 obtain ⟨a1,q,a2,a3,a4,a5⟩:=r3 i hi
 have hi':i<p.2.1.length:=Ky
 have hl:=tl i hi'
 have e:dz p i=p.2.1[i]:=dF hi'
 have ht:r[i].1.take n=(dz p i).1:=by rw [a1,<- hl];exact uV Ky
 simp only [ka,ef,List.getElem_map,tmR,nc]
 rw [ht,yp a3,<- e,oP a2]
theorem E6 {p:aR} {n:Nat} (hv:fk p) (hn:p.1=(n:Int)):(ef p.2.1).Pairwise fun a b=>G.kO a.1 b.1=true:=by
 have tl:∀ i,i<p.2.1.length->(dz p i).1.length=n:=fun i hi=>by have:=(hv.good i hi).1.len;omega
 have step:∀ d i,i+d+1<p.2.1.length->G.kO (dz p i).1 (dz p (i+d+1)).1=true:=by
  intro d
  induction d with
  | zero =>
   intro i hi
   have h:=(hv.good (i+1) hi).2 Ky
   exact (H8 ((tl i Ky).trans (tl (i+1) hi).symm)).1 h
  | succ d ih =>
   intro i hi
   have h:=(hv.good (i+d+2) hi).2 Ky
   exact G.oX (ih i Ky) ((H8 ((tl (i+d+1) Ky).trans (tl (i+d+2) hi).symm)).1 h)
 rw [List.pairwise_iff_getElem]
 intro i j hi hj hij
 have hi':i<p.2.1.length:=by simpa [ef] using hi
 have hj':j<p.2.1.length:=by simpa [ef] using hj
 have h:=step (j-i-1) i Ky
 rw [show i+(j-i-1)+1=j by omega,show dz p i=p.2.1[i] from dF hi',show dz p j=p.2.1[j] from dF hj'] at h
 simp only [ef,List.getElem_map,nc]
 exact h
theorem E5 {p:aR} {n:Nat} (hv:fk p) (hn:p.1=(n:Int)):pD n (ef p.2.1) where
 ord:=E6 hv hn
 nz:=fun t ht h0=>by
  obtain ⟨u,hu,rfl⟩:=List.mem_map.1 ht
  obtain ⟨i,hi,rfl⟩:=List.getElem_of_mem hu
  have g:=(hv.good i hi).1
  rw [show dz p i=p.2.1[i] from dF hi] at g
  have hc:qm 200 p.2.1[i].2.1:=g.co
  have hr:=hc.rb.1
  have h0':dE p.2.1[i].2.1=0:=h0
  rw [h0'] at hr
  have h1:=bH aE hr.2.1 (P.Can.zero WW)
  exact g.ne (by rw [h1];rfl)
 len:=fun t ht=>by
  obtain ⟨u,hu,rfl⟩:=List.mem_map.1 ht
  obtain ⟨i,hi,rfl⟩:=List.getElem_of_mem hu
  have g:=(hv.good i hi).1
  rw [show dz p i=p.2.1[i] from dF hi] at g
  have:=g.len
  show p.2.1[i].1.length=n
  omega
theorem Fc {n K:Nat} {l:List aw} (hn:n<=8) (hl:l.length<=4000) (hK:K<=200) (hok:∀ u∈l,mT n K u) (hs:pD n (ef l)) (hd:∀ u∈l,sE u.1<=40) (hx:∀ u∈l,∀ e∈u.1,e<=40):fk ((n:Int),l,()) where
 n0:=by show (0:Int)<=(n:Int);omega
 n8:=by show (n:Int)<=8;omega
 few:=hl
 good:=fun i hi=>by
  have hi':i<l.length:=hi
  have e:dz ((n:Int),l,()) i=l[i]:=dF hi'
  have hm:=List.getElem_mem hi'
  obtain ⟨o1,o2,o3⟩:=hok l[i] hm
  refine ⟨?_,fun h0=>?_⟩
  ·rw [e]
   refine ⟨by show (l[i].1.length:Int)=(n:Int);omega,fun x h=>⟨(o2 x h).1,hx l[i] hm x h⟩,hd l[i] hm,o3.mono hK,fun h=>?_⟩
   have hz:l[i].2.1.2.1=[]:=List.length_eq_zero_iff.1 h
   have hr:=o3.rb.1
   refine hs.nz (nc l[i]) (List.mem_map.2 ⟨_,hm,rfl⟩) ?_
   show dE l[i].2.1=0
   unfold dE
   rw [hz]
   simp [vl,sg]
  have hp:i-1<l.length:=Ky
  have e1:dz ((n:Int),l,()) (i-1)=l[i-1]:=dF hp
  rw [e,e1]
  have h:=List.pairwise_iff_getElem.1 hs.ord (i-1) i (by simpa [ef] using hp) (by simpa [ef] using hi') Ky
  simp only [ef,List.getElem_map,nc] at h
  exact (H8 ((hok _ (List.getElem_mem hp)).1.trans o1.symm)).2 h
abbrev p1 (n:Nat) (e:List Int) (d:aI):aR:=((n:Int),[(e,d,())],())
end Go.Proofs.YtfbgaddecbiimaaGreatDoor.Q
end
section
namespace Go.Proofs.YtfbgaddecbiimaaGreatDoor.G
def NN (p:List Tm):Prop:=∀ t∈p,∀ k∈t.1,(0:Int)<=k
def val (x:List Rat) (p:List Tm):Rat:=fA (mv x) p
theorem val_add (x:List Rat) (p q:List Tm):val x (p++q)=val x p+val x q:=jl _ _ _
theorem Gv {n:Nat} {x:List Rat} {p q:List Tm} (hp:Len n p) (hq:Len n q) (np:NN p) (nq:NN q):val x (prod p q)=val x p*val x q:=by
 unfold val
 rw [qY]
 have h1:fA (fun e=>fA (fun f=>mv x (gP f e)) q) p=fA (fun e=>fA (mv x) q*mv x e) p:=sC fun t ht=>.inr (by
  have h2:fA (fun f=>mv x (gP f t.1)) q=fA (fun f=>mv x t.1*mv x f) q:=sC fun u hu=>.inr (by
   rw [HJ ((hq u hu).trans (hp t ht).symm) (nq u hu) (np t ht)]
   exact Rat.mul_comm _ _)
  rw [h2,yK]
  exact Rat.mul_comm _ _)
 rw [h1,yK]
 exact Rat.mul_comm _ _
theorem u9:∀ {a b:Ex} {k:Int},(∀ k∈a,(0:Int)<=k)->(∀ k∈b,(0:Int)<=k)->k∈gP a b->0<=k
 | [],_,_,_,_,h=>by simp [gP] at h
 | _ :: _,[],_,_,_,h=>by simp [gP] at h
 | a :: l,b :: m,k,h1,h2,h=>by
  simp only [gP,List.zipWith_cons_cons,List.mem_cons] at h
  rcases h with e | e
  ·have:=h1 a (List.mem_cons_self ..)
   have:=h2 b (List.mem_cons_self ..)
   omega
  exact u9 (fun k hk=>h1 k (List.mem_cons_of_mem _ hk)) (fun k hk=>h2 k (List.mem_cons_of_mem _ hk)) e
theorem xV:∀ {a:Ex},(∀ k∈a,(0:Int)<=k)->0<=ma a
 | [],_=>Int.le_refl _
 | a :: l,h=>by
  have:=h a (List.mem_cons_self ..)
  have:=xV (a:=l) (fun k hk=>h k (List.mem_cons_of_mem _ hk))
  simp only [ma];omega
abbrev WB:Int:=4294967296
theorem Gn {a b:Nat} (h:a<=b):WB ^ a<=WB ^ b:=by
 rcases Nat.lt_or_ge a b with g | g
 ·exact Int.le_of_lt (Int.pow_lt_pow_of_lt (by decide) g)
 rw [Nat.le_antisymm h g];exact Int.le_refl _
theorem xM (a:Nat):0<WB ^ a:=Int.pow_pos (by decide)
theorem uj {a b:Nat} {x y:Int} (hx:x<=WB ^ a) (hy:y<=WB ^ b) (h0:0<=y):x*y<=WB ^ (a+b):=by
 rw [Int.pow_add]
 exact Int.mul_le_mul hx hy h0 (Int.le_of_lt (xM a))
theorem wb_two (a:Nat):WB ^ a+WB ^ a<=WB ^ (a+1):=by
 have:=xM a
 rw [Int.pow_succ]
 show _<=WB ^ a*4294967296
 omega
def CB (k:Nat) (l:List Tm):Prop:=∃ D H:Int,0<D/\D<=WB ^ k/\H<=WB ^ k/\CL D H l
theorem CB.mono {k j:Nat} {l:List Tm} (h:CB k l) (hj:k<=j):CB j l:=by
 obtain ⟨D,H,h0,h1,h2,h3⟩:=h
 exact ⟨D,H,h0,Int.le_trans h1 (Gn hj),Int.le_trans h2 (Gn hj),h3⟩
theorem CB.nil (k:Nat):CB k []:=⟨1,0,by decide,by have:=xM k;omega,Int.le_of_lt (xM k),by show (0:Int)<=0;decide⟩
theorem CL.mulD {D c:Int} (hc:0<c):∀ {l:List Tm} {H:Int},CL D H l->CL (D*c) (H*c) l
 | [],H,h=>Int.mul_nonneg h Ky
 | t :: l,H,⟨z,h1,h2⟩=>by
  refine ⟨z*c,?_,(CL.mulD hc h2).mono ?_⟩
  ·rw [Rat.intCast_mul,Rat.intCast_mul,<- h1];grind
  rw [Int.natAbs_mul,Int.natCast_mul,Int.sub_mul]
  have:(c.natAbs:Int)=c:=Ky
  rw [this];omega
theorem CB.append {a b:Nat} {p q:List Tm} (h:CB a p) (h':CB b q):CB (a+b+1) (p++q):=by
 obtain ⟨D,H,h0,h1,h2,h3⟩:=h
 obtain ⟨D',H',g0,g1,g2,g3⟩:=h'
 refine ⟨D*D',H*D'+H'*D,Int.mul_pos h0 g0,Int.le_trans (uj h1 g1 Ky) (Gn Ky),?_,?_⟩
 ·have a1:=uj h2 g1 Ky
  have a2:=uj g2 h1 Ky
  rw [Nat.add_comm b a] at a2
  have:=wb_two (a+b)
  omega
 have a1:=CL.mulD g0 h3
 have a2:=CL.mulD h0 g3
 rw [Int.mul_comm D' D] at a2
 exact a1.append a2
theorem CB.prod {a b:Nat} {p q:List Tm} (h:CB a p) (h':CB b q):CB (a+b) (prod p q):=by
 obtain ⟨D,H,h0,h1,h2,h3⟩:=h
 obtain ⟨D',H',g0,g1,g2,g3⟩:=h'
 exact ⟨D*D',H*H',Int.mul_pos h0 g0,uj h1 g1 Ky,uj h2 g2 g3.pos,h3.prod g3⟩
def Wd (k:Nat) (c:Rat):Prop:=(c.num.natAbs:Int)<=WB ^ k/\(c.den:Int)<=WB ^ k
theorem Wd.cz {k:Nat} {c:Rat} (h:Wd k c):Cz (c.den:Int) (WB ^ k) c:=by
 refine ⟨c.num,?_,h.1⟩
 have h0:((c.den:Int):Rat)≠0:=by
  intro e
  have:=Rat.intCast_inj.1 (e.trans Rat.intCast_zero.symm)
  have:=c.den_pos
  omega
 have h1:=Rat.num_divInt_den c
 rw [Rat.divInt_eq_div] at h1
 generalize ((c.den:Int):Rat)=d at *
 generalize hn:(c.num:Rat)=m at *
 rw [<- h1,Rat.div_mul_cancel h0]
theorem CB.single {k:Nat} {t:Tm} (h:Wd k t.2):CB k [t]:=by
 obtain ⟨z,h1,h2⟩:=h.cz
 exact ⟨t.2.den,WB ^ k,by have:=t.2.den_pos;omega,h.2,Int.le_refl _,z,h1,by show (0:Int)<=_;omega⟩
theorem CB.list {k:Nat}:∀ {l:List Tm},(∀ t∈l,Wd k t.2)->CB (l.length*(k+1)) l
 | [],_=>CB.nil _
 | t :: l,h=>by
  have h1:=CB.list (l:=l) fun u hu=>h u (List.mem_cons_of_mem _ hu)
  have h2:=(CB.single (h t (List.mem_cons_self ..))).append h1
  refine CB.mono h2 ?_
  rw [List.length_cons,Nat.succ_mul];omega
theorem CB.co {k:Nat} {l:List Tm} (h:CB k l) (e:Ex):Wd k (co l e):=by
 obtain ⟨D,H,h0,h1,h2,h3⟩:=h
 obtain ⟨a,b⟩:=(CL.co e h3).size h0
 exact ⟨Int.le_trans b h2,Int.le_trans a h1⟩
theorem ql.wd {n k:Nat} {p q:List Tm} (hp:ql n p) (he:∀ e,G.co p e=G.co q e) (h:CB k q) {t:Tm} (ht:t∈p):Wd k t.2:=by
 rw [<- hp.DG t ht,he]
 exact h.co _
def XB (E:Int) (q:List Tm):Prop:=∀ t∈q,(∀ x∈t.1,(0:Int)<=x)/\ma t.1<=E
theorem XB.mono {E F:Int} {q:List Tm} (h:XB E q) (hF:E<=F):XB F q:=fun t ht=>⟨(h t ht).1,Int.le_trans (h t ht).2 hF⟩
theorem XB.nn {E:Int} {q:List Tm} (h:XB E q):NN q:=fun t ht=>(h t ht).1
theorem XB.append {E:Int} {p q:List Tm} (h:XB E p) (h':XB E q):XB E (p++q):=fun t ht=>(List.mem_append.1 ht).elim (h t) (h' t)
theorem XB.prod {n:Nat} {E F:Int} {p q:List Tm} (lp:Len n p) (lq:Len n q) (h:XB E p) (h':XB F q):XB (E+F) (prod p q):=fun v hv=>by
 obtain ⟨t,ht,hv⟩:=List.mem_flatMap.1 hv
 obtain ⟨u,hu,rfl⟩:=List.mem_map.1 hv
 refine ⟨fun x hx=>u9 (h' u hu).1 (h t ht).1 hx,?_⟩
 show ma (gP u.1 t.1)<=_
 rw [ux ((lq u hu).trans (lp t ht).symm)]
 have:=(h t ht).2
 have:=(h' u hu).2
 omega
theorem XB.of {n:Nat} {E:Int} {p r:List Tm} (h:ql n p) (he:∀ e,co p e=co r e) (hr:XB E r):XB E p:=fun t ht=>by
 obtain ⟨u,hu,e⟩:=h.from he ht
 rw [<- e];exact hr u hu
theorem oV:∀ {a:Ex} {x:Int},(∀ y∈a,(0:Int)<=y)->x∈a->x<=ma a
 | b :: a,x,h,hx=>by
  have hb:=h b (List.mem_cons_self ..)
  have hs:=xV (a:=a) fun y hy=>h y (List.mem_cons_of_mem _ hy)
  simp only [ma]
  rcases List.mem_cons.1 hx with e | e
  ·omega
  have:=oV (fun y hy=>h y (List.mem_cons_of_mem _ hy)) e;omega
theorem EB {a:Ex} {i:Nat} (h:i<a.length):a.getD i 0=a[i]:=by simp [List.getD_eq_getElem?_getD,h]
end Go.Proofs.YtfbgaddecbiimaaGreatDoor.G
end
section
namespace Go.Proofs.YtfbgaddecbiimaaGreatDoor.Q
open Go.RowKit Go.Proofs.YtfbgaddecbiimaaGreatDoorW.PrintWords Go.Proofs.YtfbgaddecbiimaaGreatDoorW.PrintMore Go.Proofs.YtfbgaddecbiimaaGreatDoor.V Go.Proofs.YtfbgaddecbiimaaGreatDoor.E
open Go.Proofs.YtfbgaddecbiimaaGreatDoor.P (Dg Nm vl WW RR bH gI aZ jQ kB dA aE bE aX cM cn u64)
open Go.Proofs.YtfbgaddecbiimaaGreatDoor.G (Ex Tm fA co o9 pD ql CB XB Wd Len WB)
structure PT (n K M:Nat) (q:List Tm) (l:List aw):Prop where
 len:l.length<=M
 ok:∀ u∈l,mT n K u
 srt:pD n (ef l)
 eqv:o9 (ef l) q
structure RT (n K M:Nat) (q:List Tm) (r:List aw):Prop where
 len:r.length<=M
 ok:∀ u∈r,I5 n K u
 dst:ql n (ka n r)
 eqv:o9 (ka n r) q
theorem mT.mono {n K L:Nat} {t:aw} (h:mT n K t) (hk:K<=L):mT n L t:=⟨h.1,h.2.1,h.2.2.mono hk⟩
theorem qy:∀ a,sE a=G.ma a
 | []=>rfl
 | x :: a=>by rw [sE,G.ma,qy a]
theorem wd_sz {k:Nat} {c:Rat} (h:Wd k c):Sz WW (k+1) c:=by
 have:WB ^ k<WW ^ (k+1):=Int.pow_lt_pow_of_lt (by decide) Ky
 exact ⟨Int.lt_of_le_of_lt h.1 this,Int.lt_of_le_of_lt h.2 this⟩
theorem sz_wd {k:Nat} {c:Rat} (h:Sz WW k c):Wd k c:=⟨Int.le_of_lt h.1,Int.le_of_lt h.2⟩
theorem wb_rr:∀ k:Nat,WB ^ k<=RR ^ (3*k)
 | 0=>by decide
 | k+1=>by
  have h:=wb_rr k
  have e:RR ^ (3*(k+1))=RR ^ (3*k)*RR ^ 3:=by rw [<- Int.pow_add];rfl
  rw [Int.pow_succ,e]
  exact Int.mul_le_mul h (by decide) (by decide) (Int.le_of_lt (Int.pow_pos (by decide)))
theorem wd_szR {k:Nat} {c:Rat} (h:Wd k c):Sz RR (3*k+1) c:=by
 have h1:=wb_rr k
 have h2:RR ^ (3*k)<RR ^ (3*k+1):=Int.pow_lt_pow_of_lt (by decide) Ky
 exact ⟨by have:=h.1;omega,by have:=h.2;omega⟩
section
variable {n K M L N k:Nat} {q q':List Tm} {l r:List aw} {E:Int}
theorem l8 {u:aw} (hu:u∈l):nc u∈ef l:=List.mem_map_of_mem hu
theorem qv {u:aw} (hu:u∈r):tmR n u∈ka n r:=List.mem_map_of_mem hu
theorem Jh:(ef l).length=l.length:=List.length_map ..
theorem PT.fit (h:PT n K M q l) (hc:CB k q):PT n (k+1) M q l:=⟨h.len,fun u hu=>by
 obtain ⟨o1,o2,o3⟩:=h.ok u hu
 exact ⟨o1,o2,dE u.2.1,o3.rb.1,wd_sz (h.srt.dst.wd (fun e=>h.eqv.co e) hc (l8 hu))⟩,h.srt,h.eqv⟩
theorem PT.Gk (h:PT n K M q l) (hx:XB E q):XB E (ef l):=XB.of h.srt.dst (fun e=>h.eqv.co e) hx
theorem RT.Gk (h:RT n K M q r) (hx:XB E q):XB E (ka n r):=XB.of h.dst (fun e=>h.eqv.co e) hx
theorem PT.xb (h:PT n K M q l) (hx:XB E q) {u:aw} (hu:u∈l):(∀ x∈u.1,0<=x/\x<=E)/\sE u.1<=E:=by
 obtain ⟨a,b⟩:=h.Gk hx _ (l8 hu)
 have b':G.ma u.1<=E:=b
 refine ⟨fun x hx'=>⟨a x hx',Int.le_trans (G.oV a hx') b⟩,?_⟩
 rw [qy];exact b'
theorem I5.bound {t:aw} (h:I5 n K t) {B:Int} (hB:0<=B) (hn:n<=8) (hx:∀ x∈t.1.take n,0<=x/\x<=B) (j:Nat):0<=t.1.getD j 0/\t.1.getD j 0<=B:=by
 rw [h.1,gT,dN _ _ _ (by have:=h.2.1;omega),List.getD_eq_getElem?_getD]
 by_cases c:j<(t.1.take n++List.replicate (8-(t.1.take n).length) 0).length
 ·rw [List.getElem?_eq_getElem c]
  have hm:=List.getElem_mem c
  rw [Option.getD_some]
  rcases List.mem_append.1 hm with g | g
  ·exact hx _ g
  have:=List.eq_of_mem_replicate g
  omega
 rw [List.getElem?_eq_none Ky]
 exact ⟨Int.le_refl _,hB⟩
theorem JI (hn:n<=8) {u:aw} (h:mT n K u):ArgM u:=by
 obtain ⟨o1,o2,o3⟩:=h
 have hr:=o3.rb.1
 exact ⟨Ky,hr.2.1.1,hr.2.2.1,trivial,trivial⟩
theorem PT.arg (h:PT n K M q l) (hn:n<=8) (hM:M<=1000000000):lB ((n:Int),l,()):=⟨by have:=h.len;show l.length<=_;omega,fun u hu=>JI hn (h.ok u hu)⟩
theorem PT.valid (h:PT n K M q l) (hn:n<=8) (hM:M<=4000) (hc:CB 199 q) (hx:XB 40 q):fk ((n:Int),l,()):=by
 have h':=h.fit hc
 exact Fc hn (Nat.le_trans h.len hM) (Nat.le_refl 200) h'.ok h.srt (fun u hu=>(h.xb hx hu).2) (fun u hu e he=>((h.xb hx hu).1 e he).2)
theorem vp (h:PT n K M q l) (hn:n<=8) (hM:M<=4000) (hc:CB 199 q) (hx:XB 40 q):Ev (fun k=>iK k ((n:Int),l,())) (((n:Int),l,()),(0:Int),()):=by
 have e:=hJ (h.arg hn Ky)
 rw [fw (h.valid hn hM hc hx)] at e
 have hl:=h.len
 exact Ev.step (fun k=>tO k _) (Ev.bind e (bF rfl (Ev.bind (Aw hn Ky Ky (h.fit hc).ok) (aZ _))))
theorem JE {p p':aR} (ha:lB p) (hb:lB p') (hp:fk p) (hq:fk p') (hn:p.1=p'.1):Ev (fun k=>oR k p p') 0:=by
 have e1:=hJ ha
 have e2:=hJ hb
 rw [fw hp] at e1
 rw [fw hq] at e2
 exact Ev.step (fun k=>yt k _ _) (Ev.bind e1 (Ev.bind (a:=false) (bF rfl (Ev.bind e2 (aZ _))) (bF rfl (bF (by simp [hn]) (aZ _)))))
end
theorem evu {α:Type} {f:Nat->Option α} {a b:α} (h:Ev f a) (g:Ev f b):a=b:=by
 obtain ⟨K,h⟩:=h
 obtain ⟨L,g⟩:=g
 have:=(h (max K L) Ky).symm.trans (g (max K L) Ky)
 exact Option.some.inj this
open Go.Proofs.YtfbgaddecbiimaaGreatDoor.G (rH)
theorem yV (f:aw->Tm):∀ (l:List aw) (a:Int),-1<=a->(∀ t∈l,G.ma (f t).1=sE t.1)->dgM l a=max a (rH (l.map f))
 | [],a,ha,_=>by show a=max a (-1);omega
 | t :: l,a,ha,h=>by
  have e:=h t Kz
  have ih:=yV f l (mx a (sE t.1)) (by unfold mx;split<;>omega) fun u hu=>h u (by simp [hu])
  show dgM l (mx a (sE t.1))=max a (max (G.ma (f t).1) (rH (l.map f)))
  rw [ih,e]
  unfold mx
  split<;>omega
theorem J8 (l:List aw):dgM l (-1)=rH (ef l):=by
 rw [yV nc l (-1) Ky (fun t _=>(qy _).symm)]
 have:=G.vN (ef l)
 show max (-1) (rH (ef l))=_
 omega
section
variable {n K M L N k:Nat} {q q':List Tm} {l l' r:List aw} {E F:Int}
theorem I5.sum {t:aw} (h:I5 n K t) (hn:n<=8):sE t.1=sE (t.1.take n):=by
 conv=>lhs;rw [h.1]
 exact G1 (by have:=h.2.1;omega)
theorem Is (h:∀ u∈r,I5 n K u) (hn:n<=8):dgM r (-1)=rH (ka n r):=by
 rw [yV (tmR n) r (-1) Ky (fun t ht=>by rw [(h t ht).sum hn,qy];rfl)]
 have:=G.vN (ka n r)
 show max (-1) (rH (ka n r))=_
 omega
theorem XB.rH (h:XB E q) (hE:-1<=E):rH q<=E:=G.It hE fun t ht=>(h t ht).2
theorem XB.pos (h:XB E q) {t:Tm} (ht:t∈q):0<=E:=Int.le_trans (G.xV (h t ht).1) (h t ht).2
theorem XB.gP (h:XB E q) (h':XB F q') (hq:Len n q) (hq':Len n q') {t u:Tm} (ht:t∈q) (hu:u∈q') {B:Int} (hB:E+F<B):∀ e∈G.gP u.1 t.1,0<=e/\e<B:=by
 intro e he
 have h0:∀ x∈G.gP u.1 t.1,(0:Int)<=x:=fun x hx=>G.u9 (h' u hu).1 (h t ht).1 hx
 have h1:=G.oV h0 he
 rw [G.ux ((hq' u hu).trans (hq t ht).symm)] at h1
 have:=(h t ht).2
 have:=(h' u hu).2
 exact ⟨h0 e he,Ky⟩
theorem wj (h:∀ u∈r,I5 n K u) (hn:n<=8) (hl:r.length<=1000000000) (hx:XB E (ka n r)) (hE:E<=1000000):Ev (fun k=>bu k r) (rH (ka n r)):=by
 rw [<- Is h hn]
 have main:=sM (n:=r.length) (P:=fun i=>∀ x:Int,aV (fun k m=>bu.l0 k m x r (r.length:Int) (i:Int)) (dgM (r.drop i) x)) ?_ ?_ 0 (Nat.zero_le _) (-1)
 ·exact Ev.step (fun k=>im k r) main.diag
 ·intro x
  rw [List.drop_length]
  exact aV.step (fun k m=>bu.ba k m _ _ _ _) (aV.bF (decide_eq_false Ky) (aV.of (aZ _)))
 intro i hi ih x
 have e:(dM (t:=ak) r (i:Int):aw)=r[i]:=dF hi
 have hm:=List.getElem_mem hi
 obtain ⟨a,b⟩:=hx _ (qv hm)
 have hE0:0<=E:=XB.pos hx (qv hm)
 refine aV.step (fun k m=>bu.ba k m _ _ _ _) (aV.bT (decide_eq_true Ky) (aV.iT Ky ?_))
 rw [e,fh hi]
 refine aV.bind (mi _ (h _ hm).len (fun x hx'=>?_)) ?_
 ·obtain ⟨j,hj,rfl⟩:=List.getElem_of_mem hx'
  have:=(h _ hm).bound hE0 hn (fun x hx'=>⟨a x hx',Int.le_trans (G.oV a hx') b⟩) j
  rw [G.EB hj] at this
  omega
 rw [iX Ky]
 exact ih _
theorem gt0 {l:List aw} (h:l≠[]):decide ((List.length l:Int)>(0:Int))=true:=decide_eq_true (by have:=List.length_pos_iff.2 h;omega)
theorem Ek {l:List aw} (h:l=[]):decide ((List.length l:Int)>(0:Int))=false:=by subst h;rfl
theorem CS (h:PT n K M q l) (h':PT n L N q' l') (hx:XB E q) (hx':XB F q') (hq:Len n q) (hq':Len n q') (hn:n<=8) (hE:E+F<256) (hMN:M*N<=60000) (hM:M<=60000) (hN:N<=60000) (hKL:K+L<3000):∃ r,Ev (fun k=>fD k ((n:Int),l,()) ((n:Int),l',())) ((n:Int),r,())/\PT n (60000*(L+K+1)) (M*N) (G.prod q q') r:=by
 have hll:l.length*l'.length<=M*N:=Nat.mul_le_mul h.len h'.len
 obtain ⟨r,r1,r2,r3,r4,r5⟩:=CR hn (Nat.le_trans h.len hM) (Nat.le_trans h'.len hN) (Nat.le_trans hll hMN) hKL h.ok h'.ok (fun u hu t ht=>XB.gP (h.Gk hx) (h'.Gk hx') h.srt.len h'.srt.len (l8 ht) (l8 hu) hE)
 exact ⟨r,r1,Nat.le_trans r2 hll,fun u hu=>(r3 u hu).mono (Nat.mul_le_mul_right _ (Nat.le_trans hll hMN)),r4,r5.trans (h.eqv.prod h'.eqv)⟩
theorem CM (h:PT n K M q l) (h':PT n L N q' l') (hx:XB E q) (hx':XB F q') (hq:Len n q) (hq':Len n q') (hn:n<=8) (hE:E+F<=40) (hMN:M*N<=4000) (hM:M<=4000) (hN:N<=4000) (hKL:K+L<3000) {j:Nat} (hc:CB j (G.prod q q')) (hj:j<=199):∃ r,Ev (fun k=>mr k ((n:Int),l,()) ((n:Int),l',())) (((n:Int),r,()),(0:Int),())/\PT n (j+1) (M*N) (G.prod q q') r:=by
 obtain ⟨r,r1,r2⟩:=CS h h' hx hx' hq hq' hn Ky Ky Ky Ky hKL
 have hlim:=vp r2 hn hMN (hc.mono hj) ((XB.prod hq hq' hx hx').mono hE)
 refine ⟨r,?_,r2.fit hc⟩
 have fin:Ev (fun k=>(fD k ((n:Int),l,()) ((n:Int),l',())).bind fun (v5:aR)=>(iK k v5).bind fun (v6:aR×Int×Unit)=>some (v6.1,v6.2.1,())) (((n:Int),r,()),(0:Int),()):=Ev.bind r1 (Ev.bind hlim (aZ _))
 have l1:=h.len
 have l2:=h'.len
 by_cases c:l=[]
 ·exact Ev.step (fun k=>jM k _ _) (Ev.bind (a:=false) (bF (Ek c) (aZ _)) (Ev.bind (a:=false) (bF rfl (aZ _)) (bF rfl fin)))
 by_cases c':l'=[]
 ·exact Ev.step (fun k=>jM k _ _) (Ev.bind (a:=false) (bT (gt0 c) (by rw [Ek c'];exact aZ _)) (Ev.bind (a:=false) (bF rfl (aZ _)) (bF rfl fin)))
 have e1:=pz hn Ky h.ok
 have e2:=pz hn Ky h'.ok
 rw [J8] at e1 e2
 have m1:=G.vN (ef l)
 have m2:=G.vN (ef l')
 obtain ⟨u,hu⟩:=List.exists_mem_of_ne_nil l c
 obtain ⟨u',hu'⟩:=List.exists_mem_of_ne_nil l' c'
 have b1:=XB.rH (h.Gk hx) (by have:=XB.pos (h.Gk hx) (l8 hu);omega)
 have b2:=XB.rH (h'.Gk hx') (by have:=XB.pos (h'.Gk hx') (l8 hu');omega)
 refine Ev.step (fun k=>jM k _ _) (Ev.bind (a:=true) (bT (gt0 c) (by rw [gt0 c'];exact aZ _)) (Ev.bind (a:=false) (bT rfl (Ev.bind e1 (Ev.bind e2 ?_))) (bF rfl fin)))
 rw [cn Ky Ky]
 exact pj Ky
end
open Go.Proofs.YtfbgaddecbiimaaGreatDoor.G (gO)
theorem cmp3:∀ {a b:List Int},a.length=b.length->cR a b=if G.kO a b=true then 1 else if G.kO b a=true then -1 else 0
 | [],[],_=>rfl
 | [],_ :: _,h=>by simp at h
 | _ :: _,[],h=>by simp at h
 | x :: a,y :: b,h=>by
  have ih:=cmp3 (a:=a) (b:=b) (by simpa using h)
  have e1:G.kO (x :: a) (y :: b)=if x=y then G.kO a b else decide (x>y):=rfl
  have e2:G.kO (y :: b) (x :: a)=if y=x then G.kO b a else decide (y>x):=rfl
  by_cases e:x=y
  ·rw [if_pos e] at e1
   rw [if_pos e.symm] at e2
   rw [e1,e2,<- ih]
   simp only [cR,if_pos e]
  rw [if_neg e] at e1
  rw [if_neg (fun h=>e h.symm)] at e2
  rw [e1,e2]
  simp only [cR,if_neg e,decide_eq_true_eq]
  by_cases g:x<y
  ·rw [if_pos g,if_neg Ky,if_pos Ky]
  rw [if_neg g,if_pos Ky]
section
variable {n K M L N k:Nat} {q q':List Tm} {l l' r:List aw} {E F:Int}
theorem cmp_ev {t u:aw} (ht:mT n K t) (hu:mT n L u) (hn:n<=8) {c:Int} (h:cR t.1 u.1=c):Ev (fun k=>eO k t.1 u.1) c:=by
 have h1:=ht.1
 have h2:=hu.1
 rw [<- h]
 exact uU _ _ Ky Ky
theorem Ko {t u:aw} (ht:mT n K t) (hu:mT n L u) (hKL:K+L<200000000) (he:t.1=u.1):∃ v,Ev (fun k=>fE k t.2.1 u.2.1) v/\Ev (fun k=>iS k v) (Gh (dE t.2.1+dE u.2.1))/\(∀ z,mT n (K+L+1) (t.1,v,z)/\nc (t.1,v,z)=((nc t).1,(nc t).2+(nc u).2)):=by
 obtain ⟨a1,a2,a3⟩:=ht
 obtain ⟨b1,b2,b3⟩:=hu
 obtain ⟨v,v1,v2,v3⟩:=pR a3.rb.1 b3.rb.1 a3.rb.2 b3.rb.2 Ky
 refine ⟨v,v1,tE v2,fun z=>⟨⟨a1,a2,_,v2,v3⟩,?_⟩⟩
 show (t.1,dE v)=_
 rw [oP v2]
 rfl
theorem sgn_nz {x:Rat} (h:x=0):(Gh x != (0:Int))=false:=by rw [ye];exact eK (fun g=>g h)
theorem Jp {x:Rat} (h:¬ x=0):(Gh x != (0:Int))=true:=by rw [ye];exact fw h
theorem Kr {t u:Tm} {p q:List Tm} (h:G.kO t.1 u.1=true):gO (t :: p) (u :: q)=t :: gO p (u :: q):=by rw [gO,if_pos h]
theorem Kq {t u:Tm} {p q:List Tm} (h:¬ G.kO t.1 u.1=true) (h':G.kO u.1 t.1=true):gO (t :: p) (u :: q)=u :: gO (t :: p) q:=by rw [gO,if_neg h,if_pos h']
theorem Kp {t u:Tm} {p q:List Tm} (h:¬ G.kO t.1 u.1=true) (h':¬ G.kO u.1 t.1=true) (z:t.2+u.2=0):gO (t :: p) (u :: q)=gO p q:=by rw [gO,if_neg h,if_neg h',if_pos z]
theorem Ks {t u:Tm} {p q:List Tm} (h:¬ G.kO t.1 u.1=true) (h':¬ G.kO u.1 t.1=true) (z:¬ t.2+u.2=0):gO (t :: p) (u :: q)=(t.1,t.2+u.2) :: gO p q:=by rw [gO,if_neg h,if_neg h',if_neg z]
theorem HK (hn:n<=8) (hKL:K+L<200000000):∀ (s:Nat) (x y:List aw),x.length+y.length=s->(∀ u∈x,mT n K u)->(∀ u∈y,mT n L u)->∀ acc:List aw,acc.length+x.length+y.length<=1000000->∃ r:List aw,aV (fun k m=>az.l0 k m x y acc) (acc++r)/\ef r=gO (ef x) (ef y)/\(∀ u∈r,mT n (K+L+1) u)/\r.length<=s:=by
 intro s
 induction s using Nat.strongRecOn with
 | _ s ih =>
 intro x y hs hx hy acc ha
 match x,y,hs,hx,hy,ha with
 | [],y,hs,hx,hy,ha =>
  refine ⟨y,?_,by rw [show ef ([]:List aw)=[] from rfl,gO],fun u hu=>(hy u hu).mono Ky,by simp at hs;omega⟩
  have e:acc++y=(acc++[])++y:=by rw [List.append_nil]
  rw [e]
  exact aV.step (fun k m=>az.ba k m _ _ _) (aV.bind (a:=false) (bF rfl (aZ _)) (aV.bF rfl (aV.iT (by simp only [List.length_nil] at ha ⊢;omega) (aV.iT (by simp only [List.length_append,List.length_nil] at ha ⊢;omega) (aV.of (aZ _))))))
 | t :: x,[],hs,hx,hy,ha =>
  refine ⟨t :: x,?_,by rw [show ef ([]:List aw)=[] from rfl,G.vZ],fun u hu=>(hx u hu).mono Ky,by simp at hs;simp;omega⟩
  have e:acc++t :: x=(acc++t :: x)++[]:=by rw [List.append_nil]
  rw [e]
  exact aV.step (fun k m=>az.ba k m _ _ _) (aV.bind (a:=false) (bT (gt0 Kz) (aZ _)) (aV.bF rfl (aV.iT (by simp only [List.length_nil,List.length_cons] at ha ⊢;omega) (aV.iT (by simp only [List.length_append,List.length_nil,List.length_cons] at ha ⊢;omega) (aV.of (aZ _))))))
 | t :: x,u :: y,hs,hx,hy,ha =>
  simp only [List.length_cons] at hs ha
  have ht:=hx t Kz
  have hu:=hy u Kz
  have hx':∀ v∈x,mT n K v:=fun v hv=>hx v (by simp [hv])
  have hy':∀ v∈y,mT n L v:=fun v hv=>hy v (by simp [hv])
  have hl:t.1.length=u.1.length:=ht.1.trans hu.1.symm
  have c3:=cmp3 hl
  have h0:0<=(0:Int)/\(0:Int)<(List.length (t :: x):Int):=by simp only [List.length_cons];omega
  have h0':0<=(0:Int)/\(0:Int)<(List.length (u :: y):Int):=by simp only [List.length_cons];omega
  have h1:0<=(1:Int)/\(1:Int)<=(List.length (t :: x):Int):=by simp only [List.length_cons];omega
  have h1':0<=(1:Int)/\(1:Int)<=(List.length (u :: y):Int):=by simp only [List.length_cons];omega
  have start:∀ {R:List aw} {c:Int},cR t.1 u.1=c->aV (fun k m=>(bif decide (c>(0:Int)) then
   if 0<=(0:Int)/\(0:Int)<(List.length (t :: x):Int) then if (List.length acc+List.length ([t]))*80<=140737488355328 then if 0<=(1:Int)/\(1:Int)<=(List.length (t :: x):Int) then az.l0 k m x (u :: y) (acc++([t])) else none else none else none
   else
    bif decide (c<(0:Int)) then
     if 0<=(0:Int)/\(0:Int)<(List.length (u :: y):Int) then if (List.length acc+List.length ([u]))*80<=140737488355328 then if 0<=(1:Int)/\(1:Int)<=(List.length (u :: y):Int) then az.l0 k m (t :: x) y (acc++([u])) else none else none else none
    else
     if 0<=(0:Int)/\(0:Int)<(List.length (t :: x):Int) then if 0<=(0:Int)/\(0:Int)<(List.length (u :: y):Int) then (mu k t u).bind fun (v3:aw×Bool×Unit) =>
     bif v3.2.1 then
      if (List.length acc+List.length ([v3.1]))*80<=140737488355328 then az.j0 k m (t :: x) (u :: y) (acc++([v3.1])) else none
     else
      az.j0 k m (t :: x) (u :: y) acc else none else none)) R->aV (fun k m=>az.l0 k m (t :: x) (u :: y) acc) R:=fun {R c} hc h =>
   aV.step (fun k m=>az.ba k m _ _ _) (aV.bind (a:=true) (bT (gt0 Kz) (by rw [gt0 Kz];exact aZ _)) (aV.bT rfl (aV.iT h0 (aV.iT h0' (aV.bind (Ev.step (fun k=>wy k _ _) (Ev.bind (cmp_ev ht hu hn hc) (aZ _))) h)))))
  by_cases g:G.kO t.1 u.1=true
  ·rw [if_pos g] at c3
   obtain ⟨r,r1,r2,r3,r4⟩:=ih (s-1) Ky x (u :: y) (by simp only [List.length_cons];omega) hx' hy (acc++[t]) (by simp only [List.length_append,List.length_cons,List.length_nil];omega)
   refine ⟨t :: r,?_,by rw [dR,dR,dR,Kr g,r2,dR],fun v hv=>?_,by simp only [List.length_cons];omega⟩
   ·rw [show acc++t :: r=(acc++[t])++r by simp]
    exact start c3 (aV.bT rfl (aV.iT h0 (aV.iT (by simp only [List.length_cons,List.length_nil];omega) (aV.iT h1 r1))))
   rcases List.mem_cons.1 hv with rfl | hv
   ·exact ht.mono Ky
   exact r3 v hv
  by_cases g':G.kO u.1 t.1=true
  ·rw [if_neg g,if_pos g'] at c3
   obtain ⟨r,r1,r2,r3,r4⟩:=ih (s-1) Ky (t :: x) y (by simp only [List.length_cons];omega) hx hy' (acc++[u]) (by simp only [List.length_append,List.length_cons,List.length_nil];omega)
   refine ⟨u :: r,?_,by rw [dR,dR,dR,Kq g g',r2,dR],fun v hv=>?_,by simp only [List.length_cons];omega⟩
   ·rw [show acc++u :: r=(acc++[u])++r by simp]
    exact start c3 (aV.bF rfl (aV.bT rfl (aV.iT h0' (aV.iT (by simp only [List.length_cons,List.length_nil];omega) (aV.iT h1' r1)))))
   rcases List.mem_cons.1 hv with rfl | hv
   ·exact hu.mono Ky
   exact r3 v hv
  rw [if_neg g,if_neg g'] at c3
  obtain ⟨v,v1,v2,v3⟩:=Ko ht hu hKL (G.sG hl (by simpa using g) (by simpa using g'))
  have e2:∀ {b:Bool},(Gh (dE t.2.1+dE u.2.1) != (0:Int))=b->Ev (fun k=>mu k t u) ((t.1,v,t.2.2),b,()):=fun {b} hb=>Ev.step (fun k=>wx k _ _) (Ev.bind v1 (Ev.bind v2 (by rw [hb];exact aZ _)))
  obtain ⟨v3,v4⟩:=v3 t.2.2
  by_cases z:dE t.2.1+dE u.2.1=0
  ·obtain ⟨r,r1,r2,r3,r4⟩:=ih (s-2) Ky x y Ky hx' hy' acc Ky
   refine ⟨r,start c3 (aV.bF rfl (aV.bF rfl (aV.iT h0 (aV.iT h0' (aV.bind (e2 (sgn_nz z)) (aV.bF rfl ?_)))))),by rw [dR,dR,Kp g g' z,r2],r3,Ky⟩
   unfold az.j0
   exact aV.iT h1 (aV.iT h1' r1)
  obtain ⟨r,r1,r2,r3,r4⟩:=ih (s-2) Ky x y Ky hx' hy' (acc++[(t.1,v,t.2.2)]) (by simp only [List.length_append,List.length_cons,List.length_nil];omega)
  refine ⟨(t.1,v,t.2.2) :: r,?_,by rw [dR,dR,dR,Ks g g' z,r2,v4],fun w hw=>?_,by simp only [List.length_cons];omega⟩
  ·rw [show acc++(t.1,v,t.2.2) :: r=(acc++[(t.1,v,t.2.2)])++r by simp]
   refine start c3 (aV.bF rfl (aV.bF rfl (aV.iT h0 (aV.iT h0' (aV.bind (e2 (Jp z)) (aV.bT rfl (aV.iT (by simp only [List.length_cons,List.length_nil];omega) ?_)))))))
   unfold az.j0
   exact aV.iT h1 (aV.iT h1' r1)
  rcases List.mem_cons.1 hw with rfl | hw
  ·exact v3
  exact r3 w hw
theorem HL (h:PT n K M q l) (h':PT n L N q' l') (hn:n<=8) (hKL:K+L<200000000) (hMN:M+N<=1000000):∃ r,Ev (fun k=>az k l l') r/\PT n (K+L+1) (M+N) (q++q') r:=by
 have l1:=h.len
 have l2:=h'.len
 obtain ⟨r,r1,r2,r3,r4⟩:=HK hn hKL _ l l' rfl h.ok h'.ok [] (by simp only [List.length_nil];omega)
 obtain ⟨s1,s2⟩:=G.o8 _ _ h.srt h'.srt
 refine ⟨r,Ev.step (fun k=>iH k _ _) r1.diag,Ky,r3,by rw [r2];exact s1,fun m=>?_⟩
 rw [r2,s2,G.jl,h.eqv,h'.eqv]
end
section
variable {p:aR}
theorem zg.okT {n a c:Nat} (hs:zg p a c) (hn:p.1=(n:Int)):∀ u∈p.2.1,mT n c u:=by
 obtain ⟨m,m8,mn,mo⟩:=zr hs.ok
 obtain rfl:m=n:=Ky
 intro u hu
 obtain ⟨o1,o2,o3⟩:=mo u hu
 obtain ⟨i,hi,rfl⟩:=List.getElem_of_mem hu
 have e:dz p i=p.2.1[i]:=dF hi
 have hsh:=hs.short i hi
 rw [e] at hsh
 exact ⟨o1,o2,_,o3.rb.1,qx aE o3.rb.1 hsh.1 hsh.2⟩
theorem Gu {n:Nat} (hv:fk p) (hn:p.1=(n:Int)) {b:Int} (hb:rH (ef p.2.1)<=b):XB b (ef p.2.1):=fun t ht=>by
 refine ⟨?_,Int.le_trans (G.HS ht) hb⟩
 obtain ⟨u,hu,rfl⟩:=List.mem_map.1 ht
 obtain ⟨m,m8,mn,mo⟩:=zr hv
 exact fun x hx=>((mo u hu).2.1 x hx).1
theorem B6 {n:Nat} (hv:fk p) (hn:p.1=(n:Int)):XB 40 (ef p.2.1):=fun t ht=>by
 obtain ⟨u,hu,rfl⟩:=List.mem_map.1 ht
 obtain ⟨i,hi,rfl⟩:=List.getElem_of_mem hu
 have g:=(hv.good i hi).1
 rw [show dz p i=p.2.1[i] from dF hi] at g
 exact ⟨fun x hx=>(g.ex x hx).1,by have:=g.sum;rw [qy] at this;exact this⟩
theorem wi (ha:lB p) {a c:Nat} (hs:zg p a c) (b:Int):Ev (fun k=>bh k p (a:Int) b (c:Int)) (decide (rH (ef p.2.1)<=b)):=by
 have hlen:=ha.1
 have hv:=hs.ok
 have h0:=hv.n0
 have h8:=hv.n8
 have hf:=hv.few
 have ha':=hs.few
 have hn:p.1=((p.1.toNat:Nat):Int):=Ky
 obtain ⟨r,r1,r2,r3,r4⟩:=Ei ha hv hn
 have hd:=wj r3 Ky Ky (by rw [r4];exact B6 hv hn) Ky
 rw [r4] at hd
 have hval:=kY ha
 rw [fw hv] at hval
 have main:=sM (n:=p.2.1.length) (P:=fun i=>aV (fun k m=>bh.l0 k m b (c:Int) p.2.1 (p.2.1.length:Int) (i:Int) p) (decide (rH (ef p.2.1)<=b))) ?_ ?_ 0 (Nat.zero_le _)
 ·exact Ev.step (fun k=>dO k p _ _ _) (Ev.bind (a:=false) (bF (decide_eq_false Ky) (pj Ky)) (Ev.bind (a:=false) (bF rfl (pj Ky)) (bF rfl main.diag)))
 ·exact aV.step (fun k m=>bh.ba k m _ _ _ _ _ _) (aV.bF (decide_eq_false Ky) (aV.of (Ev.bind hval (Ev.bind (bT rfl (Ev.bind r1 (Ev.bind hd (aZ _)))) (aZ _)))))
 intro i hi ih
 have hsh:Ev (fun k=>cD k (dz p i).2.1 (c:Int)) _:=jU (dz p i).2.1 c
 rw [decide_eq_true (hs.short i hi)] at hsh
 refine aV.step (fun k m=>bh.ba k m _ _ _ _ _ _) (aV.bT (decide_eq_true Ky) (aV.iT Ky (aV.bind hsh (aV.bF rfl ?_))))
 rw [iX Ky]
 exact ih
end
structure I2 (p:aR) (n a c:Nat) (b:Int):Prop where
 n8:n<=8
 eq:p=((n:Int),p.2.1,())
 ok:fk p
 arg:lB p
 pt:PT n c a (ef p.2.1) p.2.1
 cb:CB (a*(c+1)) (ef p.2.1)
 xb:XB b (ef p.2.1)
theorem cb_few {a c:Nat} {l:List Tm} (hl:l.length<=a) (h:∀ t∈l,Wd c t.2):CB (a*(c+1)) l:=(CB.list h).mono (Nat.mul_le_mul_right _ hl)
theorem wN {p:aR} (ha:lB p) (a c:Nat) (b:Int):∃ t,Ev (fun k=>bh k p (a:Int) b (c:Int)) t/\(t=true->∃ n,I2 p n a c b):=by
 obtain ⟨t,t1,t2⟩:=ym ha a c b
 refine ⟨t,t1,fun h=>?_⟩
 have hs:=t2 h
 have hv:=hs.ok
 have h0:=hv.n0
 have h8:=hv.n8
 have hn:p.1=((p.1.toNat:Nat):Int):=Ky
 have hd:=evu t1 (wi ha hs b)
 rw [h] at hd
 have hd:=of_decide_eq_true hd.symm
 have hok:=hs.okT hn
 have hpt:PT p.1.toNat c a (ef p.2.1) p.2.1:=⟨hs.few,hok,E5 hv hn,.refl _⟩
 refine ⟨p.1.toNat,Ky,by rw [<- hn],hv,ha,hpt,cb_few (by rw [Jh];exact hs.few) (fun t ht=>?_),Gu hv hn hd⟩
 obtain ⟨u,hu,rfl⟩:=List.mem_map.1 ht
 exact sz_wd (hok u hu).2.2.rb.2
section
variable {p p':aR} {n a c:Nat} {b:Int}
theorem I2.len (h:I2 p n a c b):Len n (ef p.2.1):=h.pt.srt.len
theorem I2.rte (h:I2 p n a c b):∃ r,Ev (fun k=>bN k p) r/\RT n (3*c+1) a (ef p.2.1) r/\ka n r=ef p.2.1:=by
 have hn:p.1=(n:Int):=by rw [h.eq]
 obtain ⟨r,r1,r2,r3,r4⟩:=Ei h.arg h.ok hn
 refine ⟨r,r1,⟨by rw [r2];exact h.pt.len,fun u hu=>?_,by rw [r4];exact h.pt.srt.dst,by rw [r4];exact .refl _⟩,r4⟩
 obtain ⟨o1,o2,o3⟩:=r3 u hu
 have hm:=qv (n:=n) hu
 rw [r4] at hm
 obtain ⟨w,hw,e⟩:=List.mem_map.1 hm
 have e2:dE w.2.1=fQ u.2.1:=congrArg Prod.snd e
 have hz:=(h.pt.ok w hw).2.2.rb.2
 rw [e2] at hz
 exact ⟨o1,o2,_,o3.rb.1,wd_szR (sz_wd hz)⟩
theorem I2.rt (h:I2 p n a c b):∃ r,Ev (fun k=>bN k p) r/\RT n (3*c+1) a (ef p.2.1) r:=let ⟨r,r1,r2,_⟩:=h.rte;⟨r,r1,r2⟩
theorem wC (ha:lB p) (hb:lB p'):∃ t,Ev (fun k=>gC k p p') t/\(t=true->∃ n,I2 p n 12 2 8/\I2 p' n 12 2 8):=by
 obtain ⟨t1,a1,a2⟩:=wN ha 12 2 8
 obtain ⟨t2,b1,b2⟩:=wN hb 12 2 8
 by_cases c:p.1=p'.1
 ·refine ⟨t1&&t2,Ev.step (fun k=>iE k p p') (Ev.bind (a:=t1) (bT (by simp [c]) (Ev.bind a1 (aZ _))) (Ev.bind (a:=t1&&t2) ?_ (aZ _))),fun h=>?_⟩
  ·cases t1 with
   | true=>exact bT rfl (Ev.bind b1 (aZ _))
   | false=>exact bF rfl (aZ _)
  rw [Bool.and_eq_true] at h
  obtain ⟨n,hn⟩:=a2 h.1
  obtain ⟨m,hm⟩:=b2 h.2
  have e:n=m:=by
   have h1:p.1=(n:Int):=by rw [hn.eq]
   have h2:p'.1=(m:Int):=by rw [hm.eq]
   omega
  subst e
  exact ⟨n,hn,hm⟩
 exact ⟨false,Ev.step (fun k=>iE k p p') (Ev.bind (a:=false) (bF (by simp [c]) (aZ _)) (Ev.bind (a:=false) (bF rfl (aZ _)) (aZ _))),fun h=>by cases h⟩
theorem FD {v:aI} (ha:Arg v):∃ t,Ev (fun k=>gf k v) t/\(t=true->Vd v/\∃ q,RB WW v q/\Sz WW 2 q):=by
 have h1:=jU v 2
 by_cases c:v.2.1.length<=2/\v.2.2.1.length<=2
 ·rw [decide_eq_true c] at h1
  obtain ⟨t,t1,t2⟩:=qB ha
  refine ⟨t,Ev.step (fun k=>iq k v) (Ev.bind h1 (Ev.bind (bT rfl (Ev.bind t1 (aZ _))) (aZ _))),fun h=>?_⟩
  obtain ⟨q,q1,q2⟩:=t2.1 h
  exact ⟨t2.1 h,q,q1,qx aE q1 c.1 c.2⟩
 rw [decide_eq_false c] at h1
 exact ⟨false,Ev.step (fun k=>iq k v) (Ev.bind h1 (Ev.bind (a:=false) (bF rfl (aZ _)) (aZ _))),fun h=>by cases h⟩
end
open Go.Proofs.YtfbgaddecbiimaaGreatDoor.G (zE mv val)
theorem HG (x:List Rat):mv x []=1:=by cases x<;>rfl
theorem qU (a:Rat) (x:List Rat) (k:Int) (e:Ex):mv (a :: x) (k :: e)=a ^ k.toNat*mv x e:=rfl
section
variable {n K M L N k:Nat} {q q':List Tm} {l l' r:List aw} {E F:Int} {at_ pt:List aI}
theorem Gw (x:List Rat) (t:Tm) (p:List Tm):val x (t :: p)=t.2*mv x t.1+val x p:=rfl
theorem tr (hok:∀ u∈l,mT n K u) (hx:XB E (ef l)) (hE0:0<=E) (hE:E<=100) (hn:n<=8) (hM:l.length<=M) (hMs:M<=10000) (hK:K<=10000) (hat:∀ v∈at_,qm 2 v) (hl:at_.length=n):∃ v,Ev (fun k=>cC k ((n:Int),l,()) at_) v/\RB WW v (val (at_.map dE) (ef l))/\Sz WW (M*(K+8*(2*E.toNat+1)+1)+1) (val (at_.map dE) (ef l)):=by
 have hB:∀ i,i<=l.length->i*(K+8*(2*E.toNat+1)+1)<=M*(K+8*(2*E.toNat+1)+1):=fun i hi=>Nat.mul_le_mul_right _ Ky
 have hBs:M*(K+8*(2*E.toNat+1)+1)<=10000*12000:=Nat.mul_le_mul hMs Ky
 have main:=sM (n:=l.length) (P:=fun i=>∀ (r5:aI) (y:Rat),RB WW r5 y->Sz WW (i*(K+8*(2*E.toNat+1)+1)+1) y->∃ v,aV (fun k m=>cC.l0 k m at_ l (l.length:Int) (i:Int) (false,[],[],()) r5) v/\RB WW v (y+val (at_.map dE) (ef (l.drop i)))/\Sz WW (l.length*(K+8*(2*E.toNat+1)+1)+1) (y+val (at_.map dE) (ef (l.drop i)))) ?_ ?_ 0 (Nat.zero_le _) _ 0 (tZ bE) (by rw [Nat.zero_mul];exact ⟨by decide,by decide⟩)
 ·obtain ⟨v,v1,v2,v3⟩:=main
  rw [List.drop_zero,Rat.zero_add] at v2 v3
  exact ⟨v,Ev.step (fun k=>Av k _ _) (Ev.bind tD v1.diag),v2,eN aE v3 (Nat.succ_le_succ (hB _ (Nat.le_refl _)))⟩
 ·intro r5 y h1 h2
  have e:y+val (at_.map dE) (ef (l.drop l.length))=y:=by
   rw [List.drop_length]
   show y+0=y
   rw [Rat.add_zero]
  rw [e]
  exact ⟨r5,aV.step (fun k m=>cC.ba k m _ _ _ _ _ _) (aV.bF (decide_eq_false Ky) (aV.of (aZ _))),h1,h2⟩
 intro i hi ih r5 y h1 h2
 have e:(dM (t:=ah) l (i:Int):aw)=l[i]:=dF hi
 have hm:=List.getElem_mem hi
 obtain ⟨o1,o2,o3⟩:=hok l[i] hm
 obtain ⟨x1,x2⟩:=hx _ (l8 hm)
 have hb:=hB (i+1) hi
 have hsm:(i+1)*(K+8*(2*E.toNat+1)+1)=i*(K+8*(2*E.toNat+1)+1)+(K+8*(2*E.toNat+1)+1):=Nat.succ_mul _ _
 have xE:∀ j (h:j<l[i].1.length),0<=l[i].1[j]/\l[i].1[j]<=E:=fun j h=>⟨x1 _ (List.getElem_mem h),Int.le_trans (G.oV x1 (List.getElem_mem h)) x2⟩
 have key:=sM (n:=l[i].1.length) (P:=fun j=>∀ (r8:aI) (w:Rat),RB WW r8 w->Sz WW (K+j*(2*E.toNat+1)) w->w*mv ((at_.map dE).drop j) (l[i].1.drop j)=dE l[i].2.1*mv (at_.map dE) l[i].1->∃ z,RB WW z (dE l[i].2.1*mv (at_.map dE) l[i].1)/\Sz WW (K+8*(2*E.toNat+1)) (dE l[i].2.1*mv (at_.map dE) l[i].1)/\∀ R,aV (fun k m=>(fE k r5 z).bind fun (v4:aI)=>cC.l0 k m at_ l (l.length:Int) (wrap64 ((i:Int)+(1:Int))) (false,[],[],()) v4) R->fB (fun k m1 m0=>cC.l1 k m1 m0 at_ l (l.length:Int) (i:Int) l[i].1 (l[i].1.length:Int) (j:Int) (false,[],[],()) r5 r8) R) ?_ ?_ 0 (Nat.zero_le _) l[i].2.1 _ o3.rb.1 (by rw [Nat.zero_mul];exact o3.rb.2) rfl
 ·obtain ⟨z,z1,z2,z3⟩:=key
  obtain ⟨s,a1,a2,a3⟩:=pR h1 z1 h2 z2 Ky
  obtain ⟨v,v1,v2,v3⟩:=ih s _ a2 (eN aE a3 Ky)
  have ev:y+val (at_.map dE) (ef (l.drop i))=y+dE l[i].2.1*mv (at_.map dE) l[i].1+val (at_.map dE) (ef (l.drop (i+1))):=by
   rw [fh hi,dR,Gw,Rat.add_assoc]
   rfl
  rw [ev]
  refine ⟨v,?_,v2,v3⟩
  refine aV.step (fun k m=>cC.ba k m _ _ _ _ _ _) (aV.bT (decide_eq_true Ky) (aV.iT Ky ?_))
  rw [e]
  refine (z3 v (aV.bind a1 ?_)).diag
  rw [iX Ky]
  exact v1
 ·intro r8 w g1 g2 g3
  rw [List.drop_length,HG,Rat.mul_one] at g3
  rw [g3] at g1 g2
  exact ⟨r8,g1,eN aE g2 (Nat.add_le_add_left (Nat.mul_le_mul_right _ Ky) _),fun R hR=>fB.step (fun k m1 m0=>cC.fv k m1 m0 _ _ _ _ _ _ _ _ _ _) (fB.bF (decide_eq_false Ky) (fB.of hR))⟩
 intro j hj ihj r8 w g1 g2 g3
 have hja:j<at_.length:=Ky
 have e2:(dM (t:=(.int .i64)) l[i].1 (j:Int):Int)=l[i].1[j]:=dF hj
 have e3:(dM (t:=aj) at_ (j:Int):aI)=at_[j]:=dF hja
 obtain ⟨b1,b2⟩:=xE j hj
 have hjs:(j+1)*(2*E.toNat+1)=j*(2*E.toNat+1)+(2*E.toNat+1):=Nat.succ_mul _ _
 have hjm:j*(2*E.toNat+1)<=8*(2*E.toNat+1):=Nat.mul_le_mul_right _ Ky
 have hdm:(at_.map dE).drop j=dE at_[j] :: (at_.map dE).drop (j+1):=by
  rw [fh (by simpa using hja),List.getElem_map]
 rw [hdm,fh hj,qU] at g3
 have go:∀ {g:Nat->Nat->Nat->Option aI} {R},fB g R->(∀ k m1 m0,(bif decide ((l[i].1[j]:Int)>(0:Int)) then
  if 0<=(j:Int)/\(j:Int)<(List.length at_:Int) then (dC k at_[j] l[i].1[j]).bind fun (v2:aI) =>
  (iw k r8 v2).bind fun (v3:aI) =>
  cC.j0 k m0 m1 at_ l (l.length:Int) (i:Int) l[i].1 (l[i].1.length:Int) (j:Int) (false,[],[],()) r5 v3 else none
  else
   cC.j0 k m0 m1 at_ l (l.length:Int) (i:Int) l[i].1 (l[i].1.length:Int) (j:Int) (false,[],[],()) r5 r8)=g k m1 m0)->fB (fun k m1 m0=>cC.l1 k m1 m0 at_ l (l.length:Int) (i:Int) l[i].1 (l[i].1.length:Int) (j:Int) (false,[],[],()) r5 r8) R:=fun {g R} h hg=>by
  refine fB.step (fun k m1 m0=>cC.fv k m1 m0 _ _ _ _ _ _ _ _ _ _) (fB.bT (decide_eq_true Ky) (fB.iT Ky ?_))
  rw [e2,e3]
  obtain ⟨A,h⟩:=h
  exact ⟨A,fun k m1 m0 q1 q2 q3=>(hg k m1 m0).trans (h k m1 m0 q1 q2 q3)⟩
 by_cases c:l[i].1[j]>0
 ·have hv:=hat at_[j] (List.getElem_mem hja)
  obtain ⟨t,t1,t2,t3⟩:=C2 hv.rb.1 hv.rb.2 l[i].1[j].toNat Ky Ky
  rw [show ((l[i].1[j].toNat:Nat):Int)=l[i].1[j] by omega] at t1
  obtain ⟨s,s1,s2,s3⟩:=kn g1 t2 g2 t3 Ky
  obtain ⟨z,z1,z2,z3⟩:=ihj s _ s2 (eN aE s3 Ky) (by rw [<- g3,Rat.mul_assoc])
  refine ⟨z,z1,z2,fun R hR=>go (fB.bT (decide_eq_true c) (fB.iT Ky (fB.bind t1 (fB.bind s1 ?_)))) (fun _ _ _=>rfl)⟩
  unfold cC.j0
  rw [iX Ky]
  exact z3 R hR
 obtain ⟨z,z1,z2,z3⟩:=ihj r8 w g1 (eN aE g2 Ky) (by rw [<- g3,show l[i].1[j].toNat=0 by omega,Rat.pow_zero,Rat.one_mul])
 refine ⟨z,z1,z2,fun R hR=>go (fB.bF (decide_eq_false c) ?_) (fun _ _ _=>rfl)⟩
 unfold cC.j0
 rw [iX Ky]
 exact z3 R hR
end
theorem ub (e:Ex):mv [] e=1:=by cases e<;>rfl
theorem HI:∀ {x:List Rat} {e:Ex} (f:Ex),x.length=e.length->mv x (e++f)=mv x e
 | [],[],f,_=>by rw [ub,ub]
 | [],_ :: _,_,h=>by simp at h
 | _ :: _,[],_,h=>by simp at h
 | a :: x,k :: e,f,h=>by
  have ih:=HI (x:=x) (e:=e) f (by simpa using h)
  rw [List.cons_append,qU,qU,ih]
theorem h33_le (i K:Nat):i*(K+5601)+1+(K+5600)+1<=(i+1)*(K+5601)+1:=by
 have h:(i+1)*(K+5601)=i*(K+5601)+(K+5601):=Nat.succ_mul _ _
 rw [h]
 generalize i*(K+5601)=A
 omega
section
variable {n K M L N k:Nat} {q q':List Tm} {l l' r:List aw} {E F:Int} {at_ pt:List aI}
theorem Aa (hok:∀ u∈r,I5 n K u) (hx:XB E (ka n r)) (hE0:0<=E) (hE:E<=40) (hn:n<=8) (hM:r.length<=M) (hMs:M<=1000) (hK:K<=10000) (hpt:∀ v∈pt,CoR 8 v) (hl:pt.length=n):∃ v,Ev (fun k=>aL k r pt) v/\RB RR v (val (pt.map fQ) (ka n r))/\Sz RR (M*(K+5601)+1) (val (pt.map fQ) (ka n r)):=by
 have hB:∀ i,i<=r.length->i*(K+5601)<=M*(K+5601):=fun i hi=>Nat.mul_le_mul_right _ Ky
 have hBs:M*(K+5601)<=1000*15601:=Nat.mul_le_mul hMs Ky
 have main:=sM (n:=r.length) (P:=fun i=>∀ (r5:aI) (y:Rat),RB RR r5 y->Sz RR (i*(K+5601)+1) y->∃ v,aV (fun k m=>aL.l0 k m pt r (r.length:Int) (i:Int) (false,[],[],()) r5) v/\RB RR v (y+val (pt.map fQ) (ka n (r.drop i)))/\Sz RR (r.length*(K+5601)+1) (y+val (pt.map fQ) (ka n (r.drop i)))) ?_ ?_ 0 (Nat.zero_le _) _ 0 (tZ cM) (by rw [Nat.zero_mul];exact ⟨by decide,by decide⟩)
 ·obtain ⟨v,v1,v2,v3⟩:=main
  rw [List.drop_zero,Rat.zero_add] at v2 v3
  exact ⟨v,Ev.step (fun k=>mB k _ _) (Ev.bind th v1.diag),v2,eN aX v3 (Nat.succ_le_succ (hB _ (Nat.le_refl _)))⟩
 ·intro r5 y h1 h2
  have e:y+val (pt.map fQ) (ka n (r.drop r.length))=y:=by
   rw [List.drop_length]
   show y+0=y
   rw [Rat.add_zero]
  rw [e]
  exact ⟨r5,aV.step (fun k m=>aL.ba k m _ _ _ _ _ _) (aV.bF (decide_eq_false Ky) (aV.of (aZ _))),h1,h2⟩
 intro i hi ih r5 y h1 h2
 have e:(dM (t:=ak) r (i:Int):aw)=r[i]:=dF hi
 have hm:=List.getElem_mem hi
 have ho:=hok r[i] hm
 have h8:=ho.len
 obtain ⟨o1,o2,o3⟩:=ho
 obtain ⟨x1,x2⟩:=hx _ (qv hm)
 have hb:=hB (i+1) hi
 have hsm:(i+1)*(K+5601)=i*(K+5601)+(K+5601):=Nat.succ_mul _ _
 have hbd:=fun j=>(hok r[i] hm).bound hE0 hn (fun x hx'=>⟨x1 x hx',Int.le_trans (G.oV x1 hx') x2⟩) j
 have hpad:r[i].1=r[i].1.take n++List.replicate (8-(r[i].1.take n).length) 0:=by
  conv=>lhs;rw [o1,gT,dN _ _ _ Ky]
 have hz:∀ j (h:j<r[i].1.length),n<=j->r[i].1[j]=0:=fun j h hj=>by
  have hj':(r[i].1.take n).length<=j:=Ky
  have:r[i].1[j]?=some 0:=by
   rw [hpad,List.getElem?_append_right hj',List.getElem?_replicate,if_pos Ky]
  rw [List.getElem?_eq_getElem h] at this
  exact Option.some.inj this
 have hmv:mv (pt.map fQ) r[i].1=mv (pt.map fQ) (r[i].1.take n):=by
  conv=>lhs;rw [hpad]
  exact HI _ (by rw [List.length_map,hl,o2])
 have key:=sM (n:=8) (P:=fun j=>∀ (r8:aI) (w:Rat),RB RR r8 w->Sz RR (K+j*700) w->w*mv ((pt.map fQ).drop j) (r[i].1.drop j)=fQ r[i].2.1*mv (pt.map fQ) r[i].1->∃ z,RB RR z (fQ r[i].2.1*mv (pt.map fQ) r[i].1)/\Sz RR (K+5600) (fQ r[i].2.1*mv (pt.map fQ) r[i].1)/\∀ R,aV (fun k m=>(eD k r5 z).bind fun (v6:aI)=>aL.l0 k m pt r (r.length:Int) (wrap64 ((i:Int)+(1:Int))) (false,[],[],()) v6) R->fB (fun k m1 m0=>aL.l1 k m1 m0 pt r (r.length:Int) (i:Int) r[i].1 (j:Int) (false,[],[],()) r5 r8) R) ?_ ?_ 0 (Nat.zero_le _) r[i].2.1 _ o3.rb.1 (by rw [Nat.zero_mul];exact o3.rb.2) rfl
 ·obtain ⟨z,z1,z2,z3⟩:=key
  obtain ⟨s,a1,a2,a3⟩:=uI h1 z1 h2 z2 Ky
  obtain ⟨v,v1,v2,v3⟩:=ih s _ a2 (eN aX a3 (h33_le i K))
  have ev:y+val (pt.map fQ) (ka n (r.drop i))=y+fQ r[i].2.1*mv (pt.map fQ) r[i].1+val (pt.map fQ) (ka n (r.drop (i+1))):=by
   rw [fh hi,hmv,Rat.add_assoc]
   rfl
  rw [ev]
  refine ⟨v,?_,v2,v3⟩
  refine aV.step (fun k m=>aL.ba k m _ _ _ _ _ _) (aV.bT (decide_eq_true Ky) (aV.iT Ky ?_))
  rw [e]
  refine (z3 v (aV.bind a1 ?_)).diag
  rw [iX Ky]
  exact v1
 ·intro r8 w g1 g2 g3
  rw [List.drop_eq_nil_of_le (show r[i].1.length<=8 by omega),HG,Rat.mul_one] at g3
  rw [g3] at g1 g2
  exact ⟨r8,g1,eN aX g2 (Nat.le_of_eq rfl),fun R hR=>fB.step (fun k m1 m0=>aL.fv k m1 m0 _ _ _ _ _ _ _ _ _) (fB.bF (decide_eq_false Ky) (fB.of hR))⟩
 intro j hj ihj r8 w g1 g2 g3
 have hj8:j<r[i].1.length:=Ky
 have e2:yo (0:Int) 8 r[i].1 (j:Int)=r[i].1[j]:=tY h8 hj
 have hbj:=hbd j
 rw [G.EB hj8] at hbj
 have hb2:Ev (fun k=>(bif decide (r[i].1[j]>(0:Int)) then some (decide ((j:Int)>=(List.length pt:Int))) else some false)) false:=by
  by_cases c:r[i].1[j]>0
  ·have:j<n:=by
    apply Classical.byContradiction
    intro h
    rw [hz j hj8 Ky] at c
    omega
   exact bT (decide_eq_true c) (pj Ky)
  exact bF (decide_eq_false c) (aZ _)
 have go:∀ {g:Nat->Nat->Nat->Option aI} {R},fB g R->(∀ k m1 m0,(bif decide ((r[i].1[j]:Int)>(0:Int)) then
  if 0<=(j:Int)/\(j:Int)<(List.length pt:Int) then (fO k (dM (t:=an) pt (j:Int):aI) r[i].1[j]).bind fun (v4:aI) =>
  (ff k r8 v4).bind fun (v5:aI) =>
  aL.j0 k m0 m1 pt r (r.length:Int) (i:Int) r[i].1 (j:Int) (false,[],[],()) r5 v5 else none
  else
   aL.j0 k m0 m1 pt r (r.length:Int) (i:Int) r[i].1 (j:Int) (false,[],[],()) r5 r8)=g k m1 m0)->fB (fun k m1 m0=>aL.l1 k m1 m0 pt r (r.length:Int) (i:Int) r[i].1 (j:Int) (false,[],[],()) r5 r8) R:=fun {g R} h hg=>by
  refine fB.step (fun k m1 m0=>aL.fv k m1 m0 _ _ _ _ _ _ _ _ _) (fB.bT (decide_eq_true Ky) (fB.iT Ky ?_))
  rw [e2]
  refine fB.bind hb2 (fB.bF rfl ?_)
  obtain ⟨A,h⟩:=h
  exact ⟨A,fun k m1 m0 q1 q2 q3=>(hg k m1 m0).trans (h k m1 m0 q1 q2 q3)⟩
 by_cases c:r[i].1[j]>0
 ·have hjn:j<n:=by
   apply Classical.byContradiction
   intro h
   rw [hz j hj8 Ky] at c
   omega
  have hja:j<pt.length:=Ky
  have e3:(dM (t:=an) pt (j:Int):aI)=pt[j]:=dF hja
  have hdm:(pt.map fQ).drop j=fQ pt[j] :: (pt.map fQ).drop (j+1):=by
   rw [fh (by simpa using hja),List.getElem_map]
  rw [hdm,fh hj8,qU] at g3
  have hv:=hpt pt[j] (List.getElem_mem hja)
  obtain ⟨t,t1,t2,t3⟩:=CA hv.rb.1 hv.rb.2 r[i].1[j].toNat Ky
  rw [show ((r[i].1[j].toNat:Nat):Int)=r[i].1[j] by omega] at t1
  obtain ⟨s,s1,s2,s3⟩:=uG g1 t2 g2 t3 Ky
  obtain ⟨z,z1,z2,z3⟩:=ihj s _ s2 (eN aX s3 Ky) (by rw [<- g3,Rat.mul_assoc])
  rw [e3] at go
  refine ⟨z,z1,z2,fun R hR=>go (fB.bT (decide_eq_true c) (fB.iT Ky (fB.bind t1 (fB.bind s1 ?_)))) (fun _ _ _=>rfl)⟩
  unfold aL.j0
  rw [iX Ky]
  exact z3 R hR
 have g3':w*mv ((pt.map fQ).drop (j+1)) (r[i].1.drop (j+1))=fQ r[i].2.1*mv (pt.map fQ) r[i].1:=by
  rw [<- g3]
  by_cases hja:j<pt.length
  ·have hdm:(pt.map fQ).drop j=fQ pt[j] :: (pt.map fQ).drop (j+1):=by
    rw [fh (by simpa using hja),List.getElem_map]
   rw [hdm,fh hj8,qU,show r[i].1[j].toNat=0 by omega,Rat.pow_zero,Rat.one_mul]
  rw [List.drop_eq_nil_of_le (show (pt.map fQ).length<=j by rw [List.length_map];omega),List.drop_eq_nil_of_le (show (pt.map fQ).length<=j+1 by rw [List.length_map];omega),ub,ub]
 obtain ⟨z,z1,z2,z3⟩:=ihj r8 w g1 (eN aX g2 Ky) g3'
 refine ⟨z,z1,z2,fun R hR=>go (fB.bF (decide_eq_false c) ?_) (fun _ _ _=>rfl)⟩
 unfold aL.j0
 rw [iX Ky]
 exact z3 R hR
end
section
variable {p:aR} {at_:List aI} {n:Nat}
theorem wu {v:aI} (ha:Arg v) (h:qm 2 v):Ev (fun k=>pO k v) true:=by
 obtain ⟨q,h1,h2⟩:=h
 have e:=qT 200 Ky ha
 rw [fw ⟨q,h1,eN aE h2 Ky⟩] at e
 exact Ev.step (fun k=>wv k _) (Ev.bind e (aZ _))
theorem tq (hat:∀ v∈at_,Arg v/\qm 2 v) (hl:at_.length<=1000) {R:aI×Int×Unit} (h:Ev (fun k=>(bif (List.length at_:Int) != p.1 then
 some ((false,[],[],()),(1:Int),())
 else
  (cC k p at_).bind fun (v4:aI) =>
  (iU k v4 (4096:Int)).bind fun (v5:Bool) =>
  bif !v5 then
   some ((false,[],[],()),(2:Int),())
  else
   some (v4,(0:Int),()))) R):Ev (fun k=>dW.l0 k k at_ true at_ (List.length at_:Int) (0:Int) p (false,[],[],())) R:=by
 have main:=sM (n:=at_.length) (P:=fun i=>aV (fun k m=>dW.l0 k m at_ true at_ (at_.length:Int) (i:Int) p (false,[],[],())) R) ?_ ?_ 0 (Nat.zero_le _)
 ·exact main.diag
 ·exact aV.step (fun k m=>dW.ba k m _ _ _ _ _ _ _) (aV.bF (decide_eq_false Ky) (aV.bF rfl (aV.of h)))
 intro i hi ih
 have e:(dM (t:=aj) at_ (i:Int):aI)=at_[i]:=dF hi
 obtain ⟨a1,a2⟩:=hat at_[i] (List.getElem_mem hi)
 refine aV.step (fun k m=>dW.ba k m _ _ _ _ _ _ _) (aV.bT (decide_eq_true Ky) (aV.iT Ky ?_))
 rw [e]
 refine aV.bind (a:=true) (bT rfl (Ev.bind (wu a1 a2) (aZ _))) ?_
 rw [iX Ky]
 exact ih
theorem yu (ha:lB p) (hv:fk p) (hat:∀ v∈at_,Arg v/\qm 2 v) (hl:at_.length<=1000) (hne:(at_.length:Int)≠p.1):Ev (fun k=>dW k p at_) (nothing,(1:Int),()):=by
 have e:=hJ ha
 rw [fw hv] at e
 exact Ev.step (fun k=>qL k _ _) (Ev.bind e (tq hat hl (bT (by rw [bne_iff_ne];exact hne) (aZ _))))
theorem jx {l:List aw} {K M:Nat} {E:Int} {q:List Tm} (h:PT n K M q l) (hv:fk ((n:Int),l,())) (hx:XB E q) (hE0:0<=E) (hE:E<=100) (hn:n<=8) (hMs:M<=10000) (hK:K<=10000) (hat:∀ v∈at_,Arg v/\qm 2 v) (hl:at_.length=n) {L:Nat} (hs:Sz WW L (val (at_.map dE) q)) (hL:L<=4096):∃ v,Ev (fun k=>dW k ((n:Int),l,()) at_) (v,(0:Int),())/\RB WW v (val (at_.map dE) q):=by
 have e:=hJ (h.arg hn Ky)
 rw [fw hv] at e
 obtain ⟨v,v1,v2,v3⟩:=tr h.ok (h.Gk hx) hE0 hE hn h.len hMs hK (fun v hv=>(hat v hv).2) hl
 have ev:val (at_.map dE) (ef l)=val (at_.map dE) q:=h.eqv _
 rw [ev] at v2
 obtain ⟨t,t1,t2⟩:=AJ v2 4096
 have ht:=t2.2 (eN aE hs hL)
 subst ht
 exact ⟨v,Ev.step (fun k=>qL k _ _) (Ev.bind e (tq hat Ky (bF (by simp [hl]) (Ev.bind v1 (Ev.bind t1 (bF rfl (aZ _))))))),v2⟩
end
theorem Dv {v w:aI} {q:Rat} {K L:Nat} (hv:RB WW v q) (hs:Sz WW K q) (hw:RB RR w q) (hp:Sz RR L q) (h:K<1073741824) (h':L<1073741824):Ev (fun k=>eT k v w) true:=by
 obtain ⟨l1,l2⟩:=fY bE hv hs
 exact Fp hv hw hp h' Ky Ky
theorem wM {n K M:Nat} {q:List Tm} {l:List aw} {at_:List aI} (h:PT n K M q l) (hx:XB 8 q) (hn:n<=8) (hM:M<=12) (hK:K<=2) (hat:∀ v∈at_,Arg v/\qm 2 v) (hl:at_.length=n):Sz WW 1669 (val (at_.map dE) q):=by
 obtain ⟨v,v1,v2,v3⟩:=tr h.ok (h.Gk hx) Ky Ky hn h.len Ky Ky (fun v hv=>(hat v hv).2) hl
 have ev:val (at_.map dE) (ef l)=val (at_.map dE) q:=h.eqv _
 rw [ev] at v3
 exact eN aE v3 (Nat.le_trans (Nat.succ_le_succ (Nat.mul_le_mul hM (show K+8*(2*Int.toNat 8+1)+1<=139 by have:Int.toNat 8=8:=rfl;omega))) Ky)
theorem B0 {p p':aR} {n:Nat} {at_ pt:List aI} (hp:I2 p n 12 2 8) (hq:I2 p' n 12 2 8) (hat:∀ v∈at_,Arg v/\qm 2 v) (hl8:at_.length<=8) (hpt:∀ v∈pt,CoR 8 v) (hpl:pt.length=at_.length) (hpv:pt.map fQ=at_.map dE):aV (fun k m=>bI.l0 k m at_ at_ (at_.length:Int) (at_.length:Int) p p' pt) true:=by
 refine aV.step (fun k m=>bI.ba k m _ _ _ _ _ _ _) (aV.bF (decide_eq_false Ky) (aV.of ?_))
 have hpe:=hp.eq
 have hqe:=hq.eq
 have hn:=hp.n8
 have hpa:=JE hp.arg hq.arg hp.ok hq.ok (by rw [hpe,hqe])
 by_cases hne:(at_.length:Int)=p.1
 ·have hln:at_.length=n:=by rw [hpe] at hne;exact Int.ofNat.inj hne
  have P1:=hp.pt
  have P2:=hq.pt
  have B1:=hp.cb
  have B2:=hq.cb
  have X1:=hp.xb
  have X2:=hq.xb
  have L1:=hp.len
  have L2:=hq.len
  have V1:=hp.ok
  have V2:=hq.ok
  obtain ⟨x,x1,x2⟩:=hp.rt
  generalize hl:p.2.1=l at *
  generalize hl':p'.2.1=l' at *
  clear hl hl'
  subst hpe
  subst hqe
  have s1:=wM P1 X1 hn Ky Ky hat hln
  have s2:=wM P2 X2 hn Ky Ky hat hln
  obtain ⟨a,a1,a2⟩:=jx P1 V1 X1 Ky Ky hn Ky Ky hat hln s1 Ky
  obtain ⟨b,b1,b2⟩:=jx P2 V2 X2 Ky Ky hn Ky Ky hat hln s2 Ky
  obtain ⟨c,c1,c2⟩:=HL P1 P2 hn Ky Ky
  have c3:=vp c2 hn Ky ((B1.append B2).mono Ky) ((X1.append X2).mono Ky)
  have cv:=c2.valid hn Ky ((B1.append B2).mono Ky) ((X1.append X2).mono Ky)
  obtain ⟨m,m1,m2⟩:=CM P1 P2 X1 X2 L1 L2 hn Ky Ky Ky Ky Ky (B1.prod B2) Ky
  have mX:XB 16 (G.prod (ef l) (ef l')):=XB.prod L1 L2 X1 X2
  have mv:=m2.valid hn Ky ((B1.prod B2).mono Ky) (mX.mono Ky)
  have vs:val (at_.map dE) (ef l++ef l')=val (at_.map dE) (ef l)+val (at_.map dE) (ef l'):=G.val_add _ _ _
  have vm:val (at_.map dE) (G.prod (ef l) (ef l'))=val (at_.map dE) (ef l)*val (at_.map dE) (ef l'):=G.Gv L1 L2 X1.nn X2.nn
  obtain ⟨_,_,_,sm⟩:=kn a2 b2 s1 s2 Ky
  obtain ⟨s,t1,t2⟩:=jx c2 cv (X1.append X2) Ky Ky hn Ky Ky hat hln (L:=3339) (by rw [vs];exact eN aE (Cc s1 s2) Ky) Ky
  obtain ⟨w,w1,w2⟩:=jx m2 mv mX Ky Ky hn Ky Ky hat hln (L:=3338) (by rw [vm];exact sm) Ky
  rw [vs] at t2
  rw [vm] at w2
  obtain ⟨y,y1,y2,y3⟩:=Aa x2.ok (x2.Gk X1) Ky Ky hn x2.len Ky Ky hpt Ky
  rw [hpv,show val (at_.map dE) (ka n x)=val (at_.map dE) (ef l) from x2.eqv _] at y2 y3
  obtain ⟨oa,oa1,oa2,oa3⟩:=oO a2 s1 Ky
  obtain ⟨ob,ob1,ob2,ob3⟩:=oO b2 s2 Ky
  obtain ⟨ra,ra1,ra2,ra3⟩:=uI oa2 ob2 oa3 ob3 Ky
  obtain ⟨rm,rm1,rm2,rm3⟩:=uG oa2 ob2 oa3 ob3 Ky
  have is1:=Dv a2 s1 y2 y3 Ky Ky
  have is2:=Dv t2 (Cc s1 s2) ra2 ra3 Ky Ky
  have is3:=Dv w2 (sm) rm2 rm3 Ky Ky
  refine Ev.bind a1 (bF (by simp [hln]) (Ev.bind b1 (Ev.bind (Ev.step (fun k=>As k _ _) (Ev.bind hpa (bF rfl (Ev.bind c1 (Ev.bind c3 (aZ _)))))) (Ev.bind (Ev.step (fun k=>Aq k _ _) (Ev.bind hpa (bF rfl (Ev.bind m1 (aZ _))))) (Ev.bind (a:=false) (bF rfl (aZ _)) (Ev.bind (a:=false) (bF rfl (aZ _)) (Ev.bind (a:=false) (bF rfl (aZ _)) (Ev.bind (a:=false) (bF rfl (Ev.bind x1 (Ev.bind y1 (Ev.bind is1 (aZ _))))) (bF rfl ?_)))))))))
  exact Ev.bind t1 (Ev.bind w1 (Ev.bind (a:=true) (bT rfl (aZ _)) (Ev.bind (a:=true) (bT rfl (Ev.bind oa1 (Ev.bind ob1 (Ev.bind ra1 (Ev.bind is2 (aZ _)))))) (Ev.bind (a:=true) (bT rfl (Ev.bind oa1 (Ev.bind ob1 (Ev.bind rm1 (Ev.bind is3 (aZ _)))))) (aZ _)))))
 have h1:=yu hp.arg hp.ok hat Ky hne
 exact Ev.bind h1 (bT (by rw [bne_iff_ne];exact hne) (Ev.bind (a:=true) (bT rfl (Ev.bind z8 (aZ _))) (aZ _)))
theorem vt {p p':aR} (at_:List aI) (ha:lB p) (hb:lB p') (hv:∀ v∈at_,Arg v):Ev (fun k=>bI k p p' at_) true:=by
 refine Ev.step (fun k=>jO k p p' at_) (Ev.bind Gb (bF rfl ?_))
 obtain ⟨t,t1,t2⟩:=wC ha hb
 refine Ev.bind t1 ?_
 cases t with
 | false=>exact Ev.bind (a:=true) (bT rfl (aZ _)) (bT rfl (aZ _))
 | true =>
 obtain ⟨n,hp,hq⟩:=t2 rfl
 by_cases h8:(at_.length:Int)>8
 ·exact Ev.bind (a:=true) (bF rfl (yS h8)) (bT rfl (aZ _))
 refine Ev.bind (a:=false) (bF rfl (pj h8)) (bF rfl ?_)
 have main:=sM (n:=at_.length) (P:=fun i=>∀ pt:List aI,pt.length=i->(∀ v∈pt,CoR 8 v)->(∀ v∈at_.take i,qm 2 v)->pt.map fQ=(at_.take i).map dE->aV (fun k m=>bI.l0 k m at_ at_ (at_.length:Int) (i:Int) p p' pt) true) ?_ ?_ 0 (Nat.zero_le _) [] rfl (fun v hv=>by cases hv) (fun v hv=>by cases hv) rfl
 ·exact main.diag
 ·intro pt h1 h2 h3 h4
  rw [List.take_length] at h3 h4
  exact B0 hp hq (fun v hv'=>⟨hv v hv',h3 v hv'⟩) Ky h2 h1 h4
 intro i hi ih pt h1 h2 h3 h4
 have e:(dM (t:=aj) at_ (i:Int):aI)=at_[i]:=dF hi
 obtain ⟨s,s1,s2⟩:=FD (hv _ (List.getElem_mem hi))
 refine aV.step (fun k m=>bI.ba k m _ _ _ _ _ _ _) (aV.bT (decide_eq_true Ky) (aV.iT Ky ?_))
 rw [e]
 refine aV.bind s1 ?_
 cases s with
 | false=>exact aV.bT rfl (aV.of (aZ _))
 | true =>
  obtain ⟨-,c,c1,c2⟩:=s2 rfl
  obtain ⟨d,d1,d2,d3⟩:=oO c1 c2 Ky
  refine aV.bF rfl (aV.bind d1 (aV.iT (by simp only [List.length_cons,List.length_nil];omega) ?_))
  rw [iX Ky]
  refine ih (pt++[d]) (by simp [h1]) (fun v hv'=>?_) (fun v hv'=>?_) ?_
  ·rcases List.mem_append.1 hv' with h | h
   ·exact h2 v h
   rw [List.mem_singleton] at h;subst h
   exact ⟨c,d2,d3⟩
  ·rw [List.take_succ_eq_append_getElem hi] at hv'
   rcases List.mem_append.1 hv' with h | h
   ·exact h3 v h
   rw [List.mem_singleton] at h;subst h
   exact ⟨c,c1,c2⟩
  rw [List.map_append,h4,List.take_succ_eq_append_getElem hi,List.map_append]
  show _++[fQ d]=_++[dE at_[i]]
  rw [yp d2,oP c1]
end Go.Proofs.YtfbgaddecbiimaaGreatDoor.Q
end
section
namespace Go.Proofs.YtfbgaddecbiimaaGreatDoor.polyValues
open Go.ChangeShapes Go.WideShapes Go.ChangeAt Go.RowKit
open Go.ChangeMaps (open_string shut_string)
open Go.Proofs.YtfbgaddecbiimaaGreatDoor.V Go.Proofs.YtfbgaddecbiimaaGreatDoor.E
theorem own:ownKnob Tryz.prog.godebug=none:=by kernel_rfl
theorem laidOut:laidOutB Tryz.prog=true:=by kernel_rfl
def B5:DataW Unit->Array Value
 | .agg l=>(l.map fun d=>match d with
  | .lit (.int k n)=>Value.int k n
  | _=>undef).toArray
 | _=>#[]
noncomputable def xw (os:Os):World :=
 let w0:=World.holding Tryz.prog os ⟨#[],#[],[]⟩
 { w0 with heap:=((w0.heap.modify 2 fun
  | .cells _ t frozen=>.cells (B5 Rows.laid_math_bits_deBruijn32tab) t frozen
  | o=>o).modify 3 fun
  | .cells _ t frozen=>.cells (B5 Rows.laid_math_bits_deBruijn64tab) t frozen
  | o=>o).modify 0 fun
  | .cells _ t frozen=>.cells (B5 Rows.laid_internal_strconv_uint64pow10) t frozen
  | o=>o }
theorem HU (os:Os) (args:Array Value):laidMet Tryz.prog Rows.polyValuesRow.laid ((xw os).forCall (fun _ _=>0) ⟨#[],args,[]⟩).memory :=
 laidMet_of_run' 8 (by kernel_rfl) (by kernel_rfl)
theorem lifted (os:Os) (started:os.Started) (H:Type) (enc:TypeId×Value->H) :
 ReturnsInHanded {} Tryz.checked os 6 .any (fun w args=>(Rows.polyValuesSpec.pre enc Tryz.prog Tryz.f6 Rows.polyValuesRow.domain false w args/\laidMet Tryz.prog Rows.polyValuesRow.laid w)/\sizedMet enc Tryz.prog Tryz.f6 (OpenSpec.ofChange Rows.polyValuesSpec) false w args)
  (Rows.polyValuesSpec.post enc Tryz.prog Tryz.f6 false true false false):=by
 refine returnsInHanded_of_change_and (C:=Tryz.checked) (X:=fun w _=>laidMet Tryz.prog Rows.polyValuesRow.laid w) (fun _ _ _ hh h=>h.of_heap hh) own started (by kernel_rfl) Tryz.func6
  (ChangeSpec.witness_at (enc:=enc) (C:=Tryz.checked) (os:=os) (X:=fun w _=>laidMet Tryz.prog Rows.polyValuesRow.laid w) false (xw os) #[.agg #[.int .i64 0,.slice none 0 0],.agg #[.int .i64 0,.slice none 0 0],.slice none 0 0] 8 rfl (by kernel_rfl) (by kernel_rfl) (by kernel_rfl) (by kernel_rfl) (by kernel_rfl) (HU os _)) ?_
 intro W base args ds gs before hval0 hW _ hsz0 hL _
 have hval:∀ (j:Nat) t v,Tryz.f6.params[j]?=some t->args[j]?=some v->Value.okWide Tryz.prog W .any base t v:=hval0
 have hW':=hW
 obtain ⟨p,q,hA0,hV,rfl,hfz,hnd⟩:=hW
 have hA:DataW.TrodAll enc Tryz.prog W 0 (fun _=>true) true Tryz.f6.params.toList args.toList ds p:=hA0
 rw [Tryz.params6] at hA hval
 obtain ⟨v0,vs0,d0,ds0,p0,q0,hargs,rfl,rfl,h0,r0⟩:=trodAll_cons hA
 obtain ⟨v1,vs1,d1,ds1,p1,q1,rfl,rfl,rfl,h1,r1⟩:=trodAll_cons r0
 obtain ⟨v2,vs2,d2,ds2,p2,q2,rfl,rfl,rfl,h2,r2⟩:=trodAll_cons r1
 obtain ⟨rfl,rfl,rfl⟩:=trodAll_nil r2
 obtain rfl:args = #[v0,v1,v2]:=by cases args;simp_all
 obtain ⟨rfl,rfl⟩:=trodVars_none hV
 have k0:=h0
 have lt0:∀ x∈p0,x.block<W.heap.size:=by obtain ⟨m,hm⟩:=k0;exact DataW.trod_lt m _ _ _ hm
 obtain ⟨y0,f0,g0⟩:=zc Q.xU (n:=16) (t:=24) (c:=af) (by kernel_rfl) (by kernel_rfl) (hval 0 24 v0 rfl rfl) h0
 have k1:=h1
 have lt1:∀ x∈p1,x.block<W.heap.size:=by obtain ⟨m,hm⟩:=k1;exact DataW.trod_lt m _ _ _ hm
 obtain ⟨y1,f1,g1⟩:=zc Q.xU (n:=16) (t:=24) (c:=af) (by kernel_rfl) (by kernel_rfl) (hval 1 24 v1 rfl rfl) h1
 have k2:=h2
 have lt2:∀ x∈p2,x.block<W.heap.size:=by obtain ⟨m,hm⟩:=k2;exact DataW.trod_lt m _ _ _ hm
 obtain ⟨y2,f2,g2⟩:=zc Q.xU (n:=16) (t:=57) (c:=(.list aj)) (by kernel_rfl) (by kernel_rfl) (hval 2 57 v2 rfl rfl) h2
 clear hA0 hval0 hsz0
 obtain ⟨k,hk⟩:=(Q.vt y2 (Q.BP f0) (Q.BP f1) (fun v hv=>Q.EY (f2.2 v hv))).rounds
 obtain ⟨_,pv,hp,hF⟩:=(Bt Q.xU orc_ok Q.mixed Q.noGo k).fn 6 [.v af y0,.v af y1,.v (.list aj) y2] true rfl hk
 obtain rfl:=Option.some.inj hp
 refine (hF (fun b=>b<W.heap.size) W #[v0,v1,v2] (fun b h=>h) rfl (fun i h=>?_)).mono fun e W' ⟨v,he,bel,hv⟩=>?_
 ·match i,h with
  | 0,h=>exact g0
  | 1,h=>exact g1
  | 2,h=>exact g2
  | i+3,h=>exact absurd h (by simp only [List.length_map,List.length_cons,List.length_nil];omega)
 have hb:=gw hv
 subst hb
 subst he
 exact ⟨_,rfl,_,_,_,[],_,[],hW',trodAll_mk1 (shut_bool Tryz.underlying4 _),(trodAll_cons_mk (Below.trod laidOut (by kernel_rfl) (of_decide_eq_true (by kernel_rfl)) k0 bel lt0) (trodAll_cons_mk (Below.trod laidOut (by kernel_rfl) (of_decide_eq_true (by kernel_rfl)) k1 bel lt1) (trodAll_cons_mk (Below.trod laidOut (by kernel_rfl) (of_decide_eq_true (by kernel_rfl)) k2 bel lt2) trodAll_mk0))),rfl,bel.frame _,fun h=>by cases h⟩
theorem over:Rows.polyValuesRow.holds Tryz.pinned (OpenSpec.ofChange Rows.polyValuesSpec) :=
 OpenClaim.holds_of_wide 6 Tryz.f6 rfl rfl rfl rfl rfl rfl rfl ⟨rfl,rfl,rfl,rfl,rfl⟩ rfl rfl rfl rfl rfl (by kernel_rfl) Tryz.func6 (by kernel_rfl)
  (of_decide_eq_true (by kernel_rfl)) (by unfold Func.isWrapper;first | (rw [if_pos (by decide +kernel)];kernel_rfl) | (rw [if_neg (by decide +kernel)];exact ⟨rfl,rfl⟩))
  (fun os started H enc _=>lifted os started H enc)
theorem proved:Rows.PolyValuesCardSaid :=
 Claim7.holds_tied_plain_at .later [] [.data,.data,.data] true (true,"7c1c4094e72754773423f799c4afd1ed3b246fc2b5dc0deefca3ede80156512f") false
  over (fun _ h=>by cases h) (by kernel_rfl) (fun _ h=>by cases h) polyValues_row_tie rfl ⟨rfl,rfl⟩ (by kernel_rfl) rfl
  (fun f fn hf hfn=>by
   obtain rfl:f=6:=Option.some.inj ((show Tryz.prog.funcNamed "isochrone/isochronelaw03.PolyValues" = some 6 by kernel_rfl).symm.trans hf) |>.symm
   obtain rfl:fn=Tryz.f6:=(Option.some.inj (Tryz.func6.symm.trans hfn)).symm
   exact ⟨by kernel_rfl,fun j t ht=>by
    rw [Tryz.params6] at ht
    have ht2:t=24∨t=57:=by
     match j,ht with
     | 0,ht=>simp at ht;subst ht;simp
     | 1,ht=>simp at ht;subst ht;simp
     | 2,ht=>simp at ht;subst ht;simp
     | j+3,ht=>simp at ht
    rcases ht2 with rfl | rfl
    ·exact (show Tryz.prog.wantsStandIn 24=false by kernel_rfl)
    exact (show Tryz.prog.wantsStandIn 57=false by kernel_rfl)⟩)
  (by kernel_rfl)
#print axioms proved
end Go.Proofs.YtfbgaddecbiimaaGreatDoor.polyValues
namespace Go.Proofs.YtfbgaddecbiimaaGreatDoor
theorem polyValues_holds:Rows.PolyValuesCardSaid:=polyValues.proved
end Go.Proofs.YtfbgaddecbiimaaGreatDoor
end
