/- Pow is the power, 1 for exponent 0, ErrRange outside 0 to MaxDegree, and ErrLimit if the degree of the power is greater than MaxDegree (the last of 6 texts). No condition beyond the statement's own. -/
import Derived.Test.YtfbgaddecbiimaaGreatDoorPPowers5
set_option linter.unusedSimpArgs false
set_option linter.unusedSectionVars false
set_option linter.unusedVariables false
set_option maxRecDepth 100000
set_option maxHeartbeats 4000000
section
namespace Go.Proofs.YtfbgaddecbiimaaGreatDoor.Q
open Go.RowKit Go.Proofs.YtfbgaddecbiimaaGreatDoorW.PrintWords Go.Proofs.YtfbgaddecbiimaaGreatDoorW.PrintMore Go.Proofs.YtfbgaddecbiimaaGreatDoor.V Go.Proofs.YtfbgaddecbiimaaGreatDoor.E
open Go.Proofs.YtfbgaddecbiimaaGreatDoor.P (Dg Nm vl WW RR bC gI evs evk evb fa aO bH bh w64 u64)
theorem pad_take {x:List Int} (h:x.length<=8) {j:Nat} (hj:j<x.length):(fF (x.take j)).set j x[j]=fF (x.take (j+1)):=by
 have e1:(x.take j).length=j:=by rw [List.length_take];omega
 have e2:(x.take (j+1)).length=j+1:=by rw [List.length_take];omega
 rw [fF,fF,cx _ _ _ F3,cx _ _ _ F3,e1,e2,List.take_succ_eq_append_getElem hj]
 obtain ⟨d,hd⟩:∃ d,8-j=d+1:=⟨8-j-1,F3⟩
 rw [hd,show 8-(j+1)=d by omega,List.replicate_succ,List.set_append_right _ _ F3,e1,Nat.sub_self,List.append_assoc]
 rfl
noncomputable def Eu (p:aT) (i:Nat):List Int:=match i with
 | 0=>List.replicate 8 (0:Int)
 | i+1=>fF (tmA p i).1
theorem kC (v:cf) (N:Nat):Ev (fun k=>cw k v (N:Int)) (decide (v.2.1.length<=N/\v.2.2.1.length<=N)):=vU v N
section
variable {p:aT} {i:Nat}
theorem Dx (ha:xw p) (h8:p.1<=8) (hi:i<p.2.1.length) (hp:0<i->((tmA p (i-1)).1.length:Int)=p.1) {r:Bool} (hr:sC p i->Ev2 (fun k m=>aQ.l0 k m p.2.1 (p.2.1.length:Int) ((i+1:Nat):Int) p (Eu p (i+1))) r) (hf:¬ sC p i->r=false) :
 Ev2 (fun k m=>aQ.l0 k m p.2.1 (p.2.1.length:Int) (i:Int) p (Eu p i)) r:=by
 have hlen:=ha.1
 have harg:=xA ha hi
 refine Ev2.step (fun k m=>aQ.aV k m _ _ _ _ _) (Ev2.bT (decide_eq_true F3) (Ev2.iT F3 ?_))
 by_cases c1:((tmA p i).1.length:Int)=p.1
 ·have b1:((List.length (tmA p i).1:Int) != p.1)=false:=by simp [c1]
  have hsh:Ev (fun k=>cw k (tmA p i).2.1 (200:Int)) _:=kC (tmA p i).2.1 200
  by_cases c2:(tmA p i).2.1.2.1.length<=200/\(tmA p i).2.1.2.2.1.length<=200
  ·rw [decide_eq_true c2] at hsh
   have hv:=vS harg.2
   by_cases c3:Vd (tmA p i).2.1
   ·rw [fk c3] at hv
    have hvn:VN 200 (tmA p i).2.1:=(zh F3 harg.2).2 ⟨c2,c3⟩
    by_cases c4:(tmA p i).2.1.2.1.length=0
    ·rw [hf (fun h=>h.1.ne c4)]
     exact Ev2.bind (a:=false) (bF b1 (Ev.bind hsh (evs _))) (Ev2.bind (a:=false) (bF rfl (Ev.bind hv (evs _))) (Ev2.bind (a:=true) (bF rfl (by rw [show ((List.length (tmA p i).2.1.2.1:Int)==(0:Int))=true by simp [c4]];exact evs _)) (Ev2.bT rfl (Ev2.of (evs _)))))
    have c4':((List.length (tmA p i).2.1.2.1:Int)==(0:Int))=false:=by simp;intro h;exact c4 (by rw [h];rfl)
    refine Ev2.bind (a:=false) (bF b1 (Ev.bind hsh (evs _))) (Ev2.bind (a:=false) (bF rfl (Ev.bind hv (evs _))) (Ev2.bind (a:=false) (bF rfl (by rw [c4'];exact evs _)) (Ev2.bF rfl ?_)))
    have hx8:(tmA p i).1.length<=8:=F3
    have key:=dnw (n:=(tmA p i).1.length) (P:=fun j=>(∀ j' (h:j'<(tmA p i).1.length),j'<j->0<=(tmA p i).1[j']/\(tmA p i).1[j']<=40)->Ev3 (fun k m1 m0=>aQ.l1 k m1 m0 (i:Int) p.2.1 (p.2.1.length:Int) (i:Int) (tmA p i).1 ((tmA p i).1.length:Int) (j:Int) p (Eu p i) (fF ((tmA p i).1.take j))) r) ?_ ?_ 0 (Nat.zero_le _) (fun j' _ h=>F3)
    ·exact key.diag
    ·intro hg
     have hall:∀ x∈(tmA p i).1,0<=x/\x<=40:=fun x hx=>by
      obtain ⟨j',h1,rfl⟩:=List.getElem_of_mem hx
      exact hg j' h1 h1
     rw [List.take_length]
     have hb8:∀ x∈fF (tmA p i).1,0<=x/\x<=1000000:=fun x hx=>by
      rw [fF,cx _ _ _ hx8,List.mem_append,List.mem_replicate] at hx
      rcases hx with hx | hx
      ·have:=hall x hx;omega
      omega
     have ht:=kB (fF (tmA p i).1) (dw _ _ _) hb8
     rw [sE_pad hx8] at ht
     refine Ev3.step (fun k m1 m0=>aQ.dN k m1 m0 _ _ _ _ _ _ _ _ _ _) (Ev3.bF (decide_eq_false F3) (Ev3.bind ht (Ev3.of ?_)))
     by_cases d1:sE (tmA p i).1>40
     ·rw [hf (fun h=>by have:=h.1.sum;omega)]
      exact Ev2.bind (a:=true) (bT (decide_eq_true d1) (evs _)) (Ev2.bT rfl (Ev2.of (evs _)))
     have h2:Ev (fun k=>(bif decide ((i:Int)>(0:Int)) then (bm k (Eu p i) (fF (tmA p i).1)).bind fun (v10:Bool)=>some (!v10) else some false)) (dc (¬ (0<i->eO (tmA p (i-1)).1 (tmA p i).1>0))):=by
      cases i with
      | zero =>
       rw [dj (fun h=>h (fun h'=>absurd h' F3))]
       exact bF (decide_eq_false F3) (evs _)
      | succ i0 =>
       have hpl:=hp F3
       rw [Nat.add_sub_cancel] at hpl ⊢
       have hbf:=nh (fF (tmA p i0).1) (fF (tmA p (i0+1)).1) (dw _ _ _) (dw _ _ _)
       rw [AF F3 F3] at hbf
       have:(!decide (eO (tmA p i0).1 (tmA p (i0+1)).1>0))=dc (¬ (0<i0+1->eO (tmA p i0).1 (tmA p (i0+1)).1>0)):=E0 (by
        rw [Bool.not_eq_true',decide_eq_false_iff_not]
        exact ⟨fun h h'=>h (h' F3),fun h h'=>h (fun _=>h')⟩)
       rw [<- this]
       exact bT (decide_eq_true F3) (Ev.bind hbf (evs _))
     by_cases d2:(0<i->eO (tmA p (i-1)).1 (tmA p i).1>0)
     ·rw [dj (fun h=>h d2)] at h2
      refine Ev2.bind (a:=false) (bF (decide_eq_false d1) (Ev.bind h2 (evs _))) (Ev2.bF rfl ?_)
      rw [mi F3]
      exact hr ⟨⟨c1,hall,F3,hvn,c4⟩,d2⟩
     rw [fk d2] at h2
     rw [hf (fun h=>d2 h.2)]
     exact Ev2.bind (a:=true) (bF (decide_eq_false d1) (Ev.bind h2 (evs _))) (Ev2.bT rfl (Ev2.of (evs _)))
    intro j hj ih hg
    have e1:(rdT (t:=(.int .i64)) (tmA p i).1 (j:Int):Int)=(tmA p i).1[j]:=cT hj
    refine Ev3.step (fun k m1 m0=>aQ.dN k m1 m0 _ _ _ _ _ _ _ _ _ _) (Ev3.bT (decide_eq_true F3) (Ev3.iT F3 ?_))
    rw [e1]
    by_cases g1:0<=(tmA p i).1[j]/\(tmA p i).1[j]<=40
    ·refine Ev3.bind (a:=false) (bF (decide_eq_false (show ¬ (tmA p i).1[j]<0 by omega)) (xf (show ¬ (tmA p i).1[j]>40 by omega))) (Ev3.bF rfl (Ev3.iT F3 ?_))
     rw [C8 (dw _ _ _) F3,pad_take hx8 hj,mi F3]
     exact ih (fun j' h1 h2=>by
      by_cases c:j'=j
      ·subst c;exact g1
      exact hg j' h1 F3)
    rw [hf (fun h=>g1 (h.1.ex _ (List.getElem_mem hj)))]
    refine Ev3.bind (a:=true) ?_ (Ev3.bT rfl (Ev3.of (Ev2.of (evs _))))
    by_cases g2:(tmA p i).1[j]<0
    ·exact bT (decide_eq_true g2) (evs _)
    exact bF (decide_eq_false g2) (ET (show (tmA p i).1[j]>40 by omega))
   rw [dj c3] at hv
   rw [hf (fun h=>c3 ((zh F3 harg.2).1 h.1.co).2)]
   exact Ev2.bind (a:=false) (bF b1 (Ev.bind hsh (evs _))) (Ev2.bind (a:=true) (bF rfl (Ev.bind hv (evs _))) (Ev2.bind (a:=true) (bT rfl (evs _)) (Ev2.bT rfl (Ev2.of (evs _)))))
  rw [decide_eq_false c2] at hsh
  rw [hf (fun h=>c2 (vn_len h.1.co))]
  exact Ev2.bind (a:=true) (bF b1 (Ev.bind hsh (evs _))) (Ev2.bind (a:=true) (bT rfl (evs _)) (Ev2.bind (a:=true) (bT rfl (evs _)) (Ev2.bT rfl (Ev2.of (evs _)))))
 have b1:((List.length (tmA p i).1:Int) != p.1)=true:=by simp [c1]
 rw [hf (fun h=>c1 h.1.len)]
 exact Ev2.bind (a:=true) (bT b1 (evs _)) (Ev2.bind (a:=true) (bT rfl (evs _)) (Ev2.bind (a:=true) (bT rfl (evs _)) (Ev2.bT rfl (Ev2.of (evs _)))))
theorem jJ (ha:xw p):Ev (fun k=>aQ k p) (dc (dI p)):=by
 have hlen:=ha.1
 by_cases c0:p.1<0
 ·rw [dj (fun h=>by have:=h.n0;omega)]
  exact Ev.step (fun k=>dD k p) (Ev.bind (a:=true) (bT (decide_eq_true c0) (evs _)) (Ev.bind (a:=true) (bT rfl (evs _)) (bT rfl (evs _))))
 by_cases c8:p.1>8
 ·rw [dj (fun h=>by have:=h.n8;omega)]
  exact Ev.step (fun k=>dD k p) (Ev.bind (a:=true) (bF (decide_eq_false c0) (ET c8)) (Ev.bind (a:=true) (bT rfl (evs _)) (bT rfl (evs _))))
 by_cases c4:p.2.1.length>4000
 ·rw [dj (fun h=>by have:=h.few;omega)]
  exact Ev.step (fun k=>dD k p) (Ev.bind (a:=false) (bF (decide_eq_false c0) (xf c8)) (Ev.bind (a:=true) (bF rfl (ET F3)) (bT rfl (evs _))))
 refine Ev.step (fun k=>dD k p) (Ev.bind (a:=false) (bF (decide_eq_false c0) (xf c8)) (Ev.bind (a:=false) (bF rfl (xf F3)) (bF rfl (Ev2.diag (g:=fun k m=>aQ.l0 k m p.2.1 (p.2.1.length:Int) (0:Int) p (List.replicate 8 (0:Int))) ?_))))
 have main:=dnw (n:=p.2.1.length) (P:=fun i=>(∀ j,j<i->sC p j)->Ev2 (fun k m=>aQ.l0 k m p.2.1 (p.2.1.length:Int) (i:Int) p (Eu p i)) (dc (dI p))) ?_ ?_ 0 (Nat.zero_le _) (fun j h=>F3)
 ·exact main
 ·intro hg
  rw [fk ⟨F3,F3,F3,hg⟩]
  exact Ev2.step (fun k m=>aQ.aV k m _ _ _ _ _) (Ev2.bF (decide_eq_false F3) (Ev2.of (evs _)))
 intro i hi ih hg
 refine Dx ha F3 hi (fun h0=>(hg (i-1) F3).1.len) (fun h=>ih (fun j hj=>?_)) (fun h=>dj (fun hv=>h (hv.good i hi)))
 by_cases c:j=i
 ·rw [c];exact h
 exact hg j F3
end
end Go.Proofs.YtfbgaddecbiimaaGreatDoor.Q
end
section
namespace Go.Proofs.YtfbgaddecbiimaaGreatDoor.Q
open Go.RowKit Go.Proofs.YtfbgaddecbiimaaGreatDoor.V Go.Proofs.YtfbgaddecbiimaaGreatDoor.E
theorem Fm (k:Nat):fz (k+60)=some true:=by
 kernel_rfl
open Go.Proofs.YtfbgaddecbiimaaGreatDoorW.PrintWords Go.Proofs.YtfbgaddecbiimaaGreatDoorW.PrintMore
open Go.Proofs.YtfbgaddecbiimaaGreatDoor.P (Dg Nm vl WW RR bC gI evs evk evb fa aO bH bh w64 u64)
theorem Fp:Ev (fun k=>fz k) true:=⟨60,fun k hk=>by
 obtain ⟨j,rfl⟩:∃ j,k=j+60:=⟨k-60,F3⟩
 exact Fm j⟩
abbrev sR:aT:=((0:Int),[],())
theorem zT:Ev (fun k=>eN k sR) true:=Ev.step (fun k=>ko k _) (Ev.bind (a:=true) (bT rfl (evs _)) (evs _))
abbrev three:cf:=(false,[3],[1],())
theorem arg_poly {y:aT} (h:Fine ah y):xw y:=by
 obtain ⟨_,⟨h1,h2⟩,_⟩:=h
 exact ⟨h1,fun t ht=>⟨(h2 t ht).1.1,arg_rat (h2 t ht).2.1⟩⟩
theorem cpy_pad {x:List Int} (h:x.length<=8):cpy (List.replicate 8 (0:Int)) x=fF x:=by
 rw [fF,cx _ _ _ h]
 simp only [cpy,List.length_replicate,Nat.min_eq_left h,List.take_length,List.drop_replicate]
def RelT (t u:aw):Prop:=u.1=fF t.1/\∃ q,RB WW t.2.1 q/\RB RR u.2.1 q/\Sz WW 200 q/\Sz RR 800 q
section
variable {p:aT}
theorem DB (ha:xw p) (hv:dI p):∃ r:List aw,Ev (fun k=>bJ k p) r/\r.length=p.2.1.length/\∀ i (h:i<r.length),RelT (tmA p i) r[i]:=by
 have hfew:=hv.few
 have main:=dnw (n:=p.2.1.length) (P:=fun i=>∀ acc:List aw,acc.length=i->∃ r:List aw,r.length=p.2.1.length-i/\(∀ j (h:j<r.length),RelT (tmA p (i+j)) r[j])/\Ev2 (fun k m=>bJ.l0 k m p.2.1 (p.2.1.length:Int) (i:Int) acc) (acc++r)) ?_ ?_ 0 (Nat.zero_le _) [] rfl
 ·obtain ⟨r,h1,h2,h3⟩:=main
  refine ⟨r,Ev.step (fun k=>lW k p) h3.diag,F3,fun i h=>?_⟩
  have:=h2 i h
  rwa [Nat.zero_add] at this
 ·intro acc hacc
  exact ⟨[],F4,fun j h=>by simp at h,Ev2.step (fun k m=>bJ.aV k m _ _ _ _) (Ev2.bF (decide_eq_false F3) (by rw [List.append_nil];exact Ev2.of (evs _)))⟩
 intro i hi ih acc hacc
 obtain ⟨⟨c1,c2,c3,c4,c5⟩,_⟩:=hv.good i hi
 have h8:(tmA p i).1.length<=8:=by have:=hv.n8;omega
 obtain ⟨q,q1,q2⟩:=c4
 obtain ⟨v,v1,v2,v3⟩:=DA q1 q2 F3
 obtain ⟨r,r1,r2,r3⟩:=ih (acc++[(fF (tmA p i).1,v,())]) (by simp [hacc])
 refine ⟨(fF (tmA p i).1,v,()) :: r,by simp only [List.length_cons];omega,fun j h=>?_,?_⟩
 ·cases j with
  | zero=>exact ⟨rfl,q,q1,v2,q2,v3⟩
  | succ j =>
   have:=r2 j (by simpa using h)
   rw [show i+1+j=i+(j+1) by omega] at this
   exact this
 refine Ev2.step (fun k m=>bJ.aV k m _ _ _ _) (Ev2.bT (decide_eq_true F3) (Ev2.iT F3 (Ev2.iT F4 (Ev2.bind v1 (Ev2.iT ?_ ?_)))))
 ·simp only [List.length_cons,List.length_nil];omega
 rw [show cpy (List.replicate 8 (0:Int)) (rdT (t:=ai) p.2.1 (i:Int):aw).1=fF (tmA p i).1 from cpy_pad h8,mi F3]
 rw [show acc++(fF (tmA p i).1,v,()) :: r=(acc++[(fF (tmA p i).1,v,())])++r by simp]
 exact r3
theorem sK {r:List aw} (hl:r.length<=9223372036854775807) (h:∀ i (h:i<r.length),r[i].1.length=8/\∀ x∈r[i].1,0<=x/\x<=1000000):∃ d,Ev (fun k=>aR k r) d:=by
 have main:=dnw (n:=r.length) (P:=fun i=>∀ x:Int,∃ d,Ev2 (fun k m=>aR.l0 k m x r (r.length:Int) (i:Int)) d) ?_ ?_ 0 (Nat.zero_le _) (-1)
 ·obtain ⟨d,hd⟩:=main
  exact ⟨d,Ev.step (fun k=>fR k r) hd.diag⟩
 ·exact fun x=>⟨x,Ev2.step (fun k m=>aR.aV k m _ _ _ _) (Ev2.bF (decide_eq_false F3) (Ev2.of (evs _)))⟩
 intro i hi ih x
 obtain ⟨d,hd⟩:=ih (mx x (sE r[i].1))
 have e:(rdT (t:=af) r (i:Int):aw)=r[i]:=cT hi
 refine ⟨d,Ev2.step (fun k m=>aR.aV k m _ _ _ _) (Ev2.bT (decide_eq_true F3) (Ev2.iT F3 ?_))⟩
 rw [e]
 refine Ev2.bind (kB _ (h i hi).1 (h i hi).2) ?_
 rw [mi F3]
 exact hd
theorem DT {x:List Int} (h8:x.length<=8) (h:∀ y∈x,0<=y/\y<=40):∀ y∈fF x,0<=y/\y<=1000000:=fun y hy=>by
 rw [fF,cx _ _ _ h8,List.mem_append,List.mem_replicate] at hy
 rcases hy with hy | hy
 ·have:=h y hy;omega
 omega
structure AM (p:aT) (a c:Nat):Prop where
 ok:dI p
 few:p.2.1.length<=a
 short:∀ i,i<p.2.1.length->(tmA p i).2.1.2.1.length<=c/\(tmA p i).2.1.2.2.1.length<=c
theorem vT (ha:xw p) (a c:Nat) (b:Int):∃ t,Ev (fun k=>bb k p (a:Int) b (c:Int)) t/\(t=true->AM p a c):=by
 have hlen:=ha.1
 by_cases c0:p.1<0
 ·exact ⟨false,Ev.step (fun k=>cZ k p _ _ _) (Ev.bind (a:=true) (bT (decide_eq_true c0) (evs _)) (Ev.bind (a:=true) (bT rfl (evs _)) (bT rfl (evs _)))),fun h=>by cases h⟩
 by_cases c8:p.1>8
 ·exact ⟨false,Ev.step (fun k=>cZ k p _ _ _) (Ev.bind (a:=true) (bF (decide_eq_false c0) (ET c8)) (Ev.bind (a:=true) (bT rfl (evs _)) (bT rfl (evs _)))),fun h=>by cases h⟩
 by_cases c4:p.2.1.length>a
 ·exact ⟨false,Ev.step (fun k=>cZ k p _ _ _) (Ev.bind (a:=false) (bF (decide_eq_false c0) (xf c8)) (Ev.bind (a:=true) (bF rfl (ET F3)) (bT rfl (evs _)))),fun h=>by cases h⟩
 have fin:∃ t,Ev (fun k=>(aQ k p).bind fun (v4:Bool) =>
  (bif v4 then (bJ k p).bind fun (v5:List aw) =>
  (aR k v5).bind fun (v6:Int) =>
  some (decide (v6<=b)) else some false).bind fun (b7:Bool) =>
  some b7) t/\(t=true->dI p):=by
  by_cases hv:dI p
  ·have h1:=jJ ha
   rw [fk hv] at h1
   obtain ⟨r,r1,r2,r3⟩:=DB ha hv
   obtain ⟨d,hd⟩:=sK (r:=r) (by have:=hv.few;omega) (fun i h=>by
    obtain ⟨g1,_⟩:=hv.good i F3
    have h8:(tmA p i).1.length<=8:=by have:=hv.n8;have:=g1.len;omega
    rw [(r3 i h).1]
    exact ⟨dw _ _ _,DT h8 g1.ex⟩)
   exact ⟨decide (d<=b),Ev.bind h1 (Ev.bind (bT rfl (Ev.bind r1 (Ev.bind hd (evs _)))) (evs _)),fun _=>hv⟩
  have h1:=jJ ha
  rw [dj hv] at h1
  exact ⟨false,Ev.bind h1 (Ev.bind (a:=false) (bF rfl (evs _)) (evs _)),fun h=>by cases h⟩
 obtain ⟨t0,f1,f2⟩:=fin
 have main:=dnw (n:=p.2.1.length) (P:=fun i=>∃ t,Ev2 (fun k m=>bb.l0 k m b (c:Int) p.2.1 (p.2.1.length:Int) (i:Int) p) t/\(t=true->dI p/\∀ j,i<=j->j<p.2.1.length->(tmA p j).2.1.2.1.length<=c/\(tmA p j).2.1.2.2.1.length<=c)) ?_ ?_ 0 (Nat.zero_le _)
 ·obtain ⟨t,h1,h2⟩:=main
  refine ⟨t,Ev.step (fun k=>cZ k p _ _ _) (Ev.bind (a:=false) (bF (decide_eq_false c0) (xf c8)) (Ev.bind (a:=false) (bF rfl (xf F3)) (bF rfl h1.diag))),fun h=>⟨(h2 h).1,F3,fun i hi=>(h2 h).2 i (Nat.zero_le _) hi⟩⟩
 ·exact ⟨t0,Ev2.step (fun k m=>bb.aV k m _ _ _ _ _ _) (Ev2.bF (decide_eq_false F3) (Ev2.of f1)),fun h=>⟨f2 h,fun j h1 h2=>F3⟩⟩
 intro i hi ⟨t,h1,h2⟩
 have hsh:Ev (fun k=>cw k (tmA p i).2.1 (c:Int)) _:=kC (tmA p i).2.1 c
 by_cases d:(tmA p i).2.1.2.1.length<=c/\(tmA p i).2.1.2.2.1.length<=c
 ·rw [decide_eq_true d] at hsh
  refine ⟨t,Ev2.step (fun k m=>bb.aV k m _ _ _ _ _ _) (Ev2.bT (decide_eq_true F3) (Ev2.iT F3 (Ev2.bind hsh (Ev2.bF rfl ?_)))),fun h=>⟨(h2 h).1,fun j g1 g2=>?_⟩⟩
  ·rw [mi F3];exact h1
  by_cases e:j=i
  ·rw [e];exact d
  exact (h2 h).2 j F3 g2
 rw [decide_eq_false d] at hsh
 exact ⟨false,Ev2.step (fun k m=>bb.aV k m _ _ _ _ _ _) (Ev2.bT (decide_eq_true F3) (Ev2.iT F3 (Ev2.bind hsh (Ev2.bT rfl (Ev2.of (evs _)))))),fun h=>by cases h⟩
end
section
variable {a b:aT}
def FewW (p:aT):Prop:=p.2.1.length<=9223372036854775807/\∀ i,i<p.2.1.length->(tmA p i).1.length<=9223372036854775807/\(tmA p i).2.1.2.1.length<4611686018427387904/\(tmA p i).2.1.2.2.1.length<4611686018427387904
theorem vW (hf:FewW a):Ev (fun k=>aF k a b) (dc (a.1=b.1/\a.2.1=b.2.1)):=by
 obtain ⟨hlen,hfw⟩:=hf
 by_cases c1:a.1=b.1
 ·by_cases c2:a.2.1.length=b.2.1.length
  ·refine Ev.step (fun k=>eW k a b) (Ev.bind (a:=false) (bF (by simp [c1]) (by rw [show ((List.length a.2.1:Int) != (List.length b.2.1:Int))=false by simp [c2]];exact evs _)) (bF rfl (Ev2.diag (g:=fun k m=>aF.l0 k m a.2.1 (a.2.1.length:Int) (0:Int) b) ?_)))
   have bad:∀ i,i<a.2.1.length->tmA a i≠tmA b i->dc (a.1=b.1/\a.2.1=b.2.1)=false:=fun i hi h=>dj (fun g=>h (by show rdT (t:=ai) a.2.1 (i:Int)=rdT (t:=ai) b.2.1 (i:Int);rw [g.2]))
   have main:=dnw (n:=a.2.1.length) (P:=fun i=>(∀ j,j<i->tmA a j=tmA b j)->Ev2 (fun k m=>aF.l0 k m a.2.1 (a.2.1.length:Int) (i:Int) b) (dc (a.1=b.1/\a.2.1=b.2.1))) ?_ ?_ 0 (Nat.zero_le _) (fun j h=>F3)
   ·exact main
   ·intro hg
    rw [fk ⟨c1,List.ext_getElem c2 (fun i h1 h2=>by
     have:=hg i h1
     rw [show tmA a i=a.2.1[i] from cT h1,show tmA b i=b.2.1[i] from cT h2] at this
     exact this)⟩]
    exact Ev2.step (fun k m=>aF.aV k m _ _ _ _) (Ev2.bF (decide_eq_false F3) (Ev2.of (evs _)))
   intro i hi ih hg
   obtain ⟨f1,f2,f3⟩:=hfw i hi
   refine Ev2.step (fun k m=>aF.aV k m _ _ _ _) (Ev2.bT (decide_eq_true F3) (Ev2.iT F3 (Ev2.iT F3 ?_)))
   by_cases d1:(tmA a i).1.length=(tmA b i).1.length
   ·have hs:=xU (tmA a i).2.1 (tmA b i).2.1 f2 f3
    by_cases d2:(tmA a i).2.1=(tmA b i).2.1
    ·rw [decide_eq_true d2] at hs
     refine Ev2.bind (a:=false) (bF (by simp [d1]) (Ev.bind hs (evs _))) (Ev2.bF rfl ?_)
     have key:=dnw (n:=(tmA a i).1.length) (P:=fun j=>(∀ j' (h:j'<(tmA a i).1.length) (h':j'<(tmA b i).1.length),j'<j->(tmA a i).1[j']=(tmA b i).1[j'])->Ev3 (fun k m1 m0=>aF.l1 k m1 m0 a.2.1 (a.2.1.length:Int) (i:Int) ((tmA a i).1.length:Int) (j:Int) b (tmA a i) (tmA b i)) (dc (a.1=b.1/\a.2.1=b.2.1))) ?_ ?_ 0 (Nat.zero_le _) (fun j' _ _ h=>F3)
     ·exact key.diag
     ·intro hj
      have e:(tmA a i).1=(tmA b i).1:=List.ext_getElem d1 (fun j h1 h2=>hj j h1 h2 h1)
      have et:tmA a i=tmA b i:=Prod.ext e (Prod.ext d2 rfl)
      refine Ev3.step (fun k m1 m0=>aF.dN k m1 m0 _ _ _ _ _ _ _ _) (Ev3.bF (decide_eq_false F3) (Ev3.of ?_))
      rw [mi F3]
      exact ih (fun j h=>by
       by_cases c:j=i
       ·rw [c];exact et
       exact hg j F3)
     intro j hj ihj hgj
     have hj':j<(tmA b i).1.length:=F3
     have e1:(rdT (t:=(.int .i64)) (tmA a i).1 (j:Int):Int)=(tmA a i).1[j]:=cT hj
     have e2:(rdT (t:=(.int .i64)) (tmA b i).1 (j:Int):Int)=(tmA b i).1[j]:=cT hj'
     refine Ev3.step (fun k m1 m0=>aF.dN k m1 m0 _ _ _ _ _ _ _ _) (Ev3.bT (decide_eq_true F3) (Ev3.iT F3 (Ev3.iT F3 ?_)))
     rw [e1,e2]
     by_cases g:(tmA a i).1[j]=(tmA b i).1[j]
     ·refine Ev3.bF (by simp [g]) ?_
      rw [mi F3]
      exact ihj (fun j' h1 h2 h3=>by
       by_cases c:j'=j
       ·subst c;exact g
       exact hgj j' h1 h2 F3)
     rw [bad i hi (fun e=>g (by simp only [e]))]
     exact Ev3.bT (by simp [g]) (Ev3.of (Ev2.of (evs _)))
    rw [decide_eq_false d2] at hs
    rw [bad i hi (fun e=>d2 (by rw [e]))]
    exact Ev2.bind (a:=true) (bF (by simp [d1]) (Ev.bind hs (evs _))) (Ev2.bT rfl (Ev2.of (evs _)))
   rw [bad i hi (fun e=>d1 (by rw [e]))]
   exact Ev2.bind (a:=true) (bT (show (((tmA a i).1.length:Int) != ((tmA b i).1.length:Int))=true by rw [bne_iff_ne];omega) (evs _)) (Ev2.bT rfl (Ev2.of (evs _)))
  rw [dj (fun h=>c2 (by rw [h.2]))]
  exact Ev.step (fun k=>eW k a b) (Ev.bind (a:=true) (bF (by simp [c1]) (by rw [show ((List.length a.2.1:Int) != (List.length b.2.1:Int))=true by simp;omega];exact evs _)) (bT rfl (evs _)))
 rw [dj (fun h=>c1 h.1)]
 exact Ev.step (fun k=>eW k a b) (Ev.bind (a:=true) (bT (by simp [c1]) (evs _)) (bT rfl (evs _)))
end
abbrev rtA (r:List aw) (i:Nat):aw:=rdT (t:=af) r (i:Int)
structure RefT (r:List aw) (toC:Nat->cf):Prop where
 few:r.length<=100000
 len:∀ i,i<r.length->(rtA r i).1.length=8
 ne:∀ i j,i<r.length->j<r.length->i≠j->(rtA r i).1≠(rtA r j).1
 co:∀ i,i<r.length->Ev (fun k=>dK k (rtA r i).2.1) (toC i)
noncomputable def toG (r:List aw) (toC:Nat->cf) (n:Nat) (i:Nat):aw:=((rtA r i).1.take n,toC i,())
def gtE (a b:List Int):Prop:=eO a b>0
theorem Ap {a b:List Int} (h:a.length=b.length) (hn:a≠b):gtE a b∨gtE b a:=by
 have h1:=yW h hn
 have h2:=lS a b h
 unfold gtE
 omega
section
variable {r:List aw} {toC:Nat->cf} {n:Nat}
def Best (r:List aw) (ch:List Nat) (j:Nat) (b:Int):Prop:=(b = -1/\∀ j',j'<j->j'∈ch)∨∃ b':Nat,b=(b':Int)/\b'<j/\b' ∉ ch/\∀ j',j'<j->j' ∉ ch->j'≠b'->gtE (rtA r b').1 (rtA r j').1
theorem done_at {len:Nat} {ch:List Nat} {j:Nat} (h:j<len):(rdT (t:=.bool) ((List.range len).map fun i=>decide (i∈ch)) (j:Int):Bool)=decide (j∈ch):=by
 have:(rdT (t:=.bool) ((List.range len).map fun i=>decide (i∈ch)) (j:Int):Bool)=((List.range len).map fun i=>decide (i∈ch))[j]'(by simpa using h):=cT (by simpa using h)
 rw [this];simp
theorem done_set {len:Nat} {ch:List Nat} {b:Nat} (h:b<len):((List.range len).map fun i=>decide (i∈ch)).set b true=(List.range len).map fun i=>decide (i∈ch++[b]):=by
 apply List.ext_getElem F4
 intro i h1 h2
 simp only [List.getElem_set,List.getElem_map,List.getElem_range,List.mem_append,List.mem_singleton]
 by_cases c:b=i
 ·rw [if_pos c];simp [c]
 rw [if_neg c];simp;intro e;exact absurd e.symm c
theorem tF:∀ (l l':List Nat),l.Nodup->l'.Nodup->(∀ x,x∈l->x∈l')->l.length=l'.length->l.Perm l'
 | [],l',_,_,_,hl=>by
  have:l'=[]:=List.length_eq_zero_iff.1 hl.symm
  rw [this]
 | a :: l,l',h,h',hs,hl=>by
  have ha:=hs a F4
  obtain ⟨h1,h2⟩:=List.nodup_cons.1 h
  have hp:=List.perm_cons_erase ha
  refine (List.Perm.cons a (tF l (l'.erase a) h2 (h'.erase a) (fun x hx=>?_) ?_)).trans hp.symm
  ·have hne:x≠a:=fun e=>h1 (e ▸ hx)
   exact (List.mem_erase_of_ne hne).2 (hs x (by simp [hx]))
  rw [List.length_erase_of_mem ha,<- hl];simp
theorem Fj (hr:RefT r toC) (ch:List Nat):∀ j,j<=r.length->∃ b,Best r ch j b
 | 0,_=>⟨-1,.inl ⟨rfl,fun j' h=>F3⟩⟩
 | j+1,hj=>by
  obtain ⟨b,hb⟩:=Fj hr ch j F3
  have hjl:j<r.length:=F3
  by_cases cj:j∈ch
  ·refine ⟨b,?_⟩
   rcases hb with ⟨rfl,hall⟩ | ⟨b',rfl,b1,b2,b3⟩
   ·exact .inl ⟨rfl,fun j' h=>by
     by_cases c:j'=j
     ·rw [c];exact cj
     exact hall j' F3⟩
   exact .inr ⟨b',rfl,F3,b2,fun j' h1 h2 h3=>b3 j' (by
    by_cases c:j'=j
    ·exact absurd (by rw [c];exact cj) h2
    omega) h2 h3⟩
  rcases hb with ⟨rfl,hall⟩ | ⟨b',rfl,b1,b2,b3⟩
  ·exact ⟨(j:Int),.inr ⟨j,rfl,F3,cj,fun j' h1 h2 h3=>absurd (hall j' F3) h2⟩⟩
  have hb':b'<r.length:=F3
  have hlj:=hr.len j hjl
  have hlb:=hr.len b' hb'
  rcases Ap (hlj.trans hlb.symm) (hr.ne j b' hjl hb' F3) with g | g
  ·refine ⟨(j:Int),.inr ⟨j,rfl,F3,cj,fun j' h1 h2 h3=>?_⟩⟩
   by_cases c:j'=b'
   ·rw [c];exact g
   exact jF _ _ _ g (b3 j' F3 h2 c) (hlj.trans hlb.symm) (hlb.trans (hr.len j' F3).symm)
  refine ⟨(b':Int),.inr ⟨b',rfl,F3,b2,fun j' h1 h2 h3=>?_⟩⟩
  by_cases c:j'=j
  ·rw [c];exact g
  exact b3 j' F3 h2 h3
theorem To_inner (hr:RefT r toC) (hn:n<=8) (ch:List Nat) (hc:∀ c∈ch,c<r.length) (hnd:ch.Nodup) (hlt:ch.length<r.length) {R:aT}
 (h:∀ b,b<r.length->b ∉ ch->(∀ j',j'<r.length->j' ∉ ch->j'≠b->gtE (rtA r b).1 (rtA r j').1)->Ev2 (fun k m=>aM.l0 k m r (n:Int) (r.length:Int) ((ch.length+1:Nat):Int) ((0:Int),[],()) (n:Int) ((ch++[b]).map (toG r toC n)) ((List.range r.length).map fun i=>decide (i∈ch++[b]))) R) :
 Ev2 (fun k m0=>aM.l1 k k m0 r (n:Int) (-1:Int) (r.length:Int) (ch.length:Int) r (r.length:Int) (0:Int) ((0:Int),[],()) (n:Int) (ch.map (toG r toC n)) ((List.range r.length).map fun i=>decide (i∈ch))) R:=by
 have hfew:=hr.few
 have key:=dnw (n:=r.length) (P:=fun j=>∀ b,Best r ch j b->Ev3 (fun k m1 m0=>aM.l1 k m1 m0 r (n:Int) b (r.length:Int) (ch.length:Int) r (r.length:Int) (j:Int) ((0:Int),[],()) (n:Int) (ch.map (toG r toC n)) ((List.range r.length).map fun i=>decide (i∈ch))) R) ?_ ?_ 0 (Nat.zero_le _) (-1) (.inl ⟨rfl,fun j' h=>F3⟩)
 ·exact key.diag
 ·intro b hb
  rcases hb with ⟨rfl,hall⟩ | ⟨b',rfl,b1,b2,b3⟩
  ·exfalso
   have hsub:List.range r.length ⊆ ch:=fun i hi=>hall i (List.mem_range.1 hi)
   have:=(List.nodup_range (n:=r.length)).length_le_of_subset hsub
   rw [List.length_range] at this
   omega
  have hlen8:=hr.len b' b1
  have ep:fS (0:Int) 8 (rtA r b').1=(rtA r b').1:=by rw [cx _ _ _ F3,hlen8];simp
  refine Ev3.step (fun k m1 m0=>aM.dN k m1 m0 _ _ _ _ _ _ _ _ _ _ _ _) (Ev3.bF (decide_eq_false F3) (Ev3.iT (by simp;omega) (Ev3.iT F3 (Ev3.iT F3 (Ev3.iT ?_ (Ev3.iT F3 (Ev3.bind (hr.co b' b1) (Ev3.iT ?_ (Ev3.of ?_)))))))))
  ·have:(List.take (Int.toNat (n:Int)) (fS (0:Int) 8 (rdT (t:=af) r (b':Int):aw).1)).length<=8:=by rw [List.length_take,dw];omega
   show (0+_)*8<=_
   omega
  ·rw [List.length_map];simp only [List.length_cons,List.length_nil];omega
  have:=h b' b1 b2 b3
  rw [mi F3]
  have e1:((([]:List Int)++(List.take (Int.toNat (n:Int)) (fS (0:Int) 8 ((rdT (t:=af) r (b':Int):aw).1))),toC b',()):aw)=toG r toC n b':=by
   show (([]:List Int)++List.take n (fS (0:Int) 8 (rtA r b').1),toC b',())=_
   rw [ep];rfl
  rw [e1,Int.toNat_natCast,done_set b1]
  rw [show ch.map (toG r toC n)++[toG r toC n b']=(ch++[b']).map (toG r toC n) by simp]
  exact this
 intro j hj ih b hb
 refine Ev3.step (fun k m1 m0=>aM.dN k m1 m0 _ _ _ _ _ _ _ _ _ _ _ _) (Ev3.bT (decide_eq_true F3) (Ev3.iT F3 (Ev3.iT (by simp;omega) ?_)))
 rw [done_at hj]
 have take_:Best r ch (j+1) (j:Int)->Ev3 (fun k m1 m0=>aM.j0 k m0 m1 r (n:Int) (j:Int) (r.length:Int) (ch.length:Int) r (r.length:Int) (j:Int) ((0:Int),[],()) (n:Int) (ch.map (toG r toC n)) ((List.range r.length).map fun i=>decide (i∈ch))) R:=fun g=>by
  show Ev3 (fun k m1 m0=>aM.l1 k m1 m0 r (n:Int) (j:Int) (r.length:Int) (ch.length:Int) r (r.length:Int) (wrap64 ((j:Int)+(1:Int))) ((0:Int),[],()) (n:Int) (ch.map (toG r toC n)) ((List.range r.length).map fun i=>decide (i∈ch))) R
  rw [mi F3]
  exact ih _ g
 have keep_:Best r ch (j+1) b->Ev3 (fun k m1 m0=>aM.j0 k m0 m1 r (n:Int) b (r.length:Int) (ch.length:Int) r (r.length:Int) (j:Int) ((0:Int),[],()) (n:Int) (ch.map (toG r toC n)) ((List.range r.length).map fun i=>decide (i∈ch))) R:=fun g=>by
  show Ev3 (fun k m1 m0=>aM.l1 k m1 m0 r (n:Int) b (r.length:Int) (ch.length:Int) r (r.length:Int) (wrap64 ((j:Int)+(1:Int))) ((0:Int),[],()) (n:Int) (ch.map (toG r toC n)) ((List.range r.length).map fun i=>decide (i∈ch))) R
  rw [mi F3]
  exact ih _ g
 by_cases cj:j∈ch
 ·rw [decide_eq_true cj]
  refine Ev3.bind (a:=false) (bF rfl (evs _)) (Ev3.bF rfl (keep_ ?_))
  rcases hb with ⟨rfl,hall⟩ | ⟨b',rfl,b1,b2,b3⟩
  ·exact .inl ⟨rfl,fun j' h=>by
    by_cases c:j'=j
    ·rw [c];exact cj
    exact hall j' F3⟩
  exact .inr ⟨b',rfl,F3,b2,fun j' h1 h2 h3=>b3 j' (by
   by_cases c:j'=j
   ·exact absurd (by rw [c];exact cj) h2
   omega) h2 h3⟩
 rw [decide_eq_false cj]
 rcases hb with ⟨rfl,hall⟩ | ⟨b',rfl,b1,b2,b3⟩
 ·refine Ev3.bind (a:=true) (bT rfl (Ev.bind (a:=true) (bT rfl (evs _)) (evs _))) (Ev3.bT rfl (take_ ?_))
  exact .inr ⟨j,rfl,F3,cj,fun j' h1 h2 h3=>absurd (hall j' F3) h2⟩
 have hb':b'<r.length:=F3
 have hbf:=nh (rtA r j).1 (rtA r b').1 (hr.len j hj) (hr.len b' hb')
 have hlj:=hr.len j hj
 have hlb:=hr.len b' hb'
 have e0:Ev (fun k=>(bif decide ((b':Int)<(0:Int)) then some true else if 0<=(b':Int)/\(b':Int)<(List.length r:Int) then (bm k ((rdT (t:=af) r (j:Int):aw).1) ((rdT (t:=af) r (b':Int):aw).1)).bind fun (v1:Bool)=>some v1 else none)) (decide (eO (rtA r j).1 (rtA r b').1>0)) :=
  bF (decide_eq_false F3) (iT F3 (Ev.bind hbf (evs _)))
 by_cases g:eO (rtA r j).1 (rtA r b').1>0
 ·rw [decide_eq_true g] at e0
  refine Ev3.bind (a:=true) (bT rfl (Ev.bind e0 (evs _))) (Ev3.bT rfl (take_ (.inr ⟨j,rfl,F3,cj,fun j' h1 h2 h3=>?_⟩)))
  by_cases c:j'=b'
  ·rw [c];exact g
  exact jF _ _ _ g (b3 j' F3 h2 c) (hlj.trans hlb.symm) (hlb.trans (hr.len j' F3).symm)
 rw [decide_eq_false g] at e0
 refine Ev3.bind (a:=false) (bT rfl (Ev.bind e0 (evs _))) (Ev3.bF rfl (keep_ (.inr ⟨b',rfl,F3,b2,fun j' h1 h2 h3=>?_⟩)))
 by_cases c:j'=j
 ·rw [c]
  rcases Ap (hlb.trans hlj.symm) (hr.ne b' j hb' hj F3) with h | h
  ·exact h
  exact absurd h g
 exact b3 j' F3 h2 h3
theorem ref_To3 (hr:RefT r toC) (hn:n<=8):∃ ch:List Nat,ch.Perm (List.range r.length)/\(ch.Pairwise fun a b=>gtE (rtA r a).1 (rtA r b).1)/\Ev (fun k=>aM k r (n:Int)) ((n:Int),ch.map (toG r toC n),()):=by
 have hfew:=hr.few
 have main:=dnw (n:=r.length) (P:=fun i=>∀ ch:List Nat,ch.length=i->ch.Nodup->(∀ c∈ch,c<r.length)->(ch.Pairwise fun a b=>gtE (rtA r a).1 (rtA r b).1)->(∀ c∈ch,∀ j,j<r.length->j ∉ ch->gtE (rtA r c).1 (rtA r j).1) ->
  ∃ ch':List Nat,ch'.Perm (List.range r.length)/\(ch'.Pairwise fun a b=>gtE (rtA r a).1 (rtA r b).1)/\Ev2 (fun k m=>aM.l0 k m r (n:Int) (r.length:Int) (i:Int) ((0:Int),[],()) (n:Int) (ch.map (toG r toC n)) ((List.range r.length).map fun i=>decide (i∈ch))) ((n:Int),ch'.map (toG r toC n),())) ?_ ?_ 0 (Nat.zero_le _) [] rfl List.nodup_nil (fun c h=>by cases h) .nil (fun c h=>by cases h)
 ·obtain ⟨ch,h1,h2,h3⟩:=main
  refine ⟨ch,h1,h2,Ev.step (fun k=>lV k r _) (iT (by unfold maxLen;omega) ?_)⟩
  have e:(List.replicate (Int.toNat (List.length r:Int)) (false:Bool))=(List.range r.length).map fun i=>decide (i∈([]:List Nat)):=by
   rw [Int.toNat_natCast]
   apply List.ext_getElem F4
   intro i h1 h2
   simp
  rw [e]
  exact h3.diag
 ·intro ch h1 h2 h3 h4 h5
  refine ⟨ch,?_,h4,Ev2.step (fun k m=>aM.aV k m _ _ _ _ _ _ _ _) (Ev2.bF (decide_eq_false F3) (Ev2.of (evs _)))⟩
  exact tF _ _ h2 List.nodup_range (fun c hc=>List.mem_range.2 (h3 c hc)) (by rw [List.length_range,h1])
 intro i hi ih ch h1 h2 h3 h4 h5
 subst h1
 have step:∀ b,b<r.length->b ∉ ch->(∀ j',j'<r.length->j' ∉ ch->j'≠b->gtE (rtA r b).1 (rtA r j').1)->∃ ch':List Nat,ch'.Perm (List.range r.length)/\(ch'.Pairwise fun a b=>gtE (rtA r a).1 (rtA r b).1)/\Ev2 (fun k m=>aM.l0 k m r (n:Int) (r.length:Int) ((ch.length+1:Nat):Int) ((0:Int),[],()) (n:Int) ((ch++[b]).map (toG r toC n)) ((List.range r.length).map fun i=>decide (i∈ch++[b]))) ((n:Int),ch'.map (toG r toC n),()):=fun b b1 b2 b3=>by
  refine ih (ch++[b]) F4 (List.nodup_append.2 ⟨h2,F4,fun a ha c hc=>by simp at hc;subst hc;exact fun e=>b2 (e ▸ ha)⟩) (fun c hc=>?_) (List.pairwise_append.2 ⟨h4,F4,fun a ha c hc=>by simp at hc;subst hc;exact h5 a ha _ b1 b2⟩) (fun c hc j hj hnj=>?_)
  ·simp only [List.mem_append,List.mem_singleton] at hc
   rcases hc with hc | rfl
   ·exact h3 c hc
   exact b1
  simp only [List.mem_append,List.mem_singleton,not_or] at hc hnj
  rcases hc with hc | rfl
  ·exact h5 c hc j hj hnj.1
  exact b3 j hj hnj.1 hnj.2
 have ex:∃ b,b<r.length/\b ∉ ch/\(∀ j',j'<r.length->j' ∉ ch->j'≠b->gtE (rtA r b).1 (rtA r j').1):=by
  obtain ⟨b,hb⟩:=Fj hr ch r.length (Nat.le_refl _)
  rcases hb with ⟨rfl,hall⟩ | ⟨b',rfl,b1,b2,b3⟩
  ·exfalso
   have hsub:List.range r.length ⊆ ch:=fun i hi=>hall i (List.mem_range.1 hi)
   have:=(List.nodup_range (n:=r.length)).length_le_of_subset hsub
   rw [List.length_range] at this
   omega
  exact ⟨b',b1,b2,b3⟩
 obtain ⟨b,b1,b2,b3⟩:=ex
 obtain ⟨ch',c1,c2,c3⟩:=step b b1 b2 b3
 refine ⟨ch',c1,c2,Ev2.step (fun k m=>aM.aV k m _ _ _ _ _ _ _ _) (Ev2.bT (decide_eq_true F3) (To_inner hr hn ch h3 h2 hi (fun b' g1 g2 g3=>?_)))⟩
 have e:b'=b:=by
  apply Classical.byContradiction
  intro hne
  have a1:=g3 b b1 b2 (fun e=>hne e.symm)
  have a2:=b3 b' g1 g2 hne
  have:=lS (rtA r b).1 (rtA r b').1 ((hr.len b b1).trans (hr.len b' g1).symm)
  unfold gtE at a1 a2
  omega
 subst e
 exact c3
end
end Go.Proofs.YtfbgaddecbiimaaGreatDoor.Q
end
section
namespace Go.Proofs.YtfbgaddecbiimaaGreatDoor.G
abbrev Ex:=List Int
abbrev Tm:=Ex×Rat
def lin (m:Ex->Rat):List Tm->Rat
 | []=>0
 | t :: l=>t.2*m t.1+lin m l
def dl (e:Ex):Ex->Rat:=fun f=>if f=e then 1 else 0
def co (l:List Tm) (e:Ex):Rat:=lin (dl e) l
def Eqv (p q:List Tm):Prop:=∀ m,lin m p=lin m q
theorem Eqv.refl (p:List Tm):Eqv p p:=fun _=>rfl
theorem Eqv.symm {p q:List Tm} (h:Eqv p q):Eqv q p:=fun m=>(h m).symm
theorem Eqv.trans {p q r:List Tm} (h:Eqv p q) (h':Eqv q r):Eqv p r:=fun m=>(h m).trans (h' m)
theorem jB (m:Ex->Rat):∀ p q,lin m (p++q)=lin m p+lin m q
 | [],q=>by simp only [List.nil_append,lin];grind
 | t :: p,q=>by
  have h:=jB m p q
  simp only [List.cons_append,lin,h]
  grind
theorem nM (m:Ex->Rat) {p q:List Tm} (h:p.Perm q):lin m p=lin m q:=by
 induction h with
 | nil=>rfl
 | cons t _ ih=>simp only [lin,ih]
 | swap a b l=>simp only [lin];grind
 | trans _ _ h1 h2=>exact h1.trans h2
theorem nN {m m':Ex->Rat}:∀ {p:List Tm},(∀ t∈p,t.2=0∨m t.1=m' t.1)->lin m p=lin m' p
 | [],_=>rfl
 | t :: p,h=>by
  have h1:=nN (p:=p) (fun u hu=>h u (List.mem_cons_of_mem _ hu))
  simp only [lin,h1]
  rcases h t (List.mem_cons_self ..) with e | e
  ·rw [e];grind
  rw [e]
theorem El (c:Rat) (m:Ex->Rat):∀ p,lin (fun e=>c*m e) p=c*lin m p
 | []=>by simp only [lin];grind
 | t :: p=>by
  have h:=El c m p
  simp only [lin,h]
  grind
theorem Ad:∀ p,lin (fun _=>0) p=0
 | []=>rfl
 | t :: p=>by
  have h:=Ad p
  simp only [lin,h]
  grind
theorem E7 (e:Ex):co [] e=0:=rfl
theorem sb (t:Tm) (l:List Tm) (e:Ex):co (t :: l) e=(if t.1=e then t.2 else 0)+co l e:=by
 simp only [co,lin,dl]
 split<;>grind
theorem AD {e:Ex}:∀ {l:List Tm},(∀ t∈l,t.1≠e)->co l e=0
 | [],_=>rfl
 | t :: l,h=>by
  rw [sb,AD (fun u hu=>h u (List.mem_cons_of_mem _ hu)),if_neg (h t (List.mem_cons_self ..))]
  grind
def neg (l:List Tm):List Tm:=l.map fun t=>(t.1,-t.2)
theorem Eqv.co {p q:List Tm} (h:Eqv p q) (e:Ex):co p e=co q e:=h _
def gtE:Ex->Ex->Bool
 | a :: l,b :: k=>if a=b then gtE l k else decide (a>b)
 | _,_=>false
theorem lN:∀ a,gtE a a=false
 | []=>rfl
 | a :: l=>by rw [gtE,if_pos rfl];exact lN l
theorem nR:∀ {a b c:Ex},gtE a b=true->gtE b c=true->gtE a c=true
 | [],_,_,h,_=>by simp [gtE] at h
 | _ :: _,[],_,h,_=>by simp [gtE] at h
 | _ :: _,_ :: _,[],_,h=>by simp [gtE] at h
 | a :: l,b :: k,c :: j,h,h'=>by
  rw [gtE] at h h' ⊢
  by_cases e:a=b
  ·rw [if_pos e] at h
   by_cases e':b=c
   ·rw [if_pos e'] at h'
    rw [if_pos (e.trans e')]
    exact nR h h'
   rw [if_neg e'] at h'
   rw [if_neg (by rw [e];exact e')]
   rw [e];exact h'
  rw [if_neg e] at h
  have h1:a>b:=by simpa using h
  by_cases e':b=c
  ·rw [if_neg (by rw [<- e'];exact e)]
   rw [<- e'];exact h
  rw [if_neg e'] at h'
  have h2:b>c:=by simpa using h'
  rw [if_neg F3]
  simp;omega
theorem EF {a b:Ex} (h:gtE a b=true):gtE b a=false:=by
 cases e:gtE b a with
 | false=>rfl
 | true=>have:=nR h e;rw [lN] at this;cases this
theorem wS:∀ {a b:Ex},a.length=b.length->gtE a b=false->gtE b a=false->a=b
 | [],[],_,_,_=>rfl
 | [],_ :: _,h,_,_=>by simp at h
 | _ :: _,[],h,_,_=>by simp at h
 | a :: l,b :: k,h,h1,h2=>by
  rw [gtE] at h1 h2
  by_cases e:a=b
  ·rw [if_pos e] at h1
   rw [if_pos e.symm] at h2
   rw [e,wS (by simpa using h) h1 h2]
  rw [if_neg e] at h1
  rw [if_neg (fun h=>e h.symm)] at h2
  have h3:¬ a>b:=by simpa using h1
  have h4:¬ b>a:=by simpa using h2
  omega
theorem gtE_ne {a b:Ex} (h:gtE a b=true):a≠b:=fun e=>by rw [e,lN] at h;cases h
def eD (a b:Ex):Ex:=List.zipWith (· + ·) a b
theorem kd {a b:Ex} (h:a.length=b.length):(eD a b).length=a.length:=by
 simp [eD,h]
theorem FC:∀ {a b c:Ex},a.length=c.length->b.length=c.length->gtE a b=true->gtE (eD a c) (eD b c)=true
 | [],_,_,_,_,h=>by simp [gtE] at h
 | _ :: _,[],_,_,_,h=>by simp [gtE] at h
 | _ :: _,_ :: _,[],h,_,_=>by simp at h
 | a :: l,b :: k,c :: j,h1,h2,h=>by
  rw [gtE] at h
  simp only [eD,List.zipWith_cons_cons]
  rw [gtE]
  by_cases e:a=b
  ·rw [if_pos e] at h
   rw [if_pos (by rw [e])]
   exact FC (by simpa using h1) (by simpa using h2) h
  rw [if_neg e] at h
  have:a>b:=by simpa using h
  rw [if_neg F3]
  simp;omega
theorem jf (a b:Ex):eD a b=eD b a:=by
 simp only [eD]
 rw [List.zipWith_comm]
 congr 1;funext x y;exact Int.add_comm ..
theorem ud:∀ a b c:Ex,eD (eD a b) c=eD a (eD b c)
 | [],_,_=>by simp [eD]
 | _ :: _,[],_=>by simp [eD]
 | _ :: _,_ :: _,[]=>by simp [eD]
 | a :: l,b :: k,c :: j=>by
  have h:=ud l k j
  simp only [eD] at h
  simp only [eD,List.zipWith_cons_cons,h,Int.add_assoc]
structure Srt (n:Nat) (l:List Tm):Prop where
 ord:l.Pairwise fun a b=>gtE a.1 b.1=true
 nz:∀ t∈l,t.2≠0
 len:∀ t∈l,t.1.length=n
structure Dst (n:Nat) (l:List Tm):Prop where
 ne:l.Pairwise fun a b=>a.1≠b.1
 nz:∀ t∈l,t.2≠0
 len:∀ t∈l,t.1.length=n
theorem Srt.dst {n:Nat} {l:List Tm} (h:Srt n l):Dst n l:=⟨h.ord.imp gtE_ne,h.nz,h.len⟩
theorem Srt.nil (n:Nat):Srt n []:=⟨.nil,(fun _ h=>by simp at h),(fun _ h=>by simp at h)⟩
theorem Dst.nil (n:Nat):Dst n []:=⟨.nil,(fun _ h=>by simp at h),(fun _ h=>by simp at h)⟩
theorem Srt.tail {n:Nat} {t:Tm} {l:List Tm} (h:Srt n (t :: l)):Srt n l :=
 ⟨(List.pairwise_cons.1 h.ord).2,(fun u hu=>h.nz u (List.mem_cons_of_mem _ hu)),(fun u hu=>h.len u (List.mem_cons_of_mem _ hu))⟩
theorem Dst.tail {n:Nat} {t:Tm} {l:List Tm} (h:Dst n (t :: l)):Dst n l :=
 ⟨(List.pairwise_cons.1 h.ne).2,(fun u hu=>h.nz u (List.mem_cons_of_mem _ hu)),(fun u hu=>h.len u (List.mem_cons_of_mem _ hu))⟩
theorem Dst.nX {n:Nat}:∀ {l:List Tm},Dst n l->∀ t∈l,co l t.1=t.2
 | [],_,t,ht=>by simp at ht
 | u :: l,h,t,ht=>by
  rw [sb]
  rcases List.mem_cons.1 ht with e | e
  ·subst e
   rw [if_pos rfl,AD (fun v hv=>fun e=>(List.pairwise_cons.1 h.ne).1 v hv e.symm)]
   grind
  rw [if_neg (fun e'=>(List.pairwise_cons.1 h.ne).1 t e e'),Dst.nX h.tail t e]
  grind
theorem Dst.mem_iff {n:Nat} {l:List Tm} (h:Dst n l) (t:Tm):t∈l↔co l t.1=t.2/\t.2≠0:=by
 constructor
 ·exact fun ht=>⟨h.nX t ht,h.nz t ht⟩
 intro ⟨h1,h2⟩
 by_cases c:∃ u∈l,u.1=t.1
 ·obtain ⟨u,hu,e⟩:=c
  have:=h.nX u hu
  rw [e,h1] at this
  have:t=u:=Prod.ext e.symm this
  rw [this];exact hu
 exact absurd (h1.symm.trans (AD (fun u hu e=>c ⟨u,hu,e⟩))) h2
theorem Dst.mem_eqv {n n':Nat} {p q:List Tm} (hp:Dst n p) (hq:Dst n' q) (h:∀ e,co p e=co q e) (t:Tm):t∈p↔t∈q:=by
 rw [hp.mem_iff,hq.mem_iff,h]
theorem Srt.uniq {n:Nat}:∀ {p q:List Tm},Srt n p->Srt n q->(∀ e,co p e=co q e)->p=q
 | [],[],_,_,_=>rfl
 | [],u :: q,_,hq,h=>by
  have:=(hq.dst.nX u (List.mem_cons_self ..))
  rw [<- h,E7] at this
  exact absurd this.symm (hq.nz u (List.mem_cons_self ..))
 | t :: p,[],hp,_,h=>by
  have:=(hp.dst.nX t (List.mem_cons_self ..))
  rw [h,E7] at this
  exact absurd this.symm (hp.nz t (List.mem_cons_self ..))
 | t :: p,u :: q,hp,hq,h=>by
  have m:=fun x=>Dst.mem_eqv hp.dst hq.dst h x
  have hu:t=u:=by
   rcases List.mem_cons.1 ((m t).1 (List.mem_cons_self ..)) with e | e
   ·exact e
   rcases List.mem_cons.1 ((m u).2 (List.mem_cons_self ..)) with e' | e'
   ·exact e'.symm
   have h1:=(List.pairwise_cons.1 hq.ord).1 t e
   have h2:=(List.pairwise_cons.1 hp.ord).1 u e'
   rw [EF h1] at h2
   cases h2
  subst hu
  rw [Srt.uniq hp.tail hq.tail (fun e=>by
   have:=h e
   rw [sb,sb] at this
   grind)]
def sft (p:List Tm) (t:Tm):List Tm:=p.map fun u=>(eD u.1 t.1,u.2*t.2)
theorem Ej (m:Ex->Rat) (t:Tm):∀ p,lin m (sft p t)=t.2*lin (fun e=>m (eD e t.1)) p
 | []=>by simp only [sft,List.map_nil,lin];grind
 | u :: p=>by
  have h:=Ej m t p
  simp only [sft] at h
  simp only [sft,List.map_cons,lin,h]
  grind
def prod (p q:List Tm):List Tm:=p.flatMap fun t=>sft q t
theorem ql (m:Ex->Rat) (q:List Tm):∀ p,lin m (prod p q)=lin (fun e=>lin (fun f=>m (eD f e)) q) p
 | []=>rfl
 | t :: p=>by
  have h:=ql m q p
  simp only [prod] at h
  simp only [prod,List.flatMap_cons,jB,lin,h,Ej]
theorem Eqv.prod {p q p' q':List Tm} (h:Eqv p p') (h':Eqv q q'):Eqv (prod p q) (prod p' q'):=fun m=>by
 rw [ql,ql,h]
 exact congrArg (fun f=>lin f p') (funext fun e=>h' _)
def zE (n:Nat):Ex:=List.replicate n 0
theorem qz (n:Nat):(zE n).length=n:=by simp [zE]
def one (n:Nat):List Tm:=[(zE n,1)]
def pw (n:Nat) (p:List Tm):Nat->List Tm
 | 0=>one n
 | k+1=>prod (pw n p k) p
def Len (n:Nat) (p:List Tm):Prop:=∀ t∈p,t.1.length=n
theorem Len.sft {n:Nat} {p:List Tm} (h:Len n p) {t:Tm} (h':t.1.length=n):Len n (sft p t):=fun v hv=>by
 obtain ⟨u,hu,rfl⟩:=List.mem_map.1 hv
 show (eD u.1 t.1).length=n
 rw [kd (by rw [h u hu,h']),h u hu]
theorem Len.prod {n:Nat} {p q:List Tm} (h:Len n p) (h':Len n q):Len n (prod p q):=fun v hv=>by
 obtain ⟨t,ht,hv⟩:=List.mem_flatMap.1 hv
 exact h'.sft (h t ht) v hv
theorem Len.one (n:Nat):Len n (one n):=fun t ht=>by
 have:t=(zE n,1):=by simpa [G.one] using ht
 rw [this];exact qz n
theorem Len.pw {n:Nat} {p:List Tm} (h:Len n p):∀ k,Len n (pw n p k)
 | 0=>.one n
 | k+1=>(Len.pw h k).prod h
def mv (x:List Rat):Ex->Rat:=fun e=>go x e
where go:List Rat->Ex->Rat
 | a :: x,k :: e=>a ^ k.toNat*go x e
 | _,_=>1
theorem cut_at {α:Type}:∀ {l:List α} {i:Nat} (h:i<l.length),∃ a b,l=a++l[i] :: b/\a.length=i
 | x :: l,0,_=>⟨[],l,rfl,rfl⟩
 | x :: l,i+1,h=>by
  obtain ⟨a,b,h1,h2⟩:=cut_at (l:=l) (i:=i) (by simpa using h)
  exact ⟨x :: a,b,by simp only [List.getElem_cons_succ,List.cons_append];rw [<- h1],by simp [h2]⟩
theorem xO {α:Type} (a b:List α) (x y:α):(a++x :: b).set a.length y=a++y :: b:=by
 rw [List.set_append_right _ _ (Nat.le_refl _),Nat.sub_self]
 rfl
theorem EX {α:Type} (a b:List α) (x d:α):(((a++x :: b).set a.length ((a++x :: b).getD ((a++x :: b).length-1) d)).take ((a++x :: b).length-1)).Perm (a++b):=by
 rcases List.eq_nil_or_concat b with rfl | ⟨b',y,rfl⟩
 ·have e:(a++[x]).length-1=a.length:=by simp
  rw [e,xO,List.take_left',List.append_nil]
  rfl
 have e:(a++x :: (b'++[y])).length-1=(a++x :: b').length:=F4
 have e1:(a++x :: (b'++[y])).getD ((a++x :: (b'++[y])).length-1) d=y:=by
  rw [e,show a++x :: (b'++[y])=(a++x :: b')++[y] by simp]
  simp
 have h1:∀ z:α,(a++x :: b').length=(a++z :: b').length:=fun z=>F4
 have e3:(a++y :: (b'++[y])).take ((a++x :: b').length)=a++y :: b':=by
  rw [h1 y,show a++y :: (b'++[y])=(a++y :: b')++[y] by simp]
  exact List.take_left' rfl
 rw [List.concat_eq_append,e1,xO,e,e3]
 refine List.Perm.append_left a ?_
 simpa using (List.perm_append_comm (l₁:=[y]) (l₂:=b'))
def oC (p:List Tm) (e:Ex) (c:Rat):List Tm :=
 if c=0 then p else match p.findIdx? (fun t=>t.1==e) with
  | none=>p++[(e,c)]
  | some i=>if (p.getD i ([],0)).2+c=0 then (p.set i (p.getD (p.length-1) ([],0))).take (p.length-1) else p.set i (e,(p.getD i ([],0)).2+c)
theorem Dst.perm {n:Nat} {p q:List Tm} (h:Dst n p) (hp:p.Perm q):Dst n q :=
 ⟨(hp.pairwise_iff (fun h=>fun e=>h e.symm)).1 h.ne,(fun t ht=>h.nz t (hp.mem_iff.2 ht)),(fun t ht=>h.len t (hp.mem_iff.2 ht))⟩
theorem wb {n:Nat} {p:List Tm} {e:Ex} {c:Rat} (h:Dst n p) (he:e.length=n):Dst n (oC p e c)/\∀ m,lin m (oC p e c)=lin m p+c*m e:=by
 unfold oC
 split
 ·rename_i z
  exact ⟨h,fun m=>by rw [z];grind⟩
 rename_i z
 split
 ·rename_i hn
  have hn':∀ t∈p,t.1≠e:=fun t ht hh=>by
   have:=List.findIdx?_eq_none_iff.1 hn t ht
   simp [hh] at this
  refine ⟨⟨List.pairwise_append.2 ⟨h.ne,F4,fun a ha b hb=>?_⟩,?_,?_⟩,fun m=>?_⟩
  ·rw [List.mem_singleton] at hb
   rw [hb];exact hn' a ha
  ·intro t ht
   rcases List.mem_append.1 ht with g | g
   ·exact h.nz t g
   rw [List.mem_singleton] at g
   rw [g];exact z
  ·intro t ht
   rcases List.mem_append.1 ht with g | g
   ·exact h.len t g
   rw [List.mem_singleton] at g
   rw [g];exact he
  rw [jB];simp only [lin];grind
 rename_i i hs
 obtain ⟨hi,hx,_⟩:=List.findIdx?_eq_some_iff_getElem.1 hs
 obtain ⟨a,b,e1,e2⟩:=cut_at hi
 have hg:p.getD i ([],0)=p[i]:=by simp [List.getD_eq_getElem?_getD,hi]
 have hx':p[i].1=e:=by simpa using hx
 rw [hg]
 generalize p[i]=x at *
 subst e1
 have lx:lin=lin:=rfl
 have hp:(a++x :: b).Perm (x :: (a++b)):=List.perm_middle
 have hd:=h.perm hp
 have hl:∀ m,lin m (a++x :: b)=x.2*m e+lin m (a++b):=fun m=>by rw [nM m hp];simp only [lin,hx']
 split
 ·rename_i z'
  have hq:=EX a b x ([],0)
  rw [e2] at hq
  refine ⟨hd.tail.perm hq.symm,fun m=>?_⟩
  rw [nM m hq,hl]
  have:c = -x.2:=by grind
  rw [this];grind
 rename_i z'
 rw [<- e2,xO]
 have hp':(a++(e,x.2+c) :: b).Perm ((e,x.2+c) :: (a++b)):=List.perm_middle
 refine ⟨Dst.perm ⟨List.pairwise_cons.2 ⟨fun u hu=>?_,hd.tail.ne⟩,fun t ht=>?_,fun t ht=>?_⟩ hp'.symm,fun m=>?_⟩
 ·have:=(List.pairwise_cons.1 hd.ne).1 u hu
  rw [hx'] at this
  exact this
 ·exact (List.mem_cons.1 ht).elim (fun g=>by rw [g];exact z') (hd.tail.nz t)
 ·exact (List.mem_cons.1 ht).elim (fun g=>by rw [g];exact he) (hd.tail.len t)
 rw [nM m hp',hl];simp only [lin];grind
end Go.Proofs.YtfbgaddecbiimaaGreatDoor.G
end
section
namespace Go.Proofs.YtfbgaddecbiimaaGreatDoor.Q
open Go.RowKit Go.Proofs.YtfbgaddecbiimaaGreatDoorW.PrintWords Go.Proofs.YtfbgaddecbiimaaGreatDoorW.PrintMore Go.Proofs.YtfbgaddecbiimaaGreatDoor.V Go.Proofs.YtfbgaddecbiimaaGreatDoor.E
open Go.Proofs.YtfbgaddecbiimaaGreatDoor.P (Dg Nm vl WW RR bC gI evs evk evb fa aO bH bh cF w64 u64)
open Go.Proofs.YtfbgaddecbiimaaGreatDoor.G (Ex Tm lin co Eqv Srt Dst)
theorem gt_G:∀ {a b:List Int},a.length=b.length->(gtE a b↔G.gtE a b=true)
 | [],[],_=>by simp [gtE,eO,G.gtE]
 | [],_ :: _,h=>by simp at h
 | _ :: _,[],h=>by simp at h
 | a :: x,b :: y,h=>by
  have ih:=gt_G (a:=x) (b:=y) (by simpa using h)
  unfold gtE at ih ⊢
  rw [yX,G.gtE]
  by_cases c:a=b
  ·rw [if_pos c,<- ih]
   constructor
   ·rintro (g | g)
    ·omega
    exact g.2
   exact fun g=>.inr ⟨c,g⟩
  rw [if_neg c,decide_eq_true_eq]
  constructor
  ·rintro (g | g)
   ·exact g
   exact absurd g.1 c
  exact fun g=>.inl g
structure RelP (n:Nat) (p:aT) (l:List Tm):Prop where
 n_:p.1=(n:Int)
 len:p.2.1.length=l.length
 at_:∀ i (h:i<l.length),(tmA p i).1=l[i].1/\RB WW (tmA p i).2.1 l[i].2
structure RelR (r:List aw) (l:List Tm) (K:Nat):Prop where
 len:r.length=l.length
 at_:∀ i (h:i<l.length),(rtA r i).1=fF l[i].1/\RB RR (rtA r i).2.1 l[i].2/\Sz RR K l[i].2
theorem Dz {v:cf} {q:Rat} {K:Nat} (h:RB RR v q) (hs:Sz RR K q) (hK:K<1073741824):∃ r,Ev (fun k=>dK k v) r/\RB WW r q:=Dy h hs hK
theorem fq {x:List Int} (h:x.length<=8):(fF x).take x.length=x:=by
 rw [fF,cx _ _ _ h,List.take_left]
theorem pad_inj {x y:List Int} (hx:x.length<=8) (h:x.length=y.length) (e:fF x=fF y):x=y:=by
 rw [<- fq hx,e,h,fq F3]
theorem Bx {a:aT} {r:List aw} {la lr:List Tm} {n K:Nat} (hn:n<=8) (ha:RelP n a la) (hr:RelR r lr K) (hf:FewW a) (hK:K<1073741824) (hlen:lr.length<=100000) (sa:Srt n la) (dr:Dst n lr) (he:Eqv la lr):Ev (fun k=>dJ k a r (n:Int)) true:=by
 have ex:∀ i,∃ c:cf,∀ h:i<lr.length,Ev (fun k=>dK k (rtA r i).2.1) c/\RB WW c lr[i].2:=fun i=>by
  by_cases h:i<lr.length
  ·obtain ⟨h1,h2,h3⟩:=hr.at_ i h
   obtain ⟨c,c1,c2⟩:=Dz h2 h3 hK
   exact ⟨c,fun _=>⟨c1,c2⟩⟩
  exact ⟨(false,[],[],()),fun h'=>absurd h' h⟩
 obtain ⟨toC,htoC⟩:=Classical.axiomOfChoice ex
 have l8:∀ i (h:i<lr.length),lr[i].1.length=n:=fun i h=>dr.len _ (List.getElem_mem h)
 have hT:RefT r toC:=by
  refine ⟨by rw [hr.len];exact hlen,fun i h=>?_,fun i j h1 h2 hne=>?_,fun i h=>(htoC i (by rw [<- hr.len];exact h)).1⟩
  ·rw [(hr.at_ i (by rw [<- hr.len];exact h)).1];exact dw _ _ _
  have h1':i<lr.length:=by rw [<- hr.len];exact h1
  have h2':j<lr.length:=by rw [<- hr.len];exact h2
  rw [(hr.at_ i h1').1,(hr.at_ j h2').1]
  intro e
  have e':=pad_inj (by rw [l8 i h1'];exact hn) ((l8 i h1').trans (l8 j h2').symm) e
  have hp:=List.pairwise_iff_getElem.1 dr.ne
  rcases Nat.lt_or_gt_of_ne hne with g | g
  ·exact hp i j h1' h2' g e'
  exact hp j i h2' h1' g e'.symm
 obtain ⟨ch,c1,c2,c3⟩:=ref_To3 hT hn
 have hch:∀ c∈ch,c<lr.length:=fun c hc=>by
  have:=List.mem_range.1 (c1.mem_iff.1 hc)
  rw [hr.len] at this
  exact this
 let ls:List Tm:=ch.map fun i=>lr.getD i ([],0)
 have hls:ls.Perm lr:=by
  have h1:=c1.map fun i=>lr.getD i ([],0)
  have h2:(List.range r.length).map (fun i=>lr.getD i ([],0))=lr:=by
   rw [hr.len]
   apply List.ext_getElem F4
   intro i g1 g2
   simp [List.getD_eq_getElem?_getD,g2]
  rw [h2] at h1
  exact h1
 have ss:Srt n ls:=by
  refine ⟨?_,fun t ht=>dr.nz t (hls.mem_iff.1 ht),fun t ht=>dr.len t (hls.mem_iff.1 ht)⟩
  rw [List.pairwise_map]
  refine c2.imp_of_mem (fun {x y} hx hy h=>?_)
  have hx':=hch x hx
  have hy':=hch y hy
  rw [(hr.at_ x hx').1,(hr.at_ y hy').1] at h
  have e1:lr.getD x ([],0)=lr[x]:=by simp [List.getD_eq_getElem?_getD,hx']
  have e2:lr.getD y ([],0)=lr[y]:=by simp [List.getD_eq_getElem?_getD,hy']
  rw [e1,e2]
  unfold gtE at h
  rw [AF (by rw [l8 x hx'];exact hn) ((l8 x hx').trans (l8 y hy').symm)] at h
  exact (gt_G ((l8 x hx').trans (l8 y hy').symm)).1 h
 have heq:la=ls:=Srt.uniq sa ss (fun e=>by
  have h1:=he.co e
  have h2:co ls e=co lr e:=G.nM _ hls
  rw [h1,h2])
 have hlc:la.length=ch.length:=by rw [heq];simp [ls]
 have hterms:a.2.1=ch.map (toG r toC n):=by
  apply List.ext_getElem (by rw [ha.len,hlc,List.length_map])
  intro i h1 h2
  have hi:i<la.length:=by rw [<- ha.len];exact h1
  have hic:i<ch.length:=by rw [<- hlc];exact hi
  obtain ⟨g1,g2⟩:=ha.at_ i hi
  have et:tmA a i=a.2.1[i]:=cT h1
  have hc:=hch ch[i] (List.getElem_mem hic)
  have el:la[i]=lr[ch[i]]:=by
   have:la[i]=ls[i]'(by rw [<- heq];exact hi):=by simp only [heq]
   rw [this]
   simp [ls,List.getD_eq_getElem?_getD,hc]
  rw [<- et,List.getElem_map]
  have k1:(tmA a i).1=(rtA r ch[i]).1.take n:=by
   rw [g1,el,(hr.at_ _ hc).1,<- l8 _ hc,fq (by rw [l8 _ hc];exact hn)]
  have k2:(tmA a i).2.1=toC ch[i]:=by
   rw [el] at g2
   exact DI aO g2 (htoC _ hc).2
  exact Prod.ext k1 (Prod.ext k2 rfl)
 have hsame:=vW (b:=((n:Int),ch.map (toG r toC n),())) hf
 rw [fk ⟨ha.n_,hterms⟩] at hsame
 exact Ev.step (fun k=>lX k a r _) (Ev.bind c3 (Ev.bind hsame (evs _)))
def kb (e:Int):List Int:=[(shr .i64 e (24:Int)) % 256,(shr .i64 e (16:Int)) % 256,(shr .i64 e (8:Int)) % 256,e % 256]
def CH (x:List Int):List Int:=x.flatMap kb
theorem Ag:∀ x:List Int,(CH x).length=4*x.length
 | []=>rfl
 | e :: x=>by
  have:=Ag x
  simp only [CH,List.flatMap_cons,List.length_append,List.length_cons] at this ⊢
  simp only [kb,List.length_cons,List.length_nil]
  omega
theorem BL (x:List Int) (h:x.length<=8):Ev (fun k=>gJ k x) (strOfNums (CH x)):=by
 have e4:wrap64 ((4:Int)*(x.length:Int))=4*(x.length:Int):=w64 F3 F3
 have main:=dnw (n:=x.length) (P:=fun i=>Ev2 (fun k m=>gJ.l0 k m x (x.length:Int) (i:Int) (CH (x.take i))) (strOfNums (CH x))) ?_ ?_ 0 (Nat.zero_le _)
 ·refine Ev.step (fun k=>BM k x) (iT (by rw [e4];unfold maxLen;omega) ?_)
  exact main.diag
 ·rw [List.take_length]
  exact Ev2.step (fun k m=>gJ.aV k m _ _ _ _) (Ev2.bF (decide_eq_false F3) (Ev2.of (evs _)))
 intro i hi ih
 have e1:(rdT (t:=(.int .i64)) x (i:Int):Int)=x[i]:=cT hi
 have hk:=Ag (x.take i)
 rw [List.length_take] at hk
 refine Ev2.step (fun k m=>gJ.aV k m _ _ _ _) (Ev2.bT (decide_eq_true F3) (Ev2.iT F3 (Ev2.iT (by simp only [List.length_cons,List.length_nil];omega) ?_)))
 rw [e1,mi F3]
 have:CH (x.take i)++kb x[i]=CH (x.take (i+1)):=by
  simp only [CH]
  rw [List.take_succ_eq_append_getElem hi,List.flatMap_append]
  simp
 have ih':=ih
 rw [<- this] at ih'
 exact ih'
theorem key_inj:∀ {x y:List Int},x.length=y.length->(∀ e∈x,0<=e/\e<256)->(∀ e∈y,0<=e/\e<256)->(strOfNums (CH x)).data.toList=(strOfNums (CH y)).data.toList->x=y
 | [],[],_,_,_,_=>rfl
 | [],_ :: _,h,_,_,_=>by simp at h
 | _ :: _,[],h,_,_,_=>by simp at h
 | a :: x,b :: y,h,hx,hy,he=>by
  have ih:=key_inj (x:=x) (y:=y) (by simpa using h) (fun e he=>hx e (by simp [he])) (fun e he=>hy e (by simp [he]))
  have ha:=hx a F4
  have hb:=hy b F4
  simp only [strOfNums,CH,List.flatMap_cons,kb,List.cons_append,List.nil_append,List.map_cons,List.cons.injEq] at he ih
  obtain ⟨_,_,_,h4,h5⟩:=he
  have h6:=congrArg UInt8.toNat h4
  simp only [UInt8.toNat_ofNat'] at h6
  rw [ih h5,show a=b by omega]
noncomputable def mV (v:cf):Rat:=Rat.divInt (sg v.1 (vl WW v.2.1)) (vl WW v.2.2.1)
theorem oB {v:cf} {q:Rat} (h:RB WW v q):mV v=q:=by
 have h1:=rb_val h
 unfold mV
 rw [h.2.1.2.2,h.2.2.2.2]
 exact h1
def CoOk (K:Nat) (v:cf):Prop:=∃ q,RB WW v q/\Sz WW K q
theorem CoOk.rb {K:Nat} {v:cf} (h:CoOk K v):RB WW v (mV v)/\Sz WW K (mV v):=by
 obtain ⟨q,h1,h2⟩:=h
 rw [oB h1]
 exact ⟨h1,h2⟩
theorem CoOk.mono {K L:Nat} {v:cf} (h:CoOk K v) (hk:K<=L):CoOk L v:=by
 obtain ⟨q,h1,h2⟩:=h
 exact ⟨q,h1,ox aO h2 hk⟩
noncomputable def tt (t:aw):Tm:=(t.1,mV t.2.1)
noncomputable def tms (l:List aw):List Tm:=l.map tt
def OkT (n K:Nat) (t:aw):Prop:=t.1.length=n/\(∀ e∈t.1,0<=e/\e<256)/\CoOk K t.2.1
def mv_:List (ByteArray×Int)->ByteArray->Option Int
 | [],_=>none
 | x :: l,k=>match k.data.toList==x.1.data.toList with
  | true=>some x.2
  | false=>mv_ l k
theorem Ec:∀ (l:List (ByteArray×Int)) (k:ByteArray),(V.qj l k).map (·.2)=mv_ l k
 | [],k=>rfl
 | x :: l,k=>by
  have ih:=Ec l k
  rw [V.qj,mv_]
  cases k.data.toList==x.1.data.toList with
  | true=>rfl
  | false =>
   dsimp only
   rw [Option.map_map,<- ih]
   rfl
theorem Ed (l:List (ByteArray×Int)) (k:ByteArray):wE l k=match mv_ l k with
 | some n=>(n,true,())
 | none=>(0,false,()):=by
 rw [<- Ec,wE]
 cases V.qj l k<;>rfl
theorem Ea (k:ByteArray) (n:Int) (k':ByteArray):∀ l:List (ByteArray×Int),mv_ (V.qi l k n) k'=if k'.data.toList=k.data.toList then some n else mv_ l k'
 | []=>by
  show (match k'.data.toList==k.data.toList with
   | true=>some n
   | false=>none)=if k'.data.toList=k.data.toList then some n else none
  by_cases c:k'.data.toList=k.data.toList
  ·rw [if_pos c,beq_iff_eq.2 c]
  rw [if_neg c,beq_eq_false_iff_ne.2 c]
 | x :: l=>by
  have ih:=Ea k n k' l
  rw [V.qi]
  by_cases d:k.data.toList=x.1.data.toList
  ·rw [beq_iff_eq.2 d]
   dsimp only
   rw [mv_,mv_]
   by_cases c:k'.data.toList=k.data.toList
   ·rw [if_pos c,beq_iff_eq.2 c]
   rw [if_neg c,beq_eq_false_iff_ne.2 c,beq_eq_false_iff_ne.2 (fun e=>c (e.trans d.symm))]
  rw [beq_eq_false_iff_ne.2 d]
  dsimp only
  rw [mv_,mv_,ih]
  by_cases c:k'.data.toList=x.1.data.toList
  ·have hk:¬ k'.data.toList=k.data.toList:=fun e=>d (e.symm.trans c)
   rw [beq_iff_eq.2 c]
   dsimp only
   rw [if_neg hk]
  rw [beq_eq_false_iff_ne.2 c]
noncomputable abbrev keyB (e:List Int):ByteArray:=strOfNums (CH e)
def s9 (n:Nat) (mp:List (ByteArray×Int)) (l:List aw):Prop:=∀ e:List Int,e.length=n->(∀ x∈e,0<=x/\x<256)->(∀ j (h:j<l.length),l[j].1=e->mv_ mp (keyB e)=some (j:Int))/\((∀ j (h:j<l.length),l[j].1≠e)->mv_ mp (keyB e)=none)
theorem s9.nil (n:Nat):s9 n [] []:=fun e _ _=>⟨fun j h=>by simp at h,fun _=>rfl⟩
theorem s9.add {n:Nat} {mp:List (ByteArray×Int)} {l:List aw} (h:s9 n mp l) {t:aw} (h1:t.1.length=n) (h2:∀ x∈t.1,0<=x/\x<256) (hne:∀ j (h:j<l.length),l[j].1≠t.1):s9 n (V.qi mp (keyB t.1) (l.length:Int)) (l++[t]):=by
 intro e g1 g2
 rw [Ea]
 obtain ⟨a1,a2⟩:=h e g1 g2
 by_cases c:e=t.1
 ·subst c
  rw [if_pos rfl]
  refine ⟨fun j hj hje=>?_,fun hn=>absurd F4 (hn l.length F4)⟩
  by_cases d:j<l.length
  ·rw [List.getElem_append_left d] at hje
   exact absurd hje (hne j d)
  have:j=l.length:=by simp at hj;omega
  rw [this]
 rw [if_neg (fun he=>c (key_inj (g1.trans h1.symm) g2 h2 he))]
 refine ⟨fun j hj hje=>?_,fun hn=>a2 (fun j hj=>?_)⟩
 ·by_cases d:j<l.length
  ·rw [List.getElem_append_left d] at hje
   exact a1 j d hje
  have:j=l.length:=by simp at hj;omega
  subst this
  rw [List.getElem_append_right (Nat.le_refl _)] at hje
  simp at hje
  exact absurd hje.symm c
 have:=hn j (by simp;omega)
 rwa [List.getElem_append_left hj] at this
theorem s9.set {n:Nat} {mp:List (ByteArray×Int)} {l:List aw} (h:s9 n mp l) (i:Nat) (t:aw) (ht:∀ (hi:i<l.length),t.1=l[i].1):s9 n mp (l.set i t):=by
 have e:∀ j (h1:j<(l.set i t).length),(l.set i t)[j].1=(l[j]'(by simpa using h1)).1:=fun j h1=>by
  rw [List.getElem_set]
  by_cases c:i=j
  ·subst c;rw [if_pos rfl];exact ht (by simpa using h1)
  rw [if_neg c]
 intro x g1 g2
 obtain ⟨a1,a2⟩:=h x g1 g2
 exact ⟨fun j hj hje=>a1 j (by simpa using hj) (by rw [<- e j hj];exact hje),fun hn=>a2 (fun j hj=>by rw [<- e j (by simpa using hj)];exact hn j (by simpa using hj))⟩
abbrev NeL (l:List aw):Prop:=l.Pairwise fun a b=>a.1≠b.1
noncomputable def nzC (t:aw):Bool:=dc (mV t.2.1≠0)
theorem zC {q:Rat}:(sgn q != (0:Int))=dc (q≠0):=by
 refine E0 ?_
 rw [bne,lG]
 simp
theorem mW (t:aw) (l:List aw):tms (t :: l)=tt t :: tms l:=rfl
theorem lC (a b:List aw):tms (a++b)=tms a++tms b:=List.map_append
theorem Ek (m:Ex->Rat):∀ (l:List Tm) (i:Nat) (h:i<l.length) (t:Tm),t.1=l[i].1->lin m (l.set i t)=lin m l+(t.2-l[i].2)*m t.1
 | [],i,h,_,_=>by simp at h
 | u :: l,0,_,t,e=>by
  have e':t.1=u.1:=e
  show t.2*m t.1+lin m l=u.2*m u.1+lin m l+(t.2-u.2)*m t.1
  rw [e']
  grind
 | u :: l,i+1,h,t,e=>by
  have ih:=Ek m l i (by simpa using h) t e
  show u.2*m u.1+lin m (l.set i t)=u.2*m u.1+lin m l+(t.2-(l[i]'(by simpa using h)).2)*m t.1
  rw [ih]
  grind
section
variable {n K:Nat}
theorem yV {l:List aw} (hn:n<=8) (hl:l.length<=100000) (hok:∀ t∈l,OkT n K t) (hne:NeL l) :
 Ev (fun k=>ba.l1 k k l (l.length:Int) (0:Int) ((0:Int),[],()) (n:Int) ([]:List aw)) ((n:Int),jh (l.filter nzC),()):=by
 have hfil:(l.filter nzC).Pairwise fun a b=>b.1.length=a.1.length/\a.1≠b.1:=by
  refine (hne.sublist (List.filter_sublist)).imp_of_mem (fun {a b} ha hb h=>⟨?_,h⟩)
  rw [(hok a (List.mem_filter.1 ha).1).1,(hok b (List.mem_filter.1 hb).1).1]
 have hs:Db (l.filter nzC)=some (jh (l.filter nzC)):=by
  unfold Db
  have h1:okM (l.filter nzC)=true:=uI.2 hfil
  have h2:Nat.ble (l.filter nzC).length 1000000000=true:=Nat.ble_eq_true_of_le (by have:=List.length_filter_le nzC l;omega)
  have h3:Nat.ble ((l.filter nzC).headD (Ty.zero lA)).1.length 1000000000=true:=by
   apply Nat.ble_eq_true_of_le
   cases hc:l.filter nzC with
   | nil=>show ([]:List Int).length<=_;exact Nat.zero_le _
   | cons a r =>
    have:a∈l.filter nzC:=by rw [hc];simp
    have:=(hok a (List.mem_filter.1 this).1).1
    show a.1.length<=_
    omega
  rw [h1,h2,h3]
 have main:=dnw (n:=l.length) (P:=fun i=>Ev2 (fun k m=>ba.l1 k m l (l.length:Int) (i:Int) ((0:Int),[],()) (n:Int) ((l.take i).filter nzC)) ((n:Int),jh (l.filter nzC),())) ?_ ?_ 0 (Nat.zero_le _)
 ·exact main.diag
 ·rw [List.take_length]
  exact Ev2.step (fun k m=>ba.dN k m _ _ _ _ _ _) (Ev2.bF (decide_eq_false F3) (Ev2.bind (evk hs) (Ev2.of (evs _))))
 intro i hi ih
 have e:(rdT (t:=ai) l (i:Int):aw)=l[i]:=cT hi
 obtain ⟨o1,o2,o3⟩:=hok l[i] (List.getElem_mem hi)
 have hsg:=rq o3.rb.1
 have hlf:=List.length_filter_le nzC (l.take i)
 rw [List.length_take] at hlf
 rw [List.take_succ_eq_append_getElem hi,List.filter_append] at ih
 refine Ev2.step (fun k m=>ba.dN k m _ _ _ _ _ _) (Ev2.bT (decide_eq_true F3) (Ev2.iT F3 ?_))
 rw [e]
 refine Ev2.bind hsg ?_
 have next:∀ acc,Ev2 (fun k m=>ba.l1 k m l (l.length:Int) ((i+1:Nat):Int) ((0:Int),[],()) (n:Int) acc) ((n:Int),jh (l.filter nzC),())->Ev2 (fun k m=>ba.j1 k m l (l.length:Int) (i:Int) ((0:Int),[],()) (n:Int) acc) ((n:Int),jh (l.filter nzC),()):=fun acc h=>by
  show Ev2 (fun k m=>ba.l1 k m l (l.length:Int) (wrap64 ((i:Int)+(1:Int))) ((0:Int),[],()) (n:Int) acc) _
  rw [mi F3]
  exact h
 cases hz:nzC l[i] with
 | true =>
  rw [show [l[i]].filter nzC=[l[i]] by simp [hz]] at ih
  refine Ev2.bT (by rw [zC];exact hz) (Ev2.iT (by simp only [List.length_cons,List.length_nil];omega) (next _ ih))
 | false =>
  rw [show [l[i]].filter nzC=[] by simp [hz],List.append_nil] at ih
  exact Ev2.bF (by rw [zC];exact hz) (next _ ih)
theorem yU {l:List aw} (hn:n<=8) (hl:l.length<=100000) (hK:(l.length+1)*(K+1)<=200000000) (hok:∀ t∈l,OkT n K t) :
 ∃ sl:List aw,sl.length<=l.length/\(∀ t∈sl,OkT n (l.length*(K+1)) t)/\NeL sl/\(∀ m,lin m (tms sl)=lin m (tms l)) /\
  ∀ R,Ev (fun k=>ba.l1 k k sl (sl.length:Int) (0:Int) ((0:Int),[],()) (n:Int) ([]:List aw)) R->Ev (fun k=>ba k (n:Int) l) R:=by
 have main:=dnw (n:=l.length) (P:=fun i=>∀ mp (sl:List aw),s9 n mp sl->(∀ t∈sl,OkT n (i*(K+1)) t)->NeL sl->sl.length<=i->(∀ m,lin m (tms sl)=lin m (tms (l.take i))) ->
  ∃ sl':List aw,sl'.length<=l.length/\(∀ t∈sl',OkT n (l.length*(K+1)) t)/\NeL sl'/\(∀ m,lin m (tms sl')=lin m (tms l)) /\
   ∀ R,Ev (fun k=>ba.l1 k k sl' (sl'.length:Int) (0:Int) ((0:Int),[],()) (n:Int) ([]:List aw)) R->Ev2 (fun k m=>ba.l0 k m (n:Int) mp l (l.length:Int) (i:Int) ((0:Int),[],()) sl) R) ?_ ?_ 0 (Nat.zero_le _) [] [] (s9.nil n) (fun t h=>by cases h) .nil (Nat.zero_le _) (fun m=>rfl)
 ·obtain ⟨sl,h1,h2,h3,h4,h5⟩:=main
  exact ⟨sl,h1,h2,h3,h4,fun R hR=>Ev.step (fun k=>sQ k _ _) (h5 R hR).diag⟩
 ·intro mp sl h1 h2 h3 h4 h5
  rw [List.take_length] at h5
  exact ⟨sl,h4,h2,h3,h5,fun R hR=>Ev2.step (fun k m=>ba.aV k m _ _ _ _ _ _ _) (Ev2.bF (decide_eq_false F3) (Ev2.of hR))⟩
 intro i hi ih mp sl h1 h2 h3 h4 h5
 have e:(rdT (t:=ai) l (i:Int):aw)=l[i]:=cT hi
 obtain ⟨o1,o2,o3⟩:=hok l[i] (List.getElem_mem hi)
 have hkey:=BL l[i].1 F3
 have htk:∀ m,lin m (tms (l.take (i+1)))=lin m (tms (l.take i))+mV l[i].2.1*m l[i].1:=fun m=>by
  rw [List.take_succ_eq_append_getElem hi,lC,G.jB]
  show _+(mV l[i].2.1*m l[i].1+0)=_
  grind
 have hKi:(i+1)*(K+1)=i*(K+1)+(K+1):=Nat.succ_mul _ _
 have big:(i+1)*(K+1)<=200000000:=Nat.le_trans (Nat.mul_le_mul_right _ F3) hK
 have next:∀ mp' sl' R,Ev2 (fun k m=>ba.l0 k m (n:Int) mp' l (l.length:Int) ((i+1:Nat):Int) ((0:Int),[],()) sl') R->Ev2 (fun k m=>ba.j0 k m (n:Int) mp' l (l.length:Int) (i:Int) ((0:Int),[],()) sl') R:=fun mp' sl' R h=>by
  show Ev2 (fun k m=>ba.l0 k m (n:Int) mp' l (l.length:Int) (wrap64 ((i:Int)+(1:Int))) ((0:Int),[],()) sl') R
  rw [mi F3]
  exact h
 obtain ⟨a1,a2⟩:=h1 l[i].1 o1 o2
 by_cases c:∃ j,∃ h:j<sl.length,sl[j].1=l[i].1
 ·obtain ⟨j,hj,hje⟩:=c
  have hm:wE mp (keyB l[i].1)=((j:Int),true,()):=by rw [Ed,a1 j hj hje]
  obtain ⟨p1,p2,p3⟩:=h2 sl[j] (List.getElem_mem hj)
  obtain ⟨v,v1,v2,v3⟩:=B6 p3.rb.1 o3.rb.1 p3.rb.2 o3.rb.2 F3
  have ej:(rdT (t:=ai) sl (j:Int):aw)=sl[j]:=cT hj
  have hv:mV v=mV sl[j].2.1+mV l[i].2.1:=oB v2
  have q1:∀ t∈sl.set j (sl[j].1,v,sl[j].2.2),OkT n ((i+1)*(K+1)) t:=fun t ht=>by
   rcases List.mem_or_eq_of_mem_set ht with ht | rfl
   ·obtain ⟨b1,b2,b3⟩:=h2 t ht
    exact ⟨b1,b2,b3.mono F3⟩
   exact ⟨p1,p2,⟨_,v2,ox aO v3 F3⟩⟩
  have q2:NeL (sl.set j (sl[j].1,v,sl[j].2.2)):=by
   rw [NeL,List.pairwise_iff_getElem]
   intro x y hx hy hxy
   have hp:=List.pairwise_iff_getElem.1 h3
   have es:∀ z (hz:z<(sl.set j (sl[j].1,v,sl[j].2.2)).length),(sl.set j (sl[j].1,v,sl[j].2.2))[z].1=(sl[z]'(by simpa using hz)).1:=fun z hz=>by
    rw [List.getElem_set]
    by_cases d:j=z
    ·subst d;rw [if_pos rfl]
    rw [if_neg d]
   rw [es x hx,es y hy]
   exact hp x y (by simpa using hx) (by simpa using hy) hxy
  have q3:∀ m,lin m (tms (sl.set j (sl[j].1,v,sl[j].2.2)))=lin m (tms (l.take (i+1))):=fun m=>by
   have hset:tms (sl.set j (sl[j].1,v,sl[j].2.2))=(tms sl).set j (sl[j].1,mV v):=by
    simp only [tms,List.map_set]
    rfl
   have hjl:j<(tms sl).length:=by simpa [tms] using hj
   have hat:(tms sl)[j]=tt sl[j]:=by simp [tms]
   rw [hset,Ek m (tms sl) j hjl _ (by rw [hat];rfl),hat,h5,htk]
   show _+(mV v-mV sl[j].2.1)*m sl[j].1=_
   rw [hv,hje]
   grind
  obtain ⟨sl',g1,g2,g3,g4,g5⟩:=ih mp (sl.set j (sl[j].1,v,sl[j].2.2)) (h1.set j _ (fun _=>rfl)) q1 q2 (by rw [List.length_set];omega) q3
  refine ⟨sl',g1,g2,g3,g4,fun R hR=>?_⟩
  refine Ev2.step (fun k m=>ba.aV k m _ _ _ _ _ _ _) (Ev2.bT (decide_eq_true F3) (Ev2.iT F3 ?_))
  rw [e]
  refine Ev2.bind hkey ?_
  rw [hm]
  refine Ev2.bF rfl (Ev2.iT F3 ?_)
  rw [ej]
  refine Ev2.bind v1 (Ev2.iT F3 (next _ _ _ ?_))
  rw [Int.toNat_natCast]
  exact g5 R hR
 have hno:∀ j (h:j<sl.length),sl[j].1≠l[i].1:=fun j h he=>c ⟨j,h,he⟩
 have hm:wE mp (keyB l[i].1)=(0,false,()):=by rw [Ed,a2 hno]
 have q1:∀ t∈sl++[l[i]],OkT n ((i+1)*(K+1)) t:=fun t ht=>by
  rw [List.mem_append,List.mem_singleton] at ht
  rcases ht with ht | rfl
  ·obtain ⟨b1,b2,b3⟩:=h2 t ht
   exact ⟨b1,b2,b3.mono F3⟩
  exact ⟨o1,o2,o3.mono F3⟩
 have q2:NeL (sl++[l[i]]):=by
  refine List.pairwise_append.2 ⟨h3,F4,fun a ha b hb=>?_⟩
  rw [List.mem_singleton] at hb
  subst hb
  obtain ⟨j,hj,rfl⟩:=List.getElem_of_mem ha
  exact hno j hj
 have q3:∀ m,lin m (tms (sl++[l[i]]))=lin m (tms (l.take (i+1))):=fun m=>by
  rw [lC,G.jB,h5,htk]
  show _+(mV l[i].2.1*m l[i].1+0)=_
  grind
 obtain ⟨sl',g1,g2,g3,g4,g5⟩:=ih (V.qi mp (keyB l[i].1) (sl.length:Int)) (sl++[l[i]]) (h1.add o1 o2 hno) q1 q2 (by simp;omega) q3
 refine ⟨sl',g1,g2,g3,g4,fun R hR=>?_⟩
 refine Ev2.step (fun k m=>ba.aV k m _ _ _ _ _ _ _) (Ev2.bT (decide_eq_true F3) (Ev2.iT F3 ?_))
 rw [e]
 refine Ev2.bind hkey ?_
 rw [hm]
 exact Ev2.bT rfl (Ev2.iT (by simp only [List.length_cons,List.length_nil];omega) (next _ _ _ (g5 R hR)))
theorem tL (m:Ex->Rat):∀ l:List aw,lin m (tms (l.filter nzC))=lin m (tms l)
 | []=>rfl
 | t :: l=>by
  have ih:=tL m l
  cases h:nzC t with
  | true =>
   rw [List.filter_cons_of_pos h,mW,mW]
   show _*_+_=_*_+_
   rw [ih]
  | false =>
   rw [List.filter_cons_of_neg (by simp [h]),mW,ih]
   have hz:mV t.2.1=0:=by
    apply Classical.byContradiction
    intro hne
    rw [nzC,fk hne] at h
    cases h
   show _=mV t.2.1*m t.1+_
   rw [hz]
   grind
theorem sP {l:List aw} (hn:n<=8) (hl:l.length<=100000) (hK:(l.length+1)*(K+1)<=200000000) (hok:∀ t∈l,OkT n K t) :
 ∃ ls:List aw,Ev (fun k=>ba k (n:Int) l) ((n:Int),ls,())/\ls.length<=l.length/\(∀ t∈ls,OkT n (l.length*(K+1)) t)/\Srt n (tms ls)/\Eqv (tms ls) (tms l):=by
 obtain ⟨sl,h1,h2,h3,h4,h5⟩:=yU hn hl hK hok
 have hend:=yV hn F3 h2 h3
 have hp:=ju (sl.filter nzC)
 have hfl:=List.length_filter_le nzC sl
 have hmem:∀ t∈jh (sl.filter nzC),t∈sl/\nzC t=true:=fun t ht=>List.mem_filter.1 (hp.mem_iff.1 ht)
 have hlen:∀ t∈sl.filter nzC,t.1.length=n:=fun t ht=>(h2 t (List.mem_filter.1 ht).1).1
 refine ⟨jh (sl.filter nzC),h5 _ hend,by rw [hp.length_eq];omega,fun t ht=>h2 t (hmem t ht).1,⟨?_,fun t ht=>?_,fun t ht=>?_⟩,fun m=>?_⟩
 ·have hf:=oz n (sl.filter nzC) hlen (h3.sublist List.filter_sublist)
  rw [tms,List.pairwise_map]
  refine hf.imp_of_mem (fun {a b} ha hb h=>?_)
  exact (gt_G ((h2 a (hmem a ha).1).1.trans (h2 b (hmem b hb).1).1.symm)).1 h
 ·obtain ⟨u,hu,rfl⟩:=List.mem_map.1 ht
  exact dc_iff.1 (hmem u hu).2
 ·obtain ⟨u,hu,rfl⟩:=List.mem_map.1 ht
  exact (h2 u (hmem u hu).1).1
 have h6:lin m (tms (jh (sl.filter nzC)))=lin m (tms (sl.filter nzC)):=G.nM m (hp.map tt)
 rw [h6,tL,h4]
end
def exT (n:Nat) (a b:List Int) (j:Nat):List Int:=(List.range n).map fun i=>if i<j then a.getD i 0+b.getD i 0 else 0
theorem exT_zero (n:Nat) (a b:List Int):exT n a b 0=List.replicate n 0:=by
 apply List.ext_getElem (by simp [exT])
 intro i h1 h2
 simp [exT]
theorem exT_set {n:Nat} {a b:List Int} {j:Nat} (h:j<n):(exT n a b j).set j (a.getD j 0+b.getD j 0)=exT n a b (j+1):=by
 apply List.ext_getElem (by simp [exT])
 intro i h1 h2
 simp only [exT,List.getElem_set,List.getElem_map,List.getElem_range]
 by_cases c:j=i
 ·subst c;rw [if_pos rfl,if_pos F3]
 rw [if_neg c]
 by_cases d:i<j
 ·rw [if_pos d,if_pos F3]
 rw [if_neg d,if_neg F3]
theorem exT_full {n:Nat} {a b:List Int} (ha:a.length=n) (hb:b.length=n):exT n a b n=G.eD a b:=by
 apply List.ext_getElem (by simp [exT,G.eD,ha,hb])
 intro i h1 h2
 have hi:i<n:=by simpa [exT] using h1
 simp only [exT,List.getElem_map,List.getElem_range,G.eD,List.getElem_zipWith,if_pos hi]
 rw [List.getD_eq_getElem?_getD,List.getD_eq_getElem?_getD,List.getElem?_eq_getElem F3,List.getElem?_eq_getElem F3]
 rfl
section
variable {n K L:Nat}
theorem wj {l:List aw} {t:aw} (hn:n<=8) (hl:l.length<=100000) (hKL:K+L<1000000) (hok:∀ u∈l,OkT n K u) (ht:OkT n L t) (hb:∀ u∈l,∀ e∈G.eD u.1 t.1,0<=e/\e<256) :
 ∃ ls:List aw,Ev (fun k=>cm k ((n:Int),l,()) t) ((n:Int),ls,())/\ls.length=l.length/\(∀ u∈ls,OkT n (K+L) u)/\tms ls=G.sft (tms l) (tt t):=by
 obtain ⟨t1,t2,t3⟩:=ht
 have main:=dnw (n:=l.length) (P:=fun i=>∀ acc:List aw,acc.length=i->∃ ls:List aw,ls.length=l.length-i/\(∀ u∈ls,OkT n (K+L) u)/\tms ls=G.sft (tms (l.drop i)) (tt t)/\Ev2 (fun k m=>cm.l0 k m l (l.length:Int) (i:Int) ((n:Int),l,()) t ((0:Int),[],()) (n:Int) acc) ((n:Int),acc++ls,())) ?_ ?_ 0 (Nat.zero_le _) [] rfl
 ·obtain ⟨ls,h1,h2,h3,h4⟩:=main
  exact ⟨ls,Ev.step (fun k=>wk k _ _) h4.diag,F3,h2,h3⟩
 ·intro acc hacc
  exact ⟨[],F4,(fun u h=>by cases h),by rw [List.drop_length];rfl,Ev2.step (fun k m=>cm.aV k m _ _ _ _ _ _ _ _) (Ev2.bF (decide_eq_false F3) (by rw [List.append_nil];exact Ev2.of (evs _)))⟩
 intro i hi ih acc hacc
 have e:(rdT (t:=ai) l (i:Int):aw)=l[i]:=cT hi
 obtain ⟨o1,o2,o3⟩:=hok l[i] (List.getElem_mem hi)
 have hbi:=hb l[i] (List.getElem_mem hi)
 obtain ⟨v,v1,v2,v3⟩:=BZ o3.rb.1 t3.rb.1 o3.rb.2 t3.rb.2 F3
 obtain ⟨ls,h1,h2,h3,h4⟩:=ih (acc++[(G.eD l[i].1 t.1,v,())]) (by simp [hacc])
 refine ⟨(G.eD l[i].1 t.1,v,()) :: ls,by simp only [List.length_cons];omega,fun u hu=>?_,?_,?_⟩
 ·rcases List.mem_cons.1 hu with rfl | hu
  ·exact ⟨by rw [G.kd (o1.trans t1.symm)];exact o1,hbi,⟨_,v2,v3⟩⟩
  exact h2 u hu
 ·rw [gP hi,mW,mW,h3]
  show _ :: _=(G.eD l[i].1 t.1,mV l[i].2.1*mV t.2.1) :: _
  rw [tt,oB v2]
  rfl
 rw [show acc++(G.eD l[i].1 t.1,v,()) :: ls=(acc++[(G.eD l[i].1 t.1,v,())])++ls by simp]
 refine Ev2.step (fun k m=>cm.aV k m _ _ _ _ _ _ _ _) (Ev2.bT (decide_eq_true F3) (Ev2.iT F3 (Ev2.iT (by show (0:Int)<=(n:Int)/\(n:Int)<=(n:Int)/\8*(n:Int).toNat<=281474976710656/\(n:Int).toNat<=maxLen;unfold maxLen;omega) ?_)))
 rw [e]
 show Ev2 (fun k m0=>cm.l1 k k m0 l (l.length:Int) (i:Int) (List.length (List.replicate (Int.toNat (n:Int)) ((0:Int):Int)):Int) (0:Int) ((n:Int),l,()) t ((0:Int),[],()) (n:Int) acc l[i] (List.replicate (Int.toNat (n:Int)) ((0:Int):Int))) _
 rw [Int.toNat_natCast,List.length_replicate,<- exT_zero n l[i].1 t.1]
 have key:=dnw (n:=n) (P:=fun j=>Ev3 (fun k m1 m0=>cm.l1 k m1 m0 l (l.length:Int) (i:Int) (n:Int) (j:Int) ((n:Int),l,()) t ((0:Int),[],()) (n:Int) acc l[i] (exT n l[i].1 t.1 j)) ((n:Int),(acc++[(G.eD l[i].1 t.1,v,())])++ls,())) ?_ ?_ 0 (Nat.zero_le _)
 ·exact key.diag
 ·rw [exT_full o1 t1]
  refine Ev3.step (fun k m1 m0=>cm.dN k m1 m0 _ _ _ _ _ _ _ _ _ _ _ _) (Ev3.bF (decide_eq_false F3) (Ev3.bind v1 (Ev3.iT (by simp only [List.length_cons,List.length_nil];omega) (Ev3.of ?_))))
  rw [mi F3]
  exact h4
 intro j hj ihj
 have hel:(exT n l[i].1 t.1 j).length=n:=by simp [exT]
 have e1:(rdT (t:=(.int .i64)) l[i].1 (j:Int):Int)=l[i].1.getD j 0:=rfl
 have e2:(rdT (t:=(.int .i64)) t.1 (j:Int):Int)=t.1.getD j 0:=rfl
 have hjl:j<l[i].1.length:=F3
 have hjt:j<t.1.length:=F3
 have a1:=o2 _ (List.getElem_mem hjl)
 have a2:=t2 _ (List.getElem_mem hjt)
 have g1:l[i].1.getD j 0=l[i].1[j]:=by rw [List.getD_eq_getElem?_getD,List.getElem?_eq_getElem hjl];rfl
 have g2:t.1.getD j 0=t.1[j]:=by rw [List.getD_eq_getElem?_getD,List.getElem?_eq_getElem hjt];rfl
 refine Ev3.step (fun k m1 m0=>cm.dN k m1 m0 _ _ _ _ _ _ _ _ _ _ _ _) (Ev3.bT (decide_eq_true F3) (Ev3.iT F3 (Ev3.iT F3 (Ev3.iT F3 ?_))))
 rw [e1,e2,mi F3,w64 F3 F3,Int.toNat_natCast,exT_set hj]
 exact ihj
theorem BN {l l':List aw} (hn:n<=8) (hl:l.length<=60000) (hl':l'.length<=60000) (hll:l.length*l'.length<=60000) (hKL:K+L<3000) (hok:∀ u∈l,OkT n K u) (hok':∀ u∈l',OkT n L u) (hb:∀ u∈l',∀ t∈l,∀ e∈G.eD u.1 t.1,0<=e/\e<256) :
 ∃ ls:List aw,Ev (fun k=>eU k ((n:Int),l,()) ((n:Int),l',())) ((n:Int),ls,())/\ls.length<=l.length*l'.length/\(∀ t∈ls,OkT n (l.length*l'.length*(L+K+1)) t)/\Srt n (tms ls)/\Eqv (tms ls) (G.prod (tms l) (tms l')):=by
 have hbig:∀ i,i<=l.length->i*l'.length<=60000:=fun i hi=>Nat.le_trans (Nat.mul_le_mul_right _ hi) hll
 have main:=dnw (n:=l.length) (P:=fun i=>∀ acc:List aw,acc.length=i*l'.length->(∀ u∈acc,OkT n (L+K) u)->tms acc=G.prod (tms (l.take i)) (tms l') ->
  ∃ ac:List aw,ac.length=l.length*l'.length/\(∀ u∈ac,OkT n (L+K) u)/\tms ac=G.prod (tms l) (tms l')/\∀ R,Ev (fun k=>ba k (n:Int) ac) R->Ev2 (fun k m=>eU.l0 k m l (l.length:Int) (i:Int) ((n:Int),l,()) ((n:Int),l',()) ((0:Int),[],()) acc) R) ?_ ?_ 0 (Nat.zero_le _) [] F4 (fun u h=>by cases h) rfl
 ·obtain ⟨ac,h1,h2,h3,h4⟩:=main
  obtain ⟨ls,g1,g2,g3,g4,g5⟩:=sP hn (by rw [h1];have:=hbig _ (Nat.le_refl _);omega) (by
   rw [h1]
   exact Nat.le_trans (Nat.mul_le_mul (show _<=60001 by have:=hbig _ (Nat.le_refl _);omega) (show L+K+1<=3000 by omega)) (by decide)) h2
  rw [h1] at g2 g3
  rw [h3] at g5
  exact ⟨ls,Ev.step (fun k=>BO k _ _) (h4 _ g1).diag,g2,g3,g4,g5⟩
 ·intro acc h1 h2 h3
  rw [List.take_length] at h3
  exact ⟨acc,h1,h2,h3,fun R hR=>Ev2.step (fun k m=>eU.aV k m _ _ _ _ _ _ _) (Ev2.bF (decide_eq_false F3) (Ev2.bind hR (Ev2.of (evs _))))⟩
 intro i hi ih acc h1 h2 h3
 have e:(rdT (t:=ai) l (i:Int):aw)=l[i]:=cT hi
 obtain ⟨ls,s1,s2,s3,s4⟩:=wj (l:=l') (t:=l[i]) hn F3 F3 hok' (hok _ (List.getElem_mem hi)) (fun u hu=>hb u hu _ (List.getElem_mem hi))
 have hsz:=hbig (i+1) F3
 have hmul:(i+1)*l'.length=i*l'.length+l'.length:=Nat.succ_mul _ _
 obtain ⟨ac,a1,a2,a3,a4⟩:=ih (acc++ls) (by rw [List.length_append,h1,s2,hmul]) (fun u hu=>by
  rcases List.mem_append.1 hu with hu | hu
  ·exact h2 u hu
  ·exact s3 u hu) (by
  rw [lC,h3,s4,List.take_succ_eq_append_getElem hi,lC]
  simp only [G.prod,List.flatMap_append]
  show _=_++(G.sft (tms l') (tt l[i])++[])
  rw [List.append_nil])
 refine ⟨ac,a1,a2,a3,fun R hR=>?_⟩
 refine Ev2.step (fun k m=>eU.aV k m _ _ _ _ _ _ _) (Ev2.bT (decide_eq_true F3) (Ev2.iT F3 ?_))
 rw [e]
 refine Ev2.bind s1 (Ev2.iT (by show (acc.length+ls.length)*80<=_;omega) (Ev2.bF (decide_eq_false (by show ¬ ((acc++ls).length:Int)>65536;rw [List.length_append];omega) ) ?_))
 show Ev2 (fun k m=>eU.l0 k m l (l.length:Int) (wrap64 ((i:Int)+(1:Int))) ((n:Int),l,()) ((n:Int),l',()) ((0:Int),[],()) (acc++ls)) R
 rw [mi F3]
 exact a4 R hR
end
open Go.Proofs.YtfbgaddecbiimaaGreatDoor.G (oC)
noncomputable def th (v:cf):Rat:=Rat.divInt (sg v.1 (vl RR v.2.1)) (vl RR v.2.2.1)
theorem qN {v:cf} {q:Rat} (h:RB RR v q):th v=q:=by
 have h1:=rb_val h
 unfold th
 rw [h.2.1.2.2,h.2.2.2.2]
 exact h1
def CoR (K:Nat) (v:cf):Prop:=∃ q,RB RR v q/\Sz RR K q
theorem CoR.rb {K:Nat} {v:cf} (h:CoR K v):RB RR v (th v)/\Sz RR K (th v):=by
 obtain ⟨q,h1,h2⟩:=h
 rw [qN h1]
 exact ⟨h1,h2⟩
theorem CoR.mono {K L:Nat} {v:cf} (h:CoR K v) (hk:K<=L):CoR L v:=by
 obtain ⟨q,h1,h2⟩:=h
 exact ⟨q,h1,ox bh h2 hk⟩
noncomputable def tmR (n:Nat) (t:aw):Tm:=(t.1.take n,th t.2.1)
noncomputable def fD (n:Nat) (l:List aw):List Tm:=l.map (tmR n)
def OkR (n K:Nat) (t:aw):Prop:=t.1=fF (t.1.take n)/\(t.1.take n).length=n/\CoR K t.2.1
theorem OkR.mono {n K L:Nat} {t:aw} (h:OkR n K t) (hk:K<=L):OkR n L t:=⟨h.1,h.2.1,h.2.2.mono hk⟩
theorem wq {x:List Int} (h:x.length=8):fF x=x:=by
 rw [fF,cx _ _ _ F3,h];simp
theorem OkR.len {n K:Nat} {t:aw} (h:OkR n K t):t.1.length=8:=by rw [h.1];exact dw _ _ _
theorem tx {n K L:Nat} {r:List aw} {e:List Int} {c:cf} {q:Rat} (hn:n<=8) (hr:r.length<=100000) (hK:K+L<1000000) (hok:∀ t∈r,OkR n K t) (he:e.length=n) (hc:RB RR c q) (hs:Sz RR L q) :
 ∃ r':List aw,Ev (fun k=>bI k r (fF e) c) r'/\fD n r'=oC (fD n r) e q/\(∀ t∈r',OkR n (K+L+1) t)/\r'.length<=r.length+1:=by
 have hsg:=mB hc
 by_cases c0:q=0
 ·refine ⟨r,Ev.step (fun k=>gY k _ _ _) (Ev.bind hsg (bT (by rw [lG];exact decide_eq_true c0) (evs _))),by rw [oC,if_pos c0],fun t ht=>(hok t ht).mono F3,F3⟩
 have hsz:(sgn q==(0:Int))=false:=by rw [lG];exact decide_eq_false c0
 have ep:fS (0:Int) 8 (fF e)=fF e:=wq (dw _ _ _)
 have main:=dnw (n:=r.length) (P:=fun i=>(∀ j (h:j<r.length),j<i->r[j].1≠fF e)->∃ r':List aw,Ev2 (fun k m=>bI.l0 k m (r.length:Int) (i:Int) r (fF e) c) r'/\fD n r'=oC (fD n r) e q/\(∀ t∈r',OkR n (K+L+1) t)/\r'.length<=r.length+1) ?_ ?_ 0 (Nat.zero_le _) (fun j _ h=>F3)
 ·obtain ⟨r',h1,h2,h3,h4⟩:=main
  exact ⟨r',Ev.step (fun k=>gY k _ _ _) (Ev.bind hsg (bF hsz h1.diag)),h2,h3,h4⟩
 ·intro hno
  refine ⟨r++[(fF e,c,())],Ev2.step (fun k m=>bI.aV k m _ _ _ _ _) (Ev2.bF (decide_eq_false F3) (Ev2.iT (by simp only [List.length_cons,List.length_nil];omega) (Ev2.of (evs _)))),?_,fun t ht=>?_,F4⟩
  ·rw [oC,if_neg c0]
   have hf:(fD n r).findIdx? (fun t=>t.1==e)=none:=by
    rw [List.findIdx?_eq_none_iff]
    intro t ht
    obtain ⟨u,hu,rfl⟩:=List.mem_map.1 ht
    obtain ⟨j,hj,rfl⟩:=List.getElem_of_mem hu
    rw [beq_eq_false_iff_ne]
    intro h
    refine hno j hj hj ?_
    rw [(hok _ hu).1]
    exact congrArg fF h
   rw [hf]
   show (r++[(fF e,c,())]).map (tmR n)=r.map (tmR n)++[(e,q)]
   rw [List.map_append]
   show _++[((fF e).take n,th c)]=_
   rw [qN hc,<- he,fq F3]
  rcases List.mem_append.1 ht with ht | ht
  ·exact (hok t ht).mono F3
  rw [List.mem_singleton] at ht
  subst ht
  have h1:(fF e).take n=e:=by rw [<- he,fq F3]
  exact ⟨by show fF e=fF ((fF e).take n);rw [h1],by show ((fF e).take n).length=n;rw [h1,he],q,hc,ox bh hs F3⟩
 intro i hi ih hno
 have er:(rdT (t:=af) r (i:Int):aw)=r[i]:=cT hi
 obtain ⟨o1,o2,o3⟩:=hok r[i] (List.getElem_mem hi)
 have hl8:=(hok r[i] (List.getElem_mem hi)).len
 have epi:fS (0:Int) 8 r[i].1=r[i].1:=wq hl8
 by_cases c1:r[i].1=fF e
 ·obtain ⟨v,v1,v2,v3⟩:=tA o3.rb.1 hc o3.rb.2 hs F3
  have hsv:=mB v2
  have hxe:r[i].1.take n=e:=by rw [c1,<- he,fq F3]
  have hf:(fD n r).findIdx? (fun t=>t.1==e)=some i:=by
   rw [List.findIdx?_eq_some_iff_getElem]
   refine ⟨by simpa [fD] using hi,by simp [fD,tmR,hxe],fun j hj=>?_⟩
   have hj':j<r.length:=F3
   simp only [fD,tmR,List.getElem_map,beq_iff_eq]
   intro h
   refine hno j hj' hj ?_
   rw [(hok _ (List.getElem_mem hj')).1]
   exact congrArg fF h
  have hg:((fD n r).getD i ([],0)).2=th r[i].2.1:=by simp [fD,tmR,List.getD_eq_getElem?_getD,hi]
  have w1:wrap64 ((r.length:Int)-1)=((r.length-1:Nat):Int):=by rw [w64 F3 F3];omega
  by_cases c2:th r[i].2.1+q=0
  ·rw [c2] at hsv
   have hlast:r.length-1<r.length:=F3
   have el:(rdT (t:=af) r ((r.length-1:Nat):Int):aw)=r[r.length-1]:=cT hlast
   refine ⟨(r.set i r[r.length-1]).take (r.length-1),?_,?_,fun t ht=>?_,by rw [List.length_take];omega⟩
   ·refine Ev2.step (fun k m=>bI.aV k m _ _ _ _ _) (Ev2.bT (decide_eq_true F3) (Ev2.iT F3 ?_))
    rw [er,epi,ep,c1]
    refine Ev2.bT F4 (Ev2.iT F3 (Ev2.bind v1 (Ev2.bind hsv (Ev2.bT rfl ?_))))
    rw [w1,el,Int.toNat_natCast,List.length_set,w1,Int.toNat_natCast]
    exact Ev2.iT F3 (Ev2.iT F3 (Ev2.iT F3 (Ev2.of (evs _))))
   ·rw [oC,if_neg c0,hf]
    dsimp only
    rw [if_pos (by rw [hg];exact c2)]
    have hll:(fD n r).length=r.length:=by simp [fD]
    rw [hll]
    have h2:(fD n r).getD (r.length-1) ([],0)=tmR n r[r.length-1]:=by simp [fD,List.getD_eq_getElem?_getD,hlast]
    rw [h2]
    simp only [fD,List.map_take,List.map_set]
   rcases List.mem_or_eq_of_mem_set (List.mem_of_mem_take ht) with h | rfl
   ·exact (hok t h).mono F3
   exact (hok _ (List.getElem_mem hlast)).mono F3
  have hne:(sgn (th r[i].2.1+q)==(0:Int))=false:=by rw [lG];exact decide_eq_false c2
  refine ⟨r.set i (r[i].1,v,r[i].2.2),?_,?_,fun t ht=>?_,by rw [List.length_set];omega⟩
  ·refine Ev2.step (fun k m=>bI.aV k m _ _ _ _ _) (Ev2.bT (decide_eq_true F3) (Ev2.iT F3 ?_))
   rw [er,epi,ep]
   refine Ev2.bT (by simp [c1]) (Ev2.iT F3 (Ev2.bind v1 (Ev2.bind hsv (Ev2.bF hne (Ev2.iT F3 ?_)))))
   rw [Int.toNat_natCast]
   exact Ev2.of (evs _)
  ·rw [oC,if_neg c0,hf]
   dsimp only
   rw [if_neg (by rw [hg];exact c2),hg]
   simp only [fD,List.map_set]
   show _=(List.map (tmR n) r).set i (e,th r[i].2.1+q)
   rw [show tmR n (r[i].1,v,r[i].2.2)=(e,th r[i].2.1+q) by show (r[i].1.take n,th v)=_;rw [hxe,qN v2]]
  rcases List.mem_or_eq_of_mem_set ht with h | rfl
  ·exact (hok t h).mono F3
  exact ⟨o1,o2,_,v2,v3⟩
 obtain ⟨r',h1,h2,h3,h4⟩:=ih (fun j hj hji=>by
  by_cases d:j=i
  ·subst d;exact c1
  exact hno j hj F3)
 refine ⟨r',Ev2.step (fun k m=>bI.aV k m _ _ _ _ _) (Ev2.bT (decide_eq_true F3) (Ev2.iT F3 ?_)),h2,h3,h4⟩
 rw [er,epi,ep]
 refine Ev2.bF (by simp [c1]) ?_
 rw [mi F3]
 exact h1
def exS (a b:List Int) (j:Nat):List Int:=(List.range 8).map fun i=>if i<j then a.getD i 0+b.getD i 0 else a.getD i 0
theorem exS_zero {a b:List Int} (ha:a.length=8):exS a b 0=a:=by
 apply List.ext_getElem (by simp [exS,ha])
 intro i h1 h2
 simp [exS,List.getD_eq_getElem?_getD,List.getElem?_eq_getElem h2]
theorem ER (a b:List Int) (j:Nat):(exS a b j).length=8:=by simp [exS]
theorem exS_get {a b:List Int} {j:Nat} (h:j<(exS a b j).length):(exS a b j)[j]=a.getD j 0:=by simp [exS]
theorem exS_set {a b:List Int} {j:Nat}:(exS a b j).set j (a.getD j 0+b.getD j 0)=exS a b (j+1):=by
 apply List.ext_getElem (by simp [exS])
 intro i h1 h2
 simp only [exS,List.getElem_set,List.getElem_map,List.getElem_range]
 by_cases c:j=i
 ·subst c;rw [if_pos rfl,if_pos F3]
 rw [if_neg c]
 by_cases d:i<j
 ·rw [if_pos d,if_pos F3]
 rw [if_neg d,if_neg F3]
theorem exS_full {a b:List Int} (ha:a.length=8) (hb:b.length=8):exS a b 8=G.eD a b:=by
 apply List.ext_getElem (by simp [exS,G.eD,ha,hb])
 intro i h1 h2
 have hi:i<8:=by simpa [exS] using h1
 simp only [exS,List.getElem_map,List.getElem_range,G.eD,List.getElem_zipWith,if_pos hi]
 rw [List.getD_eq_getElem?_getD,List.getD_eq_getElem?_getD,List.getElem?_eq_getElem F3,List.getElem?_eq_getElem F3]
 rfl
theorem DU {x y:List Int} (h:x.length=y.length) (hx:x.length<=8):G.eD (fF x) (fF y)=fF (G.eD x y):=by
 have hl:=G.kd h
 rw [fF,fF,fF,cx _ _ _ F3,cx _ _ _ F3,cx _ _ _ F3,hl]
 unfold G.eD
 rw [List.zipWith_append h,h]
 congr 1
 simp
theorem vV {n K L:Nat} {l:List aw} {t:aw} (hn:n<=8) (hl:l.length<=100000) (hKL:K+L<1000000) (hok:∀ u∈l,OkR n K u) (ht:OkR n L t) (hb:∀ u∈l,∀ j,-1000000<=u.1.getD j 0/\u.1.getD j 0<1000000) (hb':∀ j,-1000000<=t.1.getD j 0/\t.1.getD j 0<1000000) :
 ∃ ls:List aw,Ev (fun k=>aU k l t) ls/\ls.length=l.length/\(∀ u∈ls,OkR n (K+L) u)/\fD n ls=G.sft (fD n l) (tmR n t):=by
 have t8:=ht.len
 obtain ⟨t1,t2,t3⟩:=ht
 have main:=dnw (n:=l.length) (P:=fun i=>∀ acc:List aw,acc.length=i->∃ ls:List aw,ls.length=l.length-i/\(∀ u∈ls,OkR n (K+L) u)/\fD n ls=G.sft (fD n (l.drop i)) (tmR n t)/\Ev2 (fun k m=>aU.l0 k m l (l.length:Int) (i:Int) t acc) (acc++ls)) ?_ ?_ 0 (Nat.zero_le _) [] rfl
 ·obtain ⟨ls,h1,h2,h3,h4⟩:=main
  exact ⟨ls,Ev.step (fun k=>jU k _ _) h4.diag,F3,h2,h3⟩
 ·intro acc hacc
  exact ⟨[],F4,(fun u h=>by cases h),by rw [List.drop_length];rfl,Ev2.step (fun k m=>aU.aV k m _ _ _ _ _) (Ev2.bF (decide_eq_false F3) (by rw [List.append_nil];exact Ev2.of (evs _)))⟩
 intro i hi ih acc hacc
 have e:(rdT (t:=af) l (i:Int):aw)=l[i]:=cT hi
 have o8:=(hok l[i] (List.getElem_mem hi)).len
 obtain ⟨o1,o2,o3⟩:=hok l[i] (List.getElem_mem hi)
 have hbi:=hb l[i] (List.getElem_mem hi)
 obtain ⟨v,v1,v2,v3⟩:=Bw o3.rb.1 t3.rb.1 o3.rb.2 t3.rb.2 F3
 obtain ⟨ls,h1,h2,h3,h4⟩:=ih (acc++[(G.eD l[i].1 t.1,v,())]) (by simp [hacc])
 have ha:G.eD l[i].1 t.1=fF (G.eD (l[i].1.take n) (t.1.take n)):=by
  rw [<- DU (o2.trans t2.symm) F3,<- o1,<- t1]
 have hal:(G.eD (l[i].1.take n) (t.1.take n)).length=n:=(G.kd (o2.trans t2.symm)).trans o2
 have htk:(G.eD l[i].1 t.1).take n=G.eD (l[i].1.take n) (t.1.take n):=by
  rw [ha]
  conv=>lhs;arg 1;rw [<- hal]
  exact fq F3
 refine ⟨(G.eD l[i].1 t.1,v,()) :: ls,by simp only [List.length_cons];omega,fun u hu=>?_,?_,?_⟩
 ·rcases List.mem_cons.1 hu with rfl | hu
  ·exact ⟨by show G.eD l[i].1 t.1=fF ((G.eD l[i].1 t.1).take n);rw [htk];exact ha,by show ((G.eD l[i].1 t.1).take n).length=n;rw [htk];exact hal,⟨_,v2,v3⟩⟩
  exact h2 u hu
 ·rw [gP hi]
  show tmR n _ :: fD n ls=G.sft (tmR n l[i] :: fD n (l.drop (i+1))) (tmR n t)
  rw [h3]
  show ((G.eD l[i].1 t.1).take n,th v) :: _=(G.eD (l[i].1.take n) (t.1.take n),th l[i].2.1*th t.2.1) :: _
  rw [htk,qN v2]
  rfl
 rw [show acc++(G.eD l[i].1 t.1,v,()) :: ls=(acc++[(G.eD l[i].1 t.1,v,())])++ls by simp]
 refine Ev2.step (fun k m=>aU.aV k m _ _ _ _ _) (Ev2.bT (decide_eq_true F3) (Ev2.iT F3 ?_))
 rw [e]
 have key:=dnw (n:=8) (P:=fun j=>Ev3 (fun k m1 m0=>aU.l1 k m1 m0 l (l.length:Int) (i:Int) (j:Int) t acc l[i] (exS l[i].1 t.1 j)) ((acc++[(G.eD l[i].1 t.1,v,())])++ls)) ?_ ?_ 0 (Nat.zero_le _)
 ·rw [exS_zero o8] at key
  exact key.diag
 ·rw [exS_full o8 t8]
  refine Ev3.step (fun k m1 m0=>aU.dN k m1 m0 _ _ _ _ _ _ _ _) (Ev3.bF (decide_eq_false F3) (Ev3.bind v1 (Ev3.iT (by simp only [List.length_cons,List.length_nil];omega) (Ev3.of ?_))))
  rw [mi F3]
  exact h4
 intro j hj ihj
 have a1:=hbi j
 have a2:=hb' j
 have e1:rdA (0:Int) 8 (exS l[i].1 t.1 j) (j:Int)=l[i].1.getD j 0:=by
  rw [qM (ER _ _ _) hj];exact exS_get _
 have e2:rdA (0:Int) 8 t.1 (j:Int)=t.1.getD j 0:=by
  rw [qM t8 hj,List.getD_eq_getElem?_getD,List.getElem?_eq_getElem F3];rfl
 refine Ev3.step (fun k m1 m0=>aU.dN k m1 m0 _ _ _ _ _ _ _ _) (Ev3.bT (decide_eq_true F3) (Ev3.iT F3 (Ev3.iT F3 (Ev3.iT F3 ?_))))
 rw [e1,e2,mi F3,w64 F3 F3,C8 (ER _ _ _) hj,exS_set]
 exact ihj
end Go.Proofs.YtfbgaddecbiimaaGreatDoor.Q
end
section
namespace Go.Proofs.YtfbgaddecbiimaaGreatDoor.G
def fM:Ex->Int
 | []=>0
 | a :: l=>a+fM l
theorem lD:∀ {a b:Ex},a.length=b.length->fM (eD a b)=fM a+fM b
 | [],[],_=>rfl
 | [],_ :: _,h=>by simp at h
 | _ :: _,[],h=>by simp at h
 | a :: l,b :: k,h=>by
  have ih:=lD (a:=l) (b:=k) (by simpa using h)
  simp only [eD] at ih
  simp only [eD,List.zipWith_cons_cons,fM,ih]
  omega
def deg:List Tm->Int
 | []=>-1
 | t :: l=>max (fM t.1) (deg l)
theorem tU {d:Int}:∀ {p:List Tm},-1<=d->(∀ t∈p,fM t.1<=d)->deg p<=d
 | [],h,_=>h
 | t :: p,h,h'=>by
  have h1:=tU (p:=p) h (fun u hu=>h' u (List.mem_cons_of_mem _ hu))
  have h2:=h' t (List.mem_cons_self ..)
  simp only [deg];omega
theorem rJ:∀ {p:List Tm} {t:Tm},t∈p->fM t.1<=deg p
 | [],_,h=>by simp at h
 | u :: p,t,h=>by
  simp only [deg]
  rcases List.mem_cons.1 h with e | e
  ·rw [e];omega
  have:=rJ e;omega
theorem mq:∀ (p:List Tm),-1<=deg p
 | []=>by simp [deg]
 | t :: p=>by have:=mq p;simp only [deg];omega
theorem co_ne {l:List Tm} {e:Ex} (h:co l e≠0):∃ t∈l,t.1=e:=by
 apply Classical.byContradiction
 intro c
 exact h (AD fun t ht e'=>c ⟨t,ht,e'⟩)
theorem Dst.from {n:Nat} {p r:List Tm} (h:Dst n p) (he:∀ e,co p e=co r e) {t:Tm} (ht:t∈p):∃ u∈r,u.1=t.1:=by
 apply co_ne
 rw [<- he,h.nX t ht]
 exact h.nz t ht
theorem Dst.EZ {n:Nat} {p r:List Tm} (h:Dst n p) (he:∀ e,co p e=co r e):deg p<=deg r:=tU (mq r) fun t ht=>by
 obtain ⟨u,hu,e⟩:=h.from he ht
 rw [<- e];exact rJ hu
theorem Dst.deg_eq {n n':Nat} {p q:List Tm} (hp:Dst n p) (hq:Dst n' q) (he:∀ e,co p e=co q e):deg p=deg q:=Int.le_antisymm (hp.EZ he) (hq.EZ fun e=>(he e).symm)
structure Ord (g:Ex->Ex->Bool):Prop where
 irr:∀ a,g a a=false
 tr:∀ {a b c},g a b=true->g b c=true->g a c=true
 tot:∀ {a b:Ex},a.length=b.length->g a b=false->g b a=false->a=b
 add:∀ {a b c:Ex},a.length=c.length->b.length=c.length->g a b=true->g (eD a c) (eD b c)=true
def gtD (a b:Ex):Bool:=if fM a=fM b then gtE a b else decide (fM a>fM b)
theorem ym:Ord gtD:=by
 refine ⟨fun a=>?_,fun {a b c} h h'=>?_,fun {a b} hl h h'=>?_,fun {a b c} h1 h2 h=>?_⟩
 ·rw [gtD,if_pos rfl];exact lN a
 ·rw [gtD] at h h' ⊢
  by_cases e:fM a=fM b
  ·rw [if_pos e] at h
   by_cases e':fM b=fM c
   ·rw [if_pos e'] at h'
    rw [if_pos (e.trans e')];exact nR h h'
   rw [if_neg e'] at h'
   have:fM b>fM c:=by simpa using h'
   rw [if_neg F3];simp;omega
  rw [if_neg e] at h
  have h1:fM a>fM b:=by simpa using h
  by_cases e':fM b=fM c
  ·rw [if_neg F3];simp;omega
  rw [if_neg e'] at h'
  have:fM b>fM c:=by simpa using h'
  rw [if_neg F3];simp;omega
 ·rw [gtD] at h h'
  by_cases e:fM a=fM b
  ·rw [if_pos e] at h
   rw [if_pos e.symm] at h'
   exact wS hl h h'
  rw [if_neg e] at h
  rw [if_neg (fun x=>e x.symm)] at h'
  have h1:¬ fM a>fM b:=by simpa using h
  have h2:¬ fM b>fM a:=by simpa using h'
  omega
 rw [gtD] at h ⊢
 rw [lD h1,lD h2]
 by_cases e:fM a=fM b
 ·rw [if_pos e] at h
  rw [if_pos F3]
  exact FC h1 h2 h
 rw [if_neg e] at h
 have h1:fM a>fM b:=by simpa using h
 rw [if_neg F3];simp;omega
def Top (g:Ex->Ex->Bool) (p:List Tm) (t:Tm):Prop:=t∈p/\∀ u∈p,u.1=t.1∨g t.1 u.1=true
theorem CX {g:Ex->Ex->Bool} (hg:Ord g) {n:Nat}:∀ {p:List Tm},Len n p->p≠[]->∃ t,Top g p t
 | [],_,h=>absurd rfl h
 | [t],_,_=>⟨t,List.mem_cons_self ..,fun u hu=>.inl (by rw [List.mem_singleton] at hu;rw [hu])⟩
 | t :: s :: p,hl,_=>by
  obtain ⟨v,h1,h2⟩:=CX hg (p:=s :: p) (fun x hx=>hl x (List.mem_cons_of_mem _ hx)) F4
  cases c:g t.1 v.1 with
  | true =>
   refine ⟨t,List.mem_cons_self ..,fun u hu=>?_⟩
   rcases List.mem_cons.1 hu with e | e
   ·exact .inl (by rw [e])
   rcases h2 u e with e' | e'
   ·exact .inr (by rw [e'];exact c)
   exact .inr (hg.tr c e')
  | false =>
   refine ⟨v,List.mem_cons_of_mem _ h1,fun u hu=>?_⟩
   rcases List.mem_cons.1 hu with e | e
   ·rw [e]
    cases c':g v.1 t.1 with
    | true=>exact .inr rfl
    | false=>exact .inl (hg.tot (by rw [hl t (List.mem_cons_self ..),hl v (List.mem_cons_of_mem _ h1)]) c c')
   exact h2 u e
theorem top_prod {g:Ex->Ex->Bool} (hg:Ord g) {n:Nat} {p q:List Tm} (hp:Len n p) (hq:Len n q) {t u:Tm} (ht:Top g p t) (hu:Top g q u) :
 co (prod p q) (eD t.1 u.1)=co p t.1*co q u.1/\∀ v∈prod p q,v.1=eD t.1 u.1∨g (eD t.1 u.1) v.1=true:=by
 have lt:=hp t ht.1
 have lu:=hq u hu.1
 have cmp:∀ a∈p,∀ b∈q,(a.1=t.1/\b.1=u.1)∨g (eD t.1 u.1) (eD b.1 a.1)=true:=fun a ha b hb=>by
  have la:=hp a ha
  have lb:=hq b hb
  have s1:g t.1 a.1=true->g (eD t.1 u.1) (eD a.1 u.1)=true:=hg.add (lt.trans lu.symm) (la.trans lu.symm)
  have s2:g u.1 b.1=true->g (eD a.1 u.1) (eD b.1 a.1)=true:=fun h=>by
   rw [jf a.1];exact hg.add (lu.trans la.symm) (lb.trans la.symm) h
  rcases ht.2 a ha with e | e
  ·rcases hu.2 b hb with e' | e'
   ·exact .inl ⟨e,e'⟩
   exact .inr (by have:=s2 e';rw [e] at this ⊢;exact this)
  rcases hu.2 b hb with e' | e'
  ·exact .inr (by have:=s1 e;rw [e',jf u.1];exact this)
  exact .inr (hg.tr (s1 e) (s2 e'))
 constructor
 ·show lin _ _=_
  rw [ql]
  have h1:lin (fun e=>lin (fun f=>dl (eD t.1 u.1) (eD f e)) q) p=lin (fun e=>co q u.1*dl t.1 e) p:=nN fun a ha=>.inr (by
   by_cases c:a.1=t.1
   ·have h2:lin (fun f=>dl (eD t.1 u.1) (eD f a.1)) q=lin (dl u.1) q:=nN fun b hb=>.inr (by
     simp only [dl]
     by_cases c':b.1=u.1
     ·rw [if_pos c',if_pos (by rw [c',c,jf])]
     rw [if_neg c',if_neg (fun e=>by
      rcases cmp a ha b hb with e' | e'
      ·exact c' e'.2
      rw [e,hg.irr] at e';cases e')])
    rw [h2]
    simp only [dl,if_pos c]
    show co q u.1=_
    grind
   have h2:lin (fun f=>dl (eD t.1 u.1) (eD f a.1)) q=lin (fun _=>0) q:=nN fun b hb=>.inr (by
    simp only [dl]
    rw [if_neg (fun e=>by
     rcases cmp a ha b hb with e' | e'
     ·exact c e'.1
     rw [e,hg.irr] at e';cases e')])
   rw [h2,Ad]
   simp only [dl,if_neg c]
   grind)
  rw [h1,El]
  show co q u.1*co p t.1=_
  grind
 intro v hv
 obtain ⟨a,ha,hv⟩:=List.mem_flatMap.1 hv
 obtain ⟨b,hb,rfl⟩:=List.mem_map.1 hv
 rcases cmp a ha b hb with e | e
 ·exact .inl (by show eD b.1 a.1=_;rw [e.1,e.2,jf])
 exact .inr e
theorem deg_prod {n:Nat} {p q r:List Tm} (hp:Dst n p) (hq:Dst n q) (hr:Dst n r) (he:∀ e,co r e=co (prod p q) e) (h1:p≠[]) (h2:q≠[]) (np:∀ t∈p,0<=fM t.1) (nq:∀ t∈q,0<=fM t.1):deg r=deg p+deg q:=by
 obtain ⟨t,ht⟩:=CX ym hp.len h1
 obtain ⟨u,hu⟩:=CX ym hq.len h2
 obtain ⟨h3,h4⟩:=top_prod ym hp.len hq.len ht hu
 have s:fM (eD t.1 u.1)=fM t.1+fM u.1:=lD ((hp.len t ht.1).trans (hq.len u hu.1).symm)
 have gd:∀ {a b:Ex},a=b∨gtD b a=true->fM a<=fM b:=fun {a b} h=>by
  rcases h with h | h
  ·rw [h];exact Int.le_refl _
  rw [gtD] at h
  by_cases c:fM b=fM a
  ·omega
  rw [if_neg c] at h
  have:fM b>fM a:=by simpa using h
  omega
 have dt:deg p=fM t.1:=Int.le_antisymm (tU (by have:=np t ht.1;omega) fun a ha=>gd (ht.2 a ha)) (rJ ht.1)
 have du:deg q=fM u.1:=Int.le_antisymm (tU (by have:=nq u hu.1;omega) fun a ha=>gd (hu.2 a ha)) (rJ hu.1)
 have hm:(eD t.1 u.1,co p t.1*co q u.1)∈r:=(hr.mem_iff _).2 ⟨by rw [he,h3],by
  rw [hp.nX t ht.1,hq.nX u hu.1]
  exact fun h=>(Rat.mul_eq_zero.1 h).elim (hp.nz t ht.1) (hq.nz u hu.1)⟩
 refine Int.le_antisymm (Int.le_trans (hr.EZ he) ?_) (by rw [dt,du,<- s];exact rJ hm)
 refine tU (by have:=np t ht.1;have:=nq u hu.1;omega) fun v hv=>?_
 have:=gd (h4 v hv)
 omega
def Cz (D H:Int) (q:Rat):Prop:=∃ z:Int,q*(D:Rat)=(z:Rat)/\(z.natAbs:Int)<=H
theorem Cz.zero {D H:Int} (h:0<=H):Cz D H 0:=⟨0,F4,by simpa using h⟩
theorem Cz.mono {D H H':Int} {q:Rat} (h:Cz D H q) (hh:H<=H'):Cz D H' q:=let ⟨z,h1,h2⟩:=h;⟨z,h1,F3⟩
theorem Cz.add {D H H':Int} {a b:Rat} (h:Cz D H a) (h':Cz D H' b):Cz D (H+H') (a+b):=by
 obtain ⟨z,h1,h2⟩:=h
 obtain ⟨y,h3,h4⟩:=h'
 refine ⟨z+y,?_,F3⟩
 rw [Rat.intCast_add,<- h1,<- h3];grind
theorem Cz.size {D H:Int} {q:Rat} (hD:0<D) (h:Cz D H q):(q.den:Int)<=D/\(q.num.natAbs:Int)<=H:=by
 obtain ⟨z,h1,h2⟩:=h
 have hq:q=Rat.divInt z D:=by
  rw [Rat.divInt_eq_div,<- h1]
  have:(D:Rat)≠0:=by
   intro h
   have:=Rat.intCast_inj.1 (h.trans Rat.intCast_zero.symm)
   omega
  rw [Rat.div_def,Rat.mul_assoc,Rat.mul_inv_cancel _ this];grind
 have hg:D.gcd z≠0:=by
  intro h
  have:=Int.gcd_eq_zero_iff.1 h
  omega
 constructor
 ·rw [hq,Rat.den_divInt,if_neg F3]
  have:D.natAbs / D.gcd z<=D.natAbs:=Nat.div_le_self ..
  omega
 rw [hq,Rat.num_divInt,Int.sign_eq_one_of_pos hD,Int.one_mul]
 have:(z / (D.gcd z:Int)).natAbs<=z.natAbs:=by
  rw [Int.natAbs_ediv_of_dvd (Int.gcd_dvd_right ..)]
  exact Nat.div_le_self ..
 omega
def CL (D:Int):Int->List Tm->Prop
 | H,[]=>0<=H
 | H,t :: l=>∃ z:Int,t.2*(D:Rat)=(z:Rat)/\CL D (H-z.natAbs) l
theorem CL.mono {D:Int}:∀ {l:List Tm} {H H':Int},CL D H l->H<=H'->CL D H' l
 | [],H,H',h,hh=>Int.le_trans h hh
 | t :: l,H,H',⟨z,h1,h2⟩,hh=>⟨z,h1,h2.mono F3⟩
theorem CL.pos {D:Int}:∀ {l:List Tm} {H:Int},CL D H l->0<=H
 | [],H,h=>h
 | t :: l,H,⟨z,h1,h2⟩=>by have:=h2.pos;omega
theorem CL.append {D:Int}:∀ {p q:List Tm} {H H':Int},CL D H p->CL D H' q->CL D (H+H') (p++q)
 | [],q,H,H',h,h'=>h'.mono (by have:0<=H:=h;omega)
 | t :: p,q,H,H',⟨z,h1,h2⟩,h'=>⟨z,h1,(h2.append h').mono F3⟩
theorem CL.sft {D D' H':Int} {t:Tm} (ht:Cz D' H' t.2):∀ {p:List Tm} {H:Int},CL D H p->CL (D*D') (H*H') (sft p t)
 | [],H,h=>Int.mul_nonneg h (by obtain ⟨z,_,h2⟩:=ht;omega)
 | u :: p,H,⟨z,h1,h2⟩=>by
  have ih:=CL.sft ht h2
  obtain ⟨y,h3,h4⟩:=ht
  refine ⟨z*y,?_,ih.mono ?_⟩
  ·show u.2*t.2*_=_
   rw [Rat.intCast_mul,Rat.intCast_mul,<- h1,<- h3];grind
  rw [Int.natAbs_mul,Int.natCast_mul,Int.sub_mul]
  have:(z.natAbs:Int)*y.natAbs<=z.natAbs*H':=Int.mul_le_mul_of_nonneg_left h4 F3
  omega
theorem CL.prod {D D':Int} {q:List Tm}:∀ {p:List Tm} {H H':Int},CL D H p->CL D' H' q->CL (D*D') (H*H') (prod p q)
 | [],H,H',h,h'=>Int.mul_nonneg h h'.pos
 | t :: p,H,H',⟨z,h1,h2⟩,h'=>by
  have h3:Cz D (z.natAbs:Int) t.2:=⟨z,h1,Int.le_refl _⟩
  have h4:=CL.sft h3 h'
  rw [Int.mul_comm D' D] at h4
  have h5:=h4.append (CL.prod h2 h')
  exact h5.mono (by rw [Int.sub_mul,Int.mul_comm H'];omega)
theorem CL.one (n:Nat):CL 1 1 (one n):=⟨1,F4,by show (0:Int)<=_;decide⟩
theorem CL.co {D:Int} (e:Ex):∀ {p:List Tm} {H:Int},CL D H p->Cz D H (co p e)
 | [],H,h=>by rw [E7];exact Cz.zero h
 | t :: p,H,⟨z,h1,h2⟩=>by
  have ih:=CL.co e h2
  rw [sb]
  split
  ·exact (Cz.add ⟨z,h1,Int.le_refl _⟩ ih).mono F3
  refine (Cz.add (Cz.zero (H:=0) (Int.le_refl _)) ih).mono ?_
  omega
def canon (p acc:List Tm):List Tm:=p.foldl (fun acc t=>oC acc t.1 t.2) acc
theorem tX {n:Nat}:∀ {p acc:List Tm},Dst n acc->Len n p->Dst n (canon p acc)/\∀ m,lin m (canon p acc)=lin m acc+lin m p
 | [],acc,h,_=>⟨h,fun m=>by simp only [canon,List.foldl_nil,lin];grind⟩
 | t :: p,acc,h,hl=>by
  obtain ⟨h1,h2⟩:=wb (c:=t.2) h (hl t (List.mem_cons_self ..))
  obtain ⟨h3,h4⟩:=tX (p:=p) h1 (fun u hu=>hl u (List.mem_cons_of_mem _ hu))
  refine ⟨h3,fun m=>?_⟩
  show lin m (canon p (oC acc t.1 t.2))=_
  rw [h4,h2];simp only [lin];grind
end Go.Proofs.YtfbgaddecbiimaaGreatDoor.G
end
section
namespace Go.Proofs.YtfbgaddecbiimaaGreatDoor.Q
open Go.RowKit Go.Proofs.YtfbgaddecbiimaaGreatDoorW.PrintWords Go.Proofs.YtfbgaddecbiimaaGreatDoorW.PrintMore Go.Proofs.YtfbgaddecbiimaaGreatDoor.V Go.Proofs.YtfbgaddecbiimaaGreatDoor.E
open Go.Proofs.YtfbgaddecbiimaaGreatDoor.P (Dg Nm vl WW RR bC gI evs evk evb fa aO bH bh cF w64 u64)
open Go.Proofs.YtfbgaddecbiimaaGreatDoor.G (Ex Tm lin co Eqv Srt Dst oC)
theorem xQ {n K L B:Nat} {l l':List aw} (hn:n<=8) (hl:l.length<=100) (hl':l'.length<=100) (hB:B=l.length*l'.length) (hKL:(B+1)*(K+L+1)<1000000) (hok:∀ u∈l,OkR n K u) (hok':∀ u∈l',OkR n L u) (hb:∀ u∈l,∀ j,-1000000<=u.1.getD j 0/\u.1.getD j 0<1000000) (hb':∀ u∈l',∀ j,-1000000<=u.1.getD j 0/\u.1.getD j 0<1000000) :
 ∃ r:List aw,Ev (fun k=>aZ k l l') r/\fD n r=G.canon (G.prod (fD n l) (fD n l')) []/\(∀ t∈r,OkR n (B*(K+L+1)) t)/\r.length<=B:=by
 have hBs:B<=10000:=by rw [hB];exact Nat.mul_le_mul hl hl'
 have main:=dnw (n:=l.length) (P:=fun i=>∀ (acc:List aw),acc.length<=i*l'.length->(∀ t∈acc,OkR n (i*l'.length*(K+L+1)) t)->∃ r:List aw,Ev2 (fun k m=>aZ.l0 k m l' l (l.length:Int) (i:Int) acc) r/\fD n r=G.canon (G.prod (fD n (l.drop i)) (fD n l')) (fD n acc)/\(∀ t∈r,OkR n (B*(K+L+1)) t)/\r.length<=B) ?_ ?_ 0 (Nat.zero_le _) [] F4 (fun t h=>by cases h)
 ·obtain ⟨r,h1,h2⟩:=main
  exact ⟨r,Ev.step (fun k=>kK k _ _) h1.diag,h2⟩
 ·intro acc ha ho
  rw [<- hB] at ha ho
  exact ⟨acc,Ev2.step (fun k m=>aZ.aV k m _ _ _ _ _) (Ev2.bF (decide_eq_false F3) (Ev2.of (evs _))),by rw [List.drop_length];rfl,ho,ha⟩
 intro i hi ih acc ha ho
 have hil:(i+1)*l'.length<=B:=by rw [hB];exact Nat.mul_le_mul_right _ hi
 have hsm:i*l'.length+l'.length=(i+1)*l'.length:=by rw [Nat.add_mul,Nat.one_mul]
 have e:(rdT (t:=af) l (i:Int):aw)=l[i]:=cT hi
 have hKL1:K+L<1000000:=by
  have:=Nat.le_mul_of_pos_left (K+L+1) (show 0<B+1 by omega)
  omega
 obtain ⟨v,v1,v2,v3,v4⟩:=vV hn F3 (show L+K<1000000 by omega) hok' (hok l[i] (List.getElem_mem hi)) hb' (hb l[i] (List.getElem_mem hi))
 have key:=dnw (n:=v.length) (P:=fun j=>∀ (acc:List aw),acc.length<=i*l'.length+j->(∀ t∈acc,OkR n ((i*l'.length+j)*(K+L+1)) t)->∃ r:List aw,Ev3 (fun k m1 m0=>aZ.l1 k m1 m0 l' l (l.length:Int) (i:Int) v (v.length:Int) (j:Int) acc) r/\fD n r=G.canon (fD n (v.drop j)++G.prod (fD n (l.drop (i+1))) (fD n l')) (fD n acc)/\(∀ t∈r,OkR n (B*(K+L+1)) t)/\r.length<=B) ?_ ?_ 0 (Nat.zero_le _) acc ha ho
 ·obtain ⟨r,h1,h2,h3⟩:=key
  refine ⟨r,Ev2.step (fun k m=>aZ.aV k m _ _ _ _ _) (Ev2.bT (decide_eq_true F3) (Ev2.iT F3 ?_)),?_,h3⟩
  ·rw [e]
   exact Ev2.bind v1 h1.diag
  rw [h2,List.drop_zero,v4,gP hi]
  rfl
 ·intro acc ha ho
  rw [v2,hsm] at ha ho
  obtain ⟨r,h1,h2,h3⟩:=ih acc ha ho
  refine ⟨r,Ev3.step (fun k m1 m0=>aZ.dN k m1 m0 _ _ _ _ _ _ _ _) (Ev3.bF (decide_eq_false F3) (Ev3.of ?_)),by rw [List.drop_length];exact h2,h3⟩
  rw [mi F3]
  exact h1
 intro j hj ihj acc ha ho
 have ej:(rdT (t:=af) v (j:Int):aw)=v[j]:=cT hj
 obtain ⟨p1,p2,p3⟩:=v3 v[j] (List.getElem_mem hj)
 have hmm:(i*l'.length+j)*(K+L+1)+(L+K)+1=(i*l'.length+(j+1))*(K+L+1):=by
  rw [<- Nat.add_assoc (i*l'.length) j 1,Nat.add_mul (i*l'.length+j) 1 (K+L+1),Nat.one_mul];omega
 have hle:(i*l'.length+(j+1))*(K+L+1)<=(B+1)*(K+L+1):=Nat.mul_le_mul_right _ F3
 obtain ⟨r',q1,q2,q3,q4⟩:=tx (e:=v[j].1.take n) (c:=v[j].2.1) hn F3 F3 ho p2 p3.rb.1 p3.rb.2
 rw [<- p1] at q1
 rw [hmm] at q3
 obtain ⟨r,h1,h2,h3⟩:=ihj r' F3 q3
 refine ⟨r,Ev3.step (fun k m1 m0=>aZ.dN k m1 m0 _ _ _ _ _ _ _ _) (Ev3.bT (decide_eq_true F3) (Ev3.iT F3 ?_)),?_,h3⟩
 ·rw [ej]
  refine Ev3.bind q1 ?_
  rw [mi F3]
  exact h1
 rw [h2,gP hj,q2]
 rfl
theorem relP_of {n K:Nat} {l:List aw} (hok:∀ u∈l,OkT n K u):RelP n ((n:Int),l,()) (tms l) where
 n_:=rfl
 len:=by simp [tms]
 at_:=fun i h=>by
  have hi:i<l.length:=by simpa [tms] using h
  have e:tmA ((n:Int),l,()) i=l[i]:=cT hi
  have e2:(tms l)[i]=tt l[i]:=by simp [tms]
  rw [e,e2]
  exact ⟨rfl,((hok l[i] (List.getElem_mem hi)).2.2).rb.1⟩
theorem relR_of {n K:Nat} {r:List aw} (hok:∀ u∈r,OkR n K u):RelR r (fD n r) K where
 len:=by simp [fD]
 at_:=fun i h=>by
  have hi:i<r.length:=by simpa [fD] using h
  have e:rtA r i=r[i]:=cT hi
  have e2:(fD n r)[i]=tmR n r[i]:=by simp [fD]
  rw [e,e2]
  obtain ⟨h1,h2,h3⟩:=hok r[i] (List.getElem_mem hi)
  exact ⟨h1,h3.rb.1,h3.rb.2⟩
theorem Is_of {n K L:Nat} {l r:List aw} (hn:n<=8) (hok:∀ u∈l,OkT n K u) (hr:∀ u∈r,OkR n L u) (hf:FewW ((n:Int),l,())) (hL:L<1073741824) (hlen:r.length<=100000) (hs:Srt n (tms l)) (hd:Dst n (fD n r)) (he:Eqv (tms l) (fD n r)):Ev (fun k=>dJ k ((n:Int),l,()) r (n:Int)) true :=
 Bx hn (relP_of hok) (relR_of hr) hf hL (by simpa [fD] using hlen) hs hd he
theorem BJ {x:List Int} (h:x.length<=8) (hb:∀ e∈x,0<=e/\e<=256):Ev (fun k=>fy k x) (sE x):=by
 have main:=dnw (n:=x.length) (P:=fun i=>Ev2 (fun k m=>fy.l0 k m (sE (x.take i)) x (x.length:Int) (i:Int)) (sE x)) ?_ ?_ 0 (Nat.zero_le _)
 ·exact Ev.step (fun k=>BK k _) main.diag
 ·rw [List.take_length]
  exact Ev2.step (fun k m=>fy.aV k m _ _ _ _) (Ev2.bF (decide_eq_false F3) (Ev2.of (evs _)))
 intro i hi ih
 have e:(rdT (t:=(.int .i64)) x (i:Int):Int)=x[i]:=cT hi
 have b1:=qa (B:=256) F3 (l:=x.take i) (fun y hy=>hb y (List.mem_of_mem_take hy))
 have b2:=hb x[i] (List.getElem_mem hi)
 have b3:(x.take i).length<=8:=by rw [List.length_take];omega
 refine Ev2.step (fun k m=>fy.aV k m _ _ _ _) (Ev2.bT (decide_eq_true F3) (Ev2.iT F3 ?_))
 rw [e,mi F3,w64 F3 F3,<- kx hi]
 exact ih
def dgM (l:List aw) (a:Int):Int:=l.foldl (fun a t=>mx a (sE t.1)) a
theorem dZ {n K:Nat} {l:List aw} (hn:n<=8) (hl:l.length<=100000) (hok:∀ u∈l,OkT n K u):Ev (fun k=>cL k ((n:Int),l,())) (dgM l (-1)):=by
 have main:=dnw (n:=l.length) (P:=fun i=>∀ a,Ev2 (fun k m=>cL.l0 k m a l (l.length:Int) (i:Int)) (dgM (l.drop i) a)) ?_ ?_ 0 (Nat.zero_le _) (-1)
 ·exact Ev.step (fun k=>uC k _) main.diag
 ·intro a
  rw [List.drop_length]
  exact Ev2.step (fun k m=>cL.aV k m _ _ _ _) (Ev2.bF (decide_eq_false F3) (Ev2.of (evs _)))
 intro i hi ih a
 have e:(rdT (t:=ai) l (i:Int):aw)=l[i]:=cT hi
 obtain ⟨o1,o2,o3⟩:=hok l[i] (List.getElem_mem hi)
 have hs:=BJ (x:=l[i].1) F3 (fun y hy=>by have:=o2 y hy;omega)
 refine Ev2.step (fun k m=>cL.aV k m _ _ _ _) (Ev2.bT (decide_eq_true F3) (Ev2.iT F3 ?_))
 rw [e,gP hi]
 refine Ev2.bind hs ?_
 rw [mi F3]
 exact ih _
theorem qV {n K:Nat} {l:List aw} (hn:n<=8) (hl:l.length<=100000) (hK:K<1073741824) (hok:∀ u∈l,OkT n K u):Ev (fun k=>fY k ((n:Int),l,())) ((n:Int),l,()):=by
 have main:=dnw (n:=l.length) (P:=fun i=>Ev2 (fun k m=>fY.l0 k m l (l.length:Int) (i:Int) ((n:Int),l,()) ((0:Int),[],()) (n:Int) (l.take i)) ((n:Int),l,())) ?_ ?_ 0 (Nat.zero_le _)
 ·exact Ev.step (fun k=>yh k _) main.diag
 ·rw [List.take_length]
  exact Ev2.step (fun k m=>fY.aV k m _ _ _ _ _ _ _) (Ev2.bF (decide_eq_false F3) (Ev2.of (evs _)))
 intro i hi ih
 have e:(rdT (t:=ai) l (i:Int):aw)=l[i]:=cT hi
 obtain ⟨o1,o2,o3⟩:=hok l[i] (List.getElem_mem hi)
 have hc:=ry o3.rb.1 o3.rb.2 hK
 have hz:(List.replicate (Int.toNat (0:Int)) ((0:Int):Int))=[]:=rfl
 refine Ev2.step (fun k m=>fY.aV k m _ _ _ _ _ _ _) (Ev2.bT (decide_eq_true F3) (Ev2.iT F3 (Ev2.iT (by show (0:Int)<=0/\(0:Int)<=(n:Int)/\8*(n:Int).toNat<=281474976710656/\(n:Int).toNat<=maxLen;unfold maxLen;omega) ?_)))
 rw [e,hz]
 refine Ev2.iT (by simp only [List.length_nil];omega) (Ev2.bind hc (Ev2.iT (by simp only [List.length_cons,List.length_nil,List.length_take];omega) ?_))
 rw [mi F3,List.nil_append]
 rw [show l.take i++[(l[i].1,l[i].2.1,())]=l.take (i+1) by rw [List.take_succ_eq_append_getElem hi]]
 exact ih
theorem uh {p:aT} (hv:dI p):∃ n:Nat,n<=8/\p.1=(n:Int)/\∀ u∈p.2.1,OkT n 200 u:=by
 obtain ⟨h1,h2,h3,h4⟩:=hv
 refine ⟨p.1.toNat,F3,F3,fun u hu=>?_⟩
 obtain ⟨i,hi,rfl⟩:=List.getElem_of_mem hu
 have e:tmA p i=p.2.1[i]:=cT hi
 have g:=(h4 i hi).1
 rw [e] at g
 exact ⟨by have:=g.len;omega,fun x hx=>by have:=g.ex x hx;omega,g.co⟩
theorem D7 {p:aT} {n:Nat} (ha:xw p) (hv:dI p) (hn:p.1=(n:Int)):∃ r:List aw,Ev (fun k=>bJ k p) r/\r.length=p.2.1.length/\(∀ u∈r,OkR n 800 u)/\fD n r=tms p.2.1:=by
 obtain ⟨r,r1,r2,r3⟩:=DB ha hv
 have hn8:n<=8:=by have:=hv.n8;omega
 have tl:∀ i,i<p.2.1.length->(tmA p i).1.length=n:=fun i hi=>by have:=(hv.good i hi).1.len;omega
 refine ⟨r,r1,r2,fun u hu=>?_,?_⟩
 ·obtain ⟨i,hi,rfl⟩:=List.getElem_of_mem hu
  obtain ⟨a1,q,a2,a3,a4,a5⟩:=r3 i hi
  have hl:=tl i F3
  have ht:r[i].1.take n=(tmA p i).1:=by rw [a1,<- hl];exact fq F3
  exact ⟨by rw [ht];exact a1,by rw [ht];exact hl,q,a3,a5⟩
 apply List.ext_getElem (by simp [fD,tms,r2])
 intro i h1 h2
 have hi:i<r.length:=by simpa [fD] using h1
 obtain ⟨a1,q,a2,a3,a4,a5⟩:=r3 i hi
 have hi':i<p.2.1.length:=F3
 have hl:=tl i hi'
 have e:tmA p i=p.2.1[i]:=cT hi'
 have ht:r[i].1.take n=(tmA p i).1:=by rw [a1,<- hl];exact fq F3
 simp only [fD,tms,List.getElem_map,tmR,tt]
 rw [ht,qN a3,<- e,oB a2]
theorem CT {p:aT} {n:Nat} (hv:dI p) (hn:p.1=(n:Int)):(tms p.2.1).Pairwise fun a b=>G.gtE a.1 b.1=true:=by
 have tl:∀ i,i<p.2.1.length->(tmA p i).1.length=n:=fun i hi=>by have:=(hv.good i hi).1.len;omega
 have step:∀ d i,i+d+1<p.2.1.length->G.gtE (tmA p i).1 (tmA p (i+d+1)).1=true:=by
  intro d
  induction d with
  | zero =>
   intro i hi
   have h:=(hv.good (i+1) hi).2 F3
   exact (gt_G ((tl i F3).trans (tl (i+1) hi).symm)).1 h
  | succ d ih =>
   intro i hi
   have h:=(hv.good (i+d+2) hi).2 F3
   exact G.nR (ih i F3) ((gt_G ((tl (i+d+1) F3).trans (tl (i+d+2) hi).symm)).1 h)
 rw [List.pairwise_iff_getElem]
 intro i j hi hj hij
 have hi':i<p.2.1.length:=by simpa [tms] using hi
 have hj':j<p.2.1.length:=by simpa [tms] using hj
 have h:=step (j-i-1) i F3
 rw [show i+(j-i-1)+1=j by omega,show tmA p i=p.2.1[i] from cT hi',show tmA p j=p.2.1[j] from cT hj'] at h
 simp only [tms,List.getElem_map,tt]
 exact h
theorem vk {p:aT} {n:Nat} (hv:dI p) (hn:p.1=(n:Int)):Srt n (tms p.2.1) where
 ord:=CT hv hn
 nz:=fun t ht h0=>by
  obtain ⟨u,hu,rfl⟩:=List.mem_map.1 ht
  obtain ⟨i,hi,rfl⟩:=List.getElem_of_mem hu
  have g:=(hv.good i hi).1
  rw [show tmA p i=p.2.1[i] from cT hi] at g
  have hc:CoOk 200 p.2.1[i].2.1:=g.co
  have hr:=hc.rb.1
  have h0':mV p.2.1[i].2.1=0:=h0
  rw [h0'] at hr
  have h1:=bC aO hr.2.1 (P.Can.zero WW)
  exact g.ne (by rw [h1];rfl)
 len:=fun t ht=>by
  obtain ⟨u,hu,rfl⟩:=List.mem_map.1 ht
  obtain ⟨i,hi,rfl⟩:=List.getElem_of_mem hu
  have g:=(hv.good i hi).1
  rw [show tmA p i=p.2.1[i] from cT hi] at g
  have:=g.len
  show p.2.1[i].1.length=n
  omega
theorem C9 {n K:Nat} {l:List aw} (hn:n<=8) (hl:l.length<=4000) (hK:K<=200) (hok:∀ u∈l,OkT n K u) (hs:Srt n (tms l)) (hd:∀ u∈l,sE u.1<=40) (hx:∀ u∈l,∀ e∈u.1,e<=40):dI ((n:Int),l,()) where
 n0:=by show (0:Int)<=(n:Int);omega
 n8:=by show (n:Int)<=8;omega
 few:=hl
 good:=fun i hi=>by
  have hi':i<l.length:=hi
  have e:tmA ((n:Int),l,()) i=l[i]:=cT hi'
  have hm:=List.getElem_mem hi'
  obtain ⟨o1,o2,o3⟩:=hok l[i] hm
  refine ⟨?_,fun h0=>?_⟩
  ·rw [e]
   refine ⟨by show (l[i].1.length:Int)=(n:Int);omega,fun x h=>⟨(o2 x h).1,hx l[i] hm x h⟩,hd l[i] hm,o3.mono hK,fun h=>?_⟩
   have hz:l[i].2.1.2.1=[]:=List.length_eq_zero_iff.1 h
   have hr:=o3.rb.1
   refine hs.nz (tt l[i]) (List.mem_map.2 ⟨_,hm,rfl⟩) ?_
   show mV l[i].2.1=0
   unfold mV
   rw [hz]
   simp [vl,sg]
  have hp:i-1<l.length:=F3
  have e1:tmA ((n:Int),l,()) (i-1)=l[i-1]:=cT hp
  rw [e,e1]
  have h:=List.pairwise_iff_getElem.1 hs.ord (i-1) i (by simpa [tms] using hp) (by simpa [tms] using hi') F3
  simp only [tms,List.getElem_map,tt] at h
  exact (gt_G ((hok _ (List.getElem_mem hp)).1.trans o1.symm)).2 h
abbrev p1 (n:Nat) (e:List Int) (d:cf):aT:=((n:Int),[(e,d,())],())
end Go.Proofs.YtfbgaddecbiimaaGreatDoor.Q
end
section
namespace Go.Proofs.YtfbgaddecbiimaaGreatDoor.G
def val (x:List Rat) (p:List Tm):Rat:=lin (mv x) p
theorem uN:∀ {a b:Ex} {k:Int},(∀ k∈a,(0:Int)<=k)->(∀ k∈b,(0:Int)<=k)->k∈eD a b->0<=k
 | [],_,_,_,_,h=>by simp [eD] at h
 | _ :: _,[],_,_,_,h=>by simp [eD] at h
 | a :: l,b :: m,k,h1,h2,h=>by
  simp only [eD,List.zipWith_cons_cons,List.mem_cons] at h
  rcases h with e | e
  ·have:=h1 a (List.mem_cons_self ..)
   have:=h2 b (List.mem_cons_self ..)
   omega
  exact uN (fun k hk=>h1 k (List.mem_cons_of_mem _ hk)) (fun k hk=>h2 k (List.mem_cons_of_mem _ hk)) e
theorem qE:∀ {a:Ex},(∀ k∈a,(0:Int)<=k)->0<=fM a
 | [],_=>Int.le_refl _
 | a :: l,h=>by
  have:=h a (List.mem_cons_self ..)
  have:=qE (a:=l) (fun k hk=>h k (List.mem_cons_of_mem _ hk))
  simp only [fM];omega
theorem oy:∀ n,fM (List.replicate n 0)=0
 | 0=>rfl
 | n+1=>by rw [List.replicate_succ,fM,oy n];rfl
abbrev WB:Int:=4294967296
theorem wb_le {a b:Nat} (h:a<=b):WB ^ a<=WB ^ b:=by
 rcases Nat.lt_or_ge a b with g | g
 ·exact Int.le_of_lt (Int.pow_lt_pow_of_lt (by decide) g)
 rw [Nat.le_antisymm h g];exact Int.le_refl _
theorem zg (a:Nat):0<WB ^ a:=Int.pow_pos (by decide)
theorem vg {a b:Nat} {x y:Int} (hx:x<=WB ^ a) (hy:y<=WB ^ b) (h0:0<=y):x*y<=WB ^ (a+b):=by
 rw [Int.pow_add]
 exact Int.mul_le_mul hx hy h0 (Int.le_of_lt (zg a))
theorem wb_two (a:Nat):WB ^ a+WB ^ a<=WB ^ (a+1):=by
 have:=zg a
 rw [Int.pow_succ]
 show _<=WB ^ a*4294967296
 omega
def CB (k:Nat) (l:List Tm):Prop:=∃ D H:Int,0<D/\D<=WB ^ k/\H<=WB ^ k/\CL D H l
theorem CB.mono {k j:Nat} {l:List Tm} (h:CB k l) (hj:k<=j):CB j l:=by
 obtain ⟨D,H,h0,h1,h2,h3⟩:=h
 exact ⟨D,H,h0,Int.le_trans h1 (wb_le hj),Int.le_trans h2 (wb_le hj),h3⟩
theorem CB.nil (k:Nat):CB k []:=⟨1,0,by decide,by have:=zg k;omega,Int.le_of_lt (zg k),by show (0:Int)<=0;decide⟩
theorem CB.one (n:Nat):CB 0 (one n):=⟨1,1,by decide,by decide,by decide,CL.one n⟩
theorem CL.mulD {D c:Int} (hc:0<c):∀ {l:List Tm} {H:Int},CL D H l->CL (D*c) (H*c) l
 | [],H,h=>Int.mul_nonneg h F3
 | t :: l,H,⟨z,h1,h2⟩=>by
  refine ⟨z*c,?_,(CL.mulD hc h2).mono ?_⟩
  ·rw [Rat.intCast_mul,Rat.intCast_mul,<- h1];grind
  rw [Int.natAbs_mul,Int.natCast_mul,Int.sub_mul]
  have:(c.natAbs:Int)=c:=F3
  rw [this];omega
theorem CB.append {a b:Nat} {p q:List Tm} (h:CB a p) (h':CB b q):CB (a+b+1) (p++q):=by
 obtain ⟨D,H,h0,h1,h2,h3⟩:=h
 obtain ⟨D',H',g0,g1,g2,g3⟩:=h'
 refine ⟨D*D',H*D'+H'*D,Int.mul_pos h0 g0,Int.le_trans (vg h1 g1 F3) (wb_le F3),?_,?_⟩
 ·have a1:=vg h2 g1 F3
  have a2:=vg g2 h1 F3
  rw [Nat.add_comm b a] at a2
  have:=wb_two (a+b)
  omega
 have a1:=CL.mulD g0 h3
 have a2:=CL.mulD h0 g3
 rw [Int.mul_comm D' D] at a2
 exact a1.append a2
theorem CB.prod {a b:Nat} {p q:List Tm} (h:CB a p) (h':CB b q):CB (a+b) (prod p q):=by
 obtain ⟨D,H,h0,h1,h2,h3⟩:=h
 obtain ⟨D',H',g0,g1,g2,g3⟩:=h'
 exact ⟨D*D',H*H',Int.mul_pos h0 g0,vg h1 g1 F3,vg h2 g2 g3.pos,h3.prod g3⟩
theorem CB.pw {n a:Nat} {p:List Tm} (h:CB a p):∀ k,CB (a*k) (pw n p k)
 | 0=>CB.one n
 | k+1=>by
  have:=(CB.pw (n:=n) h k).prod h
  rw [<- Nat.mul_succ] at this
  exact this
def Wd (k:Nat) (c:Rat):Prop:=(c.num.natAbs:Int)<=WB ^ k/\(c.den:Int)<=WB ^ k
theorem Wd.cz {k:Nat} {c:Rat} (h:Wd k c):Cz (c.den:Int) (WB ^ k) c:=by
 refine ⟨c.num,?_,h.1⟩
 have h0:((c.den:Int):Rat)≠0:=by
  intro e
  have:=Rat.intCast_inj.1 (e.trans Rat.intCast_zero.symm)
  have:=c.den_pos
  omega
 have h1:=Rat.num_divInt_den c
 rw [Rat.divInt_eq_div] at h1
 generalize ((c.den:Int):Rat)=d at *
 generalize hn:(c.num:Rat)=m at *
 rw [<- h1,Rat.div_mul_cancel h0]
theorem CB.single {k:Nat} {t:Tm} (h:Wd k t.2):CB k [t]:=by
 obtain ⟨z,h1,h2⟩:=h.cz
 exact ⟨t.2.den,WB ^ k,by have:=t.2.den_pos;omega,h.2,Int.le_refl _,z,h1,by show (0:Int)<=_;omega⟩
theorem CB.list {k:Nat}:∀ {l:List Tm},(∀ t∈l,Wd k t.2)->CB (l.length*(k+1)) l
 | [],_=>CB.nil _
 | t :: l,h=>by
  have h1:=CB.list (l:=l) fun u hu=>h u (List.mem_cons_of_mem _ hu)
  have h2:=(CB.single (h t (List.mem_cons_self ..))).append h1
  refine CB.mono h2 ?_
  rw [List.length_cons,Nat.succ_mul];omega
theorem CB.co {k:Nat} {l:List Tm} (h:CB k l) (e:Ex):Wd k (co l e):=by
 obtain ⟨D,H,h0,h1,h2,h3⟩:=h
 obtain ⟨a,b⟩:=(CL.co e h3).size h0
 exact ⟨Int.le_trans b h2,Int.le_trans a h1⟩
theorem Dst.wd {n k:Nat} {p q:List Tm} (hp:Dst n p) (he:∀ e,G.co p e=G.co q e) (h:CB k q) {t:Tm} (ht:t∈p):Wd k t.2:=by
 rw [<- hp.nX t ht,he]
 exact h.co _
def XB (E:Int) (q:List Tm):Prop:=∀ t∈q,(∀ x∈t.1,(0:Int)<=x)/\fM t.1<=E
theorem XB.mono {E F:Int} {q:List Tm} (h:XB E q) (hF:E<=F):XB F q:=fun t ht=>⟨(h t ht).1,Int.le_trans (h t ht).2 hF⟩
theorem XB.prod {n:Nat} {E F:Int} {p q:List Tm} (lp:Len n p) (lq:Len n q) (h:XB E p) (h':XB F q):XB (E+F) (prod p q):=fun v hv=>by
 obtain ⟨t,ht,hv⟩:=List.mem_flatMap.1 hv
 obtain ⟨u,hu,rfl⟩:=List.mem_map.1 hv
 refine ⟨fun x hx=>uN (h' u hu).1 (h t ht).1 hx,?_⟩
 show fM (eD u.1 t.1)<=_
 rw [lD ((lq u hu).trans (lp t ht).symm)]
 have:=(h t ht).2
 have:=(h' u hu).2
 omega
theorem XB.one (n:Nat):XB 0 (one n):=fun t ht=>by
 have e:t=(zE n,1):=by simpa [G.one] using ht
 subst e
 refine ⟨fun x hx=>?_,?_⟩
 ·have:=List.eq_of_mem_replicate hx
  omega
 show fM (List.replicate n 0)<=0
 rw [oy];exact Int.le_refl _
theorem XB.pw {n:Nat} {E:Int} {p:List Tm} (lp:Len n p) (h:XB E p):∀ k:Nat,XB (E*k) (pw n p k)
 | 0=>by rw [Int.natCast_zero,Int.mul_zero];exact XB.one n
 | k+1=>by
  have:=XB.prod (lp.pw k) lp (XB.pw lp h k) h
  refine this.mono ?_
  rw [Int.natCast_add,Int.mul_add];omega
theorem XB.of {n:Nat} {E:Int} {p r:List Tm} (h:Dst n p) (he:∀ e,co p e=co r e) (hr:XB E r):XB E p:=fun t ht=>by
 obtain ⟨u,hu,e⟩:=h.from he ht
 rw [<- e];exact hr u hu
theorem rI:∀ {a:Ex} {x:Int},(∀ y∈a,(0:Int)<=y)->x∈a->x<=fM a
 | b :: a,x,h,hx=>by
  have hb:=h b (List.mem_cons_self ..)
  have hs:=qE (a:=a) fun y hy=>h y (List.mem_cons_of_mem _ hy)
  simp only [fM]
  rcases List.mem_cons.1 hx with e | e
  ·omega
  have:=rI (fun y hy=>h y (List.mem_cons_of_mem _ hy)) e;omega
theorem getD_of {a:Ex} {i:Nat} (h:i<a.length):a.getD i 0=a[i]:=by simp [List.getD_eq_getElem?_getD,h]
end Go.Proofs.YtfbgaddecbiimaaGreatDoor.G
end
section
namespace Go.Proofs.YtfbgaddecbiimaaGreatDoor.Q
open Go.RowKit Go.Proofs.YtfbgaddecbiimaaGreatDoorW.PrintWords Go.Proofs.YtfbgaddecbiimaaGreatDoorW.PrintMore Go.Proofs.YtfbgaddecbiimaaGreatDoor.V Go.Proofs.YtfbgaddecbiimaaGreatDoor.E
open Go.Proofs.YtfbgaddecbiimaaGreatDoor.P (Dg Nm vl WW RR bC gI evs evk evb fa aO bH bh cF w64 u64)
open Go.Proofs.YtfbgaddecbiimaaGreatDoor.G (Ex Tm lin co Eqv Srt Dst oC CB XB Wd Len WB)
structure PT (n K M:Nat) (q:List Tm) (l:List aw):Prop where
 len:l.length<=M
 ok:∀ u∈l,OkT n K u
 srt:Srt n (tms l)
 eqv:Eqv (tms l) q
structure RT (n K M:Nat) (q:List Tm) (r:List aw):Prop where
 len:r.length<=M
 ok:∀ u∈r,OkR n K u
 dst:Dst n (fD n r)
 eqv:Eqv (fD n r) q
theorem OkT.mono {n K L:Nat} {t:aw} (h:OkT n K t) (hk:K<=L):OkT n L t:=⟨h.1,h.2.1,h.2.2.mono hk⟩
theorem PT.to {n K M L N:Nat} {q q':List Tm} {l:List aw} (h:PT n K M q l) (hk:K<=L) (hm:M<=N) (he:Eqv q q'):PT n L N q' l:=⟨Nat.le_trans h.len hm,fun u hu=>(h.ok u hu).mono hk,h.srt,h.eqv.trans he⟩
theorem RT.to {n K M L N:Nat} {q q':List Tm} {l:List aw} (h:RT n K M q l) (hk:K<=L) (hm:M<=N) (he:Eqv q q'):RT n L N q' l:=⟨Nat.le_trans h.len hm,fun u hu=>(h.ok u hu).mono hk,h.dst,h.eqv.trans he⟩
theorem qI:∀ a,sE a=G.fM a
 | []=>rfl
 | x :: a=>by rw [sE,G.fM,qI a]
theorem wd_sz {k:Nat} {c:Rat} (h:Wd k c):Sz WW (k+1) c:=by
 have:WB ^ k<WW ^ (k+1):=Int.pow_lt_pow_of_lt (by decide) F3
 exact ⟨Int.lt_of_le_of_lt h.1 this,Int.lt_of_le_of_lt h.2 this⟩
theorem sz_wd {k:Nat} {c:Rat} (h:Sz WW k c):Wd k c:=⟨Int.le_of_lt h.1,Int.le_of_lt h.2⟩
theorem wb_rr:∀ k:Nat,WB ^ k<=RR ^ (3*k)
 | 0=>by decide
 | k+1=>by
  have h:=wb_rr k
  have e:RR ^ (3*(k+1))=RR ^ (3*k)*RR ^ 3:=by rw [<- Int.pow_add];rfl
  rw [Int.pow_succ,e]
  exact Int.mul_le_mul h (by decide) (by decide) (Int.le_of_lt (Int.pow_pos (by decide)))
theorem wd_szR {k:Nat} {c:Rat} (h:Wd k c):Sz RR (3*k+1) c:=by
 have h1:=wb_rr k
 have h2:RR ^ (3*k)<RR ^ (3*k+1):=Int.pow_lt_pow_of_lt (by decide) F3
 exact ⟨by have:=h.1;omega,by have:=h.2;omega⟩
section
variable {n K M L N k:Nat} {q q':List Tm} {l r:List aw} {E:Int}
theorem ou {u:aw} (hu:u∈l):tt u∈tms l:=List.mem_map_of_mem hu
theorem mX {u:aw} (hu:u∈r):tmR n u∈fD n r:=List.mem_map_of_mem hu
theorem uk:(tms l).length=l.length:=List.length_map ..
theorem um:(fD n r).length=r.length:=List.length_map ..
theorem PT.fit (h:PT n K M q l) (hc:CB k q):PT n (k+1) M q l:=⟨h.len,fun u hu=>by
 obtain ⟨o1,o2,o3⟩:=h.ok u hu
 exact ⟨o1,o2,mV u.2.1,o3.rb.1,wd_sz (h.srt.dst.wd (fun e=>h.eqv.co e) hc (ou hu))⟩,h.srt,h.eqv⟩
theorem RT.fit (h:RT n K M q r) (hc:CB k q):RT n (3*k+1) M q r:=⟨h.len,fun u hu=>by
 obtain ⟨o1,o2,o3⟩:=h.ok u hu
 exact ⟨o1,o2,th u.2.1,o3.rb.1,wd_szR (h.dst.wd (fun e=>h.eqv.co e) hc (mX hu))⟩,h.dst,h.eqv⟩
theorem PT.xbq (h:PT n K M q l) (hx:XB E q):XB E (tms l):=XB.of h.srt.dst (fun e=>h.eqv.co e) hx
theorem RT.xbq (h:RT n K M q r) (hx:XB E q):XB E (fD n r):=XB.of h.dst (fun e=>h.eqv.co e) hx
theorem PT.xb (h:PT n K M q l) (hx:XB E q) {u:aw} (hu:u∈l):(∀ x∈u.1,0<=x/\x<=E)/\sE u.1<=E:=by
 obtain ⟨a,b⟩:=h.xbq hx _ (ou hu)
 have b':G.fM u.1<=E:=b
 refine ⟨fun x hx'=>⟨a x hx',Int.le_trans (G.rI a hx') b⟩,?_⟩
 rw [qI];exact b'
theorem OkR.bound {t:aw} (h:OkR n K t) {B:Int} (hB:0<=B) (hn:n<=8) (hx:∀ x∈t.1.take n,0<=x/\x<=B) (j:Nat):0<=t.1.getD j 0/\t.1.getD j 0<=B:=by
 rw [h.1,fF,cx _ _ _ (by have:=h.2.1;omega),List.getD_eq_getElem?_getD]
 by_cases c:j<(t.1.take n++List.replicate (8-(t.1.take n).length) 0).length
 ·rw [List.getElem?_eq_getElem c]
  have hm:=List.getElem_mem c
  rw [Option.getD_some]
  rcases List.mem_append.1 hm with g | g
  ·exact hx _ g
  have:=List.eq_of_mem_replicate g
  omega
 rw [List.getElem?_eq_none F3]
 exact ⟨Int.le_refl _,hB⟩
theorem RT.bnd (h:RT n K M q r) (hx:XB E q) (hE:0<=E) (hn:n<=8) {u:aw} (hu:u∈r) (j:Nat):0<=u.1.getD j 0/\u.1.getD j 0<=E:=by
 obtain ⟨a,b⟩:=h.xbq hx _ (mX hu)
 exact (h.ok u hu).bound hE hn (fun x hx'=>⟨a x hx',Int.le_trans (G.rI a hx') b⟩) j
theorem okT_arg (hn:n<=8) {u:aw} (h:OkT n K u):ArgM u:=by
 obtain ⟨o1,o2,o3⟩:=h
 have hr:=o3.rb.1
 exact ⟨F3,hr.2.1.1,hr.2.2.1,trivial,trivial⟩
theorem PT.arg (h:PT n K M q l) (hn:n<=8) (hM:M<=1000000000):xw ((n:Int),l,()):=⟨by have:=h.len;show l.length<=_;omega,fun u hu=>okT_arg hn (h.ok u hu)⟩
theorem PT.few (h:PT n K M q l) (hn:n<=8) (hM:M<=1000000000) (hK:K<=1000000000):FewW ((n:Int),l,()):=by
 refine ⟨by have:=h.len;show l.length<=_;omega,fun i hi=>?_⟩
 have hi':i<l.length:=hi
 have e:tmA ((n:Int),l,()) i=l[i]:=cT hi'
 obtain ⟨o1,o2,o3⟩:=h.ok _ (List.getElem_mem hi')
 obtain ⟨l1,l2⟩:=im bH o3.rb.1 o3.rb.2
 rw [e]
 exact ⟨F3,F3,F3⟩
theorem PT.is (h:PT n K M q l) (g:RT n L N q' r) (he:Eqv q q') (hn:n<=8) (hM:M<=1000000000) (hN:N<=100000) (hK:K<=1000000000) (hL:L<1073741824):Ev (fun k=>dJ k ((n:Int),l,()) r (n:Int)) true :=
 Is_of hn h.ok g.ok (h.few hn hM hK) hL (Nat.le_trans g.len hN) h.srt g.dst (h.eqv.trans (he.trans g.eqv.symm))
theorem PT.valid (h:PT n K M q l) (hn:n<=8) (hM:M<=4000) (hc:CB 199 q) (hx:XB 40 q):dI ((n:Int),l,()):=by
 have h':=h.fit hc
 exact C9 hn (Nat.le_trans h.len hM) (Nat.le_refl 200) h'.ok h.srt (fun u hu=>(h.xb hx hu).2) (fun u hu e he=>((h.xb hx hu).1 e he).2)
theorem Cp (h:PT n K M q l) (hn:n<=8) (hM:M<=4000) (hc:CB 199 q) (hx:XB 40 q):Ev (fun k=>dY k ((n:Int),l,())) (((n:Int),l,()),(0:Int),()):=by
 have e:=iv (h.arg hn F3)
 rw [fk (h.valid hn hM hc hx)] at e
 have hl:=h.len
 exact Ev.step (fun k=>iI k _) (Ev.bind e (bF rfl (Ev.bind (qV hn F3 F3 (h.fit hc).ok) (evs _))))
end
theorem evu {α:Type} {f:Nat->Option α} {a b:α} (h:Ev f a) (g:Ev f b):a=b:=by
 obtain ⟨K,h⟩:=h
 obtain ⟨L,g⟩:=g
 have:=(h (max K L) F3).symm.trans (g (max K L) F3)
 exact Option.some.inj this
open Go.Proofs.YtfbgaddecbiimaaGreatDoor.G (deg)
theorem yQ (f:aw->Tm):∀ (l:List aw) (a:Int),-1<=a->(∀ t∈l,G.fM (f t).1=sE t.1)->dgM l a=max a (deg (l.map f))
 | [],a,ha,_=>by show a=max a (-1);omega
 | t :: l,a,ha,h=>by
  have e:=h t F4
  have ih:=yQ f l (mx a (sE t.1)) (by unfold mx;split<;>omega) fun u hu=>h u (by simp [hu])
  show dgM l (mx a (sE t.1))=max a (max (G.fM (f t).1) (deg (l.map f)))
  rw [ih,e]
  unfold mx
  split<;>omega
theorem yP (l:List aw):dgM l (-1)=deg (tms l):=by
 rw [yQ tt l (-1) F3 (fun t _=>(qI _).symm)]
 have:=G.mq (tms l)
 show max (-1) (deg (tms l))=_
 omega
section
variable {n K M L N k:Nat} {q q':List Tm} {l l' r:List aw} {E F:Int}
theorem OkR.sum {t:aw} (h:OkR n K t) (hn:n<=8):sE t.1=sE (t.1.take n):=by
 conv=>lhs;rw [h.1]
 exact sE_pad (by have:=h.2.1;omega)
theorem dgM_tmsR (h:∀ u∈r,OkR n K u) (hn:n<=8):dgM r (-1)=deg (fD n r):=by
 rw [yQ (tmR n) r (-1) F3 (fun t ht=>by rw [(h t ht).sum hn,qI];rfl)]
 have:=G.mq (fD n r)
 show max (-1) (deg (fD n r))=_
 omega
theorem XB.deg (h:XB E q) (hE:-1<=E):deg q<=E:=G.tU hE fun t ht=>(h t ht).2
theorem XB.pos (h:XB E q) {t:Tm} (ht:t∈q):0<=E:=Int.le_trans (G.qE (h t ht).1) (h t ht).2
theorem XB.eD (h:XB E q) (h':XB F q') (hq:Len n q) (hq':Len n q') {t u:Tm} (ht:t∈q) (hu:u∈q') {B:Int} (hB:E+F<B):∀ e∈G.eD u.1 t.1,0<=e/\e<B:=by
 intro e he
 have h0:∀ x∈G.eD u.1 t.1,(0:Int)<=x:=fun x hx=>G.uN (h' u hu).1 (h t ht).1 hx
 have h1:=G.rI h0 he
 rw [G.lD ((hq' u hu).trans (hq t ht).symm)] at h1
 have:=(h t ht).2
 have:=(h' u hu).2
 exact ⟨h0 e he,F3⟩
theorem ni (h:∀ u∈r,OkR n K u) (hn:n<=8) (hl:r.length<=1000000000) (hx:XB E (fD n r)) (hE:E<=1000000):Ev (fun k=>aR k r) (deg (fD n r)):=by
 rw [<- dgM_tmsR h hn]
 have main:=dnw (n:=r.length) (P:=fun i=>∀ x:Int,Ev2 (fun k m=>aR.l0 k m x r (r.length:Int) (i:Int)) (dgM (r.drop i) x)) ?_ ?_ 0 (Nat.zero_le _) (-1)
 ·exact Ev.step (fun k=>fR k r) main.diag
 ·intro x
  rw [List.drop_length]
  exact Ev2.step (fun k m=>aR.aV k m _ _ _ _) (Ev2.bF (decide_eq_false F3) (Ev2.of (evs _)))
 intro i hi ih x
 have e:(rdT (t:=af) r (i:Int):aw)=r[i]:=cT hi
 have hm:=List.getElem_mem hi
 obtain ⟨a,b⟩:=hx _ (mX hm)
 have hE0:0<=E:=XB.pos hx (mX hm)
 refine Ev2.step (fun k m=>aR.aV k m _ _ _ _) (Ev2.bT (decide_eq_true F3) (Ev2.iT F3 ?_))
 rw [e,gP hi]
 refine Ev2.bind (kB _ (h _ hm).len (fun x hx'=>?_)) ?_
 ·obtain ⟨j,hj,rfl⟩:=List.getElem_of_mem hx'
  have:=(h _ hm).bound hE0 hn (fun x hx'=>⟨a x hx',Int.le_trans (G.rI a hx') b⟩) j
  rw [G.getD_of hj] at this
  omega
 rw [mi F3]
 exact ih _
theorem gt0 {l:List aw} (h:l≠[]):decide ((List.length l:Int)>(0:Int))=true:=decide_eq_true (by have:=List.length_pos_iff.2 h;omega)
theorem uJ {l:List aw} (h:l=[]):decide ((List.length l:Int)>(0:Int))=false:=by subst h;rfl
theorem tms_ne (h:l≠[]):tms l≠[]:=fun e=>h (List.map_eq_nil_iff.1 e)
theorem ye (h:∀ u∈l,OkT n K u) (h':∀ u∈l',OkT n L u) (hn:n<=8) (hl:l.length<=100000) (hl':l'.length<=100000) (h0:l≠[]) (h0':l'≠[]) (hd:deg (tms l)+deg (tms l')>40) (hd1:deg (tms l)<=1000) (hd2:deg (tms l')<=1000):Ev (fun k=>dm k ((n:Int),l,()) ((n:Int),l',())) (((0:Int),[],()),(2:Int),()):=by
 have e1:=dZ hn hl h
 have e2:=dZ hn hl' h'
 rw [yP] at e1 e2
 have m1:=G.mq (tms l)
 have m2:=G.mq (tms l')
 refine Ev.step (fun k=>eH k _ _) (Ev.bind (a:=true) (bT (gt0 h0) (by rw [gt0 h0'];exact evs _)) (Ev.bind (a:=true) (bT rfl (Ev.bind e1 (Ev.bind e2 ?_))) (bT rfl (evs _))))
 rw [w64 F3 F3]
 exact ET hd
theorem oG (h:PT n K M q l) (h':PT n L N q' l') (hx:XB E q) (hx':XB F q') (hq:Len n q) (hq':Len n q') (hn:n<=8) (hE:E+F<256) (hMN:M*N<=60000) (hM:M<=60000) (hN:N<=60000) (hKL:K+L<3000):∃ r,Ev (fun k=>eU k ((n:Int),l,()) ((n:Int),l',())) ((n:Int),r,())/\PT n (60000*(L+K+1)) (M*N) (G.prod q q') r:=by
 have hll:l.length*l'.length<=M*N:=Nat.mul_le_mul h.len h'.len
 obtain ⟨r,r1,r2,r3,r4,r5⟩:=BN hn (Nat.le_trans h.len hM) (Nat.le_trans h'.len hN) (Nat.le_trans hll hMN) hKL h.ok h'.ok (fun u hu t ht=>XB.eD (h.xbq hx) (h'.xbq hx') h.srt.len h'.srt.len (ou ht) (ou hu) hE)
 exact ⟨r,r1,Nat.le_trans r2 hll,fun u hu=>(r3 u hu).mono (Nat.mul_le_mul_right _ (Nat.le_trans hll hMN)),r4,r5.trans (h.eqv.prod h'.eqv)⟩
theorem BI (h:PT n K M q l) (h':PT n L N q' l') (hx:XB E q) (hx':XB F q') (hq:Len n q) (hq':Len n q') (hn:n<=8) (hE:E+F<=40) (hMN:M*N<=4000) (hM:M<=4000) (hN:N<=4000) (hKL:K+L<3000) {j:Nat} (hc:CB j (G.prod q q')) (hj:j<=199):∃ r,Ev (fun k=>dm k ((n:Int),l,()) ((n:Int),l',())) (((n:Int),r,()),(0:Int),())/\PT n (j+1) (M*N) (G.prod q q') r:=by
 obtain ⟨r,r1,r2⟩:=oG h h' hx hx' hq hq' hn F3 F3 F3 F3 hKL
 have hlim:=Cp r2 hn hMN (hc.mono hj) ((XB.prod hq hq' hx hx').mono hE)
 refine ⟨r,?_,r2.fit hc⟩
 have fin:Ev (fun k=>(eU k ((n:Int),l,()) ((n:Int),l',())).bind fun (v5:aT)=>(dY k v5).bind fun (v6:aT×Int×Unit)=>some (v6.1,v6.2.1,())) (((n:Int),r,()),(0:Int),()):=Ev.bind r1 (Ev.bind hlim (evs _))
 have l1:=h.len
 have l2:=h'.len
 by_cases c:l=[]
 ·exact Ev.step (fun k=>eH k _ _) (Ev.bind (a:=false) (bF (uJ c) (evs _)) (Ev.bind (a:=false) (bF rfl (evs _)) (bF rfl fin)))
 by_cases c':l'=[]
 ·exact Ev.step (fun k=>eH k _ _) (Ev.bind (a:=false) (bT (gt0 c) (by rw [uJ c'];exact evs _)) (Ev.bind (a:=false) (bF rfl (evs _)) (bF rfl fin)))
 have e1:=dZ hn F3 h.ok
 have e2:=dZ hn F3 h'.ok
 rw [yP] at e1 e2
 have m1:=G.mq (tms l)
 have m2:=G.mq (tms l')
 obtain ⟨u,hu⟩:=List.exists_mem_of_ne_nil l c
 obtain ⟨u',hu'⟩:=List.exists_mem_of_ne_nil l' c'
 have b1:=XB.deg (h.xbq hx) (by have:=XB.pos (h.xbq hx) (ou hu);omega)
 have b2:=XB.deg (h'.xbq hx') (by have:=XB.pos (h'.xbq hx') (ou hu');omega)
 refine Ev.step (fun k=>eH k _ _) (Ev.bind (a:=true) (bT (gt0 c) (by rw [gt0 c'];exact evs _)) (Ev.bind (a:=false) (bT rfl (Ev.bind e1 (Ev.bind e2 ?_))) (bF rfl fin)))
 rw [w64 F3 F3]
 exact xf F3
theorem xR (h:RT n K M q l) (h':RT n L N q' l') (hx:XB E q) (hx':XB F q') (hE0:0<=E) (hF0:0<=F) (hE:E<1000000) (hF:F<1000000) (hn:n<=8) (hM:M<=100) (hN:N<=100) (hKL:(M*N+1)*(K+L+1)<1000000) {j:Nat} (hc:CB j (G.prod q q')):∃ r,Ev (fun k=>aZ k l l') r/\RT n (3*j+1) (M*N) (G.prod q q') r:=by
 have hll:l.length*l'.length<=M*N:=Nat.mul_le_mul h.len h'.len
 obtain ⟨r,r1,r2,r3,r4⟩:=xQ hn (Nat.le_trans h.len hM) (Nat.le_trans h'.len hN) rfl (Nat.lt_of_le_of_lt (Nat.mul_le_mul_right _ (Nat.succ_le_succ hll)) hKL) h.ok h'.ok (fun u hu j=>by have:=h.bnd hx hE0 hn hu j;omega) (fun u hu j=>by have:=h'.bnd hx' hF0 hn hu j;omega)
 have hlen:Len n (G.prod (fD n l) (fD n l')):=Len.prod h.dst.len h'.dst.len
 obtain ⟨c1,c2⟩:=G.tX (Dst.nil n) hlen
 rw [<- r2] at c1 c2
 have he:Eqv (fD n r) (G.prod q q'):=fun m=>by
  rw [c2]
  show 0+_=_
  rw [(h.eqv.prod h'.eqv) m]
  grind
 exact ⟨r,r1,RT.fit ⟨Nat.le_trans r4 hll,r3,c1,he⟩ hc⟩
end
section
variable {n K M L N k:Nat} {q q':List Tm} {l l' r:List aw} {E F:Int}
theorem sgn_nz {x:Rat} (h:x=0):(sgn x != (0:Int))=false:=by rw [zC];exact dj (fun g=>g h)
theorem sgn_nz' {x:Rat} (h:¬ x=0):(sgn x != (0:Int))=true:=by rw [zC];exact fk h
end
section
variable {p:aT}
theorem AM.okT {n a c:Nat} (hs:AM p a c) (hn:p.1=(n:Int)):∀ u∈p.2.1,OkT n c u:=by
 obtain ⟨m,m8,mn,mo⟩:=uh hs.ok
 obtain rfl:m=n:=F3
 intro u hu
 obtain ⟨o1,o2,o3⟩:=mo u hu
 obtain ⟨i,hi,rfl⟩:=List.getElem_of_mem hu
 have e:tmA p i=p.2.1[i]:=cT hi
 have hsh:=hs.short i hi
 rw [e] at hsh
 exact ⟨o1,o2,_,o3.rb.1,Ba aO o3.rb.1 hsh.1 hsh.2⟩
theorem valid_xb {n:Nat} (hv:dI p) (hn:p.1=(n:Int)) {b:Int} (hb:deg (tms p.2.1)<=b):XB b (tms p.2.1):=fun t ht=>by
 refine ⟨?_,Int.le_trans (G.rJ ht) hb⟩
 obtain ⟨u,hu,rfl⟩:=List.mem_map.1 ht
 obtain ⟨m,m8,mn,mo⟩:=uh hv
 exact fun x hx=>((mo u hu).2.1 x hx).1
theorem iB {n:Nat} (hv:dI p) (hn:p.1=(n:Int)):XB 40 (tms p.2.1):=fun t ht=>by
 obtain ⟨u,hu,rfl⟩:=List.mem_map.1 ht
 obtain ⟨i,hi,rfl⟩:=List.getElem_of_mem hu
 have g:=(hv.good i hi).1
 rw [show tmA p i=p.2.1[i] from cT hi] at g
 exact ⟨fun x hx=>(g.ex x hx).1,by have:=g.sum;rw [qI] at this;exact this⟩
theorem uw (ha:xw p) {a c:Nat} (hs:AM p a c) (b:Int):Ev (fun k=>bb k p (a:Int) b (c:Int)) (decide (deg (tms p.2.1)<=b)):=by
 have hlen:=ha.1
 have hv:=hs.ok
 have h0:=hv.n0
 have h8:=hv.n8
 have hf:=hv.few
 have ha':=hs.few
 have hn:p.1=((p.1.toNat:Nat):Int):=F3
 obtain ⟨r,r1,r2,r3,r4⟩:=D7 ha hv hn
 have hd:=ni r3 F3 F3 (by rw [r4];exact iB hv hn) F3
 rw [r4] at hd
 have hval:=jJ ha
 rw [fk hv] at hval
 have main:=dnw (n:=p.2.1.length) (P:=fun i=>Ev2 (fun k m=>bb.l0 k m b (c:Int) p.2.1 (p.2.1.length:Int) (i:Int) p) (decide (deg (tms p.2.1)<=b))) ?_ ?_ 0 (Nat.zero_le _)
 ·exact Ev.step (fun k=>cZ k p _ _ _) (Ev.bind (a:=false) (bF (decide_eq_false F3) (xf F3)) (Ev.bind (a:=false) (bF rfl (xf F3)) (bF rfl main.diag)))
 ·exact Ev2.step (fun k m=>bb.aV k m _ _ _ _ _ _) (Ev2.bF (decide_eq_false F3) (Ev2.of (Ev.bind hval (Ev.bind (bT rfl (Ev.bind r1 (Ev.bind hd (evs _)))) (evs _)))))
 intro i hi ih
 have hsh:Ev (fun k=>cw k (tmA p i).2.1 (c:Int)) _:=kC (tmA p i).2.1 c
 rw [decide_eq_true (hs.short i hi)] at hsh
 refine Ev2.step (fun k m=>bb.aV k m _ _ _ _ _ _) (Ev2.bT (decide_eq_true F3) (Ev2.iT F3 (Ev2.bind hsh (Ev2.bF rfl ?_))))
 rw [mi F3]
 exact ih
end
structure SmP (p:aT) (n a c:Nat) (b:Int):Prop where
 n8:n<=8
 eq:p=((n:Int),p.2.1,())
 ok:dI p
 arg:xw p
 pt:PT n c a (tms p.2.1) p.2.1
 cb:CB (a*(c+1)) (tms p.2.1)
 xb:XB b (tms p.2.1)
theorem cb_few {a c:Nat} {l:List Tm} (hl:l.length<=a) (h:∀ t∈l,Wd c t.2):CB (a*(c+1)) l:=(CB.list h).mono (Nat.mul_le_mul_right _ hl)
theorem Dd {p:aT} (ha:xw p) (a c:Nat) (b:Int):∃ t,Ev (fun k=>bb k p (a:Int) b (c:Int)) t/\(t=true->∃ n,SmP p n a c b):=by
 obtain ⟨t,t1,t2⟩:=vT ha a c b
 refine ⟨t,t1,fun h=>?_⟩
 have hs:=t2 h
 have hv:=hs.ok
 have h0:=hv.n0
 have h8:=hv.n8
 have hn:p.1=((p.1.toNat:Nat):Int):=F3
 have hd:=evu t1 (uw ha hs b)
 rw [h] at hd
 have hd:=of_decide_eq_true hd.symm
 have hok:=hs.okT hn
 have hpt:PT p.1.toNat c a (tms p.2.1) p.2.1:=⟨hs.few,hok,vk hv hn,.refl _⟩
 refine ⟨p.1.toNat,F3,by rw [<- hn],hv,ha,hpt,cb_few (by rw [uk];exact hs.few) (fun t ht=>?_),valid_xb hv hn hd⟩
 obtain ⟨u,hu,rfl⟩:=List.mem_map.1 ht
 exact sz_wd (hok u hu).2.2.rb.2
section
variable {p p':aT} {n a c:Nat} {b:Int}
theorem SmP.len (h:SmP p n a c b):Len n (tms p.2.1):=h.pt.srt.len
theorem SmP.rte (h:SmP p n a c b):∃ r,Ev (fun k=>bJ k p) r/\RT n (3*c+1) a (tms p.2.1) r/\fD n r=tms p.2.1:=by
 have hn:p.1=(n:Int):=by rw [h.eq]
 obtain ⟨r,r1,r2,r3,r4⟩:=D7 h.arg h.ok hn
 refine ⟨r,r1,⟨by rw [r2];exact h.pt.len,fun u hu=>?_,by rw [r4];exact h.pt.srt.dst,by rw [r4];exact .refl _⟩,r4⟩
 obtain ⟨o1,o2,o3⟩:=r3 u hu
 have hm:=mX (n:=n) hu
 rw [r4] at hm
 obtain ⟨w,hw,e⟩:=List.mem_map.1 hm
 have e2:mV w.2.1=th u.2.1:=congrArg Prod.snd e
 have hz:=(h.pt.ok w hw).2.2.rb.2
 rw [e2] at hz
 exact ⟨o1,o2,_,o3.rb.1,wd_szR (sz_wd hz)⟩
end
open Go.Proofs.YtfbgaddecbiimaaGreatDoor.G (zE)
section
variable {n K M L N k:Nat} {q q':List Tm} {l l' r:List aw} {E F:Int}
theorem wm {v:cf} {c:Rat} (hv:RB WW v c) (hc:Sz WW K c) (hn:n<=8) (hK:K<1073741824):∃ r,Ev (fun k=>nB k (n:Int) v) ((n:Int),r,())/\PT n K 1 [(zE n,c)] r:=by
 have hsg:=rq hv
 by_cases c0:c=0
 ·refine ⟨[],Ev.step (fun k=>pn k _ _) (Ev.bind hsg (bT (by rw [lG];exact decide_eq_true c0) (Ev.bind (Ev.step (fun k=>yg k _) (evs _)) (evs _)))),F4,(fun u hu=>by cases hu),Srt.nil n,fun m=>?_⟩
  show (0:Rat)=c*_+0
  rw [c0];grind
 refine ⟨[(zE n,v,())],Ev.step (fun k=>pn k _ _) (Ev.bind hsg (bF (by rw [lG];exact decide_eq_false c0) (iT (by show (0:Int)<=(n:Int)/\(n:Int)<=(n:Int)/\8*(n:Int).toNat<=281474976710656/\(n:Int).toNat<=maxLen;unfold maxLen;omega) (Ev.bind (ry hv hc hK) ?_)))),F4,fun u hu=>?_,⟨List.pairwise_singleton ..,fun t ht=>?_,fun t ht=>?_⟩,?_⟩
 ·rw [Int.toNat_natCast];exact evs _
 ·rw [List.mem_singleton] at hu;subst hu
  exact ⟨G.qz n,fun x hx=>by have:=List.eq_of_mem_replicate hx;omega,c,hv,hc⟩
 ·have e:t=tt (zE n,v,()):=by simpa [tms] using ht
  subst e
  show mV v≠0
  rw [oB hv];exact c0
 ·have e:t=tt (zE n,v,()):=by simpa [tms] using ht
  subst e
  exact G.qz n
 show Eqv [(zE n,mV v)] _
 rw [oB hv];exact .refl _
theorem vX {v:cf} {c:Rat} (hv:RB RR v c) (hc:Sz RR K c) (hn:n<=8) (hK:K<100000):∃ r,Ev (fun k=>eF k v) r/\RT n (K+1) 1 [(zE n,c)] r:=by
 obtain ⟨r,r1,r2,r3,r4⟩:=tx (n:=n) (K:=0) (r:=[]) (e:=zE n) hn F4 F3 (fun t ht=>by cases ht) (G.qz n) hv hc
 have e:fF (zE n)=List.replicate 8 (0:Int):=by
  rw [fF,cx _ _ _ (by rw [G.qz];exact hn),G.qz,zE,List.replicate_append_replicate]
  congr 1;omega
 rw [e] at r1
 obtain ⟨c1,c2⟩:=G.wb (p:=[]) (c:=c) (Dst.nil n) (G.qz n)
 rw [show fD n []=[] from rfl] at r2
 rw [<- r2] at c1 c2
 refine ⟨r,Ev.step (fun k=>jV k _) (Ev.bind r1 (evs _)),by simpa using r4,fun t ht=>(r3 t ht).mono F3,c1,fun m=>?_⟩
 rw [c2]
 show 0+c*_=c*_+0
 grind
abbrev oneW:cf:=(false,[1],[1],())
end
end Go.Proofs.YtfbgaddecbiimaaGreatDoor.Q
end
section
namespace Go.Proofs.YtfbgaddecbiimaaGreatDoor.G
def ms (n:Nat):List Ex->Nat->List Ex
 | [],0=>[zE n]
 | [],_+1=>[]
 | _ :: _,0=>[zE n]
 | e :: es,j+1=>(ms n (e :: es) j).map (eD e)++ms n es (j+1)
def cnt:Nat->Nat->Nat
 | 0,0=>1
 | 0,_+1=>0
 | _+1,0=>1
 | r+1,j+1=>cnt (r+1) j+cnt r (j+1)
theorem zY (n:Nat):∀ (es:List Ex) (j:Nat),(ms n es j).length=cnt es.length j
 | [],0=>by simp [ms,cnt]
 | [],_+1=>by simp [ms,cnt]
 | _ :: _,0=>by simp [ms,cnt]
 | e :: es,j+1=>by
  have h1:=zY n (e :: es) j
  have h2:=zY n es (j+1)
  simp only [List.length_cons] at h1
  simp only [ms,List.length_append,List.length_map,List.length_cons,cnt,h1,h2]
theorem uK (n:Nat) (es:List Ex):ms n es 0=[zE n]:=by cases es<;>simp [ms]
theorem zZ (n:Nat):∀ (es:List Ex) (j:Nat) (x e:Ex),x∈ms n es j->e∈es->eD x e∈ms n es (j+1)
 | [],_,_,_,_,h=>by cases h
 | e0 :: es,0,x,e,hx,he=>by
  rw [uK,List.mem_singleton] at hx
  rw [ms]
  rcases List.mem_cons.1 he with rfl | he
  ·exact List.mem_append_left _ (List.mem_map.2 ⟨x,by rw [uK,hx];exact List.mem_singleton.2 rfl,jf ..⟩)
  exact List.mem_append_right _ (zZ n es 0 x e (by rw [uK,hx];exact List.mem_singleton.2 rfl) he)
 | e0 :: es,j+1,x,e,hx,he=>by
  rw [ms]
  rcases List.mem_cons.1 he with rfl | he'
  ·exact List.mem_append_left _ (List.mem_map.2 ⟨x,hx,jf ..⟩)
  rw [ms] at hx
  rcases List.mem_append.1 hx with hx | hx
  ·obtain ⟨y,hy,rfl⟩:=List.mem_map.1 hx
   rw [ud]
   exact List.mem_append_left _ (List.mem_map.2 ⟨_,zZ n (e0 :: es) j y e hy he,rfl⟩)
  exact List.mem_append_right _ (zZ n es (j+1) x e hx he')
theorem pw_ms {n:Nat} (q:List Tm):∀ (k:Nat),∀ t∈pw n q k,t.1∈ms n (q.map (·.1)) k
 | 0,t,h=>by
  have e:t=(zE n,1):=by simpa [pw,one] using h
  subst e
  rw [uK];exact List.mem_singleton.2 rfl
 | k+1,t,h=>by
  obtain ⟨u,hu,ht⟩:=List.mem_flatMap.1 h
  obtain ⟨v,hv,rfl⟩:=List.mem_map.1 ht
  show eD v.1 u.1∈_
  rw [jf]
  exact zZ n _ k _ _ (pw_ms q k u hu) (List.mem_map.2 ⟨v,hv,rfl⟩)
theorem few_of:∀ {l:List Ex} {S:List Ex},l.Pairwise (·≠·)->(∀ x∈l,x∈S)->l.length<=S.length
 | [],_,_,_=>Nat.zero_le _
 | x :: l,S,h,hS=>by
  obtain ⟨a,b,rfl⟩:=List.append_of_mem (hS x (List.mem_cons_self ..))
  obtain ⟨h1,h2⟩:=List.pairwise_cons.1 h
  have:=few_of (l:=l) (S:=a++b) h2 fun y hy=>by
   have hne:x≠y:=h1 y hy
   rcases List.mem_append.1 (hS y (List.mem_cons_of_mem _ hy)) with g | g
   ·exact List.mem_append_left _ g
   rcases List.mem_cons.1 g with g | g
   ·exact absurd g.symm hne
   exact List.mem_append_right _ g
  simp only [List.length_cons,List.length_append] at this ⊢
  omega
theorem Dst.few {n:Nat} {p r:List Tm} (h:Dst n p) (he:∀ e,co p e=co r e) {S:List Ex} (hS:∀ t∈r,t.1∈S):p.length<=S.length:=by
 have:=few_of (l:=p.map (·.1)) (S:=S) (List.pairwise_map.2 h.ne) fun x hx=>by
  obtain ⟨t,ht,rfl⟩:=List.mem_map.1 hx
  obtain ⟨u,hu,e⟩:=h.from he ht
  rw [<- e];exact hS u hu
 rwa [List.length_map] at this
theorem E8:∀ j,cnt 1 j=1
 | 0=>by simp [cnt]
 | j+1=>by
  have h:=E8 j
  rw [cnt,h,cnt]
theorem AE:∀ {r s:Nat} (j:Nat),r<=s->cnt r j<=cnt s j
 | 0,0,j,_=>Nat.le_refl _
 | 0,s+1,0,_=>by simp [cnt]
 | 0,s+1,j+1,_=>by simp [cnt]
 | r+1,0,_,h=>F3
 | r+1,s+1,0,_=>by simp [cnt]
 | r+1,s+1,j+1,h=>by
  have h1:=AE (r:=r+1) (s:=s+1) j h
  have h2:=AE (r:=r) (s:=s) (j+1) F3
  simp only [cnt];omega
end Go.Proofs.YtfbgaddecbiimaaGreatDoor.G
end
section
namespace Go.Proofs.YtfbgaddecbiimaaGreatDoor.Q
open Go.RowKit Go.Proofs.YtfbgaddecbiimaaGreatDoorW.PrintWords Go.Proofs.YtfbgaddecbiimaaGreatDoorW.PrintMore Go.Proofs.YtfbgaddecbiimaaGreatDoor.V Go.Proofs.YtfbgaddecbiimaaGreatDoor.E
open Go.Proofs.YtfbgaddecbiimaaGreatDoor.P (Dg Nm vl WW RR bC gI evs evk evb fa aO bH bh cF w64 u64)
open Go.Proofs.YtfbgaddecbiimaaGreatDoor.G (Ex Tm lin co Eqv Srt Dst oC CB XB Wd Len WB deg zE pw cnt)
section
variable {n K M L N k r:Nat} {q q':List Tm} {l l' o:List aw} {E F d:Int}
theorem PT.wa {j:Nat} (h:PT n K M (pw n q j) o) (hr:q.length<=r):PT n K (cnt r j) (pw n q j) o:=⟨by
 have h1:=h.srt.dst.few (fun e=>h.eqv.co e) (S:=G.ms n (q.map (·.1)) j) (fun t ht=>G.pw_ms q j t ht)
 rw [uk,G.zY,List.length_map] at h1
 exact Nat.le_trans h1 (G.AE j hr),h.ok,h.srt,h.eqv⟩
theorem RT.wa {j:Nat} (h:RT n K M (pw n q j) o) (hr:q.length<=r):RT n K (cnt r j) (pw n q j) o:=⟨by
 have h1:=h.dst.few (fun e=>h.eqv.co e) (S:=G.ms n (q.map (·.1)) j) (fun t ht=>G.pw_ms q j t ht)
 rw [um,G.zY,List.length_map] at h1
 exact Nat.le_trans h1 (G.AE j hr),h.ok,h.dst,h.eqv⟩
theorem D5 (hn:n<=8) (q:List Tm):∃ r,Ev (fun k=>nB k (n:Int) oneW) ((n:Int),r,())/\PT n 1 1 (pw n q 0) r:=wm (vZ bH) (C3 bH (Nat.le_refl 1)) hn F3
theorem one_rt (hn:n<=8) (q:List Tm):∃ r,Ev (fun k=>eF k oneW) r/\RT n 2 1 (pw n q 0) r:=vX (vZ cF) (C3 cF (Nat.le_refl 1)) hn F3
theorem power_ok (h:PT n 1 r q l) (hq:Len n q) {c:Nat} (hc:CB c q) (hx:XB d q) (hd:0<=d) (hr:r<=4) (hql:q.length<=r) (hn:n<=8) (m:Nat) (hdm:d*m<=40) (hcm:c*m<=198) (hm:m<=1000) (hcnt:∀ j,j<=m->cnt r j<=84):∃ o,Ev (fun k=>bX k ((n:Int),l,()) (m:Int)) (((n:Int),o,()),(0:Int),())/\PT n (c*m+1) (cnt r m) (pw n q m) o:=by
 have hdj:∀ j:Nat,j<=m->d*j<=d*m:=fun j hj=>Int.mul_le_mul_of_nonneg_left F3 hd
 have main:∀ i j:Nat,j+i=m->∀ o,PT n (c*j+1) (cnt r j) (pw n q j) o->∃ o',Ev2 (fun k m=>bX.l0 k m (i:Int) (0:Int) ((n:Int),l,()) ((0:Int),[],()) ((n:Int),o,())) (((n:Int),o',()),(0:Int),())/\PT n (c*m+1) (cnt r m) (pw n q m) o':=by
  intro i
  induction i with
  | zero =>
   intro j hj o ho
   obtain rfl:j=m:=F3
   exact ⟨o,Ev2.step (fun k m=>bX.aV k m _ _ _ _ _) (Ev2.bind (a:=false) (bF rfl (evs _)) (Ev2.bF rfl (Ev2.of (evs _)))),ho⟩
  | succ i ih =>
   intro j hj o ho
   have h1:=hcnt j F3
   have hcj:c*j<=c*m:=Nat.mul_le_mul_left _ F3
   have hcs:c*(j+1)=c*j+c:=Nat.mul_succ _ _
   have hcj1:c*(j+1)<=c*m:=Nat.mul_le_mul_left _ F3
   have hds:d*((j+1:Nat):Int)=d*j+d:=by rw [Int.natCast_add,Int.mul_add];omega
   have hd1:=hdj (j+1) F3
   have hX:XB (d*j) (pw n q j):=XB.pw hq hx j
   have hcr:cnt r j*r<=84*4:=Nat.mul_le_mul h1 hr
   obtain ⟨o',e1,e2⟩:=BI ho h hX hx (Len.pw hq j) hq hn F3 F3 F3 F3 F3 (j:=c*(j+1)) (hc.pw (n:=n) (j+1)) F3
   have e3:PT n (c*(j+1)+1) (cnt r j*r) (pw n q (j+1)) o':=e2
   obtain ⟨o'',f1,f2⟩:=ih (j+1) F3 o' (e3.wa hql)
   refine ⟨o'',Ev2.step (fun k m=>bX.aV k m _ _ _ _ _) (Ev2.bind (a:=true) (bT (decide_eq_true F3) (evs _)) (Ev2.bT rfl (Ev2.bind e1 ?_))),f2⟩
   rw [show wrap64 (((i+1:Nat):Int)-1)=(i:Int) by rw [w64 F3 F3];omega]
   exact f1
 obtain ⟨o,o1,o2⟩:=D5 hn q
 obtain ⟨o',e1,e2⟩:=main m 0 F3 o (by
  have:PT n (c*0+1) 1 (pw n q 0) o:=o2.to F3 (Nat.le_refl _) (.refl _)
  exact this.wa hql)
 exact ⟨o',Ev.step (fun k=>jO k _ _) (Ev.bind oK (Ev.bind o1 e1.diag)),e2⟩
theorem xP (h:RT n K r q l) (hq:Len n q) {c:Nat} (hc:CB c q) (hx:XB d q) (hd:0<=d) (hr:r<=4) (hql:q.length<=r) (hn:n<=8) (m:Nat) (hdm:d*m<=100000) (hcm:c*m<=300) (hm:m<=1000) (hK:K<=100) (hd':d<=100000) (hcnt:∀ j,j<=m->cnt r j<=84):∃ o,Ev (fun k=>bR k l (m:Int)) o/\RT n (3*(c*m)+2) (cnt r m) (pw n q m) o:=by
 have hdj:∀ j:Nat,j<=m->d*j<=d*m:=fun j hj=>Int.mul_le_mul_of_nonneg_left F3 hd
 have main:=dnw (n:=m) (P:=fun j=>∀ o,RT n (3*(c*j)+2) (cnt r j) (pw n q j) o->∃ o',Ev2 (fun k i=>bR.l0 k i l o (m:Int) (j:Int)) o'/\RT n (3*(c*m)+2) (cnt r m) (pw n q m) o') ?_ ?_ 0 (Nat.zero_le _)
 ·obtain ⟨o,o1,o2⟩:=one_rt hn q
  obtain ⟨o',e1,e2⟩:=main o (RT.wa (o2.to F3 (Nat.le_refl _) (.refl _)) hql)
  exact ⟨o',Ev.step (fun k=>kJ k _ _) (Ev.bind tz (Ev.bind o1 e1.diag)),e2⟩
 ·intro o ho
  exact ⟨o,Ev2.step (fun k m=>bR.aV k m _ _ _ _) (Ev2.bF (decide_eq_false F3) (Ev2.of (evs _))),ho⟩
 intro j hj ih o ho
 have h1:=hcnt j F3
 have hcj:c*j<=c*m:=Nat.mul_le_mul_left _ F3
 have hd1:=hdj j F3
 have hcr:cnt r j*r<=84*4:=Nat.mul_le_mul h1 hr
 have hX:XB (d*j) (pw n q j):=XB.pw hq hx j
 obtain ⟨s,s1,s2⟩:=xR ho h hX hx (Int.mul_nonneg hd F3) hd F3 F3 hn F3 F3 (Nat.lt_of_le_of_lt (Nat.mul_le_mul (show _<=337 by omega) (show _<=1003 by omega)) (by decide)) (j:=c*(j+1)) (hc.pw (n:=n) (j+1))
 have s3:RT n (3*(c*(j+1))+1) (cnt r j*r) (pw n q (j+1)) s:=s2
 obtain ⟨o',e1,e2⟩:=ih s (RT.wa (s3.to F3 (Nat.le_refl _) (.refl _)) hql)
 refine ⟨o',Ev2.step (fun k m=>bR.aV k m _ _ _ _) (Ev2.bT (decide_eq_true F3) (Ev2.bind s1 ?_)),e2⟩
 rw [mi F3]
 exact e1
theorem rG (h:PT n K M q l) (hn:n<=8) (hM:M<=100000) (hK:K<=100000000):(dI ((n:Int),l,())/\Ev (fun k=>dY k ((n:Int),l,())) (((n:Int),l,()),(0:Int),()))∨Ev (fun k=>dY k ((n:Int),l,())) (sR,(2:Int),()):=by
 have e:=iv (h.arg hn F3)
 have hl:=h.len
 by_cases c:dI ((n:Int),l,())
 ·rw [fk c] at e
  exact .inl ⟨c,Ev.step (fun k=>iI k _) (Ev.bind e (bF rfl (Ev.bind (qV hn F3 F3 h.ok) (evs _))))⟩
 rw [dj c] at e
 exact .inr (Ev.step (fun k=>iI k _) (Ev.bind e (bT rfl (evs _))))
theorem ug (hv:dI ((n:Int),l,())):PT n 200 4000 (tms l) l:=by
 obtain ⟨m,m8,mn,mo⟩:=uh hv
 obtain rfl:n=m:=Int.ofNat.inj mn
 exact ⟨hv.few,mo,vk hv rfl,.refl _⟩
theorem DQ (h:PT n 1 4 q l) (hv:dI ((n:Int),l,())) (hn:n<=8) (hd:deg (tms l)=d) (hd8:d<=40) (hd1:1<=d) (m:Nat) (hm:m<=40) (hdm:d*m>40):Ev (fun k=>bX k ((n:Int),l,()) (m:Int)) (sR,(2:Int),()):=by
 have hP:=ug hv
 have hX:=iB hv rfl
 have hl0:l≠[]:=fun e=>by subst e;have:deg (tms []) = -1:=rfl;omega
 have main:∀ i j:Nat,j+i=m->∀ o,dI ((n:Int),o,())->deg (tms o)=d*j->Ev2 (fun k m=>bX.l0 k m (i:Int) (0:Int) ((n:Int),l,()) ((0:Int),[],()) ((n:Int),o,())) (sR,(2:Int),()):=by
  intro i
  induction i with
  | zero =>
   intro j hj o ho hdo
   obtain rfl:j=m:=F3
   have:=XB.deg (iB ho rfl) F3
   exfalso
   have:deg (tms o)<=40:=this
   omega
  | succ i ih =>
   intro j hj o ho hdo
   have oX:=iB ho rfl
   have oP:=ug ho
   have hdj0:0<=d*j:=Int.mul_nonneg F3 F3
   have ho0:o≠[]:=fun e=>by subst e;have:deg (tms []) = -1:=rfl;omega
   have hdo40:deg (tms o)<=40:=XB.deg oX F3
   have hw:wrap64 (((i+1:Nat):Int)-1)=(i:Int):=by rw [w64 F3 F3];omega
   have stop:Ev (fun k=>dm k ((n:Int),o,()) ((n:Int),l,())) (sR,(2:Int),())->Ev2 (fun k m=>bX.l0 k m ((i+1:Nat):Int) (0:Int) ((n:Int),l,()) ((0:Int),[],()) ((n:Int),o,())) (sR,(2:Int),()):=fun hp=>by
    refine Ev2.step (fun k m=>bX.aV k m _ _ _ _ _) (Ev2.bind (a:=true) (bT (decide_eq_true F3) (evs _)) (Ev2.bT rfl (Ev2.bind hp ?_)))
    refine Ev2.step (fun k m=>bX.aV k m _ _ _ _ _) (Ev2.bind (a:=false) ?_ (Ev2.bF rfl (Ev2.of (evs _))))
    by_cases c:wrap64 (((i+1:Nat):Int)-1)>0
    ·exact bT (decide_eq_true c) (evs _)
    exact bF (decide_eq_false c) (evs _)
   by_cases c:deg (tms o)+deg (tms l)>40
   ·exact stop (ye oP.ok hP.ok hn (Nat.le_trans oP.len F3) (Nat.le_trans hP.len F3) ho0 hl0 c F3 F3)
   have h4:PT n 1 4 (tms l) l:=⟨h.len,h.ok,h.srt,.refl _⟩
   obtain ⟨s,s1,s2⟩:=oG oP h4 oX hX oP.srt.len h4.srt.len hn F3 F3 F3 F3 F3
   have pe:∀ {R:aT×Int×Unit},Ev (fun k=>dY k ((n:Int),s,())) R->Ev (fun k=>dm k ((n:Int),o,()) ((n:Int),l,())) R:=fun {R} hR=>by
    have e1:=dZ hn (Nat.le_trans oP.len F3) oP.ok
    have e2:=dZ hn (Nat.le_trans hP.len F3) hP.ok
    rw [yP] at e1 e2
    have m1:=G.mq (tms o)
    refine Ev.step (fun k=>eH k _ _) (Ev.bind (a:=true) (bT (gt0 ho0) (by rw [gt0 hl0];exact evs _)) (Ev.bind (a:=false) (bT rfl (Ev.bind e1 (Ev.bind e2 ?_))) (bF rfl (Ev.bind s1 (Ev.bind hR (evs _))))))
    rw [w64 F3 F3]
    exact xf F3
   rcases rG s2 hn F3 F3 with ⟨g1,g2⟩ | g
   ·have hds:deg (tms s)=deg (tms o)+deg (tms l):=G.deg_prod oP.srt.dst h4.srt.dst s2.srt.dst (fun e=>s2.eqv.co e) (tms_ne ho0) (tms_ne hl0) (fun t ht=>G.qE (oX t ht).1) (fun t ht=>G.qE (hX t ht).1)
    refine Ev2.step (fun k m=>bX.aV k m _ _ _ _ _) (Ev2.bind (a:=true) (bT (decide_eq_true F3) (evs _)) (Ev2.bT rfl (Ev2.bind (pe g2) ?_)))
    rw [hw]
    refine ih (j+1) F3 s g1 ?_
    rw [hds,hdo,hd,Int.natCast_add,Int.mul_add];omega
   exact stop (pe g)
 obtain ⟨o,o1,o2⟩:=D5 hn q
 have oe:Eqv (tms o) (G.one n):=o2.eqv
 have ov:dI ((n:Int),o,()):=o2.valid hn F3 ((CB.one n).mono F3) ((G.XB.one n).mono F3)
 have od:deg (tms o)=0:=by
  have h1:Dst n (G.one n):=⟨List.pairwise_singleton ..,fun t ht=>by
   have e:t=(zE n,1):=by simpa [G.one] using ht
   subst e;show (1:Rat)≠0;decide,G.Len.one n⟩
  rw [o2.srt.dst.deg_eq h1 (fun e=>oe.co e)]
  show max (G.fM (List.replicate n 0)) (-1)=0
  rw [G.oy];rfl
 exact Ev.step (fun k=>jO k _ _) (Ev.bind oK (Ev.bind o1 (main m 0 F3 o ov (by rw [od];simp)).diag))
end
theorem cnt4:∀ j,j<=6->cnt 4 j<=84
 | 0,_=>by simp [cnt]
 | 1,_=>by simp [cnt]
 | 2,_=>by simp [cnt]
 | 3,_=>by simp [cnt]
 | 4,_=>by simp [cnt]
 | 5,_=>by simp [cnt]
 | 6,_=>by simp [cnt]
 | j+7,h=>F3
theorem mD {p:aT} (ha:xw p) (hv:dI p) {m:Nat} (hm:m<=40) {o:aT} {e:Int} (h:Ev (fun k=>bX k p (m:Int)) (o,e,())):Ev (fun k=>gM k p (m:Int)) (o,e,()):=by
 have e1:=iv ha
 rw [fk hv] at e1
 exact Ev.step (fun k=>qU k _ _) (Ev.bind e1 (bF rfl (Ev.bind (a:=false) (bF (decide_eq_false F3) (xf F3)) (bF rfl (Ev.bind h (evs _))))))
theorem yf {n:Nat} {o l:List aw} {q:List Tm} (ho:dI ((n:Int),o,())) (hv:dI ((n:Int),l,())) (h:PT n 1 4 q l) (hn:n<=8):(∃ s,Ev (fun k=>dm k ((n:Int),o,()) ((n:Int),l,())) (((n:Int),s,()),(0:Int),())/\dI ((n:Int),s,()))∨Ev (fun k=>dm k ((n:Int),o,()) ((n:Int),l,())) (sR,(2:Int),()):=by
 have hX:=iB hv rfl
 have oX:=iB ho rfl
 have oP:=ug ho
 have h4:PT n 1 4 (tms l) l:=⟨h.len,h.ok,h.srt,.refl _⟩
 obtain ⟨s,s1,s2⟩:=oG oP h4 oX hX oP.srt.len h4.srt.len hn F3 F3 F3 F3 F3
 have fin:∀ {b:Bool},Ev (fun k=>(bif decide ((List.length o:Int)>(0:Int)) then some (decide ((List.length l:Int)>(0:Int))) else some false).bind fun (b1:Bool) =>
  (bif b1 then (cL k ((n:Int),o,())).bind fun (v2:Int) =>
  (cL k ((n:Int),l,())).bind fun (v3:Int) =>
  some (decide ((wrap64 (v2+v3))>(40:Int))) else some false)) b->(∃ s,Ev (fun k=>dm k ((n:Int),o,()) ((n:Int),l,())) (((n:Int),s,()),(0:Int),())/\dI ((n:Int),s,()))∨Ev (fun k=>dm k ((n:Int),o,()) ((n:Int),l,())) (sR,(2:Int),()):=fun {b} hb=>by
  have st:∀ {R:aT×Int×Unit},Ev (fun k=>bif b then some (((0:Int),[],()),(2:Int),()) else (eU k ((n:Int),o,()) ((n:Int),l,())).bind fun (v5:aT)=>(dY k v5).bind fun (v6:aT×Int×Unit)=>some (v6.1,v6.2.1,())) R->Ev (fun k=>dm k ((n:Int),o,()) ((n:Int),l,())) R:=fun {R} h=>by
   have h2:Ev (fun k=>((bif decide ((List.length o:Int)>(0:Int)) then some (decide ((List.length l:Int)>(0:Int))) else some false).bind fun (b1:Bool) =>
    (bif b1 then (cL k ((n:Int),o,())).bind fun (v2:Int) =>
    (cL k ((n:Int),l,())).bind fun (v3:Int) =>
    some (decide ((wrap64 (v2+v3))>(40:Int))) else some false)).bind fun b4=>bif b4 then some (((0:Int),[],()),(2:Int),()) else (eU k ((n:Int),o,()) ((n:Int),l,())).bind fun (v5:aT)=>(dY k v5).bind fun (v6:aT×Int×Unit)=>some (v6.1,v6.2.1,())) R:=Ev.bind hb h
   refine Ev.step (fun k=>eH k _ _) ?_
   obtain ⟨K,hK⟩:=h2
   exact ⟨K,fun k hk=>(Option.bind_assoc ..).symm.trans (hK k hk)⟩
  cases b with
  | true=>exact .inr (st (bT rfl (evs _)))
  | false =>
   rcases rG s2 hn F3 F3 with ⟨g1,g2⟩ | g
   ·exact .inl ⟨s,st (bF rfl (Ev.bind s1 (Ev.bind g2 (evs _)))),g1⟩
   exact .inr (st (bF rfl (Ev.bind s1 (Ev.bind g (evs _)))))
 by_cases c:o=[]
 ·exact fin (Ev.bind (a:=false) (bF (uJ c) (evs _)) (bF rfl (evs _)))
 by_cases c':l=[]
 ·exact fin (Ev.bind (a:=false) (bT (gt0 c) (by rw [uJ c'];exact evs _)) (bF rfl (evs _)))
 exact fin (Ev.bind (a:=true) (bT (gt0 c) (by rw [gt0 c'];exact evs _)) (bT rfl (Ev.bind (dZ hn (Nat.le_trans oP.len F3) oP.ok) (Ev.bind (dZ hn (Nat.le_trans h4.len F3) h4.ok) (evs _)))))
theorem DP {n:Nat} {l:List aw} {q:List Tm} (h:PT n 1 4 q l) (hv:dI ((n:Int),l,())) (hn:n<=8) (m:Nat) (hm:m<=40):∃ R,Ev (fun k=>bX k ((n:Int),l,()) (m:Int)) R:=by
 have main:∀ i:Nat,i<=40->∀ o,dI ((n:Int),o,())->∃ R,Ev2 (fun k m=>bX.l0 k m (i:Int) (0:Int) ((n:Int),l,()) ((0:Int),[],()) ((n:Int),o,())) R:=by
  intro i
  induction i with
  | zero=>exact fun _ o ho=>⟨_,Ev2.step (fun k m=>bX.aV k m _ _ _ _ _) (Ev2.bind (a:=false) (bF rfl (evs _)) (Ev2.bF rfl (Ev2.of (evs _))))⟩
  | succ i ih =>
   intro hi o ho
   have hw:wrap64 (((i+1:Nat):Int)-1)=(i:Int):=by rw [w64 F3 F3];omega
   rcases yf ho hv h hn with ⟨s,s1,s2⟩ | g
   ·obtain ⟨R,hR⟩:=ih F3 s s2
    refine ⟨R,Ev2.step (fun k m=>bX.aV k m _ _ _ _ _) (Ev2.bind (a:=true) (bT (decide_eq_true F3) (evs _)) (Ev2.bT rfl (Ev2.bind s1 ?_)))⟩
    rw [hw];exact hR
   refine ⟨(sR,(2:Int),()),Ev2.step (fun k m=>bX.aV k m _ _ _ _ _) (Ev2.bind (a:=true) (bT (decide_eq_true F3) (evs _)) (Ev2.bT rfl (Ev2.bind g ?_)))⟩
   refine Ev2.step (fun k m=>bX.aV k m _ _ _ _ _) (Ev2.bind (a:=false) ?_ (Ev2.bF rfl (Ev2.of (evs _))))
   rw [hw]
   by_cases c:(i:Int)>0
   ·exact bT (decide_eq_true c) (evs _)
   exact bF (decide_eq_false c) (evs _)
 obtain ⟨o,o1,o2⟩:=D5 hn q
 have ov:dI ((n:Int),o,()):=o2.valid hn F3 ((CB.one n).mono F3) ((G.XB.one n).mono F3)
 obtain ⟨R,hR⟩:=main m hm o ov
 exact ⟨R,Ev.step (fun k=>jO k _ _) (Ev.bind oK (Ev.bind o1 hR.diag))⟩
theorem sW {p:aT} (z:Int) (ha:xw p):Ev (fun k=>fC k p z) true:=by
 refine Ev.step (fun k=>iz k p z) (Ev.bind Fp (bF rfl ?_))
 obtain ⟨t,t1,t2⟩:=Dd ha 4 1 8
 refine Ev.bind t1 ?_
 cases t with
 | false=>exact bT rfl (evs _)
 | true =>
 obtain ⟨n,hp⟩:=t2 rfl
 obtain ⟨x,x1,x2,x3⟩:=hp.rte
 have hn:=hp.n8
 have P1:=hp.pt
 have B1:=hp.cb
 have X1:=hp.xb
 have L1:=hp.len
 have hvp:=iv ha
 rw [fk hp.ok] at hvp
 have hpe:=hp.eq
 have hok:=hp.ok
 generalize hl:p.2.1=l at *
 subst hpe
 have hdr:=ni x2.ok hn (Nat.le_trans x2.len F3) (x2.xbq X1) F3
 rw [x3] at hdr
 refine bF rfl (Ev.bind x1 ?_)
 by_cases hz:z<0∨z>40
 ·have hpow:Ev (fun k=>gM k ((n:Int),l,()) z) (sR,(1:Int),()):=by
   refine Ev.step (fun k=>qU k _ _) (Ev.bind hvp (bF rfl (Ev.bind (a:=true) ?_ (bT rfl (evs _)))))
   by_cases g:z<0
   ·exact bT (decide_eq_true g) (evs _)
   exact bF (decide_eq_false g) (ET F3)
  refine Ev.bind hpow (Ev.bind (a:=true) ?_ (bT rfl (Ev.bind (a:=true) (bT rfl (Ev.bind zT (evs _))) (evs _))))
  by_cases g:z<0
  ·exact bT (decide_eq_true g) (evs _)
  exact bF (decide_eq_false g) (ET F3)
 obtain ⟨m,rfl⟩:=Int.eq_ofNat_of_zero_le (show 0<=z by omega)
 have hm:m<=40:=F3
 have hb5:∀ {R:aT×Int×Unit} {f g:Nat->aT×Int×Unit->Option Bool},Ev (fun k=>gM k ((n:Int),l,()) (m:Int)) R->Ev (fun k=>g k R) true->Ev (fun k=>(gM k ((n:Int),l,()) (m:Int)).bind fun v4=>(bif decide ((m:Int)<(0:Int)) then some true else some (decide ((m:Int)>(40:Int)))).bind fun (b5:Bool)=>bif b5 then f k v4 else g k v4) true:=fun hR hg=>Ev.bind hR (Ev.bind (a:=false) (bF (decide_eq_false F3) (xf F3)) (bF rfl hg))
 have d8:deg (tms l)<=8:=XB.deg X1 F3
 have d1:=G.mq (tms l)
 generalize hd:deg (tms l)=d at *
 have hX:XB (max d 0) (tms l):=fun t ht=>⟨(X1 t ht).1,by have:=G.rJ ht;rw [hd] at this;omega⟩
 have hw:wrap64 (d*(m:Int))=d*m:=by
  have a1:d*(m:Int)<=8*40:=Int.le_trans (Int.mul_le_mul_of_nonneg_right d8 F3) (Int.mul_le_mul_of_nonneg_left F3 F3)
  have a2:-1*(m:Int)<=d*(m:Int):=Int.mul_le_mul_of_nonneg_right d1 F3
  exact w64 F3 F3
 by_cases hdm:d*(m:Int)>40
 ·have hd1:1<=d:=by
   apply Classical.byContradiction
   intro h
   have:d*(m:Int)<=0*(m:Int):=Int.mul_le_mul_of_nonneg_right F3 F3
   omega
  refine hb5 (mD ha hok hm (DQ P1 hok hn hd F3 hd1 m hm hdm)) (Ev.bind hdr (bT ?_ (Ev.bind (a:=true) (bT rfl (Ev.bind zT (evs _))) (evs _))))
  rw [hw];exact decide_eq_true hdm
 have hdm':max d 0*(m:Int)<=40:=by
  rcases Int.le_total 0 d with h | h
  ·rw [Int.max_eq_left h];omega
  rw [Int.max_eq_right h];omega
 have fin:∀ {r c:Nat},PT n 1 r (tms l) l->RT n 4 r (tms l) x->CB c (tms l)->r<=4->c*m<=198->(∀ j,j<=m->cnt r j<=84)->∀ {f:Nat->aT×Int×Unit->Option Bool} {f':Nat->aT×Int×Unit->Int->Option Bool} {h:Nat->aT×Int×Unit->Option Bool} {hc:Nat->Option Bool},Ev hc false->Ev (fun k=>(gM k ((n:Int),l,()) (m:Int)).bind fun v4=>(bif decide ((m:Int)<(0:Int)) then some true else some (decide ((m:Int)>(40:Int)))).bind fun (b5:Bool)=>bif b5 then f k v4 else (aR k x).bind fun (v8:Int)=>bif decide ((wrap64 (v8*(m:Int)))>(40:Int)) then f' k v4 v8 else (hc k).bind fun (b14:Bool)=>bif b14 then h k v4 else (bif v4.2.1==(0:Int) then (bR k x (m:Int)).bind fun (v15:List aw)=>(dJ k v4.1 v15 (n:Int)).bind fun (v16:Bool)=>some v16 else some false).bind fun (b17:Bool)=>some b17) true:=fun {r c} hP hR hc hr hcm hcnt {f f' h hcf} hcv=>by
  have hql:(tms l).length<=r:=by rw [uk];exact hP.len
  obtain ⟨o,o1,o2⟩:=power_ok hP L1 hc hX F3 hr hql hn m hdm' hcm F3 hcnt
  obtain ⟨s,s1,s2⟩:=xP hR L1 hc hX F3 hr hql hn m F3 F3 F3 F3 F3 hcnt
  have hcl:=hcnt m (Nat.le_refl _)
  have his:=o2.is s2 (.refl _) hn F3 F3 F3 F3
  refine hb5 (mD ha hok hm o1) (Ev.bind hdr (bF ?_ (Ev.bind hcv (bF rfl (Ev.bind (a:=true) (bT rfl (Ev.bind s1 (Ev.bind his (evs _)))) (evs _))))))
  rw [hw];exact decide_eq_false hdm
 have free:∀ {f:Nat->aT×Int×Unit->Option Bool} {f':Nat->aT×Int×Unit->Int->Option Bool} {g:Nat->aT×Int×Unit->Option Bool} {hc:Nat->Option Bool},(∃ R,Ev (fun k=>gM k ((n:Int),l,()) (m:Int)) R)->Ev hc true->Ev (fun k=>(gM k ((n:Int),l,()) (m:Int)).bind fun v4=>(bif decide ((m:Int)<(0:Int)) then some true else some (decide ((m:Int)>(40:Int)))).bind fun (b5:Bool)=>bif b5 then f k v4 else (aR k x).bind fun (v8:Int)=>bif decide ((wrap64 (v8*(m:Int)))>(40:Int)) then f' k v4 v8 else (hc k).bind fun (b14:Bool)=>bif b14 then some true else g k v4) true:=fun {f f' g hcf} ⟨R,hR⟩ hcv=>by
  refine hb5 hR (Ev.bind hdr (bF ?_ (Ev.bind hcv (bT rfl (evs _)))))
  rw [hw];exact decide_eq_false hdm
 by_cases h6:(m:Int)>6
 ·have tot:=DP P1 hok hn m hm
  have tot':∃ R,Ev (fun k=>gM k ((n:Int),l,()) (m:Int)) R:=by
   obtain ⟨⟨o,e,_⟩,hR⟩:=tot
   exact ⟨_,mD ha hok hm hR⟩
  by_cases h1:x.length=1
  ·have hx0:0<x.length:=by omega
   have e0:(rdT (t:=af) x (0:Int):aw)=x[0]:=cT (i:=0) hx0
   obtain ⟨o1,o2,o3⟩:=x2.ok x[0] (List.getElem_mem hx0)
   have hcmp:=Bz o3.rb.1 (vZ cF) o3.rb.2 (C3 cF (Nat.le_refl 1)) F3
   rw [<- Dj] at hcmp
   have hcv:∀ {b:Bool},(sgn (th x[0].2.1-1) != (0:Int))=b->Ev (fun k=>bif decide ((m:Int)>(6:Int)) then (bif (List.length x:Int) != (1:Int) then some true else if 0<=(0:Int)/\(0:Int)<(List.length x:Int) then (eo k).bind fun (v11:cf) =>
    (e8 k (((rdT (t:=af) x (0:Int):aw).2).1) v11).bind fun (v12:Int) =>
    some (v12 != (0:Int)) else none).bind fun (b13:Bool) =>
    some b13 else some false) b:=fun {b} hb=>by
    refine bT (decide_eq_true h6) (Ev.bind (a:=b) (bF (by simp [h1]) (iT F3 (Ev.bind tz ?_))) (evs _))
    rw [e0]
    exact Ev.bind hcmp (by rw [hb];exact evs _)
   by_cases c1:th x[0].2.1-1=0
   ·have hl1:l.length=1:=by
     have:=congrArg List.length x3
     rw [um,uk] at this;omega
    obtain ⟨u,rfl⟩:=List.length_eq_one_iff.1 hl1
    have hu:mV u.2.1=1:=by
     have h2:(fD n x)[0]'(by rw [um];exact hx0)=tt u:=by simp only [x3];rfl
     have h3:th x[0].2.1=mV u.2.1:=by
      have:=congrArg Prod.snd h2
      simpa [fD,tmR,tt] using this
     rw [<- h3]
     grind
    have hc0:CB 0 (tms [u]):=CB.single (t:=tt u) (by
     show Wd 0 (mV u.2.1)
     rw [hu];exact ⟨by decide,by decide⟩)
    exact fin (r:=1) (c:=0) ⟨F4,P1.ok,P1.srt,P1.eqv⟩ ⟨F3,x2.ok,x2.dst,x2.eqv⟩ hc0 F3 F3 (fun j _=>by rw [G.E8];omega) (hcv (sgn_nz c1))
   exact free tot' (hcv (sgn_nz' c1))
  exact free tot' (bT (decide_eq_true h6) (Ev.bind (a:=true) (bT (by simp;omega) (evs _)) (evs _)))
 exact fin P1 x2 B1 F3 F3 (fun j hj=>cnt4 j F3) (bF (decide_eq_false h6) (evs _))
end Go.Proofs.YtfbgaddecbiimaaGreatDoor.Q
end
section
namespace Go.Proofs.YtfbgaddecbiimaaGreatDoor.polyPowers
open Go.ChangeShapes Go.WideShapes Go.ChangeAt Go.RowKit
open Go.ChangeMaps (open_string shut_string)
open Go.Proofs.YtfbgaddecbiimaaGreatDoor.V Go.Proofs.YtfbgaddecbiimaaGreatDoor.E
theorem own:ownKnob Tryz.prog.godebug=none:=by kernel_rfl
theorem laidOut:laidOutB Tryz.prog=true:=by kernel_rfl
def CS:DataW Unit->Array Value
 | .agg l=>(l.map fun d=>match d with
  | .lit (.int k n)=>Value.int k n
  | _=>undef).toArray
 | _=>#[]
noncomputable def wI (os:Os):World :=
 let w0:=World.holding Tryz.prog os ⟨#[],#[],[]⟩
 { w0 with heap:=((w0.heap.modify 2 fun
  | .cells _ t frozen=>.cells (CS Rows.laid_math_bits_deBruijn32tab) t frozen
  | o=>o).modify 3 fun
  | .cells _ t frozen=>.cells (CS Rows.laid_math_bits_deBruijn64tab) t frozen
  | o=>o).modify 0 fun
  | .cells _ t frozen=>.cells (CS Rows.laid_internal_strconv_uint64pow10) t frozen
  | o=>o }
theorem laid_met (os:Os) (args:Array Value):laidMet Tryz.prog Rows.polyPowersRow.laid ((wI os).forCall (fun _ _=>0) ⟨#[],args,[]⟩).memory :=
 laidMet_of_run' 8 (by kernel_rfl) (by kernel_rfl)
theorem lifted (os:Os) (started:os.Started) (H:Type) (enc:TypeId×Value->H) :
 ReturnsInHanded {} Tryz.checked os 5 .any (fun w args=>(Rows.polyPowersSpec.pre enc Tryz.prog Tryz.f5 Rows.polyPowersRow.domain false w args/\laidMet Tryz.prog Rows.polyPowersRow.laid w)/\sizedMet enc Tryz.prog Tryz.f5 (OpenSpec.ofChange Rows.polyPowersSpec) false w args)
  (Rows.polyPowersSpec.post enc Tryz.prog Tryz.f5 false true false false):=by
 refine returnsInHanded_of_change_and (C:=Tryz.checked) (X:=fun w _=>laidMet Tryz.prog Rows.polyPowersRow.laid w) (fun _ _ _ hh h=>h.of_heap hh) own started (by kernel_rfl) Tryz.func5
  (ChangeSpec.witness_at (enc:=enc) (C:=Tryz.checked) (os:=os) (X:=fun w _=>laidMet Tryz.prog Rows.polyPowersRow.laid w) false (wI os) #[.agg #[.int .i64 0,.slice none 0 0],.int .i64 0] 8 rfl (by kernel_rfl) (by kernel_rfl) (by kernel_rfl) (by kernel_rfl) (by kernel_rfl) (laid_met os _)) ?_
 intro W base args ds gs before hval0 hW _ hsz0 hL _
 have hval:∀ (j:Nat) t v,Tryz.f5.params[j]?=some t->args[j]?=some v->Value.okWide Tryz.prog W .any base t v:=hval0
 have hW':=hW
 obtain ⟨p,q,hA0,hV,rfl,hfz,hnd⟩:=hW
 have hA:DataW.TrodAll enc Tryz.prog W 0 (fun _=>true) true Tryz.f5.params.toList args.toList ds p:=hA0
 rw [Tryz.params5] at hA hval
 obtain ⟨v0,vs0,d0,ds0,p0,q0,hargs,rfl,rfl,h0,r0⟩:=trodAll_cons hA
 obtain ⟨v1,vs1,d1,ds1,p1,q1,rfl,rfl,rfl,h1,r1⟩:=trodAll_cons r0
 obtain ⟨rfl,rfl,rfl⟩:=trodAll_nil r1
 obtain rfl:args = #[v0,v1]:=by cases args;simp_all
 obtain ⟨rfl,rfl⟩:=trodVars_none hV
 have k0:=h0
 have lt0:∀ x∈p0,x.block<W.heap.size:=by obtain ⟨m,hm⟩:=k0;exact DataW.trod_lt m _ _ _ hm
 obtain ⟨y0,f0,g0⟩:=Fu Q.C2 (n:=16) (t:=24) (c:=ah) (by kernel_rfl) (by kernel_rfl) (hval 0 24 v0 rfl rfl) h0
 have k1:=h1
 have lt1:∀ x∈p1,x.block<W.heap.size:=by obtain ⟨m,hm⟩:=k1;exact DataW.trod_lt m _ _ _ hm
 obtain ⟨y1,f1,g1⟩:=Fu Q.C2 (n:=16) (t:=3) (c:=(.int .i64)) (by kernel_rfl) (by kernel_rfl) (hval 1 3 v1 rfl rfl) h1
 clear hA0 hval0 hsz0
 obtain ⟨k,hk⟩:=(Q.sW y1 (Q.arg_poly f0)).rounds
 obtain ⟨_,pv,hp,hF⟩:=(Aq Q.C2 orc_ok Q.mixed Q.noGo k).fn 5 [.v ah y0,.v (.int .i64) y1] true rfl hk
 obtain rfl:=Option.some.inj hp
 refine (hF (fun b=>b<W.heap.size) W #[v0,v1] (fun b h=>h) rfl (fun i h=>?_)).mono fun e W' ⟨v,he,bel,hv⟩=>?_
 ·match i,h with
  | 0,h=>exact g0
  | 1,h=>exact g1
  | i+2,h=>exact absurd h (by simp only [List.length_map,List.length_cons,List.length_nil];omega)
 have hb:=fT hv
 subst hb
 subst he
 exact ⟨_,rfl,_,_,_,[],_,[],hW',trodAll_mk1 (shut_bool Tryz.underlying4 _),(trodAll_cons_mk (Below.trod laidOut (by kernel_rfl) (of_decide_eq_true (by kernel_rfl)) k0 bel lt0) (trodAll_cons_mk (Below.trod laidOut (by kernel_rfl) (of_decide_eq_true (by kernel_rfl)) k1 bel lt1) trodAll_mk0)),rfl,bel.frame _,fun h=>by cases h⟩
theorem over:Rows.polyPowersRow.holds Tryz.pinned (OpenSpec.ofChange Rows.polyPowersSpec) :=
 OpenClaim.holds_of_wide 5 Tryz.f5 rfl rfl rfl rfl rfl rfl rfl ⟨rfl,rfl,rfl,rfl,rfl⟩ rfl rfl rfl rfl rfl (by kernel_rfl) Tryz.func5 (by kernel_rfl)
  (of_decide_eq_true (by kernel_rfl)) (by unfold Func.isWrapper;first | (rw [if_pos (by decide +kernel)];kernel_rfl) | (rw [if_neg (by decide +kernel)];exact ⟨rfl,rfl⟩))
  (fun os started H enc _=>lifted os started H enc)
theorem proved:Rows.PolyPowersCardSaid :=
 Claim7.holds_tied_plain_at .later [] [.data,.data,.data] true (true,"7c1c4094e72754773423f799c4afd1ed3b246fc2b5dc0deefca3ede80156512f") false
  over (fun _ h=>by cases h) (by kernel_rfl) (fun _ h=>by cases h) polyPowers_row_tie rfl ⟨rfl,rfl⟩ (by kernel_rfl) rfl
  (fun f fn hf hfn=>by
   obtain rfl:f=5:=Option.some.inj ((show Tryz.prog.funcNamed "isochrone/isochronelaw03.PolyPowers" = some 5 by kernel_rfl).symm.trans hf) |>.symm
   obtain rfl:fn=Tryz.f5:=(Option.some.inj (Tryz.func5.symm.trans hfn)).symm
   exact ⟨by kernel_rfl,fun j t ht=>by
    rw [Tryz.params5] at ht
    have ht2:t=24∨t=3:=by
     match j,ht with
     | 0,ht=>simp at ht;subst ht;simp
     | 1,ht=>simp at ht;subst ht;simp
     | j+2,ht=>simp at ht
    rcases ht2 with rfl | rfl
    ·exact (show Tryz.prog.wantsStandIn 24=false by kernel_rfl)
    exact (show Tryz.prog.wantsStandIn 3=false by kernel_rfl)⟩)
  (by kernel_rfl)
#print axioms proved
end Go.Proofs.YtfbgaddecbiimaaGreatDoor.polyPowers
namespace Go.Proofs.YtfbgaddecbiimaaGreatDoor
theorem polyPowers_holds:Rows.PolyPowersCardSaid:=polyPowers.proved
end Go.Proofs.YtfbgaddecbiimaaGreatDoor
end
