/- what Const, Var, Degree, DegreeIn, Coef and Deriv return, and that an index out of range is refused (the last of 6 texts). No condition beyond the statement's own. -/
import Derived.Test.YtfbgaddecbiimaaGreatDoorPParts5
set_option linter.unusedSimpArgs false
set_option linter.unusedSectionVars false
set_option linter.unusedVariables false
set_option maxRecDepth 100000
set_option maxHeartbeats 4000000
section
namespace Go.Proofs.YtfbgaddecbiimaaGreatDoor.Q
open Go.RowKit Go.Proofs.YtfbgaddecbiimaaGreatDoorW.PrintWords Go.Proofs.YtfbgaddecbiimaaGreatDoorW.PrintMore Go.Proofs.YtfbgaddecbiimaaGreatDoor.V Go.Proofs.YtfbgaddecbiimaaGreatDoor.E
open Go.Proofs.YtfbgaddecbiimaaGreatDoor.P (Dg Nm vl WW RR bG gI evs evk evb fz aQ bE bj w64 u64)
section
variable {a b:bb}
def FewW (p:bb):Prop:=p.2.1.length<=9223372036854775807/\∀ i,i<p.2.1.length->(tmA p i).1.length<=9223372036854775807/\(tmA p i).2.1.2.1.length<4611686018427387904/\(tmA p i).2.1.2.2.1.length<4611686018427387904
theorem vz (hf:FewW a):Ev (fun k=>aG k a b) (dc (a.1=b.1/\a.2.1=b.2.1)):=by
 obtain ⟨hlen,hfw⟩:=hf
 by_cases c1:a.1=b.1
 ·by_cases c2:a.2.1.length=b.2.1.length
  ·refine Ev.step (fun k=>eJ k a b) (Ev.bind (a:=false) (bF (by simp [c1]) (by rw [show ((List.length a.2.1:Int) != (List.length b.2.1:Int))=false by simp [c2]];exact evs _)) (bF rfl (Ev2.diag (g:=fun k m=>aG.l0 k m a.2.1 (a.2.1.length:Int) (0:Int) b) ?_)))
   have bad:∀ i,i<a.2.1.length->tmA a i≠tmA b i->dc (a.1=b.1/\a.2.1=b.2.1)=false:=fun i hi h=>dB (fun g=>h (by show rdT (t:=ai) a.2.1 (i:Int)=rdT (t:=ai) b.2.1 (i:Int);rw [g.2]))
   have main:=dnw (n:=a.2.1.length) (P:=fun i=>(∀ j,j<i->tmA a j=tmA b j)->Ev2 (fun k m=>aG.l0 k m a.2.1 (a.2.1.length:Int) (i:Int) b) (dc (a.1=b.1/\a.2.1=b.2.1))) ?_ ?_ 0 (Nat.zero_le _) (fun j h=>F3)
   ·exact main
   ·intro hg
    rw [fF ⟨c1,List.ext_getElem c2 (fun i h1 h2=>by
     have:=hg i h1
     rw [show tmA a i=a.2.1[i] from cX h1,show tmA b i=b.2.1[i] from cX h2] at this
     exact this)⟩]
    exact Ev2.step (fun k m=>aG.ba k m _ _ _ _) (Ev2.bF (decide_eq_false F3) (Ev2.of (evs _)))
   intro i hi ih hg
   obtain ⟨f1,f2,f3⟩:=hfw i hi
   refine Ev2.step (fun k m=>aG.ba k m _ _ _ _) (Ev2.bT (decide_eq_true F3) (Ev2.iT F3 (Ev2.iT F3 ?_)))
   by_cases d1:(tmA a i).1.length=(tmA b i).1.length
   ·have hs:=xr (tmA a i).2.1 (tmA b i).2.1 f2 f3
    by_cases d2:(tmA a i).2.1=(tmA b i).2.1
    ·rw [decide_eq_true d2] at hs
     refine Ev2.bind (a:=false) (bF (by simp [d1]) (Ev.bind hs (evs _))) (Ev2.bF rfl ?_)
     have key:=dnw (n:=(tmA a i).1.length) (P:=fun j=>(∀ j' (h:j'<(tmA a i).1.length) (h':j'<(tmA b i).1.length),j'<j->(tmA a i).1[j']=(tmA b i).1[j'])->Ev3 (fun k m1 m0=>aG.l1 k m1 m0 a.2.1 (a.2.1.length:Int) (i:Int) ((tmA a i).1.length:Int) (j:Int) b (tmA a i) (tmA b i)) (dc (a.1=b.1/\a.2.1=b.2.1))) ?_ ?_ 0 (Nat.zero_le _) (fun j' _ _ h=>F3)
     ·exact key.diag
     ·intro hj
      have e:(tmA a i).1=(tmA b i).1:=List.ext_getElem d1 (fun j h1 h2=>hj j h1 h2 h1)
      have et:tmA a i=tmA b i:=Prod.ext e (Prod.ext d2 rfl)
      refine Ev3.step (fun k m1 m0=>aG.iM k m1 m0 _ _ _ _ _ _ _ _) (Ev3.bF (decide_eq_false F3) (Ev3.of ?_))
      rw [mr F3]
      exact ih (fun j h=>by
       by_cases c:j=i
       ·rw [c];exact et
       exact hg j F3)
     intro j hj ihj hgj
     have hj':j<(tmA b i).1.length:=F3
     have e1:(rdT (t:=(.int .i64)) (tmA a i).1 (j:Int):Int)=(tmA a i).1[j]:=cX hj
     have e2:(rdT (t:=(.int .i64)) (tmA b i).1 (j:Int):Int)=(tmA b i).1[j]:=cX hj'
     refine Ev3.step (fun k m1 m0=>aG.iM k m1 m0 _ _ _ _ _ _ _ _) (Ev3.bT (decide_eq_true F3) (Ev3.iT F3 (Ev3.iT F3 ?_)))
     rw [e1,e2]
     by_cases g:(tmA a i).1[j]=(tmA b i).1[j]
     ·refine Ev3.bF (by simp [g]) ?_
      rw [mr F3]
      exact ihj (fun j' h1 h2 h3=>by
       by_cases c:j'=j
       ·subst c;exact g
       exact hgj j' h1 h2 F3)
     rw [bad i hi (fun e=>g (by simp only [e]))]
     exact Ev3.bT (by simp [g]) (Ev3.of (Ev2.of (evs _)))
    rw [decide_eq_false d2] at hs
    rw [bad i hi (fun e=>d2 (by rw [e]))]
    exact Ev2.bind (a:=true) (bF (by simp [d1]) (Ev.bind hs (evs _))) (Ev2.bT rfl (Ev2.of (evs _)))
   rw [bad i hi (fun e=>d1 (by rw [e]))]
   exact Ev2.bind (a:=true) (bT (show (((tmA a i).1.length:Int) != ((tmA b i).1.length:Int))=true by rw [bne_iff_ne];omega) (evs _)) (Ev2.bT rfl (Ev2.of (evs _)))
  rw [dB (fun h=>c2 (by rw [h.2]))]
  exact Ev.step (fun k=>eJ k a b) (Ev.bind (a:=true) (bF (by simp [c1]) (by rw [show ((List.length a.2.1:Int) != (List.length b.2.1:Int))=true by simp;omega];exact evs _)) (bT rfl (evs _)))
 rw [dB (fun h=>c1 h.1)]
 exact Ev.step (fun k=>eJ k a b) (Ev.bind (a:=true) (bT (by simp [c1]) (evs _)) (bT rfl (evs _)))
end
abbrev rtA (r:List aB) (i:Nat):aB:=rdT (t:=af) r (i:Int)
structure RefT (r:List aB) (toC:Nat->cD):Prop where
 few:r.length<=100000
 len:∀ i,i<r.length->(rtA r i).1.length=8
 ne:∀ i j,i<r.length->j<r.length->i≠j->(rtA r i).1≠(rtA r j).1
 co:∀ i,i<r.length->Ev (fun k=>dE k (rtA r i).2.1) (toC i)
noncomputable def toG (r:List aB) (toC:Nat->cD) (n:Nat) (i:Nat):aB:=((rtA r i).1.take n,toC i,())
def gtE (a b:List Int):Prop:=eC a b>0
theorem zL {a b:List Int} (h:a.length=b.length) (hn:a≠b):gtE a b∨gtE b a:=by
 have h1:=yq h hn
 have h2:=lC a b h
 unfold gtE
 omega
section
variable {r:List aB} {toC:Nat->cD} {n:Nat}
def Best (r:List aB) (ch:List Nat) (j:Nat) (b:Int):Prop:=(b = -1/\∀ j',j'<j->j'∈ch)∨∃ b':Nat,b=(b':Int)/\b'<j/\b' ∉ ch/\∀ j',j'<j->j' ∉ ch->j'≠b'->gtE (rtA r b').1 (rtA r j').1
theorem done_at {len:Nat} {ch:List Nat} {j:Nat} (h:j<len):(rdT (t:=.bool) ((List.range len).map fun i=>decide (i∈ch)) (j:Int):Bool)=decide (j∈ch):=by
 have:(rdT (t:=.bool) ((List.range len).map fun i=>decide (i∈ch)) (j:Int):Bool)=((List.range len).map fun i=>decide (i∈ch))[j]'(by simpa using h):=cX (by simpa using h)
 rw [this];simp
theorem done_set {len:Nat} {ch:List Nat} {b:Nat} (h:b<len):((List.range len).map fun i=>decide (i∈ch)).set b true=(List.range len).map fun i=>decide (i∈ch++[b]):=by
 apply List.ext_getElem F4
 intro i h1 h2
 simp only [List.getElem_set,List.getElem_map,List.getElem_range,List.mem_append,List.mem_singleton]
 by_cases c:b=i
 ·rw [if_pos c];simp [c]
 rw [if_neg c];simp;intro e;exact absurd e.symm c
theorem sU:∀ (l l':List Nat),l.Nodup->l'.Nodup->(∀ x,x∈l->x∈l')->l.length=l'.length->l.Perm l'
 | [],l',_,_,_,hl=>by
  have:l'=[]:=List.length_eq_zero_iff.1 hl.symm
  rw [this]
 | a :: l,l',h,h',hs,hl=>by
  have ha:=hs a F4
  obtain ⟨h1,h2⟩:=List.nodup_cons.1 h
  have hp:=List.perm_cons_erase ha
  refine (List.Perm.cons a (sU l (l'.erase a) h2 (h'.erase a) (fun x hx=>?_) ?_)).trans hp.symm
  ·have hne:x≠a:=fun e=>h1 (e ▸ hx)
   exact (List.mem_erase_of_ne hne).2 (hs x (by simp [hx]))
  rw [List.length_erase_of_mem ha,<- hl];simp
theorem Es (hr:RefT r toC) (ch:List Nat):∀ j,j<=r.length->∃ b,Best r ch j b
 | 0,_=>⟨-1,.inl ⟨rfl,fun j' h=>F3⟩⟩
 | j+1,hj=>by
  obtain ⟨b,hb⟩:=Es hr ch j F3
  have hjl:j<r.length:=F3
  by_cases cj:j∈ch
  ·refine ⟨b,?_⟩
   rcases hb with ⟨rfl,hall⟩ | ⟨b',rfl,b1,b2,b3⟩
   ·exact .inl ⟨rfl,fun j' h=>by
     by_cases c:j'=j
     ·rw [c];exact cj
     exact hall j' F3⟩
   exact .inr ⟨b',rfl,F3,b2,fun j' h1 h2 h3=>b3 j' (by
    by_cases c:j'=j
    ·exact absurd (by rw [c];exact cj) h2
    omega) h2 h3⟩
  rcases hb with ⟨rfl,hall⟩ | ⟨b',rfl,b1,b2,b3⟩
  ·exact ⟨(j:Int),.inr ⟨j,rfl,F3,cj,fun j' h1 h2 h3=>absurd (hall j' F3) h2⟩⟩
  have hb':b'<r.length:=F3
  have hlj:=hr.len j hjl
  have hlb:=hr.len b' hb'
  rcases zL (hlj.trans hlb.symm) (hr.ne j b' hjl hb' F3) with g | g
  ·refine ⟨(j:Int),.inr ⟨j,rfl,F3,cj,fun j' h1 h2 h3=>?_⟩⟩
   by_cases c:j'=b'
   ·rw [c];exact g
   exact jx _ _ _ g (b3 j' F3 h2 c) (hlj.trans hlb.symm) (hlb.trans (hr.len j' F3).symm)
  refine ⟨(b':Int),.inr ⟨b',rfl,F3,b2,fun j' h1 h2 h3=>?_⟩⟩
  by_cases c:j'=j
  ·rw [c];exact g
  exact b3 j' F3 h2 h3
theorem To_inner (hr:RefT r toC) (hn:n<=8) (ch:List Nat) (hc:∀ c∈ch,c<r.length) (hnd:ch.Nodup) (hlt:ch.length<r.length) {R:bb}
 (h:∀ b,b<r.length->b ∉ ch->(∀ j',j'<r.length->j' ∉ ch->j'≠b->gtE (rtA r b).1 (rtA r j').1)->Ev2 (fun k m=>aN.l0 k m r (n:Int) (r.length:Int) ((ch.length+1:Nat):Int) ((0:Int),[],()) (n:Int) ((ch++[b]).map (toG r toC n)) ((List.range r.length).map fun i=>decide (i∈ch++[b]))) R) :
 Ev2 (fun k m0=>aN.l1 k k m0 r (n:Int) (-1:Int) (r.length:Int) (ch.length:Int) r (r.length:Int) (0:Int) ((0:Int),[],()) (n:Int) (ch.map (toG r toC n)) ((List.range r.length).map fun i=>decide (i∈ch))) R:=by
 have hfew:=hr.few
 have key:=dnw (n:=r.length) (P:=fun j=>∀ b,Best r ch j b->Ev3 (fun k m1 m0=>aN.l1 k m1 m0 r (n:Int) b (r.length:Int) (ch.length:Int) r (r.length:Int) (j:Int) ((0:Int),[],()) (n:Int) (ch.map (toG r toC n)) ((List.range r.length).map fun i=>decide (i∈ch))) R) ?_ ?_ 0 (Nat.zero_le _) (-1) (.inl ⟨rfl,fun j' h=>F3⟩)
 ·exact key.diag
 ·intro b hb
  rcases hb with ⟨rfl,hall⟩ | ⟨b',rfl,b1,b2,b3⟩
  ·exfalso
   have hsub:List.range r.length ⊆ ch:=fun i hi=>hall i (List.mem_range.1 hi)
   have:=(List.nodup_range (n:=r.length)).length_le_of_subset hsub
   rw [List.length_range] at this
   omega
  have hlen8:=hr.len b' b1
  have ep:fR (0:Int) 8 (rtA r b').1=(rtA r b').1:=by rw [cp _ _ _ F3,hlen8];simp
  refine Ev3.step (fun k m1 m0=>aN.iM k m1 m0 _ _ _ _ _ _ _ _ _ _ _ _) (Ev3.bF (decide_eq_false F3) (Ev3.iT (by simp;omega) (Ev3.iT F3 (Ev3.iT F3 (Ev3.iT ?_ (Ev3.iT F3 (Ev3.bind (hr.co b' b1) (Ev3.iT ?_ (Ev3.of ?_)))))))))
  ·have:(List.take (Int.toNat (n:Int)) (fR (0:Int) 8 (rdT (t:=af) r (b':Int):aB).1)).length<=8:=by rw [List.length_take,df];omega
   show (0+_)*8<=_
   omega
  ·rw [List.length_map];simp only [List.length_cons,List.length_nil];omega
  have:=h b' b1 b2 b3
  rw [mr F3]
  have e1:((([]:List Int)++(List.take (Int.toNat (n:Int)) (fR (0:Int) 8 ((rdT (t:=af) r (b':Int):aB).1))),toC b',()):aB)=toG r toC n b':=by
   show (([]:List Int)++List.take n (fR (0:Int) 8 (rtA r b').1),toC b',())=_
   rw [ep];rfl
  rw [e1,Int.toNat_natCast,done_set b1]
  rw [show ch.map (toG r toC n)++[toG r toC n b']=(ch++[b']).map (toG r toC n) by simp]
  exact this
 intro j hj ih b hb
 refine Ev3.step (fun k m1 m0=>aN.iM k m1 m0 _ _ _ _ _ _ _ _ _ _ _ _) (Ev3.bT (decide_eq_true F3) (Ev3.iT F3 (Ev3.iT (by simp;omega) ?_)))
 rw [done_at hj]
 have take_:Best r ch (j+1) (j:Int)->Ev3 (fun k m1 m0=>aN.j0 k m0 m1 r (n:Int) (j:Int) (r.length:Int) (ch.length:Int) r (r.length:Int) (j:Int) ((0:Int),[],()) (n:Int) (ch.map (toG r toC n)) ((List.range r.length).map fun i=>decide (i∈ch))) R:=fun g=>by
  show Ev3 (fun k m1 m0=>aN.l1 k m1 m0 r (n:Int) (j:Int) (r.length:Int) (ch.length:Int) r (r.length:Int) (wrap64 ((j:Int)+(1:Int))) ((0:Int),[],()) (n:Int) (ch.map (toG r toC n)) ((List.range r.length).map fun i=>decide (i∈ch))) R
  rw [mr F3]
  exact ih _ g
 have keep_:Best r ch (j+1) b->Ev3 (fun k m1 m0=>aN.j0 k m0 m1 r (n:Int) b (r.length:Int) (ch.length:Int) r (r.length:Int) (j:Int) ((0:Int),[],()) (n:Int) (ch.map (toG r toC n)) ((List.range r.length).map fun i=>decide (i∈ch))) R:=fun g=>by
  show Ev3 (fun k m1 m0=>aN.l1 k m1 m0 r (n:Int) b (r.length:Int) (ch.length:Int) r (r.length:Int) (wrap64 ((j:Int)+(1:Int))) ((0:Int),[],()) (n:Int) (ch.map (toG r toC n)) ((List.range r.length).map fun i=>decide (i∈ch))) R
  rw [mr F3]
  exact ih _ g
 by_cases cj:j∈ch
 ·rw [decide_eq_true cj]
  refine Ev3.bind (a:=false) (bF rfl (evs _)) (Ev3.bF rfl (keep_ ?_))
  rcases hb with ⟨rfl,hall⟩ | ⟨b',rfl,b1,b2,b3⟩
  ·exact .inl ⟨rfl,fun j' h=>by
    by_cases c:j'=j
    ·rw [c];exact cj
    exact hall j' F3⟩
  exact .inr ⟨b',rfl,F3,b2,fun j' h1 h2 h3=>b3 j' (by
   by_cases c:j'=j
   ·exact absurd (by rw [c];exact cj) h2
   omega) h2 h3⟩
 rw [decide_eq_false cj]
 rcases hb with ⟨rfl,hall⟩ | ⟨b',rfl,b1,b2,b3⟩
 ·refine Ev3.bind (a:=true) (bT rfl (Ev.bind (a:=true) (bT rfl (evs _)) (evs _))) (Ev3.bT rfl (take_ ?_))
  exact .inr ⟨j,rfl,F3,cj,fun j' h1 h2 h3=>absurd (hall j' F3) h2⟩
 have hb':b'<r.length:=F3
 have hbf:=mR (rtA r j).1 (rtA r b').1 (hr.len j hj) (hr.len b' hb')
 have hlj:=hr.len j hj
 have hlb:=hr.len b' hb'
 have e0:Ev (fun k=>(bif decide ((b':Int)<(0:Int)) then some true else if 0<=(b':Int)/\(b':Int)<(List.length r:Int) then (bm k ((rdT (t:=af) r (j:Int):aB).1) ((rdT (t:=af) r (b':Int):aB).1)).bind fun (v1:Bool)=>some v1 else none)) (decide (eC (rtA r j).1 (rtA r b').1>0)) :=
  bF (decide_eq_false F3) (iT F3 (Ev.bind hbf (evs _)))
 by_cases g:eC (rtA r j).1 (rtA r b').1>0
 ·rw [decide_eq_true g] at e0
  refine Ev3.bind (a:=true) (bT rfl (Ev.bind e0 (evs _))) (Ev3.bT rfl (take_ (.inr ⟨j,rfl,F3,cj,fun j' h1 h2 h3=>?_⟩)))
  by_cases c:j'=b'
  ·rw [c];exact g
  exact jx _ _ _ g (b3 j' F3 h2 c) (hlj.trans hlb.symm) (hlb.trans (hr.len j' F3).symm)
 rw [decide_eq_false g] at e0
 refine Ev3.bind (a:=false) (bT rfl (Ev.bind e0 (evs _))) (Ev3.bF rfl (keep_ (.inr ⟨b',rfl,F3,b2,fun j' h1 h2 h3=>?_⟩)))
 by_cases c:j'=j
 ·rw [c]
  rcases zL (hlb.trans hlj.symm) (hr.ne b' j hb' hj F3) with h | h
  ·exact h
  exact absurd h g
 exact b3 j' F3 h2 h3
theorem ref_To3 (hr:RefT r toC) (hn:n<=8):∃ ch:List Nat,ch.Perm (List.range r.length)/\(ch.Pairwise fun a b=>gtE (rtA r a).1 (rtA r b).1)/\Ev (fun k=>aN k r (n:Int)) ((n:Int),ch.map (toG r toC n),()):=by
 have hfew:=hr.few
 have main:=dnw (n:=r.length) (P:=fun i=>∀ ch:List Nat,ch.length=i->ch.Nodup->(∀ c∈ch,c<r.length)->(ch.Pairwise fun a b=>gtE (rtA r a).1 (rtA r b).1)->(∀ c∈ch,∀ j,j<r.length->j ∉ ch->gtE (rtA r c).1 (rtA r j).1) ->
  ∃ ch':List Nat,ch'.Perm (List.range r.length)/\(ch'.Pairwise fun a b=>gtE (rtA r a).1 (rtA r b).1)/\Ev2 (fun k m=>aN.l0 k m r (n:Int) (r.length:Int) (i:Int) ((0:Int),[],()) (n:Int) (ch.map (toG r toC n)) ((List.range r.length).map fun i=>decide (i∈ch))) ((n:Int),ch'.map (toG r toC n),())) ?_ ?_ 0 (Nat.zero_le _) [] rfl List.nodup_nil (fun c h=>by cases h) .nil (fun c h=>by cases h)
 ·obtain ⟨ch,h1,h2,h3⟩:=main
  refine ⟨ch,h1,h2,Ev.step (fun k=>lF k r _) (iT (by unfold maxLen;omega) ?_)⟩
  have e:(List.replicate (Int.toNat (List.length r:Int)) (false:Bool))=(List.range r.length).map fun i=>decide (i∈([]:List Nat)):=by
   rw [Int.toNat_natCast]
   apply List.ext_getElem F4
   intro i h1 h2
   simp
  rw [e]
  exact h3.diag
 ·intro ch h1 h2 h3 h4 h5
  refine ⟨ch,?_,h4,Ev2.step (fun k m=>aN.ba k m _ _ _ _ _ _ _ _) (Ev2.bF (decide_eq_false F3) (Ev2.of (evs _)))⟩
  exact sU _ _ h2 List.nodup_range (fun c hc=>List.mem_range.2 (h3 c hc)) (by rw [List.length_range,h1])
 intro i hi ih ch h1 h2 h3 h4 h5
 subst h1
 have step:∀ b,b<r.length->b ∉ ch->(∀ j',j'<r.length->j' ∉ ch->j'≠b->gtE (rtA r b).1 (rtA r j').1)->∃ ch':List Nat,ch'.Perm (List.range r.length)/\(ch'.Pairwise fun a b=>gtE (rtA r a).1 (rtA r b).1)/\Ev2 (fun k m=>aN.l0 k m r (n:Int) (r.length:Int) ((ch.length+1:Nat):Int) ((0:Int),[],()) (n:Int) ((ch++[b]).map (toG r toC n)) ((List.range r.length).map fun i=>decide (i∈ch++[b]))) ((n:Int),ch'.map (toG r toC n),()):=fun b b1 b2 b3=>by
  refine ih (ch++[b]) F4 (List.nodup_append.2 ⟨h2,F4,fun a ha c hc=>by simp at hc;subst hc;exact fun e=>b2 (e ▸ ha)⟩) (fun c hc=>?_) (List.pairwise_append.2 ⟨h4,F4,fun a ha c hc=>by simp at hc;subst hc;exact h5 a ha _ b1 b2⟩) (fun c hc j hj hnj=>?_)
  ·simp only [List.mem_append,List.mem_singleton] at hc
   rcases hc with hc | rfl
   ·exact h3 c hc
   exact b1
  simp only [List.mem_append,List.mem_singleton,not_or] at hc hnj
  rcases hc with hc | rfl
  ·exact h5 c hc j hj hnj.1
  exact b3 j hj hnj.1 hnj.2
 have ex:∃ b,b<r.length/\b ∉ ch/\(∀ j',j'<r.length->j' ∉ ch->j'≠b->gtE (rtA r b).1 (rtA r j').1):=by
  obtain ⟨b,hb⟩:=Es hr ch r.length (Nat.le_refl _)
  rcases hb with ⟨rfl,hall⟩ | ⟨b',rfl,b1,b2,b3⟩
  ·exfalso
   have hsub:List.range r.length ⊆ ch:=fun i hi=>hall i (List.mem_range.1 hi)
   have:=(List.nodup_range (n:=r.length)).length_le_of_subset hsub
   rw [List.length_range] at this
   omega
  exact ⟨b',b1,b2,b3⟩
 obtain ⟨b,b1,b2,b3⟩:=ex
 obtain ⟨ch',c1,c2,c3⟩:=step b b1 b2 b3
 refine ⟨ch',c1,c2,Ev2.step (fun k m=>aN.ba k m _ _ _ _ _ _ _ _) (Ev2.bT (decide_eq_true F3) (To_inner hr hn ch h3 h2 hi (fun b' g1 g2 g3=>?_)))⟩
 have e:b'=b:=by
  apply Classical.byContradiction
  intro hne
  have a1:=g3 b b1 b2 (fun e=>hne e.symm)
  have a2:=b3 b' g1 g2 hne
  have:=lC (rtA r b).1 (rtA r b').1 ((hr.len b b1).trans (hr.len b' g1).symm)
  unfold gtE at a1 a2
  omega
 subst e
 exact c3
end
end Go.Proofs.YtfbgaddecbiimaaGreatDoor.Q
end
section
namespace Go.Proofs.YtfbgaddecbiimaaGreatDoor.G
abbrev Ex:=List Int
abbrev Tm:=Ex×Rat
def lin (m:Ex->Rat):List Tm->Rat
 | []=>0
 | t :: l=>t.2*m t.1+lin m l
def dl (e:Ex):Ex->Rat:=fun f=>if f=e then 1 else 0
def co (l:List Tm) (e:Ex):Rat:=lin (dl e) l
def Eqv (p q:List Tm):Prop:=∀ m,lin m p=lin m q
theorem Eqv.refl (p:List Tm):Eqv p p:=fun _=>rfl
theorem Eqv.symm {p q:List Tm} (h:Eqv p q):Eqv q p:=fun m=>(h m).symm
theorem Eqv.trans {p q r:List Tm} (h:Eqv p q) (h':Eqv q r):Eqv p r:=fun m=>(h m).trans (h' m)
theorem tc (m:Ex->Rat):∀ p q,lin m (p++q)=lin m p+lin m q
 | [],q=>by simp only [List.nil_append,lin];grind
 | t :: p,q=>by
  have h:=tc m p q
  simp only [List.cons_append,lin,h]
  grind
theorem pI (m:Ex->Rat) {p q:List Tm} (h:p.Perm q):lin m p=lin m q:=by
 induction h with
 | nil=>rfl
 | cons t _ ih=>simp only [lin,ih]
 | swap a b l=>simp only [lin];grind
 | trans _ _ h1 h2=>exact h1.trans h2
theorem Eg (e:Ex):co [] e=0:=rfl
theorem rz (t:Tm) (l:List Tm) (e:Ex):co (t :: l) e=(if t.1=e then t.2 else 0)+co l e:=by
 simp only [co,lin,dl]
 split<;>grind
theorem zZ {e:Ex}:∀ {l:List Tm},(∀ t∈l,t.1≠e)->co l e=0
 | [],_=>rfl
 | t :: l,h=>by
  rw [rz,zZ (fun u hu=>h u (List.mem_cons_of_mem _ hu)),if_neg (h t (List.mem_cons_self ..))]
  grind
def neg (l:List Tm):List Tm:=l.map fun t=>(t.1,-t.2)
theorem Eqv.co {p q:List Tm} (h:Eqv p q) (e:Ex):co p e=co q e:=h _
def gtE:Ex->Ex->Bool
 | a :: l,b :: k=>if a=b then gtE l k else decide (a>b)
 | _,_=>false
theorem ob:∀ a,gtE a a=false
 | []=>rfl
 | a :: l=>by rw [gtE,if_pos rfl];exact ob l
theorem qX:∀ {a b c:Ex},gtE a b=true->gtE b c=true->gtE a c=true
 | [],_,_,h,_=>by simp [gtE] at h
 | _ :: _,[],_,h,_=>by simp [gtE] at h
 | _ :: _,_ :: _,[],_,h=>by simp [gtE] at h
 | a :: l,b :: k,c :: j,h,h'=>by
  rw [gtE] at h h' ⊢
  by_cases e:a=b
  ·rw [if_pos e] at h
   by_cases e':b=c
   ·rw [if_pos e'] at h'
    rw [if_pos (e.trans e')]
    exact qX h h'
   rw [if_neg e'] at h'
   rw [if_neg (by rw [e];exact e')]
   rw [e];exact h'
  rw [if_neg e] at h
  have h1:a>b:=by simpa using h
  by_cases e':b=c
  ·rw [if_neg (by rw [<- e'];exact e)]
   rw [<- e'];exact h
  rw [if_neg e'] at h'
  have h2:b>c:=by simpa using h'
  rw [if_neg F3]
  simp;omega
theorem DR {a b:Ex} (h:gtE a b=true):gtE b a=false:=by
 cases e:gtE b a with
 | false=>rfl
 | true=>have:=qX h e;rw [ob] at this;cases this
theorem gtE_ne {a b:Ex} (h:gtE a b=true):a≠b:=fun e=>by rw [e,ob] at h;cases h
def addE (a b:Ex):Ex:=List.zipWith (· + ·) a b
theorem EJ:∀ {a b c:Ex},a.length=c.length->b.length=c.length->gtE a b=true->gtE (addE a c) (addE b c)=true
 | [],_,_,_,_,h=>by simp [gtE] at h
 | _ :: _,[],_,_,_,h=>by simp [gtE] at h
 | _ :: _,_ :: _,[],h,_,_=>by simp at h
 | a :: l,b :: k,c :: j,h1,h2,h=>by
  rw [gtE] at h
  simp only [addE,List.zipWith_cons_cons]
  rw [gtE]
  by_cases e:a=b
  ·rw [if_pos e] at h
   rw [if_pos (by rw [e])]
   exact EJ (by simpa using h1) (by simpa using h2) h
  rw [if_neg e] at h
  have:a>b:=by simpa using h
  rw [if_neg F3]
  simp;omega
theorem Ag:∀ {a b c:Ex},a.length=c.length->b.length=c.length->addE a c=addE b c->a=b
 | [],[],_,_,_,_=>rfl
 | [],_ :: _,c,h1,h2,_=>by rw [<- h1] at h2;simp at h2
 | _ :: _,[],c,h1,h2,_=>by rw [<- h2] at h1;simp at h1
 | _ :: _,_ :: _,[],h,_,_=>by simp at h
 | a :: l,b :: k,c :: j,h1,h2,h=>by
  simp only [addE,List.zipWith_cons_cons,List.cons.injEq] at h
  have:=Ag (a:=l) (b:=k) (c:=j) (by simpa using h1) (by simpa using h2) h.2
  rw [this,show a=b by omega]
structure Srt (n:Nat) (l:List Tm):Prop where
 ord:l.Pairwise fun a b=>gtE a.1 b.1=true
 nz:∀ t∈l,t.2≠0
 len:∀ t∈l,t.1.length=n
structure Dst (n:Nat) (l:List Tm):Prop where
 ne:l.Pairwise fun a b=>a.1≠b.1
 nz:∀ t∈l,t.2≠0
 len:∀ t∈l,t.1.length=n
theorem Srt.dst {n:Nat} {l:List Tm} (h:Srt n l):Dst n l:=⟨h.ord.imp gtE_ne,h.nz,h.len⟩
theorem Srt.nil (n:Nat):Srt n []:=⟨.nil,(fun _ h=>by simp at h),(fun _ h=>by simp at h)⟩
theorem Dst.nil (n:Nat):Dst n []:=⟨.nil,(fun _ h=>by simp at h),(fun _ h=>by simp at h)⟩
theorem Srt.tail {n:Nat} {t:Tm} {l:List Tm} (h:Srt n (t :: l)):Srt n l :=
 ⟨(List.pairwise_cons.1 h.ord).2,(fun u hu=>h.nz u (List.mem_cons_of_mem _ hu)),(fun u hu=>h.len u (List.mem_cons_of_mem _ hu))⟩
theorem Dst.tail {n:Nat} {t:Tm} {l:List Tm} (h:Dst n (t :: l)):Dst n l :=
 ⟨(List.pairwise_cons.1 h.ne).2,(fun u hu=>h.nz u (List.mem_cons_of_mem _ hu)),(fun u hu=>h.len u (List.mem_cons_of_mem _ hu))⟩
theorem Dst.ry {n:Nat}:∀ {l:List Tm},Dst n l->∀ t∈l,co l t.1=t.2
 | [],_,t,ht=>by simp at ht
 | u :: l,h,t,ht=>by
  rw [rz]
  rcases List.mem_cons.1 ht with e | e
  ·subst e
   rw [if_pos rfl,zZ (fun v hv=>fun e=>(List.pairwise_cons.1 h.ne).1 v hv e.symm)]
   grind
  rw [if_neg (fun e'=>(List.pairwise_cons.1 h.ne).1 t e e'),Dst.ry h.tail t e]
  grind
theorem Dst.mem_iff {n:Nat} {l:List Tm} (h:Dst n l) (t:Tm):t∈l↔co l t.1=t.2/\t.2≠0:=by
 constructor
 ·exact fun ht=>⟨h.ry t ht,h.nz t ht⟩
 intro ⟨h1,h2⟩
 by_cases c:∃ u∈l,u.1=t.1
 ·obtain ⟨u,hu,e⟩:=c
  have:=h.ry u hu
  rw [e,h1] at this
  have:t=u:=Prod.ext e.symm this
  rw [this];exact hu
 exact absurd (h1.symm.trans (zZ (fun u hu e=>c ⟨u,hu,e⟩))) h2
theorem Dst.mem_eqv {n n':Nat} {p q:List Tm} (hp:Dst n p) (hq:Dst n' q) (h:∀ e,co p e=co q e) (t:Tm):t∈p↔t∈q:=by
 rw [hp.mem_iff,hq.mem_iff,h]
theorem Srt.uniq {n:Nat}:∀ {p q:List Tm},Srt n p->Srt n q->(∀ e,co p e=co q e)->p=q
 | [],[],_,_,_=>rfl
 | [],u :: q,_,hq,h=>by
  have:=(hq.dst.ry u (List.mem_cons_self ..))
  rw [<- h,Eg] at this
  exact absurd this.symm (hq.nz u (List.mem_cons_self ..))
 | t :: p,[],hp,_,h=>by
  have:=(hp.dst.ry t (List.mem_cons_self ..))
  rw [h,Eg] at this
  exact absurd this.symm (hp.nz t (List.mem_cons_self ..))
 | t :: p,u :: q,hp,hq,h=>by
  have m:=fun x=>Dst.mem_eqv hp.dst hq.dst h x
  have hu:t=u:=by
   rcases List.mem_cons.1 ((m t).1 (List.mem_cons_self ..)) with e | e
   ·exact e
   rcases List.mem_cons.1 ((m u).2 (List.mem_cons_self ..)) with e' | e'
   ·exact e'.symm
   have h1:=(List.pairwise_cons.1 hq.ord).1 t e
   have h2:=(List.pairwise_cons.1 hp.ord).1 u e'
   rw [DR h1] at h2
   cases h2
  subst hu
  rw [Srt.uniq hp.tail hq.tail (fun e=>by
   have:=h e
   rw [rz,rz] at this
   grind)]
def sft (p:List Tm) (t:Tm):List Tm:=p.map fun u=>(addE u.1 t.1,u.2*t.2)
def prod (p q:List Tm):List Tm:=p.flatMap fun t=>sft q t
def zE (n:Nat):Ex:=List.replicate n 0
theorem sB (n:Nat):(zE n).length=n:=by simp [zE]
def one (n:Nat):List Tm:=[(zE n,1)]
def pw (n:Nat) (p:List Tm):Nat->List Tm
 | 0=>one n
 | k+1=>prod (pw n p k) p
def Len (n:Nat) (p:List Tm):Prop:=∀ t∈p,t.1.length=n
def cfi (i:Nat) (k:Int) (p:List Tm):List Tm:=(p.filter fun t=>t.1.getD i 0==k).map fun t=>(t.1.set i 0,t.2)
theorem ye (m:Ex->Rat) (i:Nat) (k:Int):∀ p,lin m (cfi i k p)=lin (fun e=>if e.getD i 0=k then m (e.set i 0) else 0) p
 | []=>rfl
 | t :: p=>by
  have h:=ye m i k p
  simp only [cfi] at h
  by_cases c:t.1.getD i 0=k
  ·simp only [cfi]
   rw [List.filter_cons_of_pos (by simpa using c)]
   simp only [List.map_cons,lin,h,if_pos c]
  simp only [cfi]
  rw [List.filter_cons_of_neg (by simpa using c)]
  simp only [lin,h,if_neg c]
  grind
theorem Eqv.cfi {p q:List Tm} (h:Eqv p q) (i:Nat) (k:Int):Eqv (cfi i k p) (cfi i k q):=fun m=>by rw [ye,ye,h]
def drv (i:Nat) (p:List Tm):List Tm:=(p.filter fun t=>decide (t.1.getD i 0>0)).map fun t=>(t.1.set i (t.1.getD i 0-1),t.2*(t.1.getD i 0:Rat))
theorem yc (m:Ex->Rat) (i:Nat):∀ p,lin m (drv i p)=lin (fun e=>if e.getD i 0>0 then (e.getD i 0:Rat)*m (e.set i (e.getD i 0-1)) else 0) p
 | []=>rfl
 | t :: p=>by
  have h:=yc m i p
  simp only [drv] at h
  by_cases c:t.1.getD i 0>0
  ·simp only [drv]
   rw [List.filter_cons_of_pos (by simpa using c)]
   simp only [List.map_cons,lin,h,if_pos c]
   grind
  simp only [drv]
  rw [List.filter_cons_of_neg (by simpa using c)]
  simp only [lin,h,if_neg c]
  grind
theorem Eqv.drv {p q:List Tm} (h:Eqv p q) (i:Nat):Eqv (drv i p) (drv i q):=fun m=>by rw [yc,yc,h]
def mv (x:List Rat):Ex->Rat:=fun e=>go x e
where go:List Rat->Ex->Rat
 | a :: x,k :: e=>a ^ k.toNat*go x e
 | _,_=>1
theorem cut_at {α:Type}:∀ {l:List α} {i:Nat} (h:i<l.length),∃ a b,l=a++l[i] :: b/\a.length=i
 | x :: l,0,_=>⟨[],l,rfl,rfl⟩
 | x :: l,i+1,h=>by
  obtain ⟨a,b,h1,h2⟩:=cut_at (l:=l) (i:=i) (by simpa using h)
  exact ⟨x :: a,b,by simp only [List.getElem_cons_succ,List.cons_append];rw [<- h1],by simp [h2]⟩
theorem xo {α:Type} (a b:List α) (x y:α):(a++x :: b).set a.length y=a++y :: b:=by
 rw [List.set_append_right _ _ (Nat.le_refl _),Nat.sub_self]
 rfl
theorem D6 {α:Type} (a b:List α) (x d:α):(((a++x :: b).set a.length ((a++x :: b).getD ((a++x :: b).length-1) d)).take ((a++x :: b).length-1)).Perm (a++b):=by
 rcases List.eq_nil_or_concat b with rfl | ⟨b',y,rfl⟩
 ·have e:(a++[x]).length-1=a.length:=by simp
  rw [e,xo,List.take_left',List.append_nil]
  rfl
 have e:(a++x :: (b'++[y])).length-1=(a++x :: b').length:=F4
 have e1:(a++x :: (b'++[y])).getD ((a++x :: (b'++[y])).length-1) d=y:=by
  rw [e,show a++x :: (b'++[y])=(a++x :: b')++[y] by simp]
  simp
 have h1:∀ z:α,(a++x :: b').length=(a++z :: b').length:=fun z=>F4
 have e3:(a++y :: (b'++[y])).take ((a++x :: b').length)=a++y :: b':=by
  rw [h1 y,show a++y :: (b'++[y])=(a++y :: b')++[y] by simp]
  exact List.take_left' rfl
 rw [List.concat_eq_append,e1,xo,e,e3]
 refine List.Perm.append_left a ?_
 simpa using (List.perm_append_comm (l₁:=[y]) (l₂:=b'))
def rL (p:List Tm) (e:Ex) (c:Rat):List Tm :=
 if c=0 then p else match p.findIdx? (fun t=>t.1==e) with
  | none=>p++[(e,c)]
  | some i=>if (p.getD i ([],0)).2+c=0 then (p.set i (p.getD (p.length-1) ([],0))).take (p.length-1) else p.set i (e,(p.getD i ([],0)).2+c)
theorem Dst.perm {n:Nat} {p q:List Tm} (h:Dst n p) (hp:p.Perm q):Dst n q :=
 ⟨(hp.pairwise_iff (fun h=>fun e=>h e.symm)).1 h.ne,(fun t ht=>h.nz t (hp.mem_iff.2 ht)),(fun t ht=>h.len t (hp.mem_iff.2 ht))⟩
theorem C9 {n:Nat} {p:List Tm} {e:Ex} {c:Rat} (h:Dst n p) (he:e.length=n):Dst n (rL p e c)/\∀ m,lin m (rL p e c)=lin m p+c*m e:=by
 unfold rL
 split
 ·rename_i z
  exact ⟨h,fun m=>by rw [z];grind⟩
 rename_i z
 split
 ·rename_i hn
  have hn':∀ t∈p,t.1≠e:=fun t ht hh=>by
   have:=List.findIdx?_eq_none_iff.1 hn t ht
   simp [hh] at this
  refine ⟨⟨List.pairwise_append.2 ⟨h.ne,F4,fun a ha b hb=>?_⟩,?_,?_⟩,fun m=>?_⟩
  ·rw [List.mem_singleton] at hb
   rw [hb];exact hn' a ha
  ·intro t ht
   rcases List.mem_append.1 ht with g | g
   ·exact h.nz t g
   rw [List.mem_singleton] at g
   rw [g];exact z
  ·intro t ht
   rcases List.mem_append.1 ht with g | g
   ·exact h.len t g
   rw [List.mem_singleton] at g
   rw [g];exact he
  rw [tc];simp only [lin];grind
 rename_i i hs
 obtain ⟨hi,hx,_⟩:=List.findIdx?_eq_some_iff_getElem.1 hs
 obtain ⟨a,b,e1,e2⟩:=cut_at hi
 have hg:p.getD i ([],0)=p[i]:=by simp [List.getD_eq_getElem?_getD,hi]
 have hx':p[i].1=e:=by simpa using hx
 rw [hg]
 generalize p[i]=x at *
 subst e1
 have lx:lin=lin:=rfl
 have hp:(a++x :: b).Perm (x :: (a++b)):=List.perm_middle
 have hd:=h.perm hp
 have hl:∀ m,lin m (a++x :: b)=x.2*m e+lin m (a++b):=fun m=>by rw [pI m hp];simp only [lin,hx']
 split
 ·rename_i z'
  have hq:=D6 a b x ([],0)
  rw [e2] at hq
  refine ⟨hd.tail.perm hq.symm,fun m=>?_⟩
  rw [pI m hq,hl]
  have:c = -x.2:=by grind
  rw [this];grind
 rename_i z'
 rw [<- e2,xo]
 have hp':(a++(e,x.2+c) :: b).Perm ((e,x.2+c) :: (a++b)):=List.perm_middle
 refine ⟨Dst.perm ⟨List.pairwise_cons.2 ⟨fun u hu=>?_,hd.tail.ne⟩,fun t ht=>?_,fun t ht=>?_⟩ hp'.symm,fun m=>?_⟩
 ·have:=(List.pairwise_cons.1 hd.ne).1 u hu
  rw [hx'] at this
  exact this
 ·exact (List.mem_cons.1 ht).elim (fun g=>by rw [g];exact z') (hd.tail.nz t)
 ·exact (List.mem_cons.1 ht).elim (fun g=>by rw [g];exact he) (hd.tail.len t)
 rw [pI m hp',hl];simp only [lin];grind
end Go.Proofs.YtfbgaddecbiimaaGreatDoor.G
end
section
namespace Go.Proofs.YtfbgaddecbiimaaGreatDoor.Q
open Go.RowKit Go.Proofs.YtfbgaddecbiimaaGreatDoorW.PrintWords Go.Proofs.YtfbgaddecbiimaaGreatDoorW.PrintMore Go.Proofs.YtfbgaddecbiimaaGreatDoor.V Go.Proofs.YtfbgaddecbiimaaGreatDoor.E
open Go.Proofs.YtfbgaddecbiimaaGreatDoor.P (Dg Nm vl WW RR bG gI evs evk evb fz aQ bE bj cR w64 u64)
open Go.Proofs.YtfbgaddecbiimaaGreatDoor.G (Ex Tm lin co Eqv Srt Dst)
theorem gt_G:∀ {a b:List Int},a.length=b.length->(gtE a b↔G.gtE a b=true)
 | [],[],_=>by simp [gtE,eC,G.gtE]
 | [],_ :: _,h=>by simp at h
 | _ :: _,[],h=>by simp at h
 | a :: x,b :: y,h=>by
  have ih:=gt_G (a:=x) (b:=y) (by simpa using h)
  unfold gtE at ih ⊢
  rw [yr,G.gtE]
  by_cases c:a=b
  ·rw [if_pos c,<- ih]
   constructor
   ·rintro (g | g)
    ·omega
    exact g.2
   exact fun g=>.inr ⟨c,g⟩
  rw [if_neg c,decide_eq_true_eq]
  constructor
  ·rintro (g | g)
   ·exact g
   exact absurd g.1 c
  exact fun g=>.inl g
structure RelP (n:Nat) (p:bb) (l:List Tm):Prop where
 n_:p.1=(n:Int)
 len:p.2.1.length=l.length
 at_:∀ i (h:i<l.length),(tmA p i).1=l[i].1/\RB WW (tmA p i).2.1 l[i].2
structure RelR (r:List aB) (l:List Tm) (K:Nat):Prop where
 len:r.length=l.length
 at_:∀ i (h:i<l.length),(rtA r i).1=eL l[i].1/\RB RR (rtA r i).2.1 l[i].2/\Sz RR K l[i].2
theorem CU {v:cD} {q:Rat} {K:Nat} (h:RB RR v q) (hs:Sz RR K q) (hK:K<1073741824):∃ r,Ev (fun k=>dE k v) r/\RB WW r q:=CT h hs hK
theorem ff {x:List Int} (h:x.length<=8):(eL x).take x.length=x:=by
 rw [eL,cp _ _ _ h,List.take_left]
theorem pad_inj {x y:List Int} (hx:x.length<=8) (h:x.length=y.length) (e:eL x=eL y):x=y:=by
 rw [<- ff hx,e,h,ff F3]
theorem AX {a:bb} {r:List aB} {la lr:List Tm} {n K:Nat} (hn:n<=8) (ha:RelP n a la) (hr:RelR r lr K) (hf:FewW a) (hK:K<1073741824) (hlen:lr.length<=100000) (sa:Srt n la) (dr:Dst n lr) (he:Eqv la lr):Ev (fun k=>cn k a r (n:Int)) true:=by
 have ex:∀ i,∃ c:cD,∀ h:i<lr.length,Ev (fun k=>dE k (rtA r i).2.1) c/\RB WW c lr[i].2:=fun i=>by
  by_cases h:i<lr.length
  ·obtain ⟨h1,h2,h3⟩:=hr.at_ i h
   obtain ⟨c,c1,c2⟩:=CU h2 h3 hK
   exact ⟨c,fun _=>⟨c1,c2⟩⟩
  exact ⟨(false,[],[],()),fun h'=>absurd h' h⟩
 obtain ⟨toC,htoC⟩:=Classical.axiomOfChoice ex
 have l8:∀ i (h:i<lr.length),lr[i].1.length=n:=fun i h=>dr.len _ (List.getElem_mem h)
 have hT:RefT r toC:=by
  refine ⟨by rw [hr.len];exact hlen,fun i h=>?_,fun i j h1 h2 hne=>?_,fun i h=>(htoC i (by rw [<- hr.len];exact h)).1⟩
  ·rw [(hr.at_ i (by rw [<- hr.len];exact h)).1];exact df _ _ _
  have h1':i<lr.length:=by rw [<- hr.len];exact h1
  have h2':j<lr.length:=by rw [<- hr.len];exact h2
  rw [(hr.at_ i h1').1,(hr.at_ j h2').1]
  intro e
  have e':=pad_inj (by rw [l8 i h1'];exact hn) ((l8 i h1').trans (l8 j h2').symm) e
  have hp:=List.pairwise_iff_getElem.1 dr.ne
  rcases Nat.lt_or_gt_of_ne hne with g | g
  ·exact hp i j h1' h2' g e'
  exact hp j i h2' h1' g e'.symm
 obtain ⟨ch,c1,c2,c3⟩:=ref_To3 hT hn
 have hch:∀ c∈ch,c<lr.length:=fun c hc=>by
  have:=List.mem_range.1 (c1.mem_iff.1 hc)
  rw [hr.len] at this
  exact this
 let ls:List Tm:=ch.map fun i=>lr.getD i ([],0)
 have hls:ls.Perm lr:=by
  have h1:=c1.map fun i=>lr.getD i ([],0)
  have h2:(List.range r.length).map (fun i=>lr.getD i ([],0))=lr:=by
   rw [hr.len]
   apply List.ext_getElem F4
   intro i g1 g2
   simp [List.getD_eq_getElem?_getD,g2]
  rw [h2] at h1
  exact h1
 have ss:Srt n ls:=by
  refine ⟨?_,fun t ht=>dr.nz t (hls.mem_iff.1 ht),fun t ht=>dr.len t (hls.mem_iff.1 ht)⟩
  rw [List.pairwise_map]
  refine c2.imp_of_mem (fun {x y} hx hy h=>?_)
  have hx':=hch x hx
  have hy':=hch y hy
  rw [(hr.at_ x hx').1,(hr.at_ y hy').1] at h
  have e1:lr.getD x ([],0)=lr[x]:=by simp [List.getD_eq_getElem?_getD,hx']
  have e2:lr.getD y ([],0)=lr[y]:=by simp [List.getD_eq_getElem?_getD,hy']
  rw [e1,e2]
  unfold gtE at h
  rw [z7 (by rw [l8 x hx'];exact hn) ((l8 x hx').trans (l8 y hy').symm)] at h
  exact (gt_G ((l8 x hx').trans (l8 y hy').symm)).1 h
 have heq:la=ls:=Srt.uniq sa ss (fun e=>by
  have h1:=he.co e
  have h2:co ls e=co lr e:=G.pI _ hls
  rw [h1,h2])
 have hlc:la.length=ch.length:=by rw [heq];simp [ls]
 have hterms:a.2.1=ch.map (toG r toC n):=by
  apply List.ext_getElem (by rw [ha.len,hlc,List.length_map])
  intro i h1 h2
  have hi:i<la.length:=by rw [<- ha.len];exact h1
  have hic:i<ch.length:=by rw [<- hlc];exact hi
  obtain ⟨g1,g2⟩:=ha.at_ i hi
  have et:tmA a i=a.2.1[i]:=cX h1
  have hc:=hch ch[i] (List.getElem_mem hic)
  have el:la[i]=lr[ch[i]]:=by
   have:la[i]=ls[i]'(by rw [<- heq];exact hi):=by simp only [heq]
   rw [this]
   simp [ls,List.getD_eq_getElem?_getD,hc]
  rw [<- et,List.getElem_map]
  have k1:(tmA a i).1=(rtA r ch[i]).1.take n:=by
   rw [g1,el,(hr.at_ _ hc).1,<- l8 _ hc,ff (by rw [l8 _ hc];exact hn)]
  have k2:(tmA a i).2.1=toC ch[i]:=by
   rw [el] at g2
   exact C3 aQ g2 (htoC _ hc).2
  exact Prod.ext k1 (Prod.ext k2 rfl)
 have hsame:=vz (b:=((n:Int),ch.map (toG r toC n),())) hf
 rw [fF ⟨ha.n_,hterms⟩] at hsame
 exact Ev.step (fun k=>lH k a r _) (Ev.bind c3 (Ev.bind hsame (evs _)))
noncomputable def wJ (v:cD):Rat:=Rat.divInt (sg v.1 (vl WW v.2.1)) (vl WW v.2.2.1)
theorem ma {v:cD} {q:Rat} (h:RB WW v q):wJ v=q:=by
 have h1:=rb_val h
 unfold wJ
 rw [h.2.1.2.2,h.2.2.2.2]
 exact h1
def CoOk (K:Nat) (v:cD):Prop:=∃ q,RB WW v q/\Sz WW K q
theorem CoOk.rb {K:Nat} {v:cD} (h:CoOk K v):RB WW v (wJ v)/\Sz WW K (wJ v):=by
 obtain ⟨q,h1,h2⟩:=h
 rw [ma h1]
 exact ⟨h1,h2⟩
theorem CoOk.mono {K L:Nat} {v:cD} (h:CoOk K v) (hk:K<=L):CoOk L v:=by
 obtain ⟨q,h1,h2⟩:=h
 exact ⟨q,h1,pW aQ h2 hk⟩
noncomputable def uR (t:aB):Tm:=(t.1,wJ t.2.1)
noncomputable def tms (l:List aB):List Tm:=l.map uR
def OkT (n K:Nat) (t:aB):Prop:=t.1.length=n/\(∀ e∈t.1,0<=e/\e<256)/\CoOk K t.2.1
theorem jz (t:aB) (l:List aB):tms (t :: l)=uR t :: tms l:=rfl
open Go.Proofs.YtfbgaddecbiimaaGreatDoor.G (rL)
noncomputable def uM (v:cD):Rat:=Rat.divInt (sg v.1 (vl RR v.2.1)) (vl RR v.2.2.1)
theorem l9 {v:cD} {q:Rat} (h:RB RR v q):uM v=q:=by
 have h1:=rb_val h
 unfold uM
 rw [h.2.1.2.2,h.2.2.2.2]
 exact h1
def CoR (K:Nat) (v:cD):Prop:=∃ q,RB RR v q/\Sz RR K q
theorem CoR.rb {K:Nat} {v:cD} (h:CoR K v):RB RR v (uM v)/\Sz RR K (uM v):=by
 obtain ⟨q,h1,h2⟩:=h
 rw [l9 h1]
 exact ⟨h1,h2⟩
theorem CoR.mono {K L:Nat} {v:cD} (h:CoR K v) (hk:K<=L):CoR L v:=by
 obtain ⟨q,h1,h2⟩:=h
 exact ⟨q,h1,pW bj h2 hk⟩
noncomputable def tmR (n:Nat) (t:aB):Tm:=(t.1.take n,uM t.2.1)
noncomputable def fG (n:Nat) (l:List aB):List Tm:=l.map (tmR n)
def OkR (n K:Nat) (t:aB):Prop:=t.1=eL (t.1.take n)/\(t.1.take n).length=n/\CoR K t.2.1
theorem OkR.mono {n K L:Nat} {t:aB} (h:OkR n K t) (hk:K<=L):OkR n L t:=⟨h.1,h.2.1,h.2.2.mono hk⟩
theorem vO {x:List Int} (h:x.length=8):eL x=x:=by
 rw [eL,cp _ _ _ F3,h];simp
theorem OkR.len {n K:Nat} {t:aB} (h:OkR n K t):t.1.length=8:=by rw [h.1];exact df _ _ _
theorem AR {n K L:Nat} {r:List aB} {e:List Int} {c:cD} {q:Rat} (hn:n<=8) (hr:r.length<=100000) (hK:K+L<1000000) (hok:∀ t∈r,OkR n K t) (he:e.length=n) (hc:RB RR c q) (hs:Sz RR L q) :
 ∃ r':List aB,Ev (fun k=>bO k r (eL e) c) r'/\fG n r'=rL (fG n r) e q/\(∀ t∈r',OkR n (K+L+1) t)/\r'.length<=r.length+1:=by
 have hsg:=qc hc
 by_cases c0:q=0
 ·refine ⟨r,Ev.step (fun k=>gS k _ _ _) (Ev.bind hsg (bT (by rw [mP];exact decide_eq_true c0) (evs _))),by rw [rL,if_pos c0],fun t ht=>(hok t ht).mono F3,F3⟩
 have hsz:(sgn q==(0:Int))=false:=by rw [mP];exact decide_eq_false c0
 have ep:fR (0:Int) 8 (eL e)=eL e:=vO (df _ _ _)
 have main:=dnw (n:=r.length) (P:=fun i=>(∀ j (h:j<r.length),j<i->r[j].1≠eL e)->∃ r':List aB,Ev2 (fun k m=>bO.l0 k m (r.length:Int) (i:Int) r (eL e) c) r'/\fG n r'=rL (fG n r) e q/\(∀ t∈r',OkR n (K+L+1) t)/\r'.length<=r.length+1) ?_ ?_ 0 (Nat.zero_le _) (fun j _ h=>F3)
 ·obtain ⟨r',h1,h2,h3,h4⟩:=main
  exact ⟨r',Ev.step (fun k=>gS k _ _ _) (Ev.bind hsg (bF hsz h1.diag)),h2,h3,h4⟩
 ·intro hno
  refine ⟨r++[(eL e,c,())],Ev2.step (fun k m=>bO.ba k m _ _ _ _ _) (Ev2.bF (decide_eq_false F3) (Ev2.iT (by simp only [List.length_cons,List.length_nil];omega) (Ev2.of (evs _)))),?_,fun t ht=>?_,F4⟩
  ·rw [rL,if_neg c0]
   have hf:(fG n r).findIdx? (fun t=>t.1==e)=none:=by
    rw [List.findIdx?_eq_none_iff]
    intro t ht
    obtain ⟨u,hu,rfl⟩:=List.mem_map.1 ht
    obtain ⟨j,hj,rfl⟩:=List.getElem_of_mem hu
    rw [beq_eq_false_iff_ne]
    intro h
    refine hno j hj hj ?_
    rw [(hok _ hu).1]
    exact congrArg eL h
   rw [hf]
   show (r++[(eL e,c,())]).map (tmR n)=r.map (tmR n)++[(e,q)]
   rw [List.map_append]
   show _++[((eL e).take n,uM c)]=_
   rw [l9 hc,<- he,ff F3]
  rcases List.mem_append.1 ht with ht | ht
  ·exact (hok t ht).mono F3
  rw [List.mem_singleton] at ht
  subst ht
  have h1:(eL e).take n=e:=by rw [<- he,ff F3]
  exact ⟨by show eL e=eL ((eL e).take n);rw [h1],by show ((eL e).take n).length=n;rw [h1,he],q,hc,pW bj hs F3⟩
 intro i hi ih hno
 have er:(rdT (t:=af) r (i:Int):aB)=r[i]:=cX hi
 obtain ⟨o1,o2,o3⟩:=hok r[i] (List.getElem_mem hi)
 have hl8:=(hok r[i] (List.getElem_mem hi)).len
 have epi:fR (0:Int) 8 r[i].1=r[i].1:=vO hl8
 by_cases c1:r[i].1=eL e
 ·obtain ⟨v,v1,v2,v3⟩:=AZ o3.rb.1 hc o3.rb.2 hs F3
  have hsv:=qc v2
  have hxe:r[i].1.take n=e:=by rw [c1,<- he,ff F3]
  have hf:(fG n r).findIdx? (fun t=>t.1==e)=some i:=by
   rw [List.findIdx?_eq_some_iff_getElem]
   refine ⟨by simpa [fG] using hi,by simp [fG,tmR,hxe],fun j hj=>?_⟩
   have hj':j<r.length:=F3
   simp only [fG,tmR,List.getElem_map,beq_iff_eq]
   intro h
   refine hno j hj' hj ?_
   rw [(hok _ (List.getElem_mem hj')).1]
   exact congrArg eL h
  have hg:((fG n r).getD i ([],0)).2=uM r[i].2.1:=by simp [fG,tmR,List.getD_eq_getElem?_getD,hi]
  have w1:wrap64 ((r.length:Int)-1)=((r.length-1:Nat):Int):=by rw [w64 F3 F3];omega
  by_cases c2:uM r[i].2.1+q=0
  ·rw [c2] at hsv
   have hlast:r.length-1<r.length:=F3
   have el:(rdT (t:=af) r ((r.length-1:Nat):Int):aB)=r[r.length-1]:=cX hlast
   refine ⟨(r.set i r[r.length-1]).take (r.length-1),?_,?_,fun t ht=>?_,by rw [List.length_take];omega⟩
   ·refine Ev2.step (fun k m=>bO.ba k m _ _ _ _ _) (Ev2.bT (decide_eq_true F3) (Ev2.iT F3 ?_))
    rw [er,epi,ep,c1]
    refine Ev2.bT F4 (Ev2.iT F3 (Ev2.bind v1 (Ev2.bind hsv (Ev2.bT rfl ?_))))
    rw [w1,el,Int.toNat_natCast,List.length_set,w1,Int.toNat_natCast]
    exact Ev2.iT F3 (Ev2.iT F3 (Ev2.iT F3 (Ev2.of (evs _))))
   ·rw [rL,if_neg c0,hf]
    dsimp only
    rw [if_pos (by rw [hg];exact c2)]
    have hll:(fG n r).length=r.length:=by simp [fG]
    rw [hll]
    have h2:(fG n r).getD (r.length-1) ([],0)=tmR n r[r.length-1]:=by simp [fG,List.getD_eq_getElem?_getD,hlast]
    rw [h2]
    simp only [fG,List.map_take,List.map_set]
   rcases List.mem_or_eq_of_mem_set (List.mem_of_mem_take ht) with h | rfl
   ·exact (hok t h).mono F3
   exact (hok _ (List.getElem_mem hlast)).mono F3
  have hne:(sgn (uM r[i].2.1+q)==(0:Int))=false:=by rw [mP];exact decide_eq_false c2
  refine ⟨r.set i (r[i].1,v,r[i].2.2),?_,?_,fun t ht=>?_,by rw [List.length_set];omega⟩
  ·refine Ev2.step (fun k m=>bO.ba k m _ _ _ _ _) (Ev2.bT (decide_eq_true F3) (Ev2.iT F3 ?_))
   rw [er,epi,ep]
   refine Ev2.bT (by simp [c1]) (Ev2.iT F3 (Ev2.bind v1 (Ev2.bind hsv (Ev2.bF hne (Ev2.iT F3 ?_)))))
   rw [Int.toNat_natCast]
   exact Ev2.of (evs _)
  ·rw [rL,if_neg c0,hf]
   dsimp only
   rw [if_neg (by rw [hg];exact c2),hg]
   simp only [fG,List.map_set]
   show _=(List.map (tmR n) r).set i (e,uM r[i].2.1+q)
   rw [show tmR n (r[i].1,v,r[i].2.2)=(e,uM r[i].2.1+q) by show (r[i].1.take n,uM v)=_;rw [hxe,l9 v2]]
  rcases List.mem_or_eq_of_mem_set ht with h | rfl
  ·exact (hok t h).mono F3
  exact ⟨o1,o2,_,v2,v3⟩
 obtain ⟨r',h1,h2,h3,h4⟩:=ih (fun j hj hji=>by
  by_cases d:j=i
  ·subst d;exact c1
  exact hno j hj F3)
 refine ⟨r',Ev2.step (fun k m=>bO.ba k m _ _ _ _ _) (Ev2.bT (decide_eq_true F3) (Ev2.iT F3 ?_)),h2,h3,h4⟩
 rw [er,epi,ep]
 refine Ev2.bF (by simp [c1]) ?_
 rw [mr F3]
 exact h1
end Go.Proofs.YtfbgaddecbiimaaGreatDoor.Q
end
section
namespace Go.Proofs.YtfbgaddecbiimaaGreatDoor.G
def rK:Ex->Int
 | []=>0
 | a :: l=>a+rK l
def deg:List Tm->Int
 | []=>-1
 | t :: l=>max (rK t.1) (deg l)
theorem le_deg:∀ {p:List Tm} {t:Tm},t∈p->rK t.1<=deg p
 | [],_,h=>by simp at h
 | u :: p,t,h=>by
  simp only [deg]
  rcases List.mem_cons.1 h with e | e
  ·rw [e];omega
  have:=le_deg e;omega
theorem D9:∀ (p:List Tm),-1<=deg p
 | []=>by simp [deg]
 | t :: p=>by have:=D9 p;simp only [deg];omega
theorem co_ne {l:List Tm} {e:Ex} (h:co l e≠0):∃ t∈l,t.1=e:=by
 apply Classical.byContradiction
 intro c
 exact h (zZ fun t ht e'=>c ⟨t,ht,e'⟩)
theorem Dst.from {n:Nat} {p r:List Tm} (h:Dst n p) (he:∀ e,co p e=co r e) {t:Tm} (ht:t∈p):∃ u∈r,u.1=t.1:=by
 apply co_ne
 rw [<- he,h.ry t ht]
 exact h.nz t ht
def Cz (D H:Int) (q:Rat):Prop:=∃ z:Int,q*(D:Rat)=(z:Rat)/\(z.natAbs:Int)<=H
theorem Cz.zero {D H:Int} (h:0<=H):Cz D H 0:=⟨0,F4,by simpa using h⟩
theorem Cz.mono {D H H':Int} {q:Rat} (h:Cz D H q) (hh:H<=H'):Cz D H' q:=let ⟨z,h1,h2⟩:=h;⟨z,h1,F3⟩
theorem Cz.add {D H H':Int} {a b:Rat} (h:Cz D H a) (h':Cz D H' b):Cz D (H+H') (a+b):=by
 obtain ⟨z,h1,h2⟩:=h
 obtain ⟨y,h3,h4⟩:=h'
 refine ⟨z+y,?_,F3⟩
 rw [Rat.intCast_add,<- h1,<- h3];grind
theorem Cz.size {D H:Int} {q:Rat} (hD:0<D) (h:Cz D H q):(q.den:Int)<=D/\(q.num.natAbs:Int)<=H:=by
 obtain ⟨z,h1,h2⟩:=h
 have hq:q=Rat.divInt z D:=by
  rw [Rat.divInt_eq_div,<- h1]
  have:(D:Rat)≠0:=by
   intro h
   have:=Rat.intCast_inj.1 (h.trans Rat.intCast_zero.symm)
   omega
  rw [Rat.div_def,Rat.mul_assoc,Rat.mul_inv_cancel _ this];grind
 have hg:D.gcd z≠0:=by
  intro h
  have:=Int.gcd_eq_zero_iff.1 h
  omega
 constructor
 ·rw [hq,Rat.den_divInt,if_neg F3]
  have:D.natAbs / D.gcd z<=D.natAbs:=Nat.div_le_self ..
  omega
 rw [hq,Rat.num_divInt,Int.sign_eq_one_of_pos hD,Int.one_mul]
 have:(z / (D.gcd z:Int)).natAbs<=z.natAbs:=by
  rw [Int.natAbs_ediv_of_dvd (Int.gcd_dvd_right ..)]
  exact Nat.div_le_self ..
 omega
def CL (D:Int):Int->List Tm->Prop
 | H,[]=>0<=H
 | H,t :: l=>∃ z:Int,t.2*(D:Rat)=(z:Rat)/\CL D (H-z.natAbs) l
theorem CL.mono {D:Int}:∀ {l:List Tm} {H H':Int},CL D H l->H<=H'->CL D H' l
 | [],H,H',h,hh=>Int.le_trans h hh
 | t :: l,H,H',⟨z,h1,h2⟩,hh=>⟨z,h1,h2.mono F3⟩
theorem CL.append {D:Int}:∀ {p q:List Tm} {H H':Int},CL D H p->CL D H' q->CL D (H+H') (p++q)
 | [],q,H,H',h,h'=>h'.mono (by have:0<=H:=h;omega)
 | t :: p,q,H,H',⟨z,h1,h2⟩,h'=>⟨z,h1,(h2.append h').mono F3⟩
theorem CL.co {D:Int} (e:Ex):∀ {p:List Tm} {H:Int},CL D H p->Cz D H (co p e)
 | [],H,h=>by rw [Eg];exact Cz.zero h
 | t :: p,H,⟨z,h1,h2⟩=>by
  have ih:=CL.co e h2
  rw [rz]
  split
  ·exact (Cz.add ⟨z,h1,Int.le_refl _⟩ ih).mono F3
  refine (Cz.add (Cz.zero (H:=0) (Int.le_refl _)) ih).mono ?_
  omega
end Go.Proofs.YtfbgaddecbiimaaGreatDoor.G
end
section
namespace Go.Proofs.YtfbgaddecbiimaaGreatDoor.Q
open Go.RowKit Go.Proofs.YtfbgaddecbiimaaGreatDoorW.PrintWords Go.Proofs.YtfbgaddecbiimaaGreatDoorW.PrintMore Go.Proofs.YtfbgaddecbiimaaGreatDoor.V Go.Proofs.YtfbgaddecbiimaaGreatDoor.E
open Go.Proofs.YtfbgaddecbiimaaGreatDoor.P (Dg Nm vl WW RR bG gI evs evk evb fz aQ bE bj cR w64 u64)
open Go.Proofs.YtfbgaddecbiimaaGreatDoor.G (Ex Tm lin co Eqv Srt Dst rL)
theorem relP_of {n K:Nat} {l:List aB} (hok:∀ u∈l,OkT n K u):RelP n ((n:Int),l,()) (tms l) where
 n_:=rfl
 len:=by simp [tms]
 at_:=fun i h=>by
  have hi:i<l.length:=by simpa [tms] using h
  have e:tmA ((n:Int),l,()) i=l[i]:=cX hi
  have e2:(tms l)[i]=uR l[i]:=by simp [tms]
  rw [e,e2]
  exact ⟨rfl,((hok l[i] (List.getElem_mem hi)).2.2).rb.1⟩
theorem relR_of {n K:Nat} {r:List aB} (hok:∀ u∈r,OkR n K u):RelR r (fG n r) K where
 len:=by simp [fG]
 at_:=fun i h=>by
  have hi:i<r.length:=by simpa [fG] using h
  have e:rtA r i=r[i]:=cX hi
  have e2:(fG n r)[i]=tmR n r[i]:=by simp [fG]
  rw [e,e2]
  obtain ⟨h1,h2,h3⟩:=hok r[i] (List.getElem_mem hi)
  exact ⟨h1,h3.rb.1,h3.rb.2⟩
theorem Is_of {n K L:Nat} {l r:List aB} (hn:n<=8) (hok:∀ u∈l,OkT n K u) (hr:∀ u∈r,OkR n L u) (hf:FewW ((n:Int),l,())) (hL:L<1073741824) (hlen:r.length<=100000) (hs:Srt n (tms l)) (hd:Dst n (fG n r)) (he:Eqv (tms l) (fG n r)):Ev (fun k=>cn k ((n:Int),l,()) r (n:Int)) true :=
 AX hn (relP_of hok) (relR_of hr) hf hL (by simpa [fG] using hlen) hs hd he
theorem Bh {x:List Int} (h:x.length<=8) (hb:∀ e∈x,0<=e/\e<=256):Ev (fun k=>fk k x) (sE x):=by
 have main:=dnw (n:=x.length) (P:=fun i=>Ev2 (fun k m=>fk.l0 k m (sE (x.take i)) x (x.length:Int) (i:Int)) (sE x)) ?_ ?_ 0 (Nat.zero_le _)
 ·exact Ev.step (fun k=>Bi k _) main.diag
 ·rw [List.take_length]
  exact Ev2.step (fun k m=>fk.ba k m _ _ _ _) (Ev2.bF (decide_eq_false F3) (Ev2.of (evs _)))
 intro i hi ih
 have e:(rdT (t:=(.int .i64)) x (i:Int):Int)=x[i]:=cX hi
 have b1:=pB (B:=256) F3 (l:=x.take i) (fun y hy=>hb y (List.mem_of_mem_take hy))
 have b2:=hb x[i] (List.getElem_mem hi)
 have b3:(x.take i).length<=8:=by rw [List.length_take];omega
 refine Ev2.step (fun k m=>fk.ba k m _ _ _ _) (Ev2.bT (decide_eq_true F3) (Ev2.iT F3 ?_))
 rw [e,mr F3,w64 F3 F3,<- kp hi]
 exact ih
def dgM (l:List aB) (a:Int):Int:=l.foldl (fun a t=>mx a (sE t.1)) a
theorem tY {n K:Nat} {l:List aB} (hn:n<=8) (hl:l.length<=100000) (hok:∀ u∈l,OkT n K u):Ev (fun k=>dD k ((n:Int),l,())) (dgM l (-1)):=by
 have main:=dnw (n:=l.length) (P:=fun i=>∀ a,Ev2 (fun k m=>dD.l0 k m a l (l.length:Int) (i:Int)) (dgM (l.drop i) a)) ?_ ?_ 0 (Nat.zero_le _) (-1)
 ·exact Ev.step (fun k=>tZ k _) main.diag
 ·intro a
  rw [List.drop_length]
  exact Ev2.step (fun k m=>dD.ba k m _ _ _ _) (Ev2.bF (decide_eq_false F3) (Ev2.of (evs _)))
 intro i hi ih a
 have e:(rdT (t:=ai) l (i:Int):aB)=l[i]:=cX hi
 obtain ⟨o1,o2,o3⟩:=hok l[i] (List.getElem_mem hi)
 have hs:=Bh (x:=l[i].1) F3 (fun y hy=>by have:=o2 y hy;omega)
 refine Ev2.step (fun k m=>dD.ba k m _ _ _ _) (Ev2.bT (decide_eq_true F3) (Ev2.iT F3 ?_))
 rw [e,ef hi]
 refine Ev2.bind hs ?_
 rw [mr F3]
 exact ih _
theorem xD {n K:Nat} {l:List aB} (hn:n<=8) (hl:l.length<=100000) (hK:K<1073741824) (hok:∀ u∈l,OkT n K u):Ev (fun k=>fX k ((n:Int),l,())) ((n:Int),l,()):=by
 have main:=dnw (n:=l.length) (P:=fun i=>Ev2 (fun k m=>fX.l0 k m l (l.length:Int) (i:Int) ((n:Int),l,()) ((0:Int),[],()) (n:Int) (l.take i)) ((n:Int),l,())) ?_ ?_ 0 (Nat.zero_le _)
 ·exact Ev.step (fun k=>xE k _) main.diag
 ·rw [List.take_length]
  exact Ev2.step (fun k m=>fX.ba k m _ _ _ _ _ _ _) (Ev2.bF (decide_eq_false F3) (Ev2.of (evs _)))
 intro i hi ih
 have e:(rdT (t:=ai) l (i:Int):aB)=l[i]:=cX hi
 obtain ⟨o1,o2,o3⟩:=hok l[i] (List.getElem_mem hi)
 have hc:=mh o3.rb.1 o3.rb.2 hK
 have hz:(List.replicate (Int.toNat (0:Int)) ((0:Int):Int))=[]:=rfl
 refine Ev2.step (fun k m=>fX.ba k m _ _ _ _ _ _ _) (Ev2.bT (decide_eq_true F3) (Ev2.iT F3 (Ev2.iT (by show (0:Int)<=0/\(0:Int)<=(n:Int)/\8*(n:Int).toNat<=281474976710656/\(n:Int).toNat<=maxLen;unfold maxLen;omega) ?_)))
 rw [e,hz]
 refine Ev2.iT (by simp only [List.length_nil];omega) (Ev2.bind hc (Ev2.iT (by simp only [List.length_cons,List.length_nil,List.length_take];omega) ?_))
 rw [mr F3,List.nil_append]
 rw [show l.take i++[(l[i].1,l[i].2.1,())]=l.take (i+1) by rw [List.take_succ_eq_append_getElem hi]]
 exact ih
theorem yM {p:bb} (hv:fQ p):∃ n:Nat,n<=8/\p.1=(n:Int)/\∀ u∈p.2.1,OkT n 200 u:=by
 obtain ⟨h1,h2,h3,h4⟩:=hv
 refine ⟨p.1.toNat,F3,F3,fun u hu=>?_⟩
 obtain ⟨i,hi,rfl⟩:=List.getElem_of_mem hu
 have e:tmA p i=p.2.1[i]:=cX hi
 have g:=(h4 i hi).1
 rw [e] at g
 exact ⟨by have:=g.len;omega,fun x hx=>by have:=g.ex x hx;omega,g.co⟩
theorem Dq {p:bb} {n:Nat} (ha:uJ p) (hv:fQ p) (hn:p.1=(n:Int)):∃ r:List aB,Ev (fun k=>bH k p) r/\r.length=p.2.1.length/\(∀ u∈r,OkR n 800 u)/\fG n r=tms p.2.1:=by
 obtain ⟨r,r1,r2,r3⟩:=CW ha hv
 have hn8:n<=8:=by have:=hv.n8;omega
 have tl:∀ i,i<p.2.1.length->(tmA p i).1.length=n:=fun i hi=>by have:=(hv.good i hi).1.len;omega
 refine ⟨r,r1,r2,fun u hu=>?_,?_⟩
 ·obtain ⟨i,hi,rfl⟩:=List.getElem_of_mem hu
  obtain ⟨a1,q,a2,a3,a4,a5⟩:=r3 i hi
  have hl:=tl i F3
  have ht:r[i].1.take n=(tmA p i).1:=by rw [a1,<- hl];exact ff F3
  exact ⟨by rw [ht];exact a1,by rw [ht];exact hl,q,a3,a5⟩
 apply List.ext_getElem (by simp [fG,tms,r2])
 intro i h1 h2
 have hi:i<r.length:=by simpa [fG] using h1
 obtain ⟨a1,q,a2,a3,a4,a5⟩:=r3 i hi
 have hi':i<p.2.1.length:=F3
 have hl:=tl i hi'
 have e:tmA p i=p.2.1[i]:=cX hi'
 have ht:r[i].1.take n=(tmA p i).1:=by rw [a1,<- hl];exact ff F3
 simp only [fG,tms,List.getElem_map,tmR,uR]
 rw [ht,l9 a3,<- e,ma a2]
theorem Ch {p:bb} {n:Nat} (hv:fQ p) (hn:p.1=(n:Int)):(tms p.2.1).Pairwise fun a b=>G.gtE a.1 b.1=true:=by
 have tl:∀ i,i<p.2.1.length->(tmA p i).1.length=n:=fun i hi=>by have:=(hv.good i hi).1.len;omega
 have step:∀ d i,i+d+1<p.2.1.length->G.gtE (tmA p i).1 (tmA p (i+d+1)).1=true:=by
  intro d
  induction d with
  | zero =>
   intro i hi
   have h:=(hv.good (i+1) hi).2 F3
   exact (gt_G ((tl i F3).trans (tl (i+1) hi).symm)).1 h
  | succ d ih =>
   intro i hi
   have h:=(hv.good (i+d+2) hi).2 F3
   exact G.qX (ih i F3) ((gt_G ((tl (i+d+1) F3).trans (tl (i+d+2) hi).symm)).1 h)
 rw [List.pairwise_iff_getElem]
 intro i j hi hj hij
 have hi':i<p.2.1.length:=by simpa [tms] using hi
 have hj':j<p.2.1.length:=by simpa [tms] using hj
 have h:=step (j-i-1) i F3
 rw [show i+(j-i-1)+1=j by omega,show tmA p i=p.2.1[i] from cX hi',show tmA p j=p.2.1[j] from cX hj'] at h
 simp only [tms,List.getElem_map,uR]
 exact h
theorem Cg {p:bb} {n:Nat} (hv:fQ p) (hn:p.1=(n:Int)):Srt n (tms p.2.1) where
 ord:=Ch hv hn
 nz:=fun t ht h0=>by
  obtain ⟨u,hu,rfl⟩:=List.mem_map.1 ht
  obtain ⟨i,hi,rfl⟩:=List.getElem_of_mem hu
  have g:=(hv.good i hi).1
  rw [show tmA p i=p.2.1[i] from cX hi] at g
  have hc:CoOk 200 p.2.1[i].2.1:=g.co
  have hr:=hc.rb.1
  have h0':wJ p.2.1[i].2.1=0:=h0
  rw [h0'] at hr
  have h1:=bG aQ hr.2.1 (P.Can.zero WW)
  exact g.ne (by rw [h1];rfl)
 len:=fun t ht=>by
  obtain ⟨u,hu,rfl⟩:=List.mem_map.1 ht
  obtain ⟨i,hi,rfl⟩:=List.getElem_of_mem hu
  have g:=(hv.good i hi).1
  rw [show tmA p i=p.2.1[i] from cX hi] at g
  have:=g.len
  show p.2.1[i].1.length=n
  omega
theorem Cv {n K:Nat} {l:List aB} (hn:n<=8) (hl:l.length<=4000) (hK:K<=200) (hok:∀ u∈l,OkT n K u) (hs:Srt n (tms l)) (hd:∀ u∈l,sE u.1<=40) (hx:∀ u∈l,∀ e∈u.1,e<=40):fQ ((n:Int),l,()) where
 n0:=by show (0:Int)<=(n:Int);omega
 n8:=by show (n:Int)<=8;omega
 few:=hl
 good:=fun i hi=>by
  have hi':i<l.length:=hi
  have e:tmA ((n:Int),l,()) i=l[i]:=cX hi'
  have hm:=List.getElem_mem hi'
  obtain ⟨o1,o2,o3⟩:=hok l[i] hm
  refine ⟨?_,fun h0=>?_⟩
  ·rw [e]
   refine ⟨by show (l[i].1.length:Int)=(n:Int);omega,fun x h=>⟨(o2 x h).1,hx l[i] hm x h⟩,hd l[i] hm,o3.mono hK,fun h=>?_⟩
   have hz:l[i].2.1.2.1=[]:=List.length_eq_zero_iff.1 h
   have hr:=o3.rb.1
   refine hs.nz (uR l[i]) (List.mem_map.2 ⟨_,hm,rfl⟩) ?_
   show wJ l[i].2.1=0
   unfold wJ
   rw [hz]
   simp [vl,sg]
  have hp:i-1<l.length:=F3
  have e1:tmA ((n:Int),l,()) (i-1)=l[i-1]:=cX hp
  rw [e,e1]
  have h:=List.pairwise_iff_getElem.1 hs.ord (i-1) i (by simpa [tms] using hp) (by simpa [tms] using hi') F3
  simp only [tms,List.getElem_map,uR] at h
  exact (gt_G ((hok _ (List.getElem_mem hp)).1.trans o1.symm)).2 h
abbrev p1 (n:Nat) (e:List Int) (d:cD):bb:=((n:Int),[(e,d,())],())
end Go.Proofs.YtfbgaddecbiimaaGreatDoor.Q
end
section
namespace Go.Proofs.YtfbgaddecbiimaaGreatDoor.G
def val (x:List Rat) (p:List Tm):Rat:=lin (mv x) p
theorem wX:∀ {a:Ex},(∀ k∈a,(0:Int)<=k)->0<=rK a
 | [],_=>Int.le_refl _
 | a :: l,h=>by
  have:=h a (List.mem_cons_self ..)
  have:=wX (a:=l) (fun k hk=>h k (List.mem_cons_of_mem _ hk))
  simp only [rK];omega
theorem sI:∀ n,rK (List.replicate n 0)=0
 | 0=>rfl
 | n+1=>by rw [List.replicate_succ,rK,sI n];rfl
abbrev WB:Int:=4294967296
theorem wb_le {a b:Nat} (h:a<=b):WB ^ a<=WB ^ b:=by
 rcases Nat.lt_or_ge a b with g | g
 ·exact Int.le_of_lt (Int.pow_lt_pow_of_lt (by decide) g)
 rw [Nat.le_antisymm h g];exact Int.le_refl _
theorem yG (a:Nat):0<WB ^ a:=Int.pow_pos (by decide)
theorem yH {a b:Nat} {x y:Int} (hx:x<=WB ^ a) (hy:y<=WB ^ b) (h0:0<=y):x*y<=WB ^ (a+b):=by
 rw [Int.pow_add]
 exact Int.mul_le_mul hx hy h0 (Int.le_of_lt (yG a))
theorem wb_two (a:Nat):WB ^ a+WB ^ a<=WB ^ (a+1):=by
 have:=yG a
 rw [Int.pow_succ]
 show _<=WB ^ a*4294967296
 omega
def CB (k:Nat) (l:List Tm):Prop:=∃ D H:Int,0<D/\D<=WB ^ k/\H<=WB ^ k/\CL D H l
theorem CB.mono {k j:Nat} {l:List Tm} (h:CB k l) (hj:k<=j):CB j l:=by
 obtain ⟨D,H,h0,h1,h2,h3⟩:=h
 exact ⟨D,H,h0,Int.le_trans h1 (wb_le hj),Int.le_trans h2 (wb_le hj),h3⟩
theorem CB.nil (k:Nat):CB k []:=⟨1,0,by decide,by have:=yG k;omega,Int.le_of_lt (yG k),by show (0:Int)<=0;decide⟩
theorem CL.mulD {D c:Int} (hc:0<c):∀ {l:List Tm} {H:Int},CL D H l->CL (D*c) (H*c) l
 | [],H,h=>Int.mul_nonneg h F3
 | t :: l,H,⟨z,h1,h2⟩=>by
  refine ⟨z*c,?_,(CL.mulD hc h2).mono ?_⟩
  ·rw [Rat.intCast_mul,Rat.intCast_mul,<- h1];grind
  rw [Int.natAbs_mul,Int.natCast_mul,Int.sub_mul]
  have:(c.natAbs:Int)=c:=F3
  rw [this];omega
theorem CB.append {a b:Nat} {p q:List Tm} (h:CB a p) (h':CB b q):CB (a+b+1) (p++q):=by
 obtain ⟨D,H,h0,h1,h2,h3⟩:=h
 obtain ⟨D',H',g0,g1,g2,g3⟩:=h'
 refine ⟨D*D',H*D'+H'*D,Int.mul_pos h0 g0,Int.le_trans (yH h1 g1 F3) (wb_le F3),?_,?_⟩
 ·have a1:=yH h2 g1 F3
  have a2:=yH g2 h1 F3
  rw [Nat.add_comm b a] at a2
  have:=wb_two (a+b)
  omega
 have a1:=CL.mulD g0 h3
 have a2:=CL.mulD h0 g3
 rw [Int.mul_comm D' D] at a2
 exact a1.append a2
def Wd (k:Nat) (c:Rat):Prop:=(c.num.natAbs:Int)<=WB ^ k/\(c.den:Int)<=WB ^ k
theorem Wd.cz {k:Nat} {c:Rat} (h:Wd k c):Cz (c.den:Int) (WB ^ k) c:=by
 refine ⟨c.num,?_,h.1⟩
 have h0:((c.den:Int):Rat)≠0:=by
  intro e
  have:=Rat.intCast_inj.1 (e.trans Rat.intCast_zero.symm)
  have:=c.den_pos
  omega
 have h1:=Rat.num_divInt_den c
 rw [Rat.divInt_eq_div] at h1
 generalize ((c.den:Int):Rat)=d at *
 generalize hn:(c.num:Rat)=m at *
 rw [<- h1,Rat.div_mul_cancel h0]
theorem CB.single {k:Nat} {t:Tm} (h:Wd k t.2):CB k [t]:=by
 obtain ⟨z,h1,h2⟩:=h.cz
 exact ⟨t.2.den,WB ^ k,by have:=t.2.den_pos;omega,h.2,Int.le_refl _,z,h1,by show (0:Int)<=_;omega⟩
theorem CB.list {k:Nat}:∀ {l:List Tm},(∀ t∈l,Wd k t.2)->CB (l.length*(k+1)) l
 | [],_=>CB.nil _
 | t :: l,h=>by
  have h1:=CB.list (l:=l) fun u hu=>h u (List.mem_cons_of_mem _ hu)
  have h2:=(CB.single (h t (List.mem_cons_self ..))).append h1
  refine CB.mono h2 ?_
  rw [List.length_cons,Nat.succ_mul];omega
theorem CB.co {k:Nat} {l:List Tm} (h:CB k l) (e:Ex):Wd k (co l e):=by
 obtain ⟨D,H,h0,h1,h2,h3⟩:=h
 obtain ⟨a,b⟩:=(CL.co e h3).size h0
 exact ⟨Int.le_trans b h2,Int.le_trans a h1⟩
theorem Dst.wd {n k:Nat} {p q:List Tm} (hp:Dst n p) (he:∀ e,G.co p e=G.co q e) (h:CB k q) {t:Tm} (ht:t∈p):Wd k t.2:=by
 rw [<- hp.ry t ht,he]
 exact h.co _
theorem CL.sub {D:Int} (f:Tm->Bool) (g:Tm->Tm) (hg:∀ t,(g t).2=t.2):∀ {l:List Tm} {H:Int},CL D H l->CL D H ((l.filter f).map g)
 | [],H,h=>h
 | t :: l,H,⟨z,h1,h2⟩=>by
  have ih:=CL.sub f g hg h2
  cases c:f t with
  | true =>
   rw [List.filter_cons_of_pos c,List.map_cons]
   exact ⟨z,by rw [hg];exact h1,ih⟩
  | false =>
   rw [List.filter_cons_of_neg (by simp [c])]
   exact ih.mono F3
theorem CB.cfi {k i:Nat} {j:Int} {p:List Tm} (h:CB k p):CB k (cfi i j p):=by
 obtain ⟨D,H,h0,h1,h2,h3⟩:=h
 exact ⟨D,H,h0,h1,h2,CL.sub _ (fun t=>(t.1.set i 0,t.2)) (fun _=>rfl) h3⟩
def XB (E:Int) (q:List Tm):Prop:=∀ t∈q,(∀ x∈t.1,(0:Int)<=x)/\rK t.1<=E
theorem XB.mono {E F:Int} {q:List Tm} (h:XB E q) (hF:E<=F):XB F q:=fun t ht=>⟨(h t ht).1,Int.le_trans (h t ht).2 hF⟩
theorem XB.one (n:Nat):XB 0 (one n):=fun t ht=>by
 have e:t=(zE n,1):=by simpa [G.one] using ht
 subst e
 refine ⟨fun x hx=>?_,?_⟩
 ·have:=List.eq_of_mem_replicate hx
  omega
 show rK (List.replicate n 0)<=0
 rw [sI];exact Int.le_refl _
theorem XB.of {n:Nat} {E:Int} {p r:List Tm} (h:Dst n p) (he:∀ e,co p e=co r e) (hr:XB E r):XB E p:=fun t ht=>by
 obtain ⟨u,hu,e⟩:=h.from he ht
 rw [<- e];exact hr u hu
theorem tH:∀ {a:Ex} {i:Nat} (h:i<a.length) (x:Int),rK (a.set i x)=rK a-a[i]+x
 | b :: a,0,_,x=>by simp only [List.set_cons_zero,rK,List.getElem_cons_zero];omega
 | b :: a,i+1,h,x=>by
  have ih:=tH (a:=a) (i:=i) (by simpa using h) x
  simp only [List.set_cons_succ,rK,List.getElem_cons_succ,ih];omega
theorem qS:∀ {a:Ex} {x:Int},(∀ y∈a,(0:Int)<=y)->x∈a->x<=rK a
 | b :: a,x,h,hx=>by
  have hb:=h b (List.mem_cons_self ..)
  have hs:=wX (a:=a) fun y hy=>h y (List.mem_cons_of_mem _ hy)
  simp only [rK]
  rcases List.mem_cons.1 hx with e | e
  ·omega
  have:=qS (fun y hy=>h y (List.mem_cons_of_mem _ hy)) e;omega
theorem mem_set {a:Ex} {i:Nat} {x y:Int} (h:∀ z∈a,(0:Int)<=z) (hx:0<=x) (hy:y∈a.set i x):0<=y:=by
 rcases List.mem_or_eq_of_mem_set hy with g | g
 ·exact h y g
 omega
theorem kO {a:Ex} {i:Nat} (h:i<a.length):a.getD i 0=a[i]:=by simp [List.getD_eq_getElem?_getD,h]
theorem XB.cfi {n i:Nat} {j E:Int} {p:List Tm} (hi:i<n) (hl:Len n p) (h:XB E p):XB E (cfi i j p):=fun t ht=>by
 obtain ⟨u,hu,rfl⟩:=List.mem_map.1 ht
 have hu:=(List.mem_filter.1 hu).1
 obtain ⟨a,b⟩:=h u hu
 have hil:i<u.1.length:=by rw [hl u hu];exact hi
 refine ⟨fun x hx=>mem_set a (Int.le_refl _) hx,?_⟩
 show rK (u.1.set i 0)<=E
 rw [tH hil]
 have:=a _ (List.getElem_mem hil)
 omega
theorem Len.cfi {n i:Nat} {j:Int} {p:List Tm} (hl:Len n p):Len n (cfi i j p):=fun t ht=>by
 obtain ⟨u,hu,rfl⟩:=List.mem_map.1 ht
 show (u.1.set i 0).length=n
 rw [List.length_set];exact hl u (List.mem_filter.1 hu).1
theorem Len.drv {n i:Nat} {p:List Tm} (hl:Len n p):Len n (drv i p):=fun t ht=>by
 obtain ⟨u,hu,rfl⟩:=List.mem_map.1 ht
 show (u.1.set i _).length=n
 rw [List.length_set];exact hl u (List.mem_filter.1 hu).1
theorem XB.drv {n i:Nat} {E:Int} {p:List Tm} (hi:i<n) (hl:Len n p) (h:XB E p):XB E (drv i p):=fun t ht=>by
 obtain ⟨u,hu,rfl⟩:=List.mem_map.1 ht
 obtain ⟨hu,hp⟩:=List.mem_filter.1 hu
 obtain ⟨a,b⟩:=h u hu
 have hil:i<u.1.length:=by rw [hl u hu];exact hi
 rw [kO hil,decide_eq_true_eq] at hp
 refine ⟨fun x hx=>mem_set a (by rw [kO hil];omega) hx,?_⟩
 show rK (u.1.set i (u.1.getD i 0-1))<=E
 rw [tH hil,kO hil]
 omega
end Go.Proofs.YtfbgaddecbiimaaGreatDoor.G
end
section
namespace Go.Proofs.YtfbgaddecbiimaaGreatDoor.Q
open Go.RowKit Go.Proofs.YtfbgaddecbiimaaGreatDoorW.PrintWords Go.Proofs.YtfbgaddecbiimaaGreatDoorW.PrintMore Go.Proofs.YtfbgaddecbiimaaGreatDoor.V Go.Proofs.YtfbgaddecbiimaaGreatDoor.E
open Go.Proofs.YtfbgaddecbiimaaGreatDoor.P (Dg Nm vl WW RR bG gI evs evk evb fz aQ bE bj cR w64 u64)
open Go.Proofs.YtfbgaddecbiimaaGreatDoor.G (Ex Tm lin co Eqv Srt Dst rL CB XB Wd Len WB)
structure PT (n K M:Nat) (q:List Tm) (l:List aB):Prop where
 len:l.length<=M
 ok:∀ u∈l,OkT n K u
 srt:Srt n (tms l)
 eqv:Eqv (tms l) q
structure RT (n K M:Nat) (q:List Tm) (r:List aB):Prop where
 len:r.length<=M
 ok:∀ u∈r,OkR n K u
 dst:Dst n (fG n r)
 eqv:Eqv (fG n r) q
theorem p9:∀ a,sE a=G.rK a
 | []=>rfl
 | x :: a=>by rw [sE,G.rK,p9 a]
theorem wd_sz {k:Nat} {c:Rat} (h:Wd k c):Sz WW (k+1) c:=by
 have:WB ^ k<WW ^ (k+1):=Int.pow_lt_pow_of_lt (by decide) F3
 exact ⟨Int.lt_of_le_of_lt h.1 this,Int.lt_of_le_of_lt h.2 this⟩
theorem sz_wd {k:Nat} {c:Rat} (h:Sz WW k c):Wd k c:=⟨Int.le_of_lt h.1,Int.le_of_lt h.2⟩
theorem wb_rr:∀ k:Nat,WB ^ k<=RR ^ (3*k)
 | 0=>by decide
 | k+1=>by
  have h:=wb_rr k
  have e:RR ^ (3*(k+1))=RR ^ (3*k)*RR ^ 3:=by rw [<- Int.pow_add];rfl
  rw [Int.pow_succ,e]
  exact Int.mul_le_mul h (by decide) (by decide) (Int.le_of_lt (Int.pow_pos (by decide)))
theorem wd_szR {k:Nat} {c:Rat} (h:Wd k c):Sz RR (3*k+1) c:=by
 have h1:=wb_rr k
 have h2:RR ^ (3*k)<RR ^ (3*k+1):=Int.pow_lt_pow_of_lt (by decide) F3
 exact ⟨by have:=h.1;omega,by have:=h.2;omega⟩
section
variable {n K M L N k:Nat} {q q':List Tm} {l r:List aB} {E:Int}
theorem Cp {u:aB} (hu:u∈l):uR u∈tms l:=List.mem_map_of_mem hu
theorem pz {u:aB} (hu:u∈r):tmR n u∈fG n r:=List.mem_map_of_mem hu
theorem tms_len:(tms l).length=l.length:=List.length_map ..
theorem PT.fit (h:PT n K M q l) (hc:CB k q):PT n (k+1) M q l:=⟨h.len,fun u hu=>by
 obtain ⟨o1,o2,o3⟩:=h.ok u hu
 exact ⟨o1,o2,wJ u.2.1,o3.rb.1,wd_sz (h.srt.dst.wd (fun e=>h.eqv.co e) hc (Cp hu))⟩,h.srt,h.eqv⟩
theorem PT.xbq (h:PT n K M q l) (hx:XB E q):XB E (tms l):=XB.of h.srt.dst (fun e=>h.eqv.co e) hx
theorem RT.xbq (h:RT n K M q r) (hx:XB E q):XB E (fG n r):=XB.of h.dst (fun e=>h.eqv.co e) hx
theorem PT.xb (h:PT n K M q l) (hx:XB E q) {u:aB} (hu:u∈l):(∀ x∈u.1,0<=x/\x<=E)/\sE u.1<=E:=by
 obtain ⟨a,b⟩:=h.xbq hx _ (Cp hu)
 have b':G.rK u.1<=E:=b
 refine ⟨fun x hx'=>⟨a x hx',Int.le_trans (G.qS a hx') b⟩,?_⟩
 rw [p9];exact b'
theorem OkR.bound {t:aB} (h:OkR n K t) {B:Int} (hB:0<=B) (hn:n<=8) (hx:∀ x∈t.1.take n,0<=x/\x<=B) (j:Nat):0<=t.1.getD j 0/\t.1.getD j 0<=B:=by
 rw [h.1,eL,cp _ _ _ (by have:=h.2.1;omega),List.getD_eq_getElem?_getD]
 by_cases c:j<(t.1.take n++List.replicate (8-(t.1.take n).length) 0).length
 ·rw [List.getElem?_eq_getElem c]
  have hm:=List.getElem_mem c
  rw [Option.getD_some]
  rcases List.mem_append.1 hm with g | g
  ·exact hx _ g
  have:=List.eq_of_mem_replicate g
  omega
 rw [List.getElem?_eq_none F3]
 exact ⟨Int.le_refl _,hB⟩
theorem RT.bnd (h:RT n K M q r) (hx:XB E q) (hE:0<=E) (hn:n<=8) {u:aB} (hu:u∈r) (j:Nat):0<=u.1.getD j 0/\u.1.getD j 0<=E:=by
 obtain ⟨a,b⟩:=h.xbq hx _ (pz hu)
 exact (h.ok u hu).bound hE hn (fun x hx'=>⟨a x hx',Int.le_trans (G.qS a hx') b⟩) j
theorem okT_arg (hn:n<=8) {u:aB} (h:OkT n K u):ArgM u:=by
 obtain ⟨o1,o2,o3⟩:=h
 have hr:=o3.rb.1
 exact ⟨F3,hr.2.1.1,hr.2.2.1,trivial,trivial⟩
theorem PT.arg (h:PT n K M q l) (hn:n<=8) (hM:M<=1000000000):uJ ((n:Int),l,()):=⟨by have:=h.len;show l.length<=_;omega,fun u hu=>okT_arg hn (h.ok u hu)⟩
theorem PT.few (h:PT n K M q l) (hn:n<=8) (hM:M<=1000000000) (hK:K<=1000000000):FewW ((n:Int),l,()):=by
 refine ⟨by have:=h.len;show l.length<=_;omega,fun i hi=>?_⟩
 have hi':i<l.length:=hi
 have e:tmA ((n:Int),l,()) i=l[i]:=cX hi'
 obtain ⟨o1,o2,o3⟩:=h.ok _ (List.getElem_mem hi')
 obtain ⟨l1,l2⟩:=jb bE o3.rb.1 o3.rb.2
 rw [e]
 exact ⟨F3,F3,F3⟩
theorem PT.is (h:PT n K M q l) (g:RT n L N q' r) (he:Eqv q q') (hn:n<=8) (hM:M<=1000000000) (hN:N<=100000) (hK:K<=1000000000) (hL:L<1073741824):Ev (fun k=>cn k ((n:Int),l,()) r (n:Int)) true :=
 Is_of hn h.ok g.ok (h.few hn hM hK) hL (Nat.le_trans g.len hN) h.srt g.dst (h.eqv.trans (he.trans g.eqv.symm))
theorem PT.valid (h:PT n K M q l) (hn:n<=8) (hM:M<=4000) (hc:CB 199 q) (hx:XB 40 q):fQ ((n:Int),l,()):=by
 have h':=h.fit hc
 exact Cv hn (Nat.le_trans h.len hM) (Nat.le_refl 200) h'.ok h.srt (fun u hu=>(h.xb hx hu).2) (fun u hu e he=>((h.xb hx hu).1 e he).2)
theorem n9 (h:PT n K M q l) (hn:n<=8) (hM:M<=4000) (hc:CB 199 q) (hx:XB 40 q):Ev (fun k=>gN k ((n:Int),l,())) (((n:Int),l,()),(0:Int),()):=by
 have e:=ij (h.arg hn F3)
 rw [fF (h.valid hn hM hc hx)] at e
 have hl:=h.len
 exact Ev.step (fun k=>qp k _) (Ev.bind e (bF rfl (Ev.bind (xD hn F3 F3 (h.fit hc).ok) (evs _))))
end
theorem evu {α:Type} {f:Nat->Option α} {a b:α} (h:Ev f a) (g:Ev f b):a=b:=by
 obtain ⟨K,h⟩:=h
 obtain ⟨L,g⟩:=g
 have:=(h (max K L) F3).symm.trans (g (max K L) F3)
 exact Option.some.inj this
open Go.Proofs.YtfbgaddecbiimaaGreatDoor.G (deg)
theorem ym (f:aB->Tm):∀ (l:List aB) (a:Int),-1<=a->(∀ t∈l,G.rK (f t).1=sE t.1)->dgM l a=max a (deg (l.map f))
 | [],a,ha,_=>by show a=max a (-1);omega
 | t :: l,a,ha,h=>by
  have e:=h t F4
  have ih:=ym f l (mx a (sE t.1)) (by unfold mx;split<;>omega) fun u hu=>h u (by simp [hu])
  show dgM l (mx a (sE t.1))=max a (max (G.rK (f t).1) (deg (l.map f)))
  rw [ih,e]
  unfold mx
  split<;>omega
theorem dgM_tms (l:List aB):dgM l (-1)=deg (tms l):=by
 rw [ym uR l (-1) F3 (fun t _=>(p9 _).symm)]
 have:=G.D9 (tms l)
 show max (-1) (deg (tms l))=_
 omega
section
variable {n K M L N k:Nat} {q q':List Tm} {l l' r:List aB} {E F:Int}
theorem OkR.sum {t:aB} (h:OkR n K t) (hn:n<=8):sE t.1=sE (t.1.take n):=by
 conv=>lhs;rw [h.1]
 exact sE_pad (by have:=h.2.1;omega)
theorem dgM_tmsR (h:∀ u∈r,OkR n K u) (hn:n<=8):dgM r (-1)=deg (fG n r):=by
 rw [ym (tmR n) r (-1) F3 (fun t ht=>by rw [(h t ht).sum hn,p9];rfl)]
 have:=G.D9 (fG n r)
 show max (-1) (deg (fG n r))=_
 omega
theorem XB.pos (h:XB E q) {t:Tm} (ht:t∈q):0<=E:=Int.le_trans (G.wX (h t ht).1) (h t ht).2
theorem mS (h:∀ u∈r,OkR n K u) (hn:n<=8) (hl:r.length<=1000000000) (hx:XB E (fG n r)) (hE:E<=1000000):Ev (fun k=>aT k r) (deg (fG n r)):=by
 rw [<- dgM_tmsR h hn]
 have main:=dnw (n:=r.length) (P:=fun i=>∀ x:Int,Ev2 (fun k m=>aT.l0 k m x r (r.length:Int) (i:Int)) (dgM (r.drop i) x)) ?_ ?_ 0 (Nat.zero_le _) (-1)
 ·exact Ev.step (fun k=>fN k r) main.diag
 ·intro x
  rw [List.drop_length]
  exact Ev2.step (fun k m=>aT.ba k m _ _ _ _) (Ev2.bF (decide_eq_false F3) (Ev2.of (evs _)))
 intro i hi ih x
 have e:(rdT (t:=af) r (i:Int):aB)=r[i]:=cX hi
 have hm:=List.getElem_mem hi
 obtain ⟨a,b⟩:=hx _ (pz hm)
 have hE0:0<=E:=XB.pos hx (pz hm)
 refine Ev2.step (fun k m=>aT.ba k m _ _ _ _) (Ev2.bT (decide_eq_true F3) (Ev2.iT F3 ?_))
 rw [e,ef hi]
 refine Ev2.bind (ku _ (h _ hm).len (fun x hx'=>?_)) ?_
 ·obtain ⟨j,hj,rfl⟩:=List.getElem_of_mem hx'
  have:=(h _ hm).bound hE0 hn (fun x hx'=>⟨a x hx',Int.le_trans (G.qS a hx') b⟩) j
  rw [G.kO hj] at this
  omega
 rw [mr F3]
 exact ih _
end
theorem Bx {z:Int} (h0:-1000000000<=z) (h1:z<=1000000000):∃ r,Ev (fun k=>nX k z) r/\RB WW r (z:Rat)/\Sz WW 1 (z:Rat):=by
 have hs:Sz WW 1 (z:Rat):=by
  refine ⟨?_,by rw [Rat.den_intCast];decide⟩
  rw [Rat.num_intCast,Int.pow_succ,Int.pow_zero]
  show (z.natAbs:Int)<1*4294967296
  omega
 by_cases c:z<0
 ·obtain ⟨x,x1,x2⟩:=P.eA (a:=-z) F3 F3
  have hx:x.length<1073741824:=by
   have:=x2.fM bE (k:=1) (by rw [Int.pow_succ,Int.pow_zero];show -z<1*4294967296;omega)
   omega
  obtain ⟨r,r1,r2⟩:=jJ (s:=true) (a:=x) (b:=[1]) hx F4 x2 (Ek bE) (by decide)
  refine ⟨r,Ev.step (fun k=>nW k z) (bT (decide_eq_true c) (Ev.bind (Ev.step (fun k=>mi k _) ?_) (Ev.bind r1 (evs _)))),?_,hs⟩
  ·rw [w64 (x:=z+1) F3 F3,w64 F3 F3,u64 (x:=-(z+1)) F3 F3,u64 F3 F3,show -(z+1)+1 = -z by omega]
   exact x1
  rw [oq] at r2
  rw [show z=sg true (-z) by simp [sg]]
  exact r2
 obtain ⟨x,x1,x2⟩:=P.eA (a:=z) F3 F3
 have hx:x.length<1073741824:=by
  have:=x2.fM bE (k:=1) (by rw [Int.pow_succ,Int.pow_zero];show z<1*4294967296;omega)
  omega
 obtain ⟨r,r1,r2⟩:=jJ (s:=false) (a:=x) (b:=[1]) hx F4 x2 (Ek bE) (by decide)
 refine ⟨r,Ev.step (fun k=>nW k z) (bF (decide_eq_false c) (Ev.bind (Ev.step (fun k=>mi k _) ?_) (Ev.bind r1 (evs _)))),?_,hs⟩
 ·rw [u64 F3 F3]
  exact x1
 rw [oq] at r2
 exact r2
theorem can_rb {B:Int} (hB:1<B) {x:List Int} {z:Int} {s:Bool} (hs:s=decide (z<0)) (h:P.Can B x (z.natAbs:Int)):RB B (s,x,[1],()) (z:Rat):=⟨by rw [Rat.num_intCast];exact hs,by rw [Rat.num_intCast];exact h,by rw [Rat.den_intCast];exact Ek hB⟩
theorem AY {z:Int} (h0:-1000000000<=z) (h1:z<=1000000000):∃ r,Ev (fun k=>ga k z) r/\RB RR r (z:Rat)/\Sz RR 3 (z:Rat):=by
 have hs:Sz RR 3 (z:Rat):=by
  refine ⟨?_,by rw [Rat.den_intCast];decide⟩
  rw [Rat.num_intCast]
  show (z.natAbs:Int)<10000 ^ 3
  omega
 by_cases c:z<0
 ·obtain ⟨x,x1,x2⟩:=s_Int (a:=-z) F3 F3
  refine ⟨_,Ev.step (fun k=>gT k z) (bT (decide_eq_true c) ?_),can_rb cR (s:=true) (decide_eq_true c).symm (by rw [show (z.natAbs:Int) = -z by omega];exact x2),hs⟩
  rw [w64 F3 F3]
  exact Ev.bind x1 (evs _)
 obtain ⟨x,x1,x2⟩:=s_Int (a:=z) F3 F3
 exact ⟨_,Ev.step (fun k=>gT k z) (bF (decide_eq_false c) (Ev.bind x1 (evs _))),can_rb cR (s:=false) (decide_eq_false c).symm (by rw [show (z.natAbs:Int)=z by omega];exact x2),hs⟩
section
variable {p:bb}
theorem Ah.okT {n a c:Nat} (hs:Ah p a c) (hn:p.1=(n:Int)):∀ u∈p.2.1,OkT n c u:=by
 obtain ⟨m,m8,mn,mo⟩:=yM hs.ok
 obtain rfl:m=n:=F3
 intro u hu
 obtain ⟨o1,o2,o3⟩:=mo u hu
 obtain ⟨i,hi,rfl⟩:=List.getElem_of_mem hu
 have e:tmA p i=p.2.1[i]:=cX hi
 have hsh:=hs.short i hi
 rw [e] at hsh
 exact ⟨o1,o2,_,o3.rb.1,wW aQ o3.rb.1 hsh.1 hsh.2⟩
theorem valid_xb {n:Nat} (hv:fQ p) (hn:p.1=(n:Int)) {b:Int} (hb:deg (tms p.2.1)<=b):XB b (tms p.2.1):=fun t ht=>by
 refine ⟨?_,Int.le_trans (G.le_deg ht) hb⟩
 obtain ⟨u,hu,rfl⟩:=List.mem_map.1 ht
 obtain ⟨m,m8,mn,mo⟩:=yM hv
 exact fun x hx=>((mo u hu).2.1 x hx).1
theorem Aq {n:Nat} (hv:fQ p) (hn:p.1=(n:Int)):XB 40 (tms p.2.1):=fun t ht=>by
 obtain ⟨u,hu,rfl⟩:=List.mem_map.1 ht
 obtain ⟨i,hi,rfl⟩:=List.getElem_of_mem hu
 have g:=(hv.good i hi).1
 rw [show tmA p i=p.2.1[i] from cX hi] at g
 exact ⟨fun x hx=>(g.ex x hx).1,by have:=g.sum;rw [p9] at this;exact this⟩
theorem tQ (ha:uJ p) {a c:Nat} (hs:Ah p a c) (b:Int):Ev (fun k=>aU k p (a:Int) b (c:Int)) (decide (deg (tms p.2.1)<=b)):=by
 have hlen:=ha.1
 have hv:=hs.ok
 have h0:=hv.n0
 have h8:=hv.n8
 have hf:=hv.few
 have ha':=hs.few
 have hn:p.1=((p.1.toNat:Nat):Int):=F3
 obtain ⟨r,r1,r2,r3,r4⟩:=Dq ha hv hn
 have hd:=mS r3 F3 F3 (by rw [r4];exact Aq hv hn) F3
 rw [r4] at hd
 have hval:=jC ha
 rw [fF hv] at hval
 have main:=dnw (n:=p.2.1.length) (P:=fun i=>Ev2 (fun k m=>aU.l0 k m b (c:Int) p.2.1 (p.2.1.length:Int) (i:Int) p) (decide (deg (tms p.2.1)<=b))) ?_ ?_ 0 (Nat.zero_le _)
 ·exact Ev.step (fun k=>cT k p _ _ _) (Ev.bind (a:=false) (bF (decide_eq_false F3) (rN F3)) (Ev.bind (a:=false) (bF rfl (rN F3)) (bF rfl main.diag)))
 ·exact Ev2.step (fun k m=>aU.ba k m _ _ _ _ _ _) (Ev2.bF (decide_eq_false F3) (Ev2.of (Ev.bind hval (Ev.bind (bT rfl (Ev.bind r1 (Ev.bind hd (evs _)))) (evs _)))))
 intro i hi ih
 have hsh:Ev (fun k=>bY k (tmA p i).2.1 (c:Int)) _:=jd (tmA p i).2.1 c
 rw [decide_eq_true (hs.short i hi)] at hsh
 refine Ev2.step (fun k m=>aU.ba k m _ _ _ _ _ _) (Ev2.bT (decide_eq_true F3) (Ev2.iT F3 (Ev2.bind hsh (Ev2.bF rfl ?_))))
 rw [mr F3]
 exact ih
end
structure SmP (p:bb) (n a c:Nat) (b:Int):Prop where
 n8:n<=8
 eq:p=((n:Int),p.2.1,())
 ok:fQ p
 arg:uJ p
 pt:PT n c a (tms p.2.1) p.2.1
 cb:CB (a*(c+1)) (tms p.2.1)
 xb:XB b (tms p.2.1)
theorem cb_few {a c:Nat} {l:List Tm} (hl:l.length<=a) (h:∀ t∈l,Wd c t.2):CB (a*(c+1)) l:=(CB.list h).mono (Nat.mul_le_mul_right _ hl)
theorem uZ {p:bb} (ha:uJ p) (a c:Nat) (b:Int):∃ t,Ev (fun k=>aU k p (a:Int) b (c:Int)) t/\(t=true->∃ n,SmP p n a c b):=by
 obtain ⟨t,t1,t2⟩:=vt ha a c b
 refine ⟨t,t1,fun h=>?_⟩
 have hs:=t2 h
 have hv:=hs.ok
 have h0:=hv.n0
 have h8:=hv.n8
 have hn:p.1=((p.1.toNat:Nat):Int):=F3
 have hd:=evu t1 (tQ ha hs b)
 rw [h] at hd
 have hd:=of_decide_eq_true hd.symm
 have hok:=hs.okT hn
 have hpt:PT p.1.toNat c a (tms p.2.1) p.2.1:=⟨hs.few,hok,Cg hv hn,.refl _⟩
 refine ⟨p.1.toNat,F3,by rw [<- hn],hv,ha,hpt,cb_few (by rw [tms_len];exact hs.few) (fun t ht=>?_),valid_xb hv hn hd⟩
 obtain ⟨u,hu,rfl⟩:=List.mem_map.1 ht
 exact sz_wd (hok u hu).2.2.rb.2
section
variable {p p':bb} {n a c:Nat} {b:Int}
theorem SmP.len (h:SmP p n a c b):Len n (tms p.2.1):=h.pt.srt.len
theorem SmP.rte (h:SmP p n a c b):∃ r,Ev (fun k=>bH k p) r/\RT n (3*c+1) a (tms p.2.1) r/\fG n r=tms p.2.1:=by
 have hn:p.1=(n:Int):=by rw [h.eq]
 obtain ⟨r,r1,r2,r3,r4⟩:=Dq h.arg h.ok hn
 refine ⟨r,r1,⟨by rw [r2];exact h.pt.len,fun u hu=>?_,by rw [r4];exact h.pt.srt.dst,by rw [r4];exact .refl _⟩,r4⟩
 obtain ⟨o1,o2,o3⟩:=r3 u hu
 have hm:=pz (n:=n) hu
 rw [r4] at hm
 obtain ⟨w,hw,e⟩:=List.mem_map.1 hm
 have e2:wJ w.2.1=uM u.2.1:=congrArg Prod.snd e
 have hz:=(h.pt.ok w hw).2.2.rb.2
 rw [e2] at hz
 exact ⟨o1,o2,_,o3.rb.1,wd_szR (sz_wd hz)⟩
theorem uo (ha:uJ p) (hb:uJ p'):∃ t,Ev (fun k=>fp k p p') t/\(t=true->∃ n,SmP p n 12 2 8/\SmP p' n 12 2 8):=by
 obtain ⟨t1,a1,a2⟩:=uZ ha 12 2 8
 obtain ⟨t2,b1,b2⟩:=uZ hb 12 2 8
 by_cases c:p.1=p'.1
 ·refine ⟨t1&&t2,Ev.step (fun k=>gb k p p') (Ev.bind (a:=t1) (bT (by simp [c]) (Ev.bind a1 (evs _))) (Ev.bind (a:=t1&&t2) ?_ (evs _))),fun h=>?_⟩
  ·cases t1 with
   | true=>exact bT rfl (Ev.bind b1 (evs _))
   | false=>exact bF rfl (evs _)
  rw [Bool.and_eq_true] at h
  obtain ⟨n,hn⟩:=a2 h.1
  obtain ⟨m,hm⟩:=b2 h.2
  have e:n=m:=by
   have h1:p.1=(n:Int):=by rw [hn.eq]
   have h2:p'.1=(m:Int):=by rw [hm.eq]
   omega
  subst e
  exact ⟨n,hn,hm⟩
 exact ⟨false,Ev.step (fun k=>gb k p p') (Ev.bind (a:=false) (bF (by simp [c]) (evs _)) (Ev.bind (a:=false) (bF rfl (evs _)) (evs _))),fun h=>by cases h⟩
theorem Dr {v:cD} (ha:Arg v):∃ t,Ev (fun k=>e9 k v) t/\(t=true->Vd v/\∃ q,RB WW v q/\Sz WW 2 q):=by
 have h1:=jd v 2
 by_cases c:v.2.1.length<=2/\v.2.2.1.length<=2
 ·rw [decide_eq_true c] at h1
  obtain ⟨t,t1,t2⟩:=oE ha
  refine ⟨t,Ev.step (fun k=>fO k v) (Ev.bind h1 (Ev.bind (bT rfl (Ev.bind t1 (evs _))) (evs _))),fun h=>?_⟩
  obtain ⟨q,q1,q2⟩:=t2.1 h
  exact ⟨t2.1 h,q,q1,wW aQ q1 c.1 c.2⟩
 rw [decide_eq_false c] at h1
 exact ⟨false,Ev.step (fun k=>fO k v) (Ev.bind h1 (Ev.bind (a:=false) (bF rfl (evs _)) (evs _))),fun h=>by cases h⟩
end
end Go.Proofs.YtfbgaddecbiimaaGreatDoor.Q
end
section
namespace Go.Proofs.YtfbgaddecbiimaaGreatDoor.G
def jl (n i:Nat) (c:Int):Ex:=(List.replicate n 0).set i c
theorem fv (n i:Nat) (c:Int):(jl n i c).length=n:=by simp [jl]
theorem tL {n i:Nat} {a:Ex} (ha:a.length=n) (hi:i<n) (c:Int):a.set i (a.getD i 0+c)=addE a (jl n i c):=by
 apply List.ext_getElem (by simp [addE,jl,ha])
 intro j h1 h2
 have hj:j<a.length:=by simpa using h1
 simp only [addE,jl,List.getElem_zipWith,List.getElem_set,List.getElem_replicate]
 by_cases e:i=j
 ·subst e
  rw [if_pos rfl,if_pos rfl,kO hj]
 rw [if_neg e,if_neg e,Int.add_zero]
theorem set_gt {n i:Nat} {a b:Ex} (ha:a.length=n) (hb:b.length=n) (hi:i<n) (c:Int) (h:gtE a b=true):gtE (a.set i (a.getD i 0+c)) (b.set i (b.getD i 0+c))=true:=by
 rw [tL ha hi,tL hb hi]
 exact EJ (by rw [ha,fv]) (by rw [hb,fv]) h
theorem CF {n i:Nat} {a b:Ex} (ha:a.length=n) (hb:b.length=n) (hi:i<n) (c:Int) (h:a.set i (a.getD i 0+c)=b.set i (b.getD i 0+c)):a=b:=by
 rw [tL ha hi,tL hb hi] at h
 exact Ag (by rw [ha,fv]) (by rw [hb,fv]) h
theorem Srt.cfi {n i:Nat} {j:Int} {p:List Tm} (h:Srt n p) (hi:i<n):Srt n (cfi i j p):=by
 refine ⟨List.pairwise_map.2 ((h.ord.sublist List.filter_sublist).imp_of_mem fun {a b} ha hb g=>?_),fun t ht=>?_,Len.cfi h.len⟩
 ·obtain ⟨ha,ea⟩:=List.mem_filter.1 ha
  obtain ⟨hb,eb⟩:=List.mem_filter.1 hb
  have ea:a.1.getD i 0=j:=by simpa using ea
  have eb:b.1.getD i 0=j:=by simpa using eb
  have:=set_gt (h.len a ha) (h.len b hb) hi (-j) g
  rw [ea,eb,show j + -j=0 by omega] at this
  exact this
 obtain ⟨u,hu,rfl⟩:=List.mem_map.1 ht
 exact h.nz u (List.mem_filter.1 hu).1
theorem Dst.cfi {n i:Nat} {j:Int} {p:List Tm} (h:Dst n p) (hi:i<n):Dst n (cfi i j p):=by
 refine ⟨List.pairwise_map.2 ((h.ne.sublist List.filter_sublist).imp_of_mem fun {a b} ha hb g=>?_),fun t ht=>?_,Len.cfi h.len⟩
 ·obtain ⟨ha,ea⟩:=List.mem_filter.1 ha
  obtain ⟨hb,eb⟩:=List.mem_filter.1 hb
  have ea:a.1.getD i 0=j:=by simpa using ea
  have eb:b.1.getD i 0=j:=by simpa using eb
  intro e
  refine g (CF (h.len a ha) (h.len b hb) hi (-j) ?_)
  rw [ea,eb,show j + -j=0 by omega]
  exact e
 obtain ⟨u,hu,rfl⟩:=List.mem_map.1 ht
 exact h.nz u (List.mem_filter.1 hu).1
theorem C4 {x:Int} (h:x>0):((x:Int):Rat)≠0:=fun e=>by
 have:=Rat.intCast_inj.1 (e.trans Rat.intCast_zero.symm)
 omega
theorem Srt.drv {n i:Nat} {p:List Tm} (h:Srt n p) (hi:i<n):Srt n (drv i p):=by
 refine ⟨List.pairwise_map.2 ((h.ord.sublist List.filter_sublist).imp_of_mem fun {a b} ha hb g=>?_),fun t ht=>?_,Len.drv h.len⟩
 ·exact set_gt (h.len a (List.mem_filter.1 ha).1) (h.len b (List.mem_filter.1 hb).1) hi (-1) g
 obtain ⟨u,hu,rfl⟩:=List.mem_map.1 ht
 obtain ⟨hu,hp⟩:=List.mem_filter.1 hu
 exact fun e=>(Rat.mul_eq_zero.1 e).elim (h.nz u hu) (C4 (by simpa using hp))
theorem Dst.drv {n i:Nat} {p:List Tm} (h:Dst n p) (hi:i<n):Dst n (drv i p):=by
 refine ⟨List.pairwise_map.2 ((h.ne.sublist List.filter_sublist).imp_of_mem fun {a b} ha hb g=>?_),fun t ht=>?_,Len.drv h.len⟩
 ·exact fun e=>g (CF (h.len a (List.mem_filter.1 ha).1) (h.len b (List.mem_filter.1 hb).1) hi (-1) e)
 obtain ⟨u,hu,rfl⟩:=List.mem_map.1 ht
 obtain ⟨hu,hp⟩:=List.mem_filter.1 hu
 exact fun e=>(Rat.mul_eq_zero.1 e).elim (h.nz u hu) (C4 (by simpa using hp))
theorem CL.drv {D E:Int} (i:Nat) (hE:0<=E):∀ {l:List Tm} {H:Int},(∀ t∈l,t.1.getD i 0<=E)->CL D H l->CL D (H*E) (drv i l)
 | [],H,_,h=>Int.mul_nonneg h hE
 | t :: l,H,hb,⟨z,h1,h2⟩=>by
  have ih:=CL.drv i hE (fun u hu=>hb u (List.mem_cons_of_mem _ hu)) h2
  have hb:=hb t (List.mem_cons_self ..)
  simp only [G.drv] at ih
  simp only [G.drv]
  have h0:(0:Int)<=z.natAbs:=F3
  by_cases c:t.1.getD i 0>0
  ·rw [List.filter_cons_of_pos (by simpa using c),List.map_cons]
   refine ⟨z*t.1.getD i 0,?_,ih.mono ?_⟩
   ·show t.2*(t.1.getD i 0:Rat)*D=_
    rw [Rat.intCast_mul,<- h1];grind
   rw [Int.natAbs_mul,Int.natCast_mul,Int.sub_mul]
   have:(z.natAbs:Int)*(t.1.getD i 0).natAbs<=z.natAbs*E:=Int.mul_le_mul_of_nonneg_left F3 h0
   omega
  rw [List.filter_cons_of_neg (by simpa using c)]
  refine ih.mono ?_
  rw [Int.sub_mul]
  have:=Int.mul_nonneg h0 hE
  omega
theorem CB.drv {n k i:Nat} {E:Int} {p:List Tm} (h:CB k p) (hx:XB E p) (hl:Len n p) (hi:i<n) (h0:0<=E) (hE:E<=WB):CB (k+1) (drv i p):=by
 obtain ⟨D,H,a0,a1,a2,a3⟩:=h
 refine ⟨D,H*E,a0,Int.le_trans a1 (wb_le F3),yH a2 (by rw [Int.pow_succ,Int.pow_zero,Int.one_mul];exact hE) h0,CL.drv i h0 (fun t ht=>?_) a3⟩
 have hil:i<t.1.length:=by rw [hl t ht];exact hi
 rw [kO hil]
 exact Int.le_trans (qS (hx t ht).1 (List.getElem_mem hil)) (hx t ht).2
def dgi (i:Nat):List Tm->Int
 | []=>-1
 | t :: l=>max (t.1.getD i 0) (dgi i l)
theorem D8 (i:Nat):∀ l,-1<=dgi i l
 | []=>by simp [dgi]
 | t :: l=>by have:=D8 i l;simp only [dgi];omega
end Go.Proofs.YtfbgaddecbiimaaGreatDoor.G
end
section
namespace Go.Proofs.YtfbgaddecbiimaaGreatDoor.Q
open Go.RowKit Go.Proofs.YtfbgaddecbiimaaGreatDoorW.PrintWords Go.Proofs.YtfbgaddecbiimaaGreatDoorW.PrintMore Go.Proofs.YtfbgaddecbiimaaGreatDoor.V Go.Proofs.YtfbgaddecbiimaaGreatDoor.E
open Go.Proofs.YtfbgaddecbiimaaGreatDoor.P (Dg Nm vl WW RR bG gI evs evk evb fz aQ bE bj cR w64 u64)
open Go.Proofs.YtfbgaddecbiimaaGreatDoor.G (Ex Tm lin co Eqv Srt Dst rL CB XB Wd Len WB deg cfi drv dgi zE jl)
theorem zk {e:List Int} {i:Nat} (h:i<e.length) (h8:e.length<=8) (x:Int):(eL e).set i x=eL (e.set i x):=by
 rw [eL,eL,cp _ _ _ h8,cp _ _ _ (by simpa using h8),List.set_append_left _ _ h,List.length_set]
theorem mI {l:List Int} {n i:Nat} (x:Int):(l.set i x).take n=(l.take n).set i x:=List.take_set ..
section
variable {n K M L N k:Nat} {q q':List Tm} {l l' r:List aB} {E F:Int}
theorem OkR.set {t:aB} {v:cD} (h:OkR n K t) (hn:n<=8) {i:Nat} (hi:i<n) (x:Int) (hv:CoR L v) (z:Unit):OkR n L (t.1.set i x,v,z):=by
 obtain ⟨a,b,c⟩:=h
 have e:t.1.set i x=eL ((t.1.take n).set i x):=by
  conv=>lhs;rw [a]
  exact zk F3 F3 x
 refine ⟨?_,?_,hv⟩
 ·show t.1.set i x=eL ((t.1.set i x).take n)
  rw [mI];exact e
 show ((t.1.set i x).take n).length=n
 rw [mI,List.length_set];exact b
theorem OkR.at {t:aB} (h:OkR n K t) {i:Nat} (hi:i<n) (hn:n<=8):rdA (0:Int) 8 t.1 (i:Int)=(t.1.take n).getD i 0:=by
 have h8:=h.len
 rw [qh h8 F3,List.getD_eq_getElem?_getD,List.getElem?_eq_getElem (by have:=h.2.1;omega),List.getElem_take]
 rfl
theorem qv {i:Nat} (hi:i<n) (hl:l.length<=1000000) (hok:∀ u∈l,OkT n K u):Ev (fun k=>cP k ((n:Int),l,()) (i:Int)) (dgi i (tms l)):=by
 have main:=dnw (n:=l.length) (P:=fun j=>∀ a:Int,-1<=a->Ev2 (fun k m=>cP.l0 k m (i:Int) a l (l.length:Int) (j:Int)) (max a (dgi i (tms (l.drop j))))) ?_ ?_ 0 (Nat.zero_le _) (-1) (Int.le_refl _)
 ·have e:max (-1) (dgi i (tms l))=dgi i (tms l):=by have:=G.D8 i (tms l);omega
  rw [List.drop_zero,e] at main
  exact Ev.step (fun k=>qw k _ _) main.diag
 ·intro a ha
  rw [List.drop_length,show max a (dgi i (tms []))=a by show max a (-1)=a;omega]
  exact Ev2.step (fun k m=>cP.ba k m _ _ _ _ _) (Ev2.bF (decide_eq_false F3) (Ev2.of (evs _)))
 intro j hj ih a ha
 have e:(rdT (t:=ai) l (j:Int):aB)=l[j]:=cX hj
 obtain ⟨o1,o2,o3⟩:=hok l[j] (List.getElem_mem hj)
 have hil:i<l[j].1.length:=F3
 have e2:(rdT (t:=(.int .i64)) l[j].1 (i:Int):Int)=l[j].1.getD i 0:=rfl
 refine Ev2.step (fun k m=>cP.ba k m _ _ _ _ _) (Ev2.bT (decide_eq_true F3) (Ev2.iT F3 ?_))
 rw [e]
 refine Ev2.iT F3 ?_
 rw [e2,mr F3,ef hj,jz]
 have h1:=ih (mx a (l[j].1.getD i 0)) (by unfold mx;split<;>omega)
 have e3:max (mx a (l[j].1.getD i 0)) (dgi i (tms (l.drop (j+1))))=max a (max (l[j].1.getD i 0) (dgi i (tms (l.drop (j+1))))):=by unfold mx;split<;>omega
 rw [e3] at h1
 exact h1
theorem qf {i:Nat} (hi:i<n) (hn:n<=8) (hl:r.length<=1000000) (hok:∀ u∈r,OkR n K u):Ev (fun k=>bw k r (i:Int)) (dgi i (fG n r)):=by
 have main:=dnw (n:=r.length) (P:=fun j=>∀ a:Int,-1<=a->Ev2 (fun k m=>bw.l0 k m (i:Int) a r (r.length:Int) (j:Int)) (max a (dgi i (fG n (r.drop j))))) ?_ ?_ 0 (Nat.zero_le _) (-1) (Int.le_refl _)
 ·have e:max (-1) (dgi i (fG n r))=dgi i (fG n r):=by have:=G.D8 i (fG n r);omega
  rw [List.drop_zero,e] at main
  exact Ev.step (fun k=>ja k _ _) main.diag
 ·intro a ha
  rw [List.drop_length,show max a (dgi i (fG n []))=a by show max a (-1)=a;omega]
  exact Ev2.step (fun k m=>bw.ba k m _ _ _ _ _) (Ev2.bF (decide_eq_false F3) (Ev2.of (evs _)))
 intro j hj ih a ha
 have e:(rdT (t:=af) r (j:Int):aB)=r[j]:=cX hj
 have ho:=hok r[j] (List.getElem_mem hj)
 refine Ev2.step (fun k m=>bw.ba k m _ _ _ _ _) (Ev2.bT (decide_eq_true F3) (Ev2.iT F3 (Ev2.iT F3 ?_)))
 rw [e,ho.at hi hn,mr F3,ef hj]
 have h1:=ih (mx a ((r[j].1.take n).getD i 0)) (by unfold mx;split<;>omega)
 have e3:max (mx a ((r[j].1.take n).getD i 0)) (dgi i (fG n (r.drop (j+1))))=max a (max ((r[j].1.take n).getD i 0) (dgi i (fG n (r.drop (j+1))))):=by unfold mx;split<;>omega
 rw [e3] at h1
 exact h1
theorem Aa {i:Nat} {c:Int} {t:Tm} {p:List Tm} (h:t.1.getD i 0=c):cfi i c (t :: p)=(t.1.set i 0,t.2) :: cfi i c p:=by
 unfold G.cfi
 rw [List.filter_cons_of_pos (by simpa using h)]
 rfl
theorem z8 {i:Nat} {c:Int} {t:Tm} {p:List Tm} (h:¬ t.1.getD i 0=c):cfi i c (t :: p)=cfi i c p:=by
 unfold G.cfi
 rw [List.filter_cons_of_neg (by simpa using h)]
theorem xF {i:Nat} (c:Int) (h:PT n K M q l) (hi:i<n) (hn:n<=8) (hM:M<=1000000):∃ r,Ev (fun k=>dU k ((n:Int),l,()) (i:Int) c) ((n:Int),r,())/\PT n K M (cfi i c q) r:=by
 have hlen:=h.len
 have main:=dnw (n:=l.length) (P:=fun j=>∀ acc:List aB,acc.length<=j->∃ r:List aB,r.length<=l.length-j/\(∀ u∈r,OkT n K u)/\tms r=cfi i c (tms (l.drop j))/\Ev2 (fun k m=>dU.l0 k m (i:Int) c l (l.length:Int) (j:Int) ((0:Int),[],()) (n:Int) acc) ((n:Int),acc++r,())) ?_ ?_ 0 (Nat.zero_le _) [] F4
 ·obtain ⟨r,h1,h2,h3,h4⟩:=main
  refine ⟨r,Ev.step (fun k=>xG k _ _ _) h4.diag,F3,h2,?_,?_⟩
  ·rw [h3];exact G.Srt.cfi h.srt hi
  rw [h3];exact G.Eqv.cfi h.eqv i c
 ·intro acc hacc
  exact ⟨[],F4,(fun u hu=>by cases hu),by rw [List.drop_length];rfl,Ev2.step (fun k m=>dU.ba k m _ _ _ _ _ _ _ _) (Ev2.bF (decide_eq_false F3) (by rw [List.append_nil];exact Ev2.of (evs _)))⟩
 intro j hj ih acc hacc
 have e:(rdT (t:=ai) l (j:Int):aB)=l[j]:=cX hj
 obtain ⟨o1,o2,o3⟩:=h.ok l[j] (List.getElem_mem hj)
 have e2:(rdT (t:=(.int .i64)) l[j].1 (i:Int):Int)=l[j].1.getD i 0:=rfl
 by_cases d:l[j].1.getD i 0=c
 ·obtain ⟨r,h1,h2,h3,h4⟩:=ih (acc++[(l[j].1.set i 0,l[j].2.1,())]) (by simp;omega)
  refine ⟨(l[j].1.set i 0,l[j].2.1,()) :: r,by simp only [List.length_cons];omega,fun u hu=>?_,?_,?_⟩
  ·rcases List.mem_cons.1 hu with rfl | hu
   ·exact ⟨by show (l[j].1.set i 0).length=n;rw [List.length_set];exact o1,fun x hx=>(List.mem_or_eq_of_mem_set hx).elim (o2 x) (fun e=>F3),o3⟩
   exact h2 u hu
  ·rw [ef hj,jz,jz,Aa (show (uR l[j]).1.getD i 0=c from d),h3]
   rfl
  rw [show acc++(l[j].1.set i 0,l[j].2.1,()) :: r=(acc++[(l[j].1.set i 0,l[j].2.1,())])++r by simp]
  refine Ev2.step (fun k m=>dU.ba k m _ _ _ _ _ _ _ _) (Ev2.bT (decide_eq_true F3) (Ev2.iT F3 ?_))
  rw [e,e2]
  refine Ev2.iT F3 (Ev2.bT (by rw [d];exact beq_self_eq_true _) (Ev2.iT F3 (Ev2.iT F3 (Ev2.iT (by simp only [List.length_cons,List.length_nil];omega) ?_))))
  unfold dU.j0
  rw [mr F3,Int.toNat_natCast]
  exact h4
 obtain ⟨r,h1,h2,h3,h4⟩:=ih acc F3
 refine ⟨r,F3,h2,?_,?_⟩
 ·rw [ef hj,jz,z8 (show ¬ (uR l[j]).1.getD i 0=c from d),h3]
 refine Ev2.step (fun k m=>dU.ba k m _ _ _ _ _ _ _ _) (Ev2.bT (decide_eq_true F3) (Ev2.iT F3 ?_))
 rw [e,e2]
 refine Ev2.iT F3 (Ev2.bF (beq_eq_false_iff_ne.2 d) ?_)
 unfold dU.j0
 rw [mr F3]
 exact h4
theorem vm {i:Nat} (c:Int) (h:RT n K M q r) (hi:i<n) (hn:n<=8) (hM:M<=1000000):∃ s,Ev (fun k=>bf k r (i:Int) c) s/\RT n K M (cfi i c q) s:=by
 have hlen:=h.len
 have main:=dnw (n:=r.length) (P:=fun j=>∀ acc:List aB,acc.length<=j->∃ s:List aB,s.length<=r.length-j/\(∀ u∈s,OkR n K u)/\fG n s=cfi i c (fG n (r.drop j))/\Ev2 (fun k m=>bf.l0 k m (i:Int) c r (r.length:Int) (j:Int) acc) (acc++s)) ?_ ?_ 0 (Nat.zero_le _) [] F4
 ·obtain ⟨s,h1,h2,h3,h4⟩:=main
  refine ⟨s,Ev.step (fun k=>kg k _ _ _) h4.diag,F3,h2,?_,?_⟩
  ·rw [h3];exact G.Dst.cfi h.dst hi
  rw [h3];exact G.Eqv.cfi h.eqv i c
 ·intro acc hacc
  exact ⟨[],F4,(fun u hu=>by cases hu),by rw [List.drop_length];rfl,Ev2.step (fun k m=>bf.ba k m _ _ _ _ _ _) (Ev2.bF (decide_eq_false F3) (by rw [List.append_nil];exact Ev2.of (evs _)))⟩
 intro j hj ih acc hacc
 have e:(rdT (t:=af) r (j:Int):aB)=r[j]:=cX hj
 have ho:=h.ok r[j] (List.getElem_mem hj)
 have h8:=ho.len
 by_cases d:(r[j].1.take n).getD i 0=c
 ·obtain ⟨s,h1,h2,h3,h4⟩:=ih (acc++[(r[j].1.set i 0,r[j].2)]) (by simp;omega)
  refine ⟨(r[j].1.set i 0,r[j].2) :: s,by simp only [List.length_cons];omega,fun u hu=>?_,?_,?_⟩
  ·rcases List.mem_cons.1 hu with rfl | hu
   ·exact ho.set hn hi 0 ho.2.2 r[j].2.2
   exact h2 u hu
  ·rw [ef hj]
   show ((r[j].1.set i 0).take n,uM r[j].2.1) :: fG n s=cfi i c (tmR n r[j] :: fG n (r.drop (j+1)))
   rw [Aa (show (tmR n r[j]).1.getD i 0=c from d),h3,mI]
   rfl
  rw [show acc++(r[j].1.set i 0,r[j].2) :: s=(acc++[(r[j].1.set i 0,r[j].2)])++s by simp]
  refine Ev2.step (fun k m=>bf.ba k m _ _ _ _ _ _) (Ev2.bT (decide_eq_true F3) (Ev2.iT F3 (Ev2.iT F3 ?_)))
  rw [e,ho.at hi hn,tI h8 F3]
  refine Ev2.bT (by rw [d];exact beq_self_eq_true _) (Ev2.iT F3 (Ev2.iT (by simp only [List.length_cons,List.length_nil];omega) ?_))
  unfold bf.j0
  rw [mr F3]
  exact h4
 obtain ⟨s,h1,h2,h3,h4⟩:=ih acc F3
 refine ⟨s,F3,h2,?_,?_⟩
 ·rw [ef hj]
  show fG n s=cfi i c (tmR n r[j] :: fG n (r.drop (j+1)))
  rw [z8 (show ¬ (tmR n r[j]).1.getD i 0=c from d),h3]
 refine Ev2.step (fun k m=>bf.ba k m _ _ _ _ _ _) (Ev2.bT (decide_eq_true F3) (Ev2.iT F3 (Ev2.iT F3 ?_)))
 rw [e,ho.at hi hn]
 refine Ev2.bF (beq_eq_false_iff_ne.2 d) ?_
 unfold bf.j0
 rw [mr F3]
 exact h4
theorem zV {i:Nat} {t:Tm} {p:List Tm} (h:t.1.getD i 0>0):drv i (t :: p)=(t.1.set i (t.1.getD i 0-1),t.2*(t.1.getD i 0:Rat)) :: drv i p:=by
 unfold G.drv
 rw [List.filter_cons_of_pos (by simpa using h)]
 rfl
theorem zU {i:Nat} {t:Tm} {p:List Tm} (h:¬ t.1.getD i 0>0):drv i (t :: p)=drv i p:=by
 unfold G.drv
 rw [List.filter_cons_of_neg (by simpa using h)]
theorem vK {i:Nat} (h:PT n K M q l) (hi:i<n) (hn:n<=8) (hM:M<=1000000) (hK:K<1000000):∃ r,Ev (fun k=>cO k ((n:Int),l,()) (i:Int)) ((n:Int),r,())/\PT n (K+1) M (drv i q) r:=by
 have hlen:=h.len
 have main:=dnw (n:=l.length) (P:=fun j=>∀ acc:List aB,acc.length<=j->∃ r:List aB,r.length<=l.length-j/\(∀ u∈r,OkT n (K+1) u)/\tms r=drv i (tms (l.drop j))/\Ev2 (fun k m=>cO.l0 k m (i:Int) l (l.length:Int) (j:Int) ((0:Int),[],()) (n:Int) acc) ((n:Int),acc++r,())) ?_ ?_ 0 (Nat.zero_le _) [] F4
 ·obtain ⟨r,h1,h2,h3,h4⟩:=main
  refine ⟨r,Ev.step (fun k=>vL k _ _) h4.diag,F3,h2,?_,?_⟩
  ·rw [h3];exact G.Srt.drv h.srt hi
  rw [h3];exact G.Eqv.drv h.eqv i
 ·intro acc hacc
  exact ⟨[],F4,(fun u hu=>by cases hu),by rw [List.drop_length];rfl,Ev2.step (fun k m=>cO.ba k m _ _ _ _ _ _ _) (Ev2.bF (decide_eq_false F3) (by rw [List.append_nil];exact Ev2.of (evs _)))⟩
 intro j hj ih acc hacc
 have e:(rdT (t:=ai) l (j:Int):aB)=l[j]:=cX hj
 obtain ⟨o1,o2,o3⟩:=h.ok l[j] (List.getElem_mem hj)
 have e2:(rdT (t:=(.int .i64)) l[j].1 (i:Int):Int)=l[j].1.getD i 0:=rfl
 have hil:i<l[j].1.length:=F3
 have hb:=o2 _ (List.getElem_mem hil)
 rw [<- G.kO hil] at hb
 by_cases d:l[j].1.getD i 0>0
 ·obtain ⟨v,v1,v2,v3⟩:=Bx (z:=l[j].1.getD i 0) F3 F3
  obtain ⟨w,w1,w2,w3⟩:=Bv o3.rb.1 v2 o3.rb.2 v3 F3
  obtain ⟨r,h1,h2,h3,h4⟩:=ih (acc++[(l[j].1.set i (l[j].1.getD i 0-1),w,())]) (by simp;omega)
  refine ⟨(l[j].1.set i (l[j].1.getD i 0-1),w,()) :: r,by simp only [List.length_cons];omega,fun u hu=>?_,?_,?_⟩
  ·rcases List.mem_cons.1 hu with rfl | hu
   ·exact ⟨by show (l[j].1.set i _).length=n;rw [List.length_set];exact o1,fun x hx=>(List.mem_or_eq_of_mem_set hx).elim (o2 x) (fun e=>F3),_,w2,w3⟩
   exact h2 u hu
  ·rw [ef hj,jz,jz,zV (show (uR l[j]).1.getD i 0>0 from d),h3]
   show (_,wJ w) :: _=(_,wJ l[j].2.1*(l[j].1.getD i 0:Rat)) :: _
   rw [ma w2]
   rfl
  rw [show acc++(l[j].1.set i (l[j].1.getD i 0-1),w,()) :: r=(acc++[(l[j].1.set i (l[j].1.getD i 0-1),w,())])++r by simp]
  refine Ev2.step (fun k m=>cO.ba k m _ _ _ _ _ _ _) (Ev2.bT (decide_eq_true F3) (Ev2.iT F3 ?_))
  rw [e,e2]
  refine Ev2.iT F3 (Ev2.bT (decide_eq_true d) (Ev2.iT F3 (Ev2.iT F3 (Ev2.iT F3 (Ev2.iT F3 (Ev2.bind v1 (Ev2.bind w1 (Ev2.iT (by simp only [List.length_cons,List.length_nil];omega) ?_))))))))
  unfold cO.j0
  rw [mr F3,Int.toNat_natCast,w64 F3 F3]
  exact h4
 obtain ⟨r,h1,h2,h3,h4⟩:=ih acc F3
 refine ⟨r,F3,h2,?_,?_⟩
 ·rw [ef hj,jz,zU (show ¬ (uR l[j]).1.getD i 0>0 from d),h3]
 refine Ev2.step (fun k m=>cO.ba k m _ _ _ _ _ _ _) (Ev2.bT (decide_eq_true F3) (Ev2.iT F3 ?_))
 rw [e,e2]
 refine Ev2.iT F3 (Ev2.bF (decide_eq_false d) ?_)
 unfold cO.j0
 rw [mr F3]
 exact h4
theorem tM {i:Nat} (h:RT n K M q r) (hx:XB E q) (hE0:0<=E) (hE:E<=1000000) (hi:i<n) (hn:n<=8) (hM:M<=1000000) (hK:K<1000000):∃ s,Ev (fun k=>aV k r (i:Int)) s/\RT n (K+3) M (drv i q) s:=by
 have hlen:=h.len
 have main:=dnw (n:=r.length) (P:=fun j=>∀ acc:List aB,acc.length<=j->∃ s:List aB,s.length<=r.length-j/\(∀ u∈s,OkR n (K+3) u)/\fG n s=drv i (fG n (r.drop j))/\Ev2 (fun k m=>aV.l0 k m (i:Int) r (r.length:Int) (j:Int) acc) (acc++s)) ?_ ?_ 0 (Nat.zero_le _) [] F4
 ·obtain ⟨s,h1,h2,h3,h4⟩:=main
  refine ⟨s,Ev.step (fun k=>jO k _ _) h4.diag,F3,h2,?_,?_⟩
  ·rw [h3];exact G.Dst.drv h.dst hi
  rw [h3];exact G.Eqv.drv h.eqv i
 ·intro acc hacc
  exact ⟨[],F4,(fun u hu=>by cases hu),by rw [List.drop_length];rfl,Ev2.step (fun k m=>aV.ba k m _ _ _ _ _) (Ev2.bF (decide_eq_false F3) (by rw [List.append_nil];exact Ev2.of (evs _)))⟩
 intro j hj ih acc hacc
 have e:(rdT (t:=af) r (j:Int):aB)=r[j]:=cX hj
 have ho:=h.ok r[j] (List.getElem_mem hj)
 have h8:=ho.len
 have hb:=h.bnd hx hE0 hn (List.getElem_mem hj) i
 have eg:r[j].1.getD i 0=(r[j].1.take n).getD i 0:=by
  rw [<- ho.at hi hn,qh h8 F3,G.kO F3]
 rw [eg] at hb
 by_cases d:(r[j].1.take n).getD i 0>0
 ·obtain ⟨v,v1,v2,v3⟩:=AY (z:=(r[j].1.take n).getD i 0) F3 F3
  obtain ⟨w,w1,w2,w3⟩:=AW ho.2.2.rb.1 v2 ho.2.2.rb.2 v3 F3
  obtain ⟨s,h1,h2,h3,h4⟩:=ih (acc++[(r[j].1.set i ((r[j].1.take n).getD i 0-1),w,())]) (by simp;omega)
  refine ⟨(r[j].1.set i ((r[j].1.take n).getD i 0-1),w,()) :: s,by simp only [List.length_cons];omega,fun u hu=>?_,?_,?_⟩
  ·rcases List.mem_cons.1 hu with rfl | hu
   ·exact ho.set hn hi _ ⟨_,w2,w3⟩ ()
   exact h2 u hu
  ·rw [ef hj]
   show ((r[j].1.set i _).take n,uM w) :: fG n s=drv i (tmR n r[j] :: fG n (r.drop (j+1)))
   rw [zV (show (tmR n r[j]).1.getD i 0>0 from d),h3,mI,l9 w2]
   rfl
  rw [show acc++(r[j].1.set i ((r[j].1.take n).getD i 0-1),w,()) :: s=(acc++[(r[j].1.set i ((r[j].1.take n).getD i 0-1),w,())])++s by simp]
  refine Ev2.step (fun k m=>aV.ba k m _ _ _ _ _) (Ev2.bT (decide_eq_true F3) (Ev2.iT F3 (Ev2.iT F3 ?_)))
  rw [e,ho.at hi hn]
  refine Ev2.bT (decide_eq_true d) (Ev2.iT F3 (Ev2.bind v1 (Ev2.bind w1 ?_)))
  rw [w64 (x:=(r[j].1.take n).getD i 0-1) F3 F3,tI h8 F3]
  refine Ev2.iT (by simp only [List.length_cons,List.length_nil];omega) ?_
  unfold aV.j0
  rw [mr F3]
  exact h4
 obtain ⟨s,h1,h2,h3,h4⟩:=ih acc F3
 refine ⟨s,F3,h2,?_,?_⟩
 ·rw [ef hj]
  show fG n s=drv i (tmR n r[j] :: fG n (r.drop (j+1)))
  rw [zU (show ¬ (tmR n r[j]).1.getD i 0>0 from d),h3]
 refine Ev2.step (fun k m=>aV.ba k m _ _ _ _ _) (Ev2.bT (decide_eq_true F3) (Ev2.iT F3 (Ev2.iT F3 ?_)))
 rw [e,ho.at hi hn]
 refine Ev2.bF (decide_eq_false d) ?_
 unfold aV.j0
 rw [mr F3]
 exact h4
theorem vM {v:cD} {c:Rat} (hv:RB WW v c) (hc:Sz WW K c) (hn:n<=8) (hK:K<1073741824):∃ r,Ev (fun k=>qx k (n:Int) v) ((n:Int),r,())/\PT n K 1 [(zE n,c)] r:=by
 have hsg:=qI hv
 by_cases c0:c=0
 ·refine ⟨[],Ev.step (fun k=>oI k _ _) (Ev.bind hsg (bT (by rw [mP];exact decide_eq_true c0) (Ev.bind (Ev.step (fun k=>xB k _) (evs _)) (evs _)))),F4,(fun u hu=>by cases hu),Srt.nil n,fun m=>?_⟩
  show (0:Rat)=c*_+0
  rw [c0];grind
 refine ⟨[(zE n,v,())],Ev.step (fun k=>oI k _ _) (Ev.bind hsg (bF (by rw [mP];exact decide_eq_false c0) (iT (by show (0:Int)<=(n:Int)/\(n:Int)<=(n:Int)/\8*(n:Int).toNat<=281474976710656/\(n:Int).toNat<=maxLen;unfold maxLen;omega) (Ev.bind (mh hv hc hK) ?_)))),F4,fun u hu=>?_,⟨List.pairwise_singleton ..,fun t ht=>?_,fun t ht=>?_⟩,?_⟩
 ·rw [Int.toNat_natCast];exact evs _
 ·rw [List.mem_singleton] at hu;subst hu
  exact ⟨G.sB n,fun x hx=>by have:=List.eq_of_mem_replicate hx;omega,c,hv,hc⟩
 ·have e:t=uR (zE n,v,()):=by simpa [tms] using ht
  subst e
  show wJ v≠0
  rw [ma hv];exact c0
 ·have e:t=uR (zE n,v,()):=by simpa [tms] using ht
  subst e
  exact G.sB n
 show Eqv [(zE n,wJ v)] _
 rw [ma hv];exact .refl _
theorem vB {v:cD} {c:Rat} (hv:RB RR v c) (hc:Sz RR K c) (hn:n<=8) (hK:K<100000):∃ r,Ev (fun k=>fm k v) r/\RT n (K+1) 1 [(zE n,c)] r:=by
 obtain ⟨r,r1,r2,r3,r4⟩:=AR (n:=n) (K:=0) (r:=[]) (e:=zE n) hn F4 F3 (fun t ht=>by cases ht) (G.sB n) hv hc
 have e:eL (zE n)=List.replicate 8 (0:Int):=by
  rw [eL,cp _ _ _ (by rw [G.sB];exact hn),G.sB,zE,List.replicate_append_replicate]
  congr 1;omega
 rw [e] at r1
 obtain ⟨c1,c2⟩:=G.C9 (p:=[]) (c:=c) (Dst.nil n) (G.sB n)
 rw [show fG n []=[] from rfl] at r2
 rw [<- r2] at c1 c2
 refine ⟨r,Ev.step (fun k=>jP k _) (Ev.bind r1 (evs _)),by simpa using r4,fun t ht=>(r3 t ht).mono F3,c1,fun m=>?_⟩
 rw [c2]
 show 0+c*_=c*_+0
 grind
theorem Bk (k:Nat) (n i:Int):xC (k+1) n i=varO (uf k) (fun x=>im k x) (fun x=>lj k x) n i:=by kernel_rfl
abbrev oneW:cD:=(false,[1],[1],())
theorem sgn_one:sgn 1=1:=by decide
theorem Bj {i:Nat} (hi:i<n) (hn:n<=8):∃ r,Ev (fun k=>xC k (n:Int) (i:Int)) ((n:Int),r,())/\PT n 1 1 [(jl n i 1,1)] r:=by
 obtain ⟨w,h1,h2,h3,hw⟩:∃ w:cD,Ev (fun k=>uf k) w/\Ev (fun k=>im k w) 1/\Ev (fun k=>lj k w) w/\RB WW w 1:=⟨oneW,Bt,by rw [<- sgn_one];exact qI (sP bE),mh (sP bE) (Cq bE (Nat.le_refl 1)) F3,sP bE⟩
 refine ⟨[(jl n i 1,w,())],Ev.step (fun k=>Bk k _ _) ?_,F4,fun u hu=>?_,⟨List.pairwise_singleton ..,fun t ht=>?_,fun t ht=>?_⟩,?_⟩
 ·unfold varO
  rw [show (decide ((0:Int)<=(i:Int))&&(decide ((i:Int)<(n:Int))&&decide ((n:Int)<1000000000)))=true by simp;omega]
  exact Ev.bind h1 (Ev.bind h2 (bF rfl (Ev.bind h3 (by rw [Int.toNat_natCast,Int.toNat_natCast];exact evs _))))
 ·rw [List.mem_singleton] at hu;subst hu
  refine ⟨G.fv n i 1,fun x hx=>?_,1,hw,Cq bE (Nat.le_refl 1)⟩
  rcases List.mem_or_eq_of_mem_set hx with h | h
  ·have:=List.eq_of_mem_replicate h;omega
  omega
 ·have e:t=uR (jl n i 1,w,()):=by simpa [tms] using ht
  subst e
  show wJ w≠0
  rw [ma hw];decide
 ·have e:t=uR (jl n i 1,w,()):=by simpa [tms] using ht
  subst e
  exact G.fv n i 1
 show Eqv [(jl n i 1,wJ w)] _
 rw [ma hw];exact .refl _
theorem AU {i:Nat} (hi:i<n) (hn:n<=8):∃ r,Ev (fun k=>eN k (i:Int)) r/\RT n 1 1 [(jl n i 1,1)] r:=by
 have e:(List.replicate 8 (0:Int)).set i 1=eL (jl n i 1):=by
  rw [show List.replicate 8 (0:Int)=eL (List.replicate n 0) by
   rw [eL,cp _ _ _ (by simpa using hn),List.length_replicate,List.replicate_append_replicate];congr 1;omega]
  exact zk (by simpa using hi) (by simpa using hn) 1
 have e2:(eL (jl n i 1)).take n=jl n i 1:=by
  conv=>lhs;arg 1;rw [<- G.fv n i 1]
  exact ff (by rw [G.fv];exact hn)
 obtain ⟨w,h1,hw⟩:∃ w:cD,Ev (fun k=>eO k) w/\RB RR w 1:=⟨oneW,AV,sP cR⟩
 refine ⟨[(eL (jl n i 1),w,())],Ev.step (fun k=>kC k _) (iT F3 (Ev.bind h1 ?_)),F4,fun u hu=>?_,⟨List.pairwise_singleton ..,fun t ht=>?_,fun t ht=>?_⟩,?_⟩
 ·rw [tI F4 F3,e];exact evs _
 ·rw [List.mem_singleton] at hu;subst hu
  exact ⟨by show eL _=eL ((eL _).take n);rw [e2],by show ((eL _).take n).length=n;rw [e2,G.fv],1,hw,Cq cR (Nat.le_refl 1)⟩
 ·have e:t=tmR n (eL (jl n i 1),w,()):=by simpa [fG] using ht
  subst e
  show uM w≠0
  rw [l9 hw];decide
 ·have e:t=tmR n (eL (jl n i 1),w,()):=by simpa [fG] using ht
  subst e
  show ((eL _).take n).length=n
  rw [e2,G.fv]
 show Eqv [((eL (jl n i 1)).take n,uM w)] _
 rw [l9 hw,e2];exact .refl _
end
section
variable {p:bb} {n:Nat} {v:cD} {c:Rat}
theorem DN (ha:uJ p) (hv:fQ p) {i:Int} (hi:i<0∨p.1<=i):Ev (fun k=>gF k p i) 1:=by
 have e:=ij ha
 rw [fF hv] at e
 refine Ev.step (fun k=>lR k _ _) (Ev.bind e (bF rfl (Ev.bind (a:=true) ?_ (bT rfl (evs _)))))
 by_cases c:i<0
 ·exact bT (decide_eq_true c) (evs _)
 exact bF (decide_eq_false c) (BQ F3)
theorem BN (ha:uJ p) (hv:fQ p) {i:Int} (h0:0<=i) (hi:i<p.1):Ev (fun k=>gF k p i) 0:=by
 have e:=ij ha
 rw [fF hv] at e
 exact Ev.step (fun k=>lR k _ _) (Ev.bind e (bF rfl (Ev.bind (a:=false) (bF (decide_eq_false F3) (rN F3)) (bF rfl (evs _)))))
theorem xb_z (n:Nat) (c:Rat):XB 0 [(zE n,c)]:=fun t ht=>by
 rw [List.mem_singleton] at ht;subst ht
 exact G.XB.one n (zE n,1) (List.mem_singleton.2 rfl)
theorem tW (ha:Arg v) (hvd:Vd v) (hv:RB WW v c) (hc:Sz WW 2 c) (hn:n<=8):∃ r,Ev (fun k=>nS k (n:Int) v) (((n:Int),r,()),(0:Int),())/\PT n 2 1 [(zE n,c)] r:=by
 obtain ⟨r,r1,r2⟩:=vM hv hc hn F3
 have hl:=n9 r2 hn F3 ((CB.single (t:=(zE n,c)) (sz_wd hc)).mono F3) ((xb_z n c).mono F3)
 exact ⟨r,Ev.step (fun k=>tX k _ _) (Ev.bind (vE ha hvd) (bF rfl (Ev.bind (a:=false) (bF (decide_eq_false F3) (rN F3)) (bF rfl (Ev.bind r1 (Ev.bind hl (evs _))))))),r2⟩
end
theorem uq {p:bb} {v:cD} (i j:Int) (ha:uJ p) (hv:Arg v):Ev (fun k=>fP k p v i j) true:=by
 refine Ev.step (fun k=>iO k p v i j) (Ev.bind Ey (bF rfl ?_))
 obtain ⟨t,t1,t2⟩:=uo ha ha
 refine Ev.bind t1 ?_
 cases t with
 | false=>exact Ev.bind (a:=true) (bT rfl (evs _)) (bT rfl (evs _))
 | true =>
 obtain ⟨n,hp,-⟩:=t2 rfl
 obtain ⟨s,s1,s2⟩:=Dr hv
 cases s with
 | false=>exact Ev.bind (a:=true) (bF rfl (Ev.bind s1 (evs _))) (bT rfl (evs _))
 | true =>
 refine Ev.bind (a:=false) (bF rfl (Ev.bind s1 (evs _))) (bF rfl ?_)
 obtain ⟨hvd,c,c1,c2⟩:=s2 rfl
 obtain ⟨x,x1,x2,x3⟩:=hp.rte
 obtain ⟨d,d1,d2,d3⟩:=vA c1 c2 F3
 have hn:=hp.n8
 have P1:=hp.pt
 have B1:=hp.cb
 have X1:=hp.xb
 have L1:=hp.len
 have hvp:=ij ha
 rw [fF hp.ok] at hvp
 have hpe:=hp.eq
 have hok:=hp.ok
 generalize hl:p.2.1=l at *
 subst hpe
 have hdg:=tY hn (Nat.le_trans P1.len F3) P1.ok
 rw [dgM_tms] at hdg
 have hdr:=mS x2.ok hn (Nat.le_trans x2.len F3) (x2.xbq X1) F3
 rw [x3] at hdr
 obtain ⟨e,e1,e2⟩:=tW hv hvd c1 c2 hn
 obtain ⟨f,f1,f2⟩:=vB (n:=n) d2 d3 hn F3
 have ise:=e2.is f2 (.refl _) hn F3 F3 F3 F3
 refine Ev.bind x1 (Ev.bind (Ev.step (fun k=>sb k _) (Ev.bind hvp (bF rfl (Ev.bind hdg (evs _))))) (Ev.bind e1 (Ev.bind (a:=false) (bF rfl (evs _)) (Ev.bind (a:=false) (bF rfl (Ev.bind hdr ?_)) (Ev.bind (a:=false) (bF rfl (Ev.bind d1 (Ev.bind f1 (Ev.bind ise (evs _))))) (bF rfl ?_))))))
 ·show Ev (fun _=>some (deg (tms l) != deg (tms l))) false
  rw [show (deg (tms l) != deg (tms l))=false by simp]
  exact evs _
 by_cases hi:i<0∨(n:Int)<=i
 ·have hin:=DN (p:=((n:Int),l,())) ha hok hi
  have hc:Ev (fun k=>fw k ((n:Int),l,()) i j) (none3,(1:Int),()):=Ev.step (fun k=>ky k _ _ _) (Ev.bind hin (Ev.bind (a:=false) (bF rfl (evs _)) (bF rfl (bT rfl (evs _)))))
  have hva:Ev (fun k=>mY k (n:Int) i) (none3,(1:Int),()):=by
   refine Ev.step (fun k=>qt k _ _) (Ev.bind (a:=false) (bF (decide_eq_false F3) (rN F3)) ?_)
   by_cases g:i<0
   ·exact Ev.bind (a:=true) (bF rfl (BQ g)) (Ev.bind (a:=true) (bT rfl (evs _)) (bT rfl (evs _)))
   exact Ev.bind (a:=false) (bF rfl (rN g)) (Ev.bind (a:=true) (bF rfl (BQ F3)) (bT rfl (evs _)))
  refine Ev.bind (Ev.step (fun k=>ka k _ _) (Ev.bind hin (bT rfl (evs _)))) (Ev.bind hc (Ev.bind (Ev.step (fun k=>mZ k _ _) (Ev.bind hin (bT rfl (evs _)))) (Ev.bind hva (Ev.bind (a:=true) ?_ (bT rfl ?_)))))
  ·by_cases g:i<0
   ·exact bT (decide_eq_true g) (evs _)
   exact bF (decide_eq_false g) (BQ (by show i>=(n:Int);omega))
  exact Ev.bind (a:=true) (bT rfl (evs _)) (Ev.bind (a:=true) (bT rfl (evs _)) (Ev.bind (a:=true) (bT rfl (evs _)) (Ev.bind (a:=true) (bT rfl (evs _)) (Ev.bind (a:=true) (bT rfl (Ev.bind pG (evs _))) (Ev.bind (a:=true) (bT rfl (Ev.bind pG (evs _))) (Ev.bind (a:=true) (bT rfl (Ev.bind pG (evs _))) (evs _)))))))
 obtain ⟨m,rfl⟩:=Int.eq_ofNat_of_zero_le (show 0<=i by omega)
 have hm:m<n:=F3
 have hin:=BN (p:=((n:Int),l,())) ha hok (i:=(m:Int)) F3 (by show (m:Int)<(n:Int);omega)
 have g1:=qv hm (Nat.le_trans P1.len F3) P1.ok
 have g2:=qf hm hn (Nat.le_trans x2.len F3) x2.ok
 rw [x3] at g2
 obtain ⟨dv,dv1,dv2⟩:=vK P1 hm hn F3 F3
 have dv3:=n9 dv2 hn F3 ((CB.drv B1 X1 L1 hm F3 (by decide)).mono F3) ((XB.drv hm L1 X1).mono F3)
 obtain ⟨rd,rd1,rd2⟩:=tM x2 X1 F3 F3 hm hn F3 F3
 have is1:=dv2.is rd2 (.refl _) hn F3 F3 F3 F3
 obtain ⟨va,va1,va2⟩:=Bj hm hn
 obtain ⟨rv,rv1,rv2⟩:=AU hm hn
 have is2:=va2.is rv2 (.refl _) hn F3 F3 F3 F3
 have hva:Ev (fun k=>mY k (n:Int) (m:Int)) (((n:Int),va,()),(0:Int),()):=Ev.step (fun k=>qt k _ _) (Ev.bind (a:=false) (bF (decide_eq_false F3) (rN F3)) (Ev.bind (a:=false) (bF rfl (rN F3)) (Ev.bind (a:=false) (bF rfl (rN F3)) (bF rfl (Ev.bind va1 (evs _))))))
 have hdi:Ev (fun k=>il k ((n:Int),l,()) (m:Int)) (dgi m (tms l),(0:Int),()):=Ev.step (fun k=>ka k _ _) (Ev.bind hin (bF rfl (Ev.bind g1 (evs _))))
 have hde:Ev (fun k=>ld k ((n:Int),l,()) (m:Int)) (((n:Int),dv,()),(0:Int),()):=Ev.step (fun k=>mZ k _ _) (Ev.bind hin (bF rfl (Ev.bind dv1 (Ev.bind dv3 (evs _)))))
 have mid:∀ {R:bb×Int×Unit} {g:Nat->bb×Int×Unit->Option Bool} {h:Nat->Int×Int×Unit->bb×Int×Unit->bb×Int×Unit->bb×Int×Unit->Option Bool},Ev (fun k=>fw k ((n:Int),l,()) (m:Int) j) R->Ev (fun k=>g k R) true->Ev (fun k=>(il k ((n:Int),l,()) (m:Int)).bind fun (v15:Int×Int×Unit) =>
  (fw k ((n:Int),l,()) (m:Int) j).bind fun (v16:bb×Int×Unit) =>
  (ld k ((n:Int),l,()) (m:Int)).bind fun (v17:bb×Int×Unit) =>
  (mY k (n:Int) (m:Int)).bind fun (v18:bb×Int×Unit) =>
  (bif decide ((m:Int)<(0:Int)) then some true else some (decide ((m:Int)>=(n:Int)))).bind fun (b19:Bool) =>
  bif b19 then h k v15 v16 v17 v18 else
   (bif v15.2.1 != (0:Int) then some true else some (v17.2.1 != (0:Int))).bind fun (b30:Bool) =>
   (bif b30 then some true else some (v18.2.1 != (0:Int))).bind fun (b31:Bool) =>
   (bif b31 then some true else (bw k x (m:Int)).bind fun (v32:Int) =>
   some (v15.1 != v32)).bind fun (b33:Bool) =>
   (bif b33 then some true else (aV k x (m:Int)).bind fun (v34:List aB) =>
   (cn k v17.1 v34 (n:Int)).bind fun (v35:Bool) =>
   some (!v35)).bind fun (b36:Bool) =>
   (bif b36 then some true else (eN k (m:Int)).bind fun (v37:List aB) =>
   (cn k v18.1 v37 (n:Int)).bind fun (v38:Bool) =>
   some (!v38)).bind fun (b39:Bool)=>bif b39 then some false else g k v16) true:=fun {R g h} hR hg=>by
  refine Ev.bind hdi (Ev.bind hR (Ev.bind hde (Ev.bind hva (Ev.bind (a:=false) (bF (decide_eq_false F3) (rN F3)) (bF rfl (Ev.bind (a:=false) (bF rfl (evs _)) (Ev.bind (a:=false) (bF rfl (evs _)) (Ev.bind (a:=false) (bF rfl (Ev.bind g2 ?_)) (Ev.bind (a:=false) (bF rfl (Ev.bind rd1 (Ev.bind is1 (evs _)))) (Ev.bind (a:=false) (bF rfl (Ev.bind rv1 (Ev.bind is2 (evs _)))) (bF rfl hg)))))))))))
  show Ev (fun _=>some (dgi m (tms l) != dgi m (tms l))) false
  rw [show (dgi m (tms l) != dgi m (tms l))=false by simp]
  exact evs _
 by_cases hj:j<0
 ·have hc:Ev (fun k=>fw k ((n:Int),l,()) (m:Int) j) (none3,(1:Int),()):=Ev.step (fun k=>ky k _ _ _) (Ev.bind hin (Ev.bind (a:=true) (bT rfl (BQ hj)) (bT rfl (bT rfl (evs _)))))
  exact mid hc (bT (decide_eq_true hj) (Ev.bind (a:=true) (bT rfl (Ev.bind pG (evs _))) (evs _)))
 obtain ⟨co,co1,co2⟩:=xF j P1 hm hn F3
 have co3:=n9 co2 hn F3 ((CB.cfi B1).mono F3) ((XB.cfi hm L1 X1).mono F3)
 obtain ⟨rc,rc1,rc2⟩:=vm j x2 hm hn F3
 have is3:=co2.is rc2 (.refl _) hn F3 F3 F3 F3
 have hc:Ev (fun k=>fw k ((n:Int),l,()) (m:Int) j) (((n:Int),co,()),(0:Int),()):=Ev.step (fun k=>ky k _ _ _) (Ev.bind hin (Ev.bind (a:=false) (bT rfl (rN hj)) (bF rfl (bF rfl (Ev.bind co1 (Ev.bind co3 (evs _)))))))
 exact mid hc (bF (decide_eq_false hj) (Ev.bind (a:=true) (bT rfl (Ev.bind rc1 (Ev.bind is3 (evs _)))) (evs _)))
end Go.Proofs.YtfbgaddecbiimaaGreatDoor.Q
end
section
namespace Go.Proofs.YtfbgaddecbiimaaGreatDoor.polyParts
open Go.ChangeShapes Go.WideShapes Go.ChangeAt Go.RowKit
open Go.ChangeMaps (open_string shut_string)
open Go.Proofs.YtfbgaddecbiimaaGreatDoor.V Go.Proofs.YtfbgaddecbiimaaGreatDoor.E
theorem own:ownKnob Tryz.prog.godebug=none:=by kernel_rfl
theorem laidOut:laidOutB Tryz.prog=true:=by kernel_rfl
def Cf:DataW Unit->Array Value
 | .agg l=>(l.map fun d=>match d with
  | .lit (.int k n)=>Value.int k n
  | _=>undef).toArray
 | _=>#[]
noncomputable def vZ (os:Os):World :=
 let w0:=World.holding Tryz.prog os ⟨#[],#[],[]⟩
 { w0 with heap:=((w0.heap.modify 2 fun
  | .cells _ t frozen=>.cells (Cf Rows.laid_math_bits_deBruijn32tab) t frozen
  | o=>o).modify 3 fun
  | .cells _ t frozen=>.cells (Cf Rows.laid_math_bits_deBruijn64tab) t frozen
  | o=>o).modify 0 fun
  | .cells _ t frozen=>.cells (Cf Rows.laid_internal_strconv_uint64pow10) t frozen
  | o=>o }
theorem laid_met (os:Os) (args:Array Value):laidMet Tryz.prog Rows.polyPartsRow.laid ((vZ os).forCall (fun _ _=>0) ⟨#[],args,[]⟩).memory :=
 laidMet_of_run' 8 (by kernel_rfl) (by kernel_rfl)
theorem lifted (os:Os) (started:os.Started) (H:Type) (enc:TypeId×Value->H) :
 ReturnsInHanded {} Tryz.checked os 7 .any (fun w args=>(Rows.polyPartsSpec.pre enc Tryz.prog Tryz.f7 Rows.polyPartsRow.domain false w args/\laidMet Tryz.prog Rows.polyPartsRow.laid w)/\sizedMet enc Tryz.prog Tryz.f7 (OpenSpec.ofChange Rows.polyPartsSpec) false w args)
  (Rows.polyPartsSpec.post enc Tryz.prog Tryz.f7 false true false false):=by
 refine returnsInHanded_of_change_and (C:=Tryz.checked) (X:=fun w _=>laidMet Tryz.prog Rows.polyPartsRow.laid w) (fun _ _ _ hh h=>h.of_heap hh) own started (by kernel_rfl) Tryz.func7
  (ChangeSpec.witness_at (enc:=enc) (C:=Tryz.checked) (os:=os) (X:=fun w _=>laidMet Tryz.prog Rows.polyPartsRow.laid w) false (vZ os) #[.agg #[.int .i64 0,.slice none 0 0],.agg #[.bool false,.slice none 0 0,.slice none 0 0],.int .i64 0,.int .i64 0] 8 rfl (by kernel_rfl) (by kernel_rfl) (by kernel_rfl) (by kernel_rfl) (by kernel_rfl) (laid_met os _)) ?_
 intro W base args ds gs before hval0 hW _ hsz0 hL _
 have hval:∀ (j:Nat) t v,Tryz.f7.params[j]?=some t->args[j]?=some v->Value.okWide Tryz.prog W .any base t v:=hval0
 have hW':=hW
 obtain ⟨p,q,hA0,hV,rfl,hfz,hnd⟩:=hW
 have hA:DataW.TrodAll enc Tryz.prog W 0 (fun _=>true) true Tryz.f7.params.toList args.toList ds p:=hA0
 rw [Tryz.params7] at hA hval
 obtain ⟨v0,vs0,d0,ds0,p0,q0,hargs,rfl,rfl,h0,r0⟩:=trodAll_cons hA
 obtain ⟨v1,vs1,d1,ds1,p1,q1,rfl,rfl,rfl,h1,r1⟩:=trodAll_cons r0
 obtain ⟨v2,vs2,d2,ds2,p2,q2,rfl,rfl,rfl,h2,r2⟩:=trodAll_cons r1
 obtain ⟨v3,vs3,d3,ds3,p3,q3,rfl,rfl,rfl,h3,r3⟩:=trodAll_cons r2
 obtain ⟨rfl,rfl,rfl⟩:=trodAll_nil r3
 obtain rfl:args = #[v0,v1,v2,v3]:=by cases args;simp_all
 obtain ⟨rfl,rfl⟩:=trodVars_none hV
 have k0:=h0
 have lt0:∀ x∈p0,x.block<W.heap.size:=by obtain ⟨m,hm⟩:=k0;exact DataW.trod_lt m _ _ _ hm
 obtain ⟨y0,f0,g0⟩:=uF Q.uS (n:=16) (t:=24) (c:=ah) (by kernel_rfl) (by kernel_rfl) (hval 0 24 v0 rfl rfl) h0
 have k1:=h1
 have lt1:∀ x∈p1,x.block<W.heap.size:=by obtain ⟨m,hm⟩:=k1;exact DataW.trod_lt m _ _ _ hm
 obtain ⟨y1,f1,g1⟩:=uF Q.uS (n:=16) (t:=61) (c:=aq) (by kernel_rfl) (by kernel_rfl) (hval 1 61 v1 rfl rfl) h1
 have k2:=h2
 have lt2:∀ x∈p2,x.block<W.heap.size:=by obtain ⟨m,hm⟩:=k2;exact DataW.trod_lt m _ _ _ hm
 obtain ⟨y2,f2,g2⟩:=uF Q.uS (n:=16) (t:=3) (c:=(.int .i64)) (by kernel_rfl) (by kernel_rfl) (hval 2 3 v2 rfl rfl) h2
 have k3:=h3
 have lt3:∀ x∈p3,x.block<W.heap.size:=by obtain ⟨m,hm⟩:=k3;exact DataW.trod_lt m _ _ _ hm
 obtain ⟨y3,f3,g3⟩:=uF Q.uS (n:=16) (t:=3) (c:=(.int .i64)) (by kernel_rfl) (by kernel_rfl) (hval 3 3 v3 rfl rfl) h3
 clear hA0 hval0 hsz0
 obtain ⟨k,hk⟩:=(Q.uq y2 y3 (Q.arg_poly f0) (Q.EC f1)).rounds
 obtain ⟨_,pv,hp,hF⟩:=(zM Q.uS orc_ok Q.mixed Q.noGo k).fn 7 [.v ah y0,.v aq y1,.v (.int .i64) y2,.v (.int .i64) y3] true rfl hk
 obtain rfl:=Option.some.inj hp
 refine (hF (fun b=>b<W.heap.size) W #[v0,v1,v2,v3] (fun b h=>h) rfl (fun i h=>?_)).mono fun e W' ⟨v,he,bel,hv⟩=>?_
 ·match i,h with
  | 0,h=>exact g0
  | 1,h=>exact g1
  | 2,h=>exact g2
  | 3,h=>exact g3
  | i+4,h=>exact absurd h (by simp only [List.length_map,List.length_cons,List.length_nil];omega)
 have hb:=fS hv
 subst hb
 subst he
 exact ⟨_,rfl,_,_,_,[],_,[],hW',trodAll_mk1 (shut_bool Tryz.underlying4 _),(trodAll_cons_mk (Below.trod laidOut (by kernel_rfl) (of_decide_eq_true (by kernel_rfl)) k0 bel lt0) (trodAll_cons_mk (Below.trod laidOut (by kernel_rfl) (of_decide_eq_true (by kernel_rfl)) k1 bel lt1) (trodAll_cons_mk (Below.trod laidOut (by kernel_rfl) (of_decide_eq_true (by kernel_rfl)) k2 bel lt2) (trodAll_cons_mk (Below.trod laidOut (by kernel_rfl) (of_decide_eq_true (by kernel_rfl)) k3 bel lt3) trodAll_mk0)))),rfl,bel.frame _,fun h=>by cases h⟩
theorem over:Rows.polyPartsRow.holds Tryz.pinned (OpenSpec.ofChange Rows.polyPartsSpec) :=
 OpenClaim.holds_of_wide 7 Tryz.f7 rfl rfl rfl rfl rfl rfl rfl ⟨rfl,rfl,rfl,rfl,rfl⟩ rfl rfl rfl rfl rfl (by kernel_rfl) Tryz.func7 (by kernel_rfl)
  (of_decide_eq_true (by kernel_rfl)) (by unfold Func.isWrapper;first | (rw [if_pos (by decide +kernel)];kernel_rfl) | (rw [if_neg (by decide +kernel)];exact ⟨rfl,rfl⟩))
  (fun os started H enc _=>lifted os started H enc)
theorem proved:Rows.PolyPartsCardSaid :=
 Claim7.holds_tied_plain_at .later [] [.data,.data,.data] true (true,"7c1c4094e72754773423f799c4afd1ed3b246fc2b5dc0deefca3ede80156512f") false
  over (fun _ h=>by cases h) (by kernel_rfl) (fun _ h=>by cases h) polyParts_row_tie rfl ⟨rfl,rfl⟩ (by kernel_rfl) rfl
  (fun f fn hf hfn=>by
   obtain rfl:f=7:=Option.some.inj ((show Tryz.prog.funcNamed "isochrone/isochronelaw03.PolyParts" = some 7 by kernel_rfl).symm.trans hf) |>.symm
   obtain rfl:fn=Tryz.f7:=(Option.some.inj (Tryz.func7.symm.trans hfn)).symm
   exact ⟨by kernel_rfl,fun j t ht=>by
    rw [Tryz.params7] at ht
    have ht2:t=24∨t=3∨t=61:=by
     match j,ht with
     | 0,ht=>simp at ht;subst ht;simp
     | 1,ht=>simp at ht;subst ht;simp
     | 2,ht=>simp at ht;subst ht;simp
     | 3,ht=>simp at ht;subst ht;simp
     | j+4,ht=>simp at ht
    rcases ht2 with rfl | rfl | rfl
    ·exact (show Tryz.prog.wantsStandIn 24=false by kernel_rfl)
    ·exact (show Tryz.prog.wantsStandIn 3=false by kernel_rfl)
    exact (show Tryz.prog.wantsStandIn 61=false by kernel_rfl)⟩)
  (by kernel_rfl)
#print axioms proved
end Go.Proofs.YtfbgaddecbiimaaGreatDoor.polyParts
namespace Go.Proofs.YtfbgaddecbiimaaGreatDoor
theorem polyParts_holds:Rows.PolyPartsCardSaid:=polyParts.proved
end Go.Proofs.YtfbgaddecbiimaaGreatDoor
end
