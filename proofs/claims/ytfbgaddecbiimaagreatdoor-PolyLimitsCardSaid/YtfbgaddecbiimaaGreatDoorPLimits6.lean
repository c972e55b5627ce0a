/- a product of monomials whose degrees add up to more than MaxDegree is ErrLimit, and up to MaxDegree it is the monomial of the sums (the last of 6 texts). No condition beyond the statement's own. -/
import Derived.Test.YtfbgaddecbiimaaGreatDoorPLimits5
set_option linter.unusedSimpArgs false
set_option linter.unusedSectionVars false
set_option linter.unusedVariables false
set_option maxRecDepth 100000
set_option maxHeartbeats 4000000
section
namespace Go.Proofs.YtfbgaddecbiimaaGreatDoor.G
theorem cut_at {α:Type}:∀ {l:List α} {i:Nat} (h:i<l.length),∃ a b,l=a++l[i] :: b/\a.length=i
 | x :: l,0,_=>⟨[],l,rfl,rfl⟩
 | x :: l,i+1,h=>by
  obtain ⟨a,b,h1,h2⟩:=cut_at (l:=l) (i:=i) (by simpa using h)
  exact ⟨x :: a,b,by simp only [List.getElem_cons_succ,List.cons_append];rw [<- h1],by simp [h2]⟩
theorem vQ {α:Type} (a b:List α) (x y:α):(a++x :: b).set a.length y=a++y :: b:=by
 rw [List.set_append_right _ _ (Nat.le_refl _),Nat.sub_self]
 rfl
theorem CY {α:Type} (a b:List α) (x d:α):(((a++x :: b).set a.length ((a++x :: b).getD ((a++x :: b).length-1) d)).take ((a++x :: b).length-1)).Perm (a++b):=by
 rcases List.eq_nil_or_concat b with rfl | ⟨b',y,rfl⟩
 ·have e:(a++[x]).length-1=a.length:=by simp
  rw [e,vQ,List.take_left',List.append_nil]
  rfl
 have e:(a++x :: (b'++[y])).length-1=(a++x :: b').length:=F4
 have e1:(a++x :: (b'++[y])).getD ((a++x :: (b'++[y])).length-1) d=y:=by
  rw [e,show a++x :: (b'++[y])=(a++x :: b')++[y] by simp]
  simp
 have h1:∀ z:α,(a++x :: b').length=(a++z :: b').length:=fun z=>F4
 have e3:(a++y :: (b'++[y])).take ((a++x :: b').length)=a++y :: b':=by
  rw [h1 y,show a++y :: (b'++[y])=(a++y :: b')++[y] by simp]
  exact List.take_left' rfl
 rw [List.concat_eq_append,e1,vQ,e,e3]
 refine List.Perm.append_left a ?_
 simpa using (List.perm_append_comm (l₁:=[y]) (l₂:=b'))
def oH (p:List Tm) (e:Ex) (c:Rat):List Tm :=
 if c=0 then p else match p.findIdx? (fun t=>t.1==e) with
  | none=>p++[(e,c)]
  | some i=>if (p.getD i ([],0)).2+c=0 then (p.set i (p.getD (p.length-1) ([],0))).take (p.length-1) else p.set i (e,(p.getD i ([],0)).2+c)
theorem Dst.perm {n:Nat} {p q:List Tm} (h:Dst n p) (hp:p.Perm q):Dst n q :=
 ⟨(hp.pairwise_iff (fun h=>fun e=>h e.symm)).1 h.ne,(fun t ht=>h.nz t (hp.mem_iff.2 ht)),(fun t ht=>h.len t (hp.mem_iff.2 ht))⟩
theorem BO {n:Nat} {p:List Tm} {e:Ex} {c:Rat} (h:Dst n p) (he:e.length=n):Dst n (oH p e c)/\∀ m,lin m (oH p e c)=lin m p+c*m e:=by
 unfold oH
 split
 ·rename_i z
  exact ⟨h,fun m=>by rw [z];grind⟩
 rename_i z
 split
 ·rename_i hn
  have hn':∀ t∈p,t.1≠e:=fun t ht hh=>by
   have:=List.findIdx?_eq_none_iff.1 hn t ht
   simp [hh] at this
  refine ⟨⟨List.pairwise_append.2 ⟨h.ne,F4,fun a ha b hb=>?_⟩,?_,?_⟩,fun m=>?_⟩
  ·rw [List.mem_singleton] at hb
   rw [hb];exact hn' a ha
  ·intro t ht
   rcases List.mem_append.1 ht with g | g
   ·exact h.nz t g
   rw [List.mem_singleton] at g
   rw [g];exact z
  ·intro t ht
   rcases List.mem_append.1 ht with g | g
   ·exact h.len t g
   rw [List.mem_singleton] at g
   rw [g];exact he
  rw [iX];simp only [lin];grind
 rename_i i hs
 obtain ⟨hi,hx,_⟩:=List.findIdx?_eq_some_iff_getElem.1 hs
 obtain ⟨a,b,e1,e2⟩:=cut_at hi
 have hg:p.getD i ([],0)=p[i]:=by simp [List.getD_eq_getElem?_getD,hi]
 have hx':p[i].1=e:=by simpa using hx
 rw [hg]
 generalize p[i]=x at *
 subst e1
 have lx:lin=lin:=rfl
 have hp:(a++x :: b).Perm (x :: (a++b)):=List.perm_middle
 have hd:=h.perm hp
 have hl:∀ m,lin m (a++x :: b)=x.2*m e+lin m (a++b):=fun m=>by rw [my m hp];simp only [lin,hx']
 split
 ·rename_i z'
  have hq:=CY a b x ([],0)
  rw [e2] at hq
  refine ⟨hd.tail.perm hq.symm,fun m=>?_⟩
  rw [my m hq,hl]
  have:c = -x.2:=by grind
  rw [this];grind
 rename_i z'
 rw [<- e2,vQ]
 have hp':(a++(e,x.2+c) :: b).Perm ((e,x.2+c) :: (a++b)):=List.perm_middle
 refine ⟨Dst.perm ⟨List.pairwise_cons.2 ⟨fun u hu=>?_,hd.tail.ne⟩,fun t ht=>?_,fun t ht=>?_⟩ hp'.symm,fun m=>?_⟩
 ·have:=(List.pairwise_cons.1 hd.ne).1 u hu
  rw [hx'] at this
  exact this
 ·exact (List.mem_cons.1 ht).elim (fun g=>by rw [g];exact z') (hd.tail.nz t)
 ·exact (List.mem_cons.1 ht).elim (fun g=>by rw [g];exact he) (hd.tail.len t)
 rw [my m hp',hl];simp only [lin];grind
end Go.Proofs.YtfbgaddecbiimaaGreatDoor.G
end
section
namespace Go.Proofs.YtfbgaddecbiimaaGreatDoor.Q
open Go.RowKit Go.Proofs.YtfbgaddecbiimaaGreatDoorW.PrintWords Go.Proofs.YtfbgaddecbiimaaGreatDoorW.PrintMore Go.Proofs.YtfbgaddecbiimaaGreatDoor.V Go.Proofs.YtfbgaddecbiimaaGreatDoor.E
open Go.Proofs.YtfbgaddecbiimaaGreatDoor.P (Dg Nm vl WW RR bC gI evs evk evb eR aP bK bf cM w64 u64)
open Go.Proofs.YtfbgaddecbiimaaGreatDoor.G (Ex Tm lin co Eqv Srt Dst)
theorem gt_G:∀ {a b:List Int},a.length=b.length->(gtE a b↔G.gtE a b=true)
 | [],[],_=>by simp [gtE,eB,G.gtE]
 | [],_ :: _,h=>by simp at h
 | _ :: _,[],h=>by simp at h
 | a :: x,b :: y,h=>by
  have ih:=gt_G (a:=x) (b:=y) (by simpa using h)
  unfold gtE at ih ⊢
  rw [xc,G.gtE]
  by_cases c:a=b
  ·rw [if_pos c,<- ih]
   constructor
   ·rintro (g | g)
    ·omega
    exact g.2
   exact fun g=>.inr ⟨c,g⟩
  rw [if_neg c,decide_eq_true_eq]
  constructor
  ·rintro (g | g)
   ·exact g
   exact absurd g.1 c
  exact fun g=>.inl g
structure RelP (n:Nat) (p:bh) (l:List Tm):Prop where
 n_:p.1=(n:Int)
 len:p.2.1.length=l.length
 at_:∀ i (h:i<l.length),(tmA p i).1=l[i].1/\RB WW (tmA p i).2.1 l[i].2
structure RelR (r:List az) (l:List Tm) (K:Nat):Prop where
 len:r.length=l.length
 at_:∀ i (h:i<l.length),(rtA r i).1=iz l[i].1/\RB RR (rtA r i).2.1 l[i].2/\Sz RR K l[i].2
theorem BB {v:cD} {q:Rat} {K:Nat} (h:RB RR v q) (hs:Sz RR K q) (hK:K<1073741824):∃ r,Ev (fun k=>cH k v) r/\RB WW r q:=ue h hs hK
theorem eL {x:List Int} (h:x.length<=8):(iz x).take x.length=x:=by
 rw [iz,cV _ _ _ h,List.take_left]
theorem pad_inj {x y:List Int} (hx:x.length<=8) (h:x.length=y.length) (e:iz x=iz y):x=y:=by
 rw [<- eL hx,e,h,eL F3]
theorem zA {a:bh} {r:List az} {la lr:List Tm} {n K:Nat} (hn:n<=8) (ha:RelP n a la) (hr:RelR r lr K) (hf:FewW a) (hK:K<1073741824) (hlen:lr.length<=100000) (sa:Srt n la) (dr:Dst n lr) (he:Eqv la lr):Ev (fun k=>dP k a r (n:Int)) true:=by
 have ex:∀ i,∃ c:cD,∀ h:i<lr.length,Ev (fun k=>cH k (rtA r i).2.1) c/\RB WW c lr[i].2:=fun i=>by
  by_cases h:i<lr.length
  ·obtain ⟨h1,h2,h3⟩:=hr.at_ i h
   obtain ⟨c,c1,c2⟩:=BB h2 h3 hK
   exact ⟨c,fun _=>⟨c1,c2⟩⟩
  exact ⟨(false,[],[],()),fun h'=>absurd h' h⟩
 obtain ⟨toC,htoC⟩:=Classical.axiomOfChoice ex
 have l8:∀ i (h:i<lr.length),lr[i].1.length=n:=fun i h=>dr.len _ (List.getElem_mem h)
 have hT:RefT r toC:=by
  refine ⟨by rw [hr.len];exact hlen,fun i h=>?_,fun i j h1 h2 hne=>?_,fun i h=>(htoC i (by rw [<- hr.len];exact h)).1⟩
  ·rw [(hr.at_ i (by rw [<- hr.len];exact h)).1];exact dS _ _ _
  have h1':i<lr.length:=by rw [<- hr.len];exact h1
  have h2':j<lr.length:=by rw [<- hr.len];exact h2
  rw [(hr.at_ i h1').1,(hr.at_ j h2').1]
  intro e
  have e':=pad_inj (by rw [l8 i h1'];exact hn) ((l8 i h1').trans (l8 j h2').symm) e
  have hp:=List.pairwise_iff_getElem.1 dr.ne
  rcases Nat.lt_or_gt_of_ne hne with g | g
  ·exact hp i j h1' h2' g e'
  exact hp j i h2' h1' g e'.symm
 obtain ⟨ch,c1,c2,c3⟩:=ref_To3 hT hn
 have hch:∀ c∈ch,c<lr.length:=fun c hc=>by
  have:=List.mem_range.1 (c1.mem_iff.1 hc)
  rw [hr.len] at this
  exact this
 let ls:List Tm:=ch.map fun i=>lr.getD i ([],0)
 have hls:ls.Perm lr:=by
  have h1:=c1.map fun i=>lr.getD i ([],0)
  have h2:(List.range r.length).map (fun i=>lr.getD i ([],0))=lr:=by
   rw [hr.len]
   apply List.ext_getElem F4
   intro i g1 g2
   simp [List.getD_eq_getElem?_getD,g2]
  rw [h2] at h1
  exact h1
 have ss:Srt n ls:=by
  refine ⟨?_,fun t ht=>dr.nz t (hls.mem_iff.1 ht),fun t ht=>dr.len t (hls.mem_iff.1 ht)⟩
  rw [List.pairwise_map]
  refine c2.imp_of_mem (fun {x y} hx hy h=>?_)
  have hx':=hch x hx
  have hy':=hch y hy
  rw [(hr.at_ x hx').1,(hr.at_ y hy').1] at h
  have e1:lr.getD x ([],0)=lr[x]:=by simp [List.getD_eq_getElem?_getD,hx']
  have e2:lr.getD y ([],0)=lr[y]:=by simp [List.getD_eq_getElem?_getD,hy']
  rw [e1,e2]
  unfold gtE at h
  rw [cmpE_pad (by rw [l8 x hx'];exact hn) ((l8 x hx').trans (l8 y hy').symm)] at h
  exact (gt_G ((l8 x hx').trans (l8 y hy').symm)).1 h
 have heq:la=ls:=Srt.uniq sa ss (fun e=>by
  have h1:=he.co e
  have h2:co ls e=co lr e:=G.my _ hls
  rw [h1,h2])
 have hlc:la.length=ch.length:=by rw [heq];simp [ls]
 have hterms:a.2.1=ch.map (toG r toC n):=by
  apply List.ext_getElem (by rw [ha.len,hlc,List.length_map])
  intro i h1 h2
  have hi:i<la.length:=by rw [<- ha.len];exact h1
  have hic:i<ch.length:=by rw [<- hlc];exact hi
  obtain ⟨g1,g2⟩:=ha.at_ i hi
  have et:tmA a i=a.2.1[i]:=dg h1
  have hc:=hch ch[i] (List.getElem_mem hic)
  have el:la[i]=lr[ch[i]]:=by
   have:la[i]=ls[i]'(by rw [<- heq];exact hi):=by simp only [heq]
   rw [this]
   simp [ls,List.getD_eq_getElem?_getD,hc]
  rw [<- et,List.getElem_map]
  have k1:(tmA a i).1=(rtA r ch[i]).1.take n:=by
   rw [g1,el,(hr.at_ _ hc).1,<- l8 _ hc,eL (by rw [l8 _ hc];exact hn)]
  have k2:(tmA a i).2.1=toC ch[i]:=by
   rw [el] at g2
   exact rb_uniq aP g2 (htoC _ hc).2
  exact Prod.ext k1 (Prod.ext k2 rfl)
 have hsame:=ug (b:=((n:Int),ch.map (toG r toC n),())) hf
 rw [iN ⟨ha.n_,hterms⟩] at hsame
 exact Ev.step (fun k=>kQ k a r _) (Ev.bind c3 (Ev.bind hsame (evs _)))
def kb (e:Int):List Int:=[(shr .i64 e (24:Int)) % 256,(shr .i64 e (16:Int)) % 256,(shr .i64 e (8:Int)) % 256,e % 256]
def AM (x:List Int):List Int:=x.flatMap kb
theorem yp:∀ x:List Int,(AM x).length=4*x.length
 | []=>rfl
 | e :: x=>by
  have:=yp x
  simp only [AM,List.flatMap_cons,List.length_append,List.length_cons] at this ⊢
  simp only [kb,List.length_cons,List.length_nil]
  omega
theorem zO (x:List Int) (h:x.length<=8):Ev (fun k=>fW k x) (strOfNums (AM x)):=by
 have e4:wrap64 ((4:Int)*(x.length:Int))=4*(x.length:Int):=w64 F3 F3
 have main:=dnw (n:=x.length) (P:=fun i=>Ev2 (fun k m=>fW.l0 k m x (x.length:Int) (i:Int) (AM (x.take i))) (strOfNums (AM x))) ?_ ?_ 0 (Nat.zero_le _)
 ·refine Ev.step (fun k=>zP k x) (iT (by rw [e4];unfold maxLen;omega) ?_)
  exact main.diag
 ·rw [List.take_length]
  exact Ev2.step (fun k m=>fW.bA k m _ _ _ _) (Ev2.bF (decide_eq_false F3) (Ev2.of (evs _)))
 intro i hi ih
 have e1:(rdT (t:=(.int .i64)) x (i:Int):Int)=x[i]:=dg hi
 have hk:=yp (x.take i)
 rw [List.length_take] at hk
 refine Ev2.step (fun k m=>fW.bA k m _ _ _ _) (Ev2.bT (decide_eq_true F3) (Ev2.iT F3 (Ev2.iT (by simp only [List.length_cons,List.length_nil];omega) ?_)))
 rw [e1,nU F3]
 have:AM (x.take i)++kb x[i]=AM (x.take (i+1)):=by
  simp only [AM]
  rw [List.take_succ_eq_append_getElem hi,List.flatMap_append]
  simp
 have ih':=ih
 rw [<- this] at ih'
 exact ih'
theorem key_inj:∀ {x y:List Int},x.length=y.length->(∀ e∈x,0<=e/\e<256)->(∀ e∈y,0<=e/\e<256)->(strOfNums (AM x)).data.toList=(strOfNums (AM y)).data.toList->x=y
 | [],[],_,_,_,_=>rfl
 | [],_ :: _,h,_,_,_=>by simp at h
 | _ :: _,[],h,_,_,_=>by simp at h
 | a :: x,b :: y,h,hx,hy,he=>by
  have ih:=key_inj (x:=x) (y:=y) (by simpa using h) (fun e he=>hx e (by simp [he])) (fun e he=>hy e (by simp [he]))
  have ha:=hx a F4
  have hb:=hy b F4
  simp only [strOfNums,AM,List.flatMap_cons,kb,List.cons_append,List.nil_append,List.map_cons,List.cons.injEq] at he ih
  obtain ⟨_,_,_,h4,h5⟩:=he
  have h6:=congrArg UInt8.toNat h4
  simp only [UInt8.toNat_ofNat'] at h6
  rw [ih h5,show a=b by omega]
noncomputable def lB (v:cD):Rat:=Rat.divInt (sg v.1 (vl WW v.2.1)) (vl WW v.2.2.1)
theorem pn {v:cD} {q:Rat} (h:RB WW v q):lB v=q:=by
 have h1:=rb_val h
 unfold lB
 rw [h.2.1.2.2,h.2.2.2.2]
 exact h1
def DF (K:Nat) (v:cD):Prop:=∃ q,RB WW v q/\Sz WW K q
theorem DF.rb {K:Nat} {v:cD} (h:DF K v):RB WW v (lB v)/\Sz WW K (lB v):=by
 obtain ⟨q,h1,h2⟩:=h
 rw [pn h1]
 exact ⟨h1,h2⟩
theorem DF.mono {K L:Nat} {v:cD} (h:DF K v) (hk:K<=L):DF L v:=by
 obtain ⟨q,h1,h2⟩:=h
 exact ⟨q,h1,o9 aP h2 hk⟩
noncomputable def vm (t:az):Tm:=(t.1,lB t.2.1)
noncomputable def tms (l:List az):List Tm:=l.map vm
def OkT (n K:Nat) (t:az):Prop:=t.1.length=n/\(∀ e∈t.1,0<=e/\e<256)/\DF K t.2.1
def mv_:List (ByteArray×Int)->ByteArray->Option Int
 | [],_=>none
 | x :: l,k=>match k.data.toList==x.1.data.toList with
  | true=>some x.2
  | false=>mv_ l k
theorem Ce:∀ (l:List (ByteArray×Int)) (k:ByteArray),(V.oM l k).map (·.2)=mv_ l k
 | [],k=>rfl
 | x :: l,k=>by
  have ih:=Ce l k
  rw [V.oM,mv_]
  cases k.data.toList==x.1.data.toList with
  | true=>rfl
  | false =>
   dsimp only
   rw [Option.map_map,<- ih]
   rfl
theorem Cf (l:List (ByteArray×Int)) (k:ByteArray):uF l k=match mv_ l k with
 | some n=>(n,true,())
 | none=>(0,false,()):=by
 rw [<- Ce,uF]
 cases V.oM l k<;>rfl
theorem Cc (k:ByteArray) (n:Int) (k':ByteArray):∀ l:List (ByteArray×Int),mv_ (V.oL l k n) k'=if k'.data.toList=k.data.toList then some n else mv_ l k'
 | []=>by
  show (match k'.data.toList==k.data.toList with
   | true=>some n
   | false=>none)=if k'.data.toList=k.data.toList then some n else none
  by_cases c:k'.data.toList=k.data.toList
  ·rw [if_pos c,beq_iff_eq.2 c]
  rw [if_neg c,beq_eq_false_iff_ne.2 c]
 | x :: l=>by
  have ih:=Cc k n k' l
  rw [V.oL]
  by_cases d:k.data.toList=x.1.data.toList
  ·rw [beq_iff_eq.2 d]
   dsimp only
   rw [mv_,mv_]
   by_cases c:k'.data.toList=k.data.toList
   ·rw [if_pos c,beq_iff_eq.2 c]
   rw [if_neg c,beq_eq_false_iff_ne.2 c,beq_eq_false_iff_ne.2 (fun e=>c (e.trans d.symm))]
  rw [beq_eq_false_iff_ne.2 d]
  dsimp only
  rw [mv_,mv_,ih]
  by_cases c:k'.data.toList=x.1.data.toList
  ·have hk:¬ k'.data.toList=k.data.toList:=fun e=>d (e.symm.trans c)
   rw [beq_iff_eq.2 c]
   dsimp only
   rw [if_neg hk]
  rw [beq_eq_false_iff_ne.2 c]
noncomputable abbrev keyB (e:List Int):ByteArray:=strOfNums (AM e)
def qW (n:Nat) (mp:List (ByteArray×Int)) (l:List az):Prop:=∀ e:List Int,e.length=n->(∀ x∈e,0<=x/\x<256)->(∀ j (h:j<l.length),l[j].1=e->mv_ mp (keyB e)=some (j:Int))/\((∀ j (h:j<l.length),l[j].1≠e)->mv_ mp (keyB e)=none)
theorem qW.nil (n:Nat):qW n [] []:=fun e _ _=>⟨fun j h=>by simp at h,fun _=>rfl⟩
theorem qW.add {n:Nat} {mp:List (ByteArray×Int)} {l:List az} (h:qW n mp l) {t:az} (h1:t.1.length=n) (h2:∀ x∈t.1,0<=x/\x<256) (hne:∀ j (h:j<l.length),l[j].1≠t.1):qW n (V.oL mp (keyB t.1) (l.length:Int)) (l++[t]):=by
 intro e g1 g2
 rw [Cc]
 obtain ⟨a1,a2⟩:=h e g1 g2
 by_cases c:e=t.1
 ·subst c
  rw [if_pos rfl]
  refine ⟨fun j hj hje=>?_,fun hn=>absurd F4 (hn l.length F4)⟩
  by_cases d:j<l.length
  ·rw [List.getElem_append_left d] at hje
   exact absurd hje (hne j d)
  have:j=l.length:=by simp at hj;omega
  rw [this]
 rw [if_neg (fun he=>c (key_inj (g1.trans h1.symm) g2 h2 he))]
 refine ⟨fun j hj hje=>?_,fun hn=>a2 (fun j hj=>?_)⟩
 ·by_cases d:j<l.length
  ·rw [List.getElem_append_left d] at hje
   exact a1 j d hje
  have:j=l.length:=by simp at hj;omega
  subst this
  rw [List.getElem_append_right (Nat.le_refl _)] at hje
  simp at hje
  exact absurd hje.symm c
 have:=hn j (by simp;omega)
 rwa [List.getElem_append_left hj] at this
theorem qW.set {n:Nat} {mp:List (ByteArray×Int)} {l:List az} (h:qW n mp l) (i:Nat) (t:az) (ht:∀ (hi:i<l.length),t.1=l[i].1):qW n mp (l.set i t):=by
 have e:∀ j (h1:j<(l.set i t).length),(l.set i t)[j].1=(l[j]'(by simpa using h1)).1:=fun j h1=>by
  rw [List.getElem_set]
  by_cases c:i=j
  ·subst c;rw [if_pos rfl];exact ht (by simpa using h1)
  rw [if_neg c]
 intro x g1 g2
 obtain ⟨a1,a2⟩:=h x g1 g2
 exact ⟨fun j hj hje=>a1 j (by simpa using hj) (by rw [<- e j hj];exact hje),fun hn=>a2 (fun j hj=>by rw [<- e j (by simpa using hj)];exact hn j (by simpa using hj))⟩
abbrev NeL (l:List az):Prop:=l.Pairwise fun a b=>a.1≠b.1
noncomputable def nzC (t:az):Bool:=dc (lB t.2.1≠0)
theorem sgn_ne {q:Rat}:(sgn q != (0:Int))=dc (q≠0):=by
 refine C2 ?_
 rw [bne,oD]
 simp
theorem lW (t:az) (l:List az):tms (t :: l)=vm t :: tms l:=rfl
theorem ky (a b:List az):tms (a++b)=tms a++tms b:=List.map_append
theorem Cn (m:Ex->Rat):∀ (l:List Tm) (i:Nat) (h:i<l.length) (t:Tm),t.1=l[i].1->lin m (l.set i t)=lin m l+(t.2-l[i].2)*m t.1
 | [],i,h,_,_=>by simp at h
 | u :: l,0,_,t,e=>by
  have e':t.1=u.1:=e
  show t.2*m t.1+lin m l=u.2*m u.1+lin m l+(t.2-u.2)*m t.1
  rw [e']
  grind
 | u :: l,i+1,h,t,e=>by
  have ih:=Cn m l i (by simpa using h) t e
  show u.2*m u.1+lin m (l.set i t)=u.2*m u.1+lin m l+(t.2-(l[i]'(by simpa using h)).2)*m t.1
  rw [ih]
  grind
section
variable {n K:Nat}
theorem wZ {l:List az} (hn:n<=8) (hl:l.length<=100000) (hok:∀ t∈l,OkT n K t) (hne:NeL l) :
 Ev (fun k=>aX.l1 k k l (l.length:Int) (0:Int) ((0:Int),[],()) (n:Int) ([]:List az)) ((n:Int),iy (l.filter nzC),()):=by
 have hfil:(l.filter nzC).Pairwise fun a b=>b.1.length=a.1.length/\a.1≠b.1:=by
  refine (hne.sublist (List.filter_sublist)).imp_of_mem (fun {a b} ha hb h=>⟨?_,h⟩)
  rw [(hok a (List.mem_filter.1 ha).1).1,(hok b (List.mem_filter.1 hb).1).1]
 have hs:Bk (l.filter nzC)=some (iy (l.filter nzC)):=by
  unfold Bk
  have h1:okM (l.filter nzC)=true:=sR.2 hfil
  have h2:Nat.ble (l.filter nzC).length 1000000000=true:=Nat.ble_eq_true_of_le (by have:=List.length_filter_le nzC l;omega)
  have h3:Nat.ble ((l.filter nzC).headD (Ty.zero kv)).1.length 1000000000=true:=by
   apply Nat.ble_eq_true_of_le
   cases hc:l.filter nzC with
   | nil=>show ([]:List Int).length<=_;exact Nat.zero_le _
   | cons a r =>
    have:a∈l.filter nzC:=by rw [hc];simp
    have:=(hok a (List.mem_filter.1 this).1).1
    show a.1.length<=_
    omega
  rw [h1,h2,h3]
 have main:=dnw (n:=l.length) (P:=fun i=>Ev2 (fun k m=>aX.l1 k m l (l.length:Int) (i:Int) ((0:Int),[],()) (n:Int) ((l.take i).filter nzC)) ((n:Int),iy (l.filter nzC),())) ?_ ?_ 0 (Nat.zero_le _)
 ·exact main.diag
 ·rw [List.take_length]
  exact Ev2.step (fun k m=>aX.dO k m _ _ _ _ _ _) (Ev2.bF (decide_eq_false F3) (Ev2.bind (evk hs) (Ev2.of (evs _))))
 intro i hi ih
 have e:(rdT (t:=ak) l (i:Int):az)=l[i]:=dg hi
 obtain ⟨o1,o2,o3⟩:=hok l[i] (List.getElem_mem hi)
 have hsg:=wA o3.rb.1
 have hlf:=List.length_filter_le nzC (l.take i)
 rw [List.length_take] at hlf
 rw [List.take_succ_eq_append_getElem hi,List.filter_append] at ih
 refine Ev2.step (fun k m=>aX.dO k m _ _ _ _ _ _) (Ev2.bT (decide_eq_true F3) (Ev2.iT F3 ?_))
 rw [e]
 refine Ev2.bind hsg ?_
 have next:∀ acc,Ev2 (fun k m=>aX.l1 k m l (l.length:Int) ((i+1:Nat):Int) ((0:Int),[],()) (n:Int) acc) ((n:Int),iy (l.filter nzC),())->Ev2 (fun k m=>aX.j1 k m l (l.length:Int) (i:Int) ((0:Int),[],()) (n:Int) acc) ((n:Int),iy (l.filter nzC),()):=fun acc h=>by
  show Ev2 (fun k m=>aX.l1 k m l (l.length:Int) (wrap64 ((i:Int)+(1:Int))) ((0:Int),[],()) (n:Int) acc) _
  rw [nU F3]
  exact h
 cases hz:nzC l[i] with
 | true =>
  rw [show [l[i]].filter nzC=[l[i]] by simp [hz]] at ih
  refine Ev2.bT (by rw [sgn_ne];exact hz) (Ev2.iT (by simp only [List.length_cons,List.length_nil];omega) (next _ ih))
 | false =>
  rw [show [l[i]].filter nzC=[] by simp [hz],List.append_nil] at ih
  exact Ev2.bF (by rw [sgn_ne];exact hz) (next _ ih)
theorem wY {l:List az} (hn:n<=8) (hl:l.length<=100000) (hK:(l.length+1)*(K+1)<=200000000) (hok:∀ t∈l,OkT n K t) :
 ∃ sl:List az,sl.length<=l.length/\(∀ t∈sl,OkT n (l.length*(K+1)) t)/\NeL sl/\(∀ m,lin m (tms sl)=lin m (tms l)) /\
  ∀ R,Ev (fun k=>aX.l1 k k sl (sl.length:Int) (0:Int) ((0:Int),[],()) (n:Int) ([]:List az)) R->Ev (fun k=>aX k (n:Int) l) R:=by
 have main:=dnw (n:=l.length) (P:=fun i=>∀ mp (sl:List az),qW n mp sl->(∀ t∈sl,OkT n (i*(K+1)) t)->NeL sl->sl.length<=i->(∀ m,lin m (tms sl)=lin m (tms (l.take i))) ->
  ∃ sl':List az,sl'.length<=l.length/\(∀ t∈sl',OkT n (l.length*(K+1)) t)/\NeL sl'/\(∀ m,lin m (tms sl')=lin m (tms l)) /\
   ∀ R,Ev (fun k=>aX.l1 k k sl' (sl'.length:Int) (0:Int) ((0:Int),[],()) (n:Int) ([]:List az)) R->Ev2 (fun k m=>aX.l0 k m (n:Int) mp l (l.length:Int) (i:Int) ((0:Int),[],()) sl) R) ?_ ?_ 0 (Nat.zero_le _) [] [] (qW.nil n) (fun t h=>by cases h) .nil (Nat.zero_le _) (fun m=>rfl)
 ·obtain ⟨sl,h1,h2,h3,h4,h5⟩:=main
  exact ⟨sl,h1,h2,h3,h4,fun R hR=>Ev.step (fun k=>qN k _ _) (h5 R hR).diag⟩
 ·intro mp sl h1 h2 h3 h4 h5
  rw [List.take_length] at h5
  exact ⟨sl,h4,h2,h3,h5,fun R hR=>Ev2.step (fun k m=>aX.bA k m _ _ _ _ _ _ _) (Ev2.bF (decide_eq_false F3) (Ev2.of hR))⟩
 intro i hi ih mp sl h1 h2 h3 h4 h5
 have e:(rdT (t:=ak) l (i:Int):az)=l[i]:=dg hi
 obtain ⟨o1,o2,o3⟩:=hok l[i] (List.getElem_mem hi)
 have hkey:=zO l[i].1 F3
 have htk:∀ m,lin m (tms (l.take (i+1)))=lin m (tms (l.take i))+lB l[i].2.1*m l[i].1:=fun m=>by
  rw [List.take_succ_eq_append_getElem hi,ky,G.iX]
  show _+(lB l[i].2.1*m l[i].1+0)=_
  grind
 have hKi:(i+1)*(K+1)=i*(K+1)+(K+1):=Nat.succ_mul _ _
 have big:(i+1)*(K+1)<=200000000:=Nat.le_trans (Nat.mul_le_mul_right _ F3) hK
 have next:∀ mp' sl' R,Ev2 (fun k m=>aX.l0 k m (n:Int) mp' l (l.length:Int) ((i+1:Nat):Int) ((0:Int),[],()) sl') R->Ev2 (fun k m=>aX.j0 k m (n:Int) mp' l (l.length:Int) (i:Int) ((0:Int),[],()) sl') R:=fun mp' sl' R h=>by
  show Ev2 (fun k m=>aX.l0 k m (n:Int) mp' l (l.length:Int) (wrap64 ((i:Int)+(1:Int))) ((0:Int),[],()) sl') R
  rw [nU F3]
  exact h
 obtain ⟨a1,a2⟩:=h1 l[i].1 o1 o2
 by_cases c:∃ j,∃ h:j<sl.length,sl[j].1=l[i].1
 ·obtain ⟨j,hj,hje⟩:=c
  have hm:uF mp (keyB l[i].1)=((j:Int),true,()):=by rw [Cf,a1 j hj hje]
  obtain ⟨p1,p2,p3⟩:=h2 sl[j] (List.getElem_mem hj)
  obtain ⟨v,v1,v2,v3⟩:=Ab p3.rb.1 o3.rb.1 p3.rb.2 o3.rb.2 F3
  have ej:(rdT (t:=ak) sl (j:Int):az)=sl[j]:=dg hj
  have hv:lB v=lB sl[j].2.1+lB l[i].2.1:=pn v2
  have q1:∀ t∈sl.set j (sl[j].1,v,sl[j].2.2),OkT n ((i+1)*(K+1)) t:=fun t ht=>by
   rcases List.mem_or_eq_of_mem_set ht with ht | rfl
   ·obtain ⟨b1,b2,b3⟩:=h2 t ht
    exact ⟨b1,b2,b3.mono F3⟩
   exact ⟨p1,p2,⟨_,v2,o9 aP v3 F3⟩⟩
  have q2:NeL (sl.set j (sl[j].1,v,sl[j].2.2)):=by
   rw [NeL,List.pairwise_iff_getElem]
   intro x y hx hy hxy
   have hp:=List.pairwise_iff_getElem.1 h3
   have es:∀ z (hz:z<(sl.set j (sl[j].1,v,sl[j].2.2)).length),(sl.set j (sl[j].1,v,sl[j].2.2))[z].1=(sl[z]'(by simpa using hz)).1:=fun z hz=>by
    rw [List.getElem_set]
    by_cases d:j=z
    ·subst d;rw [if_pos rfl]
    rw [if_neg d]
   rw [es x hx,es y hy]
   exact hp x y (by simpa using hx) (by simpa using hy) hxy
  have q3:∀ m,lin m (tms (sl.set j (sl[j].1,v,sl[j].2.2)))=lin m (tms (l.take (i+1))):=fun m=>by
   have hset:tms (sl.set j (sl[j].1,v,sl[j].2.2))=(tms sl).set j (sl[j].1,lB v):=by
    simp only [tms,List.map_set]
    rfl
   have hjl:j<(tms sl).length:=by simpa [tms] using hj
   have hat:(tms sl)[j]=vm sl[j]:=by simp [tms]
   rw [hset,Cn m (tms sl) j hjl _ (by rw [hat];rfl),hat,h5,htk]
   show _+(lB v-lB sl[j].2.1)*m sl[j].1=_
   rw [hv,hje]
   grind
  obtain ⟨sl',g1,g2,g3,g4,g5⟩:=ih mp (sl.set j (sl[j].1,v,sl[j].2.2)) (h1.set j _ (fun _=>rfl)) q1 q2 (by rw [List.length_set];omega) q3
  refine ⟨sl',g1,g2,g3,g4,fun R hR=>?_⟩
  refine Ev2.step (fun k m=>aX.bA k m _ _ _ _ _ _ _) (Ev2.bT (decide_eq_true F3) (Ev2.iT F3 ?_))
  rw [e]
  refine Ev2.bind hkey ?_
  rw [hm]
  refine Ev2.bF rfl (Ev2.iT F3 ?_)
  rw [ej]
  refine Ev2.bind v1 (Ev2.iT F3 (next _ _ _ ?_))
  rw [Int.toNat_natCast]
  exact g5 R hR
 have hno:∀ j (h:j<sl.length),sl[j].1≠l[i].1:=fun j h he=>c ⟨j,h,he⟩
 have hm:uF mp (keyB l[i].1)=(0,false,()):=by rw [Cf,a2 hno]
 have q1:∀ t∈sl++[l[i]],OkT n ((i+1)*(K+1)) t:=fun t ht=>by
  rw [List.mem_append,List.mem_singleton] at ht
  rcases ht with ht | rfl
  ·obtain ⟨b1,b2,b3⟩:=h2 t ht
   exact ⟨b1,b2,b3.mono F3⟩
  exact ⟨o1,o2,o3.mono F3⟩
 have q2:NeL (sl++[l[i]]):=by
  refine List.pairwise_append.2 ⟨h3,F4,fun a ha b hb=>?_⟩
  rw [List.mem_singleton] at hb
  subst hb
  obtain ⟨j,hj,rfl⟩:=List.getElem_of_mem ha
  exact hno j hj
 have q3:∀ m,lin m (tms (sl++[l[i]]))=lin m (tms (l.take (i+1))):=fun m=>by
  rw [ky,G.iX,h5,htk]
  show _+(lB l[i].2.1*m l[i].1+0)=_
  grind
 obtain ⟨sl',g1,g2,g3,g4,g5⟩:=ih (V.oL mp (keyB l[i].1) (sl.length:Int)) (sl++[l[i]]) (h1.add o1 o2 hno) q1 q2 (by simp;omega) q3
 refine ⟨sl',g1,g2,g3,g4,fun R hR=>?_⟩
 refine Ev2.step (fun k m=>aX.bA k m _ _ _ _ _ _ _) (Ev2.bT (decide_eq_true F3) (Ev2.iT F3 ?_))
 rw [e]
 refine Ev2.bind hkey ?_
 rw [hm]
 exact Ev2.bT rfl (Ev2.iT (by simp only [List.length_cons,List.length_nil];omega) (next _ _ _ (g5 R hR)))
theorem rF (m:Ex->Rat):∀ l:List az,lin m (tms (l.filter nzC))=lin m (tms l)
 | []=>rfl
 | t :: l=>by
  have ih:=rF m l
  cases h:nzC t with
  | true =>
   rw [List.filter_cons_of_pos h,lW,lW]
   show _*_+_=_*_+_
   rw [ih]
  | false =>
   rw [List.filter_cons_of_neg (by simp [h]),lW,ih]
   have hz:lB t.2.1=0:=by
    apply Classical.byContradiction
    intro hne
    rw [nzC,iN hne] at h
    cases h
   show _=lB t.2.1*m t.1+_
   rw [hz]
   grind
theorem qM {l:List az} (hn:n<=8) (hl:l.length<=100000) (hK:(l.length+1)*(K+1)<=200000000) (hok:∀ t∈l,OkT n K t) :
 ∃ ls:List az,Ev (fun k=>aX k (n:Int) l) ((n:Int),ls,())/\ls.length<=l.length/\(∀ t∈ls,OkT n (l.length*(K+1)) t)/\Srt n (tms ls)/\Eqv (tms ls) (tms l):=by
 obtain ⟨sl,h1,h2,h3,h4,h5⟩:=wY hn hl hK hok
 have hend:=wZ hn F3 h2 h3
 have hp:=iO (sl.filter nzC)
 have hfl:=List.length_filter_le nzC sl
 have hmem:∀ t∈iy (sl.filter nzC),t∈sl/\nzC t=true:=fun t ht=>List.mem_filter.1 (hp.mem_iff.1 ht)
 have hlen:∀ t∈sl.filter nzC,t.1.length=n:=fun t ht=>(h2 t (List.mem_filter.1 ht).1).1
 refine ⟨iy (sl.filter nzC),h5 _ hend,by rw [hp.length_eq];omega,fun t ht=>h2 t (hmem t ht).1,⟨?_,fun t ht=>?_,fun t ht=>?_⟩,fun m=>?_⟩
 ·have hf:=mT n (sl.filter nzC) hlen (h3.sublist List.filter_sublist)
  rw [tms,List.pairwise_map]
  refine hf.imp_of_mem (fun {a b} ha hb h=>?_)
  exact (gt_G ((h2 a (hmem a ha).1).1.trans (h2 b (hmem b hb).1).1.symm)).1 h
 ·obtain ⟨u,hu,rfl⟩:=List.mem_map.1 ht
  exact dc_iff.1 (hmem u hu).2
 ·obtain ⟨u,hu,rfl⟩:=List.mem_map.1 ht
  exact (h2 u (hmem u hu).1).1
 have h6:lin m (tms (iy (sl.filter nzC)))=lin m (tms (sl.filter nzC)):=G.my m (hp.map vm)
 rw [h6,rF,h4]
end
def exT (n:Nat) (a b:List Int) (j:Nat):List Int:=(List.range n).map fun i=>if i<j then a.getD i 0+b.getD i 0 else 0
theorem exT_zero (n:Nat) (a b:List Int):exT n a b 0=List.replicate n 0:=by
 apply List.ext_getElem (by simp [exT])
 intro i h1 h2
 simp [exT]
theorem exT_set {n:Nat} {a b:List Int} {j:Nat} (h:j<n):(exT n a b j).set j (a.getD j 0+b.getD j 0)=exT n a b (j+1):=by
 apply List.ext_getElem (by simp [exT])
 intro i h1 h2
 simp only [exT,List.getElem_set,List.getElem_map,List.getElem_range]
 by_cases c:j=i
 ·subst c;rw [if_pos rfl,if_pos F3]
 rw [if_neg c]
 by_cases d:i<j
 ·rw [if_pos d,if_pos F3]
 rw [if_neg d,if_neg F3]
theorem exT_full {n:Nat} {a b:List Int} (ha:a.length=n) (hb:b.length=n):exT n a b n=G.gF a b:=by
 apply List.ext_getElem (by simp [exT,G.gF,ha,hb])
 intro i h1 h2
 have hi:i<n:=by simpa [exT] using h1
 simp only [exT,List.getElem_map,List.getElem_range,G.gF,List.getElem_zipWith,if_pos hi]
 rw [List.getD_eq_getElem?_getD,List.getD_eq_getElem?_getD,List.getElem?_eq_getElem F3,List.getElem?_eq_getElem F3]
 rfl
section
variable {n K L:Nat}
theorem uq {l:List az} {t:az} (hn:n<=8) (hl:l.length<=100000) (hKL:K+L<1000000) (hok:∀ u∈l,OkT n K u) (ht:OkT n L t) (hb:∀ u∈l,∀ e∈G.gF u.1 t.1,0<=e/\e<256) :
 ∃ ls:List az,Ev (fun k=>bV k ((n:Int),l,()) t) ((n:Int),ls,())/\ls.length=l.length/\(∀ u∈ls,OkT n (K+L) u)/\tms ls=G.sft (tms l) (vm t):=by
 obtain ⟨t1,t2,t3⟩:=ht
 have main:=dnw (n:=l.length) (P:=fun i=>∀ acc:List az,acc.length=i->∃ ls:List az,ls.length=l.length-i/\(∀ u∈ls,OkT n (K+L) u)/\tms ls=G.sft (tms (l.drop i)) (vm t)/\Ev2 (fun k m=>bV.l0 k m l (l.length:Int) (i:Int) ((n:Int),l,()) t ((0:Int),[],()) (n:Int) acc) ((n:Int),acc++ls,())) ?_ ?_ 0 (Nat.zero_le _) [] rfl
 ·obtain ⟨ls,h1,h2,h3,h4⟩:=main
  exact ⟨ls,Ev.step (fun k=>ur k _ _) h4.diag,F3,h2,h3⟩
 ·intro acc hacc
  exact ⟨[],F4,(fun u h=>by cases h),by rw [List.drop_length];rfl,Ev2.step (fun k m=>bV.bA k m _ _ _ _ _ _ _ _) (Ev2.bF (decide_eq_false F3) (by rw [List.append_nil];exact Ev2.of (evs _)))⟩
 intro i hi ih acc hacc
 have e:(rdT (t:=ak) l (i:Int):az)=l[i]:=dg hi
 obtain ⟨o1,o2,o3⟩:=hok l[i] (List.getElem_mem hi)
 have hbi:=hb l[i] (List.getElem_mem hi)
 obtain ⟨v,v1,v2,v3⟩:=z8 o3.rb.1 t3.rb.1 o3.rb.2 t3.rb.2 F3
 obtain ⟨ls,h1,h2,h3,h4⟩:=ih (acc++[(G.gF l[i].1 t.1,v,())]) (by simp [hacc])
 refine ⟨(G.gF l[i].1 t.1,v,()) :: ls,by simp only [List.length_cons];omega,fun u hu=>?_,?_,?_⟩
 ·rcases List.mem_cons.1 hu with rfl | hu
  ·exact ⟨by rw [G.jB (o1.trans t1.symm)];exact o1,hbi,⟨_,v2,v3⟩⟩
  exact h2 u hu
 ·rw [gO hi,lW,lW,h3]
  show _ :: _=(G.gF l[i].1 t.1,lB l[i].2.1*lB t.2.1) :: _
  rw [vm,pn v2]
  rfl
 rw [show acc++(G.gF l[i].1 t.1,v,()) :: ls=(acc++[(G.gF l[i].1 t.1,v,())])++ls by simp]
 refine Ev2.step (fun k m=>bV.bA k m _ _ _ _ _ _ _ _) (Ev2.bT (decide_eq_true F3) (Ev2.iT F3 (Ev2.iT (by show (0:Int)<=(n:Int)/\(n:Int)<=(n:Int)/\8*(n:Int).toNat<=281474976710656/\(n:Int).toNat<=maxLen;unfold maxLen;omega) ?_)))
 rw [e]
 show Ev2 (fun k m0=>bV.l1 k k m0 l (l.length:Int) (i:Int) (List.length (List.replicate (Int.toNat (n:Int)) ((0:Int):Int)):Int) (0:Int) ((n:Int),l,()) t ((0:Int),[],()) (n:Int) acc l[i] (List.replicate (Int.toNat (n:Int)) ((0:Int):Int))) _
 rw [Int.toNat_natCast,List.length_replicate,<- exT_zero n l[i].1 t.1]
 have key:=dnw (n:=n) (P:=fun j=>Ev3 (fun k m1 m0=>bV.l1 k m1 m0 l (l.length:Int) (i:Int) (n:Int) (j:Int) ((n:Int),l,()) t ((0:Int),[],()) (n:Int) acc l[i] (exT n l[i].1 t.1 j)) ((n:Int),(acc++[(G.gF l[i].1 t.1,v,())])++ls,())) ?_ ?_ 0 (Nat.zero_le _)
 ·exact key.diag
 ·rw [exT_full o1 t1]
  refine Ev3.step (fun k m1 m0=>bV.dO k m1 m0 _ _ _ _ _ _ _ _ _ _ _ _) (Ev3.bF (decide_eq_false F3) (Ev3.bind v1 (Ev3.iT (by simp only [List.length_cons,List.length_nil];omega) (Ev3.of ?_))))
  rw [nU F3]
  exact h4
 intro j hj ihj
 have hel:(exT n l[i].1 t.1 j).length=n:=by simp [exT]
 have e1:(rdT (t:=(.int .i64)) l[i].1 (j:Int):Int)=l[i].1.getD j 0:=rfl
 have e2:(rdT (t:=(.int .i64)) t.1 (j:Int):Int)=t.1.getD j 0:=rfl
 have hjl:j<l[i].1.length:=F3
 have hjt:j<t.1.length:=F3
 have a1:=o2 _ (List.getElem_mem hjl)
 have a2:=t2 _ (List.getElem_mem hjt)
 have g1:l[i].1.getD j 0=l[i].1[j]:=by rw [List.getD_eq_getElem?_getD,List.getElem?_eq_getElem hjl];rfl
 have g2:t.1.getD j 0=t.1[j]:=by rw [List.getD_eq_getElem?_getD,List.getElem?_eq_getElem hjt];rfl
 refine Ev3.step (fun k m1 m0=>bV.dO k m1 m0 _ _ _ _ _ _ _ _ _ _ _ _) (Ev3.bT (decide_eq_true F3) (Ev3.iT F3 (Ev3.iT F3 (Ev3.iT F3 ?_))))
 rw [e1,e2,nU F3,w64 F3 F3,Int.toNat_natCast,exT_set hj]
 exact ihj
theorem zQ {l l':List az} (hn:n<=8) (hl:l.length<=60000) (hl':l'.length<=60000) (hll:l.length*l'.length<=60000) (hKL:K+L<3000) (hok:∀ u∈l,OkT n K u) (hok':∀ u∈l',OkT n L u) (hb:∀ u∈l',∀ t∈l,∀ e∈G.gF u.1 t.1,0<=e/\e<256) :
 ∃ ls:List az,Ev (fun k=>eT k ((n:Int),l,()) ((n:Int),l',())) ((n:Int),ls,())/\ls.length<=l.length*l'.length/\(∀ t∈ls,OkT n (l.length*l'.length*(L+K+1)) t)/\Srt n (tms ls)/\Eqv (tms ls) (G.prod (tms l) (tms l')):=by
 have hbig:∀ i,i<=l.length->i*l'.length<=60000:=fun i hi=>Nat.le_trans (Nat.mul_le_mul_right _ hi) hll
 have main:=dnw (n:=l.length) (P:=fun i=>∀ acc:List az,acc.length=i*l'.length->(∀ u∈acc,OkT n (L+K) u)->tms acc=G.prod (tms (l.take i)) (tms l') ->
  ∃ ac:List az,ac.length=l.length*l'.length/\(∀ u∈ac,OkT n (L+K) u)/\tms ac=G.prod (tms l) (tms l')/\∀ R,Ev (fun k=>aX k (n:Int) ac) R->Ev2 (fun k m=>eT.l0 k m l (l.length:Int) (i:Int) ((n:Int),l,()) ((n:Int),l',()) ((0:Int),[],()) acc) R) ?_ ?_ 0 (Nat.zero_le _) [] F4 (fun u h=>by cases h) rfl
 ·obtain ⟨ac,h1,h2,h3,h4⟩:=main
  obtain ⟨ls,g1,g2,g3,g4,g5⟩:=qM hn (by rw [h1];have:=hbig _ (Nat.le_refl _);omega) (by
   rw [h1]
   exact Nat.le_trans (Nat.mul_le_mul (show _<=60001 by have:=hbig _ (Nat.le_refl _);omega) (show L+K+1<=3000 by omega)) (by decide)) h2
  rw [h1] at g2 g3
  rw [h3] at g5
  exact ⟨ls,Ev.step (fun k=>zS k _ _) (h4 _ g1).diag,g2,g3,g4,g5⟩
 ·intro acc h1 h2 h3
  rw [List.take_length] at h3
  exact ⟨acc,h1,h2,h3,fun R hR=>Ev2.step (fun k m=>eT.bA k m _ _ _ _ _ _ _) (Ev2.bF (decide_eq_false F3) (Ev2.bind hR (Ev2.of (evs _))))⟩
 intro i hi ih acc h1 h2 h3
 have e:(rdT (t:=ak) l (i:Int):az)=l[i]:=dg hi
 obtain ⟨ls,s1,s2,s3,s4⟩:=uq (l:=l') (t:=l[i]) hn F3 F3 hok' (hok _ (List.getElem_mem hi)) (fun u hu=>hb u hu _ (List.getElem_mem hi))
 have hsz:=hbig (i+1) F3
 have hmul:(i+1)*l'.length=i*l'.length+l'.length:=Nat.succ_mul _ _
 obtain ⟨ac,a1,a2,a3,a4⟩:=ih (acc++ls) (by rw [List.length_append,h1,s2,hmul]) (fun u hu=>by
  rcases List.mem_append.1 hu with hu | hu
  ·exact h2 u hu
  ·exact s3 u hu) (by
  rw [ky,h3,s4,List.take_succ_eq_append_getElem hi,ky]
  simp only [G.prod,List.flatMap_append]
  show _=_++(G.sft (tms l') (vm l[i])++[])
  rw [List.append_nil])
 refine ⟨ac,a1,a2,a3,fun R hR=>?_⟩
 refine Ev2.step (fun k m=>eT.bA k m _ _ _ _ _ _ _) (Ev2.bT (decide_eq_true F3) (Ev2.iT F3 ?_))
 rw [e]
 refine Ev2.bind s1 (Ev2.iT (by show (acc.length+ls.length)*80<=_;omega) (Ev2.bF (decide_eq_false (by show ¬ ((acc++ls).length:Int)>65536;rw [List.length_append];omega) ) ?_))
 show Ev2 (fun k m=>eT.l0 k m l (l.length:Int) (wrap64 ((i:Int)+(1:Int))) ((n:Int),l,()) ((n:Int),l',()) ((0:Int),[],()) (acc++ls)) R
 rw [nU F3]
 exact a4 R hR
end
open Go.Proofs.YtfbgaddecbiimaaGreatDoor.G (oH)
noncomputable def vk (v:cD):Rat:=Rat.divInt (sg v.1 (vl RR v.2.1)) (vl RR v.2.2.1)
theorem pj {v:cD} {q:Rat} (h:RB RR v q):vk v=q:=by
 have h1:=rb_val h
 unfold vk
 rw [h.2.1.2.2,h.2.2.2.2]
 exact h1
def CoR (K:Nat) (v:cD):Prop:=∃ q,RB RR v q/\Sz RR K q
theorem CoR.rb {K:Nat} {v:cD} (h:CoR K v):RB RR v (vk v)/\Sz RR K (vk v):=by
 obtain ⟨q,h1,h2⟩:=h
 rw [pj h1]
 exact ⟨h1,h2⟩
theorem CoR.mono {K L:Nat} {v:cD} (h:CoR K v) (hk:K<=L):CoR L v:=by
 obtain ⟨q,h1,h2⟩:=h
 exact ⟨q,h1,o9 bf h2 hk⟩
noncomputable def tmR (n:Nat) (t:az):Tm:=(t.1.take n,vk t.2.1)
noncomputable def ga (n:Nat) (l:List az):List Tm:=l.map (tmR n)
def OkR (n K:Nat) (t:az):Prop:=t.1=iz (t.1.take n)/\(t.1.take n).length=n/\CoR K t.2.1
theorem OkR.mono {n K L:Nat} {t:az} (h:OkR n K t) (hk:K<=L):OkR n L t:=⟨h.1,h.2.1,h.2.2.mono hk⟩
theorem uv {x:List Int} (h:x.length=8):iz x=x:=by
 rw [iz,cV _ _ _ F3,h];simp
theorem OkR.len {n K:Nat} {t:az} (h:OkR n K t):t.1.length=8:=by rw [h.1];exact dS _ _ _
theorem zw {n K L:Nat} {r:List az} {e:List Int} {c:cD} {q:Rat} (hn:n<=8) (hr:r.length<=100000) (hK:K+L<1000000) (hok:∀ t∈r,OkR n K t) (he:e.length=n) (hc:RB RR c q) (hs:Sz RR L q) :
 ∃ r':List az,Ev (fun k=>bG k r (iz e) c) r'/\ga n r'=oH (ga n r) e q/\(∀ t∈r',OkR n (K+L+1) t)/\r'.length<=r.length+1:=by
 have hsg:=pg hc
 by_cases c0:q=0
 ·refine ⟨r,Ev.step (fun k=>gu k _ _ _) (Ev.bind hsg (bT (by rw [oD];exact decide_eq_true c0) (evs _))),by rw [oH,if_pos c0],fun t ht=>(hok t ht).mono F3,F3⟩
 have hsz:(sgn q==(0:Int))=false:=by rw [oD];exact decide_eq_false c0
 have ep:fj (0:Int) 8 (iz e)=iz e:=uv (dS _ _ _)
 have main:=dnw (n:=r.length) (P:=fun i=>(∀ j (h:j<r.length),j<i->r[j].1≠iz e)->∃ r':List az,Ev2 (fun k m=>bG.l0 k m (r.length:Int) (i:Int) r (iz e) c) r'/\ga n r'=oH (ga n r) e q/\(∀ t∈r',OkR n (K+L+1) t)/\r'.length<=r.length+1) ?_ ?_ 0 (Nat.zero_le _) (fun j _ h=>F3)
 ·obtain ⟨r',h1,h2,h3,h4⟩:=main
  exact ⟨r',Ev.step (fun k=>gu k _ _ _) (Ev.bind hsg (bF hsz h1.diag)),h2,h3,h4⟩
 ·intro hno
  refine ⟨r++[(iz e,c,())],Ev2.step (fun k m=>bG.bA k m _ _ _ _ _) (Ev2.bF (decide_eq_false F3) (Ev2.iT (by simp only [List.length_cons,List.length_nil];omega) (Ev2.of (evs _)))),?_,fun t ht=>?_,F4⟩
  ·rw [oH,if_neg c0]
   have hf:(ga n r).findIdx? (fun t=>t.1==e)=none:=by
    rw [List.findIdx?_eq_none_iff]
    intro t ht
    obtain ⟨u,hu,rfl⟩:=List.mem_map.1 ht
    obtain ⟨j,hj,rfl⟩:=List.getElem_of_mem hu
    rw [beq_eq_false_iff_ne]
    intro h
    refine hno j hj hj ?_
    rw [(hok _ hu).1]
    exact congrArg iz h
   rw [hf]
   show (r++[(iz e,c,())]).map (tmR n)=r.map (tmR n)++[(e,q)]
   rw [List.map_append]
   show _++[((iz e).take n,vk c)]=_
   rw [pj hc,<- he,eL F3]
  rcases List.mem_append.1 ht with ht | ht
  ·exact (hok t ht).mono F3
  rw [List.mem_singleton] at ht
  subst ht
  have h1:(iz e).take n=e:=by rw [<- he,eL F3]
  exact ⟨by show iz e=iz ((iz e).take n);rw [h1],by show ((iz e).take n).length=n;rw [h1,he],q,hc,o9 bf hs F3⟩
 intro i hi ih hno
 have er:(rdT (t:=af) r (i:Int):az)=r[i]:=dg hi
 obtain ⟨o1,o2,o3⟩:=hok r[i] (List.getElem_mem hi)
 have hl8:=(hok r[i] (List.getElem_mem hi)).len
 have epi:fj (0:Int) 8 r[i].1=r[i].1:=uv hl8
 by_cases c1:r[i].1=iz e
 ·obtain ⟨v,v1,v2,v3⟩:=zB o3.rb.1 hc o3.rb.2 hs F3
  have hsv:=pg v2
  have hxe:r[i].1.take n=e:=by rw [c1,<- he,eL F3]
  have hf:(ga n r).findIdx? (fun t=>t.1==e)=some i:=by
   rw [List.findIdx?_eq_some_iff_getElem]
   refine ⟨by simpa [ga] using hi,by simp [ga,tmR,hxe],fun j hj=>?_⟩
   have hj':j<r.length:=F3
   simp only [ga,tmR,List.getElem_map,beq_iff_eq]
   intro h
   refine hno j hj' hj ?_
   rw [(hok _ (List.getElem_mem hj')).1]
   exact congrArg iz h
  have hg:((ga n r).getD i ([],0)).2=vk r[i].2.1:=by simp [ga,tmR,List.getD_eq_getElem?_getD,hi]
  have w1:wrap64 ((r.length:Int)-1)=((r.length-1:Nat):Int):=by rw [w64 F3 F3];omega
  by_cases c2:vk r[i].2.1+q=0
  ·rw [c2] at hsv
   have hlast:r.length-1<r.length:=F3
   have el:(rdT (t:=af) r ((r.length-1:Nat):Int):az)=r[r.length-1]:=dg hlast
   refine ⟨(r.set i r[r.length-1]).take (r.length-1),?_,?_,fun t ht=>?_,by rw [List.length_take];omega⟩
   ·refine Ev2.step (fun k m=>bG.bA k m _ _ _ _ _) (Ev2.bT (decide_eq_true F3) (Ev2.iT F3 ?_))
    rw [er,epi,ep,c1]
    refine Ev2.bT F4 (Ev2.iT F3 (Ev2.bind v1 (Ev2.bind hsv (Ev2.bT rfl ?_))))
    rw [w1,el,Int.toNat_natCast,List.length_set,w1,Int.toNat_natCast]
    exact Ev2.iT F3 (Ev2.iT F3 (Ev2.iT F3 (Ev2.of (evs _))))
   ·rw [oH,if_neg c0,hf]
    dsimp only
    rw [if_pos (by rw [hg];exact c2)]
    have hll:(ga n r).length=r.length:=by simp [ga]
    rw [hll]
    have h2:(ga n r).getD (r.length-1) ([],0)=tmR n r[r.length-1]:=by simp [ga,List.getD_eq_getElem?_getD,hlast]
    rw [h2]
    simp only [ga,List.map_take,List.map_set]
   rcases List.mem_or_eq_of_mem_set (List.mem_of_mem_take ht) with h | rfl
   ·exact (hok t h).mono F3
   exact (hok _ (List.getElem_mem hlast)).mono F3
  have hne:(sgn (vk r[i].2.1+q)==(0:Int))=false:=by rw [oD];exact decide_eq_false c2
  refine ⟨r.set i (r[i].1,v,r[i].2.2),?_,?_,fun t ht=>?_,by rw [List.length_set];omega⟩
  ·refine Ev2.step (fun k m=>bG.bA k m _ _ _ _ _) (Ev2.bT (decide_eq_true F3) (Ev2.iT F3 ?_))
   rw [er,epi,ep]
   refine Ev2.bT (by simp [c1]) (Ev2.iT F3 (Ev2.bind v1 (Ev2.bind hsv (Ev2.bF hne (Ev2.iT F3 ?_)))))
   rw [Int.toNat_natCast]
   exact Ev2.of (evs _)
  ·rw [oH,if_neg c0,hf]
   dsimp only
   rw [if_neg (by rw [hg];exact c2),hg]
   simp only [ga,List.map_set]
   show _=(List.map (tmR n) r).set i (e,vk r[i].2.1+q)
   rw [show tmR n (r[i].1,v,r[i].2.2)=(e,vk r[i].2.1+q) by show (r[i].1.take n,vk v)=_;rw [hxe,pj v2]]
  rcases List.mem_or_eq_of_mem_set ht with h | rfl
  ·exact (hok t h).mono F3
  exact ⟨o1,o2,_,v2,v3⟩
 obtain ⟨r',h1,h2,h3,h4⟩:=ih (fun j hj hji=>by
  by_cases d:j=i
  ·subst d;exact c1
  exact hno j hj F3)
 refine ⟨r',Ev2.step (fun k m=>bG.bA k m _ _ _ _ _) (Ev2.bT (decide_eq_true F3) (Ev2.iT F3 ?_)),h2,h3,h4⟩
 rw [er,epi,ep]
 refine Ev2.bF (by simp [c1]) ?_
 rw [nU F3]
 exact h1
def exS (a b:List Int) (j:Nat):List Int:=(List.range 8).map fun i=>if i<j then a.getD i 0+b.getD i 0 else a.getD i 0
theorem exS_zero {a b:List Int} (ha:a.length=8):exS a b 0=a:=by
 apply List.ext_getElem (by simp [exS,ha])
 intro i h1 h2
 simp [exS,List.getD_eq_getElem?_getD,List.getElem?_eq_getElem h2]
theorem CT (a b:List Int) (j:Nat):(exS a b j).length=8:=by simp [exS]
theorem exS_get {a b:List Int} {j:Nat} (h:j<(exS a b j).length):(exS a b j)[j]=a.getD j 0:=by simp [exS]
theorem exS_set {a b:List Int} {j:Nat}:(exS a b j).set j (a.getD j 0+b.getD j 0)=exS a b (j+1):=by
 apply List.ext_getElem (by simp [exS])
 intro i h1 h2
 simp only [exS,List.getElem_set,List.getElem_map,List.getElem_range]
 by_cases c:j=i
 ·subst c;rw [if_pos rfl,if_pos F3]
 rw [if_neg c]
 by_cases d:i<j
 ·rw [if_pos d,if_pos F3]
 rw [if_neg d,if_neg F3]
theorem exS_full {a b:List Int} (ha:a.length=8) (hb:b.length=8):exS a b 8=G.gF a b:=by
 apply List.ext_getElem (by simp [exS,G.gF,ha,hb])
 intro i h1 h2
 have hi:i<8:=by simpa [exS] using h1
 simp only [exS,List.getElem_map,List.getElem_range,G.gF,List.getElem_zipWith,if_pos hi]
 rw [List.getD_eq_getElem?_getD,List.getD_eq_getElem?_getD,List.getElem?_eq_getElem F3,List.getElem?_eq_getElem F3]
 rfl
theorem BS {x y:List Int} (h:x.length=y.length) (hx:x.length<=8):G.gF (iz x) (iz y)=iz (G.gF x y):=by
 have hl:=G.jB h
 rw [iz,iz,iz,cV _ _ _ F3,cV _ _ _ F3,cV _ _ _ F3,hl]
 unfold G.gF
 rw [List.zipWith_append h,h]
 congr 1
 simp
theorem uf {n K L:Nat} {l:List az} {t:az} (hn:n<=8) (hl:l.length<=100000) (hKL:K+L<1000000) (hok:∀ u∈l,OkR n K u) (ht:OkR n L t) (hb:∀ u∈l,∀ j,-1000000<=u.1.getD j 0/\u.1.getD j 0<1000000) (hb':∀ j,-1000000<=t.1.getD j 0/\t.1.getD j 0<1000000) :
 ∃ ls:List az,Ev (fun k=>aS k l t) ls/\ls.length=l.length/\(∀ u∈ls,OkR n (K+L) u)/\ga n ls=G.sft (ga n l) (tmR n t):=by
 have t8:=ht.len
 obtain ⟨t1,t2,t3⟩:=ht
 have main:=dnw (n:=l.length) (P:=fun i=>∀ acc:List az,acc.length=i->∃ ls:List az,ls.length=l.length-i/\(∀ u∈ls,OkR n (K+L) u)/\ga n ls=G.sft (ga n (l.drop i)) (tmR n t)/\Ev2 (fun k m=>aS.l0 k m l (l.length:Int) (i:Int) t acc) (acc++ls)) ?_ ?_ 0 (Nat.zero_le _) [] rfl
 ·obtain ⟨ls,h1,h2,h3,h4⟩:=main
  exact ⟨ls,Ev.step (fun k=>jq k _ _) h4.diag,F3,h2,h3⟩
 ·intro acc hacc
  exact ⟨[],F4,(fun u h=>by cases h),by rw [List.drop_length];rfl,Ev2.step (fun k m=>aS.bA k m _ _ _ _ _) (Ev2.bF (decide_eq_false F3) (by rw [List.append_nil];exact Ev2.of (evs _)))⟩
 intro i hi ih acc hacc
 have e:(rdT (t:=af) l (i:Int):az)=l[i]:=dg hi
 have o8:=(hok l[i] (List.getElem_mem hi)).len
 obtain ⟨o1,o2,o3⟩:=hok l[i] (List.getElem_mem hi)
 have hbi:=hb l[i] (List.getElem_mem hi)
 obtain ⟨v,v1,v2,v3⟩:=zy o3.rb.1 t3.rb.1 o3.rb.2 t3.rb.2 F3
 obtain ⟨ls,h1,h2,h3,h4⟩:=ih (acc++[(G.gF l[i].1 t.1,v,())]) (by simp [hacc])
 have ha:G.gF l[i].1 t.1=iz (G.gF (l[i].1.take n) (t.1.take n)):=by
  rw [<- BS (o2.trans t2.symm) F3,<- o1,<- t1]
 have hal:(G.gF (l[i].1.take n) (t.1.take n)).length=n:=(G.jB (o2.trans t2.symm)).trans o2
 have htk:(G.gF l[i].1 t.1).take n=G.gF (l[i].1.take n) (t.1.take n):=by
  rw [ha]
  conv=>lhs;arg 1;rw [<- hal]
  exact eL F3
 refine ⟨(G.gF l[i].1 t.1,v,()) :: ls,by simp only [List.length_cons];omega,fun u hu=>?_,?_,?_⟩
 ·rcases List.mem_cons.1 hu with rfl | hu
  ·exact ⟨by show G.gF l[i].1 t.1=iz ((G.gF l[i].1 t.1).take n);rw [htk];exact ha,by show ((G.gF l[i].1 t.1).take n).length=n;rw [htk];exact hal,⟨_,v2,v3⟩⟩
  exact h2 u hu
 ·rw [gO hi]
  show tmR n _ :: ga n ls=G.sft (tmR n l[i] :: ga n (l.drop (i+1))) (tmR n t)
  rw [h3]
  show ((G.gF l[i].1 t.1).take n,vk v) :: _=(G.gF (l[i].1.take n) (t.1.take n),vk l[i].2.1*vk t.2.1) :: _
  rw [htk,pj v2]
  rfl
 rw [show acc++(G.gF l[i].1 t.1,v,()) :: ls=(acc++[(G.gF l[i].1 t.1,v,())])++ls by simp]
 refine Ev2.step (fun k m=>aS.bA k m _ _ _ _ _) (Ev2.bT (decide_eq_true F3) (Ev2.iT F3 ?_))
 rw [e]
 have key:=dnw (n:=8) (P:=fun j=>Ev3 (fun k m1 m0=>aS.l1 k m1 m0 l (l.length:Int) (i:Int) (j:Int) t acc l[i] (exS l[i].1 t.1 j)) ((acc++[(G.gF l[i].1 t.1,v,())])++ls)) ?_ ?_ 0 (Nat.zero_le _)
 ·rw [exS_zero o8] at key
  exact key.diag
 ·rw [exS_full o8 t8]
  refine Ev3.step (fun k m1 m0=>aS.dO k m1 m0 _ _ _ _ _ _ _ _) (Ev3.bF (decide_eq_false F3) (Ev3.bind v1 (Ev3.iT (by simp only [List.length_cons,List.length_nil];omega) (Ev3.of ?_))))
  rw [nU F3]
  exact h4
 intro j hj ihj
 have a1:=hbi j
 have a2:=hb' j
 have e1:rdA (0:Int) 8 (exS l[i].1 t.1 j) (j:Int)=l[i].1.getD j 0:=by
  rw [sF (CT _ _ _) hj];exact exS_get _
 have e2:rdA (0:Int) 8 t.1 (j:Int)=t.1.getD j 0:=by
  rw [sF t8 hj,List.getD_eq_getElem?_getD,List.getElem?_eq_getElem F3];rfl
 refine Ev3.step (fun k m1 m0=>aS.dO k m1 m0 _ _ _ _ _ _ _ _) (Ev3.bT (decide_eq_true F3) (Ev3.iT F3 (Ev3.iT F3 (Ev3.iT F3 ?_))))
 rw [e1,e2,nU F3,w64 F3 F3,stA_set (CT _ _ _) hj,exS_set]
 exact ihj
end Go.Proofs.YtfbgaddecbiimaaGreatDoor.Q
end
section
namespace Go.Proofs.YtfbgaddecbiimaaGreatDoor.G
def sr:Ex->Int
 | []=>0
 | a :: l=>a+sr l
theorem sq:∀ {a b:Ex},a.length=b.length->sr (gF a b)=sr a+sr b
 | [],[],_=>rfl
 | [],_ :: _,h=>by simp at h
 | _ :: _,[],h=>by simp at h
 | a :: l,b :: k,h=>by
  have ih:=sq (a:=l) (b:=k) (by simpa using h)
  simp only [gF] at ih
  simp only [gF,List.zipWith_cons_cons,sr,ih]
  omega
def deg:List Tm->Int
 | []=>-1
 | t :: l=>max (sr t.1) (deg l)
theorem deg_ge {d:Int}:∀ {p:List Tm},-1<=d->(∀ t∈p,sr t.1<=d)->deg p<=d
 | [],h,_=>h
 | t :: p,h,h'=>by
  have h1:=deg_ge (p:=p) h (fun u hu=>h' u (List.mem_cons_of_mem _ hu))
  have h2:=h' t (List.mem_cons_self ..)
  simp only [deg];omega
theorem rO:∀ (p:List Tm),-1<=deg p
 | []=>by simp [deg]
 | t :: p=>by have:=rO p;simp only [deg];omega
theorem co_ne {l:List Tm} {e:Ex} (h:co l e≠0):∃ t∈l,t.1=e:=by
 apply Classical.byContradiction
 intro c
 exact h (yN fun t ht e'=>c ⟨t,ht,e'⟩)
theorem Dst.from {n:Nat} {p r:List Tm} (h:Dst n p) (he:∀ e,co p e=co r e) {t:Tm} (ht:t∈p):∃ u∈r,u.1=t.1:=by
 apply co_ne
 rw [<- he,h.qn t ht]
 exact h.nz t ht
def Cz (D H:Int) (q:Rat):Prop:=∃ z:Int,q*(D:Rat)=(z:Rat)/\(z.natAbs:Int)<=H
theorem Cz.zero {D H:Int} (h:0<=H):Cz D H 0:=⟨0,F4,by simpa using h⟩
theorem Cz.mono {D H H':Int} {q:Rat} (h:Cz D H q) (hh:H<=H'):Cz D H' q:=let ⟨z,h1,h2⟩:=h;⟨z,h1,F3⟩
theorem Cz.add {D H H':Int} {a b:Rat} (h:Cz D H a) (h':Cz D H' b):Cz D (H+H') (a+b):=by
 obtain ⟨z,h1,h2⟩:=h
 obtain ⟨y,h3,h4⟩:=h'
 refine ⟨z+y,?_,F3⟩
 rw [Rat.intCast_add,<- h1,<- h3];grind
theorem Cz.size {D H:Int} {q:Rat} (hD:0<D) (h:Cz D H q):(q.den:Int)<=D/\(q.num.natAbs:Int)<=H:=by
 obtain ⟨z,h1,h2⟩:=h
 have hq:q=Rat.divInt z D:=by
  rw [Rat.divInt_eq_div,<- h1]
  have:(D:Rat)≠0:=by
   intro h
   have:=Rat.intCast_inj.1 (h.trans Rat.intCast_zero.symm)
   omega
  rw [Rat.div_def,Rat.mul_assoc,Rat.mul_inv_cancel _ this];grind
 have hg:D.gcd z≠0:=by
  intro h
  have:=Int.gcd_eq_zero_iff.1 h
  omega
 constructor
 ·rw [hq,Rat.den_divInt,if_neg F3]
  have:D.natAbs / D.gcd z<=D.natAbs:=Nat.div_le_self ..
  omega
 rw [hq,Rat.num_divInt,Int.sign_eq_one_of_pos hD,Int.one_mul]
 have:(z / (D.gcd z:Int)).natAbs<=z.natAbs:=by
  rw [Int.natAbs_ediv_of_dvd (Int.gcd_dvd_right ..)]
  exact Nat.div_le_self ..
 omega
def CL (D:Int):Int->List Tm->Prop
 | H,[]=>0<=H
 | H,t :: l=>∃ z:Int,t.2*(D:Rat)=(z:Rat)/\CL D (H-z.natAbs) l
theorem CL.mono {D:Int}:∀ {l:List Tm} {H H':Int},CL D H l->H<=H'->CL D H' l
 | [],H,H',h,hh=>Int.le_trans h hh
 | t :: l,H,H',⟨z,h1,h2⟩,hh=>⟨z,h1,h2.mono F3⟩
theorem CL.pos {D:Int}:∀ {l:List Tm} {H:Int},CL D H l->0<=H
 | [],H,h=>h
 | t :: l,H,⟨z,h1,h2⟩=>by have:=h2.pos;omega
theorem CL.append {D:Int}:∀ {p q:List Tm} {H H':Int},CL D H p->CL D H' q->CL D (H+H') (p++q)
 | [],q,H,H',h,h'=>h'.mono (by have:0<=H:=h;omega)
 | t :: p,q,H,H',⟨z,h1,h2⟩,h'=>⟨z,h1,(h2.append h').mono F3⟩
theorem CL.sft {D D' H':Int} {t:Tm} (ht:Cz D' H' t.2):∀ {p:List Tm} {H:Int},CL D H p->CL (D*D') (H*H') (sft p t)
 | [],H,h=>Int.mul_nonneg h (by obtain ⟨z,_,h2⟩:=ht;omega)
 | u :: p,H,⟨z,h1,h2⟩=>by
  have ih:=CL.sft ht h2
  obtain ⟨y,h3,h4⟩:=ht
  refine ⟨z*y,?_,ih.mono ?_⟩
  ·show u.2*t.2*_=_
   rw [Rat.intCast_mul,Rat.intCast_mul,<- h1,<- h3];grind
  rw [Int.natAbs_mul,Int.natCast_mul,Int.sub_mul]
  have:(z.natAbs:Int)*y.natAbs<=z.natAbs*H':=Int.mul_le_mul_of_nonneg_left h4 F3
  omega
theorem CL.prod {D D':Int} {q:List Tm}:∀ {p:List Tm} {H H':Int},CL D H p->CL D' H' q->CL (D*D') (H*H') (prod p q)
 | [],H,H',h,h'=>Int.mul_nonneg h h'.pos
 | t :: p,H,H',⟨z,h1,h2⟩,h'=>by
  have h3:Cz D (z.natAbs:Int) t.2:=⟨z,h1,Int.le_refl _⟩
  have h4:=CL.sft h3 h'
  rw [Int.mul_comm D' D] at h4
  have h5:=h4.append (CL.prod h2 h')
  exact h5.mono (by rw [Int.sub_mul,Int.mul_comm H'];omega)
theorem CL.co {D:Int} (e:Ex):∀ {p:List Tm} {H:Int},CL D H p->Cz D H (co p e)
 | [],H,h=>by rw [C9];exact Cz.zero h
 | t :: p,H,⟨z,h1,h2⟩=>by
  have ih:=CL.co e h2
  rw [qp]
  split
  ·exact (Cz.add ⟨z,h1,Int.le_refl _⟩ ih).mono F3
  refine (Cz.add (Cz.zero (H:=0) (Int.le_refl _)) ih).mono ?_
  omega
def canon (p acc:List Tm):List Tm:=p.foldl (fun acc t=>oH acc t.1 t.2) acc
theorem rU {n:Nat}:∀ {p acc:List Tm},Dst n acc->Len n p->Dst n (canon p acc)/\∀ m,lin m (canon p acc)=lin m acc+lin m p
 | [],acc,h,_=>⟨h,fun m=>by simp only [canon,List.foldl_nil,lin];grind⟩
 | t :: p,acc,h,hl=>by
  obtain ⟨h1,h2⟩:=BO (c:=t.2) h (hl t (List.mem_cons_self ..))
  obtain ⟨h3,h4⟩:=rU (p:=p) h1 (fun u hu=>hl u (List.mem_cons_of_mem _ hu))
  refine ⟨h3,fun m=>?_⟩
  show lin m (canon p (oH acc t.1 t.2))=_
  rw [h4,h2];simp only [lin];grind
end Go.Proofs.YtfbgaddecbiimaaGreatDoor.G
end
section
namespace Go.Proofs.YtfbgaddecbiimaaGreatDoor.Q
open Go.RowKit Go.Proofs.YtfbgaddecbiimaaGreatDoorW.PrintWords Go.Proofs.YtfbgaddecbiimaaGreatDoorW.PrintMore Go.Proofs.YtfbgaddecbiimaaGreatDoor.V Go.Proofs.YtfbgaddecbiimaaGreatDoor.E
open Go.Proofs.YtfbgaddecbiimaaGreatDoor.P (Dg Nm vl WW RR bC gI evs evk evb eR aP bK bf cM w64 u64)
open Go.Proofs.YtfbgaddecbiimaaGreatDoor.G (Ex Tm lin co Eqv Srt Dst oH)
theorem vR {n K L B:Nat} {l l':List az} (hn:n<=8) (hl:l.length<=100) (hl':l'.length<=100) (hB:B=l.length*l'.length) (hKL:(B+1)*(K+L+1)<1000000) (hok:∀ u∈l,OkR n K u) (hok':∀ u∈l',OkR n L u) (hb:∀ u∈l,∀ j,-1000000<=u.1.getD j 0/\u.1.getD j 0<1000000) (hb':∀ u∈l',∀ j,-1000000<=u.1.getD j 0/\u.1.getD j 0<1000000) :
 ∃ r:List az,Ev (fun k=>aW k l l') r/\ga n r=G.canon (G.prod (ga n l) (ga n l')) []/\(∀ t∈r,OkR n (B*(K+L+1)) t)/\r.length<=B:=by
 have hBs:B<=10000:=by rw [hB];exact Nat.mul_le_mul hl hl'
 have main:=dnw (n:=l.length) (P:=fun i=>∀ (acc:List az),acc.length<=i*l'.length->(∀ t∈acc,OkR n (i*l'.length*(K+L+1)) t)->∃ r:List az,Ev2 (fun k m=>aW.l0 k m l' l (l.length:Int) (i:Int) acc) r/\ga n r=G.canon (G.prod (ga n (l.drop i)) (ga n l')) (ga n acc)/\(∀ t∈r,OkR n (B*(K+L+1)) t)/\r.length<=B) ?_ ?_ 0 (Nat.zero_le _) [] F4 (fun t h=>by cases h)
 ·obtain ⟨r,h1,h2⟩:=main
  exact ⟨r,Ev.step (fun k=>j7 k _ _) h1.diag,h2⟩
 ·intro acc ha ho
  rw [<- hB] at ha ho
  exact ⟨acc,Ev2.step (fun k m=>aW.bA k m _ _ _ _ _) (Ev2.bF (decide_eq_false F3) (Ev2.of (evs _))),by rw [List.drop_length];rfl,ho,ha⟩
 intro i hi ih acc ha ho
 have hil:(i+1)*l'.length<=B:=by rw [hB];exact Nat.mul_le_mul_right _ hi
 have hsm:i*l'.length+l'.length=(i+1)*l'.length:=by rw [Nat.add_mul,Nat.one_mul]
 have e:(rdT (t:=af) l (i:Int):az)=l[i]:=dg hi
 have hKL1:K+L<1000000:=by
  have:=Nat.le_mul_of_pos_left (K+L+1) (show 0<B+1 by omega)
  omega
 obtain ⟨v,v1,v2,v3,v4⟩:=uf hn F3 (show L+K<1000000 by omega) hok' (hok l[i] (List.getElem_mem hi)) hb' (hb l[i] (List.getElem_mem hi))
 have key:=dnw (n:=v.length) (P:=fun j=>∀ (acc:List az),acc.length<=i*l'.length+j->(∀ t∈acc,OkR n ((i*l'.length+j)*(K+L+1)) t)->∃ r:List az,Ev3 (fun k m1 m0=>aW.l1 k m1 m0 l' l (l.length:Int) (i:Int) v (v.length:Int) (j:Int) acc) r/\ga n r=G.canon (ga n (v.drop j)++G.prod (ga n (l.drop (i+1))) (ga n l')) (ga n acc)/\(∀ t∈r,OkR n (B*(K+L+1)) t)/\r.length<=B) ?_ ?_ 0 (Nat.zero_le _) acc ha ho
 ·obtain ⟨r,h1,h2,h3⟩:=key
  refine ⟨r,Ev2.step (fun k m=>aW.bA k m _ _ _ _ _) (Ev2.bT (decide_eq_true F3) (Ev2.iT F3 ?_)),?_,h3⟩
  ·rw [e]
   exact Ev2.bind v1 h1.diag
  rw [h2,List.drop_zero,v4,gO hi]
  rfl
 ·intro acc ha ho
  rw [v2,hsm] at ha ho
  obtain ⟨r,h1,h2,h3⟩:=ih acc ha ho
  refine ⟨r,Ev3.step (fun k m1 m0=>aW.dO k m1 m0 _ _ _ _ _ _ _ _) (Ev3.bF (decide_eq_false F3) (Ev3.of ?_)),by rw [List.drop_length];exact h2,h3⟩
  rw [nU F3]
  exact h1
 intro j hj ihj acc ha ho
 have ej:(rdT (t:=af) v (j:Int):az)=v[j]:=dg hj
 obtain ⟨p1,p2,p3⟩:=v3 v[j] (List.getElem_mem hj)
 have hmm:(i*l'.length+j)*(K+L+1)+(L+K)+1=(i*l'.length+(j+1))*(K+L+1):=by
  rw [<- Nat.add_assoc (i*l'.length) j 1,Nat.add_mul (i*l'.length+j) 1 (K+L+1),Nat.one_mul];omega
 have hle:(i*l'.length+(j+1))*(K+L+1)<=(B+1)*(K+L+1):=Nat.mul_le_mul_right _ F3
 obtain ⟨r',q1,q2,q3,q4⟩:=zw (e:=v[j].1.take n) (c:=v[j].2.1) hn F3 F3 ho p2 p3.rb.1 p3.rb.2
 rw [<- p1] at q1
 rw [hmm] at q3
 obtain ⟨r,h1,h2,h3⟩:=ihj r' F3 q3
 refine ⟨r,Ev3.step (fun k m1 m0=>aW.dO k m1 m0 _ _ _ _ _ _ _ _) (Ev3.bT (decide_eq_true F3) (Ev3.iT F3 ?_)),?_,h3⟩
 ·rw [ej]
  refine Ev3.bind q1 ?_
  rw [nU F3]
  exact h1
 rw [h2,gO hj,q2]
 rfl
theorem relP_of {n K:Nat} {l:List az} (hok:∀ u∈l,OkT n K u):RelP n ((n:Int),l,()) (tms l) where
 n_:=rfl
 len:=by simp [tms]
 at_:=fun i h=>by
  have hi:i<l.length:=by simpa [tms] using h
  have e:tmA ((n:Int),l,()) i=l[i]:=dg hi
  have e2:(tms l)[i]=vm l[i]:=by simp [tms]
  rw [e,e2]
  exact ⟨rfl,((hok l[i] (List.getElem_mem hi)).2.2).rb.1⟩
theorem relR_of {n K:Nat} {r:List az} (hok:∀ u∈r,OkR n K u):RelR r (ga n r) K where
 len:=by simp [ga]
 at_:=fun i h=>by
  have hi:i<r.length:=by simpa [ga] using h
  have e:rtA r i=r[i]:=dg hi
  have e2:(ga n r)[i]=tmR n r[i]:=by simp [ga]
  rw [e,e2]
  obtain ⟨h1,h2,h3⟩:=hok r[i] (List.getElem_mem hi)
  exact ⟨h1,h3.rb.1,h3.rb.2⟩
theorem Is_of {n K L:Nat} {l r:List az} (hn:n<=8) (hok:∀ u∈l,OkT n K u) (hr:∀ u∈r,OkR n L u) (hf:FewW ((n:Int),l,())) (hL:L<1073741824) (hlen:r.length<=100000) (hs:Srt n (tms l)) (hd:Dst n (ga n r)) (he:Eqv (tms l) (ga n r)):Ev (fun k=>dP k ((n:Int),l,()) r (n:Int)) true :=
 zA hn (relP_of hok) (relR_of hr) hf hL (by simpa [ga] using hlen) hs hd he
theorem zM {x:List Int} (h:x.length<=8) (hb:∀ e∈x,0<=e/\e<=256):Ev (fun k=>eS k x) (sE x):=by
 have main:=dnw (n:=x.length) (P:=fun i=>Ev2 (fun k m=>eS.l0 k m (sE (x.take i)) x (x.length:Int) (i:Int)) (sE x)) ?_ ?_ 0 (Nat.zero_le _)
 ·exact Ev.step (fun k=>zN k _) main.diag
 ·rw [List.take_length]
  exact Ev2.step (fun k m=>eS.bA k m _ _ _ _) (Ev2.bF (decide_eq_false F3) (Ev2.of (evs _)))
 intro i hi ih
 have e:(rdT (t:=(.int .i64)) x (i:Int):Int)=x[i]:=dg hi
 have b1:=oE (B:=256) F3 (l:=x.take i) (fun y hy=>hb y (List.mem_of_mem_take hy))
 have b2:=hb x[i] (List.getElem_mem hi)
 have b3:(x.take i).length<=8:=by rw [List.length_take];omega
 refine Ev2.step (fun k m=>eS.bA k m _ _ _ _) (Ev2.bT (decide_eq_true F3) (Ev2.iT F3 ?_))
 rw [e,nU F3,w64 F3 F3,<- jS hi]
 exact ih
def dgM (l:List az) (a:Int):Int:=l.foldl (fun a t=>mx a (sE t.1)) a
theorem gJ {n K:Nat} {l:List az} (hn:n<=8) (hl:l.length<=100000) (hok:∀ u∈l,OkT n K u):Ev (fun k=>cT k ((n:Int),l,())) (dgM l (-1)):=by
 have main:=dnw (n:=l.length) (P:=fun i=>∀ a,Ev2 (fun k m=>cT.l0 k m a l (l.length:Int) (i:Int)) (dgM (l.drop i) a)) ?_ ?_ 0 (Nat.zero_le _) (-1)
 ·exact Ev.step (fun k=>sL k _) main.diag
 ·intro a
  rw [List.drop_length]
  exact Ev2.step (fun k m=>cT.bA k m _ _ _ _) (Ev2.bF (decide_eq_false F3) (Ev2.of (evs _)))
 intro i hi ih a
 have e:(rdT (t:=ak) l (i:Int):az)=l[i]:=dg hi
 obtain ⟨o1,o2,o3⟩:=hok l[i] (List.getElem_mem hi)
 have hs:=zM (x:=l[i].1) F3 (fun y hy=>by have:=o2 y hy;omega)
 refine Ev2.step (fun k m=>cT.bA k m _ _ _ _) (Ev2.bT (decide_eq_true F3) (Ev2.iT F3 ?_))
 rw [e,gO hi]
 refine Ev2.bind hs ?_
 rw [nU F3]
 exact ih _
theorem wi {n K:Nat} {l:List az} (hn:n<=8) (hl:l.length<=100000) (hK:K<1073741824) (hok:∀ u∈l,OkT n K u):Ev (fun k=>fy k ((n:Int),l,())) ((n:Int),l,()):=by
 have main:=dnw (n:=l.length) (P:=fun i=>Ev2 (fun k m=>fy.l0 k m l (l.length:Int) (i:Int) ((n:Int),l,()) ((0:Int),[],()) (n:Int) (l.take i)) ((n:Int),l,())) ?_ ?_ 0 (Nat.zero_le _)
 ·exact Ev.step (fun k=>wj k _) main.diag
 ·rw [List.take_length]
  exact Ev2.step (fun k m=>fy.bA k m _ _ _ _ _ _ _) (Ev2.bF (decide_eq_false F3) (Ev2.of (evs _)))
 intro i hi ih
 have e:(rdT (t:=ak) l (i:Int):az)=l[i]:=dg hi
 obtain ⟨o1,o2,o3⟩:=hok l[i] (List.getElem_mem hi)
 have hc:=wC o3.rb.1 o3.rb.2 hK
 have hz:(List.replicate (Int.toNat (0:Int)) ((0:Int):Int))=[]:=rfl
 refine Ev2.step (fun k m=>fy.bA k m _ _ _ _ _ _ _) (Ev2.bT (decide_eq_true F3) (Ev2.iT F3 (Ev2.iT (by show (0:Int)<=0/\(0:Int)<=(n:Int)/\8*(n:Int).toNat<=281474976710656/\(n:Int).toNat<=maxLen;unfold maxLen;omega) ?_)))
 rw [e,hz]
 refine Ev2.iT (by simp only [List.length_nil];omega) (Ev2.bind hc (Ev2.iT (by simp only [List.length_cons,List.length_nil,List.length_take];omega) ?_))
 rw [nU F3,List.nil_append]
 rw [show l.take i++[(l[i].1,l[i].2.1,())]=l.take (i+1) by rw [List.take_succ_eq_append_getElem hi]]
 exact ih
def exB (n:Nat) (x:List Int) (j:Nat):List Int:=(List.range n).map fun i=>if i<j then (if i<x.length then x.getD i 0 % 24 else 0) else 0
theorem iM (n:Nat) (x:List Int) (j:Nat):(exB n x j).length=n:=by simp [exB]
theorem exB_zero (n:Nat) (x:List Int):exB n x 0=List.replicate n 0:=by
 apply List.ext_getElem (by simp [exB])
 intro i h1 h2
 simp [exB]
theorem exB_set {n:Nat} {x:List Int} {j:Nat} (h:j<x.length):(exB n x j).set j (x.getD j 0 % 24)=exB n x (j+1):=by
 apply List.ext_getElem (by simp [exB])
 intro i h1 h2
 simp only [exB,List.getElem_set,List.getElem_map,List.getElem_range]
 by_cases c:j=i
 ·subst c;rw [if_pos rfl,if_pos F3,if_pos h]
 rw [if_neg c]
 by_cases d:i<j
 ·rw [if_pos d,if_pos (show i<j+1 by omega)]
 rw [if_neg d,if_neg (show ¬ i<j+1 by omega)]
theorem yG {n:Nat} {x:List Int} {j:Nat} (h:¬ j<x.length):exB n x j=exB n x (j+1):=by
 apply List.ext_getElem (by simp [exB])
 intro i h1 h2
 simp only [exB,List.getElem_map,List.getElem_range]
 by_cases c:i<x.length
 ·rw [if_pos (show i<j by omega),if_pos (show i<j+1 by omega)]
 rw [if_neg c,ite_self,ite_self]
theorem ql {n:Nat} {x:List Int} {j:Nat}:∀ e∈exB n x j,0<=e/\e<24:=by
 intro e h
 obtain ⟨i,_,rfl⟩:=List.mem_map.1 h
 split
 ·split<;>omega
 omega
theorem u7 {n:Nat} {x:List Int} {j:Nat} (hj:j<n):sE ((exB n x (j+1)).take (j+1))=sE ((exB n x j).take j)+(if j<x.length then x.getD j 0 % 24 else 0):=by
 rw [jS (by rw [iM];exact hj)]
 congr 1
 ·congr 1
  apply List.ext_getElem (by simp [exB])
  intro i h1 h2
  have hi:i<j:=by simp [exB] at h1;omega
  simp only [exB,List.getElem_take,List.getElem_map,List.getElem_range]
  rw [if_pos hi,if_pos F3]
 simp only [exB,List.getElem_map,List.getElem_range]
 rw [if_pos F3]
theorem one_sp {n:Nat} {x:List Int} (hn:n<=8) (hx:∀ e∈x,0<=e/\e<256) {c d:cD} (hc:Ev (fun k=>eo k) c) (hd:Ev (fun k=>cH k c) d) :
 Ev (fun k=>aR k (n:Int) x) (((n:Int),[(exB n x n,d,())],()),sE (exB n x n),()):=by
 have main:=dnw (n:=n) (P:=fun j=>Ev2 (fun k m=>aR.l0 k m (n:Int) x (sE ((exB n x j).take j)) (n:Int) (j:Int) ((0:Int),[],()) d (exB n x j)) (((n:Int),[(exB n x n,d,())],()),sE (exB n x n),())) ?_ ?_ 0 (Nat.zero_le _)
 ·refine Ev.step (fun k=>ki k _ _) (iT (by show (0:Int)<=(n:Int)/\(n:Int)<=(n:Int)/\8*(n:Int).toNat<=281474976710656/\(n:Int).toNat<=maxLen;unfold maxLen;omega) (Ev.bind hc (Ev.bind hd ?_)))
  rw [Int.toNat_natCast,List.length_replicate,<- exB_zero n x]
  exact main.diag
 ·have ht:(exB n x n).take n=exB n x n:=List.take_of_length_le (by rw [iM];omega)
  rw [ht]
  exact Ev2.step (fun k m=>aR.bA k m _ _ _ _ _ _ _ _) (Ev2.bF (decide_eq_false F3) (Ev2.of (evs _)))
 intro j hj ih
 have hs:=u7 (x:=x) hj
 have b1:=oE (B:=24) F3 (l:=(exB n x j).take j) (fun y hy=>by have:=ql y (List.mem_of_mem_take hy);omega)
 have b3:((exB n x j).take j).length<=8:=by rw [List.length_take];omega
 by_cases c1:j<x.length
 ·have e:(rdT (t:=(.int .u8)) x (j:Int):Int)=x[j]:=dg c1
  have e':x[j]=x.getD j 0:=by rw [List.getD_eq_getElem?_getD,List.getElem?_eq_getElem c1];rfl
  have b2:=hx x[j] (List.getElem_mem c1)
  rw [e'] at b2 e
  have et:wrap64 (Int.tmod (x.getD j 0) 24)=x.getD j 0 % 24:=by
   rw [Int.tmod_eq_emod_of_nonneg b2.1,w64 F3 F3]
  rw [if_pos c1] at hs
  refine Ev2.step (fun k m=>aR.bA k m _ _ _ _ _ _ _ _) (Ev2.bT (decide_eq_true F3) (Ev2.bT (decide_eq_true F3) ?_))
  rw [e,et,Int.toNat_natCast,exB_set c1]
  have el:(rdT (t:=(.int .i64)) (exB n x (j+1)) (j:Int):Int)=x.getD j 0 % 24:=by
   have hl:j<(exB n x (j+1)).length:=by rw [iM];exact hj
   rw [show (rdT (t:=(.int .i64)) (exB n x (j+1)) (j:Int):Int)=(exB n x (j+1))[j] from dg hl]
   simp only [exB,List.getElem_map,List.getElem_range]
   rw [if_pos F3,if_pos c1]
  rw [el]
  refine Ev2.iT F3 (Ev2.iT (by rw [iM];omega) (Ev2.iT (by rw [iM];omega) ?_))
  unfold aR.j0
  rw [nU F3,w64 F3 F3,<- hs]
  exact ih
 rw [if_neg c1] at hs
 refine Ev2.step (fun k m=>aR.bA k m _ _ _ _ _ _ _ _) (Ev2.bT (decide_eq_true F3) (Ev2.bF (decide_eq_false F3) ?_))
 unfold aR.j0
 rw [nU F3,yG c1,show sE ((exB n x (j+1)).take j)=sE ((exB n x (j+1)).take (j+1)) by rw [hs,<- yG c1];omega]
 exact ih
theorem B9 {p:bh} {n:Nat} (ha:ArgP p) (hv:jK p) (hn:p.1=(n:Int)):∃ r:List az,Ev (fun k=>bM k p) r/\r.length=p.2.1.length/\(∀ u∈r,OkR n 800 u)/\ga n r=tms p.2.1:=by
 obtain ⟨r,r1,r2,r3⟩:=ref_Of3 ha hv
 have hn8:n<=8:=by have:=hv.n8;omega
 have tl:∀ i,i<p.2.1.length->(tmA p i).1.length=n:=fun i hi=>by have:=(hv.good i hi).1.len;omega
 refine ⟨r,r1,r2,fun u hu=>?_,?_⟩
 ·obtain ⟨i,hi,rfl⟩:=List.getElem_of_mem hu
  obtain ⟨a1,q,a2,a3,a4,a5⟩:=r3 i hi
  have hl:=tl i F3
  have ht:r[i].1.take n=(tmA p i).1:=by rw [a1,<- hl];exact eL F3
  exact ⟨by rw [ht];exact a1,by rw [ht];exact hl,q,a3,a5⟩
 apply List.ext_getElem (by simp [ga,tms,r2])
 intro i h1 h2
 have hi:i<r.length:=by simpa [ga] using h1
 obtain ⟨a1,q,a2,a3,a4,a5⟩:=r3 i hi
 have hi':i<p.2.1.length:=F3
 have hl:=tl i hi'
 have e:tmA p i=p.2.1[i]:=dg hi'
 have ht:r[i].1.take n=(tmA p i).1:=by rw [a1,<- hl];exact eL F3
 simp only [ga,tms,List.getElem_map,tmR,vm]
 rw [ht,pj a3,<- e,pn a2]
theorem tO {n K:Nat} {l:List az} (hn:n<=8) (hl:l.length<=4000) (hK:K<=200) (hok:∀ u∈l,OkT n K u) (hs:Srt n (tms l)) (hd:∀ u∈l,sE u.1<=40) (hx:∀ u∈l,∀ e∈u.1,e<=40):jK ((n:Int),l,()) where
 n0:=by show (0:Int)<=(n:Int);omega
 n8:=by show (n:Int)<=8;omega
 few:=hl
 good:=fun i hi=>by
  have hi':i<l.length:=hi
  have e:tmA ((n:Int),l,()) i=l[i]:=dg hi'
  have hm:=List.getElem_mem hi'
  obtain ⟨o1,o2,o3⟩:=hok l[i] hm
  refine ⟨?_,fun h0=>?_⟩
  ·rw [e]
   refine ⟨by show (l[i].1.length:Int)=(n:Int);omega,fun x h=>⟨(o2 x h).1,hx l[i] hm x h⟩,hd l[i] hm,o3.mono hK,fun h=>?_⟩
   have hz:l[i].2.1.2.1=[]:=List.length_eq_zero_iff.1 h
   have hr:=o3.rb.1
   refine hs.nz (vm l[i]) (List.mem_map.2 ⟨_,hm,rfl⟩) ?_
   show lB l[i].2.1=0
   unfold lB
   rw [hz]
   simp [vl,sg]
  have hp:i-1<l.length:=F3
  have e1:tmA ((n:Int),l,()) (i-1)=l[i-1]:=dg hp
  rw [e,e1]
  have h:=List.pairwise_iff_getElem.1 hs.ord (i-1) i (by simpa [tms] using hp) (by simpa [tms] using hi') F3
  simp only [tms,List.getElem_map,vm] at h
  exact (gt_G ((hok _ (List.getElem_mem hp)).1.trans o1.symm)).2 h
abbrev p1 (n:Nat) (e:List Int) (d:cD):bh:=((n:Int),[(e,d,())],())
theorem p1_ok {n:Nat} {e:List Int} {d:cD} (he:e.length=n) (hb:∀ x∈e,0<=x/\x<24) (hd:DF 200 d):∀ u∈[((e,d,()):az)],OkT n 200 u:=by
 intro u hu
 rw [List.mem_singleton] at hu
 subst hu
 exact ⟨he,fun x hx=>by have:=hb x hx;omega,hd⟩
theorem BU {n:Nat} {e:List Int} {d:cD} (he:e.length=n) (h1:lB d≠0):Srt n (tms [((e,d,()):az)]) where
 ord:=List.pairwise_singleton ..
 nz:=fun t ht=>by
  have:t=vm (e,d,()):=by simpa [tms] using ht
  subst this;exact h1
 len:=fun t ht=>by
  have:t=vm (e,d,()):=by simpa [tms] using ht
  subst this;exact he
theorem p1_valid {n:Nat} {e:List Int} {d:cD} (hn:n<=8) (he:e.length=n) (hb:∀ x∈e,0<=x/\x<24) (hd:DF 200 d) (h1:lB d≠0):jK (p1 n e d)↔sE e<=40:=by
 constructor
 ·intro h
  exact (h.good 0 F4).1.sum
 intro h
 refine tO hn F4 (Nat.le_refl 200) (p1_ok he hb hd) (BU he h1) (fun u hu=>?_) (fun u hu x hx=>?_)
 ·rw [List.mem_singleton] at hu;subst hu;exact h
 rw [List.mem_singleton] at hu;subst hu;have:=hb x hx;omega
theorem one_told:∃ d:cD,DF 200 d/\lB d=1/\∀ {n:Nat} {x:List Int},n<=8->(∀ e∈x,0<=e/\e<256) ->
 Ev (fun k=>aR k (n:Int) x) (p1 n (exB n x n) d,sE (exB n x n),())/\(jK (p1 n (exB n x n) d)↔sE (exB n x n)<=40)/\(∀ u∈(p1 n (exB n x n) d).2.1,OkT n 200 u)/\Srt n (tms (p1 n (exB n x n) d).2.1):=by
 have h1:RB RR ((false,[1],[1],()):cD) 1:=rb_one cM
 obtain ⟨d,d1,d2⟩:=ue h1 (Be cM (K:=1) F3) F3
 have hd:DF 200 d:=⟨1,d2,Be bK F3⟩
 have hv:lB d=1:=pn d2
 have hne:lB d≠0:=by rw [hv];decide
 refine ⟨d,hd,hv,fun {n x} hn hx=>⟨one_sp hn hx zx d1,p1_valid hn (iM ..) ql hd hne,p1_ok (iM ..) ql hd,BU (iM ..) hne⟩⟩
end Go.Proofs.YtfbgaddecbiimaaGreatDoor.Q
end
section
namespace Go.Proofs.YtfbgaddecbiimaaGreatDoor.G
def val (x:List Rat) (p:List Tm):Rat:=lin (mv x) p
theorem sV:∀ {a b:Ex} {k:Int},(∀ k∈a,(0:Int)<=k)->(∀ k∈b,(0:Int)<=k)->k∈gF a b->0<=k
 | [],_,_,_,_,h=>by simp [gF] at h
 | _ :: _,[],_,_,_,h=>by simp [gF] at h
 | a :: l,b :: m,k,h1,h2,h=>by
  simp only [gF,List.zipWith_cons_cons,List.mem_cons] at h
  rcases h with e | e
  ·have:=h1 a (List.mem_cons_self ..)
   have:=h2 b (List.mem_cons_self ..)
   omega
  exact sV (fun k hk=>h1 k (List.mem_cons_of_mem _ hk)) (fun k hk=>h2 k (List.mem_cons_of_mem _ hk)) e
theorem mS:∀ {a:Ex},(∀ k∈a,(0:Int)<=k)->0<=sr a
 | [],_=>Int.le_refl _
 | a :: l,h=>by
  have:=h a (List.mem_cons_self ..)
  have:=mS (a:=l) (fun k hk=>h k (List.mem_cons_of_mem _ hk))
  simp only [sr];omega
abbrev WB:Int:=4294967296
theorem wb_le {a b:Nat} (h:a<=b):WB ^ a<=WB ^ b:=by
 rcases Nat.lt_or_ge a b with g | g
 ·exact Int.le_of_lt (Int.pow_lt_pow_of_lt (by decide) g)
 rw [Nat.le_antisymm h g];exact Int.le_refl _
theorem wb_pos (a:Nat):0<WB ^ a:=Int.pow_pos (by decide)
theorem wb_mul {a b:Nat} {x y:Int} (hx:x<=WB ^ a) (hy:y<=WB ^ b) (h0:0<=y):x*y<=WB ^ (a+b):=by
 rw [Int.pow_add]
 exact Int.mul_le_mul hx hy h0 (Int.le_of_lt (wb_pos a))
def CB (k:Nat) (l:List Tm):Prop:=∃ D H:Int,0<D/\D<=WB ^ k/\H<=WB ^ k/\CL D H l
theorem CB.mono {k j:Nat} {l:List Tm} (h:CB k l) (hj:k<=j):CB j l:=by
 obtain ⟨D,H,h0,h1,h2,h3⟩:=h
 exact ⟨D,H,h0,Int.le_trans h1 (wb_le hj),Int.le_trans h2 (wb_le hj),h3⟩
theorem CB.prod {a b:Nat} {p q:List Tm} (h:CB a p) (h':CB b q):CB (a+b) (prod p q):=by
 obtain ⟨D,H,h0,h1,h2,h3⟩:=h
 obtain ⟨D',H',g0,g1,g2,g3⟩:=h'
 exact ⟨D*D',H*H',Int.mul_pos h0 g0,wb_mul h1 g1 F3,wb_mul h2 g2 g3.pos,h3.prod g3⟩
def Wd (k:Nat) (c:Rat):Prop:=(c.num.natAbs:Int)<=WB ^ k/\(c.den:Int)<=WB ^ k
theorem Wd.cz {k:Nat} {c:Rat} (h:Wd k c):Cz (c.den:Int) (WB ^ k) c:=by
 refine ⟨c.num,?_,h.1⟩
 have h0:((c.den:Int):Rat)≠0:=by
  intro e
  have:=Rat.intCast_inj.1 (e.trans Rat.intCast_zero.symm)
  have:=c.den_pos
  omega
 have h1:=Rat.num_divInt_den c
 rw [Rat.divInt_eq_div] at h1
 generalize ((c.den:Int):Rat)=d at *
 generalize hn:(c.num:Rat)=m at *
 rw [<- h1,Rat.div_mul_cancel h0]
theorem CB.single {k:Nat} {t:Tm} (h:Wd k t.2):CB k [t]:=by
 obtain ⟨z,h1,h2⟩:=h.cz
 exact ⟨t.2.den,WB ^ k,by have:=t.2.den_pos;omega,h.2,Int.le_refl _,z,h1,by show (0:Int)<=_;omega⟩
theorem CB.co {k:Nat} {l:List Tm} (h:CB k l) (e:Ex):Wd k (co l e):=by
 obtain ⟨D,H,h0,h1,h2,h3⟩:=h
 obtain ⟨a,b⟩:=(CL.co e h3).size h0
 exact ⟨Int.le_trans b h2,Int.le_trans a h1⟩
theorem Dst.wd {n k:Nat} {p q:List Tm} (hp:Dst n p) (he:∀ e,G.co p e=G.co q e) (h:CB k q) {t:Tm} (ht:t∈p):Wd k t.2:=by
 rw [<- hp.qn t ht,he]
 exact h.co _
def XB (E:Int) (q:List Tm):Prop:=∀ t∈q,(∀ x∈t.1,(0:Int)<=x)/\sr t.1<=E
theorem XB.mono {E F:Int} {q:List Tm} (h:XB E q) (hF:E<=F):XB F q:=fun t ht=>⟨(h t ht).1,Int.le_trans (h t ht).2 hF⟩
theorem XB.prod {n:Nat} {E F:Int} {p q:List Tm} (lp:Len n p) (lq:Len n q) (h:XB E p) (h':XB F q):XB (E+F) (prod p q):=fun v hv=>by
 obtain ⟨t,ht,hv⟩:=List.mem_flatMap.1 hv
 obtain ⟨u,hu,rfl⟩:=List.mem_map.1 hv
 refine ⟨fun x hx=>sV (h' u hu).1 (h t ht).1 hx,?_⟩
 show sr (gF u.1 t.1)<=_
 rw [sq ((lq u hu).trans (lp t ht).symm)]
 have:=(h t ht).2
 have:=(h' u hu).2
 omega
theorem XB.of {n:Nat} {E:Int} {p r:List Tm} (h:Dst n p) (he:∀ e,co p e=co r e) (hr:XB E r):XB E p:=fun t ht=>by
 obtain ⟨u,hu,e⟩:=h.from he ht
 rw [<- e];exact hr u hu
theorem sZ:∀ {a:Ex} {x:Int},(∀ y∈a,(0:Int)<=y)->x∈a->x<=sr a
 | b :: a,x,h,hx=>by
  have hb:=h b (List.mem_cons_self ..)
  have hs:=mS (a:=a) fun y hy=>h y (List.mem_cons_of_mem _ hy)
  simp only [sr]
  rcases List.mem_cons.1 hx with e | e
  ·omega
  have:=sZ (fun y hy=>h y (List.mem_cons_of_mem _ hy)) e;omega
end Go.Proofs.YtfbgaddecbiimaaGreatDoor.G
end
section
namespace Go.Proofs.YtfbgaddecbiimaaGreatDoor.Q
open Go.RowKit Go.Proofs.YtfbgaddecbiimaaGreatDoorW.PrintWords Go.Proofs.YtfbgaddecbiimaaGreatDoorW.PrintMore Go.Proofs.YtfbgaddecbiimaaGreatDoor.V Go.Proofs.YtfbgaddecbiimaaGreatDoor.E
open Go.Proofs.YtfbgaddecbiimaaGreatDoor.P (Dg Nm vl WW RR bC gI evs evk evb eR aP bK bf cM w64 u64)
open Go.Proofs.YtfbgaddecbiimaaGreatDoor.G (Ex Tm lin co Eqv Srt Dst oH CB XB Wd Len WB)
structure PT (n K M:Nat) (q:List Tm) (l:List az):Prop where
 len:l.length<=M
 ok:∀ u∈l,OkT n K u
 srt:Srt n (tms l)
 eqv:Eqv (tms l) q
structure RT (n K M:Nat) (q:List Tm) (r:List az):Prop where
 len:r.length<=M
 ok:∀ u∈r,OkR n K u
 dst:Dst n (ga n r)
 eqv:Eqv (ga n r) q
theorem OkT.mono {n K L:Nat} {t:az} (h:OkT n K t) (hk:K<=L):OkT n L t:=⟨h.1,h.2.1,h.2.2.mono hk⟩
theorem jT:∀ a,sE a=G.sr a
 | []=>rfl
 | x :: a=>by rw [sE,G.sr,jT a]
theorem wd_sz {k:Nat} {c:Rat} (h:Wd k c):Sz WW (k+1) c:=by
 have:WB ^ k<WW ^ (k+1):=Int.pow_lt_pow_of_lt (by decide) F3
 exact ⟨Int.lt_of_le_of_lt h.1 this,Int.lt_of_le_of_lt h.2 this⟩
theorem wb_rr:∀ k:Nat,WB ^ k<=RR ^ (3*k)
 | 0=>by decide
 | k+1=>by
  have h:=wb_rr k
  have e:RR ^ (3*(k+1))=RR ^ (3*k)*RR ^ 3:=by rw [<- Int.pow_add];rfl
  rw [Int.pow_succ,e]
  exact Int.mul_le_mul h (by decide) (by decide) (Int.le_of_lt (Int.pow_pos (by decide)))
theorem wd_szR {k:Nat} {c:Rat} (h:Wd k c):Sz RR (3*k+1) c:=by
 have h1:=wb_rr k
 have h2:RR ^ (3*k)<RR ^ (3*k+1):=Int.pow_lt_pow_of_lt (by decide) F3
 exact ⟨by have:=h.1;omega,by have:=h.2;omega⟩
section
variable {n K M L N k:Nat} {q q':List Tm} {l r:List az} {E:Int}
theorem mR {u:az} (hu:u∈l):vm u∈tms l:=List.mem_map_of_mem hu
theorem xB {u:az} (hu:u∈r):tmR n u∈ga n r:=List.mem_map_of_mem hu
theorem PT.fit (h:PT n K M q l) (hc:CB k q):PT n (k+1) M q l:=⟨h.len,fun u hu=>by
 obtain ⟨o1,o2,o3⟩:=h.ok u hu
 exact ⟨o1,o2,lB u.2.1,o3.rb.1,wd_sz (h.srt.dst.wd (fun e=>h.eqv.co e) hc (mR hu))⟩,h.srt,h.eqv⟩
theorem RT.fit (h:RT n K M q r) (hc:CB k q):RT n (3*k+1) M q r:=⟨h.len,fun u hu=>by
 obtain ⟨o1,o2,o3⟩:=h.ok u hu
 exact ⟨o1,o2,vk u.2.1,o3.rb.1,wd_szR (h.dst.wd (fun e=>h.eqv.co e) hc (xB hu))⟩,h.dst,h.eqv⟩
theorem PT.xbq (h:PT n K M q l) (hx:XB E q):XB E (tms l):=XB.of h.srt.dst (fun e=>h.eqv.co e) hx
theorem RT.xbq (h:RT n K M q r) (hx:XB E q):XB E (ga n r):=XB.of h.dst (fun e=>h.eqv.co e) hx
theorem PT.xb (h:PT n K M q l) (hx:XB E q) {u:az} (hu:u∈l):(∀ x∈u.1,0<=x/\x<=E)/\sE u.1<=E:=by
 obtain ⟨a,b⟩:=h.xbq hx _ (mR hu)
 have b':G.sr u.1<=E:=b
 refine ⟨fun x hx'=>⟨a x hx',Int.le_trans (G.sZ a hx') b⟩,?_⟩
 rw [jT];exact b'
theorem OkR.bound {t:az} (h:OkR n K t) {B:Int} (hB:0<=B) (hn:n<=8) (hx:∀ x∈t.1.take n,0<=x/\x<=B) (j:Nat):0<=t.1.getD j 0/\t.1.getD j 0<=B:=by
 rw [h.1,iz,cV _ _ _ (by have:=h.2.1;omega),List.getD_eq_getElem?_getD]
 by_cases c:j<(t.1.take n++List.replicate (8-(t.1.take n).length) 0).length
 ·rw [List.getElem?_eq_getElem c]
  have hm:=List.getElem_mem c
  rw [Option.getD_some]
  rcases List.mem_append.1 hm with g | g
  ·exact hx _ g
  have:=List.eq_of_mem_replicate g
  omega
 rw [List.getElem?_eq_none F3]
 exact ⟨Int.le_refl _,hB⟩
theorem RT.bnd (h:RT n K M q r) (hx:XB E q) (hE:0<=E) (hn:n<=8) {u:az} (hu:u∈r) (j:Nat):0<=u.1.getD j 0/\u.1.getD j 0<=E:=by
 obtain ⟨a,b⟩:=h.xbq hx _ (xB hu)
 exact (h.ok u hu).bound hE hn (fun x hx'=>⟨a x hx',Int.le_trans (G.sZ a hx') b⟩) j
theorem okT_arg (hn:n<=8) {u:az} (h:OkT n K u):ArgM u:=by
 obtain ⟨o1,o2,o3⟩:=h
 have hr:=o3.rb.1
 exact ⟨F3,hr.2.1.1,hr.2.2.1,trivial,trivial⟩
theorem PT.arg (h:PT n K M q l) (hn:n<=8) (hM:M<=1000000000):ArgP ((n:Int),l,()):=⟨by have:=h.len;show l.length<=_;omega,fun u hu=>okT_arg hn (h.ok u hu)⟩
theorem PT.few (h:PT n K M q l) (hn:n<=8) (hM:M<=1000000000) (hK:K<=1000000000):FewW ((n:Int),l,()):=by
 refine ⟨by have:=h.len;show l.length<=_;omega,fun i hi=>?_⟩
 have hi':i<l.length:=hi
 have e:tmA ((n:Int),l,()) i=l[i]:=dg hi'
 obtain ⟨o1,o2,o3⟩:=h.ok _ (List.getElem_mem hi')
 obtain ⟨l1,l2⟩:=iA bK o3.rb.1 o3.rb.2
 rw [e]
 exact ⟨F3,F3,F3⟩
theorem PT.is (h:PT n K M q l) (g:RT n L N q' r) (he:Eqv q q') (hn:n<=8) (hM:M<=1000000000) (hN:N<=100000) (hK:K<=1000000000) (hL:L<1073741824):Ev (fun k=>dP k ((n:Int),l,()) r (n:Int)) true :=
 Is_of hn h.ok g.ok (h.few hn hM hK) hL (Nat.le_trans g.len hN) h.srt g.dst (h.eqv.trans (he.trans g.eqv.symm))
theorem PT.valid (h:PT n K M q l) (hn:n<=8) (hM:M<=4000) (hc:CB 199 q) (hx:XB 40 q):jK ((n:Int),l,()):=by
 have h':=h.fit hc
 exact tO hn (Nat.le_trans h.len hM) (Nat.le_refl 200) h'.ok h.srt (fun u hu=>(h.xb hx hu).2) (fun u hu e he=>((h.xb hx hu).1 e he).2)
theorem Au (h:PT n K M q l) (hn:n<=8) (hM:M<=4000) (hc:CB 199 q) (hx:XB 40 q):Ev (fun k=>iD k ((n:Int),l,())) (((n:Int),l,()),(0:Int),()):=by
 have e:=fw (h.arg hn F3)
 rw [iN (h.valid hn hM hc hx)] at e
 have hl:=h.len
 exact Ev.step (fun k=>pD k _) (Ev.bind e (bF rfl (Ev.bind (wi hn F3 F3 (h.fit hc).ok) (evs _))))
theorem pair_sp {p p':bh} (ha:ArgP p) (hb:ArgP p') (hp:jK p) (hq:jK p') (hn:p.1=p'.1):Ev (fun k=>me k p p') 0:=by
 have e1:=fw ha
 have e2:=fw hb
 rw [iN hp] at e1
 rw [iN hq] at e2
 exact Ev.step (fun k=>uo k _ _) (Ev.bind e1 (Ev.bind (a:=false) (bF rfl (Ev.bind e2 (evs _))) (bF rfl (bF (by simp [hn]) (evs _)))))
end
open Go.Proofs.YtfbgaddecbiimaaGreatDoor.G (deg)
theorem C1 (f:az->Tm):∀ (l:List az) (a:Int),-1<=a->(∀ t∈l,G.sr (f t).1=sE t.1)->dgM l a=max a (deg (l.map f))
 | [],a,ha,_=>by show a=max a (-1);omega
 | t :: l,a,ha,h=>by
  have e:=h t F4
  have ih:=C1 f l (mx a (sE t.1)) (by unfold mx;split<;>omega) fun u hu=>h u (by simp [hu])
  show dgM l (mx a (sE t.1))=max a (max (G.sr (f t).1) (deg (l.map f)))
  rw [ih,e]
  unfold mx
  split<;>omega
theorem C0 (l:List az):dgM l (-1)=deg (tms l):=by
 rw [C1 vm l (-1) F3 (fun t _=>(jT _).symm)]
 have:=G.rO (tms l)
 show max (-1) (deg (tms l))=_
 omega
section
variable {n K M L N k:Nat} {q q':List Tm} {l l' r:List az} {E F:Int}
theorem XB.deg (h:XB E q) (hE:-1<=E):deg q<=E:=G.deg_ge hE fun t ht=>(h t ht).2
theorem XB.pos (h:XB E q) {t:Tm} (ht:t∈q):0<=E:=Int.le_trans (G.mS (h t ht).1) (h t ht).2
theorem XB.gF (h:XB E q) (h':XB F q') (hq:Len n q) (hq':Len n q') {t u:Tm} (ht:t∈q) (hu:u∈q') {B:Int} (hB:E+F<B):∀ e∈G.gF u.1 t.1,0<=e/\e<B:=by
 intro e he
 have h0:∀ x∈G.gF u.1 t.1,(0:Int)<=x:=fun x hx=>G.sV (h' u hu).1 (h t ht).1 hx
 have h1:=G.sZ h0 he
 rw [G.sq ((hq' u hu).trans (hq t ht).symm)] at h1
 have:=(h t ht).2
 have:=(h' u hu).2
 exact ⟨h0 e he,F3⟩
theorem gt0 {l:List az} (h:l≠[]):decide ((List.length l:Int)>(0:Int))=true:=decide_eq_true (by have:=List.length_pos_iff.2 h;omega)
theorem Ca {l:List az} (h:l=[]):decide ((List.length l:Int)>(0:Int))=false:=by subst h;rfl
theorem wg (h:∀ u∈l,OkT n K u) (h':∀ u∈l',OkT n L u) (hn:n<=8) (hl:l.length<=100000) (hl':l'.length<=100000) (h0:l≠[]) (h0':l'≠[]) (hd:deg (tms l)+deg (tms l')>40) (hd1:deg (tms l)<=1000) (hd2:deg (tms l')<=1000):Ev (fun k=>iC k ((n:Int),l,()) ((n:Int),l',())) (((0:Int),[],()),(2:Int),()):=by
 have e1:=gJ hn hl h
 have e2:=gJ hn hl' h'
 rw [C0] at e1 e2
 have m1:=G.rO (tms l)
 have m2:=G.rO (tms l')
 refine Ev.step (fun k=>fv k _ _) (Ev.bind (a:=true) (bT (gt0 h0) (by rw [gt0 h0'];exact evs _)) (Ev.bind (a:=true) (bT rfl (Ev.bind e1 (Ev.bind e2 ?_))) (bT rfl (evs _))))
 rw [w64 F3 F3]
 exact evdT hd
theorem zR (h:PT n K M q l) (h':PT n L N q' l') (hx:XB E q) (hx':XB F q') (hq:Len n q) (hq':Len n q') (hn:n<=8) (hE:E+F<256) (hMN:M*N<=60000) (hM:M<=60000) (hN:N<=60000) (hKL:K+L<3000):∃ r,Ev (fun k=>eT k ((n:Int),l,()) ((n:Int),l',())) ((n:Int),r,())/\PT n (60000*(L+K+1)) (M*N) (G.prod q q') r:=by
 have hll:l.length*l'.length<=M*N:=Nat.mul_le_mul h.len h'.len
 obtain ⟨r,r1,r2,r3,r4,r5⟩:=zQ hn (Nat.le_trans h.len hM) (Nat.le_trans h'.len hN) (Nat.le_trans hll hMN) hKL h.ok h'.ok (fun u hu t ht=>XB.gF (h.xbq hx) (h'.xbq hx') h.srt.len h'.srt.len (mR ht) (mR hu) hE)
 exact ⟨r,r1,Nat.le_trans r2 hll,fun u hu=>(r3 u hu).mono (Nat.mul_le_mul_right _ (Nat.le_trans hll hMN)),r4,r5.trans (h.eqv.prod h'.eqv)⟩
theorem zL (h:PT n K M q l) (h':PT n L N q' l') (hx:XB E q) (hx':XB F q') (hq:Len n q) (hq':Len n q') (hn:n<=8) (hE:E+F<=40) (hMN:M*N<=4000) (hM:M<=4000) (hN:N<=4000) (hKL:K+L<3000) {j:Nat} (hc:CB j (G.prod q q')) (hj:j<=199):∃ r,Ev (fun k=>iC k ((n:Int),l,()) ((n:Int),l',())) (((n:Int),r,()),(0:Int),())/\PT n (j+1) (M*N) (G.prod q q') r:=by
 obtain ⟨r,r1,r2⟩:=zR h h' hx hx' hq hq' hn F3 F3 F3 F3 hKL
 have hlim:=Au r2 hn hMN (hc.mono hj) ((XB.prod hq hq' hx hx').mono hE)
 refine ⟨r,?_,r2.fit hc⟩
 have fin:Ev (fun k=>(eT k ((n:Int),l,()) ((n:Int),l',())).bind fun (v5:bh)=>(iD k v5).bind fun (v6:bh×Int×Unit)=>some (v6.1,v6.2.1,())) (((n:Int),r,()),(0:Int),()):=Ev.bind r1 (Ev.bind hlim (evs _))
 have l1:=h.len
 have l2:=h'.len
 by_cases c:l=[]
 ·exact Ev.step (fun k=>fv k _ _) (Ev.bind (a:=false) (bF (Ca c) (evs _)) (Ev.bind (a:=false) (bF rfl (evs _)) (bF rfl fin)))
 by_cases c':l'=[]
 ·exact Ev.step (fun k=>fv k _ _) (Ev.bind (a:=false) (bT (gt0 c) (by rw [Ca c'];exact evs _)) (Ev.bind (a:=false) (bF rfl (evs _)) (bF rfl fin)))
 have e1:=gJ hn F3 h.ok
 have e2:=gJ hn F3 h'.ok
 rw [C0] at e1 e2
 have m1:=G.rO (tms l)
 have m2:=G.rO (tms l')
 obtain ⟨u,hu⟩:=List.exists_mem_of_ne_nil l c
 obtain ⟨u',hu'⟩:=List.exists_mem_of_ne_nil l' c'
 have b1:=XB.deg (h.xbq hx) (by have:=XB.pos (h.xbq hx) (mR hu);omega)
 have b2:=XB.deg (h'.xbq hx') (by have:=XB.pos (h'.xbq hx') (mR hu');omega)
 refine Ev.step (fun k=>fv k _ _) (Ev.bind (a:=true) (bT (gt0 c) (by rw [gt0 c'];exact evs _)) (Ev.bind (a:=false) (bT rfl (Ev.bind e1 (Ev.bind e2 ?_))) (bF rfl fin)))
 rw [w64 F3 F3]
 exact evdF F3
theorem vS (h:RT n K M q l) (h':RT n L N q' l') (hx:XB E q) (hx':XB F q') (hE0:0<=E) (hF0:0<=F) (hE:E<1000000) (hF:F<1000000) (hn:n<=8) (hM:M<=100) (hN:N<=100) (hKL:(M*N+1)*(K+L+1)<1000000) {j:Nat} (hc:CB j (G.prod q q')):∃ r,Ev (fun k=>aW k l l') r/\RT n (3*j+1) (M*N) (G.prod q q') r:=by
 have hll:l.length*l'.length<=M*N:=Nat.mul_le_mul h.len h'.len
 obtain ⟨r,r1,r2,r3,r4⟩:=vR hn (Nat.le_trans h.len hM) (Nat.le_trans h'.len hN) rfl (Nat.lt_of_le_of_lt (Nat.mul_le_mul_right _ (Nat.succ_le_succ hll)) hKL) h.ok h'.ok (fun u hu j=>by have:=h.bnd hx hE0 hn hu j;omega) (fun u hu j=>by have:=h'.bnd hx' hF0 hn hu j;omega)
 have hlen:Len n (G.prod (ga n l) (ga n l')):=Len.prod h.dst.len h'.dst.len
 obtain ⟨c1,c2⟩:=G.rU (Dst.nil n) hlen
 rw [<- r2] at c1 c2
 have he:Eqv (ga n r) (G.prod q q'):=fun m=>by
  rw [c2]
  show 0+_=_
  rw [(h.eqv.prod h'.eqv) m]
  grind
 exact ⟨r,r1,RT.fit ⟨Nat.le_trans r4 hll,r3,c1,he⟩ hc⟩
end
theorem u8_of {x:Int} (h:(Lit.int .u8 x).wf=true):0<=x/\x<256:=by
 have h2:IntKind.u8.min=0:=rfl
 have h3:IntKind.u8.max=255:=rfl
 simp only [Lit.wf,Bool.and_eq_true,decide_eq_true_eq,h2,h3] at h
 omega
theorem limit_n {a:Int} (h:0<=a/\a<256):∃ n:Nat,1<=n/\n<=8/\wrap64 (Int.tmod (wrap64 a) 8+1)=(n:Int):=by
 refine ⟨(a % 8+1).toNat,F3,F3,?_⟩
 rw [w64 (x:=a) F3 F3,Int.tmod_eq_emod_of_nonneg h.1,w64 F3 F3]
 omega
theorem p1_pt {n:Nat} {e:List Int} {d:cD} (he:e.length=n) (hb:∀ x∈e,0<=x/\x<24) (hd:DF 200 d) (h1:lB d=1):PT n 1 1 [(e,1)] [(e,d,())]:=by
 have hr:=hd.rb.1
 rw [h1] at hr
 refine ⟨F4,fun u hu=>?_,BU he (by rw [h1];decide),?_⟩
 ·rw [List.mem_singleton] at hu
  subst hu
  exact ⟨he,fun x hx=>by have:=hb x hx;omega,1,hr,Be bK (Nat.le_refl 1)⟩
 show Eqv [(e,lB d)] [(e,1)]
 rw [h1]
 exact .refl _
theorem len1 {n:Nat} {e:Ex} {c:Rat} (he:e.length=n):Len n [(e,c)]:=fun t ht=>by
 rw [List.mem_singleton] at ht;subst ht;exact he
theorem xb1 {e:Ex} {c:Rat} (hb:∀ x∈e,0<=x/\x<24):XB (sE e) [(e,c)]:=fun t ht=>by
 rw [List.mem_singleton] at ht;subst ht
 exact ⟨fun x hx=>(hb x hx).1,by rw [jT];exact Int.le_refl _⟩
theorem wd_one:Wd 0 1:=⟨by decide,by decide⟩
theorem cb1 {e:Ex}:CB 0 [(e,1)]:=CB.single (t:=(e,1)) wd_one
theorem deg1 {e:Ex} {c:Rat} (hb:∀ x∈e,0<=x/\x<24):deg [(e,c)]=sE e:=by
 have:0<=sE e:=by rw [jT];exact G.mS fun x hx=>(hb x hx).1
 show max (G.sr e) (-1)=_
 rw [<- jT];omega
theorem Aw (n:Int) (a b:List Int) (hn:0<=n/\n<256) (ha:∀ e∈a,0<=e/\e<256) (hb:∀ e∈b,0<=e/\e<256):Ev (fun k=>dL k n a b) true:=by
 obtain ⟨m,m1,m8,hm⟩:=limit_n hn
 obtain ⟨d,d1,d2,d3⟩:=one_told
 obtain ⟨o1,o2,-⟩:=d3 m8 ha
 obtain ⟨q1,q2,-⟩:=d3 m8 hb
 have x1:=ql (n:=m) (x:=a) (j:=m)
 have x2:=ql (n:=m) (x:=b) (j:=m)
 have l1:=iM m a m
 have l2:=iM m b m
 refine Ev.step (fun k=>gM k n a b) (Ev.bind Dq (bF rfl ?_))
 rw [hm]
 refine Ev.bind o1 (Ev.bind q1 ?_)
 clear o1 q1 d3
 generalize exB m a m=e at *
 generalize exB m b m=f at *
 have p1:=p1_pt l1 x1 d1 d2
 have p2:=p1_pt l2 x2 d1 d2
 have a1:=p1.arg m8 F3
 have a2:=p2.arg m8 F3
 have v1:=fw a1
 have v2:=fw a2
 rw [show dc (jK ((m:Int),[((e,d,()):az)],()))=decide (sE e<=40) from (C2 (by rw [decide_eq_true_eq];exact o2.symm)).symm] at v1
 rw [show dc (jK ((m:Int),[((f,d,()):az)],()))=decide (sE f<=40) from (C2 (by rw [decide_eq_true_eq];exact q2.symm)).symm] at v2
 have both:∀ {g:Nat->Option Bool},Ev (fun k=>(bif true then
  (aZ k ((m:Int),[((e,d,()):az)],())).bind fun (v5:Bool) =>
  (bif v5==(decide (sE e<=(40:Int))) then (aZ k ((m:Int),[((f,d,()):az)],())).bind fun (v6:Bool) =>
  some (v6==(decide (sE f<=(40:Int)))) else some false).bind fun (b7:Bool) =>
  some b7 else g k)) true:=fun {g}=>by
  refine bT rfl (Ev.bind v1 (Ev.bind (a:=true) (bT (beq_self_eq_true _) (Ev.bind v2 ?_)) (evs _)))
  rw [beq_self_eq_true]
  exact evs _
 by_cases c1:sE e>40
 ·exact Ev.bind (a:=true) (bT (decide_eq_true c1) (evs _)) both
 by_cases c2:sE f>40
 ·exact Ev.bind (a:=true) (bF (decide_eq_false c1) (evdT c2)) both
 have w1:=o2.2 F3
 have w2:=q2.2 F3
 have hp:=pair_sp a1 a2 w1 w2 rfl
 have n1:0<=sE e:=by rw [jT];exact G.mS fun x hx=>(x1 x hx).1
 have n2:0<=sE f:=by rw [jT];exact G.mS fun x hx=>(x2 x hx).1
 have t1:tms [((e,d,()):az)]=[(e,1)]:=by show [(e,lB d)]=_;rw [d2]
 have t2:tms [((f,d,()):az)]=[(f,1)]:=by show [(f,lB d)]=_;rw [d2]
 refine Ev.bind (a:=false) (bF (decide_eq_false c1) (evdF c2)) (bF rfl ?_)
 by_cases c3:sE e+sE f>40
 ·have hl:=wg p1.ok p2.ok m8 F4 F4 F4 F4 (by rw [t1,t2,deg1 x1,deg1 x2];exact c3) (by rw [t1,deg1 x1];omega) (by rw [t2,deg1 x2];omega)
  refine Ev.bind (Ev.step (fun k=>pE k _ _) (Ev.bind hp (bF rfl (Ev.bind hl (evs _))))) (bT ?_ ?_)
  ·show decide (wrap64 (sE e+sE f)>40)=true
   rw [w64 F3 F3];exact decide_eq_true c3
  exact Ev.bind (a:=true) (bT rfl (Ev.bind none3_ev (evs _))) (evs _)
 obtain ⟨r,r1,r2⟩:=zL p1 p2 (xb1 x1) (xb1 x2) (len1 l1) (len1 l2) m8 F3 F3 F3 F3 F3 (cb1.prod cb1) F3
 obtain ⟨u,u1,u2,u3,u4⟩:=B9 a1 w1 rfl
 obtain ⟨u',u1',u2',u3',u4'⟩:=B9 a2 w2 rfl
 have g1:RT m 800 1 [(e,1)] u:=⟨by rw [u2];exact p1.len,u3,by rw [u4];exact p1.srt.dst,by rw [u4];exact p1.eqv⟩
 have g2:RT m 800 1 [(f,1)] u':=⟨by rw [u2'];exact p2.len,u3',by rw [u4'];exact p2.srt.dst,by rw [u4'];exact p2.eqv⟩
 obtain ⟨s,s1,s2⟩:=vS g1 g2 (xb1 x1) (xb1 x2) n1 n2 F3 F3 m8 F3 F3 F3 (cb1.prod cb1)
 have his:=r2.is s2 (.refl _) m8 F3 F3 F3 F3
 refine Ev.bind (Ev.step (fun k=>pE k _ _) (Ev.bind hp (bF rfl (Ev.bind r1 (evs _))))) (bF ?_ ?_)
 ·show decide (wrap64 (sE e+sE f)>40)=false
  rw [w64 F3 F3];exact decide_eq_false c3
 exact Ev.bind (a:=true) (bT rfl (Ev.bind u1 (Ev.bind u1' (Ev.bind s1 (Ev.bind his (evs _)))))) (evs _)
theorem qS (n:Int) (a b:List Int) (f0:DE (.int .u8) n) (f1:DE (.list (.int .u8)) a) (f2:DE (.list (.int .u8)) b):Ev (fun k=>dL k n a b) true:=Aw n a b (u8_of f0) (fun e he=>u8_of (f1.2 e he)) (fun e he=>u8_of (f2.2 e he))
end Go.Proofs.YtfbgaddecbiimaaGreatDoor.Q
end
section
namespace Go.Proofs.YtfbgaddecbiimaaGreatDoor.polyLimits
open Go.ChangeShapes Go.WideShapes Go.ChangeAt Go.RowKit
open Go.ChangeMaps (open_string shut_string)
open Go.Proofs.YtfbgaddecbiimaaGreatDoor.V Go.Proofs.YtfbgaddecbiimaaGreatDoor.E
theorem own:ownKnob Tryz.prog.godebug=none:=by kernel_rfl
theorem laidOut:laidOutB Tryz.prog=true:=by kernel_rfl
def AY:DataW Unit->Array Value
 | .agg l=>(l.map fun d=>match d with
  | .lit (.int k n)=>Value.int k n
  | _=>undef).toArray
 | _=>#[]
noncomputable def uJ (os:Os):World :=
 let w0:=World.holding Tryz.prog os ⟨#[],#[],[]⟩
 { w0 with heap:=((w0.heap.modify 2 fun
  | .cells _ t frozen=>.cells (AY Rows.laid_math_bits_deBruijn32tab) t frozen
  | o=>o).modify 3 fun
  | .cells _ t frozen=>.cells (AY Rows.laid_math_bits_deBruijn64tab) t frozen
  | o=>o).modify 0 fun
  | .cells _ t frozen=>.cells (AY Rows.laid_internal_strconv_uint64pow10) t frozen
  | o=>o }
theorem laid_met (os:Os) (args:Array Value):laidMet Tryz.prog Rows.polyLimitsRow.laid ((uJ os).forCall (fun _ _=>0) ⟨#[],args,[]⟩).memory :=
 laidMet_of_run' 8 (by kernel_rfl) (by kernel_rfl)
theorem lifted (os:Os) (started:os.Started) (H:Type) (enc:TypeId×Value->H) :
 ReturnsInHanded {} Tryz.checked os 4 .any (fun w args=>(Rows.polyLimitsSpec.pre enc Tryz.prog Tryz.f4 Rows.polyLimitsRow.domain false w args/\laidMet Tryz.prog Rows.polyLimitsRow.laid w)/\sizedMet enc Tryz.prog Tryz.f4 (OpenSpec.ofChange Rows.polyLimitsSpec) false w args)
  (Rows.polyLimitsSpec.post enc Tryz.prog Tryz.f4 false true false false):=by
 refine returnsInHanded_of_change_and (C:=Tryz.checked) (X:=fun w _=>laidMet Tryz.prog Rows.polyLimitsRow.laid w) (fun _ _ _ hh h=>h.of_heap hh) own started (by kernel_rfl) Tryz.func4
  (ChangeSpec.witness_at (enc:=enc) (C:=Tryz.checked) (os:=os) (X:=fun w _=>laidMet Tryz.prog Rows.polyLimitsRow.laid w) false (uJ os) #[.int .u8 0,.slice none 0 0,.slice none 0 0] 8 rfl (by kernel_rfl) (by kernel_rfl) (by kernel_rfl) (by kernel_rfl) (by kernel_rfl) (laid_met os _)) ?_
 intro W base args ds gs before hval0 hW _ hsz0 hL _
 have hval:∀ (j:Nat) t v,Tryz.f4.params[j]?=some t->args[j]?=some v->Value.okWide Tryz.prog W .any base t v:=hval0
 have hW':=hW
 obtain ⟨p,q,hA0,hV,rfl,hfz,hnd⟩:=hW
 have hA:DataW.TrodAll enc Tryz.prog W 0 (fun _=>true) true Tryz.f4.params.toList args.toList ds p:=hA0
 rw [Tryz.params4] at hA hval
 obtain ⟨v0,vs0,d0,ds0,p0,q0,hargs,rfl,rfl,h0,r0⟩:=trodAll_cons hA
 obtain ⟨v1,vs1,d1,ds1,p1,q1,rfl,rfl,rfl,h1,r1⟩:=trodAll_cons r0
 obtain ⟨v2,vs2,d2,ds2,p2,q2,rfl,rfl,rfl,h2,r2⟩:=trodAll_cons r1
 obtain ⟨rfl,rfl,rfl⟩:=trodAll_nil r2
 obtain rfl:args = #[v0,v1,v2]:=by cases args;simp_all
 obtain ⟨rfl,rfl⟩:=trodVars_none hV
 have k0:=h0
 have lt0:∀ x∈p0,x.block<W.heap.size:=by obtain ⟨m,hm⟩:=k0;exact DataW.trod_lt m _ _ _ hm
 obtain ⟨y0,f0,g0⟩:=xi Q.xC (n:=16) (t:=5) (c:=(.int .u8)) (by kernel_rfl) (by kernel_rfl) (hval 0 5 v0 rfl rfl) h0
 have k1:=h1
 have lt1:∀ x∈p1,x.block<W.heap.size:=by obtain ⟨m,hm⟩:=k1;exact DataW.trod_lt m _ _ _ hm
 obtain ⟨y1,f1,g1⟩:=xi Q.xC (n:=16) (t:=32) (c:=(.list (.int .u8))) (by kernel_rfl) (by kernel_rfl) (hval 1 32 v1 rfl rfl) h1
 have k2:=h2
 have lt2:∀ x∈p2,x.block<W.heap.size:=by obtain ⟨m,hm⟩:=k2;exact DataW.trod_lt m _ _ _ hm
 obtain ⟨y2,f2,g2⟩:=xi Q.xC (n:=16) (t:=32) (c:=(.list (.int .u8))) (by kernel_rfl) (by kernel_rfl) (hval 2 32 v2 rfl rfl) h2
 clear hA0 hval0 hsz0
 obtain ⟨k,hk⟩:=(Q.qS y0 y1 y2 (f0) (f1) (f2)).rounds
 obtain ⟨_,pv,hp,hF⟩:=(yB Q.xC orc_ok Q.mixed Q.noGo k).fn 4 [.v (.int .u8) y0,.v (.list (.int .u8)) y1,.v (.list (.int .u8)) y2] true rfl hk
 obtain rfl:=Option.some.inj hp
 refine (hF (fun b=>b<W.heap.size) W #[v0,v1,v2] (fun b h=>h) rfl (fun i h=>?_)).mono fun e W' ⟨v,he,bel,hv⟩=>?_
 ·match i,h with
  | 0,h=>exact g0
  | 1,h=>exact g1
  | 2,h=>exact g2
  | i+3,h=>exact absurd h (by simp only [List.length_map,List.length_cons,List.length_nil];omega)
 have hb:=fk hv
 subst hb
 subst he
 exact ⟨_,rfl,_,_,_,[],_,[],hW',trodAll_mk1 (shut_bool Tryz.underlying4 _),(trodAll_cons_mk (Below.trod laidOut (by kernel_rfl) (of_decide_eq_true (by kernel_rfl)) k0 bel lt0) (trodAll_cons_mk (Below.trod laidOut (by kernel_rfl) (of_decide_eq_true (by kernel_rfl)) k1 bel lt1) (trodAll_cons_mk (Below.trod laidOut (by kernel_rfl) (of_decide_eq_true (by kernel_rfl)) k2 bel lt2) trodAll_mk0))),rfl,bel.frame _,fun h=>by cases h⟩
theorem over:Rows.polyLimitsRow.holds Tryz.pinned (OpenSpec.ofChange Rows.polyLimitsSpec) :=
 OpenClaim.holds_of_wide 4 Tryz.f4 rfl rfl rfl rfl rfl rfl rfl ⟨rfl,rfl,rfl,rfl,rfl⟩ rfl rfl rfl rfl rfl (by kernel_rfl) Tryz.func4 (by kernel_rfl)
  (of_decide_eq_true (by kernel_rfl)) (by unfold Func.isWrapper;first | (rw [if_pos (by decide +kernel)];kernel_rfl) | (rw [if_neg (by decide +kernel)];exact ⟨rfl,rfl⟩))
  (fun os started H enc _=>lifted os started H enc)
theorem proved:Rows.PolyLimitsCardSaid :=
 Claim7.holds_tied_plain_at .later [] [.data,.data,.data] true (true,"7c1c4094e72754773423f799c4afd1ed3b246fc2b5dc0deefca3ede80156512f") false
  over (fun _ h=>by cases h) (by kernel_rfl) (fun _ h=>by cases h) polyLimits_row_tie rfl ⟨rfl,rfl⟩ (by kernel_rfl) rfl
  (fun f fn hf hfn=>by
   obtain rfl:f=4:=Option.some.inj ((show Tryz.prog.funcNamed "isochrone/isochronelaw03.PolyLimits" = some 4 by kernel_rfl).symm.trans hf) |>.symm
   obtain rfl:fn=Tryz.f4:=(Option.some.inj (Tryz.func4.symm.trans hfn)).symm
   exact ⟨by kernel_rfl,fun j t ht=>by
    rw [Tryz.params4] at ht
    have ht2:t=32∨t=5:=by
     match j,ht with
     | 0,ht=>simp at ht;subst ht;simp
     | 1,ht=>simp at ht;subst ht;simp
     | 2,ht=>simp at ht;subst ht;simp
     | j+3,ht=>simp at ht
    rcases ht2 with rfl | rfl
    ·exact (show Tryz.prog.wantsStandIn 32=false by kernel_rfl)
    exact (show Tryz.prog.wantsStandIn 5=false by kernel_rfl)⟩)
  (by kernel_rfl)
#print axioms proved
end Go.Proofs.YtfbgaddecbiimaaGreatDoor.polyLimits
namespace Go.Proofs.YtfbgaddecbiimaaGreatDoor
theorem polyLimits_holds:Rows.PolyLimitsCardSaid:=polyLimits.proved
end Go.Proofs.YtfbgaddecbiimaaGreatDoor
end
